/- The law 'WordNormal' of the plain functions. -/
import Derived.Test.YtnifconnkohabaaWordNormalD
set_option maxHeartbeats 1000000
set_option maxRecDepth 20000
set_option linter.unusedSimpArgs false
set_option linter.unusedVariables false
set_option linter.unusedSectionVars false
namespace Go.Proofs.Ytnifconnkohabaa.wordNormalW
open Go Go.Ab
/-- The answer is yes just if P. -/
def Tells (o : Option Bool) (P : Prop) : Prop := ∃ b, o = some b ∧ (b = true ↔ P)
theorem Tells.of {b : Bool} {P : Prop} (h : b = true ↔ P) : Tells (some b) P := ⟨b, rfl, h⟩
theorem Tells.dec {P Q : Prop} [Decidable P] (h : P ↔ Q) : Tells (some (decide P)) Q := ⟨_, rfl, by simpa using h⟩
theorem Tells.iff {o : Option Bool} {P Q : Prop} (h : Tells o P) (k : P ↔ Q) : Tells o Q := let ⟨b, h1, h2⟩ := h; ⟨b, h1, h2.trans k⟩
theorem Tells.eq {o : Option Bool} {P : Prop} [Decidable P] (h : Tells o P) : o = some (decide P) := by
 obtain ⟨b, rfl, hb⟩ := h
 by_cases hp : P
 ·simp [hp, hb.2 hp]
 ·have : b = false := by cases b; rfl; exact absurd (hb.1 rfl) hp
  simp [hp, this]
theorem Tells.to {R : Type} {o : Option Bool} {P : Prop} {k1 k2 x : Option R} (h : Tells o P) (h1 : P → k1 = x) (h2 : ¬ P → k2 = x) : (o.bind fun y => if y = true then k1 else k2) = x := by
 obtain ⟨b, rfl, hb⟩ := h
 refine bind_to rfl ?_
 cases b
 ·exact h2 fun hp => by simpa using hb.2 hp
 ·exact h1 (hb.1 rfl)
theorem Tells.bind {R : Type} {o : Option Bool} {P : Prop} {k : Bool → Option R} {x : Option R} (h : Tells o P) (h1 : ∀ b, (b = true ↔ P) → k b = x) : o.bind k = x := by
 obtain ⟨b, rfl, hb⟩ := h
 exact h1 b hb
section
variable {α C : Type} [Inhabited α]
theorem ex_ix {l : List α} {P : α → Prop} : (∃ x ∈ l, P x) ↔ ∃ i : Int, 0 ≤ i ∧ i < l.length ∧ P (ix l i) := by
 constructor
 ·rintro ⟨x, hx, hp⟩
  obtain ⟨i, hi, rfl⟩ := List.mem_iff_getElem.1 hx
  refine ⟨i, by omega, by omega, ?_⟩
  rwa [ix_eq (by omega) (by omega)]
 ·rintro ⟨i, h0, h1, hp⟩
  exact ⟨_, ix_mem h0 h1, hp⟩
theorem index_loop {s : List α} {f : α → Option Bool} {L : Int → Option Int} {P : α → Prop} (hs : s.length ≤ 4611686018427387904)
  (hL : ∀ t, L t = if decide (t < (s.length : Int)) = true then G (0 ≤ t ∧ t < (s.length : Int)) ((f (ix s t)).bind fun y => if y = true then some t else G (fits (t + 1)) (L (t + 1))) else some (-1))
  (hf : ∀ x ∈ s, Tells (f x) (P x)) : ∀ (n : Nat) (t : Int), 0 ≤ t → t ≤ s.length → (s.length - t).toNat = n →
   ∃ i, L t = some i ∧ ((i = -1 ∧ ∀ j : Int, t ≤ j → j < s.length → ¬ P (ix s j)) ∨ (t ≤ i ∧ i < s.length ∧ P (ix s i) ∧ ∀ j : Int, t ≤ j → j < i → ¬ P (ix s j))) := by
 intro n
 induction n with
 | zero =>
  intro t h0 h1 hn
  refine ⟨-1, ?_, .inl ⟨rfl, fun j a b => by omega⟩⟩
  rw [hL, if_neg (by simp; omega)]
 | succ n ih =>
  intro t h0 h1 hn
  rw [hL, if_pos (by simp; omega), G_pos (by omega)]
  obtain ⟨b, hb, hbp⟩ := hf _ (ix_mem h0 (by omega : t < s.length))
  rw [hb]
  cases b with
  | true => exact ⟨t, rfl, .inr ⟨by omega, by omega, hbp.1 rfl, fun j a b => by omega⟩⟩
  | false =>
   have hnp : ¬ P (ix s t) := fun hp => by simpa using hbp.2 hp
   obtain ⟨i, hi, hc⟩ := ih (t + 1) (by omega) (by omega) (by omega)
   refine ⟨i, ?_, ?_⟩
   ·refine (if_neg (by simp) : (if false = true then some t else G (fits (t + 1)) (L (t + 1))) = _).trans ?_
    rw [G_pos (by unfold fits; omega), hi]
   ·rcases hc with ⟨h2, h3⟩ | ⟨h2, h3, h4, h5⟩
    ·refine .inl ⟨h2, fun j a b => ?_⟩
     by_cases e : j = t
     ·rw [e]; exact hnp
     ·exact h3 j (by omega) b
    ·refine .inr ⟨by omega, h3, h4, fun j a b => ?_⟩
     by_cases e : j = t
     ·rw [e]; exact hnp
     ·exact h5 j (by omega) b
theorem contains_tells {s : List α} {f : α → Option Bool} {L : Int → Option Int} {P : α → Prop}
  (hL : ∀ t, L t = if decide (t < (s.length : Int)) = true then G (0 ≤ t ∧ t < (s.length : Int)) ((f (ix s t)).bind fun y => if y = true then some t else G (fits (t + 1)) (L (t + 1))) else some (-1))
  (hs : s.length ≤ 4611686018427387904) (hf : ∀ x ∈ s, Tells (f x) (P x)) : Tells ((L 0).bind fun y => some (decide ((0 : Int) ≤ y))) (∃ x ∈ s, P x) := by
 obtain ⟨i, hi, hc⟩ := index_loop hs hL hf _ 0 (by omega) (by omega) rfl
 rw [hi]
 refine ⟨decide (0 ≤ i), rfl, ?_⟩
 rw [decide_eq_true_iff, ex_ix]
 rcases hc with ⟨h2, h3⟩ | ⟨h2, h3, h4, h5⟩
 ·constructor
  ·intro h; omega
  ·rintro ⟨j, h0, h1, hp⟩; exact absurd hp (h3 j h0 h1)
 ·exact ⟨fun _ => ⟨i, by omega, h3, h4⟩, fun _ => by omega⟩
/-- .. of what carries along what it reads. -/
theorem contains_tells2 {s : List α} {c : C} {f : α → C → Option (Bool × C)} {L : Int → C → Option (Int × C)} {P : α → Prop}
  (hL : ∀ t c, L t c = if decide (t < (s.length : Int)) = true then G (0 ≤ t ∧ t < (s.length : Int)) ((f (ix s t) c).bind fun y => if y.1 = true then some (t, y.2) else G (fits (t + 1)) (L (t + 1) y.2)) else some (-1, c))
  (hs : s.length ≤ 4611686018427387904) (hf : ∀ x ∈ s, ∃ b, f x c = some (b, c) ∧ (b = true ↔ P x)) : ∃ b, ((L 0 c).bind fun y => some (decide ((0 : Int) ≤ y.1), y.2)) = some (b, c) ∧ (b = true ↔ ∃ x ∈ s, P x) := by
 have key : ∀ (n : Nat) (t : Int), 0 ≤ t → t ≤ s.length → (s.length - t).toNat = n →
   ∃ i, L t c = some (i, c) ∧ ((i = -1 ∧ ∀ j : Int, t ≤ j → j < s.length → ¬ P (ix s j)) ∨ (t ≤ i ∧ i < s.length ∧ P (ix s i))) := by
  intro n
  induction n with
  | zero =>
   intro t h0 h1 hn
   refine ⟨-1, ?_, .inl ⟨rfl, fun j a b => by omega⟩⟩
   rw [hL, if_neg (by simp; omega)]
  | succ n ih =>
   intro t h0 h1 hn
   rw [hL, if_pos (by simp; omega), G_pos (by omega)]
   obtain ⟨b, hb, hbp⟩ := hf _ (ix_mem h0 (by omega : t < s.length))
   rw [hb]
   cases b with
   | true => exact ⟨t, rfl, .inr ⟨by omega, by omega, hbp.1 rfl⟩⟩
   | false =>
    have hnp : ¬ P (ix s t) := fun hp => by simpa using hbp.2 hp
    obtain ⟨i, hi, hc⟩ := ih (t + 1) (by omega) (by omega) (by omega)
    refine ⟨i, ?_, ?_⟩
    ·refine (if_neg (by simp) : (if false = true then some (t, c) else G (fits (t + 1)) (L (t + 1) c)) = _).trans ?_
     rw [G_pos (by unfold fits; omega), hi]
    ·rcases hc with ⟨h2, h3⟩ | ⟨h2, h3, h4⟩
     ·refine .inl ⟨h2, fun j a b => ?_⟩
      by_cases e : j = t
      ·rw [e]; exact hnp
      ·exact h3 j (by omega) b
     ·exact .inr ⟨by omega, h3, h4⟩
 obtain ⟨i, hi, hc⟩ := key _ 0 (by omega) (by omega) rfl
 rw [hi]
 refine ⟨decide (0 ≤ i), rfl, ?_⟩
 rw [decide_eq_true_iff, ex_ix]
 rcases hc with ⟨h2, h3⟩ | ⟨h2, h3, h4⟩
 ·constructor
  ·intro h; omega
  ·rintro ⟨j, h0, h1, hp⟩; exact absurd hp (h3 j h0 h1)
 ·exact ⟨fun _ => ⟨i, by omega, h3, h4⟩, fun _ => by omega⟩
end
/-- A loop that looks for the first fault. -/
theorem scan_to {R : Type} {len : Int} {L : Int → Option R} {bad : Int → Prop} {x : Option R} {lo : Int} (h0 : lo ≤ len)
  (hs : ∀ t, lo ≤ t → t < len → (bad t → L t = x) ∧ (¬ bad t → L t = L (t + 1))) (hf : (∀ t, lo ≤ t → t < len → ¬ bad t) → L len = x) : L lo = x := by
 have key : ∀ (n : Nat) (t : Int), lo ≤ t → t ≤ len → (len - t).toNat = n → (∀ j, lo ≤ j → j < t → ¬ bad j) → L t = x := by
  intro n
  induction n with
  | zero =>
   intro t h1 h2 hn h
   obtain rfl : t = len := by omega
   exact hf h
  | succ n ih =>
   intro t h1 h2 hn h
   by_cases hb : bad t
   ·exact (hs t h1 (by omega)).1 hb
   ·rw [(hs t h1 (by omega)).2 hb]
    refine ih (t + 1) (by omega) (by omega) (by omega) fun j a b => ?_
    by_cases e : j = t
    ·rw [e]; exact hb
    ·exact h j a (by omega)
 exact key _ lo (Int.le_refl _) h0 rfl (fun j a b => by omega)
/-- A loop that counts, with a state. -/
theorem fold_to {R S : Type} {len : Int} {L : Int → S → Option R} {f : Int → S → S} {lo : Int} {I : Int → S → Prop} {s : S} (h0 : lo ≤ len) (hI : I lo s)
  (hs : ∀ t s, lo ≤ t → t < len → I t s → L t s = L (t + 1) (f t s) ∧ I (t + 1) (f t s)) : ∃ s', I len s' ∧ L lo s = L len s' := by
 have key : ∀ (n : Nat) (t : Int) (s : S), lo ≤ t → t ≤ len → (len - t).toNat = n → I t s → ∃ s', I len s' ∧ L t s = L len s' := by
  intro n
  induction n with
  | zero =>
   intro t s h1 h2 hn h
   obtain rfl : t = len := by omega
   exact ⟨s, h, rfl⟩
  | succ n ih =>
   intro t s h1 h2 hn h
   obtain ⟨e, h3⟩ := hs t s h1 (by omega) h
   obtain ⟨s', h4, h5⟩ := ih (t + 1) _ (by omega) (by omega) (by omega) h3
   exact ⟨s', h4, e.trans h5⟩
 exact key _ lo s (Int.le_refl _) h0 rfl hI

theorem r1_May_L6_spec {letters : Int} {w : List Int} (hL : 1 ≤ letters ∧ letters ≤ 4) (hw : w.length ≤ (60 : Int)) : ∀ (n : Nat) (i : Int), 0 ≤ i → i ≤ w.length → (w.length - i).toNat = n → (∀ j : Int, 0 ≤ j → j < i → 0 ≤ ix w j ∧ ix w j < letters) → r1_May_L6 letters w i = some (mayE letters w) := by
 intro n
 induction n with
 | zero =>
  intro i h0 h1 hn h
  rw [r1_May_L6_eq]; unfold r1_May_L6_B
  (try dsimp only); (repeat' first | (with_reducible refine G_to ?_ ?_; focus (first | omega | (unfold fits; omega) | (unfold room; (try simp only [List.length_append, List.length_cons, List.length_nil]); omega))) | (with_reducible refine both_to ?_ ?_) | (with_reducible refine itet_to ?_) | (with_reducible refine itef_to ?_) | (with_reducible refine ite_to (fun _ => ?_) (fun _ => ?_))) <;> try (exfalso; omega)
  ·rw [mayE_ok hL hw (fun j a b => h j a (by omega))]
 | succ n ih =>
  intro i h0 h1 hn h
  rw [r1_May_L6_eq]; unfold r1_May_L6_B
  (try dsimp only); (repeat' first | (with_reducible refine G_to ?_ ?_; focus (first | omega | (unfold fits; omega) | (unfold room; (try simp only [List.length_append, List.length_cons, List.length_nil]); omega))) | (with_reducible refine both_to ?_ ?_) | (with_reducible refine itet_to ?_) | (with_reducible refine itef_to ?_) | (with_reducible refine ite_to (fun _ => ?_) (fun _ => ?_))) <;> try (exfalso; omega)
  ·rw [mayE_bad hL hw (i := i) (by omega) (by omega)]
  ·rw [mayE_bad hL hw (i := i) (by omega) (by omega)]
  ·exact ih _ (by omega) (by omega) (by omega) (below_succ h (by omega))
theorem r1_May_spec {letters : Int} {w : List Int} : r1_May letters w = some (mayE letters w) := by
 unfold r1_May
 (try dsimp only); (repeat' first | (with_reducible refine G_to ?_ ?_; focus (first | omega | (unfold fits; omega) | (unfold room; (try simp only [List.length_append, List.length_cons, List.length_nil]); omega))) | (with_reducible refine both_to ?_ ?_) | (with_reducible refine itet_to ?_) | (with_reducible refine itef_to ?_) | (with_reducible refine ite_to (fun _ => ?_) (fun _ => ?_))) <;> try (exfalso; omega)
 ·rw [mayE_range (by omega)]
 ·rw [mayE_range (by omega)]
 ·rw [mayE_size (by omega) (by omega)]
 ·exact r1_May_L6_spec (by omega) (by omega) _ 0 (by omega) (by omega) rfl (fun j a b => by omega)

theorem word_May_L6_spec {letters : Int} {w : List Int} (hL : 1 ≤ letters ∧ letters ≤ 4) (hw : w.length ≤ (60 : Int)) : ∀ (n : Nat) (i : Int), 0 ≤ i → i ≤ w.length → (w.length - i).toNat = n → (∀ j : Int, 0 ≤ j → j < i → 0 ≤ ix w j ∧ ix w j < letters) → word_May_L6 letters w i = some (mayE letters w) := by
 intro n
 induction n with
 | zero =>
  intro i h0 h1 hn h
  rw [word_May_L6_eq]; unfold word_May_L6_B
  (try dsimp only); (repeat' first | (with_reducible refine G_to ?_ ?_; focus (first | omega | (unfold fits; omega) | (unfold room; (try simp only [List.length_append, List.length_cons, List.length_nil]); omega))) | (with_reducible refine both_to ?_ ?_) | (with_reducible refine itet_to ?_) | (with_reducible refine itef_to ?_) | (with_reducible refine ite_to (fun _ => ?_) (fun _ => ?_))) <;> try (exfalso; omega)
  ·rw [mayE_ok hL hw (fun j a b => h j a (by omega))]
 | succ n ih =>
  intro i h0 h1 hn h
  rw [word_May_L6_eq]; unfold word_May_L6_B
  (try dsimp only); (repeat' first | (with_reducible refine G_to ?_ ?_; focus (first | omega | (unfold fits; omega) | (unfold room; (try simp only [List.length_append, List.length_cons, List.length_nil]); omega))) | (with_reducible refine both_to ?_ ?_) | (with_reducible refine itet_to ?_) | (with_reducible refine itef_to ?_) | (with_reducible refine ite_to (fun _ => ?_) (fun _ => ?_))) <;> try (exfalso; omega)
  ·rw [mayE_bad hL hw (i := i) (by omega) (by omega)]
  ·rw [mayE_bad hL hw (i := i) (by omega) (by omega)]
  ·exact ih _ (by omega) (by omega) (by omega) (below_succ h (by omega))
theorem word_May_spec {letters : Int} {w : List Int} : word_May letters w = some (mayE letters w) := by
 unfold word_May
 (try dsimp only); (repeat' first | (with_reducible refine G_to ?_ ?_; focus (first | omega | (unfold fits; omega) | (unfold room; (try simp only [List.length_append, List.length_cons, List.length_nil]); omega))) | (with_reducible refine both_to ?_ ?_) | (with_reducible refine itet_to ?_) | (with_reducible refine itef_to ?_) | (with_reducible refine ite_to (fun _ => ?_) (fun _ => ?_))) <;> try (exfalso; omega)
 ·rw [mayE_range (by omega)]
 ·rw [mayE_range (by omega)]
 ·rw [mayE_size (by omega) (by omega)]
 ·exact word_May_L6_spec (by omega) (by omega) _ 0 (by omega) (by omega) rfl (fun j a b => by omega)

noncomputable def lasE (letters : Int) (l : List Int × List Int × Unit) : Int := if mayE letters l.1 = 0 then (if mayE letters l.2.1 = 0 then (if l.2.1.length = 0 then 1 else 0) else mayE letters l.2.1) else mayE letters l.1
theorem r1_Lasso_spec {letters : Int} {l : List Int × List Int × Unit} : r1_Lasso letters l = some (lasE letters l) := by
 unfold r1_Lasso lasE
 refine bind_to r1_May_spec ?_
 by_cases h1 : mayE letters l.1 = 0
 ·rw [if_pos h1, if_neg (by simp [h1])]
  refine bind_to r1_May_spec ?_
  by_cases h2 : mayE letters l.2.1 = 0
  ·rw [if_pos h2, if_neg (by simp [h2])]
   by_cases h3 : l.2.1.length = 0
   ·rw [if_pos (by simp [h3]), if_pos h3]
   ·rw [if_neg (by simp only [decide_eq_true_eq]; omega), if_neg h3]
  ·rw [if_neg h2, if_pos (by simp [h2])]
 ·rw [if_neg h1, if_pos (by simp [h1])]
theorem word_Lasso_spec {letters : Int} {l : List Int × List Int × Unit} : word_Lasso letters l = some (lasE letters l) := by
 unfold word_Lasso lasE
 rw [word_Lasso_L2_eq]; unfold word_Lasso_L2_B
 rw [if_pos (by decide), G_pos (by decide)]
 refine bind_to word_May_spec ?_
 have e0 : vget (.list (.int .i64)) 2 (l.1, (l.2.1, ())) (0 : Int).toNat = l.1 := rfl
 have e1 : vget (.list (.int .i64)) 2 (l.1, (l.2.1, ())) ((0 : Int) + 1).toNat = l.2.1 := rfl
 rw [e0]
 by_cases h1 : mayE letters l.1 = 0
 ·rw [if_pos h1, if_neg (by simp [h1]), G_pos (by unfold fits; omega), word_Lasso_L2_eq]; unfold word_Lasso_L2_B
  rw [if_pos (by decide), G_pos (by decide), e1]
  refine bind_to word_May_spec ?_
  by_cases h2 : mayE letters l.2.1 = 0
  ·rw [if_pos h2, if_neg (by simp [h2]), G_pos (by unfold fits; omega), word_Lasso_L2_eq]; unfold word_Lasso_L2_B
   rw [if_neg (by decide)]
   by_cases h3 : l.2.1.length = 0
   ·rw [if_pos (by simp [h3]), if_pos h3]
   ·rw [if_neg (by simp only [decide_eq_true_eq]; omega), if_neg h3]
  ·rw [if_neg h2, if_pos (by simp [h2])]
 ·rw [if_neg h1, if_pos (by simp [h1])]
theorem lasE_zero {letters : Int} {l : List Int × List Int × Unit} (h : lasE letters l = 0) : mayE letters l.1 = 0 ∧ mayE letters l.2.1 = 0 ∧ 0 < l.2.1.length := by
 unfold lasE at h
 by_cases h1 : mayE letters l.1 = 0
 ·rw [if_pos h1] at h
  by_cases h2 : mayE letters l.2.1 = 0
  ·rw [if_pos h2] at h
   by_cases h3 : l.2.1.length = 0
   ·rw [if_pos h3] at h; omega
   ·exact ⟨h1, h2, by omega⟩
  ·rw [if_neg h2] at h; exact absurd h h2
 ·rw [if_neg h1] at h; exact absurd h h1

theorem slices_Clone_spec {s : List Int} (hs : s.length * 8 ≤ 140737488355328) : slices_Clone s = some s := by
 have hr : G (room ([] : List Int) s 8) (some (([] : List Int) ++ s)) = some s := by
  rw [G_pos (room_of (by simpa using hs))]; rfl
 unfold slices_Clone
 refine itep_to (fun h => ?_) (fun h => hr)
 obtain rfl : s = [] := List.length_eq_zero_iff.1 h
 rw [hr]; exact both_self (ts := [(.list (.int .i64))]) (some ([] : List Int))

theorem Equal_spec {a b : List Int} (ha : a.length ≤ 1000) : slices_Equal a b = some (decide (a = b)) := by
 unfold slices_Equal
 by_cases hl : (a.length : Int) = b.length
 ·rw [if_neg (by simpa using hl)]
  refine scan_to (len := (a.length : Int)) (bad := fun t => ix a t ≠ ix b t) (lo := 0) (by omega) (fun t t0 t1 => ⟨fun hb => ?_, fun hb => ?_⟩) (fun hh => ?_)
  ·rw [slices_Equal_L4_eq]; unfold slices_Equal_L4_B
   rw [if_pos (by simp; omega)]
   refine G_to (by omega) (G_to (by omega) ?_)
   rw [if_pos (by simpa using hb), decide_eq_false (fun e => hb (by rw [e]))]
  ·conv => lhs; rw [slices_Equal_L4_eq]; unfold slices_Equal_L4_B
   rw [if_pos (by simp; omega)]
   refine G_to (by omega) (G_to (by omega) ?_)
   rw [if_neg (by simpa using hb)]
   exact G_to (by unfold fits; omega) rfl
  ·rw [slices_Equal_L4_eq]; unfold slices_Equal_L4_B
   rw [if_neg (by simp), decide_eq_true (ix_ext (by omega) fun t t0 t1 => Decidable.not_not.1 (hh t t0 t1))]
 ·rw [if_pos (by simpa using hl), decide_eq_false (fun e => hl (by rw [e]))]

abbrev Las := List Int × List Int × Unit
def Per (f : Int → Int) (N p : Int) : Prop := ∀ i, N ≤ i → f (i + p) = f i
theorem Per.mono {f : Int → Int} {N M p : Int} (h : Per f N p) (hM : N ≤ M) : Per f M p := fun i hi => h i (by omega)
theorem Per.mul {f : Int → Int} {N p : Int} (h : Per f N p) (hp : 0 ≤ p) : ∀ (k : Nat) (i : Int), N ≤ i → f (i + k * p) = f i
 | 0, i, hi => by simp
 | k + 1, i, hi => by
  have h1 := h.mul hp k i hi
  have h2 : 0 ≤ (k : Int) * p := Int.mul_nonneg (by omega) hp
  have h3 := h (i + k * p) (by omega)
  rw [← h1, ← h3]
  congr 1
  have : ((k + 1 : Nat) : Int) * p = k * p + p := by rw [Int.natCast_add, Int.add_mul]; simp
  omega
theorem Per.mod {f : Int → Int} {N a m : Int} (ha : Per f N a) (hm : Per f N m) (h0 : 0 ≤ a) (h1 : 0 < m) : Per f N (a % m) := fun i hi => by
 have e := Int.mul_ediv_add_emod a m
 have r0 := Int.emod_nonneg a (by omega : m ≠ 0)
 have q0 : 0 ≤ a / m := Int.ediv_nonneg h0 (by omega)
 have := hm.mul (by omega) (a / m).toNat (i + a % m) (by omega)
 rw [Int.toNat_of_nonneg q0] at this
 rw [← this, ← ha i hi]
 congr 1
 rw [Int.mul_comm m] at e; omega
/-- Least among those that divide is least of all. -/
theorem Per.least {f : Int → Int} {N P : Int} (h : Per f N P) (hP : 0 < P) (hd : ∀ m, 0 < m → m < P → m ∣ P → ¬ Per f N m) : ∀ (n : Nat) (m : Int), m.toNat ≤ n → 0 < m → Per f N m → P ≤ m
 | 0, m, hn, h0, _ => by omega
 | n + 1, m, hn, h0, hm => by
  by_cases hle : P ≤ m
  ·exact hle
  ·exfalso
   have r0 := Int.emod_nonneg P (by omega : m ≠ 0)
   have r1 := Int.emod_lt_of_pos P h0
   by_cases hr : P % m = 0
   ·exact hd m h0 (by omega) (Int.dvd_of_emod_eq_zero hr) hm
   ·have := Per.least h hP hd n (P % m) (by omega) (by omega) (h.mod hm (by omega) h0)
    omega
/-- What agrees for long enough agrees for ever. -/
theorem wilf {f g : Int → Int} {N p q : Int} (hf : Per f N p) (hg : Per g N q) (hp : 0 < p) (hq : 0 < q) (h : ∀ i, N ≤ i → i < N + p + q → f i = g i) : ∀ (n : Nat) (i : Int), N ≤ i → (i - N).toNat ≤ n → f i = g i
 | 0, i, hi, hn => h i hi (by omega)
 | n + 1, i, hi, hn => by
  by_cases hlt : i < N + p + q
  ·exact h i hi hlt
  ·have a1 := hf (i - p) (by omega)
   have a2 := hg (i - p - q) (by omega)
   have a3 := hf (i - p - q) (by omega)
   have a4 := hg (i - q) (by omega)
   have b1 := wilf hf hg hp hq h n (i - p) (by omega) (by omega)
   have b2 := wilf hf hg hp hq h n (i - p - q) (by omega) (by omega)
   have b3 := wilf hf hg hp hq h n (i - q) (by omega) (by omega)
   rw [show i - p + p = i by omega] at a1
   rw [show i - p - q + q = i - p by omega] at a2
   rw [show i - p - q + p = i - q by omega] at a3
   rw [show i - q + q = i by omega] at a4
   rw [a1, b1, a2, ← b2, ← a3, b3, a4]
/-- The lasso of head h and loop p tells f. -/
structure Reads (f : Int → Int) (h p : List Int) : Prop where
 head : ∀ i : Int, 0 ≤ i → i < h.length → f i = ix h i
 loop : ∀ j : Int, 0 ≤ j → j < p.length → f (h.length + j) = ix p j
 per : Per f h.length p.length
 pos : 0 < (p.length : Int)
theorem Reads.same {f g : Int → Int} {h p : List Int} (hf : Reads f h p) (hg : Reads g h p) : ∀ (n : Nat) (i : Int), 0 ≤ i → i.toNat ≤ n → f i = g i
 | 0, i, h0, hn => by
  by_cases hh : i < h.length
  ·rw [hf.head i h0 hh, hg.head i h0 hh]
  ·have := hf.loop 0 (by omega) hf.pos; have h2 := hg.loop 0 (by omega) hg.pos
   rw [show (h.length : Int) + 0 = i by omega] at this h2; rw [this, h2]
 | n + 1, i, h0, hn => by
  by_cases hh : i < h.length
  ·rw [hf.head i h0 hh, hg.head i h0 hh]
  ·by_cases hl : i < h.length + p.length
   ·have := hf.loop (i - h.length) (by omega) (by omega); have h2 := hg.loop (i - h.length) (by omega) (by omega)
    rw [show (h.length : Int) + (i - h.length) = i by omega] at this h2; rw [this, h2]
   ·have a := hf.per (i - p.length) (by omega)
    have b := hg.per (i - p.length) (by omega)
    rw [show i - p.length + p.length = i by omega] at a b
    have := hf.pos
    rw [a, b]; exact Reads.same hf hg n _ (by omega) (by omega)
/-- .. as shortly as can be. -/
structure Nrm (f : Int → Int) (h p : List Int) : Prop where
 least : ∀ m : Int, 0 < m → Per f h.length m → p.length ≤ m
 last : (h.length : Int) = 0 ∨ f (h.length - 1) ≠ f (h.length - 1 + p.length)
theorem nrm_le {f : Int → Int} {h p h' p' : List Int} (r : Reads f h p) (n : Nrm f h p) (r' : Reads f h' p') (n' : Nrm f h' p') : (p.length : Int) = p'.length ∧ (h'.length : Int) ≤ h.length := by
 have key : ∀ {h p h' p' : List Int}, Reads f h p → Nrm f h p → Reads f h' p' → (p.length : Int) ≤ p'.length := by
  intro h p h' p' r n r'
  have h1 := r.pos; have h2 := r'.pos
  refine n.least _ h2 fun i hi => ?_
  have hk : ∀ i : Int, (h.length : Int) ≤ i → f (i + (h'.length : Nat) * p.length) = f i := fun i hi => r.per.mul (by omega) h'.length i hi
  have hbig : (h'.length : Int) * 1 ≤ (h'.length : Int) * p.length := Int.mul_le_mul_of_nonneg_left (by omega) (by omega)
  rw [← hk (i + p'.length) (by omega), ← hk i hi]
  have := r'.per (i + (h'.length : Nat) * p.length) (by omega)
  rw [← this]
  congr 1; omega
 have e : (p.length : Int) = p'.length := by have := key r n r'; have := key r' n' r; omega
 refine ⟨e, ?_⟩
 by_cases hlt : (h'.length : Int) ≤ h.length
 ·exact hlt
 ·exfalso
  rcases n'.last with h0 | h0
  ·omega
  ·exact h0 (by rw [← e]; exact (r.per (h'.length - 1) (by omega)).symm)
/-- One word has one such lasso. -/
theorem nrm_unique {f : Int → Int} {h p h' p' : List Int} (r : Reads f h p) (n : Nrm f h p) (r' : Reads f h' p') (n' : Nrm f h' p') : h = h' ∧ p = p' := by
 obtain ⟨e1, l1⟩ := nrm_le r n r' n'
 obtain ⟨_, l2⟩ := nrm_le r' n' r n
 have e2 : (h.length : Int) = h'.length := by omega
 refine ⟨ix_ext (by omega) fun j a b => ?_, ix_ext (by omega) fun j a b => ?_⟩
 ·rw [← r.head j a b, ← r'.head j a (by omega)]
 ·rw [← r.loop j a b, ← r'.loop j a (by omega), e2]
/-- The letter at a place of a lasso. -/
def infl (l : Las) (i : Int) : Int := if i < (l.1.length : Int) then ix l.1 i else ix l.2.1 ((i - l.1.length) % l.2.1.length)
theorem infl_reads {l : Las} (hp : 0 < (l.2.1.length : Int)) : Reads (infl l) l.1 l.2.1 := by
 refine ⟨fun i a b => ?_, fun j a b => ?_, fun i hi => ?_, hp⟩
 ·unfold infl; rw [if_pos b]
 ·unfold infl; rw [if_neg (by omega), show (l.1.length : Int) + j - l.1.length = j by omega, Int.emod_eq_of_lt a b]
 ·unfold infl
  rw [if_neg (by omega), if_neg (by omega), show i + (l.2.1.length : Int) - l.1.length = i - l.1.length + l.2.1.length by omega, Int.add_emod_right]

theorem word_at_spec {l : Las} {n : Int} (h0 : 0 ≤ n) (h1 : n ≤ 9223372036854775807) (hp : 0 < (l.2.1.length : Int)) (hs : (l.1.length : Int) ≤ 1000) : word_at l n = some (infl l n) := by
 unfold word_at infl
 refine ite_to (fun h => ?_) (fun h => ?_)
 ·rw [if_pos h]; exact G_to ⟨h0, h⟩ rfl
 ·rw [if_neg h, ← Int.tmod_eq_emod_of_nonneg (by omega : 0 ≤ n - l.1.length)]
  have := Int.tmod_nonneg (l.2.1.length : Int) (by omega : 0 ≤ n - l.1.length)
  have := Int.tmod_lt_of_pos (n - l.1.length) hp
  exact G_to (by unfold fits; omega) (G_to (by omega) (G_to (by omega) rfl))
def Sh (p : List Int) (n : Int) : Prop := ∀ j : Int, 0 ≤ j → j + n < p.length → ix p (j + n) = ix p j
theorem Sh.mul {p : List Int} {n : Int} (h : Sh p n) (hn : 0 ≤ n) : ∀ (k : Nat) (x : Int), 0 ≤ x → x + k * n < p.length → ix p (x + k * n) = ix p x
 | 0, x, _, _ => by simp
 | k + 1, x, hx, hl => by
  have e : ((k + 1 : Nat) : Int) * n = k * n + n := by rw [Int.natCast_add, Int.add_mul]; simp
  have h2 : 0 ≤ (k : Int) * n := Int.mul_nonneg (by omega) hn
  rw [e] at hl ⊢
  have h1 := h (x + k * n) (by omega) (by omega)
  rw [show x + (k * n + n) = x + k * n + n by omega, h1]
  exact h.mul hn k x hx (by omega)
theorem equal_shift {p : List Int} {n : Int} (hs : p.length ≤ 1000) (h0 : 0 ≤ n) (h1 : n ≤ p.length) : Tells (slices_Equal (cut p n (p.length : Int)) (cut p 0 ((p.length : Int) - n))) (Sh p n) := by
 have l1 := cut_len (l := p) (i := n) (j := p.length) h0 h1 (by omega)
 have l2 := cut_len (l := p) (i := 0) (j := (p.length : Int) - n) (by omega) (by omega) (by omega)
 rw [Equal_spec (by omega)]
 refine Tells.dec ?_
 rw [eq_iff_ix]
 constructor
 ·rintro ⟨_, h⟩ j hj hl
  have := h j hj (by omega)
  rw [ix_cut h0 hj (by omega), ix_cut (by omega) hj (by omega)] at this
  rw [show j + n = n + j by omega, this]; congr 1; omega
 ·intro h
  refine ⟨by omega, fun k k0 k1 => ?_⟩
  rw [ix_cut h0 k0 (by omega), ix_cut (by omega) k0 (by omega)]
  have := h k k0 (by omega)
  rw [show n + k = k + n by omega, this]; congr 1; omega
theorem word_period_from {p : List Int} (hs : p.length ≤ 1000) (hp : 0 < (p.length : Int)) : ∀ (q : Nat) (t : Int), 0 ≤ t → t ≤ p.length → (p.length - t).toNat = q → (∀ m, 0 < m → m < t → m ∣ (p.length : Int) → ¬ Sh p m) →
  ∃ n : Int, 0 < n ∧ n ≤ p.length ∧ n ∣ (p.length : Int) ∧ Sh p n ∧ (∀ m, 0 < m → m < n → m ∣ (p.length : Int) → ¬ Sh p m) ∧ word_period_L2 p t = some (cut p 0 n) := by
 intro q
 induction q with
 | zero =>
  intro t h0 h1 hq hm
  refine ⟨p.length, hp, by omega, Int.dvd_refl _, fun j a b => by omega, fun m a b => hm m a (by omega), ?_⟩
  rw [word_period_L2_eq]; unfold word_period_L2_B
  refine ite_to (fun h => by omega) (fun _ => ?_)
  rw [cut_all]
 | succ q ih =>
  intro t h0 h1 hq hm
  have hlt : t < p.length := by omega
  have g1 : 0 ≤ t ∧ t ≤ (p.length : Int) ∧ (p.length : Int) ≤ p.length := by omega
  have g2 : 0 ≤ (0 : Int) ∧ (0 : Int) ≤ p.length - t ∧ (p.length : Int) - t ≤ p.length := by omega
  have g3 : fits ((p.length : Int) - t) := by unfold fits; omega
  rw [word_period_L2_eq]; unfold word_period_L2_B
  have next : (0 < t → t ∣ (p.length : Int) → ¬ Sh p t) → ∃ n : Int, 0 < n ∧ n ≤ p.length ∧ n ∣ (p.length : Int) ∧ Sh p n ∧ (∀ m, 0 < m → m < n → m ∣ (p.length : Int) → ¬ Sh p m) ∧ word_period_J4 p t (word_period_L2 p) false = some (cut p 0 n) := by
   intro ht
   obtain ⟨n, n0, n1, n2, n3, n4, n5⟩ := ih (t + 1) (by omega) (by omega) (by omega) (fun m a b c => by
    by_cases e : m = t
    ·rw [e] at a c ⊢; exact ht a c
    ·exact hm m a (by omega) c)
   refine ⟨n, n0, n1, n2, n3, n4, ?_⟩
   unfold word_period_J4
   refine itef_to ?_
   exact G_to (by unfold fits; omega) n5
  by_cases ht : 0 < t
  ·by_cases hd : t ∣ (p.length : Int)
   ·have he : Int.tmod (p.length : Int) t = 0 := by rw [Int.tmod_eq_emod_of_nonneg (by omega)]; exact Int.emod_eq_zero_of_dvd hd
    obtain ⟨b, hb, hbs⟩ := equal_shift hs h0 h1
    cases b with
    | true =>
     refine ⟨t, ht, h1, hd, hbs.1 rfl, hm, ?_⟩
     refine ite_to (fun _ => ?_) (fun h => absurd hlt h)
     refine ite_to (fun _ => ?_) (fun h => absurd ht h)
     refine G_to (Int.ne_of_gt ht) (ite_to (fun _ => ?_) (fun h => absurd he h))
     refine G_to g1 (G_to g3 (G_to g2 (bind_to hb ?_)))
     unfold word_period_J4
     exact itet_to (G_to ⟨by decide, h0, h1⟩ rfl)
    | false =>
     obtain ⟨n, n0, n1, n2, n3, n4, n5⟩ := next (fun _ _ h => by simpa using hbs.2 h)
     refine ⟨n, n0, n1, n2, n3, n4, ?_⟩
     refine ite_to (fun _ => ?_) (fun h => absurd hlt h)
     refine ite_to (fun _ => ?_) (fun h => absurd ht h)
     refine G_to (Int.ne_of_gt ht) (ite_to (fun _ => ?_) (fun h => absurd he h))
     exact G_to g1 (G_to g3 (G_to g2 (bind_to hb n5)))
   ·have he : ¬ Int.tmod (p.length : Int) t = 0 := by rw [Int.tmod_eq_emod_of_nonneg (by omega)]; exact fun h => hd (Int.dvd_of_emod_eq_zero h)
    obtain ⟨n, n0, n1, n2, n3, n4, n5⟩ := next (fun _ h => absurd h hd)
    refine ⟨n, n0, n1, n2, n3, n4, ?_⟩
    refine ite_to (fun _ => ?_) (fun h => absurd hlt h)
    refine ite_to (fun _ => ?_) (fun h => absurd ht h)
    exact G_to (Int.ne_of_gt ht) (ite_to (fun h => absurd h he) (fun _ => n5))
  ·obtain ⟨n, n0, n1, n2, n3, n4, n5⟩ := next (fun h => absurd h ht)
   refine ⟨n, n0, n1, n2, n3, n4, ?_⟩
   refine ite_to (fun _ => ?_) (fun h => absurd hlt h)
   exact ite_to (fun h => absurd h ht) (fun _ => n5)
/-- The least loop of a loop. -/
theorem word_period_spec {f : Int → Int} {h p : List Int} (hs : p.length ≤ 1000) (r : Reads f h p) : ∃ p', word_period p = some p' ∧ Reads f h p' ∧ (p'.length : Int) ≤ p.length ∧ ∀ m : Int, 0 < m → Per f h.length m → p'.length ≤ m := by
 obtain ⟨n, n0, n1, n2, n3, n4, n5⟩ := word_period_from hs r.pos _ 0 (by omega) (by omega) rfl (fun m a b => by omega)
 have hl := cut_len (l := p) (i := 0) (j := n) (by omega) (by omega) n1
 have hlen : ((cut p 0 n).length : Int) = n := by omega
 obtain ⟨k, hk⟩ := n2
 have hk0 : 0 < k := by
  have := r.pos
  rw [hk] at this
  by_cases h : 0 < k
  ·exact h
  ·have : n * k ≤ n * 0 := Int.mul_le_mul_of_nonneg_left (by omega) (by omega)
   rw [Int.mul_zero] at this; omega
 -- f goes round in n
 have hper : Per f h.length n := fun i hi => by
  have q0 := Int.emod_nonneg (i - h.length) (by have := r.pos; omega : (p.length : Int) ≠ 0)
  have q1 := Int.emod_lt_of_pos (i - h.length) r.pos
  have e := Int.mul_ediv_add_emod (i - h.length) p.length
  have d0 : 0 ≤ (i - h.length) / p.length := Int.ediv_nonneg (by omega) (by omega)
  generalize hx : (i - h.length) % p.length = x at q0 q1 e
  have hm := fun y hy => r.per.mul (by omega) ((i - h.length) / p.length).toNat y hy
  rw [Int.toNat_of_nonneg d0] at hm
  have ei : i = h.length + x + (i - h.length) / p.length * p.length := by rw [Int.mul_comm] at e; omega
  have e1 : f i = f (h.length + x) := by rw [← hm (h.length + x) (by omega), ← ei]
  have e2 : f (i + n) = f (h.length + x + n) := by rw [← hm (h.length + x + n) (by omega)]; congr 1; omega
  rw [e1, e2, r.loop x q0 q1]
  by_cases hlt : x + n < p.length
  ·rw [show (h.length : Int) + x + n = h.length + (x + n) by omega, r.loop (x + n) (by omega) hlt]
   exact n3 x q0 hlt
  ·have := r.per (h.length + (x + n - p.length)) (by omega)
   rw [show (h.length : Int) + (x + n - p.length) + p.length = h.length + x + n by omega] at this
   rw [this, r.loop _ (by omega) (by omega)]
   have hmm := n3.mul (by omega) (k - 1).toNat (x + n - p.length) (by omega)
   have ek : ((k - 1).toNat : Int) * n = p.length - n := by
    rw [Int.toNat_of_nonneg (by omega), Int.sub_mul, hk, Int.mul_comm]; simp
   rw [ek] at hmm
   rw [← hmm (by omega)]; congr 1; omega
 refine ⟨cut p 0 n, n5, ⟨r.head, fun j a b => ?_, by rw [hlen]; exact hper, by omega⟩, by omega, fun m m0 hm => ?_⟩
 ·rw [r.loop j a (by omega), ix_cut (by omega) a (by omega)]; congr 1; omega
 ·rw [hlen]
  refine hper.least n0 (fun m' a b c hper' => n4 m' a b (Int.dvd_trans c ⟨k, hk⟩) fun j j0 j1 => ?_) m.toNat m (by omega) m0 hm
  rw [← r.loop j j0 (by omega), ← r.loop (j + m') (by omega) j1, show (h.length : Int) + (j + m') = h.length + j + m' by omega]
  exact hper' _ (by omega)
theorem ix_last_round {p : List Int} {y : Int} (hp : 0 < p.length) {j : Int} (h0 : 0 ≤ j) (h1 : j < p.length) :
  ix ((p.take ((1 : Int)).toNat ++ p.take (min p.length (p.length - ((1 : Int)).toNat)) ++ p.drop (((1 : Int)).toNat + (min p.length (p.length - ((1 : Int)).toNat)))).set ((0 : Int)).toNat y) j = if j = 0 then y else ix p (j - 1) := by
 have e1 : ((1 : Int)).toNat = 1 := rfl
 have e0 : ((0 : Int)).toNat = 0 := rfl
 rw [e1, e0, show min p.length (p.length - 1) = p.length - 1 by omega, show 1 + (p.length - 1) = p.length by omega, List.drop_length, List.append_nil]
 match p, hp with
 | x :: p, _ =>
  obtain ⟨j, rfl⟩ : ∃ k : Nat, j = k := ⟨j.toNat, by omega⟩
  cases j with
  | zero => simp [ix]
  | succ j =>
   rw [if_neg (by omega)]
   have hlt : j < (x :: p).length - 1 := by simp at h1 ⊢; omega
   unfold ix
   rw [show ((j + 1 : Nat) : Int).toNat = j + 1 by omega, show (((j + 1 : Nat) : Int) - 1).toNat = j by omega]
   simp only [List.take_succ_cons, List.take_zero, List.cons_append, List.nil_append, List.set_cons_zero, List.getD_eq_getElem?_getD, List.getElem?_cons_succ]
   rw [List.getElem?_take_of_lt hlt]
theorem len_last_round {p : List Int} {y : Int} (hp : 0 < p.length) : ((p.take ((1 : Int)).toNat ++ p.take (min p.length (p.length - ((1 : Int)).toNat)) ++ p.drop (((1 : Int)).toNat + (min p.length (p.length - ((1 : Int)).toNat)))).set ((0 : Int)).toNat y).length = p.length := by
 have e1 : ((1 : Int)).toNat = 1 := rfl
 simp only [List.length_set, List.length_append, List.length_take, List.length_drop, e1]; omega

theorem word_normal_from {l : Las} (hl : 0 < (l.2.1.length : Int)) (hls : (l.1.length : Int) ≤ 1000) : ∀ (n : Nat) (h p : List Int), h.length = n → h.length ≤ 1000 → p.length ≤ 1000 → Reads (infl l) h p → (∀ m : Int, 0 < m → Per (infl l) h.length m → p.length ≤ m) →
  ∃ h' p', word_normal_L2 l h p = some (h', p') ∧ Reads (infl l) h' p' ∧ Nrm (infl l) h' p' ∧ h'.length ≤ h.length ∧ p'.length = p.length := by
 intro n
 induction n with
 | zero =>
  intro h p hn hh hp r hm
  refine ⟨h, p, ?_, r, ⟨hm, .inl (by omega)⟩, Nat.le_refl _, rfl⟩
  rw [word_normal_L2_eq]; unfold word_normal_L2_B
  exact ite_to (fun h => by omega) (fun _ => rfl)
 | succ n ih =>
  intro h p hn hh hp r hm
  have hpos := r.pos
  have e1 : infl l (h.length - 1) = ix h (h.length - 1) := r.head _ (by omega) (by omega)
  have e2 : infl l (h.length - 1 + p.length) = ix p (p.length - 1) := by
   rw [← r.loop (p.length - 1) (by omega) (by omega)]; congr 1; omega
  by_cases hd : ix h ((h.length : Int) - 1) = ix p ((p.length : Int) - 1)
  ·have lc := cut_len (l := h) (i := 0) (j := (h.length : Int) - 1) (by omega) (by omega) (by omega)
   have hlc : (cut h 0 ((h.length : Int) - 1)).length = n := by omega
   generalize hy : infl l ((h.length : Int) - 1) = y at e1
   have hlr := len_last_round (p := p) (y := y) (by omega)
   have hir := fun {j : Int} (a : 0 ≤ j) (b : j < p.length) => ix_last_round (p := p) (y := y) (by omega) a b
   generalize hp' : (p.take ((1 : Int)).toNat ++ p.take (min p.length (p.length - ((1 : Int)).toNat)) ++ p.drop (((1 : Int)).toNat + (min p.length (p.length - ((1 : Int)).toNat)))).set ((0 : Int)).toNat y = p' at hlr hir
   have r' : Reads (infl l) (cut h 0 ((h.length : Int) - 1)) p' := by
    refine ⟨fun i a b => ?_, fun j a b => ?_, fun i hi => ?_, by omega⟩
    ·rw [ix_cut (by omega) a (by omega), r.head i a (by omega)]; congr 1; omega
    ·rw [hir a (by omega), lc]
     by_cases hj : j = 0
     ·rw [if_pos hj, ← hy]; congr 1; omega
     ·rw [if_neg hj, ← r.loop (j - 1) (by omega) (by omega)]; congr 1; omega
    ·rw [lc] at hi
     rw [hlr]
     by_cases hi2 : (h.length : Int) ≤ i
     ·exact r.per i hi2
     ·have : i = h.length - 1 := by omega
      rw [this, e2, hy, e1]; exact hd.symm
   obtain ⟨h2, p2, g1, g2, g3, g4, g5⟩ := ih _ p' hlc (by omega) (by omega) r' (fun m m0 hper => by rw [hlr]; exact hm m m0 (hper.mono (by omega)))
   refine ⟨h2, p2, ?_, g2, g3, by omega, by omega⟩
   rw [word_normal_L2_eq]; unfold word_normal_L2_B
   refine ite_to (fun _ => ?_) (fun h => by omega)
   refine G_to (by unfold fits; omega) (G_to (by omega) (G_to (by omega) (G_to (by unfold fits; omega) (G_to (by omega) (G_to (by omega) ?_)))))
   refine ite_to (fun _ => ?_) (fun h => absurd hd h)
   refine G_to (by unfold fits; omega) (G_to (by omega) (G_to (by omega) ?_))
   refine bind_to (slices_Clone_spec (by omega)) ?_
   refine G_to (by omega) ?_
   unfold word_normal_J4
   have hat : word_at (l.1, (l.2.1, ())) ((h.take ((h.length : Int) - (1 : Int)).toNat).length : Int) = some y := by
    rw [show (l.1, (l.2.1, ())) = l from rfl, word_at_spec (by omega) (by rw [List.length_take]; omega) hl hls, ← hy, List.length_take]; congr 2; omega
   refine bind_to hat ?_
   have hl0 := len_last_round (p := p) (y := y) (by omega)
   rw [List.length_set] at hl0
   refine G_to (by rw [hl0]; omega) (G_to (by rw [hl0]; omega) ?_)
   rw [hp']; exact g1
  ·refine ⟨h, p, ?_, r, ⟨hm, .inr (by rw [e1, e2]; exact hd)⟩, Nat.le_refl _, rfl⟩
   rw [word_normal_L2_eq]; unfold word_normal_L2_B
   refine ite_to (fun _ => ?_) (fun _ => rfl)
   refine G_to (by unfold fits; omega) (G_to (by omega) (G_to (by omega) (G_to (by unfold fits; omega) (G_to (by omega) (G_to (by omega) ?_)))))
   exact ite_to (fun h => absurd h hd) (fun _ => rfl)
theorem word_normal_spec {l : Las} (hl : 0 < (l.2.1.length : Int)) (h1 : l.1.length ≤ 1000) (h2 : l.2.1.length ≤ 1000) : ∃ h p, word_normal l = some (h, p) ∧ Reads (infl l) h p ∧ Nrm (infl l) h p ∧ h.length ≤ l.1.length ∧ p.length ≤ l.2.1.length := by
 obtain ⟨p', a1, a2, a3, a4⟩ := word_period_spec h2 (infl_reads hl)
 obtain ⟨h', p2, b1, b2, b3, b4, b5⟩ := word_normal_from hl (by omega) _ l.1 p' rfl h1 (by omega) a2 a4
 refine ⟨h', p2, ?_, b2, b3, b4, by omega⟩
 unfold word_normal
 refine bind_to (slices_Clone_spec (by omega)) ?_
 refine bind_to a1 ?_
 refine bind_to (slices_Clone_spec (by omega)) b1

theorem r1_Words_L4_spec {a b : List Int} (hl : a.length = b.length) : ∀ (n : Nat) (i : Int), 0 ≤ i → i ≤ a.length → (a.length - i).toNat = n → a.length ≤ 2305843009213693951 → (∀ j : Int, 0 ≤ j → j < i → ix a j = ix b j) → r1_Words_L4 a b i = some (decide (a = b)) := by
 intro n
 induction n with
 | zero =>
  intro i h0 h1 hn hs h
  rw [r1_Words_L4_eq]; unfold r1_Words_L4_B
  (try dsimp only); (repeat' first | (with_reducible refine G_to ?_ ?_; focus (first | omega | (unfold fits; omega) | (unfold room; (try simp only [List.length_append, List.length_cons, List.length_nil]); omega))) | (with_reducible refine both_to ?_ ?_) | (with_reducible refine itet_to ?_) | (with_reducible refine itef_to ?_) | (with_reducible refine ite_to (fun _ => ?_) (fun _ => ?_))) <;> try (exfalso; omega)
  ·rw [Option.some_inj, eq_comm, decide_eq_true_iff]; exact ix_ext hl (fun j a b => h j a (by omega))
 | succ n ih =>
  intro i h0 h1 hn hs h
  rw [r1_Words_L4_eq]; unfold r1_Words_L4_B
  (try dsimp only); (repeat' first | (with_reducible refine G_to ?_ ?_; focus (first | omega | (unfold fits; omega) | (unfold room; (try simp only [List.length_append, List.length_cons, List.length_nil]); omega))) | (with_reducible refine both_to ?_ ?_) | (with_reducible refine itet_to ?_) | (with_reducible refine itef_to ?_) | (with_reducible refine ite_to (fun _ => ?_) (fun _ => ?_))) <;> try (exfalso; omega)
  ·rw [Option.some_inj, eq_comm, decide_eq_false_iff_not]; rintro rfl; contradiction
  ·rename_i hx; exact ih _ (by omega) (by omega) (by omega) hs (below_succ h (Decidable.not_not.1 hx))
theorem r1_Words_spec {a b : List Int} (hs : a.length ≤ 2305843009213693951) : r1_Words a b = some (decide (a = b)) := by
 unfold r1_Words
 (try dsimp only); (repeat' first | (with_reducible refine G_to ?_ ?_; focus (first | omega | (unfold fits; omega) | (unfold room; (try simp only [List.length_append, List.length_cons, List.length_nil]); omega))) | (with_reducible refine both_to ?_ ?_) | (with_reducible refine itet_to ?_) | (with_reducible refine itef_to ?_) | (with_reducible refine ite_to (fun _ => ?_) (fun _ => ?_))) <;> try (exfalso; omega)
 ·rw [Option.some_inj, eq_comm, decide_eq_false_iff_not]; rintro rfl; contradiction
 ·exact r1_Words_L4_spec (by omega) _ 0 (by omega) (by omega) rfl hs (fun j a b => by omega)

theorem list_spec {w : List Int} (hs : w.length * 8 ≤ 140737488351232) : law_list w = some w := by
 unfold law_list
 refine G_to (by unfold fits; omega) ?_
 refine G_to (by unfold mkOK; omega) ?_
 simp
theorem r1_At_spec {l : Las} {n : Int} (h0 : 0 ≤ n) (h1 : n ≤ 9223372036854775807) (hp : 0 < (l.2.1.length : Int)) (hs : (l.1.length : Int) ≤ 1000) : r1_At l n = some (infl l n) := by
 unfold r1_At infl
 refine ite_to (fun h => ?_) (fun h => ?_)
 ·rw [if_pos h]; exact G_to ⟨h0, h⟩ rfl
 ·rw [if_neg h, ← Int.tmod_eq_emod_of_nonneg (by omega : 0 ≤ n - l.1.length)]
  have := Int.tmod_nonneg (l.2.1.length : Int) (by omega : 0 ≤ n - l.1.length)
  have := Int.tmod_lt_of_pos (n - l.1.length) hp
  exact G_to (by unfold fits; omega) (G_to (by omega) (G_to (by omega) rfl))
def One (a b : Las) : Prop := ∀ i : Int, 0 ≤ i → infl a i = infl b i
theorem one_of {a b : Las} (ha : 0 < (a.2.1.length : Int)) (hb : 0 < (b.2.1.length : Int)) (h : ∀ i : Int, 0 ≤ i → i < a.1.length + b.1.length + a.2.1.length + b.2.1.length → infl a i = infl b i) : One a b := fun i h0 => by
 have ra := infl_reads (l := a) ha
 have rb := infl_reads (l := b) hb
 by_cases hlt : i < a.1.length + b.1.length
 ·exact h i h0 (by omega)
 ·exact wilf (N := a.1.length + b.1.length) (ra.per.mono (by omega)) (rb.per.mono (by omega)) ha hb (fun j a b => h j (by omega) (by omega)) _ i (by omega) (Nat.le_refl _)
theorem r1_Same_spec {a b : Las} (ha : 0 < (a.2.1.length : Int)) (hb : 0 < (b.2.1.length : Int)) (s1 : a.1.length ≤ 1000) (s2 : a.2.1.length ≤ 1000) (s3 : b.1.length ≤ 1000) (s4 : b.2.1.length ≤ 1000) : Tells (r1_Same a b) (One a b) := by
 unfold r1_Same
 rw [G_pos (by unfold fits; omega), G_pos (by unfold fits; omega), G_pos (by unfold fits; omega)]
 have h : ∀ (n : Nat) (i : Int), 0 ≤ i → (((a.1.length : Int) + b.1.length + a.2.1.length + b.2.1.length) - i).toNat = n → (∀ j : Int, 0 ≤ j → j < i → infl a j = infl b j) → Tells (r1_Same_L3 a b i) (One a b) := by
  intro n
  induction n with
  | zero =>
   intro i h0 hn hh
   rw [r1_Same_L3_eq]; unfold r1_Same_L3_B
   rw [if_neg (by simp; omega)]
   exact Tells.of (by simp; exact one_of ha hb fun j j0 j1 => hh j j0 (by omega))
  | succ n ih =>
   intro i h0 hn hh
   rw [r1_Same_L3_eq]; unfold r1_Same_L3_B
   rw [if_pos (by simp; omega)]
   rw [show (a.1, (a.2.1, ())) = a from rfl, show (b.1, (b.2.1, ())) = b from rfl, r1_At_spec h0 (by omega) ha (by omega), r1_At_spec h0 (by omega) hb (by omega)]
   show Tells (if _ then _ else _) _
   by_cases e : infl a i = infl b i
   ·rw [if_neg (by simp [e]), G_pos (by unfold fits; omega)]
    exact ih (i + 1) (by omega) (by omega) (fun j j0 j1 => by
     by_cases ej : j = i
     ·rw [ej, e]
     ·exact hh j j0 (by omega))
   ·rw [if_pos (by simp [e])]
    exact Tells.of (by simp; exact fun h => e (h i h0))
 exact h _ 0 (by omega) rfl (fun j a b => by omega)
/-! ### the piece of a word -/
/-- So many letters of f from i on. -/
def pc (f : Int → Int) (i : Int) (n : Nat) : List Int := (List.range n).map fun j : Nat => f (i + j)
theorem pc_len (f : Int → Int) (i : Int) (n : Nat) : (pc f i n).length = n := by simp [pc]
theorem pc_ix {f : Int → Int} {i : Int} {n : Nat} {j : Int} (h0 : 0 ≤ j) (h1 : j < n) : ix (pc f i n) j = f (i + j) := by
 rw [ix_eq h0 (by rw [pc_len]; omega)]
 simp only [pc, List.getElem_map, List.getElem_range]
 congr 1; omega
theorem pc_snoc (f : Int → Int) (i : Int) (n : Nat) : pc f i (n + 1) = pc f i n ++ [f (i + n)] := by simp [pc, List.range_succ]
theorem r1_Part_spec {l : Las} {fr : Int} (f0 : 0 ≤ fr) (f1 : fr ≤ 1000) (hp : 0 < (l.2.1.length : Int)) (hs : (l.1.length : Int) ≤ 1000) {h p : Nat} (hh : h ≤ 1000) (hpp : p ≤ 1000) :
  r1_Part l fr h p = some (pc (fun i => infl l (fr + i)) 0 h, (pc (fun i => infl l (fr + i)) h p, ())) := by
 have gf : fits ((h : Int) + p) := by unfold fits; omega
 have key : ∀ (n i : Nat), h + p - i = n → i ≤ h + p → r1_Part_L3 l fr h p i (pc (fun i => infl l (fr + i)) 0 (min i h)) (pc (fun i => infl l (fr + i)) h (i - h)) = some (pc (fun i => infl l (fr + i)) 0 h, (pc (fun i => infl l (fr + i)) h p, ())) := by
  intro n
  induction n with
  | zero =>
   intro i hn hi
   obtain rfl : i = h + p := by omega
   rw [r1_Part_L3_eq]; unfold r1_Part_L3_B
   rw [G_pos gf, if_neg (by simp only [decide_eq_true_eq]; omega), show min (h + p) h = h by omega, show h + p - h = p by omega]
  | succ n ih =>
   intro i hn hi
   rw [r1_Part_L3_eq]; unfold r1_Part_L3_B
   rw [G_pos gf, if_pos (by simp only [decide_eq_true_eq]; omega), G_pos (by unfold fits; omega), show (l.1, (l.2.1, ())) = l from rfl, r1_At_spec (by omega) (by omega) hp hs, Option.bind_some]
   have ih := ih (i + 1) (by omega) (by omega)
   by_cases hlt : i < h
   ·rw [if_pos (by simp only [decide_eq_true_eq]; omega), G_pos (by unfold room; rw [pc_len]; simp; omega), G_pos (by unfold fits; omega)]
    rw [show min (i + 1) h = min i h + 1 by omega, pc_snoc, show i + 1 - h = i - h by omega] at ih
    rw [show (0 : Int) + (min i h : Nat) = (i : Int) by omega] at ih
    exact ih
   ·rw [if_neg (by simp only [decide_eq_true_eq]; omega), G_pos (by unfold room; rw [pc_len]; simp; omega), G_pos (by unfold fits; omega)]
    rw [show min (i + 1) h = min i h by omega, show i + 1 - h = (i - h) + 1 by omega, pc_snoc] at ih
    rw [show (h : Int) + (i - h : Nat) = (i : Int) by omega] at ih
    exact ih
 have := key _ 0 rfl (by omega)
 rw [show min 0 h = 0 by omega, show 0 - h = 0 by omega] at this
 exact this
/-! ### the shortest one -/
/-- What is left of a lasso behind so many letters. -/
def tl (l : Las) (fr : Int) (i : Int) : Int := infl l (fr + i)
theorem tl_per {l : Las} (hp : 0 < (l.2.1.length : Int)) {fr : Int} (f0 : 0 ≤ fr) : Per (tl l fr) l.1.length l.2.1.length := fun i hi => by
 unfold tl
 rw [show fr + (i + (l.2.1.length : Int)) = fr + i + l.2.1.length by omega]
 exact (infl_reads hp).per _ (by omega)
theorem pc_reads {f : Int → Int} {h p : Nat} (hp : 0 < p) (r : Per f h p) : Reads f (pc f 0 h) (pc f h p) := by
 refine ⟨fun i a b => ?_, fun j a b => ?_, ?_, by rw [pc_len]; omega⟩
 ·rw [pc_len] at b; rw [pc_ix a b]; congr 1; omega
 ·rw [pc_len] at b ⊢; rw [pc_ix a b]
 ·rw [pc_len, pc_len]; exact r
theorem reads_pc {f : Int → Int} {u v : List Int} (r : Reads f u v) : u = pc f 0 u.length ∧ v = pc f u.length v.length := by
 refine ⟨ix_ext (by rw [pc_len]) fun j j0 j1 => ?_, ix_ext (by rw [pc_len]) fun j j0 j1 => ?_⟩
 ·rw [pc_ix j0 (by omega), ← r.head j j0 j1]; congr 1; omega
 ·rw [pc_ix j0 (by omega), ← r.loop j j0 j1]
/-- The head of the shortest one is the shortest behind which the word goes round at all. -/
theorem nrm_head {f : Int → Int} {u v : List Int} (r : Reads f u v) (n : Nrm f u v) {N m : Int} (hN : 0 ≤ N) (hm : 0 < m) (hp : Per f N m) : (u.length : Int) ≤ N := by
 refine Decidable.byContradiction fun hlt => ?_
 have hl : N < u.length := by omega
 rcases n.last with h | h
 ·omega
 ·have k1 := hp.mul (by omega) v.length ((u.length : Int) - 1) (by omega)
  have k2 := r.per.mul (by have := r.pos; omega) (m.toNat - 1) ((u.length : Int) - 1 + v.length) (by have := r.pos; omega)
  refine h ?_
  rw [← k1, ← k2]
  congr 1
  have e : ((m.toNat - 1 : Nat) : Int) = m - 1 := by omega
  rw [e, Int.sub_mul, Int.mul_comm m]; omega
theorem one_pc {f : Int → Int} {a : Las} (hr : Reads f a.1 a.2.1) (ha : ∀ i, 0 ≤ i → infl a i = f i) {h p : Nat} (hp : 0 < p) : One (pc f 0 h, (pc f h p, ())) a ↔ Per f h p := by
 have hpos : 0 < (((pc f 0 h, (pc f h p, ())) : Las).2.1.length : Int) := by show 0 < ((pc f h p).length : Int); rw [pc_len]; omega
 have r0 := infl_reads hpos
 constructor
 ·intro h1 i hi
  have k1 := h1 i (by omega)
  have k2 := h1 (i + p) (by omega)
  have k3 := r0.per i (by show ((pc f 0 h).length : Int) ≤ i; rw [pc_len]; exact hi)
  rw [show ((((pc f 0 h, (pc f h p, ())) : Las).2.1.length : Nat) : Int) = p by show ((pc f h p).length : Int) = p; rw [pc_len]] at k3
  rw [← ha i (by omega), ← ha (i + p) (by omega), ← k1, ← k2, k3]
 ·intro hper i hi
  rw [ha i hi]
  exact (pc_reads hp hper).same r0 _ i hi (Nat.le_refl _) |>.symm
theorem reads_congr {f g : Int → Int} (h : ∀ i : Int, 0 ≤ i → f i = g i) {u p : List Int} (r : Reads f u p) (n : Nrm f u p) : Reads g u p ∧ Nrm g u p := by
 have per : ∀ {m : Int}, 0 < m → (Per f u.length m ↔ Per g u.length m) := fun hm => ⟨fun hp i hi => by rw [← h _ (by omega), ← h _ (by omega)]; exact hp i hi, fun hp i hi => by rw [h _ (by omega), h _ (by omega)]; exact hp i hi⟩
 refine ⟨⟨fun i a b => by rw [← h i a]; exact r.head i a b, fun j a b => by rw [← h _ (by omega)]; exact r.loop j a b, (per r.pos).1 r.per, r.pos⟩, ⟨fun m hm hp => n.least m hm ((per hm).2 hp), ?_⟩⟩
 by_cases h0 : (u.length : Int) = 0
 ·exact .inl h0
 ·rcases n.last with h1 | h1
  ·exact .inl h1
  ·right; rw [← h _ (by omega), ← h _ (by omega)]; exact h1

theorem tl_infl (l : Las) {i : Int} (h : 0 ≤ i) : infl l i = tl l 0 i := by unfold tl; rw [Int.zero_add]
/-- The reference's answer is the shortest one. -/
theorem r1_Least_J2_spec {l : Las} (hp : 0 < (l.2.1.length : Int)) (h1 : l.1.length ≤ 60) (h2 : l.2.1.length ≤ 60) {fr : Int} (f0 : 0 ≤ fr) (f1 : fr ≤ 200) :
  ∃ u v, r1_Least_J2 l fr = some (u, (v, ())) ∧ Reads (tl l fr) u v ∧ Nrm (tl l fr) u v ∧ v.length ≤ 60 ∧ u.length ≤ 60 := by
 have hf : (fun i => infl l (fr + i)) = tl l fr := rfl
 have part := fun {h p : Nat} (a : h ≤ 1000) (b : p ≤ 1000) => r1_Part_spec (l := l) f0 (by omega) hp (by omega) a b
 rw [hf] at part
 have per := tl_per hp f0
 have hpn : 0 < l.2.1.length := by omega
 generalize hy : ((pc (tl l fr) 0 l.1.length, (pc (tl l fr) l.1.length l.2.1.length, ())) : Las) = y at *
 have ry : Reads (tl l fr) y.1 y.2.1 := by rw [← hy]; exact pc_reads hpn per
 have y1 : y.1.length = l.1.length := by rw [← hy]; exact pc_len _ _ _
 have y2 : y.2.1.length = l.2.1.length := by rw [← hy]; exact pc_len _ _ _
 have hpy : 0 < (y.2.1.length : Int) := by omega
 have iy : ∀ i, 0 ≤ i → infl y i = tl l fr i := fun i hi => (infl_reads hpy).same ry _ i hi (Nat.le_refl _)
 obtain ⟨u, v, _, n2, n3, n4, n5⟩ := word_normal_spec (l := y) (by omega) (by omega) (by omega)
 obtain ⟨r, n⟩ := reads_congr iy n2 n3
 have hv := r.pos
 obtain ⟨eu, ev⟩ := reads_pc r
 refine ⟨u, v, ?_, r, n, by omega, by omega⟩
 unfold r1_Least_J2
 rw [show (l.1, (l.2.1, ())) = l from rfl]
 refine bind_to (part (by omega) (by omega)) ?_
 have eqy : (pc (tl l fr) 0 l.1.length, (pc (tl l fr) l.1.length l.2.1.length, ())) = y := hy
 rw [eqy]
 -- one try
 have try1 : ∀ (h p : Nat), h ≤ 60 → 0 < p → p ≤ 60 → ∃ b, r1_Same (pc (tl l fr) 0 h, (pc (tl l fr) h p, ())) y = some b ∧ (b = true ↔ Per (tl l fr) h p) := fun h p hh p0 hp' => by
  obtain ⟨b, e, hb⟩ := r1_Same_spec (a := (pc (tl l fr) 0 h, (pc (tl l fr) h p, ()))) (b := y) (by show 0 < ((pc (tl l fr) h p).length : Int); rw [pc_len]; omega) hpy (by show (pc (tl l fr) 0 h).length ≤ 1000; rw [pc_len]; omega) (by show (pc (tl l fr) h p).length ≤ 1000; rw [pc_len]; omega) (by omega) (by omega)
  exact ⟨b, e, hb.trans (one_pc ry iy p0)⟩
 have bad : ∀ (h p : Nat), 0 < p → Per (tl l fr) h p → u.length ≤ h ∧ (h = u.length → v.length ≤ p) := fun h p p0 hper => by
  have := nrm_head r n (N := h) (m := p) (by omega) (by omega) hper
  exact ⟨by omega, fun e => by subst e; have := n.least p (by omega) hper; omega⟩
 have good : Per (tl l fr) u.length v.length := r.per
 -- the loop over loops
 have k8 : ∀ (m p h : Nat), l.2.1.length + 1 - p = m → 0 < p → p ≤ l.2.1.length + 1 → h ≤ 60 →
   (h = u.length → p ≤ v.length → r1_Least_L8 l fr y h (r1_Least_L5 l fr y) p = some (u, (v, ()))) ∧ ((∀ q : Nat, p ≤ q → q ≤ l.2.1.length → ¬ Per (tl l fr) h q) → r1_Least_L8 l fr y h (r1_Least_L5 l fr y) p = r1_Least_L5 l fr y ((h : Int) + 1)) := by
  intro m
  induction m with
  | zero =>
   intro p h hm p0 p1 hh
   refine ⟨fun e c => by omega, fun _ => ?_⟩
   rw [r1_Least_L8_eq]; unfold r1_Least_L8_B
   rw [if_neg (by simp only [decide_eq_true_eq]; omega), G_pos (by unfold fits; omega)]
  | succ m ih =>
   intro p h hm p0 p1 hh
   have pl : p ≤ l.2.1.length := by omega
   obtain ⟨b, e, hb⟩ := try1 h p hh p0 (by omega)
   obtain ⟨ih1, ih2⟩ := ih (p + 1) h (by omega) (by omega) (by omega) hh
   have step : r1_Least_L8 l fr y h (r1_Least_L5 l fr y) p = if b = true then some (pc (tl l fr) 0 h, (pc (tl l fr) h p, ())) else r1_Least_L8 l fr y h (r1_Least_L5 l fr y) ((p + 1 : Nat) : Int) := by
    conv => lhs; rw [r1_Least_L8_eq]; unfold r1_Least_L8_B
    rw [if_pos (by simp only [decide_eq_true_eq]; omega), show (l.1, (l.2.1, ())) = l from rfl, part (by omega) (by omega), Option.bind_some]
    rw [show (y.1, (y.2.1, ())) = y from rfl, e, Option.bind_some, G_pos (by unfold fits; omega)]
    rfl
   refine ⟨fun eh c => ?_, fun hq => ?_⟩
   ·rw [step]
    by_cases cp : p = v.length
    ·subst cp; subst eh
     rw [if_pos (hb.2 good), ← eu, ← ev]
    ·have : ¬ b = true := fun h => by have := (bad _ p p0 (hb.1 h)).2 eh; omega
     rw [if_neg this]
     exact ih1 eh (by omega)
   ·have : ¬ b = true := fun h => hq p (Nat.le_refl _) pl (hb.1 h)
    rw [step, if_neg this]
    exact ih2 fun q a b => hq q (by omega) b
 have k5 : ∀ (m h : Nat), u.length - h = m → h ≤ u.length → r1_Least_L5 l fr y h = some (u, (v, ())) := by
  intro m
  induction m with
  | zero =>
   intro h hm hh
   rw [r1_Least_L5_eq]; unfold r1_Least_L5_B
   rw [if_pos (by simp only [decide_eq_true_eq]; omega)]
   exact (k8 _ 1 h rfl (by omega) (by omega) (by omega)).1 (by omega) (by omega)
  | succ m ih =>
   intro h hm hh
   have := ih (h + 1) (by omega) (by omega)
   rw [r1_Least_L5_eq]; unfold r1_Least_L5_B
   rw [if_pos (by simp only [decide_eq_true_eq]; omega)]
   exact ((k8 _ 1 h rfl (by omega) (by omega) (by omega)).2 (fun q a b c => by have := (bad h q (by omega) c).1; omega)).trans this
 exact k5 _ 0 rfl (by omega)
theorem tl_mod {l : Las} (hp : 0 < (l.2.1.length : Int)) {n : Int} (hn : (l.1.length : Int) < n) {i : Int} (hi : 0 ≤ i) : tl l ((l.1.length : Int) + Int.tmod (n - l.1.length) l.2.1.length) i = tl l n i := by
 unfold tl
 rw [Int.tmod_eq_emod_of_nonneg (by omega : 0 ≤ n - (l.1.length : Int))]
 have q0 := Int.emod_nonneg (n - l.1.length) (by omega : (l.2.1.length : Int) ≠ 0)
 have e := Int.mul_ediv_add_emod (n - l.1.length) l.2.1.length
 have d0 : 0 ≤ (n - (l.1.length : Int)) / l.2.1.length := Int.ediv_nonneg (by omega) (by omega)
 have k := (infl_reads hp).per.mul (by omega) ((n - (l.1.length : Int)) / l.2.1.length).toNat ((l.1.length : Int) + (n - l.1.length) % l.2.1.length + i) (by omega)
 rw [Int.toNat_of_nonneg d0] at k
 rw [← k]; congr 1
 rw [Int.mul_comm] at e; omega
theorem r1_Least_spec {l : Las} (hp : 0 < (l.2.1.length : Int)) (h1 : l.1.length ≤ 60) (h2 : l.2.1.length ≤ 60) {n : Int} (n0 : 0 ≤ n) (n1 : n ≤ 9223372036854775807) :
  ∃ u v, r1_Least l n = some (u, (v, ())) ∧ Reads (tl l n) u v ∧ Nrm (tl l n) u v ∧ v.length ≤ 60 ∧ u.length ≤ 60 := by
 unfold r1_Least
 by_cases hlt : (l.1.length : Int) < n
 ·have q0 := Int.tmod_nonneg (l.2.1.length : Int) (by omega : 0 ≤ n - l.1.length)
  have q1 := Int.tmod_lt_of_pos (n - l.1.length) hp
  obtain ⟨u, v, e1, e2, e3, e4, e5⟩ := r1_Least_J2_spec hp h1 h2 (fr := (l.1.length : Int) + Int.tmod (n - l.1.length) l.2.1.length) (by omega) (by omega)
  obtain ⟨e2, e3⟩ := reads_congr (fun i hi => tl_mod hp hlt hi) e2 e3
  exact ⟨u, v, by rw [if_pos (decide_eq_true hlt), G_pos (by unfold fits; omega), G_pos (by omega), G_pos (by unfold fits; omega)]; exact e1, e2, e3, e4, e5⟩
 ·obtain ⟨u, v, e1, e2, e3, e4, e5⟩ := r1_Least_J2_spec hp h1 h2 (fr := n) n0 (by omega)
  exact ⟨u, v, by rw [if_neg (by simpa using hlt)]; exact e1, e2, e3, e4, e5⟩
/-! ### the program's -/
theorem word_Normal_spec {l : Las} : (¬ lasE 4 l = 0 → word_Normal l = some ([], [], lasE 4 l)) ∧ (lasE 4 l = 0 → ∃ u v, word_Normal l = some (u, v, 0) ∧ Reads (tl l 0) u v ∧ Nrm (tl l 0) u v ∧ v.length ≤ 60 ∧ u.length ≤ 60) := by
 have hL : word_Lasso 4 (l.1, (l.2.1, ())) = some (lasE 4 l) := word_Lasso_spec
 constructor
 ·intro h
  unfold word_Normal
  refine bind_to hL ?_
  rw [if_pos (by simpa using h)]
 ·intro h
  obtain ⟨a1, a2, a3⟩ := lasE_zero h
  have a1 := (mayE_zero a1).2.1; have a2 := (mayE_zero a2).2.1
  obtain ⟨u, v, e1, e2, e3, e4, e5⟩ := word_normal_spec (l := l) (by omega) (by omega) (by omega)
  obtain ⟨r, n⟩ := reads_congr (fun i hi => tl_infl l hi) e2 e3
  refine ⟨u, v, ?_, r, n, by omega, by omega⟩
  unfold word_Normal
  refine bind_to hL ?_
  rw [if_neg (by simpa using h)]
  exact bind_to e1 rfl
theorem word_Rest_spec {l : Las} {n : Int} (n1 : n ≤ 9223372036854775807) : (¬ lasE 4 l = 0 → word_Rest l n = some ([], [], lasE 4 l)) ∧ (lasE 4 l = 0 → n < 0 → word_Rest l n = some ([], [], 2)) ∧
  (lasE 4 l = 0 → 0 ≤ n → ∃ u v, word_Rest l n = some (u, v, 0) ∧ Reads (tl l n) u v ∧ Nrm (tl l n) u v ∧ v.length ≤ 60 ∧ u.length ≤ 60) := by
 have hL : word_Lasso 4 (l.1, (l.2.1, ())) = some (lasE 4 l) := word_Lasso_spec
 refine ⟨fun h => ?_, fun h hn => ?_, fun h hn => ?_⟩
 ·unfold word_Rest
  refine bind_to hL ?_
  rw [if_pos (by simpa using h)]
 ·unfold word_Rest
  refine bind_to hL ?_
  rw [if_neg (by simpa using h), if_pos (decide_eq_true hn)]
 ·obtain ⟨a1, a2, a3⟩ := lasE_zero h
  have a1 := (mayE_zero a1).2.1; have a2 := (mayE_zero a2).2.1
  unfold word_Rest
  by_cases hlt : n < (l.1.length : Int)
  ·have hc := cut_len (l := l.1) (i := n) (j := l.1.length) hn (by omega) (by omega)
   obtain ⟨u, v, e1, e2, e3, e4, e5⟩ := word_normal_spec (l := (cut l.1 n (l.1.length : Int), (l.2.1, ()))) (by show 0 < (l.2.1.length : Int); omega) (by show (cut l.1 n (l.1.length : Int)).length ≤ 1000; omega) (by show l.2.1.length ≤ 1000; omega)
   have cong : ∀ i, 0 ≤ i → infl (cut l.1 n (l.1.length : Int), (l.2.1, ())) i = tl l n i := by
    intro i hi
    unfold tl infl
    show (if i < ((cut l.1 n (l.1.length : Int)).length : Int) then ix (cut l.1 n (l.1.length : Int)) i else ix l.2.1 ((i - ((cut l.1 n (l.1.length : Int)).length : Int)) % l.2.1.length)) = _
    rw [hc]
    by_cases c : i < (l.1.length : Int) - n
    ·rw [if_pos c, if_pos (by omega), ix_cut hn hi (by omega)]
    ·rw [if_neg c, if_neg (by omega)]; congr 2; omega
   obtain ⟨r, nn⟩ := reads_congr cong e2 e3
   have e4 : u.length ≤ (cut l.1 n (l.1.length : Int)).length := e4
   have e5 : v.length ≤ l.2.1.length := e5
   refine ⟨u, v, ?_, r, nn, by omega, by omega⟩
   refine bind_to hL ?_
   rw [if_neg (by simpa using h), if_neg (by simp only [decide_eq_true_eq]; omega), if_pos (decide_eq_true hlt), G_pos (by omega)]
   exact bind_to e1 rfl
  ·have hpp : 0 < (l.2.1.length : Int) := by omega
   have q0 := Int.tmod_nonneg (l.2.1.length : Int) (by omega : 0 ≤ n - l.1.length)
   have q1 := Int.tmod_lt_of_pos (n - l.1.length) hpp
   have qe : Int.tmod (n - l.1.length) (l.2.1.length : Int) = (n - l.1.length) % l.2.1.length := Int.tmod_eq_emod_of_nonneg (by omega)
   have gf : fits (n - (l.1.length : Int)) := by unfold fits; omega
   generalize ht : Int.tmod (n - l.1.length) (l.2.1.length : Int) = t at *
   have c1 := cut_len (l := l.2.1) (i := t) (j := l.2.1.length) q0 (by omega) (by omega)
   have c2 := cut_len (l := l.2.1) (i := 0) (j := t) (by omega) q0 (by omega)
   have hlen : ((cut l.2.1 t (l.2.1.length : Int) ++ cut l.2.1 0 t).length : Int) = l.2.1.length := by rw [List.length_append]; omega
   obtain ⟨u, v, e1, e2, e3, e4, e5⟩ := word_normal_spec (l := (([] : List Int), (cut l.2.1 t (l.2.1.length : Int) ++ cut l.2.1 0 t, ()))) (by show 0 < ((cut l.2.1 t (l.2.1.length : Int) ++ cut l.2.1 0 t).length : Int); omega) (by simp) (by show (cut l.2.1 t (l.2.1.length : Int) ++ cut l.2.1 0 t).length ≤ 1000; omega)
   have cong : ∀ i, 0 ≤ i → infl (([] : List Int), (cut l.2.1 t (l.2.1.length : Int) ++ cut l.2.1 0 t, ())) i = tl l n i := by
    intro i hi
    unfold tl infl
    show (if i < (([] : List Int).length : Int) then ix ([] : List Int) i else ix (cut l.2.1 t (l.2.1.length : Int) ++ cut l.2.1 0 t) ((i - (([] : List Int).length : Int)) % ((cut l.2.1 t (l.2.1.length : Int) ++ cut l.2.1 0 t).length : Int))) = _
    rw [hlen, if_neg (by simp; omega), if_neg (by omega)]
    have e : (n + i - l.1.length) % (l.2.1.length : Int) = (t + i) % l.2.1.length := by
     rw [qe, show n + i - (l.1.length : Int) = (n - l.1.length) + i by omega]
     exact (Int.emod_add_emod _ _ _).symm
    rw [e]
    have r0 := Int.emod_nonneg i (by omega : (l.2.1.length : Int) ≠ 0)
    have r1 := Int.emod_lt_of_pos i hpp
    rw [show i - (([] : List Int).length : Int) = i by simp, ← Int.add_emod_emod]
    generalize i % (l.2.1.length : Int) = x at r0 r1
    by_cases c : x < (l.2.1.length : Int) - t
    ·rw [ix_append_left r0 (by omega), ix_cut q0 r0 (by omega), Int.emod_eq_of_lt (by omega) (by omega)]
    ·rw [ix_append_right (by omega), c1, ix_cut (by omega) (by omega) (by omega)]
     rw [show t + x = (t + x - l.2.1.length) + l.2.1.length by omega, Int.add_emod_right, Int.emod_eq_of_lt (by omega) (by omega)]
     congr 1; omega
   obtain ⟨r, nn⟩ := reads_congr cong e2 e3
   have e4 : u.length ≤ ([] : List Int).length := e4
   have e5 : v.length ≤ (cut l.2.1 t (l.2.1.length : Int) ++ cut l.2.1 0 t).length := e5
   refine ⟨u, v, ?_, r, nn, by omega, by simp at e4; simp [e4]⟩
   refine bind_to hL ?_
   rw [if_neg (by simpa using h), if_neg (by simp only [decide_eq_true_eq]; omega), if_neg (by simpa using hlt), G_pos gf, G_pos (by omega), G_pos (by omega), G_pos (by omega)]
   refine bind_to (slices_Clone_spec (by omega)) ?_
   exact G_to (by unfold room; omega) (bind_to e1 rfl)
theorem r1_Alike_spec {a b : Las} (h1 : a.1.length ≤ 2305843009213693951) (h2 : a.2.1.length ≤ 2305843009213693951) : r1_Alike a b = some (decide (a.1 = b.1) && decide (a.2.1 = b.2.1)) := by
 unfold r1_Alike
 refine bind_to (r1_Words_spec h1) (bind_to (r1_Words_spec h2) ?_)
 cases decide (a.1 = b.1) <;> rfl
theorem r1_Alike_1_same {u v : List Int} (h1 : u.length ≤ 60) (h2 : v.length ≤ 60) : r1_Alike_1 (u, (v, ())) u v = some (true, u, v) := by
 unfold r1_Alike_1
 refine bind_to (r1_Words_spec (by omega)) (bind_to (r1_Words_spec (by show v.length ≤ _; omega)) ?_)
 simp
theorem law_true (a : Las) (n : Int) (sa : Sml (.pair (.list (.int .i64)) (.pair (.list (.int .i64)) .unit)) a) (sn : Sml (.int .i64) n) : law_WordNormal a n = some true := by
 have l1 : a.1.length * 8 ≤ 140737488351232 := sa.1.1
 have l2 : a.2.1.length * 8 ≤ 140737488351232 := sa.2.1.1
 have n1 : n ≤ 9223372036854775807 := sn.2
 have hl : law_lasso a = some a := by
  unfold law_lasso
  exact bind_to (list_spec l1) (bind_to (list_spec l2) rfl)
 have hal : r1_Alike a a = some true := by rw [r1_Alike_spec (by omega) (by omega)]; simp
 have hra : r1_Lasso 4 a = some (lasE 4 a) := r1_Lasso_spec
 obtain ⟨N1, N2⟩ := word_Normal_spec (l := a)
 obtain ⟨R1, R2, R3⟩ := word_Rest_spec (l := a) n1
 have no : ∀ {u v : List Int}, u.length ≤ 60 → v.length ≤ 60 → law_noLasso_1 u v = some (decide ((u.length : Int) + v.length = 0), u, v) := fun h1 h2 => by
  unfold law_noLasso_1; rw [G_pos (by unfold fits; omega)]
 unfold law_WordNormal
 refine bind_to hl ?_
 rw [show (a.1, (a.2.1, ())) = a from rfl]
 by_cases he : lasE 4 a = 0
 ·obtain ⟨a1, a2, a3⟩ := lasE_zero he
  have a1 := (mayE_zero a1).2.1; have a2 := (mayE_zero a2).2.1
  obtain ⟨u, v, e1, e2, e3, e4, e5⟩ := N2 he
  obtain ⟨u', v', L1, L2, L3, _, _⟩ := r1_Least_spec (l := a) (by omega) (by omega) (by omega) (Int.le_refl 0) (by omega)
  obtain ⟨rfl, rfl⟩ := nrm_unique L2 L3 e2 e3
  refine bind_to e1 ?_
  by_cases hn : n < 0
  ·refine bind_to (R2 he hn) (bind_to hal (bind_to hra (bind_to (no e5 e4) (bind_to (no (by simp) (by simp)) ?_))))
   rw [he]
   refine itef_to (itef_to ?_)
   refine bind_to L1 (bind_to (r1_Alike_1_same e5 e4) ?_)
   refine itef_to (itef_to ?_)
   rw [if_pos (decide_eq_true hn)]
   rfl
  ·obtain ⟨x, z, z1, z2, z3, z4, z5⟩ := R3 he (by omega)
   obtain ⟨x', z', M1, M2, M3, _, _⟩ := r1_Least_spec (l := a) (by omega) (by omega) (by omega) (show 0 ≤ n by omega) n1
   obtain ⟨rfl, rfl⟩ := nrm_unique M2 M3 z2 z3
   refine bind_to z1 (bind_to hal (bind_to hra (bind_to (no e5 e4) (bind_to (no z5 z4) ?_))))
   rw [he]
   refine itef_to (itef_to ?_)
   refine bind_to L1 (bind_to (r1_Alike_1_same e5 e4) ?_)
   refine itef_to (itef_to ?_)
   rw [if_neg (by simpa using hn)]
   refine bind_to M1 (bind_to (r1_Alike_1_same z5 z4) ?_)
   refine bind_to rfl (bind_to rfl (bind_to rfl (bind_to rfl (bind_to hal ?_))))
   rfl
 ·refine bind_to (N1 he) (bind_to (R1 he) (bind_to hal (bind_to hra (bind_to (no (by simp) (by simp)) (bind_to (no (by simp) (by simp)) ?_)))))
  refine itef_to ?_
  rw [if_pos (by simpa using he)]
  simp

end Go.Proofs.Ytnifconnkohabaa.wordNormalW
