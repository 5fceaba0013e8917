/- The law 'LyndonFactors' of the plain functions. -/
import Derived.Test.YtgjpkfbaobanlaaLyndonFactorsD
set_option maxHeartbeats 1000000
set_option maxRecDepth 20000
set_option linter.unusedSimpArgs false
set_option linter.unusedVariables false
namespace Go.Proofs.Ytgjpkfbaobanlaa.lyndonFactorsW
open Go Go.Ab
theorem r1_Words_L4_spec {a b : List Int} (hl : a.length = b.length) : ∀ (n : Nat) (i : Int), 0 ≤ i → i ≤ a.length → (a.length - i).toNat = n → a.length ≤ 2305843009213693951 → (∀ j : Int, 0 ≤ j → j < i → ix a j = ix b j) → r1_Words_L4 a b i = some (decide (a = b)) := by
  intro n
  induction n with
  | zero =>
    intro i h0 h1 hn hs h
    rw [r1_Words_L4_eq]; unfold r1_Words_L4_B
    (try dsimp only); (repeat' first | (with_reducible refine G_to ?_ ?_; focus (first | omega | (unfold fits; omega) | (unfold room; (try simp only [List.length_append, List.length_cons, List.length_nil]); omega))) | (with_reducible refine itet_to ?_) | (with_reducible refine itef_to ?_) | (with_reducible refine ite_to (fun _ => ?_) (fun _ => ?_))) <;> try (exfalso; omega)
    · rw [Option.some_inj, eq_comm, decide_eq_true_iff]; exact ix_ext hl (fun j a b => h j a (by omega))
  | succ n ih =>
    intro i h0 h1 hn hs h
    rw [r1_Words_L4_eq]; unfold r1_Words_L4_B
    (try dsimp only); (repeat' first | (with_reducible refine G_to ?_ ?_; focus (first | omega | (unfold fits; omega) | (unfold room; (try simp only [List.length_append, List.length_cons, List.length_nil]); omega))) | (with_reducible refine itet_to ?_) | (with_reducible refine itef_to ?_) | (with_reducible refine ite_to (fun _ => ?_) (fun _ => ?_))) <;> try (exfalso; omega)
    · rw [Option.some_inj, eq_comm, decide_eq_false_iff_not]; rintro rfl; contradiction
    · rename_i hx; exact ih _ (by omega) (by omega) (by omega) hs (below_succ h (Decidable.not_not.1 hx))
theorem r1_Words_spec {a b : List Int} (hs : a.length ≤ 2305843009213693951) : r1_Words a b = some (decide (a = b)) := by
  unfold r1_Words
  (try dsimp only); (repeat' first | (with_reducible refine G_to ?_ ?_; focus (first | omega | (unfold fits; omega) | (unfold room; (try simp only [List.length_append, List.length_cons, List.length_nil]); omega))) | (with_reducible refine itet_to ?_) | (with_reducible refine itef_to ?_) | (with_reducible refine ite_to (fun _ => ?_) (fun _ => ?_))) <;> try (exfalso; omega)
  · rw [Option.some_inj, eq_comm, decide_eq_false_iff_not]; rintro rfl; contradiction
  · exact r1_Words_L4_spec (by omega) _ 0 (by omega) (by omega) rfl hs (fun j a b => by omega)

theorem r1_May_L6_spec {letters : Int} {w : List Int} (hL : 1 ≤ letters ∧ letters ≤ 4) (hw : w.length ≤ (60 : Int)) : ∀ (n : Nat) (i : Int), 0 ≤ i → i ≤ w.length → (w.length - i).toNat = n → (∀ j : Int, 0 ≤ j → j < i → 0 ≤ ix w j ∧ ix w j < letters) → r1_May_L6 letters w i = some (mayE letters w) := by
  intro n
  induction n with
  | zero =>
    intro i h0 h1 hn h
    rw [r1_May_L6_eq]; unfold r1_May_L6_B
    (try dsimp only); (repeat' first | (with_reducible refine G_to ?_ ?_; focus (first | omega | (unfold fits; omega) | (unfold room; (try simp only [List.length_append, List.length_cons, List.length_nil]); omega))) | (with_reducible refine itet_to ?_) | (with_reducible refine itef_to ?_) | (with_reducible refine ite_to (fun _ => ?_) (fun _ => ?_))) <;> try (exfalso; omega)
    · rw [mayE_ok hL hw (fun j a b => h j a (by omega))]
  | succ n ih =>
    intro i h0 h1 hn h
    rw [r1_May_L6_eq]; unfold r1_May_L6_B
    (try dsimp only); (repeat' first | (with_reducible refine G_to ?_ ?_; focus (first | omega | (unfold fits; omega) | (unfold room; (try simp only [List.length_append, List.length_cons, List.length_nil]); omega))) | (with_reducible refine itet_to ?_) | (with_reducible refine itef_to ?_) | (with_reducible refine ite_to (fun _ => ?_) (fun _ => ?_))) <;> try (exfalso; omega)
    · rw [mayE_bad hL hw (i := i) (by omega) (by omega)]
    · rw [mayE_bad hL hw (i := i) (by omega) (by omega)]
    · exact ih _ (by omega) (by omega) (by omega) (below_succ h (by omega))
theorem r1_May_spec {letters : Int} {w : List Int} : r1_May letters w = some (mayE letters w) := by
  unfold r1_May
  (try dsimp only); (repeat' first | (with_reducible refine G_to ?_ ?_; focus (first | omega | (unfold fits; omega) | (unfold room; (try simp only [List.length_append, List.length_cons, List.length_nil]); omega))) | (with_reducible refine itet_to ?_) | (with_reducible refine itef_to ?_) | (with_reducible refine ite_to (fun _ => ?_) (fun _ => ?_))) <;> try (exfalso; omega)
  · rw [mayE_range (by omega)]
  · rw [mayE_range (by omega)]
  · rw [mayE_size (by omega) (by omega)]
  · exact r1_May_L6_spec (by omega) (by omega) _ 0 (by omega) (by omega) rfl (fun j a b => by omega)

theorem word_May_L6_spec {letters : Int} {w : List Int} (hL : 1 ≤ letters ∧ letters ≤ 4) (hw : w.length ≤ (60 : Int)) : ∀ (n : Nat) (i : Int), 0 ≤ i → i ≤ w.length → (w.length - i).toNat = n → (∀ j : Int, 0 ≤ j → j < i → 0 ≤ ix w j ∧ ix w j < letters) → word_May_L6 letters w i = some (mayE letters w) := by
  intro n
  induction n with
  | zero =>
    intro i h0 h1 hn h
    rw [word_May_L6_eq]; unfold word_May_L6_B
    (try dsimp only); (repeat' first | (with_reducible refine G_to ?_ ?_; focus (first | omega | (unfold fits; omega) | (unfold room; (try simp only [List.length_append, List.length_cons, List.length_nil]); omega))) | (with_reducible refine itet_to ?_) | (with_reducible refine itef_to ?_) | (with_reducible refine ite_to (fun _ => ?_) (fun _ => ?_))) <;> try (exfalso; omega)
    · rw [mayE_ok hL hw (fun j a b => h j a (by omega))]
  | succ n ih =>
    intro i h0 h1 hn h
    rw [word_May_L6_eq]; unfold word_May_L6_B
    (try dsimp only); (repeat' first | (with_reducible refine G_to ?_ ?_; focus (first | omega | (unfold fits; omega) | (unfold room; (try simp only [List.length_append, List.length_cons, List.length_nil]); omega))) | (with_reducible refine itet_to ?_) | (with_reducible refine itef_to ?_) | (with_reducible refine ite_to (fun _ => ?_) (fun _ => ?_))) <;> try (exfalso; omega)
    · rw [mayE_bad hL hw (i := i) (by omega) (by omega)]
    · rw [mayE_bad hL hw (i := i) (by omega) (by omega)]
    · exact ih _ (by omega) (by omega) (by omega) (below_succ h (by omega))
theorem word_May_spec {letters : Int} {w : List Int} : word_May letters w = some (mayE letters w) := by
  unfold word_May
  (try dsimp only); (repeat' first | (with_reducible refine G_to ?_ ?_; focus (first | omega | (unfold fits; omega) | (unfold room; (try simp only [List.length_append, List.length_cons, List.length_nil]); omega))) | (with_reducible refine itet_to ?_) | (with_reducible refine itef_to ?_) | (with_reducible refine ite_to (fun _ => ?_) (fun _ => ?_))) <;> try (exfalso; omega)
  · rw [mayE_range (by omega)]
  · rw [mayE_range (by omega)]
  · rw [mayE_size (by omega) (by omega)]
  · exact word_May_L6_spec (by omega) (by omega) _ 0 (by omega) (by omega) rfl (fun j a b => by omega)

theorem lyndon_may_L2_spec {l : List (List Int)} (hs : l.length ≤ 1000) : ∀ (n : Nat) (i : Int), 0 ≤ i → i ≤ l.length → (l.length - i).toNat = n → lyndon_may_L2 l i = some (((l.drop i.toNat).map (mayE 4)).foldr (fun x y => if x = 0 then y else x) 0) := by
  intro n
  induction n with
  | zero =>
    intro i h0 h1 hn
    rw [lyndon_may_L2_eq]; unfold lyndon_may_L2_B
    (try dsimp only); (repeat' first | (with_reducible refine G_to ?_ ?_; focus (first | omega | (unfold fits; omega) | (unfold room; (try simp only [List.length_append, List.length_cons, List.length_nil]); omega))) | (with_reducible refine itet_to ?_) | (with_reducible refine itef_to ?_) | (with_reducible refine ite_to (fun _ => ?_) (fun _ => ?_))) <;> try (exfalso; omega)
    rw [List.drop_of_length_le (by omega)]; rfl
  | succ n ih =>
    intro i h0 h1 hn
    rw [lyndon_may_L2_eq]; unfold lyndon_may_L2_B
    (try dsimp only); (repeat' first | (with_reducible refine G_to ?_ ?_; focus (first | omega | (unfold fits; omega) | (unfold room; (try simp only [List.length_append, List.length_cons, List.length_nil]); omega))) | (with_reducible refine itet_to ?_) | (with_reducible refine itef_to ?_) | (with_reducible refine ite_to (fun _ => ?_) (fun _ => ?_))) <;> try (exfalso; omega)
    refine bind_to (y := mayE 4 (ix l i)) word_May_spec ?_
    rw [ix_drop h0 (by omega), List.map_cons, List.foldr_cons]
    (try dsimp only); (repeat' first | (with_reducible refine G_to ?_ ?_; focus (first | omega | (unfold fits; omega) | (unfold room; (try simp only [List.length_append, List.length_cons, List.length_nil]); omega))) | (with_reducible refine itet_to ?_) | (with_reducible refine itef_to ?_) | (with_reducible refine ite_to (fun _ => ?_) (fun _ => ?_))) <;> try (exfalso; omega)
    · rename_i h; rw [if_neg h]
    · rename_i h; rw [if_pos (Decidable.not_not.1 h)]; exact ih _ (by omega) (by omega) (by omega)
theorem lyndon_may1 {a : List Int} : lyndon_may [a] = some (mayE 4 a) := by
  unfold lyndon_may
  rw [lyndon_may_L2_spec (by simp) _ 0 (by omega) (by omega) rfl]
  simp; omega
theorem lyndon_may2 {a b : List Int} : lyndon_may [a, b] = some (if mayE 4 a = 0 then mayE 4 b else mayE 4 a) := by
  unfold lyndon_may
  rw [lyndon_may_L2_spec (by simp) _ 0 (by omega) (by omega) rfl]
  simp; split <;> omega

theorem slices_Clone_spec {s : List Int} (hs : s.length * 8 ≤ 140737488355328) : slices_Clone s = some s := by
  have hr : G (room ([] : List Int) s 8) (some (([] : List Int) ++ s)) = some s := by
    rw [G_pos (room_of (by simpa using hs))]; rfl
  unfold slices_Clone
  refine itep_to (fun h => ?_) (fun h => hr)
  obtain rfl : s = [] := List.length_eq_zero_iff.1 h
  rw [hr]; exact both_self (ts := [(.list (.int .i64))]) (some ([] : List Int))

/-- The first is ahead of the second. -/
def Ah (a b : List Int) : Prop := ∃ m : Int, 0 ≤ m ∧ m ≤ a.length ∧ m ≤ b.length ∧ (∀ t : Int, 0 ≤ t → t < m → ix a t = ix b t) ∧ ((m < a.length ∧ m < b.length ∧ ix a m < ix b m) ∨ (m = a.length ∧ m < b.length))
theorem not_Ah_self {a : List Int} : ¬ Ah a a := by
  rintro ⟨m, h0, h1, h2, h3, h | h⟩ <;> omega
theorem Ahead_L2 {a b : List Int} (ha : a.length ≤ 1000) (hb : b.length ≤ 1000) : ∀ (n : Nat) (i : Int), (a.length - i).toNat = n → 0 ≤ i → i ≤ a.length → i ≤ b.length → (∀ t : Int, 0 ≤ t → t < i → ix a t = ix b t) → ∃ c, r31_Ahead_L2 a b i = some c ∧ (c = true ↔ Ah a b) := by
  intro n
  induction n with
  | zero =>
    intro i hn h0 h1 h2 h
    refine ⟨decide ((a.length : Int) < b.length), ?_, ?_⟩
    · rw [r31_Ahead_L2_eq]; unfold r31_Ahead_L2_B
      (try dsimp only); (repeat' first | (with_reducible refine G_to ?_ ?_; focus (first | omega | (unfold fits; omega) | (unfold room; (try simp only [List.length_append, List.length_cons, List.length_nil]); omega))) | (with_reducible refine itet_to ?_) | (with_reducible refine itef_to ?_) | (with_reducible refine ite_to (fun _ => ?_) (fun _ => ?_)) | unfold r31_Ahead_J2) <;> try (exfalso; omega)
      rfl
    · rw [decide_eq_true_iff]
      constructor
      · intro hl; exact ⟨i, h0, h1, h2, h, .inr ⟨by omega, by omega⟩⟩
      · rintro ⟨m, g0, g1, g2, g3, g4⟩
        rcases g4 with ⟨e1, e2, e3⟩ | ⟨e1, e2⟩
        · have := h m g0 (by omega); omega
        · omega
  | succ n ih =>
    intro i hn h0 h1 h2 h
    by_cases hi : i < b.length
    · by_cases hx : ix a i = ix b i
      · obtain ⟨c, hc, hi2⟩ := ih (i + 1) (by omega) (by omega) (by omega) (by omega) (below_succ h hx)
        refine ⟨c, ?_, hi2⟩
        rw [r31_Ahead_L2_eq]; unfold r31_Ahead_L2_B
        unfold r31_Ahead_J2 r31_Ahead_J2_1
        rw [decide_eq_true hi]
        (try dsimp only); (repeat' first | (with_reducible refine G_to ?_ ?_; focus (first | omega | (unfold fits; omega) | (unfold room; (try simp only [List.length_append, List.length_cons, List.length_nil]); omega))) | (with_reducible refine itet_to ?_) | (with_reducible refine itef_to ?_) | (with_reducible refine ite_to (fun _ => ?_) (fun _ => ?_))) <;> try (exfalso; omega)
        exact hc
      · refine ⟨decide (ix a i < ix b i), ?_, ?_⟩
        · rw [r31_Ahead_L2_eq]; unfold r31_Ahead_L2_B
          unfold r31_Ahead_J2 r31_Ahead_J2_1
          rw [decide_eq_true hi]
          (try dsimp only); (repeat' first | (with_reducible refine G_to ?_ ?_; focus (first | omega | (unfold fits; omega) | (unfold room; (try simp only [List.length_append, List.length_cons, List.length_nil]); omega))) | (with_reducible refine itet_to ?_) | (with_reducible refine itef_to ?_) | (with_reducible refine ite_to (fun _ => ?_) (fun _ => ?_))) <;> try (exfalso; omega)
          rfl
        · rw [decide_eq_true_iff]
          constructor
          · intro hl; exact ⟨i, h0, h1, h2, h, .inl ⟨by omega, hi, hl⟩⟩
          · rintro ⟨m, g0, g1, g2, g3, g4⟩
            by_cases hm : m < i
            · rcases g4 with ⟨e1, e2, e3⟩ | ⟨e1, e2⟩
              · have := h m g0 hm; omega
              · omega
            · by_cases hm2 : i < m
              · exact absurd (g3 i h0 hm2) hx
              · have : m = i := by omega
                subst this
                rcases g4 with ⟨e1, e2, e3⟩ | ⟨e1, e2⟩
                · exact e3
                · omega
    · refine ⟨decide ((a.length : Int) < b.length), ?_, ?_⟩
      · rw [r31_Ahead_L2_eq]; unfold r31_Ahead_L2_B
        unfold r31_Ahead_J2
        rw [decide_eq_false hi]
        (try dsimp only); (repeat' first | (with_reducible refine G_to ?_ ?_; focus (first | omega | (unfold fits; omega) | (unfold room; (try simp only [List.length_append, List.length_cons, List.length_nil]); omega))) | (with_reducible refine itet_to ?_) | (with_reducible refine itef_to ?_) | (with_reducible refine ite_to (fun _ => ?_) (fun _ => ?_))) <;> try (exfalso; omega)
        rfl
      · rw [decide_eq_true_iff]
        constructor
        · intro hl; omega
        · rintro ⟨m, g0, g1, g2, g3, g4⟩
          rcases g4 with ⟨e1, e2, e3⟩ | ⟨e1, e2⟩
          · have := h m g0 (by omega); omega
          · omega
theorem Ahead_spec {a b : List Int} (ha : a.length ≤ 1000) (hb : b.length ≤ 1000) : ∃ c, r31_Ahead a b = some c ∧ (c = true ↔ Ah a b) :=
  Ahead_L2 ha hb _ 0 rfl (by omega) (by omega) (by omega) (fun t a b => by omega)
def LyL (u : List Int) : Prop := 0 < u.length ∧ ∀ k : Int, 1 ≤ k → k < u.length → Ah u (cut u k u.length)
theorem Lyndon_L2 {u : List Int} (hs : u.length ≤ 1000) (hu : LyL u) : ∀ (n : Nat) (k : Int), (u.length - k).toNat = n → 1 ≤ k → k ≤ u.length → r31_Lyndon_L2 u k = some true := by
  intro n
  induction n with
  | zero =>
    intro k hn h0 h1
    have := hu.1
    rw [r31_Lyndon_L2_eq]; unfold r31_Lyndon_L2_B
    (try dsimp only); (repeat' first | (with_reducible refine G_to ?_ ?_; focus (first | omega | (unfold fits; omega) | (unfold room; (try simp only [List.length_append, List.length_cons, List.length_nil]); omega))) | (with_reducible refine itet_to ?_) | (with_reducible refine itef_to ?_) | (with_reducible refine ite_to (fun _ => ?_) (fun _ => ?_))) <;> try (exfalso; omega)
    rw [decide_eq_true (by omega)]
  | succ n ih =>
    intro k hn h0 h1
    have hl : ((cut u k (u.length : Int)).length : Int) = u.length - k := cut_len (by omega) (by omega) (by omega)
    obtain ⟨c, hc, hi⟩ := Ahead_spec (a := u) (b := cut u k u.length) hs (by omega)
    obtain rfl := hi.2 (hu.2 k h0 (by omega))
    rw [r31_Lyndon_L2_eq]; unfold r31_Lyndon_L2_B
    (try dsimp only); (repeat' first | (with_reducible refine G_to ?_ ?_; focus (first | omega | (unfold fits; omega) | (unfold room; (try simp only [List.length_append, List.length_cons, List.length_nil]); omega))) | (with_reducible refine itet_to ?_) | (with_reducible refine itef_to ?_) | (with_reducible refine ite_to (fun _ => ?_) (fun _ => ?_))) <;> try (exfalso; omega)
    refine bind_to hc ?_
    rw [if_neg (by simp)]
    (try dsimp only); (repeat' first | (with_reducible refine G_to ?_ ?_; focus (first | omega | (unfold fits; omega) | (unfold room; (try simp only [List.length_append, List.length_cons, List.length_nil]); omega))) | (with_reducible refine itet_to ?_) | (with_reducible refine itef_to ?_) | (with_reducible refine ite_to (fun _ => ?_) (fun _ => ?_))) <;> try (exfalso; omega)
    exact ih (k + 1) (by omega) (by omega) (by omega)
theorem Lyndon_spec {u : List Int} (hs : u.length ≤ 1000) (hu : LyL u) : r31_Lyndon u = some true := by
  have := hu.1
  exact Lyndon_L2 hs hu _ 1 rfl (by omega) (by omega)
def Ly (w : List Int) (s p : Int) : Prop := 0 < p ∧ ∀ q : Int, 1 ≤ q → q < p → ∃ m : Int, 0 ≤ m ∧ m < p - q ∧ (∀ t : Int, 0 ≤ t → t < m → ix w (s + t) = ix w (s + q + t)) ∧ ix w (s + m) < ix w (s + q + m)
def Pr (w : List Int) (i j p : Int) : Prop := ∀ t : Int, i + p ≤ t → t < j → ix w t = ix w (t - p)
theorem Pr.mul {w : List Int} {i j p : Int} (h : Pr w i j p) (hp : 0 < p) : ∀ (a : Nat) (t : Int), t < j → i ≤ t - a * p → ix w t = ix w (t - a * p)
  | 0, t, h1, h2 => by congr 1; omega
  | a + 1, t, h1, h2 => by
    have e : ((a + 1 : Nat) : Int) * p = a * p + p := by rw [Int.natCast_add, Int.add_mul]; omega
    have ha : 0 ≤ (a : Int) * p := Int.mul_nonneg (by omega) (by omega)
    rw [e] at h2 ⊢
    rw [h t (by omega) h1, Pr.mul h hp a (t - p) (by omega) (by omega)]
    congr 1; omega
theorem Ly.ext {w : List Int} {i j p : Int} (h : Ly w i p) (hp : Pr w i j p) (hj : i + p ≤ j) (hx : ix w (j - p) < ix w j) : Ly w i (j + 1 - i) := by
  have hp0 := h.1
  refine ⟨by omega, fun q h0 h1 => ?_⟩
  have hq := Int.mul_ediv_add_emod q p
  have hb0 := Int.emod_nonneg q (show p ≠ 0 by omega)
  have hb1 := Int.emod_lt_of_pos q hp0
  have ha0 : 0 ≤ q / p := Int.ediv_nonneg (by omega) (by omega)
  generalize hb : q % p = b at hq hb0 hb1
  generalize ha : q / p = a0 at hq ha0
  obtain ⟨a, rfl⟩ : ∃ a : Nat, a0 = (a : Int) := ⟨a0.toNat, by omega⟩
  rw [Int.mul_comm] at hq
  have hap : 0 ≤ (a : Int) * p := Int.mul_nonneg (by omega) (by omega)
  -- a place a periods back of j holds what the place p back holds
  have back : 1 ≤ a → i ≤ j - a * p → ix w (j - a * p) = ix w (j - p) := fun h1 h2 => by
    obtain ⟨c, rfl⟩ : ∃ c, a = c + 1 := ⟨a - 1, by omega⟩
    have e : ((c + 1 : Nat) : Int) * p = c * p + p := by rw [Int.natCast_add, Int.add_mul]; omega
    have hc : 0 ≤ (c : Int) * p := Int.mul_nonneg (by omega) (by omega)
    rw [e] at h2 ⊢
    rw [hp.mul hp0 c (j - p) (by omega) (by omega)]; congr 1; omega
  by_cases hbz : b = 0
  · have ha1 : 1 ≤ a := by
      by_cases hz : a = 0
      · subst hz; simp at hq; omega
      · omega
    refine ⟨j - i - q, by omega, by omega, fun t t0 t1 => ?_, ?_⟩
    · rw [hp.mul hp0 a (i + q + t) (by omega) (by omega)]; congr 1; omega
    · rw [show i + (j - i - q) = j - a * p by omega, show i + q + (j - i - q) = j by omega, back ha1 (by omega)]; exact hx
  · obtain ⟨m, m0, m1, m2, m3⟩ := h.2 b (by omega) hb1
    have sh : ∀ t : Int, 0 ≤ t → i + q + t < j → ix w (i + q + t) = ix w (i + b + t) := fun t t0 t1 => by
      rw [hp.mul hp0 a (i + q + t) t1 (by omega)]; congr 1; omega
    by_cases hin : i + q + m < j
    · refine ⟨m, m0, by omega, fun t t0 t1 => ?_, ?_⟩
      · rw [sh t t0 (by omega)]; exact m2 t t0 t1
      · rw [sh m m0 hin]; exact m3
    · have ha1 : 1 ≤ a := by
        by_cases hz : a = 0
        · subst hz; simp at hq; omega
        · omega
      refine ⟨j - i - q, by omega, by omega, fun t t0 t1 => ?_, ?_⟩
      · rw [sh t t0 (by omega)]; exact m2 t t0 (by omega)
      · have e1 := back ha1 (by omega)
        rw [show j - a * p = i + b + (j - i - q) by omega] at e1
        rw [show i + q + (j - i - q) = j by omega]
        by_cases hm : j - i - q < m
        · rw [m2 _ (by omega) hm, e1]; exact hx
        · have : j - i - q = m := by omega
          rw [this] at e1 ⊢
          omega
theorem Ly.cut {w : List Int} {s p : Int} (h : Ly w s p) (h0 : 0 ≤ s) (h1 : s + p ≤ w.length) : LyL (cut w s (s + p)) := by
  have hp := h.1
  have hl : ((Go.Ab.cut w s (s + p)).length : Int) = s + p - s := cut_len h0 (by omega) h1
  refine ⟨by omega, fun k k0 k1 => ?_⟩
  obtain ⟨m, m0, m1, m2, m3⟩ := h.2 k k0 (by omega)
  have hl2 : ((Go.Ab.cut (Go.Ab.cut w s (s + p)) k (Go.Ab.cut w s (s + p)).length).length : Int) = (Go.Ab.cut w s (s + p)).length - k := cut_len (by omega) (by omega) (by omega)
  have e1 : ∀ t : Int, 0 ≤ t → t < p → ix (Go.Ab.cut w s (s + p)) t = ix w (s + t) := fun t t0 t1 => ix_cut h0 t0 (by omega)
  have e2 : ∀ t : Int, 0 ≤ t → t < p - k → ix (Go.Ab.cut (Go.Ab.cut w s (s + p)) k (Go.Ab.cut w s (s + p)).length) t = ix w (s + k + t) := fun t t0 t1 => by
    rw [ix_cut (by omega) t0 (by omega), e1 _ (by omega) (by omega)]; congr 1; omega
  refine ⟨m, m0, by omega, by omega, fun t t0 t1 => ?_, .inl ⟨by omega, by omega, ?_⟩⟩
  · rw [e1 t t0 (by omega), e2 t t0 (by omega)]; exact m2 t t0 t1
  · rw [e1 m m0 (by omega), e2 m m0 (by omega)]; exact m3
/-- What follows at i falls below L. -/
def Fall (w L : List Int) (i : Int) : Prop := ∃ c : Int, 0 ≤ c ∧ c < L.length ∧ i + c ≤ w.length ∧ (∀ t : Int, 0 ≤ t → t < c → ix w (i + t) = ix L t) ∧ (i + c = w.length ∨ ix w (i + c) < ix L c)
theorem Fall.not {w L : List Int} {i p : Int} (h : Fall w L i) (h0 : 0 ≤ i) (hp : 0 < p) (h1 : i + p ≤ w.length) : ¬ Ah L (cut w i (i + p)) := by
  obtain ⟨c, c0, c1, c2, c3, c4⟩ := h
  have hl : ((cut w i (i + p)).length : Int) = i + p - i := cut_len h0 (by omega) h1
  have e1 : ∀ t : Int, 0 ≤ t → t < p → ix (cut w i (i + p)) t = ix w (i + t) := fun t t0 t1 => ix_cut h0 t0 (by omega)
  rintro ⟨m, m0, m1, m2, m3, m4⟩
  by_cases hm : m < c
  · rcases m4 with ⟨a, b, d⟩ | ⟨a, b⟩
    · rw [e1 m m0 (by omega), c3 m m0 hm] at d; omega
    · omega
  · by_cases hm2 : c < m
    · have := m3 c c0 hm2
      rw [e1 c c0 (by omega)] at this
      omega
    · have : m = c := by omega
      subst this
      rcases m4 with ⟨a, b, d⟩ | ⟨a, b⟩
      · rw [e1 m m0 (by omega)] at d; omega
      · omega
structure Good (w : List Int) (i : Int) (out : List (List Int)) : Prop where
  ly : ∀ x ∈ out, LyL x
  chain : ∀ t : Int, 0 ≤ t → t + 1 < out.length → ¬ Ah (ix out t) (ix out (t + 1))
  flat : out.flatten = w.take i.toNat
  len : (out.length : Int) ≤ i
theorem Good.push {w : List Int} {i p : Int} {out : List (List Int)} (h : Good w i out) (h0 : 0 ≤ i) (hp : 0 < p) (h1 : i + p ≤ w.length) (hl : LyL (cut w i (i + p))) (hn : 0 < out.length → ¬ Ah (ix out (out.length - 1)) (cut w i (i + p))) : Good w (i + p) (out ++ [cut w i (i + p)]) := by
  refine ⟨fun x hx => ?_, fun t t0 t1 => ?_, ?_, ?_⟩
  · rcases List.mem_append.1 hx with hx | hx
    · exact h.ly x hx
    · rw [List.mem_singleton] at hx; subst hx; exact hl
  · rw [List.length_append, List.length_singleton] at t1
    by_cases ht : t + 1 < out.length
    · rw [ix_append_left t0 (by omega), ix_append_left (by omega) ht]; exact h.chain t t0 ht
    · have e : t + 1 = out.length := by omega
      rw [ix_append_left t0 (by omega), e, ix_append_last, show t = (out.length : Int) - 1 by omega]
      exact hn (by omega)
  · rw [List.flatten_append, h.flat, List.flatten_singleton]
    unfold cut
    have : (w.take (i + p).toNat).take i.toNat = w.take i.toNat := by rw [List.take_take, Nat.min_eq_left (by omega)]
    rw [← this]; exact List.take_append_drop _ _
  · rw [List.length_append, List.length_singleton]; have := h.len; omega
theorem Factors_L13 {w : List Int} (hw : w.length ≤ 60) {j k : Int} (hjw : j ≤ w.length) (hjk : k < j) (hend : j = w.length ∨ ix w j < ix w k) {r6 : Int → List (List Int) → Option (Int × List (List Int))} :
    ∀ (n : Nat) (i : Int) (out : List (List Int)), (k + 1 - i).toNat = n → 0 ≤ i → i ≤ k → Pr w i j (j - k) → LyL (cut w i (i + (j - k))) → Good w i out → (0 < out.length → ¬ Ah (ix out (out.length - 1)) (cut w i (i + (j - k)))) →
      ∃ i' out', i < i' ∧ i' ≤ w.length ∧ Good w i' out' ∧ (0 < out'.length → Fall w (ix out' (out'.length - 1)) i') ∧ lyndon_Factors_L13 w r6 j k i out = r6 i' out' := by
  intro n
  induction n using Nat.strongRecOn with
  | ind n ih =>
    intro i out hn h0 hik hp hly hg hna
    have hlen := hg.len
    have hcl : ((cut w i (i + j - k)).length : Int) = i + j - k - i := cut_len h0 (by omega) (by omega)
    have hg' := hg.push h0 (by omega) (by omega) hly hna
    have step : lyndon_Factors_L13 w r6 j k i out = lyndon_Factors_L13 w r6 j k (i + (j - k)) (out ++ [cut w i (i + (j - k))]) := by
      rw [lyndon_Factors_L13_eq]; unfold lyndon_Factors_L13_B
      (try dsimp only); (repeat' first | (with_reducible refine G_to ?_ ?_; focus (first | omega | (unfold fits; omega) | (unfold room; (try simp only [List.length_append, List.length_cons, List.length_nil]); omega))) | (with_reducible refine itet_to ?_) | (with_reducible refine itef_to ?_) | (with_reducible refine ite_to (fun _ => ?_) (fun _ => ?_))) <;> try (exfalso; omega)
      refine bind_to (slices_Clone_spec (by omega)) ?_
      (try dsimp only); (repeat' first | (with_reducible refine G_to ?_ ?_; focus (first | omega | (unfold fits; omega) | (unfold room; (try simp only [List.length_append, List.length_cons, List.length_nil]); omega))) | (with_reducible refine itet_to ?_) | (with_reducible refine itef_to ?_) | (with_reducible refine ite_to (fun _ => ?_) (fun _ => ?_))) <;> try (exfalso; omega)
      rw [show i + j - k = i + (j - k) by omega]
    have hcl' : ((cut w i (i + (j - k))).length : Int) = i + (j - k) - i := cut_len h0 (by omega) (by omega)
    have e1 : ∀ t : Int, 0 ≤ t → t < j - k → ix (cut w i (i + (j - k))) t = ix w (i + t) := fun t t0 t1 => ix_cut h0 t0 (by omega)
    have elast : ix (out ++ [cut w i (i + (j - k))]) (((out ++ [cut w i (i + (j - k))]).length : Int) - 1) = cut w i (i + (j - k)) := by
      rw [show (((out ++ [cut w i (i + (j - k))]).length : Int) - 1) = out.length by rw [List.length_append, List.length_singleton]; omega, ix_append_last]
    by_cases hk : i + (j - k) ≤ k
    · have same : cut w (i + (j - k)) (i + (j - k) + (j - k)) = cut w i (i + (j - k)) := by
        rw [cut_eq_iff (by omega) (by omega) (by omega)]
        refine ⟨by omega, fun t t0 t1 => ?_⟩
        rw [e1 t t0 (by omega), hp (i + (j - k) + t) (by omega) (by omega)]; congr 1; omega
      obtain ⟨i', out', a1, a2, a3, a4, a5⟩ := ih _ (by omega) (i + (j - k)) _ rfl (by omega) hk (fun t t0 t1 => hp t (by omega) t1) (by rw [same]; exact hly) hg' (fun _ => by rw [elast, same]; exact not_Ah_self)
      exact ⟨i', out', by omega, a2, a3, a4, by rw [step]; exact a5⟩
    · refine ⟨i + (j - k), _, by omega, by omega, hg', fun _ => ?_, ?_⟩
      · rw [elast]
        refine ⟨k - i, by omega, by omega, by omega, fun t t0 t1 => ?_, ?_⟩
        · rw [e1 t t0 (by omega), hp (i + (j - k) + t) (by omega) (by omega)]; congr 1; omega
        · rw [e1 (k - i) (by omega) (by omega), show i + (j - k) + (k - i) = j by omega, show i + (k - i) = k by omega]; exact hend
      · rw [step, lyndon_Factors_L13_eq]; unfold lyndon_Factors_L13_B
        (try dsimp only); (repeat' first | (with_reducible refine G_to ?_ ?_; focus (first | omega | (unfold fits; omega) | (unfold room; (try simp only [List.length_append, List.length_cons, List.length_nil]); omega))) | (with_reducible refine itet_to ?_) | (with_reducible refine itef_to ?_) | (with_reducible refine ite_to (fun _ => ?_) (fun _ => ?_))) <;> try (exfalso; omega)
        rfl
theorem Factors_L8 {w : List Int} (hw : w.length ≤ 60) {i : Int} {out : List (List Int)} (h0 : 0 ≤ i) (hg : Good w i out) (hf : 0 < out.length → Fall w (ix out (out.length - 1)) i) {r6 : Int → List (List Int) → Option (Int × List (List Int))} :
    ∀ (n : Nat) (j k : Int), (w.length - j).toNat = n → i ≤ k → k < j → j ≤ w.length → Ly w i (j - k) → Pr w i j (j - k) → 
      ∃ i' out', i < i' ∧ i' ≤ w.length ∧ Good w i' out' ∧ (0 < out'.length → Fall w (ix out' (out'.length - 1)) i') ∧ lyndon_Factors_L8 w i out r6 j k = r6 i' out' := by
  have fin : ∀ j k : Int, i ≤ k → k < j → j ≤ w.length → Ly w i (j - k) → Pr w i j (j - k) → (j = w.length ∨ ix w j < ix w k) → ∃ i' out', i < i' ∧ i' ≤ w.length ∧ Good w i' out' ∧ (0 < out'.length → Fall w (ix out' (out'.length - 1)) i') ∧ lyndon_Factors_L13 w r6 j k i out = r6 i' out' := fun j k h1 h2 h3 h4 h5 h6 =>
    Factors_L13 hw h3 h2 h6 _ i out rfl h0 h1 h5 (h4.cut h0 (by omega)) hg (fun ho => (hf ho).not h0 (by omega) (by omega))
  intro n
  induction n with
  | zero =>
    intro j k hn h1 h2 h3 h4 h5
    obtain ⟨i', out', a1, a2, a3, a4, a5⟩ := fin j k h1 h2 h3 h4 h5 (.inl (by omega))
    refine ⟨i', out', a1, a2, a3, a4, ?_⟩
    rw [lyndon_Factors_L8_eq]; unfold lyndon_Factors_L8_B
    (try dsimp only); (repeat' first | (with_reducible refine G_to ?_ ?_; focus (first | omega | (unfold fits; omega) | (unfold room; (try simp only [List.length_append, List.length_cons, List.length_nil]); omega))) | (with_reducible refine itet_to ?_) | (with_reducible refine itef_to ?_) | (with_reducible refine ite_to (fun _ => ?_) (fun _ => ?_)) | unfold lyndon_Factors_J8) <;> try (exfalso; omega)
    exact a5
  | succ n ih =>
    intro j k hn h1 h2 h3 h4 h5
    by_cases hlt : ix w j < ix w k
    · obtain ⟨i', out', a1, a2, a3, a4, a5⟩ := fin j k h1 h2 h3 h4 h5 (.inr hlt)
      refine ⟨i', out', a1, a2, a3, a4, ?_⟩
      rw [lyndon_Factors_L8_eq]; unfold lyndon_Factors_L8_B lyndon_Factors_J8
      rw [decide_eq_false (show ¬ ix w k ≤ ix w j by omega)]
      (try dsimp only); (repeat' first | (with_reducible refine G_to ?_ ?_; focus (first | omega | (unfold fits; omega) | (unfold room; (try simp only [List.length_append, List.length_cons, List.length_nil]); omega))) | (with_reducible refine itet_to ?_) | (with_reducible refine itef_to ?_) | (with_reducible refine ite_to (fun _ => ?_) (fun _ => ?_))) <;> try (exfalso; omega)
      exact a5
    · have hstep : lyndon_Factors_L8 w i out r6 j k = if ix w k < ix w j then lyndon_Factors_L8 w i out r6 (j + 1) i else lyndon_Factors_L8 w i out r6 (j + 1) (k + 1) := by
        rw [lyndon_Factors_L8_eq]; unfold lyndon_Factors_L8_B lyndon_Factors_J8 lyndon_Factors_J8_1
        rw [decide_eq_true (show ix w k ≤ ix w j by omega)]
        (try dsimp only); (repeat' first | (with_reducible refine G_to ?_ ?_; focus (first | omega | (unfold fits; omega) | (unfold room; (try simp only [List.length_append, List.length_cons, List.length_nil]); omega))) | (with_reducible refine itet_to ?_) | (with_reducible refine itef_to ?_) | (with_reducible refine ite_to (fun _ => ?_) (fun _ => ?_))) <;> try (exfalso; omega)
        · rw [if_pos (by assumption)]
        · rw [if_neg (by assumption)]
      by_cases hgt : ix w k < ix w j
      · obtain ⟨i', out', a1, a2, a3, a4, a5⟩ := ih (j + 1) i (by omega) (by omega) (by omega) (by omega) (Ly.ext h4 h5 (by omega) (by rw [show j - (j - k) = k by omega]; exact hgt)) (fun t t0 t1 => by omega)
        exact ⟨i', out', a1, a2, a3, a4, by rw [hstep, if_pos hgt]; exact a5⟩
      · obtain ⟨i', out', a1, a2, a3, a4, a5⟩ := ih (j + 1) (k + 1) (by omega) (by omega) (by omega) (by omega) (by rw [show j + 1 - (k + 1) = j - k by omega]; exact h4) (by
          rw [show j + 1 - (k + 1) = j - k by omega]
          intro t t0 t1
          by_cases ht : t < j
          · exact h5 t t0 ht
          · have : t = j := by omega
            subst this
            rw [show t - (t - k) = k by omega]; omega)
        exact ⟨i', out', a1, a2, a3, a4, by rw [hstep, if_neg hgt]; exact a5⟩
theorem Factors_L6 {w : List Int} (hw : w.length ≤ 60) : ∀ (n : Nat) (i : Int) (out : List (List Int)), (w.length - i).toNat = n → 0 ≤ i → i ≤ w.length → Good w i out → (0 < out.length → Fall w (ix out (out.length - 1)) i) → ∃ out', Good w w.length out' ∧ lyndon_Factors_L6 w i out = some (0, out') := by
  intro n
  induction n using Nat.strongRecOn with
  | ind n ih =>
    intro i out hn h0 h1 hg hf
    by_cases hi : i < w.length
    · obtain ⟨i', out', a1, a2, a3, a4, a5⟩ := Factors_L8 (r6 := lyndon_Factors_L6 w) hw h0 hg hf _ (i + 1) i rfl (by omega) (by omega) (by omega) ⟨by omega, fun q q0 q1 => by omega⟩ (fun t t0 t1 => by omega)
      obtain ⟨o, b1, b2⟩ := ih _ (by omega) i' out' rfl (by omega) a2 a3 a4
      refine ⟨o, b1, ?_⟩
      rw [lyndon_Factors_L6_eq]; unfold lyndon_Factors_L6_B
      (try dsimp only); (repeat' first | (with_reducible refine G_to ?_ ?_; focus (first | omega | (unfold fits; omega) | (unfold room; (try simp only [List.length_append, List.length_cons, List.length_nil]); omega))) | (with_reducible refine itet_to ?_) | (with_reducible refine itef_to ?_) | (with_reducible refine ite_to (fun _ => ?_) (fun _ => ?_))) <;> try (exfalso; omega)
      rw [a5]; exact b2
    · have : i = w.length := by omega
      subst this
      refine ⟨out, hg, ?_⟩
      rw [lyndon_Factors_L6_eq]; unfold lyndon_Factors_L6_B
      (try dsimp only); (repeat' first | (with_reducible refine G_to ?_ ?_; focus (first | omega | (unfold fits; omega) | (unfold room; (try simp only [List.length_append, List.length_cons, List.length_nil]); omega))) | (with_reducible refine itet_to ?_) | (with_reducible refine itef_to ?_) | (with_reducible refine ite_to (fun _ => ?_) (fun _ => ?_))) <;> try (exfalso; omega)
      rfl
theorem flat_len {out : List (List Int)} {n : Nat} (h : out.flatten.length ≤ n) : ∀ x ∈ out, x.length ≤ n := fun x hx => by
  have : x.length ≤ out.flatten.length := by
    obtain ⟨l1, l2, rfl⟩ := List.append_of_mem hx
    simp; omega
  omega
theorem law_L11 {w : List Int} {out : List (List Int)} (hw : w.length ≤ 60) (hg : Good w w.length out) : ∀ (n : Nat) (i : Int) (l : List Int), (out.length - i).toNat = n → 0 ≤ i → i ≤ out.length → l = (out.take i.toNat).flatten → law_LyndonFactors_L11 w 0 out i l = some true := by
  have hfl : out.flatten = w := by rw [hg.flat]; simp
  have hlen := hg.len
  have hx := flat_len (out := out) (n := 60) (by rw [hfl]; exact hw)
  intro n
  induction n with
  | zero =>
    intro i l hn h0 h1 hl
    have : l = w := by rw [hl, List.take_of_length_le (by omega), hfl]
    subst this
    rw [law_LyndonFactors_L11_eq]; unfold law_LyndonFactors_L11_B
    (try dsimp only); (repeat' first | (with_reducible refine G_to ?_ ?_; focus (first | omega | (unfold fits; omega) | (unfold room; (try simp only [List.length_append, List.length_cons, List.length_nil]); omega))) | (with_reducible refine itet_to ?_) | (with_reducible refine itef_to ?_) | (with_reducible refine ite_to (fun _ => ?_) (fun _ => ?_))) <;> try (exfalso; omega)
    refine bind_to (r1_Words_spec (by omega)) ?_
    (try dsimp only); (repeat' first | (with_reducible refine G_to ?_ ?_; focus (first | omega | (unfold fits; omega) | (unfold room; (try simp only [List.length_append, List.length_cons, List.length_nil]); omega))) | (with_reducible refine itet_to ?_) | (with_reducible refine itef_to ?_) | (with_reducible refine ite_to (fun _ => ?_) (fun _ => ?_))) <;> try (exfalso; omega)
    simp
  | succ n ih =>
    intro i l hn h0 h1 hl
    have hm := ix_mem h0 (show i < out.length by omega)
    have hxi := hx _ hm
    have htk : (out.take (i + 1).toNat).flatten = l ++ ix out i := by rw [ix_take h0 (by omega), List.flatten_append, List.flatten_singleton, hl]
    have hll : l.length ≤ 60 := by
      have h2 : (out.take (i + 1).toNat).flatten ++ (out.drop (i + 1).toNat).flatten = out.flatten := by rw [← List.flatten_append, List.take_append_drop]
      have h3 := congrArg List.length h2
      rw [htk, hfl] at h3
      simp at h3; omega
    have next := ih (i + 1) (l ++ ix out i) (by omega) (by omega) (by omega) htk.symm
    have hJ : law_LyndonFactors_J14 out i l (law_LyndonFactors_L11 w 0 out) true false = some true := by
      unfold law_LyndonFactors_J14
      rw [if_neg (by simp), if_neg (by simp)]
      (try dsimp only); (repeat' first | (with_reducible refine G_to ?_ ?_; focus (first | omega | (unfold fits; omega) | (unfold room; (try simp only [List.length_append, List.length_cons, List.length_nil]); omega))) | (with_reducible refine itet_to ?_) | (with_reducible refine itef_to ?_) | (with_reducible refine ite_to (fun _ => ?_) (fun _ => ?_))) <;> try (exfalso; omega)
      exact next
    rw [law_LyndonFactors_L11_eq]; unfold law_LyndonFactors_L11_B
    (try dsimp only); (repeat' first | (with_reducible refine G_to ?_ ?_; focus (first | omega | (unfold fits; omega) | (unfold room; (try simp only [List.length_append, List.length_cons, List.length_nil]); omega))) | (with_reducible refine itet_to ?_) | (with_reducible refine itef_to ?_) | (with_reducible refine ite_to (fun _ => ?_) (fun _ => ?_))) <;> try (exfalso; omega)
    refine bind_to (Lyndon_spec (by omega) (hg.ly _ hm)) ?_
    (try dsimp only); (repeat' first | (with_reducible refine G_to ?_ ?_; focus (first | omega | (unfold fits; omega) | (unfold room; (try simp only [List.length_append, List.length_cons, List.length_nil]); omega))) | (with_reducible refine itet_to ?_) | (with_reducible refine itef_to ?_) | (with_reducible refine ite_to (fun _ => ?_) (fun _ => ?_))) <;> try (exfalso; omega)
    · have hxp := hx _ (ix_mem (l := out) (i := i - 1) (by omega) (by omega))
      obtain ⟨c, hc, hi⟩ := Ahead_spec (a := ix out (i - 1)) (b := ix out i) (by omega) (by omega)
      refine bind_to hc ?_
      have : c = false := by
        cases c with
        | false => rfl
        | true =>
          have h2 := hg.chain (i - 1) (by omega) (by omega)
          rw [show i - 1 + 1 = i by omega] at h2
          exact absurd (hi.1 rfl) h2
      rw [this]; exact hJ
    · exact hJ
theorem list_spec {w : List Int} (hs : w.length * 8 ≤ 140737488351232) : law_list w = some w := by
  unfold law_list
  refine G_to (by unfold fits; omega) ?_
  refine G_to (by unfold mkOK; omega) ?_
  simp
theorem law_true (w : List Int) (hs : Sml (.list (.int .i64)) w) : law_LyndonFactors w = some true := by
  have hs1 : w.length * 8 ≤ 140737488351232 := hs.1
  unfold law_LyndonFactors
  refine bind_to (list_spec hs1) ?_
  by_cases h : mayE 4 w = 0
  · have a1 := (mayE_zero h).2.1
    obtain ⟨out, hg, he⟩ := Factors_L6 (w := w) (by omega) _ 0 [] rfl (by omega) (by omega) ⟨fun x hx => (by cases hx), fun t t0 t1 => by simp at t1; omega, rfl, by simp⟩ (fun h => by simp at h)
    refine bind_to (y := (0, out)) ?_ ?_
    · unfold lyndon_Factors
      refine bind_to lyndon_may1 ?_
      (try dsimp only); (repeat' first | (with_reducible refine G_to ?_ ?_; focus (first | omega | (unfold fits; omega) | (unfold room; (try simp only [List.length_append, List.length_cons, List.length_nil]); omega))) | (with_reducible refine itet_to ?_) | (with_reducible refine itef_to ?_) | (with_reducible refine ite_to (fun _ => ?_) (fun _ => ?_))) <;> try (exfalso; omega)
      exact he
    refine bind_to (r1_Words_spec (by omega)) ?_
    refine bind_to r1_May_spec ?_
    rw [decide_eq_true rfl, if_neg (by simp)]
    (try dsimp only); (repeat' first | (with_reducible refine G_to ?_ ?_; focus (first | omega | (unfold fits; omega) | (unfold room; (try simp only [List.length_append, List.length_cons, List.length_nil]); omega))) | (with_reducible refine itet_to ?_) | (with_reducible refine itef_to ?_) | (with_reducible refine ite_to (fun _ => ?_) (fun _ => ?_))) <;> try (exfalso; omega)
    exact law_L11 (by omega) hg _ 0 [] rfl (by omega) (by omega) rfl
  · refine bind_to (y := (mayE 4 w, [])) ?_ ?_
    · unfold lyndon_Factors
      refine bind_to lyndon_may1 ?_
      (try dsimp only); (repeat' first | (with_reducible refine G_to ?_ ?_; focus (first | omega | (unfold fits; omega) | (unfold room; (try simp only [List.length_append, List.length_cons, List.length_nil]); omega))) | (with_reducible refine itet_to ?_) | (with_reducible refine itef_to ?_) | (with_reducible refine ite_to (fun _ => ?_) (fun _ => ?_))) <;> try (exfalso; omega)
      rfl
    refine bind_to (r1_Words_spec (by omega)) ?_
    refine bind_to r1_May_spec ?_
    rw [decide_eq_true rfl, if_neg (by simp)]
    (try dsimp only); (repeat' first | (with_reducible refine G_to ?_ ?_; focus (first | omega | (unfold fits; omega) | (unfold room; (try simp only [List.length_append, List.length_cons, List.length_nil]); omega))) | (with_reducible refine itet_to ?_) | (with_reducible refine itef_to ?_) | (with_reducible refine ite_to (fun _ => ?_) (fun _ => ?_))) <;> try (exfalso; omega)
    all_goals rfl

end Go.Proofs.Ytgjpkfbaobanlaa.lyndonFactorsW
