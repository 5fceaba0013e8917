/- The law 'LyndonFinds' of the plain functions. -/
import Derived.Test.YtgjpkfbaobanlaaLyndonFindsD
set_option maxHeartbeats 1000000
set_option maxRecDepth 20000
set_option linter.unusedSimpArgs false
set_option linter.unusedVariables false
namespace Go.Proofs.Ytgjpkfbaobanlaa.lyndonFindsW
open Go Go.Ab
theorem r1_Words_L4_spec {a b : List Int} (hl : a.length = b.length) : ∀ (n : Nat) (i : Int), 0 ≤ i → i ≤ a.length → (a.length - i).toNat = n → a.length ≤ 2305843009213693951 → (∀ j : Int, 0 ≤ j → j < i → ix a j = ix b j) → r1_Words_L4 a b i = some (decide (a = b)) := by
  intro n
  induction n with
  | zero =>
    intro i h0 h1 hn hs h
    rw [r1_Words_L4_eq]; unfold r1_Words_L4_B
    (repeat' first | (with_reducible refine G_to ?_ ?_; focus (first | omega | (unfold fits; omega) | (unfold room; simp only [List.length_append, List.length_cons, List.length_nil]; omega))) | (with_reducible refine itet_to ?_) | (with_reducible refine itef_to ?_) | (with_reducible refine ite_to (fun _ => ?_) (fun _ => ?_))) <;> try (exfalso; omega)
    · rw [Option.some_inj, eq_comm, decide_eq_true_iff]; exact ix_ext hl (fun j a b => h j a (by omega))
  | succ n ih =>
    intro i h0 h1 hn hs h
    rw [r1_Words_L4_eq]; unfold r1_Words_L4_B
    (repeat' first | (with_reducible refine G_to ?_ ?_; focus (first | omega | (unfold fits; omega) | (unfold room; simp only [List.length_append, List.length_cons, List.length_nil]; omega))) | (with_reducible refine itet_to ?_) | (with_reducible refine itef_to ?_) | (with_reducible refine ite_to (fun _ => ?_) (fun _ => ?_))) <;> try (exfalso; omega)
    · rw [Option.some_inj, eq_comm, decide_eq_false_iff_not]; rintro rfl; contradiction
    · rename_i hx; exact ih _ (by omega) (by omega) (by omega) hs (below_succ h (Decidable.not_not.1 hx))
theorem r1_Words_spec {a b : List Int} (hs : a.length ≤ 2305843009213693951) : r1_Words a b = some (decide (a = b)) := by
  unfold r1_Words
  (repeat' first | (with_reducible refine G_to ?_ ?_; focus (first | omega | (unfold fits; omega) | (unfold room; simp only [List.length_append, List.length_cons, List.length_nil]; omega))) | (with_reducible refine itet_to ?_) | (with_reducible refine itef_to ?_) | (with_reducible refine ite_to (fun _ => ?_) (fun _ => ?_))) <;> try (exfalso; omega)
  · rw [Option.some_inj, eq_comm, decide_eq_false_iff_not]; rintro rfl; contradiction
  · exact r1_Words_L4_spec (by omega) _ 0 (by omega) (by omega) rfl hs (fun j a b => by omega)

theorem r1_May_L6_spec {letters : Int} {w : List Int} (hL : 1 ≤ letters ∧ letters ≤ 4) (hw : w.length ≤ (60 : Int)) : ∀ (n : Nat) (i : Int), 0 ≤ i → i ≤ w.length → (w.length - i).toNat = n → (∀ j : Int, 0 ≤ j → j < i → 0 ≤ ix w j ∧ ix w j < letters) → r1_May_L6 letters w i = some (mayE letters w) := by
  intro n
  induction n with
  | zero =>
    intro i h0 h1 hn h
    rw [r1_May_L6_eq]; unfold r1_May_L6_B
    (repeat' first | (with_reducible refine G_to ?_ ?_; focus (first | omega | (unfold fits; omega) | (unfold room; simp only [List.length_append, List.length_cons, List.length_nil]; omega))) | (with_reducible refine itet_to ?_) | (with_reducible refine itef_to ?_) | (with_reducible refine ite_to (fun _ => ?_) (fun _ => ?_))) <;> try (exfalso; omega)
    · rw [mayE_ok hL hw (fun j a b => h j a (by omega))]
  | succ n ih =>
    intro i h0 h1 hn h
    rw [r1_May_L6_eq]; unfold r1_May_L6_B
    (repeat' first | (with_reducible refine G_to ?_ ?_; focus (first | omega | (unfold fits; omega) | (unfold room; simp only [List.length_append, List.length_cons, List.length_nil]; omega))) | (with_reducible refine itet_to ?_) | (with_reducible refine itef_to ?_) | (with_reducible refine ite_to (fun _ => ?_) (fun _ => ?_))) <;> try (exfalso; omega)
    · rw [mayE_bad hL hw (i := i) (by omega) (by omega)]
    · rw [mayE_bad hL hw (i := i) (by omega) (by omega)]
    · exact ih _ (by omega) (by omega) (by omega) (below_succ h (by omega))
theorem r1_May_spec {letters : Int} {w : List Int} : r1_May letters w = some (mayE letters w) := by
  unfold r1_May
  (repeat' first | (with_reducible refine G_to ?_ ?_; focus (first | omega | (unfold fits; omega) | (unfold room; simp only [List.length_append, List.length_cons, List.length_nil]; omega))) | (with_reducible refine itet_to ?_) | (with_reducible refine itef_to ?_) | (with_reducible refine ite_to (fun _ => ?_) (fun _ => ?_))) <;> try (exfalso; omega)
  · rw [mayE_range (by omega)]
  · rw [mayE_range (by omega)]
  · rw [mayE_size (by omega) (by omega)]
  · exact r1_May_L6_spec (by omega) (by omega) _ 0 (by omega) (by omega) rfl (fun j a b => by omega)

theorem word_May_L6_spec {letters : Int} {w : List Int} (hL : 1 ≤ letters ∧ letters ≤ 4) (hw : w.length ≤ (60 : Int)) : ∀ (n : Nat) (i : Int), 0 ≤ i → i ≤ w.length → (w.length - i).toNat = n → (∀ j : Int, 0 ≤ j → j < i → 0 ≤ ix w j ∧ ix w j < letters) → word_May_L6 letters w i = some (mayE letters w) := by
  intro n
  induction n with
  | zero =>
    intro i h0 h1 hn h
    rw [word_May_L6_eq]; unfold word_May_L6_B
    (repeat' first | (with_reducible refine G_to ?_ ?_; focus (first | omega | (unfold fits; omega) | (unfold room; simp only [List.length_append, List.length_cons, List.length_nil]; omega))) | (with_reducible refine itet_to ?_) | (with_reducible refine itef_to ?_) | (with_reducible refine ite_to (fun _ => ?_) (fun _ => ?_))) <;> try (exfalso; omega)
    · rw [mayE_ok hL hw (fun j a b => h j a (by omega))]
  | succ n ih =>
    intro i h0 h1 hn h
    rw [word_May_L6_eq]; unfold word_May_L6_B
    (repeat' first | (with_reducible refine G_to ?_ ?_; focus (first | omega | (unfold fits; omega) | (unfold room; simp only [List.length_append, List.length_cons, List.length_nil]; omega))) | (with_reducible refine itet_to ?_) | (with_reducible refine itef_to ?_) | (with_reducible refine ite_to (fun _ => ?_) (fun _ => ?_))) <;> try (exfalso; omega)
    · rw [mayE_bad hL hw (i := i) (by omega) (by omega)]
    · rw [mayE_bad hL hw (i := i) (by omega) (by omega)]
    · exact ih _ (by omega) (by omega) (by omega) (below_succ h (by omega))
theorem word_May_spec {letters : Int} {w : List Int} : word_May letters w = some (mayE letters w) := by
  unfold word_May
  (repeat' first | (with_reducible refine G_to ?_ ?_; focus (first | omega | (unfold fits; omega) | (unfold room; simp only [List.length_append, List.length_cons, List.length_nil]; omega))) | (with_reducible refine itet_to ?_) | (with_reducible refine itef_to ?_) | (with_reducible refine ite_to (fun _ => ?_) (fun _ => ?_))) <;> try (exfalso; omega)
  · rw [mayE_range (by omega)]
  · rw [mayE_range (by omega)]
  · rw [mayE_size (by omega) (by omega)]
  · exact word_May_L6_spec (by omega) (by omega) _ 0 (by omega) (by omega) rfl (fun j a b => by omega)

theorem lyndon_may_L2_spec {l : List (List Int)} (hs : l.length ≤ 1000) : ∀ (n : Nat) (i : Int), 0 ≤ i → i ≤ l.length → (l.length - i).toNat = n → lyndon_may_L2 l i = some (((l.drop i.toNat).map (mayE 4)).foldr (fun x y => if x = 0 then y else x) 0) := by
  intro n
  induction n with
  | zero =>
    intro i h0 h1 hn
    rw [lyndon_may_L2_eq]; unfold lyndon_may_L2_B
    (repeat' first | (with_reducible refine G_to ?_ ?_; focus (first | omega | (unfold fits; omega) | (unfold room; simp only [List.length_append, List.length_cons, List.length_nil]; omega))) | (with_reducible refine itet_to ?_) | (with_reducible refine itef_to ?_) | (with_reducible refine ite_to (fun _ => ?_) (fun _ => ?_))) <;> try (exfalso; omega)
    rw [List.drop_of_length_le (by omega)]; rfl
  | succ n ih =>
    intro i h0 h1 hn
    rw [lyndon_may_L2_eq]; unfold lyndon_may_L2_B
    (repeat' first | (with_reducible refine G_to ?_ ?_; focus (first | omega | (unfold fits; omega) | (unfold room; simp only [List.length_append, List.length_cons, List.length_nil]; omega))) | (with_reducible refine itet_to ?_) | (with_reducible refine itef_to ?_) | (with_reducible refine ite_to (fun _ => ?_) (fun _ => ?_))) <;> try (exfalso; omega)
    refine bind_to (y := mayE 4 (ix l i)) word_May_spec ?_
    rw [ix_drop h0 (by omega), List.map_cons, List.foldr_cons]
    (repeat' first | (with_reducible refine G_to ?_ ?_; focus (first | omega | (unfold fits; omega) | (unfold room; simp only [List.length_append, List.length_cons, List.length_nil]; omega))) | (with_reducible refine itet_to ?_) | (with_reducible refine itef_to ?_) | (with_reducible refine ite_to (fun _ => ?_) (fun _ => ?_))) <;> try (exfalso; omega)
    · rename_i h; rw [if_neg h]
    · rename_i h; rw [if_pos (Decidable.not_not.1 h)]; exact ih _ (by omega) (by omega) (by omega)
theorem lyndon_may1 {a : List Int} : lyndon_may [a] = some (mayE 4 a) := by
  unfold lyndon_may
  rw [lyndon_may_L2_spec (by simp) _ 0 (by omega) (by omega) rfl]
  simp; omega
theorem lyndon_may2 {a b : List Int} : lyndon_may [a, b] = some (if mayE 4 a = 0 then mayE 4 b else mayE 4 a) := by
  unfold lyndon_may
  rw [lyndon_may_L2_spec (by simp) _ 0 (by omega) (by omega) rfl]
  simp; split <;> omega

/-- The first k letters of p end the first n letters of s. -/
def Mt (p s : List Int) (n k : Int) : Prop := 0 ≤ k ∧ k ≤ n ∧ k ≤ p.length ∧ ∀ j : Int, 0 ≤ j → j < k → ix s (n - k + j) = ix p j
def Bd (p : List Int) (n k : Int) : Prop := Mt p p n k ∧ k < n
def BM (p : List Int) (n k : Int) : Prop := Bd p n k ∧ ∀ m, Bd p n m → m ≤ k
theorem Mt.zero {p s : List Int} {n : Int} (h : 0 ≤ n) : Mt p s n 0 := ⟨by omega, h, by omega, fun j a b => by omega⟩
theorem Mt.down {p s : List Int} {n k m : Int} (h : Mt p s n k) (hm : Bd p k m) : Mt p s n m := by
  obtain ⟨h1, h2, h3, h4⟩ := h; obtain ⟨⟨g1, g2, g3, g4⟩, g5⟩ := hm
  refine ⟨g1, by omega, g3, fun j a b => ?_⟩
  rw [← g4 j a b, ← h4 _ (by omega) (by omega)]; congr 1; omega
theorem Mt.bd {p s : List Int} {n k m : Int} (h : Mt p s n k) (hm : Mt p s n m) (hlt : m < k) : Bd p k m := by
  obtain ⟨h1, h2, h3, h4⟩ := h; obtain ⟨g1, g2, g3, g4⟩ := hm
  refine ⟨⟨g1, by omega, g3, fun j a b => ?_⟩, hlt⟩
  rw [← g4 j a b, ← h4 _ (by omega) (by omega)]; congr 1; omega
theorem Mt.up {p s : List Int} {n k : Int} (h : Mt p s n k) (hk : k < p.length) (hx : ix s n = ix p k) : Mt p s (n + 1) (k + 1) := by
  obtain ⟨h1, h2, h3, h4⟩ := h
  refine ⟨by omega, by omega, by omega, fun j a b => ?_⟩
  by_cases hj : j < k
  · rw [← h4 j a hj]; congr 1; omega
  · have : j = k := by omega
    subst this; rw [← hx]; congr 1; omega
theorem Mt.pred {p s : List Int} {n k : Int} (h : Mt p s (n + 1) (k + 1)) (hk : 0 ≤ k) : Mt p s n k ∧ k < p.length ∧ ix s n = ix p k := by
  obtain ⟨h1, h2, h3, h4⟩ := h
  refine ⟨⟨hk, by omega, by omega, fun j a b => ?_⟩, by omega, ?_⟩
  · rw [← h4 j a (by omega)]; congr 1; omega
  · rw [← h4 k hk (by omega)]; congr 1; omega
theorem borders_L6 {w l : List Int} {t : Int} {r4 : Int → Int → List Int → Option (List Int)} (hs : w.length ≤ 1000000) (h0 : 0 < t) (ht : t < w.length) (hl : l.length = t) (hB : ∀ i : Int, 0 ≤ i → i < t → BM w (i + 1) (ix l i)) :
    ∀ (n : Nat) (k : Int), k.toNat = n → Bd w t k → (∀ m, 0 ≤ m → Bd w (t + 1) (m + 1) → m ≤ k) → ∃ K, BM w (t + 1) K ∧ lyndon_borders_L6 w t l r4 k = r4 K (t + 1) (l ++ [K]) := by
  intro n
  induction n using Nat.strongRecOn with
  | ind n ih =>
    intro k hn hk hm
    obtain ⟨⟨k0, k1, k2, k3⟩, k4⟩ := hk
    rw [lyndon_borders_L6_eq]; unfold lyndon_borders_L6_B
    by_cases hc : 0 < k ∧ ¬ ix w t = ix w k
    · have hB' := hB (k - 1) (by omega) (by omega)
      rw [show k - 1 + 1 = k by omega] at hB'
      have hb := hB'.1
      obtain ⟨⟨b0, b1, b2, b3⟩, b4⟩ := hB'.1
      obtain ⟨K, hK, he⟩ := ih (ix l (k - 1)).toNat (by omega) (ix l (k - 1)) rfl ⟨Mt.down ⟨k0, k1, k2, k3⟩ hb, by omega⟩ (fun m hm0 hm1 => by
        obtain ⟨p1, p2, p3⟩ := hm1.1.pred hm0
        have hmk := hm m hm0 hm1
        have : m ≠ k := fun e => hc.2 (e ▸ p3)
        exact hB'.2 m (Mt.bd ⟨k0, k1, k2, k3⟩ p1 (by omega)))
      refine ⟨K, hK, ?_⟩
      (repeat' first | (with_reducible refine G_to ?_ ?_; focus (first | omega | (unfold fits; omega) | (unfold room; simp only [List.length_append, List.length_cons, List.length_nil]; omega))) | (with_reducible refine itet_to ?_) | (with_reducible refine itef_to ?_) | (with_reducible refine ite_to (fun _ => ?_) (fun _ => ?_)) | unfold lyndon_borders_J6 | unfold lyndon_borders_J6_1 | unfold lyndon_borders_J8) <;> try (exfalso; omega)
      · exact he
      all_goals exact absurd hc.2 ‹¬¬ix w t = ix w k›
    · refine ⟨if ix w t = ix w k then k + 1 else 0, ?_, ?_⟩
      · split
        · rename_i hx
          refine ⟨⟨Mt.up ⟨k0, k1, k2, k3⟩ (by omega) hx, by omega⟩, fun m hm1 => ?_⟩
          by_cases h1 : 0 < m
          · have := hm (m - 1) (by omega) (by rw [show m - 1 + 1 = m by omega]; exact hm1); omega
          · omega
        · rename_i hx
          have : k = 0 := by by_cases h : 0 < k; exact absurd ⟨h, hx⟩ hc; omega
          subst this
          refine ⟨⟨Mt.zero (by omega), by omega⟩, fun m hm1 => ?_⟩
          by_cases h1 : 0 < m
          · have h2 : Bd w (t + 1) (m - 1 + 1) := by rw [show m - 1 + 1 = m by omega]; exact hm1
            have := hm (m - 1) (by omega) h2
            have e : m - 1 = 0 := by omega
            rw [e] at h2
            exact absurd (h2.1.pred (by omega)).2.2 hx
          · omega
      · by_cases hx : ix w t = ix w k
        · rw [if_pos hx]
          (repeat' first | (with_reducible refine G_to ?_ ?_; focus (first | omega | (unfold fits; omega) | (unfold room; simp only [List.length_append, List.length_cons, List.length_nil]; omega))) | (with_reducible refine itet_to ?_) | (with_reducible refine itef_to ?_) | (with_reducible refine ite_to (fun _ => ?_) (fun _ => ?_)) | unfold lyndon_borders_J6 | unfold lyndon_borders_J6_1 | unfold lyndon_borders_J8) <;> try (exfalso; omega)
          all_goals first | rfl | (exfalso; exact absurd hx ‹_›) | exact absurd hc (fun h => h ⟨by assumption, by assumption⟩)
        · have : k = 0 := by
            by_cases h : 0 < k
            · exact absurd ⟨h, hx⟩ hc
            · omega
          rw [if_neg hx]; subst this
          (repeat' first | (with_reducible refine G_to ?_ ?_; focus (first | omega | (unfold fits; omega) | (unfold room; simp only [List.length_append, List.length_cons, List.length_nil]; omega))) | (with_reducible refine itet_to ?_) | (with_reducible refine itef_to ?_) | (with_reducible refine ite_to (fun _ => ?_) (fun _ => ?_)) | unfold lyndon_borders_J6 | unfold lyndon_borders_J6_1 | unfold lyndon_borders_J8) <;> try (exfalso; omega)
          all_goals first | rfl | (exfalso; exact absurd ‹_› hx)
theorem borders_L6z {w : List Int} {r4 : Int → Int → List Int → Option (List Int)} : lyndon_borders_L6 w 0 [] r4 0 = r4 0 1 [0] := by
  rw [lyndon_borders_L6_eq]; unfold lyndon_borders_L6_B
  (repeat' first | (with_reducible refine G_to ?_ ?_; focus (first | omega | (unfold fits; omega) | (unfold room; simp only [List.length_append, List.length_cons, List.length_nil]; omega))) | (with_reducible refine itet_to ?_) | (with_reducible refine itef_to ?_) | (with_reducible refine ite_to (fun _ => ?_) (fun _ => ?_)) | unfold lyndon_borders_J6 | unfold lyndon_borders_J6_1 | unfold lyndon_borders_J8) <;> try (exfalso; omega)
  rfl
theorem Bd.one {w : List Int} {k : Int} (h : Bd w 1 k) : k = 0 := by
  obtain ⟨⟨h1, _⟩, h2⟩ := h; omega
theorem borders_L4 {w : List Int} (hs : w.length ≤ 1000000) : ∀ (n : Nat) (k t : Int) (l : List Int), (w.length - t).toNat = n → 0 ≤ t → t ≤ w.length → l.length = t → (∀ i : Int, 0 ≤ i → i < t → BM w (i + 1) (ix l i)) → (t = 0 → k = 0) → (0 < t → BM w t k) →
    ∃ L, L.length = w.length ∧ (∀ i : Int, 0 ≤ i → i < w.length → BM w (i + 1) (ix L i)) ∧ lyndon_borders_L4 w k t l = some L := by
  intro n
  induction n with
  | zero =>
    intro k t l hn h0 h1 hl hB hz hk
    refine ⟨l, by omega, fun i a b => hB i a (by omega), ?_⟩
    rw [lyndon_borders_L4_eq]; unfold lyndon_borders_L4_B
    (repeat' first | (with_reducible refine G_to ?_ ?_; focus (first | omega | (unfold fits; omega) | (unfold room; simp only [List.length_append, List.length_cons, List.length_nil]; omega))) | (with_reducible refine itet_to ?_) | (with_reducible refine itef_to ?_) | (with_reducible refine ite_to (fun _ => ?_) (fun _ => ?_)) | unfold lyndon_borders_J6 | unfold lyndon_borders_J6_1 | unfold lyndon_borders_J8) <;> try (exfalso; omega)
    rfl
  | succ n ih =>
    intro k t l hn h0 h1 hl hB hz hk
    by_cases ht : t = 0
    · subst ht
      obtain rfl := hz rfl
      obtain rfl : l = [] := List.length_eq_zero_iff.1 (by omega)
      have hb : BM w 1 0 := ⟨⟨Mt.zero (by omega), by omega⟩, fun m hm => by have := hm.one; omega⟩
      obtain ⟨L, h2, h3, h4⟩ := ih 0 1 [0] (by omega) (by omega) (by omega) rfl (fun i a b => by
        have : i = 0 := by omega
        rw [this]; exact hb) (by omega) (fun _ => hb)
      refine ⟨L, h2, h3, ?_⟩
      rw [lyndon_borders_L4_eq]; unfold lyndon_borders_L4_B
      (repeat' first | (with_reducible refine G_to ?_ ?_; focus (first | omega | (unfold fits; omega) | (unfold room; simp only [List.length_append, List.length_cons, List.length_nil]; omega))) | (with_reducible refine itet_to ?_) | (with_reducible refine itef_to ?_) | (with_reducible refine ite_to (fun _ => ?_) (fun _ => ?_)) | unfold lyndon_borders_J6 | unfold lyndon_borders_J6_1 | unfold lyndon_borders_J8) <;> try (exfalso; omega)
      rw [borders_L6z]; exact h4
    · have hk' := hk (by omega)
      obtain ⟨K, hK, he⟩ := borders_L6 (r4 := lyndon_borders_L4 w) hs (by omega) (by omega) hl hB _ k rfl hk'.1 (fun m hm0 hm1 => hk'.2 m ⟨(hm1.1.pred hm0).1, by have := hm1.2; omega⟩)
      obtain ⟨L, h2, h3, h4⟩ := ih K (t + 1) (l ++ [K]) (by omega) (by omega) (by omega) (by simp; omega) (below_succ (fun j a b => by rw [ix_append_left a (by omega)]; exact hB j a b) (by rw [← hl, ix_append_last, hl]; exact hK)) (by omega) (fun _ => hK)
      refine ⟨L, h2, h3, ?_⟩
      rw [lyndon_borders_L4_eq]; unfold lyndon_borders_L4_B
      (repeat' first | (with_reducible refine G_to ?_ ?_; focus (first | omega | (unfold fits; omega) | (unfold room; simp only [List.length_append, List.length_cons, List.length_nil]; omega))) | (with_reducible refine itet_to ?_) | (with_reducible refine itef_to ?_) | (with_reducible refine ite_to (fun _ => ?_) (fun _ => ?_)) | unfold lyndon_borders_J6 | unfold lyndon_borders_J6_1 | unfold lyndon_borders_J8) <;> try (exfalso; omega)
      rw [he]; exact h4
theorem borders_spec {w : List Int} (hs : w.length ≤ 1000000) : ∃ L, L.length = w.length ∧ (∀ i : Int, 0 ≤ i → i < w.length → BM w (i + 1) (ix L i)) ∧ lyndon_borders w = some L :=
  borders_L4 hs _ 0 0 [] rfl (by omega) (by omega) rfl (fun i a b => by omega) (fun _ => rfl) (by omega)

theorem find_L12 {w v B : List Int} {t : Int} {out : List Int} {r10 : Int → Int → List Int → Option (Int × List Int)} (hv : 0 < v.length) (hvs : v.length ≤ 1000000) (hws : w.length ≤ 1000000) (h0 : 0 ≤ t) (ht : t < w.length) (ho : out.length ≤ 1000000) (hl : B.length = v.length) (hB : ∀ i : Int, 0 ≤ i → i < v.length → BM v (i + 1) (ix B i)) :
    ∀ (n : Nat) (k : Int), k.toNat = n → Mt v w t k → (∀ m, 0 ≤ m → Mt v w (t + 1) (m + 1) → m ≤ k) → ∃ K, (Mt v w (t + 1) K ∧ ∀ m, Mt v w (t + 1) m → m ≤ K) ∧ lyndon_Find_L12 w v B t out r10 k = r10 K (t + 1) (if K = v.length then out ++ [t + 1 - K] else out) := by
  intro n
  induction n using Nat.strongRecOn with
  | ind n ih =>
    intro k hn hk hm
    obtain ⟨k0, k1, k2, k3⟩ := hk
    rw [lyndon_Find_L12_eq]; unfold lyndon_Find_L12_B
    by_cases hc : 0 < k ∧ (k = v.length ∨ ¬ ix v k = ix w t)
    · have hB' := hB (k - 1) (by omega) (by omega)
      rw [show k - 1 + 1 = k by omega] at hB'
      have hb := hB'.1
      obtain ⟨⟨b0, b1, b2, b3⟩, b4⟩ := hB'.1
      obtain ⟨K, hK, he⟩ := ih (ix B (k - 1)).toNat (by omega) (ix B (k - 1)) rfl (Mt.down ⟨k0, k1, k2, k3⟩ hb) (fun m hm0 hm1 => by
        obtain ⟨p1, p2, p3⟩ := hm1.pred hm0
        have hmk := hm m hm0 hm1
        have : m ≠ k := fun e => by
          subst e
          rcases hc.2 with h | h
          · omega
          · exact h p3.symm
        exact hB'.2 m (Mt.bd ⟨k0, k1, k2, k3⟩ p1 (by omega)))
      refine ⟨K, hK, ?_⟩
      (repeat' first | (with_reducible refine G_to ?_ ?_; focus (first | omega | (unfold fits; omega) | (unfold room; simp only [List.length_append, List.length_cons, List.length_nil]; omega))) | (with_reducible refine itet_to ?_) | (with_reducible refine itef_to ?_) | (with_reducible refine ite_to (fun _ => ?_) (fun _ => ?_)) | unfold lyndon_Find_J12 | unfold lyndon_Find_J12_1) <;> try (exfalso; omega)
      · exact he
      · exact he
    · refine ⟨if ix v k = ix w t then k + 1 else 0, ?_, ?_⟩
      · have hkv : k < v.length := by
          by_cases h : 0 < k
          · by_cases h2 : k = v.length
            · exact absurd ⟨h, .inl h2⟩ hc
            · omega
          · omega
        split
        · rename_i hx
          refine ⟨Mt.up ⟨k0, k1, k2, k3⟩ hkv hx.symm, fun m hm1 => ?_⟩
          by_cases h1 : 0 < m
          · have := hm (m - 1) (by omega) (by rw [show m - 1 + 1 = m by omega]; exact hm1); omega
          · omega
        · rename_i hx
          have : k = 0 := by
            by_cases h : 0 < k
            · exact absurd ⟨h, .inr hx⟩ hc
            · omega
          subst this
          refine ⟨Mt.zero (by omega), fun m hm1 => ?_⟩
          by_cases h1 : 0 < m
          · have h2 : Mt v w (t + 1) (m - 1 + 1) := by rw [show m - 1 + 1 = m by omega]; exact hm1
            have := hm (m - 1) (by omega) h2
            have e : m - 1 = 0 := by omega
            rw [e] at h2
            exact absurd (h2.pred (by omega)).2.2.symm hx
          · omega
      · have hkv : k < v.length := by
          by_cases h : 0 < k
          · by_cases h2 : k = v.length
            · exact absurd ⟨h, .inl h2⟩ hc
            · omega
          · omega
        by_cases hx : ix v k = ix w t
        · rw [if_pos hx]
          (repeat' first | (with_reducible refine G_to ?_ ?_; focus (first | omega | (unfold fits; omega) | (unfold room; simp only [List.length_append, List.length_cons, List.length_nil]; omega))) | (with_reducible refine itet_to ?_) | (with_reducible refine itef_to ?_) | (with_reducible refine ite_to (fun _ => ?_) (fun _ => ?_)) | unfold lyndon_Find_J12 | unfold lyndon_Find_J12_1 | unfold lyndon_Find_J15) <;> try (exfalso; omega)
          all_goals first | (rw [if_pos (by assumption)]; done) | (rw [if_neg (by assumption)]; done) | (exfalso; exact absurd hx ‹_›) | exact absurd hc (fun h => h ⟨by assumption, .inr (by assumption)⟩)
        · have : k = 0 := by
            by_cases h : 0 < k
            · exact absurd ⟨h, .inr hx⟩ hc
            · omega
          rw [if_neg hx]; subst this
          (repeat' first | (with_reducible refine G_to ?_ ?_; focus (first | omega | (unfold fits; omega) | (unfold room; simp only [List.length_append, List.length_cons, List.length_nil]; omega))) | (with_reducible refine itet_to ?_) | (with_reducible refine itef_to ?_) | (with_reducible refine ite_to (fun _ => ?_) (fun _ => ?_)) | unfold lyndon_Find_J12 | unfold lyndon_Find_J12_1 | unfold lyndon_Find_J15) <;> try (exfalso; omega)
          all_goals first | (exfalso; exact absurd ‹_› hx) | (rw [if_neg (by omega)]; done) 
open Classical in
noncomputable def occ (v w : List Int) : Nat → List Int
  | 0 => []
  | n + 1 => if Mt v w (n + v.length) v.length then occ v w n ++ [(n : Int)] else occ v w n
theorem occ_len (v w : List Int) : ∀ n, (occ v w n).length ≤ n
  | 0 => Nat.le_refl _
  | n + 1 => by
    have := occ_len v w n
    unfold occ; split
    · simp; omega
    · omega
theorem find_L10 {w v B : List Int} (hv : 0 < v.length) (hvs : v.length ≤ 100000) (hws : w.length ≤ 100000) (hl : B.length = v.length) (hB : ∀ i : Int, 0 ≤ i → i < v.length → BM v (i + 1) (ix B i)) :
    ∀ (n : Nat) (t k : Int), (w.length - t).toNat = n → 0 ≤ t → t ≤ w.length → Mt v w t k → (∀ m, Mt v w t m → m ≤ k) →
      lyndon_Find_L10 w v B k t (occ v w (t + 1 - v.length).toNat) = some (0, occ v w (w.length + 1 - v.length)) := by
  intro n
  induction n with
  | zero =>
    intro t k hn h0 h1 hk hm
    rw [lyndon_Find_L10_eq]; unfold lyndon_Find_L10_B
    (repeat' first | (with_reducible refine G_to ?_ ?_; focus (first | omega | (unfold fits; omega) | (unfold room; simp only [List.length_append, List.length_cons, List.length_nil]; omega))) | (with_reducible refine itet_to ?_) | (with_reducible refine itef_to ?_) | (with_reducible refine ite_to (fun _ => ?_) (fun _ => ?_))) <;> try (exfalso; omega)
    rw [show (t + 1 - (v.length : Int)).toNat = w.length + 1 - v.length by omega]
  | succ n ih =>
    intro t k hn h0 h1 hk hm
    have hol := occ_len v w (t + 1 - v.length).toNat
    obtain ⟨K, hK, he⟩ := find_L12 (r10 := lyndon_Find_L10 w v B) (out := occ v w (t + 1 - v.length).toNat) hv (by omega) (by omega) h0 (by omega) (by omega) hl hB _ k rfl hk (fun m hm0 hm1 => hm m (hm1.pred hm0).1)
    rw [lyndon_Find_L10_eq]; unfold lyndon_Find_L10_B
    (repeat' first | (with_reducible refine G_to ?_ ?_; focus (first | omega | (unfold fits; omega) | (unfold room; simp only [List.length_append, List.length_cons, List.length_nil]; omega))) | (with_reducible refine itet_to ?_) | (with_reducible refine itef_to ?_) | (with_reducible refine ite_to (fun _ => ?_) (fun _ => ?_))) <;> try (exfalso; omega)
    rw [he, ← ih (t + 1) K (by omega) (by omega) (by omega) hK.1 hK.2]
    congr 1
    by_cases hlt : t + 1 < v.length
    · have hne : K ≠ v.length := by have := hK.1.2.1; omega
      rw [if_neg hne, show (t + 1 - (v.length : Int)).toNat = 0 by omega, show (t + 1 + 1 - (v.length : Int)).toNat = 0 by omega]
    · rw [show (t + 1 + 1 - (v.length : Int)).toNat = (t + 1 - (v.length : Int)).toNat + 1 by omega]
      rw [occ]
      rw [show (((t + 1 - (v.length : Int)).toNat : Nat) : Int) = t + 1 - v.length by omega, show t + 1 - (v.length : Int) + v.length = t + 1 by omega]
      by_cases hKv : K = v.length
      · rw [if_pos hKv, if_pos (hKv ▸ hK.1), hKv]
      · rw [if_neg hKv, if_neg]
        intro h
        have := hK.2 _ h
        have := hK.1.2.2.1
        omega
theorem find_spec {w v : List Int} : lyndon_Find w v = some (if mayE 4 w = 0 then (if mayE 4 v = 0 then (if v.length = 0 then ((6 : Int), []) else (0, occ v w (w.length + 1 - v.length))) else (mayE 4 v, [])) else (mayE 4 w, [])) := by
  unfold lyndon_Find
  refine bind_to lyndon_may2 ?_
  by_cases h1 : mayE 4 w = 0
  · rw [if_pos h1, if_pos h1]
    by_cases h2 : mayE 4 v = 0
    · rw [if_pos h2]
      have a1 := (mayE_zero h1).2.1
      have a2 := (mayE_zero h2).2.1
      (repeat' first | (with_reducible refine G_to ?_ ?_; focus (first | omega | (unfold fits; omega) | (unfold room; simp only [List.length_append, List.length_cons, List.length_nil]; omega))) | (with_reducible refine itet_to ?_) | (with_reducible refine itef_to ?_) | (with_reducible refine ite_to (fun _ => ?_) (fun _ => ?_))) <;> try (exfalso; omega)
      · rw [if_pos (by omega)]
      · rw [if_neg (by omega)]
        obtain ⟨B, hl, hB, he⟩ := borders_spec (w := v) (by omega)
        refine bind_to he ?_
        have := find_L10 (w := w) (v := v) (B := B) (by omega) (by omega) (by omega) hl hB _ 0 0 rfl (by omega) (by omega) (Mt.zero (by omega)) (fun m hm => hm.2.1)
        rw [show ((0 : Int) + 1 - (v.length : Int)).toNat = 0 by omega] at this
        exact this
    · rw [if_neg h2]
      (repeat' first | (with_reducible refine G_to ?_ ?_; focus (first | omega | (unfold fits; omega) | (unfold room; simp only [List.length_append, List.length_cons, List.length_nil]; omega))) | (with_reducible refine itet_to ?_) | (with_reducible refine itef_to ?_) | (with_reducible refine ite_to (fun _ => ?_) (fun _ => ?_))) <;> try (exfalso; omega)
      rfl
  · rw [if_neg h1, if_neg h1]
    (repeat' first | (with_reducible refine G_to ?_ ?_; focus (first | omega | (unfold fits; omega) | (unfold room; simp only [List.length_append, List.length_cons, List.length_nil]; omega))) | (with_reducible refine itet_to ?_) | (with_reducible refine itef_to ?_) | (with_reducible refine ite_to (fun _ => ?_) (fun _ => ?_))) <;> try (exfalso; omega)
    rfl
theorem find_ref {w v : List Int} {y : Int} {L : List Int} (hv : 0 < v.length) (hvs : v.length ≤ 100000) (hws : w.length ≤ 100000) (hL : L.length ≤ 100000) :
    ∀ (n : Nat) (i : Int), (w.length + 1 - i).toNat = n → 0 ≤ i → i ≤ w.length + 1 → i ≤ (w.length + 1 - v.length : Nat) → law_LyndonFinds_L11 w v y L i (occ v w i.toNat) = some (decide (L = occ v w (w.length + 1 - v.length)) && decide (y = 0)) := by
  intro n
  induction n with
  | zero =>
    intro i hn h0 h1 h2
    rw [law_LyndonFinds_L11_eq]; unfold law_LyndonFinds_L11_B
    (repeat' first | (with_reducible refine G_to ?_ ?_; focus (first | omega | (unfold fits; omega) | (unfold room; simp only [List.length_append, List.length_cons, List.length_nil]; omega))) | (with_reducible refine itet_to ?_) | (with_reducible refine itef_to ?_) | (with_reducible refine ite_to (fun _ => ?_) (fun _ => ?_))) <;> try (exfalso; omega)
  | succ n ih =>
    intro i hn h0 h1 h2
    have hol := occ_len v w i.toNat
    rw [law_LyndonFinds_L11_eq]; unfold law_LyndonFinds_L11_B
    (repeat' first | (with_reducible refine G_to ?_ ?_; focus (first | omega | (unfold fits; omega) | (unfold room; simp only [List.length_append, List.length_cons, List.length_nil]; omega))) | (with_reducible refine itet_to ?_) | (with_reducible refine itef_to ?_) | (with_reducible refine ite_to (fun _ => ?_) (fun _ => ?_))) <;> try (exfalso; omega)
    · have hcl : ((cut w i (i + (v.length : Int))).length : Int) = i + v.length - i := cut_len (by omega) (by omega) (by omega)
      refine bind_to (r1_Words_spec (by omega)) ?_
      have hoc : occ v w (i + 1).toNat = if cut w i (i + (v.length : Int)) = v then occ v w i.toNat ++ [i] else occ v w i.toNat := by
        rw [show (i + 1).toNat = i.toNat + 1 by omega, occ, show ((i.toNat : Nat) : Int) = i by omega]
        have : Mt v w (i + v.length) v.length ↔ cut w i (i + (v.length : Int)) = v := by
          rw [cut_eq_iff (by omega) (by omega) (by omega)]
          constructor
          · rintro ⟨_, _, _, h⟩
            exact ⟨by omega, fun k a b => by rw [← h k a b]; congr 1; omega⟩
          · rintro ⟨_, h⟩
            exact ⟨by omega, by omega, by omega, fun k a b => by rw [← h k a b]; congr 1; omega⟩
        by_cases hh : cut w i (i + (v.length : Int)) = v
        · rw [if_pos (this.2 hh), if_pos hh]
        · rw [if_neg (fun h => hh (this.1 h)), if_neg hh]
      have := ih (i + 1) (by omega) (by omega) (by omega) (by omega)
      (repeat' first | (with_reducible refine G_to ?_ ?_; focus (first | omega | (unfold fits; omega) | (unfold room; simp only [List.length_append, List.length_cons, List.length_nil]; omega))) | (with_reducible refine itet_to ?_) | (with_reducible refine itef_to ?_) | (with_reducible refine ite_to (fun _ => ?_) (fun _ => ?_))) <;> try (exfalso; omega)
      · rw [hoc, if_pos (by assumption)] at this; exact this
      · rw [hoc, if_neg (by assumption)] at this; exact this
    · have : i.toNat = w.length + 1 - v.length := by omega
      rw [this]
      refine bind_to (r1_Words_spec (by omega)) ?_
      (repeat' first | (with_reducible refine G_to ?_ ?_; focus (first | omega | (unfold fits; omega) | (unfold room; simp only [List.length_append, List.length_cons, List.length_nil]; omega))) | (with_reducible refine itet_to ?_) | (with_reducible refine itef_to ?_) | (with_reducible refine ite_to (fun _ => ?_) (fun _ => ?_))) <;> try (exfalso; omega)
      · rename_i h; simp [h]
      · rename_i h; simp [h]
theorem law_true (w v : List Int) : law_LyndonFinds w v = some true := by
  unfold law_LyndonFinds
  refine bind_to find_spec ?_
  refine bind_to r1_May_spec ?_
  by_cases h1 : mayE 4 w = 0
  · rw [if_pos h1]
    (repeat' first | (with_reducible refine G_to ?_ ?_; focus (first | omega | (unfold fits; omega) | (unfold room; simp only [List.length_append, List.length_cons, List.length_nil]; omega))) | (with_reducible refine itet_to ?_) | (with_reducible refine itef_to ?_) | (with_reducible refine ite_to (fun _ => ?_) (fun _ => ?_))) <;> try (exfalso; omega)
    refine bind_to r1_May_spec ?_
    unfold law_LyndonFinds_J4
    by_cases h2 : mayE 4 v = 0
    · have a1 := (mayE_zero h1).2.1
      have a2 := (mayE_zero h2).2.1
      by_cases h3 : v.length = 0
      · rw [if_pos h2, if_pos h3, if_pos (by simp [h2])]
        unfold law_LyndonFinds_J5
        rw [if_pos (by simp [h3])]
        unfold law_LyndonFinds_J6
        (repeat' first | (with_reducible refine G_to ?_ ?_; focus (first | omega | (unfold fits; omega) | (unfold room; simp only [List.length_append, List.length_cons, List.length_nil]; omega))) | (with_reducible refine itet_to ?_) | (with_reducible refine itef_to ?_) | (with_reducible refine ite_to (fun _ => ?_) (fun _ => ?_))) <;> try (exfalso; omega)
        rfl
      · rw [if_pos h2, if_neg h3, if_pos (by simp [h2])]
        unfold law_LyndonFinds_J5
        rw [if_neg (by simp only [decide_eq_true_eq]; omega)]
        unfold law_LyndonFinds_J6
        rw [if_neg (by simp [h2])]
        have hol := occ_len v w (w.length + 1 - v.length)
        have := find_ref (w := w) (v := v) (y := 0) (L := occ v w (w.length + 1 - v.length)) (by omega) (by omega) (by omega) (by omega) _ 0 rfl (by omega) (by omega) (by omega)
        rw [show ((0 : Int).toNat) = 0 from rfl] at this
        simpa [occ] using this
    · rw [if_neg h2, if_neg (by simp [h2])]
      unfold law_LyndonFinds_J5
      rw [if_neg (by simp)]
      unfold law_LyndonFinds_J6
      rw [if_pos (by simp [h2])]
      (repeat' first | (with_reducible refine G_to ?_ ?_; focus (first | omega | (unfold fits; omega) | (unfold room; simp only [List.length_append, List.length_cons, List.length_nil]; omega))) | (with_reducible refine itet_to ?_) | (with_reducible refine itef_to ?_) | (with_reducible refine ite_to (fun _ => ?_) (fun _ => ?_))) <;> try (exfalso; omega)
      rfl
  · rw [if_neg h1]
    (repeat' first | (with_reducible refine G_to ?_ ?_; focus (first | omega | (unfold fits; omega) | (unfold room; simp only [List.length_append, List.length_cons, List.length_nil]; omega))) | (with_reducible refine itet_to ?_) | (with_reducible refine itef_to ?_) | (with_reducible refine ite_to (fun _ => ?_) (fun _ => ?_))) <;> try (exfalso; omega)
    unfold law_LyndonFinds_J4
    rw [if_neg (by simp [h1])]
    unfold law_LyndonFinds_J5
    rw [if_neg (by simp)]
    unfold law_LyndonFinds_J6
    rw [if_pos (by simp [h1])]
    (repeat' first | (with_reducible refine G_to ?_ ?_; focus (first | omega | (unfold fits; omega) | (unfold room; simp only [List.length_append, List.length_cons, List.length_nil]; omega))) | (with_reducible refine itet_to ?_) | (with_reducible refine itef_to ?_) | (with_reducible refine ite_to (fun _ => ?_) (fun _ => ?_))) <;> try (exfalso; omega)
    rfl

end Go.Proofs.Ytgjpkfbaobanlaa.lyndonFindsW
