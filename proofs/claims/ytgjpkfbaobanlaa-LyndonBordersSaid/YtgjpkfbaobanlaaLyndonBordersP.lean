/- The law 'LyndonBorders' of the plain functions. -/
import Derived.Test.YtgjpkfbaobanlaaLyndonBordersD
set_option maxHeartbeats 1000000
set_option maxRecDepth 20000
set_option linter.unusedSimpArgs false
set_option linter.unusedVariables false
namespace Go.Proofs.Ytgjpkfbaobanlaa.lyndonBordersW
open Go Go.Ab
theorem r1_Words_L4_spec {a b : List Int} (hl : a.length = b.length) : ∀ (n : Nat) (i : Int), 0 ≤ i → i ≤ a.length → (a.length - i).toNat = n → a.length ≤ 2305843009213693951 → (∀ j : Int, 0 ≤ j → j < i → ix a j = ix b j) → r1_Words_L4 a b i = some (decide (a = b)) := by
  intro n
  induction n with
  | zero =>
    intro i h0 h1 hn hs h
    rw [r1_Words_L4_eq]; unfold r1_Words_L4_B
    (try dsimp only); (repeat' first | (with_reducible refine G_to ?_ ?_; focus (first | omega | (unfold fits; omega) | (unfold room; simp only [List.length_append, List.length_cons, List.length_nil]; omega))) | (with_reducible refine itet_to ?_) | (with_reducible refine itef_to ?_) | (with_reducible refine ite_to (fun _ => ?_) (fun _ => ?_))) <;> try (exfalso; omega)
    · rw [Option.some_inj, eq_comm, decide_eq_true_iff]; exact ix_ext hl (fun j a b => h j a (by omega))
  | succ n ih =>
    intro i h0 h1 hn hs h
    rw [r1_Words_L4_eq]; unfold r1_Words_L4_B
    (try dsimp only); (repeat' first | (with_reducible refine G_to ?_ ?_; focus (first | omega | (unfold fits; omega) | (unfold room; simp only [List.length_append, List.length_cons, List.length_nil]; omega))) | (with_reducible refine itet_to ?_) | (with_reducible refine itef_to ?_) | (with_reducible refine ite_to (fun _ => ?_) (fun _ => ?_))) <;> try (exfalso; omega)
    · rw [Option.some_inj, eq_comm, decide_eq_false_iff_not]; rintro rfl; contradiction
    · rename_i hx; exact ih _ (by omega) (by omega) (by omega) hs (below_succ h (Decidable.not_not.1 hx))
theorem r1_Words_spec {a b : List Int} (hs : a.length ≤ 2305843009213693951) : r1_Words a b = some (decide (a = b)) := by
  unfold r1_Words
  (try dsimp only); (repeat' first | (with_reducible refine G_to ?_ ?_; focus (first | omega | (unfold fits; omega) | (unfold room; simp only [List.length_append, List.length_cons, List.length_nil]; omega))) | (with_reducible refine itet_to ?_) | (with_reducible refine itef_to ?_) | (with_reducible refine ite_to (fun _ => ?_) (fun _ => ?_))) <;> try (exfalso; omega)
  · rw [Option.some_inj, eq_comm, decide_eq_false_iff_not]; rintro rfl; contradiction
  · exact r1_Words_L4_spec (by omega) _ 0 (by omega) (by omega) rfl hs (fun j a b => by omega)

theorem r1_May_L6_spec {letters : Int} {w : List Int} (hL : 1 ≤ letters ∧ letters ≤ 4) (hw : w.length ≤ (60 : Int)) : ∀ (n : Nat) (i : Int), 0 ≤ i → i ≤ w.length → (w.length - i).toNat = n → (∀ j : Int, 0 ≤ j → j < i → 0 ≤ ix w j ∧ ix w j < letters) → r1_May_L6 letters w i = some (mayE letters w) := by
  intro n
  induction n with
  | zero =>
    intro i h0 h1 hn h
    rw [r1_May_L6_eq]; unfold r1_May_L6_B
    (try dsimp only); (repeat' first | (with_reducible refine G_to ?_ ?_; focus (first | omega | (unfold fits; omega) | (unfold room; simp only [List.length_append, List.length_cons, List.length_nil]; omega))) | (with_reducible refine itet_to ?_) | (with_reducible refine itef_to ?_) | (with_reducible refine ite_to (fun _ => ?_) (fun _ => ?_))) <;> try (exfalso; omega)
    · rw [mayE_ok hL hw (fun j a b => h j a (by omega))]
  | succ n ih =>
    intro i h0 h1 hn h
    rw [r1_May_L6_eq]; unfold r1_May_L6_B
    (try dsimp only); (repeat' first | (with_reducible refine G_to ?_ ?_; focus (first | omega | (unfold fits; omega) | (unfold room; simp only [List.length_append, List.length_cons, List.length_nil]; omega))) | (with_reducible refine itet_to ?_) | (with_reducible refine itef_to ?_) | (with_reducible refine ite_to (fun _ => ?_) (fun _ => ?_))) <;> try (exfalso; omega)
    · rw [mayE_bad hL hw (i := i) (by omega) (by omega)]
    · rw [mayE_bad hL hw (i := i) (by omega) (by omega)]
    · exact ih _ (by omega) (by omega) (by omega) (below_succ h (by omega))
theorem r1_May_spec {letters : Int} {w : List Int} : r1_May letters w = some (mayE letters w) := by
  unfold r1_May
  (try dsimp only); (repeat' first | (with_reducible refine G_to ?_ ?_; focus (first | omega | (unfold fits; omega) | (unfold room; simp only [List.length_append, List.length_cons, List.length_nil]; omega))) | (with_reducible refine itet_to ?_) | (with_reducible refine itef_to ?_) | (with_reducible refine ite_to (fun _ => ?_) (fun _ => ?_))) <;> try (exfalso; omega)
  · rw [mayE_range (by omega)]
  · rw [mayE_range (by omega)]
  · rw [mayE_size (by omega) (by omega)]
  · exact r1_May_L6_spec (by omega) (by omega) _ 0 (by omega) (by omega) rfl (fun j a b => by omega)

theorem word_May_L6_spec {letters : Int} {w : List Int} (hL : 1 ≤ letters ∧ letters ≤ 4) (hw : w.length ≤ (60 : Int)) : ∀ (n : Nat) (i : Int), 0 ≤ i → i ≤ w.length → (w.length - i).toNat = n → (∀ j : Int, 0 ≤ j → j < i → 0 ≤ ix w j ∧ ix w j < letters) → word_May_L6 letters w i = some (mayE letters w) := by
  intro n
  induction n with
  | zero =>
    intro i h0 h1 hn h
    rw [word_May_L6_eq]; unfold word_May_L6_B
    (try dsimp only); (repeat' first | (with_reducible refine G_to ?_ ?_; focus (first | omega | (unfold fits; omega) | (unfold room; simp only [List.length_append, List.length_cons, List.length_nil]; omega))) | (with_reducible refine itet_to ?_) | (with_reducible refine itef_to ?_) | (with_reducible refine ite_to (fun _ => ?_) (fun _ => ?_))) <;> try (exfalso; omega)
    · rw [mayE_ok hL hw (fun j a b => h j a (by omega))]
  | succ n ih =>
    intro i h0 h1 hn h
    rw [word_May_L6_eq]; unfold word_May_L6_B
    (try dsimp only); (repeat' first | (with_reducible refine G_to ?_ ?_; focus (first | omega | (unfold fits; omega) | (unfold room; simp only [List.length_append, List.length_cons, List.length_nil]; omega))) | (with_reducible refine itet_to ?_) | (with_reducible refine itef_to ?_) | (with_reducible refine ite_to (fun _ => ?_) (fun _ => ?_))) <;> try (exfalso; omega)
    · rw [mayE_bad hL hw (i := i) (by omega) (by omega)]
    · rw [mayE_bad hL hw (i := i) (by omega) (by omega)]
    · exact ih _ (by omega) (by omega) (by omega) (below_succ h (by omega))
theorem word_May_spec {letters : Int} {w : List Int} : word_May letters w = some (mayE letters w) := by
  unfold word_May
  (try dsimp only); (repeat' first | (with_reducible refine G_to ?_ ?_; focus (first | omega | (unfold fits; omega) | (unfold room; simp only [List.length_append, List.length_cons, List.length_nil]; omega))) | (with_reducible refine itet_to ?_) | (with_reducible refine itef_to ?_) | (with_reducible refine ite_to (fun _ => ?_) (fun _ => ?_))) <;> try (exfalso; omega)
  · rw [mayE_range (by omega)]
  · rw [mayE_range (by omega)]
  · rw [mayE_size (by omega) (by omega)]
  · exact word_May_L6_spec (by omega) (by omega) _ 0 (by omega) (by omega) rfl (fun j a b => by omega)

theorem lyndon_may_L2_spec {l : List (List Int)} (hs : l.length ≤ 1000) : ∀ (n : Nat) (i : Int), 0 ≤ i → i ≤ l.length → (l.length - i).toNat = n → lyndon_may_L2 l i = some (((l.drop i.toNat).map (mayE 4)).foldr (fun x y => if x = 0 then y else x) 0) := by
  intro n
  induction n with
  | zero =>
    intro i h0 h1 hn
    rw [lyndon_may_L2_eq]; unfold lyndon_may_L2_B
    (try dsimp only); (repeat' first | (with_reducible refine G_to ?_ ?_; focus (first | omega | (unfold fits; omega) | (unfold room; simp only [List.length_append, List.length_cons, List.length_nil]; omega))) | (with_reducible refine itet_to ?_) | (with_reducible refine itef_to ?_) | (with_reducible refine ite_to (fun _ => ?_) (fun _ => ?_))) <;> try (exfalso; omega)
    rw [List.drop_of_length_le (by omega)]; rfl
  | succ n ih =>
    intro i h0 h1 hn
    rw [lyndon_may_L2_eq]; unfold lyndon_may_L2_B
    (try dsimp only); (repeat' first | (with_reducible refine G_to ?_ ?_; focus (first | omega | (unfold fits; omega) | (unfold room; simp only [List.length_append, List.length_cons, List.length_nil]; omega))) | (with_reducible refine itet_to ?_) | (with_reducible refine itef_to ?_) | (with_reducible refine ite_to (fun _ => ?_) (fun _ => ?_))) <;> try (exfalso; omega)
    refine bind_to (y := mayE 4 (ix l i)) word_May_spec ?_
    rw [ix_drop h0 (by omega), List.map_cons, List.foldr_cons]
    (try dsimp only); (repeat' first | (with_reducible refine G_to ?_ ?_; focus (first | omega | (unfold fits; omega) | (unfold room; simp only [List.length_append, List.length_cons, List.length_nil]; omega))) | (with_reducible refine itet_to ?_) | (with_reducible refine itef_to ?_) | (with_reducible refine ite_to (fun _ => ?_) (fun _ => ?_))) <;> try (exfalso; omega)
    · rename_i h; rw [if_neg h]
    · rename_i h; rw [if_pos (Decidable.not_not.1 h)]; exact ih _ (by omega) (by omega) (by omega)
theorem lyndon_may1 {a : List Int} : lyndon_may [a] = some (mayE 4 a) := by
  unfold lyndon_may
  rw [lyndon_may_L2_spec (by simp) _ 0 (by omega) (by omega) rfl]
  simp; omega
theorem lyndon_may2 {a b : List Int} : lyndon_may [a, b] = some (if mayE 4 a = 0 then mayE 4 b else mayE 4 a) := by
  unfold lyndon_may
  rw [lyndon_may_L2_spec (by simp) _ 0 (by omega) (by omega) rfl]
  simp; split <;> omega

/-- The first k letters of p end the first n letters of s. -/
def Mt (p s : List Int) (n k : Int) : Prop := 0 ≤ k ∧ k ≤ n ∧ k ≤ p.length ∧ ∀ j : Int, 0 ≤ j → j < k → ix s (n - k + j) = ix p j
def Bd (p : List Int) (n k : Int) : Prop := Mt p p n k ∧ k < n
def BM (p : List Int) (n k : Int) : Prop := Bd p n k ∧ ∀ m, Bd p n m → m ≤ k
theorem Mt.zero {p s : List Int} {n : Int} (h : 0 ≤ n) : Mt p s n 0 := ⟨by omega, h, by omega, fun j a b => by omega⟩
theorem Mt.down {p s : List Int} {n k m : Int} (h : Mt p s n k) (hm : Bd p k m) : Mt p s n m := by
  obtain ⟨h1, h2, h3, h4⟩ := h; obtain ⟨⟨g1, g2, g3, g4⟩, g5⟩ := hm
  refine ⟨g1, by omega, g3, fun j a b => ?_⟩
  rw [← g4 j a b, ← h4 _ (by omega) (by omega)]; congr 1; omega
theorem Mt.bd {p s : List Int} {n k m : Int} (h : Mt p s n k) (hm : Mt p s n m) (hlt : m < k) : Bd p k m := by
  obtain ⟨h1, h2, h3, h4⟩ := h; obtain ⟨g1, g2, g3, g4⟩ := hm
  refine ⟨⟨g1, by omega, g3, fun j a b => ?_⟩, hlt⟩
  rw [← g4 j a b, ← h4 _ (by omega) (by omega)]; congr 1; omega
theorem Mt.up {p s : List Int} {n k : Int} (h : Mt p s n k) (hk : k < p.length) (hx : ix s n = ix p k) : Mt p s (n + 1) (k + 1) := by
  obtain ⟨h1, h2, h3, h4⟩ := h
  refine ⟨by omega, by omega, by omega, fun j a b => ?_⟩
  by_cases hj : j < k
  · rw [← h4 j a hj]; congr 1; omega
  · have : j = k := by omega
    subst this; rw [← hx]; congr 1; omega
theorem Mt.pred {p s : List Int} {n k : Int} (h : Mt p s (n + 1) (k + 1)) (hk : 0 ≤ k) : Mt p s n k ∧ k < p.length ∧ ix s n = ix p k := by
  obtain ⟨h1, h2, h3, h4⟩ := h
  refine ⟨⟨hk, by omega, by omega, fun j a b => ?_⟩, by omega, ?_⟩
  · rw [← h4 j a (by omega)]; congr 1; omega
  · rw [← h4 k hk (by omega)]; congr 1; omega
theorem borders_L6 {w l : List Int} {t : Int} {r4 : Int → Int → List Int → Option (List Int)} (hs : w.length ≤ 1000000) (h0 : 0 < t) (ht : t < w.length) (hl : l.length = t) (hB : ∀ i : Int, 0 ≤ i → i < t → BM w (i + 1) (ix l i)) :
    ∀ (n : Nat) (k : Int), k.toNat = n → Bd w t k → (∀ m, 0 ≤ m → Bd w (t + 1) (m + 1) → m ≤ k) → ∃ K, BM w (t + 1) K ∧ lyndon_borders_L6 w t l r4 k = r4 K (t + 1) (l ++ [K]) := by
  intro n
  induction n using Nat.strongRecOn with
  | ind n ih =>
    intro k hn hk hm
    obtain ⟨⟨k0, k1, k2, k3⟩, k4⟩ := hk
    rw [lyndon_borders_L6_eq]; unfold lyndon_borders_L6_B
    by_cases hc : 0 < k ∧ ¬ ix w t = ix w k
    · have hB' := hB (k - 1) (by omega) (by omega)
      rw [show k - 1 + 1 = k by omega] at hB'
      have hb := hB'.1
      obtain ⟨⟨b0, b1, b2, b3⟩, b4⟩ := hB'.1
      obtain ⟨K, hK, he⟩ := ih (ix l (k - 1)).toNat (by omega) (ix l (k - 1)) rfl ⟨Mt.down ⟨k0, k1, k2, k3⟩ hb, by omega⟩ (fun m hm0 hm1 => by
        obtain ⟨p1, p2, p3⟩ := hm1.1.pred hm0
        have hmk := hm m hm0 hm1
        have : m ≠ k := fun e => hc.2 (e ▸ p3)
        exact hB'.2 m (Mt.bd ⟨k0, k1, k2, k3⟩ p1 (by omega)))
      refine ⟨K, hK, ?_⟩
      (try dsimp only); (repeat' first | (with_reducible refine G_to ?_ ?_; focus (first | omega | (unfold fits; omega) | (unfold room; simp only [List.length_append, List.length_cons, List.length_nil]; omega))) | (with_reducible refine itet_to ?_) | (with_reducible refine itef_to ?_) | (with_reducible refine ite_to (fun _ => ?_) (fun _ => ?_)) | unfold lyndon_borders_J6 | unfold lyndon_borders_J6_1 | unfold lyndon_borders_J8) <;> try (exfalso; omega)
      · exact he
      all_goals exact absurd hc.2 ‹¬¬ix w t = ix w k›
    · refine ⟨if ix w t = ix w k then k + 1 else 0, ?_, ?_⟩
      · split
        · rename_i hx
          refine ⟨⟨Mt.up ⟨k0, k1, k2, k3⟩ (by omega) hx, by omega⟩, fun m hm1 => ?_⟩
          by_cases h1 : 0 < m
          · have := hm (m - 1) (by omega) (by rw [show m - 1 + 1 = m by omega]; exact hm1); omega
          · omega
        · rename_i hx
          have : k = 0 := by by_cases h : 0 < k; exact absurd ⟨h, hx⟩ hc; omega
          subst this
          refine ⟨⟨Mt.zero (by omega), by omega⟩, fun m hm1 => ?_⟩
          by_cases h1 : 0 < m
          · have h2 : Bd w (t + 1) (m - 1 + 1) := by rw [show m - 1 + 1 = m by omega]; exact hm1
            have := hm (m - 1) (by omega) h2
            have e : m - 1 = 0 := by omega
            rw [e] at h2
            exact absurd (h2.1.pred (by omega)).2.2 hx
          · omega
      · by_cases hx : ix w t = ix w k
        · rw [if_pos hx]
          (try dsimp only); (repeat' first | (with_reducible refine G_to ?_ ?_; focus (first | omega | (unfold fits; omega) | (unfold room; simp only [List.length_append, List.length_cons, List.length_nil]; omega))) | (with_reducible refine itet_to ?_) | (with_reducible refine itef_to ?_) | (with_reducible refine ite_to (fun _ => ?_) (fun _ => ?_)) | unfold lyndon_borders_J6 | unfold lyndon_borders_J6_1 | unfold lyndon_borders_J8) <;> try (exfalso; omega)
          all_goals first | rfl | (exfalso; exact absurd hx ‹_›) | exact absurd hc (fun h => h ⟨by assumption, by assumption⟩)
        · have : k = 0 := by
            by_cases h : 0 < k
            · exact absurd ⟨h, hx⟩ hc
            · omega
          rw [if_neg hx]; subst this
          (try dsimp only); (repeat' first | (with_reducible refine G_to ?_ ?_; focus (first | omega | (unfold fits; omega) | (unfold room; simp only [List.length_append, List.length_cons, List.length_nil]; omega))) | (with_reducible refine itet_to ?_) | (with_reducible refine itef_to ?_) | (with_reducible refine ite_to (fun _ => ?_) (fun _ => ?_)) | unfold lyndon_borders_J6 | unfold lyndon_borders_J6_1 | unfold lyndon_borders_J8) <;> try (exfalso; omega)
          all_goals first | rfl | (exfalso; exact absurd ‹_› hx)
theorem borders_L6z {w : List Int} {r4 : Int → Int → List Int → Option (List Int)} : lyndon_borders_L6 w 0 [] r4 0 = r4 0 1 [0] := by
  rw [lyndon_borders_L6_eq]; unfold lyndon_borders_L6_B
  (try dsimp only); (repeat' first | (with_reducible refine G_to ?_ ?_; focus (first | omega | (unfold fits; omega) | (unfold room; simp only [List.length_append, List.length_cons, List.length_nil]; omega))) | (with_reducible refine itet_to ?_) | (with_reducible refine itef_to ?_) | (with_reducible refine ite_to (fun _ => ?_) (fun _ => ?_)) | unfold lyndon_borders_J6 | unfold lyndon_borders_J6_1 | unfold lyndon_borders_J8) <;> try (exfalso; omega)
  rfl
theorem Bd.one {w : List Int} {k : Int} (h : Bd w 1 k) : k = 0 := by
  obtain ⟨⟨h1, _⟩, h2⟩ := h; omega
theorem borders_L4 {w : List Int} (hs : w.length ≤ 1000000) : ∀ (n : Nat) (k t : Int) (l : List Int), (w.length - t).toNat = n → 0 ≤ t → t ≤ w.length → l.length = t → (∀ i : Int, 0 ≤ i → i < t → BM w (i + 1) (ix l i)) → (t = 0 → k = 0) → (0 < t → BM w t k) →
    ∃ L, L.length = w.length ∧ (∀ i : Int, 0 ≤ i → i < w.length → BM w (i + 1) (ix L i)) ∧ lyndon_borders_L4 w k t l = some L := by
  intro n
  induction n with
  | zero =>
    intro k t l hn h0 h1 hl hB hz hk
    refine ⟨l, by omega, fun i a b => hB i a (by omega), ?_⟩
    rw [lyndon_borders_L4_eq]; unfold lyndon_borders_L4_B
    (try dsimp only); (repeat' first | (with_reducible refine G_to ?_ ?_; focus (first | omega | (unfold fits; omega) | (unfold room; simp only [List.length_append, List.length_cons, List.length_nil]; omega))) | (with_reducible refine itet_to ?_) | (with_reducible refine itef_to ?_) | (with_reducible refine ite_to (fun _ => ?_) (fun _ => ?_)) | unfold lyndon_borders_J6 | unfold lyndon_borders_J6_1 | unfold lyndon_borders_J8) <;> try (exfalso; omega)
    rfl
  | succ n ih =>
    intro k t l hn h0 h1 hl hB hz hk
    by_cases ht : t = 0
    · subst ht
      obtain rfl := hz rfl
      obtain rfl : l = [] := List.length_eq_zero_iff.1 (by omega)
      have hb : BM w 1 0 := ⟨⟨Mt.zero (by omega), by omega⟩, fun m hm => by have := hm.one; omega⟩
      obtain ⟨L, h2, h3, h4⟩ := ih 0 1 [0] (by omega) (by omega) (by omega) rfl (fun i a b => by
        have : i = 0 := by omega
        rw [this]; exact hb) (by omega) (fun _ => hb)
      refine ⟨L, h2, h3, ?_⟩
      rw [lyndon_borders_L4_eq]; unfold lyndon_borders_L4_B
      (try dsimp only); (repeat' first | (with_reducible refine G_to ?_ ?_; focus (first | omega | (unfold fits; omega) | (unfold room; simp only [List.length_append, List.length_cons, List.length_nil]; omega))) | (with_reducible refine itet_to ?_) | (with_reducible refine itef_to ?_) | (with_reducible refine ite_to (fun _ => ?_) (fun _ => ?_)) | unfold lyndon_borders_J6 | unfold lyndon_borders_J6_1 | unfold lyndon_borders_J8) <;> try (exfalso; omega)
      rw [borders_L6z]; exact h4
    · have hk' := hk (by omega)
      obtain ⟨K, hK, he⟩ := borders_L6 (r4 := lyndon_borders_L4 w) hs (by omega) (by omega) hl hB _ k rfl hk'.1 (fun m hm0 hm1 => hk'.2 m ⟨(hm1.1.pred hm0).1, by have := hm1.2; omega⟩)
      obtain ⟨L, h2, h3, h4⟩ := ih K (t + 1) (l ++ [K]) (by omega) (by omega) (by omega) (by simp; omega) (below_succ (fun j a b => by rw [ix_append_left a (by omega)]; exact hB j a b) (by rw [← hl, ix_append_last, hl]; exact hK)) (by omega) (fun _ => hK)
      refine ⟨L, h2, h3, ?_⟩
      rw [lyndon_borders_L4_eq]; unfold lyndon_borders_L4_B
      (try dsimp only); (repeat' first | (with_reducible refine G_to ?_ ?_; focus (first | omega | (unfold fits; omega) | (unfold room; simp only [List.length_append, List.length_cons, List.length_nil]; omega))) | (with_reducible refine itet_to ?_) | (with_reducible refine itef_to ?_) | (with_reducible refine ite_to (fun _ => ?_) (fun _ => ?_)) | unfold lyndon_borders_J6 | unfold lyndon_borders_J6_1 | unfold lyndon_borders_J8) <;> try (exfalso; omega)
      rw [he]; exact h4
theorem borders_spec {w : List Int} (hs : w.length ≤ 1000000) : ∃ L, L.length = w.length ∧ (∀ i : Int, 0 ≤ i → i < w.length → BM w (i + 1) (ix L i)) ∧ lyndon_borders w = some L :=
  borders_L4 hs _ 0 0 [] rfl (by omega) (by omega) rfl (fun i a b => by omega) (fun _ => rfl) (by omega)

theorem slices_Clone_spec {s : List Int} (hs : s.length * 8 ≤ 140737488355328) : slices_Clone s = some s := by
  have hr : G (room ([] : List Int) s 8) (some (([] : List Int) ++ s)) = some s := by
    rw [G_pos (room_of (by simpa using hs))]; rfl
  unfold slices_Clone
  refine itep_to (fun h => ?_) (fun h => hr)
  obtain rfl : s = [] := List.length_eq_zero_iff.1 h
  rw [hr]; exact both_self (ts := [(.list (.int .i64))]) (some ([] : List Int))

theorem BM.uniq {p : List Int} {n k m : Int} (h : BM p n k) (h2 : BM p n m) : k = m := by
  have := h.2 m h2.1; have := h2.2 k h.1; omega
theorem Bd_cut {w : List Int} {n k : Int} (hn : n ≤ w.length) (h0 : 0 ≤ n) : Bd (cut w 0 n) n k ↔ Bd w n k := by
  have hl : ((cut w 0 n).length : Int) = n - 0 := cut_len (by omega) h0 hn
  have hx : ∀ j : Int, 0 ≤ j → j < n → ix (cut w 0 n) j = ix w j := fun j a b => by rw [ix_cut (by omega) a (by omega)]; congr 1; omega
  constructor
  · rintro ⟨⟨a, b, c, d⟩, e⟩
    exact ⟨⟨a, b, by omega, fun j u v => by rw [← hx _ (by omega) (by omega), ← hx j u (by omega)]; exact d j u v⟩, e⟩
  · rintro ⟨⟨a, b, c, d⟩, e⟩
    exact ⟨⟨a, b, by omega, fun j u v => by rw [hx _ (by omega) (by omega), hx j u (by omega)]; exact d j u v⟩, e⟩
theorem BM_cut {w : List Int} {n k : Int} (hn : n ≤ w.length) (h0 : 0 ≤ n) : BM (cut w 0 n) n k ↔ BM w n k := by
  unfold BM; rw [Bd_cut hn h0]
  constructor
  · rintro ⟨a, b⟩; exact ⟨a, fun m h => b m ((Bd_cut hn h0).2 h)⟩
  · rintro ⟨a, b⟩; exact ⟨a, fun m h => b m ((Bd_cut hn h0).1 h)⟩
theorem Border_L2 {u : List Int} (hs : u.length ≤ 1000000) (h1 : 0 < u.length) : ∀ (n : Nat) (k : Int), k.toNat = n → 0 ≤ k → k < u.length → (∀ m, Bd u u.length m → m ≤ k) → ∃ K, BM u u.length K ∧ r31_Border_L2 u k = some K := by
  intro n
  induction n with
  | zero =>
    intro k hn h0 hk hm
    have : k = 0 := by omega
    subst this
    refine ⟨0, ⟨⟨Mt.zero (by omega), by omega⟩, hm⟩, ?_⟩
    rw [r31_Border_L2_eq]; unfold r31_Border_L2_B
    (try dsimp only); (repeat' first | (with_reducible refine G_to ?_ ?_; focus (first | omega | (unfold fits; omega) | (unfold room; simp only [List.length_append, List.length_cons, List.length_nil]; omega))) | (with_reducible refine itet_to ?_) | (with_reducible refine itef_to ?_) | (with_reducible refine ite_to (fun _ => ?_) (fun _ => ?_))) <;> try (exfalso; omega)
    rfl
  | succ n ih =>
    intro k hn h0 hk hm
    have hl : ((cut u 0 k).length : Int) = k - 0 := cut_len (by omega) h0 (by omega)
    have hb : cut u 0 k = cut u (u.length - k) u.length ↔ Bd u u.length k := by
      rw [eq_comm, cut_eq_iff (by omega) (by omega) (by omega)]
      constructor
      · rintro ⟨a, b⟩
        exact ⟨⟨h0, by omega, by omega, fun j c d => by rw [b j c (by omega), ix_cut (by omega) c (by omega)]; congr 1; omega⟩, hk⟩
      · rintro ⟨⟨a, b, c, d⟩, e⟩
        exact ⟨by omega, fun j f g => by rw [d j f (by omega), ix_cut (by omega) f (by omega)]; congr 1; omega⟩
    by_cases hB : Bd u u.length k
    · refine ⟨k, ⟨hB, hm⟩, ?_⟩
      rw [r31_Border_L2_eq]; unfold r31_Border_L2_B
      (try dsimp only); (repeat' first | (with_reducible refine G_to ?_ ?_; focus (first | omega | (unfold fits; omega) | (unfold room; simp only [List.length_append, List.length_cons, List.length_nil]; omega))) | (with_reducible refine itet_to ?_) | (with_reducible refine itef_to ?_) | (with_reducible refine ite_to (fun _ => ?_) (fun _ => ?_))) <;> try (exfalso; omega)
      refine bind_to (r1_Words_spec (by omega)) ?_
      rw [decide_eq_true (hb.2 hB), if_pos rfl]
    · obtain ⟨K, hK, he⟩ := ih (k - 1) (by omega) (by omega) (by omega) (fun m h => by
        have := hm m h
        have : m ≠ k := fun e => hB (e ▸ h)
        omega)
      refine ⟨K, hK, ?_⟩
      rw [r31_Border_L2_eq]; unfold r31_Border_L2_B
      (try dsimp only); (repeat' first | (with_reducible refine G_to ?_ ?_; focus (first | omega | (unfold fits; omega) | (unfold room; simp only [List.length_append, List.length_cons, List.length_nil]; omega))) | (with_reducible refine itet_to ?_) | (with_reducible refine itef_to ?_) | (with_reducible refine ite_to (fun _ => ?_) (fun _ => ?_))) <;> try (exfalso; omega)
      refine bind_to (r1_Words_spec (by omega)) ?_
      rw [decide_eq_false (fun h => hB (hb.1 h)), if_neg (by simp)]
      (try dsimp only); (repeat' first | (with_reducible refine G_to ?_ ?_; focus (first | omega | (unfold fits; omega) | (unfold room; simp only [List.length_append, List.length_cons, List.length_nil]; omega))) | (with_reducible refine itet_to ?_) | (with_reducible refine itef_to ?_) | (with_reducible refine ite_to (fun _ => ?_) (fun _ => ?_))) <;> try (exfalso; omega)
      exact he
theorem Border_spec {u : List Int} (hs : u.length ≤ 1000000) (h1 : 0 < u.length) : ∃ K, BM u u.length K ∧ r31_Border u = some K := by
  obtain ⟨K, hK, he⟩ := Border_L2 hs h1 _ (u.length - 1) rfl (by omega) (by omega) (fun m h => by have := h.2; omega)
  refine ⟨K, hK, ?_⟩
  unfold r31_Border
  (try dsimp only); (repeat' first | (with_reducible refine G_to ?_ ?_; focus (first | omega | (unfold fits; omega) | (unfold room; simp only [List.length_append, List.length_cons, List.length_nil]; omega))) | (with_reducible refine itet_to ?_) | (with_reducible refine itef_to ?_) | (with_reducible refine ite_to (fun _ => ?_) (fun _ => ?_))) <;> try (exfalso; omega)
  exact he
/-- A period. -/
def Per (w : List Int) (q : Int) : Prop := 0 < q ∧ q ≤ w.length ∧ ∀ j : Int, 0 ≤ j → j + q < w.length → ix w (j + q) = ix w j
theorem per_bd {w : List Int} {q : Int} (h0 : 0 < q) (h1 : q ≤ w.length) : Per w q ↔ Bd w w.length (w.length - q) := by
  constructor
  · rintro ⟨a, b, c⟩
    exact ⟨⟨by omega, by omega, by omega, fun j d e => by rw [← c j d (by omega)]; congr 1; omega⟩, by omega⟩
  · rintro ⟨⟨a, b, c, d⟩, e⟩
    exact ⟨h0, h1, fun j f g => by rw [← d j f (by omega)]; congr 1; omega⟩
theorem per_dvd {w : List Int} {p : Int} (hp : Per w p) (hmin : ∀ q, Per w q → p ≤ q) : ∀ (n : Nat) (q : Int), q.toNat = n → Per w q → p + q ≤ w.length → p ∣ q := by
  intro n
  induction n using Nat.strongRecOn with
  | ind n ih =>
    intro q hn hq hl
    have h1 := hmin q hq
    have hq0 := hq.1
    have hq1 := hq.2.1
    have hp0 := hp.1
    by_cases he : q = p
    · subst he; exact Int.dvd_refl _
    · have hper : Per w (q - p) := by
        refine ⟨by omega, by omega, fun j a b => ?_⟩
        obtain ⟨p1, p2, p3⟩ := hp; obtain ⟨q1, q2, q3⟩ := hq
        by_cases hj : j + q < w.length
        · rw [← q3 j a hj, ← p3 (j + (q - p)) (by omega) (by omega)]; congr 1; omega
        · have e1 := p3 (j - p) (by omega) (by omega)
          have e2 := q3 (j - p) (by omega) (by omega)
          rw [show j - p + p = j by omega] at e1
          rw [show j - p + q = j + (q - p) by omega] at e2
          rw [e2, e1]
      have hp0 := hp.1
      have := ih (q - p).toNat (by have := hp.1; omega) (q - p) rfl hper (by omega)
      have h2 := Int.dvd_add this (Int.dvd_refl p)
      rwa [show q - p + p = q by omega] at h2
theorem ix_mod {w : List Int} {n : Int} (hn : 0 < n) (hl : n ≤ w.length) (hper : Per w n) : ∀ (m : Nat) (i : Int), i.toNat = m → 0 ≤ i → i < w.length → ix w i = ix w (i % n) := by
  intro m
  induction m using Nat.strongRecOn with
  | ind m ih =>
    intro i hm h0 h1
    by_cases hi : i < n
    · rw [Int.emod_eq_of_lt h0 hi]
    · have h := hper.2.2 (i - n) (by omega) (by omega)
      rw [show i - n + n = i by omega] at h
      rw [h, ih (i - n).toNat (by omega) (i - n) rfl (by omega) (by omega), Int.sub_emod_right]
theorem Whole_L4 {w : List Int} {n : Int} (hs : w.length ≤ 1000000) (hn : 0 < n) (hl : n ≤ w.length) : ∀ (m : Nat) (i : Int), (w.length - i).toNat = m → 0 ≤ i → i ≤ w.length → (∀ j : Int, 0 ≤ j → j < i → ix w j = ix w (j % n)) → ∃ b, r31_Whole_L4 w (cut w 0 n) i = some b ∧ (b = true ↔ ∀ j : Int, 0 ≤ j → j < w.length → ix w j = ix w (j % n)) := by
  have hcl : ((cut w 0 n).length : Int) = n - 0 := cut_len (by omega) (by omega) hl
  intro m
  induction m with
  | zero =>
    intro i hm h0 h1 h
    refine ⟨true, ?_, ⟨fun _ j a b => h j a (by omega), fun _ => rfl⟩⟩
    rw [r31_Whole_L4_eq]; unfold r31_Whole_L4_B
    (try dsimp only); (repeat' first | (with_reducible refine G_to ?_ ?_; focus (first | omega | (unfold fits; omega) | (unfold room; simp only [List.length_append, List.length_cons, List.length_nil]; omega))) | (with_reducible refine itet_to ?_) | (with_reducible refine itef_to ?_) | (with_reducible refine ite_to (fun _ => ?_) (fun _ => ?_))) <;> try (exfalso; omega)
    rfl
  | succ m ih =>
    intro i hm h0 h1 h
    have e : ((cut w 0 n).length : Int) = n := by omega
    have b1 := Int.emod_nonneg i (show n ≠ 0 by omega)
    have b2 := Int.emod_lt_of_pos i hn
    have hx : ix (cut w 0 n) (i % n) = ix w (i % n) := by rw [ix_cut (by omega) b1 (by omega)]; congr 1; omega
    by_cases hh : ix w i = ix w (i % n)
    · obtain ⟨b, hb, hi⟩ := ih (i + 1) (by omega) (by omega) (by omega) (below_succ h hh)
      refine ⟨b, ?_, hi⟩
      rw [r31_Whole_L4_eq]; unfold r31_Whole_L4_B
      rw [e, Int.tmod_eq_emod_of_nonneg h0, hx]
      (try dsimp only); (repeat' first | (with_reducible refine G_to ?_ ?_; focus (first | omega | (unfold fits; omega) | (unfold room; simp only [List.length_append, List.length_cons, List.length_nil]; omega))) | (with_reducible refine itet_to ?_) | (with_reducible refine itef_to ?_) | (with_reducible refine ite_to (fun _ => ?_) (fun _ => ?_))) <;> try (exfalso; omega)
      exact hb
    · refine ⟨false, ?_, ⟨fun h => (by cases h), fun g => absurd (g i h0 (by omega)) hh⟩⟩
      rw [r31_Whole_L4_eq]; unfold r31_Whole_L4_B
      rw [e, Int.tmod_eq_emod_of_nonneg h0, hx]
      (try dsimp only); (repeat' first | (with_reducible refine G_to ?_ ?_; focus (first | omega | (unfold fits; omega) | (unfold room; simp only [List.length_append, List.length_cons, List.length_nil]; omega))) | (with_reducible refine itet_to ?_) | (with_reducible refine itef_to ?_) | (with_reducible refine ite_to (fun _ => ?_) (fun _ => ?_))) <;> try (exfalso; omega)
      rfl
theorem Whole_spec {w : List Int} {n : Int} (hs : w.length ≤ 1000000) (hn : 0 < n) (hl : n ≤ w.length) (hd : (w.length : Int) % n = 0) : ∃ b, r31_Whole w (cut w 0 n) (Int.tdiv w.length n) = some b ∧ (b = true ↔ Per w n) := by
  obtain ⟨b, hb, hi⟩ := Whole_L4 hs hn hl _ 0 rfl (by omega) (by omega) (fun j a b => by omega)
  refine ⟨b, ?_, ?_⟩
  · have hcl : ((cut w 0 n).length : Int) = n - 0 := cut_len (by omega) (by omega) hl
    have e : ((cut w 0 n).length : Int) = n := by omega
    have hq : n * Int.tdiv w.length n = w.length := by
      rw [Int.tdiv_eq_ediv_of_nonneg (by omega)]
      have := Int.mul_ediv_add_emod (w.length : Int) n; omega
    unfold r31_Whole
    rw [e, hq]
    (try dsimp only); (repeat' first | (with_reducible refine G_to ?_ ?_; focus (first | omega | (unfold fits; omega) | (unfold room; simp only [List.length_append, List.length_cons, List.length_nil]; omega))) | (with_reducible refine itet_to ?_) | (with_reducible refine itef_to ?_) | (with_reducible refine ite_to (fun _ => ?_) (fun _ => ?_))) <;> try (exfalso; omega)
    exact hb
  · rw [hi]
    constructor
    · intro h
      refine ⟨hn, hl, fun j a b => ?_⟩
      rw [h (j + n) (by omega) b, h j a (by omega), Int.add_emod_right]
    · intro h j a b
      exact ix_mod hn hl h _ j rfl a b
theorem per_full {w : List Int} (h : 0 < w.length) : Per w w.length := ⟨by omega, by omega, fun j a b => by omega⟩
def RootOf (w : List Int) (R : Int) : Prop := (Per w R ∧ (w.length : Int) % R = 0) ∧ ∀ m, Per w m → (w.length : Int) % m = 0 → R ≤ m
theorem Root_L2 {w : List Int} (hs : w.length ≤ 1000000) (h1 : 0 < w.length) : ∀ (m : Nat) (n : Int), (w.length + 1 - n).toNat = m → 0 < n → n ≤ w.length → (∀ q, Per w q → (w.length : Int) % q = 0 → n ≤ q) → ∃ R, RootOf w R ∧ r31_Root_L2 w n = some R := by
  intro m
  induction m with
  | zero => intro n hm h0 hn; omega
  | succ m ih =>
    intro n hm h0 hn h
    have hnext : ¬ (Per w n ∧ (w.length : Int) % n = 0) → ∃ R, RootOf w R ∧ r31_Root_L2 w (n + 1) = some R := fun hh => by
      have hne : n ≠ w.length := fun e => hh ⟨e ▸ per_full h1, by rw [e]; exact Int.emod_self⟩
      exact ih (n + 1) (by omega) (by omega) (by omega) (fun q a b => by
        have := h q a b
        have : q ≠ n := fun e => hh ⟨e ▸ a, e ▸ b⟩
        omega)
    have hdv : Int.tdiv (w.length : Int) n ≤ w.length := by rw [Int.tdiv_eq_ediv_of_nonneg (by omega)]; exact Int.ediv_le_self _ (by omega)
    have hdv0 : 0 ≤ Int.tdiv (w.length : Int) n := Int.tdiv_nonneg (by omega) (by omega)
    by_cases hd : (w.length : Int) % n = 0
    · obtain ⟨b, hb, hbp⟩ := Whole_spec hs h0 hn hd
      cases b with
      | true =>
        refine ⟨n, ⟨⟨hbp.1 rfl, hd⟩, h⟩, ?_⟩
        rw [r31_Root_L2_eq]; unfold r31_Root_L2_B
        rw [Int.tmod_eq_emod_of_nonneg (by omega)]
        (try dsimp only); (repeat' first | (with_reducible refine G_to ?_ ?_; focus (first | omega | (unfold fits; omega) | (unfold room; simp only [List.length_append, List.length_cons, List.length_nil]; omega))) | (with_reducible refine itet_to ?_) | (with_reducible refine itef_to ?_) | (with_reducible refine ite_to (fun _ => ?_) (fun _ => ?_))) <;> try (exfalso; omega)
        refine bind_to hb ?_
        rfl
      | false =>
        obtain ⟨R, hR, he⟩ := hnext (fun hh => by have := hbp.2 hh.1; cases this)
        refine ⟨R, hR, ?_⟩
        rw [r31_Root_L2_eq]; unfold r31_Root_L2_B
        rw [Int.tmod_eq_emod_of_nonneg (by omega)]
        (try dsimp only); (repeat' first | (with_reducible refine G_to ?_ ?_; focus (first | omega | (unfold fits; omega) | (unfold room; simp only [List.length_append, List.length_cons, List.length_nil]; omega))) | (with_reducible refine itet_to ?_) | (with_reducible refine itef_to ?_) | (with_reducible refine ite_to (fun _ => ?_) (fun _ => ?_))) <;> try (exfalso; omega)
        refine bind_to hb ?_
        rw [if_neg (by simp)]
        (try dsimp only); (repeat' first | (with_reducible refine G_to ?_ ?_; focus (first | omega | (unfold fits; omega) | (unfold room; simp only [List.length_append, List.length_cons, List.length_nil]; omega))) | (with_reducible refine itet_to ?_) | (with_reducible refine itef_to ?_) | (with_reducible refine ite_to (fun _ => ?_) (fun _ => ?_))) <;> try (exfalso; omega)
        exact he
    · obtain ⟨R, hR, he⟩ := hnext (fun hh => hd hh.2)
      refine ⟨R, hR, ?_⟩
      rw [r31_Root_L2_eq]; unfold r31_Root_L2_B
      rw [Int.tmod_eq_emod_of_nonneg (by omega)]
      (try dsimp only); (repeat' first | (with_reducible refine G_to ?_ ?_; focus (first | omega | (unfold fits; omega) | (unfold room; simp only [List.length_append, List.length_cons, List.length_nil]; omega))) | (with_reducible refine itet_to ?_) | (with_reducible refine itef_to ?_) | (with_reducible refine ite_to (fun _ => ?_) (fun _ => ?_))) <;> try (exfalso; omega)
      exact he
theorem RootOf.uniq {w : List Int} {a b : Int} (h : RootOf w a) (h2 : RootOf w b) : a = b := by
  have := h.2 b h2.1.1 h2.1.2; have := h2.2 a h.1.1 h.1.2; omega
theorem root_of_border {w : List Int} {b : Int} (h1 : 0 < w.length) (hb : BM w w.length b) : RootOf w (if (w.length : Int) % (w.length - b) = 0 then w.length - b else w.length) := by
  have hb0 := hb.1.1.1
  have hb1 := hb.1.2
  have hp : Per w (w.length - b) := (per_bd (by omega) (by omega)).2 (by rw [show (w.length : Int) - (w.length - b) = b by omega]; exact hb.1)
  have hmin : ∀ q, Per w q → w.length - b ≤ q := fun q hq => by
    have := hb.2 _ ((per_bd hq.1 hq.2.1).1 hq); omega
  split
  · rename_i hd
    exact ⟨⟨hp, hd⟩, fun m hm _ => hmin m hm⟩
  · rename_i hd
    refine ⟨⟨per_full h1, Int.emod_self⟩, fun m hm hdm => ?_⟩
    by_cases hlt : m < w.length
    · exfalso
      obtain ⟨c, hc⟩ := Int.dvd_of_emod_eq_zero hdm
      have hm0 := hm.1
      have hc2 : 2 ≤ c := by
        by_cases h : c ≤ 1
        · have : m * c ≤ m * 1 := Int.mul_le_mul_of_nonneg_left h (by omega)
          omega
        · omega
      have h3 : m * 2 ≤ m * c := Int.mul_le_mul_of_nonneg_left hc2 (by omega)
      have := hmin m hm
      have hdv := per_dvd hp hmin _ m rfl hm (by omega)
      exact hd (Int.emod_eq_zero_of_dvd (Int.dvd_trans hdv ⟨c, hc⟩))
    · omega
theorem lyndon_Root_spec {w : List Int} (h : mayE 4 w = 0) (h1 : 0 < w.length) : ∃ R, RootOf w R ∧ lyndon_Root w = some (Int.tdiv w.length R, 0, cut w 0 R) := by
  have a1 := (mayE_zero h).2.1
  obtain ⟨L, hl, hB, he⟩ := borders_spec (w := w) (by omega)
  have hb := hB (w.length - 1) (by omega) (by omega)
  rw [show (w.length : Int) - 1 + 1 = w.length by omega] at hb
  have hR := root_of_border h1 hb
  have hb0 := hb.1.1.1
  have hb1 := hb.1.2
  have hJ : ∀ R : Int, 0 < R → R ≤ w.length → lyndon_Root_J10 w R = some (Int.tdiv w.length R, 0, cut w 0 R) := fun R r0 r1 => by
    have hdv : Int.tdiv (w.length : Int) R ≤ w.length := by rw [Int.tdiv_eq_ediv_of_nonneg (by omega)]; exact Int.ediv_le_self _ (by omega)
    have hdv0 : 0 ≤ Int.tdiv (w.length : Int) R := Int.tdiv_nonneg (by omega) (by omega)
    have hcl : ((cut w 0 R).length : Int) = R - 0 := cut_len (by omega) (by omega) (by omega)
    unfold lyndon_Root_J10
    (try dsimp only); (repeat' first | (with_reducible refine G_to ?_ ?_; focus (first | omega | (unfold fits; omega) | (unfold room; simp only [List.length_append, List.length_cons, List.length_nil]; omega))) | (with_reducible refine itet_to ?_) | (with_reducible refine itef_to ?_) | (with_reducible refine ite_to (fun _ => ?_) (fun _ => ?_))) <;> try (exfalso; omega)
    refine bind_to (slices_Clone_spec (by omega)) ?_
    rfl
  refine ⟨_, hR, ?_⟩
  unfold lyndon_Root
  refine bind_to lyndon_may1 ?_
  (try dsimp only); (repeat' first | (with_reducible refine G_to ?_ ?_; focus (first | omega | (unfold fits; omega) | (unfold room; simp only [List.length_append, List.length_cons, List.length_nil]; omega))) | (with_reducible refine itet_to ?_) | (with_reducible refine itef_to ?_) | (with_reducible refine ite_to (fun _ => ?_) (fun _ => ?_))) <;> try (exfalso; omega)
  refine bind_to he ?_
  rw [Int.tmod_eq_emod_of_nonneg (by omega)]
  (try dsimp only); (repeat' first | (with_reducible refine G_to ?_ ?_; focus (first | omega | (unfold fits; omega) | (unfold room; simp only [List.length_append, List.length_cons, List.length_nil]; omega))) | (with_reducible refine itet_to ?_) | (with_reducible refine itef_to ?_) | (with_reducible refine ite_to (fun _ => ?_) (fun _ => ?_))) <;> try (exfalso; omega)
  · rename_i hh; rw [if_neg hh]; exact hJ _ (by omega) (by omega)
  · rename_i hh; rw [if_pos (Decidable.not_not.1 hh)]; exact hJ (w.length - ix L (w.length - 1)) (by omega) (by omega)
theorem law_L9 {w B : List Int} {y3 : Int} {y5 : List Int} (hs : w.length ≤ 60) (hl : B.length = w.length) (hB : ∀ i : Int, 0 ≤ i → i < w.length → BM w (i + 1) (ix B i)) (hy : (w.length = 0 ∧ y3 = 0 ∧ y5 = []) ∨ (0 < w.length ∧ ∃ R, RootOf w R ∧ y3 = Int.tdiv w.length R ∧ y5 = cut w 0 R)) :
    ∀ (n : Nat) (i : Int), (w.length - i).toNat = n → 0 ≤ i → i ≤ w.length → law_LyndonBorders_L9 w B y3 y5 i = some true := by
  intro n
  induction n with
  | zero =>
    intro i hn h0 h1
    rw [law_LyndonBorders_L9_eq]; unfold law_LyndonBorders_L9_B
    rcases hy with ⟨e1, e2, e3⟩ | ⟨e1, R, hR, e2, e3⟩
    · subst e2 e3
      (try dsimp only); (repeat' first | (with_reducible refine G_to ?_ ?_; focus (first | omega | (unfold fits; omega) | (unfold room; simp only [List.length_append, List.length_cons, List.length_nil]; omega))) | (with_reducible refine itet_to ?_) | (with_reducible refine itef_to ?_) | (with_reducible refine ite_to (fun _ => ?_) (fun _ => ?_))) <;> try (exfalso; omega)
      rfl
    · obtain ⟨R', hR', he⟩ := Root_L2 (w := w) (by omega) e1 _ 1 rfl (by omega) (by omega) (fun q a _ => by have := a.1; omega)
      obtain rfl := hR.uniq hR'
      have r0 := hR.1.1.1
      have r1 := hR.1.1.2.1
      have hdv : Int.tdiv (w.length : Int) R ≤ w.length := by rw [Int.tdiv_eq_ediv_of_nonneg (by omega)]; exact Int.ediv_le_self _ (by omega)
      have hdv0 : 0 ≤ Int.tdiv (w.length : Int) R := Int.tdiv_nonneg (by omega) (by omega)
      have hcl : ((cut w 0 R).length : Int) = R - 0 := cut_len (by omega) (by omega) (by omega)
      (try dsimp only); (repeat' first | (with_reducible refine G_to ?_ ?_; focus (first | omega | (unfold fits; omega) | (unfold room; simp only [List.length_append, List.length_cons, List.length_nil]; omega))) | (with_reducible refine itet_to ?_) | (with_reducible refine itef_to ?_) | (with_reducible refine ite_to (fun _ => ?_) (fun _ => ?_))) <;> try (exfalso; omega)
      refine bind_to he ?_
      (try dsimp only); (repeat' first | (with_reducible refine G_to ?_ ?_; focus (first | omega | (unfold fits; omega) | (unfold room; simp only [List.length_append, List.length_cons, List.length_nil]; omega))) | (with_reducible refine itet_to ?_) | (with_reducible refine itef_to ?_) | (with_reducible refine ite_to (fun _ => ?_) (fun _ => ?_))) <;> try (exfalso; omega)
      refine bind_to (r1_Words_spec (by rw [e3]; omega)) ?_
      rw [decide_eq_true e3, if_pos rfl]
      (try dsimp only); (repeat' first | (with_reducible refine G_to ?_ ?_; focus (first | omega | (unfold fits; omega) | (unfold room; simp only [List.length_append, List.length_cons, List.length_nil]; omega))) | (with_reducible refine itet_to ?_) | (with_reducible refine itef_to ?_) | (with_reducible refine ite_to (fun _ => ?_) (fun _ => ?_))) <;> try (exfalso; omega)
      rw [decide_eq_true e2]
  | succ n ih =>
    intro i hn h0 h1
    have hcl : ((cut w 0 (i + 1)).length : Int) = i + 1 - 0 := cut_len (by omega) (by omega) (by omega)
    obtain ⟨K, hK, he⟩ := Border_spec (u := cut w 0 (i + 1)) (by omega) (by omega)
    rw [show ((cut w 0 (i + 1)).length : Int) = i + 1 by omega, BM_cut (by omega) (by omega)] at hK
    rw [law_LyndonBorders_L9_eq]; unfold law_LyndonBorders_L9_B
    (try dsimp only); (repeat' first | (with_reducible refine G_to ?_ ?_; focus (first | omega | (unfold fits; omega) | (unfold room; simp only [List.length_append, List.length_cons, List.length_nil]; omega))) | (with_reducible refine itet_to ?_) | (with_reducible refine itef_to ?_) | (with_reducible refine ite_to (fun _ => ?_) (fun _ => ?_))) <;> try (exfalso; omega)
    refine bind_to he ?_
    (try dsimp only); (repeat' first | (with_reducible refine G_to ?_ ?_; focus (first | omega | (unfold fits; omega) | (unfold room; simp only [List.length_append, List.length_cons, List.length_nil]; omega))) | (with_reducible refine itet_to ?_) | (with_reducible refine itef_to ?_) | (with_reducible refine ite_to (fun _ => ?_) (fun _ => ?_))) <;> try (exfalso; omega)
    · exact absurd ((hB i h0 (by omega)).uniq hK) ‹_›
    · exact ih (i + 1) (by omega) (by omega) (by omega)
theorem law_true (w : List Int) : law_LyndonBorders w = some true := by
  unfold law_LyndonBorders
  by_cases h : mayE 4 w = 0
  · have a1 := (mayE_zero h).2.1
    obtain ⟨L, hl, hB, he⟩ := borders_spec (w := w) (by omega)
    refine bind_to (y := (0, L)) ?_ ?_
    · unfold lyndon_Borders
      refine bind_to lyndon_may1 ?_
      (try dsimp only); (repeat' first | (with_reducible refine G_to ?_ ?_; focus (first | omega | (unfold fits; omega) | (unfold room; simp only [List.length_append, List.length_cons, List.length_nil]; omega))) | (with_reducible refine itet_to ?_) | (with_reducible refine itef_to ?_) | (with_reducible refine ite_to (fun _ => ?_) (fun _ => ?_))) <;> try (exfalso; omega)
      refine bind_to he ?_
      rfl
    by_cases h0 : w.length = 0
    · refine bind_to (y := (0, 0, [])) ?_ ?_
      · unfold lyndon_Root
        refine bind_to lyndon_may1 ?_
        (try dsimp only); (repeat' first | (with_reducible refine G_to ?_ ?_; focus (first | omega | (unfold fits; omega) | (unfold room; simp only [List.length_append, List.length_cons, List.length_nil]; omega))) | (with_reducible refine itet_to ?_) | (with_reducible refine itef_to ?_) | (with_reducible refine ite_to (fun _ => ?_) (fun _ => ?_))) <;> try (exfalso; omega)
        rfl
      refine bind_to r1_May_spec ?_
      (try dsimp only); (repeat' first | (with_reducible refine G_to ?_ ?_; focus (first | omega | (unfold fits; omega) | (unfold room; simp only [List.length_append, List.length_cons, List.length_nil]; omega))) | (with_reducible refine itet_to ?_) | (with_reducible refine itef_to ?_) | (with_reducible refine ite_to (fun _ => ?_) (fun _ => ?_))) <;> try (exfalso; omega)
      exact law_L9 (by omega) hl hB (.inl ⟨h0, rfl, rfl⟩) _ 0 rfl (by omega) (by omega)
    · obtain ⟨R, hR, he2⟩ := lyndon_Root_spec h (by omega)
      refine bind_to he2 ?_
      refine bind_to r1_May_spec ?_
      (try dsimp only); (repeat' first | (with_reducible refine G_to ?_ ?_; focus (first | omega | (unfold fits; omega) | (unfold room; simp only [List.length_append, List.length_cons, List.length_nil]; omega))) | (with_reducible refine itet_to ?_) | (with_reducible refine itef_to ?_) | (with_reducible refine ite_to (fun _ => ?_) (fun _ => ?_))) <;> try (exfalso; omega)
      exact law_L9 (by omega) hl hB (.inr ⟨by omega, R, hR, rfl, rfl⟩) _ 0 rfl (by omega) (by omega)
  · refine bind_to (y := (mayE 4 w, [])) ?_ ?_
    · unfold lyndon_Borders
      refine bind_to lyndon_may1 ?_
      (try dsimp only); (repeat' first | (with_reducible refine G_to ?_ ?_; focus (first | omega | (unfold fits; omega) | (unfold room; simp only [List.length_append, List.length_cons, List.length_nil]; omega))) | (with_reducible refine itet_to ?_) | (with_reducible refine itef_to ?_) | (with_reducible refine ite_to (fun _ => ?_) (fun _ => ?_))) <;> try (exfalso; omega)
      rfl
    refine bind_to (y := (0, mayE 4 w, [])) ?_ ?_
    · unfold lyndon_Root
      refine bind_to lyndon_may1 ?_
      (try dsimp only); (repeat' first | (with_reducible refine G_to ?_ ?_; focus (first | omega | (unfold fits; omega) | (unfold room; simp only [List.length_append, List.length_cons, List.length_nil]; omega))) | (with_reducible refine itet_to ?_) | (with_reducible refine itef_to ?_) | (with_reducible refine ite_to (fun _ => ?_) (fun _ => ?_))) <;> try (exfalso; omega)
      rfl
    refine bind_to r1_May_spec ?_
    (try dsimp only); (repeat' first | (with_reducible refine G_to ?_ ?_; focus (first | omega | (unfold fits; omega) | (unfold room; simp only [List.length_append, List.length_cons, List.length_nil]; omega))) | (with_reducible refine itet_to ?_) | (with_reducible refine itef_to ?_) | (with_reducible refine ite_to (fun _ => ?_) (fun _ => ?_))) <;> try (exfalso; omega)
    all_goals first | rfl | (exfalso; exact absurd rfl ‹_›)

end Go.Proofs.Ytgjpkfbaobanlaa.lyndonBordersW
