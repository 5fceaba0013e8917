/- The law 'SeqsCounts' of the plain functions. -/
import Derived.Test.YtgjpkfbaobanlaaSeqsCountsD
set_option maxHeartbeats 1000000
set_option maxRecDepth 20000
set_option linter.unusedSimpArgs false
set_option linter.unusedVariables false
namespace Go.Proofs.Ytgjpkfbaobanlaa.seqsCountsW
open Go Go.Ab
theorem r1_Words_L4_spec {a b : List Int} (hl : a.length = b.length) : ∀ (n : Nat) (i : Int), 0 ≤ i → i ≤ a.length → (a.length - i).toNat = n → a.length ≤ 2305843009213693951 → (∀ j : Int, 0 ≤ j → j < i → ix a j = ix b j) → r1_Words_L4 a b i = some (decide (a = b)) := by
  intro n
  induction n with
  | zero =>
    intro i h0 h1 hn hs h
    rw [r1_Words_L4_eq]; unfold r1_Words_L4_B
    (try dsimp only); (repeat' first | (with_reducible refine G_to ?_ ?_; focus (first | omega | (unfold fits; omega) | (unfold room; simp only [List.length_append, List.length_cons, List.length_nil]; omega))) | (with_reducible refine itet_to ?_) | (with_reducible refine itef_to ?_) | (with_reducible refine ite_to (fun _ => ?_) (fun _ => ?_))) <;> try (exfalso; omega)
    · rw [Option.some_inj, eq_comm, decide_eq_true_iff]; exact ix_ext hl (fun j a b => h j a (by omega))
  | succ n ih =>
    intro i h0 h1 hn hs h
    rw [r1_Words_L4_eq]; unfold r1_Words_L4_B
    (try dsimp only); (repeat' first | (with_reducible refine G_to ?_ ?_; focus (first | omega | (unfold fits; omega) | (unfold room; simp only [List.length_append, List.length_cons, List.length_nil]; omega))) | (with_reducible refine itet_to ?_) | (with_reducible refine itef_to ?_) | (with_reducible refine ite_to (fun _ => ?_) (fun _ => ?_))) <;> try (exfalso; omega)
    · rw [Option.some_inj, eq_comm, decide_eq_false_iff_not]; rintro rfl; contradiction
    · rename_i hx; exact ih _ (by omega) (by omega) (by omega) hs (below_succ h (Decidable.not_not.1 hx))
theorem r1_Words_spec {a b : List Int} (hs : a.length ≤ 2305843009213693951) : r1_Words a b = some (decide (a = b)) := by
  unfold r1_Words
  (try dsimp only); (repeat' first | (with_reducible refine G_to ?_ ?_; focus (first | omega | (unfold fits; omega) | (unfold room; simp only [List.length_append, List.length_cons, List.length_nil]; omega))) | (with_reducible refine itet_to ?_) | (with_reducible refine itef_to ?_) | (with_reducible refine ite_to (fun _ => ?_) (fun _ => ?_))) <;> try (exfalso; omega)
  · rw [Option.some_inj, eq_comm, decide_eq_false_iff_not]; rintro rfl; contradiction
  · exact r1_Words_L4_spec (by omega) _ 0 (by omega) (by omega) rfl hs (fun j a b => by omega)

abbrev Mor := Int × List (List Int) × List Int × Unit
def MBase (m : Mor) : Prop := 2 ≤ m.1 ∧ m.1 ≤ 4
def MSize (m : Mor) : Prop := 1 ≤ (m.2.1.length : Int) ∧ (m.2.1.length : Int) ≤ 4
def MShape (m : Mor) : Prop := (m.2.2.1.length : Int) = m.2.1.length ∧ ∀ w ∈ m.2.1, (w.length : Int) = m.1
def MRow (m : Mor) (a : Int) : Prop := (∀ k : Int, 0 ≤ k → k < m.1 → 0 ≤ ix (ix m.2.1 a) k ∧ ix (ix m.2.1 a) k < m.2.1.length) ∧ 0 ≤ ix m.2.2.1 a ∧ ix m.2.2.1 a ≤ 9
def MTab (m : Mor) : Prop := ∀ a : Int, 0 ≤ a → a < m.2.1.length → MRow m a
def MZero (m : Mor) : Prop := ix (ix m.2.1 0) 0 = 0
open Classical in
/-- The fault of a morphism. -/
noncomputable def morE (m : Mor) : Int := if ¬ MBase m then 2 else if ¬ MSize m then 1 else if ¬ MShape m then 3 else if ¬ MTab m then 2 else if ¬ MZero m then 3 else 0
structure MOK (m : Mor) : Prop where
  base : MBase m
  size : MSize m
  shape : MShape m
  tab : MTab m
  zero : MZero m
theorem mor_base {m : Mor} (h : ¬ MBase m) : morE m = 2 := if_pos h
theorem mor_size {m : Mor} (h1 : MBase m) (h : ¬ MSize m) : morE m = 1 := by unfold morE; rw [if_neg (not_not_intro h1), if_pos h]
theorem mor_shape {m : Mor} (h1 : MBase m) (h2 : MSize m) (h : ¬ MShape m) : morE m = 3 := by unfold morE; rw [if_neg (not_not_intro h1), if_neg (not_not_intro h2), if_pos h]
theorem mor_tab {m : Mor} (h1 : MBase m) (h2 : MSize m) (h3 : MShape m) (h : ¬ MTab m) : morE m = 2 := by unfold morE; rw [if_neg (not_not_intro h1), if_neg (not_not_intro h2), if_neg (not_not_intro h3), if_pos h]
theorem mor_zero {m : Mor} (h1 : MBase m) (h2 : MSize m) (h3 : MShape m) (h4 : MTab m) (h : ¬ MZero m) : morE m = 3 := by
  unfold morE; rw [if_neg (not_not_intro h1), if_neg (not_not_intro h2), if_neg (not_not_intro h3), if_neg (not_not_intro h4), if_pos h]
theorem mor_ok {m : Mor} (h1 : MBase m) (h2 : MSize m) (h3 : MShape m) (h4 : MTab m) (h : MZero m) : morE m = 0 := by
  unfold morE; rw [if_neg (not_not_intro h1), if_neg (not_not_intro h2), if_neg (not_not_intro h3), if_neg (not_not_intro h4), if_neg (not_not_intro h)]
theorem mor_of {m : Mor} (h : morE m = 0) : MOK m := by
  by_cases h1 : MBase m
  · by_cases h2 : MSize m
    · by_cases h3 : MShape m
      · by_cases h4 : MTab m
        · by_cases h5 : MZero m
          · exact ⟨h1, h2, h3, h4, h5⟩
          · rw [mor_zero h1 h2 h3 h4 h5] at h; omega
        · rw [mor_tab h1 h2 h3 h4] at h; omega
      · rw [mor_shape h1 h2 h3] at h; omega
    · rw [mor_size h1 h2] at h; omega
  · rw [mor_base h1] at h; omega
theorem MOK.len {m : Mor} (h : MOK m) {a : Int} (h0 : 0 ≤ a) (ha : a < m.2.1.length) : ((ix m.2.1 a).length : Int) = m.1 := h.shape.2 _ (ix_mem h0 ha)
/-- The letter at a place. -/
def letF (m : Mor) : Nat → Int → Int
  | 0, _ => 0
  | f + 1, n => if n = 0 then 0 else ix (ix m.2.1 (letF m f (n / m.1))) (n % m.1)
def letT (m : Mor) (n : Int) : Int := letF m n.toNat n
theorem div_lt {n b : Int} (hn : 0 < n) (hb : 2 ≤ b) : 0 ≤ n / b ∧ n / b < n := ⟨Int.ediv_nonneg (by omega) (by omega), Int.ediv_lt_of_lt_mul (by omega) (by
  have : n * 2 ≤ n * b := Int.mul_le_mul_of_nonneg_left hb (by omega)
  omega)⟩
theorem letF_eq {m : Mor} (hb : 2 ≤ m.1) : ∀ (f : Nat) (n : Int), 0 ≤ n → n.toNat ≤ f → letF m f n = letT m n
  | 0, n, h0, h => by
    have : n = 0 := by omega
    subst this; rfl
  | f + 1, n, h0, h => by
    by_cases hn : n = 0
    · subst hn; rfl
    · have hd := div_lt (n := n) (b := m.1) (by omega) hb
      obtain ⟨k, hk⟩ : ∃ k, n.toNat = k + 1 := ⟨n.toNat - 1, by omega⟩
      unfold letT
      rw [hk]
      simp only [letF, if_neg hn]
      rw [letF_eq hb f _ hd.1 (by omega), letF_eq hb k _ hd.1 (by omega)]
theorem letT_zero {m : Mor} : letT m 0 = 0 := rfl
theorem letT_step {m : Mor} (hb : 2 ≤ m.1) {n : Int} (hn : 0 < n) : letT m n = ix (ix m.2.1 (letT m (n / m.1))) (n % m.1) := by
  have hd := div_lt (n := n) (b := m.1) (by omega) hb
  obtain ⟨k, hk⟩ : ∃ k, n.toNat = k + 1 := ⟨n.toNat - 1, by omega⟩
  show letF m n.toNat n = _
  rw [hk]
  simp only [letF, if_neg (show ¬ n = 0 by omega)]
  rw [letF_eq hb k _ hd.1 (by omega)]
theorem mod_in {n b : Int} (hb : 2 ≤ b) : 0 ≤ n % b ∧ n % b < b := ⟨Int.emod_nonneg _ (by omega), Int.emod_lt_of_pos _ (by omega)⟩
theorem letT_in {m : Mor} (h : MOK m) : ∀ (f : Nat) (n : Int), n.toNat ≤ f → 0 ≤ n → 0 ≤ letT m n ∧ letT m n < m.2.1.length
  | 0, n, hf, h0 => by
    have : n = 0 := by omega
    subst this; rw [letT_zero]; have := h.size; unfold MSize at this; omega
  | f + 1, n, hf, h0 => by
    by_cases hn : n = 0
    · subst hn; rw [letT_zero]; have := h.size; unfold MSize at this; omega
    · have hb := h.base.1
      have hd := div_lt (n := n) (b := m.1) (by omega) hb
      rw [letT_step hb (by omega)]
      have hi := letT_in h f (n / m.1) (by omega) hd.1
      exact (h.tab _ hi.1 hi.2).1 _ (mod_in hb).1 (mod_in hb).2
theorem pow_le {a : Nat} {n : Int} (h : 2 ^ a ≤ n) (hn : n ≤ 9223372036854775807) : a ≤ 62 := by
  refine Nat.le_of_not_lt fun h2 => ?_
  have h3 : (2 : Nat) ^ 63 ≤ 2 ^ a := Nat.pow_le_pow_right (by omega) h2
  have h4 : ((2 ^ a : Nat) : Int) = 2 ^ a := by simp
  omega
theorem pow_half {a : Nat} {n k b : Int} (hk : 0 < k) (hb : 2 ≤ b) (h : 2 ^ a * k ≤ n) : 2 ^ (a + 1) * (k / b) ≤ n := by
  have h1 : b * (k / b) ≤ k := Int.mul_ediv_self_le (by omega)
  have h0 : 0 ≤ k / b := (div_lt hk hb).1
  have h2 : 2 * (k / b) ≤ b * (k / b) := Int.mul_le_mul_of_nonneg_right hb h0
  have h3 : (2 : Int) ^ a * (2 * (k / b)) ≤ 2 ^ a * k := Int.mul_le_mul_of_nonneg_left (by omega) (Int.le_of_lt (Int.pow_pos (by omega)))
  rw [Int.pow_succ, Int.mul_assoc]; omega
theorem pow_one_le {a : Nat} {n k : Int} (hk : 0 < k) (h : 2 ^ a * k ≤ n) : 2 ^ a ≤ n := by
  have : (2 : Int) ^ a * 1 ≤ 2 ^ a * k := Int.mul_le_mul_of_nonneg_left (by omega) (Int.le_of_lt (Int.pow_pos (by omega)))
  omega
def digs (m : Mor) (p : List Int) (a : Int) : Int := p.foldr (fun d a => ix (ix m.2.1 a) d) a
theorem digs_add {m : Mor} {p : List Int} {d a : Int} : digs m (p ++ [d]) a = digs m p (ix (ix m.2.1 a) d) := by simp [digs]

theorem IndexFunc_L2_spec {s : List (List Int)} {c : Mor} (hs : s.length ≤ 1000000) : ∀ (n : Nat) (i : Int), (s.length - i).toNat = n → 0 ≤ i → i ≤ s.length → (∀ j : Int, 0 ≤ j → j < i → decide (¬ ((ix s j).length : Int) = c.1) = false) → slices_IndexFunc_L2 s c i = some (findI (fun w => decide (¬ (w.length : Int) = c.1)) s) := by
  intro n
  induction n with
  | zero =>
    intro i hn h0 h1 h
    rw [slices_IndexFunc_L2_eq]; unfold slices_IndexFunc_L2_B
    (try dsimp only); (repeat' first | (with_reducible refine G_to ?_ ?_; focus (first | omega | (unfold fits; omega) | (unfold room; simp only [List.length_append, List.length_cons, List.length_nil]; omega))) | (with_reducible refine itet_to ?_) | (with_reducible refine itef_to ?_) | (with_reducible refine ite_to (fun _ => ?_) (fun _ => ?_))) <;> try (exfalso; omega)
    rw [findI_none (fun j a b => h j a (by omega))]
  | succ n ih =>
    intro i hn h0 h1 h
    rw [slices_IndexFunc_L2_eq]; unfold slices_IndexFunc_L2_B
    (try dsimp only); (repeat' first | (with_reducible refine G_to ?_ ?_; focus (first | omega | (unfold fits; omega) | (unfold room; simp only [List.length_append, List.length_cons, List.length_nil]; omega))) | (with_reducible refine itet_to ?_) | (with_reducible refine itef_to ?_) | (with_reducible refine ite_to (fun _ => ?_) (fun _ => ?_))) <;> try (exfalso; omega)
    refine bind_to (y := decide (¬ ((ix s i).length : Int) = c.1)) rfl ?_
    (try dsimp only); (repeat' first | (with_reducible refine G_to ?_ ?_; focus (first | omega | (unfold fits; omega) | (unfold room; simp only [List.length_append, List.length_cons, List.length_nil]; omega))) | (with_reducible refine itet_to ?_) | (with_reducible refine itef_to ?_) | (with_reducible refine ite_to (fun _ => ?_) (fun _ => ?_))) <;> try (exfalso; omega)
    · rename_i hh; exact congrArg some (findI_hit (l := s) h0 (by omega) h (decide_eq_true hh)).symm
    · rename_i hh; exact ih (i + 1) (by omega) (by omega) (by omega) (below_succ h (decide_eq_false hh))
theorem ContainsFunc_spec {s : List (List Int)} {c : Mor} (hs : s.length ≤ 1000000) : slices_ContainsFunc s c = some (s.any (fun w => decide (¬ (w.length : Int) = c.1))) := by
  unfold slices_ContainsFunc
  refine bind_to (IndexFunc_L2_spec hs _ 0 rfl (by omega) (by omega) (fun j a b => by omega)) ?_
  rw [← findI_any]
theorem Check_2_spec {b t : Int} : seqs_Check_2 b t = some (decide (b < 0 ∨ t ≤ b)) := by
  unfold seqs_Check_2
  (try dsimp only); (repeat' first | (with_reducible refine G_to ?_ ?_; focus (first | omega | (unfold fits; omega) | (unfold room; simp only [List.length_append, List.length_cons, List.length_nil]; omega))) | (with_reducible refine itet_to ?_) | (with_reducible refine itef_to ?_) | (with_reducible refine ite_to (fun _ => ?_) (fun _ => ?_))) <;> try (exfalso; omega)
  · rw [Option.some_inj, eq_comm, decide_eq_true_iff]; exact .inl (by assumption)
  · rw [Option.some_inj]; congr 1; rw [eq_iff_iff]; omega
theorem IndexFunc_1_L2_spec {s : List Int} {c : Int} (hs : s.length ≤ 1000000) : ∀ (n : Nat) (i : Int), (s.length - i).toNat = n → 0 ≤ i → i ≤ s.length → (∀ j : Int, 0 ≤ j → j < i → decide (ix s j < 0 ∨ c ≤ ix s j) = false) → slices_IndexFunc_1_L2 s c i = some (findI (fun b => decide (b < 0 ∨ c ≤ b)) s) := by
  intro n
  induction n with
  | zero =>
    intro i hn h0 h1 h
    rw [slices_IndexFunc_1_L2_eq]; unfold slices_IndexFunc_1_L2_B
    (try dsimp only); (repeat' first | (with_reducible refine G_to ?_ ?_; focus (first | omega | (unfold fits; omega) | (unfold room; simp only [List.length_append, List.length_cons, List.length_nil]; omega))) | (with_reducible refine itet_to ?_) | (with_reducible refine itef_to ?_) | (with_reducible refine ite_to (fun _ => ?_) (fun _ => ?_))) <;> try (exfalso; omega)
    rw [findI_none (fun j a b => h j a (by omega))]
  | succ n ih =>
    intro i hn h0 h1 h
    rw [slices_IndexFunc_1_L2_eq]; unfold slices_IndexFunc_1_L2_B
    (try dsimp only); (repeat' first | (with_reducible refine G_to ?_ ?_; focus (first | omega | (unfold fits; omega) | (unfold room; simp only [List.length_append, List.length_cons, List.length_nil]; omega))) | (with_reducible refine itet_to ?_) | (with_reducible refine itef_to ?_) | (with_reducible refine ite_to (fun _ => ?_) (fun _ => ?_))) <;> try (exfalso; omega)
    refine bind_to Check_2_spec ?_
    (try dsimp only); (repeat' first | (with_reducible refine G_to ?_ ?_; focus (first | omega | (unfold fits; omega) | (unfold room; simp only [List.length_append, List.length_cons, List.length_nil]; omega))) | (with_reducible refine itet_to ?_) | (with_reducible refine itef_to ?_) | (with_reducible refine ite_to (fun _ => ?_) (fun _ => ?_))) <;> try (exfalso; omega)
    · rename_i hh; exact congrArg some (findI_hit (l := s) h0 (by omega) h (decide_eq_true hh)).symm
    · rename_i hh; exact ih (i + 1) (by omega) (by omega) (by omega) (below_succ h (decide_eq_false hh))
theorem ContainsFunc_1_spec {s : List Int} {c : Int} (hs : s.length ≤ 1000000) : slices_ContainsFunc_1 s c = some (s.any (fun b => decide (b < 0 ∨ c ≤ b))) := by
  unfold slices_ContainsFunc_1
  refine bind_to (IndexFunc_1_L2_spec hs _ 0 rfl (by omega) (by omega) (fun j a b => by omega)) ?_
  rw [← findI_any]
theorem Check_L9_spec {m : Mor} (g1 : MBase m) (g2 : MSize m) (g3 : MShape m) : ∀ (n : Nat) (a : Int), (m.2.1.length - a).toNat = n → 0 ≤ a → a ≤ m.2.1.length → (∀ j : Int, 0 ≤ j → j < a → MRow m j) → seqs_Check_L9 m a = some (morE m) := by
  have e1 := g1.1
  have e2 := g2.1
  have e3 := g2.2
  have e4 := g1.2
  have e5 := g3.1
  intro n
  induction n with
  | zero =>
    intro a hn h0 h1 h
    have ht : MTab m := fun j c d => h j c (by omega)
    have e6 : ((ix m.2.1 0).length : Int) = m.1 := g3.2 _ (ix_mem (by omega) (by omega))
    rw [seqs_Check_L9_eq]; unfold seqs_Check_L9_B
    (try dsimp only); (repeat' first | (with_reducible refine G_to ?_ ?_; focus (first | omega | (unfold fits; omega) | (unfold room; simp only [List.length_append, List.length_cons, List.length_nil]; omega))) | (with_reducible refine itet_to ?_) | (with_reducible refine itef_to ?_) | (with_reducible refine ite_to (fun _ => ?_) (fun _ => ?_))) <;> try (exfalso; omega)
    · rw [mor_zero g1 g2 g3 ht (by assumption)]
    · rw [mor_ok g1 g2 g3 ht (by unfold MZero; omega)]
  | succ n ih =>
    intro a hn h0 h1 h
    have e6 : ((ix m.2.1 a).length : Int) = m.1 := g3.2 _ (ix_mem (by omega) (by omega))
    rw [seqs_Check_L9_eq]; unfold seqs_Check_L9_B
    (try dsimp only); (repeat' first | (with_reducible refine G_to ?_ ?_; focus (first | omega | (unfold fits; omega) | (unfold room; simp only [List.length_append, List.length_cons, List.length_nil]; omega))) | (with_reducible refine itet_to ?_) | (with_reducible refine itef_to ?_) | (with_reducible refine ite_to (fun _ => ?_) (fun _ => ?_))) <;> try (exfalso; omega)
    refine bind_to (ContainsFunc_1_spec (by omega)) ?_
    refine iteb_to (fun hx => ?_) (fun hx => ?_)
    · rw [List.any_eq_true] at hx
      obtain ⟨b, hb, hb2⟩ := hx
      rw [decide_eq_true_iff] at hb2
      rw [mor_tab g1 g2 g3 (fun ht => by
        obtain ⟨k, k0, k1, rfl⟩ := mem_ix hb
        have := (ht a h0 (by omega)).1 k k0 (by omega)
        omega)]
    rw [List.any_eq_false] at hx
    (try dsimp only); (repeat' first | (with_reducible refine G_to ?_ ?_; focus (first | omega | (unfold fits; omega) | (unfold room; simp only [List.length_append, List.length_cons, List.length_nil]; omega))) | (with_reducible refine itet_to ?_) | (with_reducible refine itef_to ?_) | (with_reducible refine ite_to (fun _ => ?_) (fun _ => ?_))) <;> try (exfalso; omega)
    · rw [mor_tab g1 g2 g3 (fun ht => by have := (ht a h0 (by omega)).2; omega)]
    · rw [mor_tab g1 g2 g3 (fun ht => by have := (ht a h0 (by omega)).2; omega)]
    · refine ih (a + 1) (by omega) (by omega) (by omega) (below_succ h ⟨fun k k0 k1 => ?_, by omega, by omega⟩)
      have := hx _ (ix_mem k0 (by omega : k < (ix m.2.1 a).length))
      rw [decide_eq_true_iff] at this
      omega
theorem Check_spec {m : Mor} : seqs_Check m = some (morE m) := by
  unfold seqs_Check
  (try dsimp only); (repeat' first | (with_reducible refine G_to ?_ ?_; focus (first | omega | (unfold fits; omega) | (unfold room; simp only [List.length_append, List.length_cons, List.length_nil]; omega))) | (with_reducible refine itet_to ?_) | (with_reducible refine itef_to ?_) | (with_reducible refine ite_to (fun _ => ?_) (fun _ => ?_))) <;> try (exfalso; omega)
  · rw [mor_base (by unfold MBase; omega)]
  · rw [mor_base (by unfold MBase; omega)]
  · rw [mor_size (by unfold MBase; omega) (by unfold MSize; omega)]
  · rw [mor_size (by unfold MBase; omega) (by unfold MSize; omega)]
  · rw [mor_shape (by unfold MBase; omega) (by unfold MSize; omega) (fun h => by have := h.1; omega)]
  refine bind_to (ContainsFunc_spec (by omega)) ?_
  refine iteb_to (fun hx => ?_) (fun hx => ?_)
  · rw [List.any_eq_true] at hx
    obtain ⟨b, hb, hb2⟩ := hx
    rw [decide_eq_true_iff] at hb2
    exact congrArg some (mor_shape (m := m) (by unfold MBase; omega) (by unfold MSize; omega) (fun h => hb2 (h.2 b hb))).symm
  rw [List.any_eq_false] at hx
  exact Check_L9_spec (by unfold MBase; omega) (by unfold MSize; omega) ⟨by omega, fun w hw => by have := hx w hw; simpa using this⟩ _ 0 rfl (by omega) (by omega) (fun j a b => by omega)
theorem r23_Check_L17_spec {m : Mor} {r14 : Int → Option Int} (g1 : MBase m) (g2 : MSize m) (g3 : MShape m) {a : Int} (h0 : 0 ≤ a) (h1 : a < m.2.1.length) : ∀ (n : Nat) (k : Int), (m.1 - k).toNat = n → 0 ≤ k → k ≤ m.1 → (∀ j : Int, 0 ≤ j → j < k → 0 ≤ ix (ix m.2.1 a) j ∧ ix (ix m.2.1 a) j < m.2.1.length) →
    (¬ MRow m a ∧ r23_Check_L17 m a r14 k = some 2) ∨ (MRow m a ∧ r23_Check_L17 m a r14 k = r14 (a + 1)) := by
  have e1 := g1.1
  have e2 := g2.1
  have e3 := g2.2
  have e4 := g1.2
  have e5 := g3.1
  have e6 : ((ix m.2.1 a).length : Int) = m.1 := g3.2 _ (ix_mem (by omega) (by omega))
  intro n
  induction n with
  | zero =>
    intro k hn k0 k1 h
    by_cases hc : 0 ≤ ix m.2.2.1 a ∧ ix m.2.2.1 a ≤ 9
    · refine .inr ⟨⟨fun j x y => h j x (by omega), hc⟩, ?_⟩
      rw [r23_Check_L17_eq]; unfold r23_Check_L17_B
      (try dsimp only); (repeat' first | (with_reducible refine G_to ?_ ?_; focus (first | omega | (unfold fits; omega) | (unfold room; simp only [List.length_append, List.length_cons, List.length_nil]; omega))) | (with_reducible refine itet_to ?_) | (with_reducible refine itef_to ?_) | (with_reducible refine ite_to (fun _ => ?_) (fun _ => ?_))) <;> try (exfalso; omega)
      rfl
    · refine .inl ⟨fun hr => hc hr.2, ?_⟩
      rw [r23_Check_L17_eq]; unfold r23_Check_L17_B
      (try dsimp only); (repeat' first | (with_reducible refine G_to ?_ ?_; focus (first | omega | (unfold fits; omega) | (unfold room; simp only [List.length_append, List.length_cons, List.length_nil]; omega))) | (with_reducible refine itet_to ?_) | (with_reducible refine itef_to ?_) | (with_reducible refine ite_to (fun _ => ?_) (fun _ => ?_))) <;> try (exfalso; omega)
      all_goals rfl
  | succ n ih =>
    intro k hn k0 k1 h
    by_cases hc : 0 ≤ ix (ix m.2.1 a) k ∧ ix (ix m.2.1 a) k < m.2.1.length
    · have := ih (k + 1) (by omega) (by omega) (by omega) (below_succ h hc)
      have e : r23_Check_L17 m a r14 k = r23_Check_L17 m a r14 (k + 1) := by
        rw [r23_Check_L17_eq]; unfold r23_Check_L17_B
        (try dsimp only); (repeat' first | (with_reducible refine G_to ?_ ?_; focus (first | omega | (unfold fits; omega) | (unfold room; simp only [List.length_append, List.length_cons, List.length_nil]; omega))) | (with_reducible refine itet_to ?_) | (with_reducible refine itef_to ?_) | (with_reducible refine ite_to (fun _ => ?_) (fun _ => ?_))) <;> try (exfalso; omega)
        rfl
      rw [e]; exact this
    · refine .inl ⟨fun hr => hc (hr.1 k k0 (by omega)), ?_⟩
      rw [r23_Check_L17_eq]; unfold r23_Check_L17_B
      (try dsimp only); (repeat' first | (with_reducible refine G_to ?_ ?_; focus (first | omega | (unfold fits; omega) | (unfold room; simp only [List.length_append, List.length_cons, List.length_nil]; omega))) | (with_reducible refine itet_to ?_) | (with_reducible refine itef_to ?_) | (with_reducible refine ite_to (fun _ => ?_) (fun _ => ?_))) <;> try (exfalso; omega)
      all_goals rfl
theorem r23_Check_L14_spec {m : Mor} (g1 : MBase m) (g2 : MSize m) (g3 : MShape m) : ∀ (n : Nat) (a : Int), (m.2.1.length - a).toNat = n → 0 ≤ a → a ≤ m.2.1.length → (∀ j : Int, 0 ≤ j → j < a → MRow m j) → r23_Check_L14 m a = some (morE m) := by
  have e1 := g1.1
  have e2 := g2.1
  have e3 := g2.2
  have e4 := g1.2
  have e5 := g3.1
  intro n
  induction n with
  | zero =>
    intro a hn h0 h1 h
    have ht : MTab m := fun j c d => h j c (by omega)
    have e6 : ((ix m.2.1 0).length : Int) = m.1 := g3.2 _ (ix_mem (by omega) (by omega))
    rw [r23_Check_L14_eq]; unfold r23_Check_L14_B
    (try dsimp only); (repeat' first | (with_reducible refine G_to ?_ ?_; focus (first | omega | (unfold fits; omega) | (unfold room; simp only [List.length_append, List.length_cons, List.length_nil]; omega))) | (with_reducible refine itet_to ?_) | (with_reducible refine itef_to ?_) | (with_reducible refine ite_to (fun _ => ?_) (fun _ => ?_))) <;> try (exfalso; omega)
    · rw [mor_zero g1 g2 g3 ht (by assumption)]
    · rw [mor_ok g1 g2 g3 ht (by unfold MZero; omega)]
  | succ n ih =>
    intro a hn h0 h1 h
    rw [r23_Check_L14_eq]; unfold r23_Check_L14_B
    (try dsimp only); (repeat' first | (with_reducible refine G_to ?_ ?_; focus (first | omega | (unfold fits; omega) | (unfold room; simp only [List.length_append, List.length_cons, List.length_nil]; omega))) | (with_reducible refine itet_to ?_) | (with_reducible refine itef_to ?_) | (with_reducible refine ite_to (fun _ => ?_) (fun _ => ?_))) <;> try (exfalso; omega)
    rcases r23_Check_L17_spec (r14 := r23_Check_L14 m) g1 g2 g3 h0 (by omega) _ 0 rfl (by omega) (by omega) (fun j x y => by omega) with ⟨h2, h3⟩ | ⟨h2, h3⟩
    · rw [h3, mor_tab g1 g2 g3 (fun ht => h2 (ht a h0 (by omega)))]
    · rw [h3]; exact ih (a + 1) (by omega) (by omega) (by omega) (below_succ h h2)
theorem r23_Check_L9_spec {m : Mor} (g1 : MBase m) (g2 : MSize m) (g3 : (m.2.2.1.length : Int) = m.2.1.length) : ∀ (n : Nat) (a : Int), (m.2.1.length - a).toNat = n → 0 ≤ a → a ≤ m.2.1.length → (∀ j : Int, 0 ≤ j → j < a → ((ix m.2.1 j).length : Int) = m.1) → r23_Check_L9 m a = some (morE m) := by
  have e1 := g1.1
  have e2 := g2.1
  have e3 := g2.2
  have e4 := g1.2
  intro n
  induction n with
  | zero =>
    intro a hn h0 h1 h
    rw [r23_Check_L9_eq]; unfold r23_Check_L9_B
    (try dsimp only); (repeat' first | (with_reducible refine G_to ?_ ?_; focus (first | omega | (unfold fits; omega) | (unfold room; simp only [List.length_append, List.length_cons, List.length_nil]; omega))) | (with_reducible refine itet_to ?_) | (with_reducible refine itef_to ?_) | (with_reducible refine ite_to (fun _ => ?_) (fun _ => ?_))) <;> try (exfalso; omega)
    exact r23_Check_L14_spec g1 g2 ⟨g3, forall_ix.2 fun j c d => h j c (by omega)⟩ _ 0 rfl (by omega) (by omega) (fun j x y => by omega)
  | succ n ih =>
    intro a hn h0 h1 h
    rw [r23_Check_L9_eq]; unfold r23_Check_L9_B
    (try dsimp only); (repeat' first | (with_reducible refine G_to ?_ ?_; focus (first | omega | (unfold fits; omega) | (unfold room; simp only [List.length_append, List.length_cons, List.length_nil]; omega))) | (with_reducible refine itet_to ?_) | (with_reducible refine itef_to ?_) | (with_reducible refine ite_to (fun _ => ?_) (fun _ => ?_))) <;> try (exfalso; omega)
    · rw [mor_shape g1 g2 (fun hs => by have := hs.2 _ (ix_mem (l := m.2.1) (i := a) (by omega) (by omega)); omega)]
    · exact ih (a + 1) (by omega) (by omega) (by omega) (below_succ h (by omega))
theorem r23_Check_spec {m : Mor} : r23_Check m = some (morE m) := by
  unfold r23_Check
  (try dsimp only); (repeat' first | (with_reducible refine G_to ?_ ?_; focus (first | omega | (unfold fits; omega) | (unfold room; simp only [List.length_append, List.length_cons, List.length_nil]; omega))) | (with_reducible refine itet_to ?_) | (with_reducible refine itef_to ?_) | (with_reducible refine ite_to (fun _ => ?_) (fun _ => ?_))) <;> try (exfalso; omega)
  · rw [mor_base (by unfold MBase; omega)]
  · rw [mor_base (by unfold MBase; omega)]
  · rw [mor_size (by unfold MBase; omega) (by unfold MSize; omega)]
  · rw [mor_size (by unfold MBase; omega) (by unfold MSize; omega)]
  · rw [mor_shape (by unfold MBase; omega) (by unfold MSize; omega) (fun h => by have := h.1; omega)]
  exact r23_Check_L9_spec (by unfold MBase; omega) (by unfold MSize; omega) (by omega) _ 0 rfl (by omega) (by omega) (fun j x y => by omega)
theorem letter_spec {m : Mor} (hm : MOK m) : ∀ (f : Nat) (n : Int), n.toNat = f → 0 ≤ n → n ≤ 9223372036854775807 → seqs_letter m n = some (letT m n) := by
  intro f
  induction f using Nat.strongRecOn with
  | ind f ih =>
    intro n hf h0 h1
    have hb := hm.base.1
    have hr := mod_in (n := n) hb
    rw [seqs_letter_eq]; unfold seqs_letter_B
    rw [Int.tdiv_eq_ediv_of_nonneg h0, Int.tmod_eq_emod_of_nonneg h0]
    by_cases hn : n = 0
    · subst hn
      (try dsimp only); (repeat' first | (with_reducible refine G_to ?_ ?_; focus (first | omega | (unfold fits; omega) | (unfold room; simp only [List.length_append, List.length_cons, List.length_nil]; omega))) | (with_reducible refine itet_to ?_) | (with_reducible refine itef_to ?_) | (with_reducible refine ite_to (fun _ => ?_) (fun _ => ?_))) <;> try (exfalso; omega)
      rfl
    · have hd := div_lt (b := m.1) (n := n) (by omega) hb
      have hq := letT_in hm _ (n / m.1) (Nat.le_refl _) hd.1
      have hl := hm.len hq.1 hq.2
      (try dsimp only); (repeat' first | (with_reducible refine G_to ?_ ?_; focus (first | omega | (unfold fits; omega) | (unfold room; simp only [List.length_append, List.length_cons, List.length_nil]; omega))) | (with_reducible refine itet_to ?_) | (with_reducible refine itef_to ?_) | (with_reducible refine ite_to (fun _ => ?_) (fun _ => ?_))) <;> try (exfalso; omega)
      refine bind_to (ih _ (by omega) (n / m.1) rfl hd.1 (by omega)) ?_
      (try dsimp only); (repeat' first | (with_reducible refine G_to ?_ ?_; focus (first | omega | (unfold fits; omega) | (unfold room; simp only [List.length_append, List.length_cons, List.length_nil]; omega))) | (with_reducible refine itet_to ?_) | (with_reducible refine itef_to ?_) | (with_reducible refine ite_to (fun _ => ?_) (fun _ => ?_))) <;> try (exfalso; omega)
      rw [← letT_step hb (by omega)]
theorem Letter_L7 {m : Mor} (hm : MOK m) {p : List Int} (hs : p.length ≤ 1000) (h3 : ∀ x ∈ p, 0 ≤ x ∧ x < m.1) : ∀ (f : Nat) (a i : Int), (i + 1).toNat = f → -1 ≤ i → i < p.length → 0 ≤ a → a < m.2.1.length → r23_Letter_L7 m p a i = some (digs m (p.take (i + 1).toNat) a) := by
  intro f
  induction f with
  | zero =>
    intro a i hf h0 h1 g0 g1
    have : i = -1 := by omega
    subst this
    rw [r23_Letter_L7_eq]; unfold r23_Letter_L7_B
    (try dsimp only); (repeat' first | (with_reducible refine G_to ?_ ?_; focus (first | omega | (unfold fits; omega) | (unfold room; simp only [List.length_append, List.length_cons, List.length_nil]; omega))) | (with_reducible refine itet_to ?_) | (with_reducible refine itef_to ?_) | (with_reducible refine ite_to (fun _ => ?_) (fun _ => ?_))) <;> try (exfalso; omega)
    rfl
  | succ f ih =>
    intro a i hf h0 h1 g0 g1
    have g4 := hm.len g0 g1
    have g5 := h3 _ (ix_mem (i := i) (by omega) h1)
    have g6 := (hm.tab a g0 g1).1 _ g5.1 g5.2
    rw [r23_Letter_L7_eq]; unfold r23_Letter_L7_B
    (try dsimp only); (repeat' first | (with_reducible refine G_to ?_ ?_; focus (first | omega | (unfold fits; omega) | (unfold room; simp only [List.length_append, List.length_cons, List.length_nil]; omega))) | (with_reducible refine itet_to ?_) | (with_reducible refine itef_to ?_) | (with_reducible refine ite_to (fun _ => ?_) (fun _ => ?_))) <;> try (exfalso; omega)
    rw [ih _ (i - 1) (by omega) (by omega) (by omega) g6.1 g6.2, ix_take (by omega) h1, digs_add, show i - 1 + 1 = i by omega]
theorem Letter_L2 {m : Mor} (hm : MOK m) {n : Int} (hx : n ≤ 9223372036854775807) : ∀ (f : Nat) (k : Int) (p : List Int), k.toNat = f → 0 ≤ k → k ≤ 9223372036854775807 → letT m n = digs m p (letT m k) → (∀ x ∈ p, 0 ≤ x ∧ x < m.1) → 2 ^ p.length * k ≤ n → p.length ≤ 63 → r23_Letter_L2 m k p = some (letT m n) := by
  intro f
  induction f using Nat.strongRecOn with
  | ind f ih =>
    intro k p hf h0 h1 h2 h3 h4 h5
    have hb := hm.base.1
    have hs := hm.size.1
    have h6 : 0 < k → p.length ≤ 62 := fun h => pow_le (pow_one_le h h4) hx
    by_cases hk : k = 0
    · subst hk
      rw [r23_Letter_L2_eq]; unfold r23_Letter_L2_B
      (try dsimp only); (repeat' first | (with_reducible refine G_to ?_ ?_; focus (first | omega | (unfold fits; omega) | (unfold room; simp only [List.length_append, List.length_cons, List.length_nil]; omega))) | (with_reducible refine itet_to ?_) | (with_reducible refine itef_to ?_) | (with_reducible refine ite_to (fun _ => ?_) (fun _ => ?_))) <;> try (exfalso; omega)
      rw [Letter_L7 hm (by omega) h3 _ 0 (p.length - 1) rfl (by omega) (by omega) (by omega) (by omega), h2, letT_zero, List.take_of_length_le (by omega)]
    · have hd := div_lt (b := m.1) (by omega : 0 < k) hb
      have hr := mod_in (n := k) hb
      have h7 := h6 (by omega)
      rw [r23_Letter_L2_eq]; unfold r23_Letter_L2_B
      rw [Int.tdiv_eq_ediv_of_nonneg h0, Int.tmod_eq_emod_of_nonneg h0]
      (try dsimp only); (repeat' first | (with_reducible refine G_to ?_ ?_; focus (first | omega | (unfold fits; omega) | (unfold room; simp only [List.length_append, List.length_cons, List.length_nil]; omega))) | (with_reducible refine itet_to ?_) | (with_reducible refine itef_to ?_) | (with_reducible refine ite_to (fun _ => ?_) (fun _ => ?_))) <;> try (exfalso; omega)
      refine ih _ (by omega) (k / m.1) _ rfl hd.1 (by omega) (by rw [h2, digs_add, ← letT_step hb (by omega)]) (fun x hx => ?_) (by rw [List.length_append]; exact pow_half (by omega) hb h4) (by simp; omega)
      rcases List.mem_append.1 hx with hx | hx
      · exact h3 x hx
      · rw [List.mem_singleton] at hx; subst hx; exact hr
theorem Letter_spec {m : Mor} (hm : MOK m) {n : Int} (h0 : 0 ≤ n) (hx : n ≤ 9223372036854775807) : r23_Letter m n = some (letT m n) :=
  Letter_L2 hm hx _ n [] rfl h0 hx rfl (by simp) (by simp) (by simp)

def cnt (m : Mor) (a : Int) : Nat → Int
  | 0 => 0
  | n + 1 => cnt m a n + if letT m (n : Int) = a then 1 else 0
def c1 (m : Mor) (t a : Int) : Nat → Int
  | 0 => 0
  | k + 1 => c1 m t a k + if ix (ix m.2.1 t) (k : Int) = a then 1 else 0
def d2 (m : Mor) (q : Nat) (a : Int) : Nat → Int
  | 0 => 0
  | T + 1 => d2 m q a T + cnt m (T : Int) q * c1 m T a m.1.toNat
def isC (m : Mor) (n : Int) (l : List Int) : Prop := l.length = m.2.1.length ∧ ∀ a : Int, 0 ≤ a → a < m.2.1.length → ix l a = cnt m a n.toNat
theorem cnt_b (m : Mor) (a : Int) : ∀ n, 0 ≤ cnt m a n ∧ cnt m a n ≤ n
  | 0 => ⟨Int.le_refl _, Int.le_refl _⟩
  | n + 1 => by
    have := cnt_b m a n
    unfold cnt; split <;> omega
theorem c1_b (m : Mor) (t a : Int) : ∀ n, 0 ≤ c1 m t a n ∧ c1 m t a n ≤ n
  | 0 => ⟨Int.le_refl _, Int.le_refl _⟩
  | n + 1 => by
    have := c1_b m t a n
    unfold c1; split <;> omega
theorem letT_block {m : Mor} (hm : MOK m) {k j : Nat} (hj : (j : Int) < m.1) : letT m ((k * m.1.toNat + j : Nat) : Int) = ix (ix m.2.1 (letT m k)) j := by
  have hb := hm.base.1
  have e : ((k * m.1.toNat + j : Nat) : Int) = j + k * m.1 := by
    rw [Int.natCast_add, Int.natCast_mul, show ((m.1.toNat : Nat) : Int) = m.1 by omega]; omega
  by_cases h : ((k * m.1.toNat + j : Nat) : Int) = 0
  · have h1 : j = 0 := by omega
    have h2 : k = 0 := by
      have : k * m.1.toNat = 0 := by omega
      rcases Nat.mul_eq_zero.1 this with h | h <;> omega
    subst h1 h2
    rw [h]
    have := hm.zero; unfold MZero at this
    exact this.symm
  · rw [letT_step hb (by omega), e, Int.add_mul_ediv_right _ _ (by omega), Int.add_mul_emod_self_right, Int.ediv_eq_zero_of_lt (by omega) hj, Int.emod_eq_of_lt (by omega) hj, Int.zero_add]
theorem cnt_block {m : Mor} (hm : MOK m) (a : Int) (k : Nat) : ∀ j : Nat, (j : Int) ≤ m.1 → cnt m a (k * m.1.toNat + j) = cnt m a (k * m.1.toNat) + c1 m (letT m k) a j
  | 0, _ => by simp [c1]
  | j + 1, h => by
    rw [← Nat.add_assoc, cnt, c1, cnt_block hm a k j (by omega), letT_block hm (by omega)]; omega
theorem cnt_row {m : Mor} (hm : MOK m) (a : Int) (k : Nat) : cnt m a ((k + 1) * m.1.toNat) = cnt m a (k * m.1.toNat) + c1 m (letT m k) a m.1.toNat := by
  have := hm.base.1
  rw [Nat.add_mul, Nat.one_mul]; exact cnt_block hm a k _ (by omega)
theorem d2_succ {m : Mor} (hm : MOK m) (q : Nat) (a : Int) : ∀ T : Nat, d2 m (q + 1) a T = d2 m q a T + if letT m q < T then c1 m (letT m q) a m.1.toNat else 0
  | 0 => by
    have := (letT_in hm _ (q : Int) (Nat.le_refl _) (by omega)).1
    rw [if_neg (by omega)]; rfl
  | T + 1 => by
    rw [d2, d2, d2_succ hm q a T, cnt]
    by_cases h1 : letT m q = (T : Int)
    · rw [if_pos h1, if_neg (by omega), if_pos (by omega), h1, Int.add_mul]; omega
    · rw [if_neg h1]
      by_cases h2 : letT m q < (T : Int)
      · rw [if_pos h2, if_pos (by omega), Int.add_zero]; omega
      · rw [if_neg h2, if_neg (by omega)]; simp
theorem d2_zero (m : Mor) (a : Int) : ∀ T : Nat, d2 m 0 a T = 0
  | 0 => rfl
  | T + 1 => by rw [d2, d2_zero m a T]; simp [cnt]
theorem d2_all {m : Mor} (hm : MOK m) (a : Int) : ∀ q : Nat, d2 m q a m.2.1.length = cnt m a (q * m.1.toNat)
  | 0 => by rw [d2_zero]; simp [cnt]
  | q + 1 => by
    have := (letT_in hm _ (q : Int) (Nat.le_refl _) (by omega)).2
    rw [d2_succ hm, cnt_row hm, d2_all hm a q, if_pos this]
theorem mul_b {x y : Int} (h0 : 0 ≤ x) (h1 : x ≤ 1000000000000000) (h2 : 0 ≤ y) (h3 : y ≤ 4) : 0 ≤ x * y ∧ x * y ≤ 4000000000000000 := by
  refine ⟨Int.mul_nonneg h0 h2, ?_⟩
  have := Int.mul_le_mul h1 h3 h2 (by omega)
  omega
theorem d2_b {m : Mor} (hm : MOK m) {q : Nat} (hq : q ≤ 1000000000000000) (a : Int) : ∀ T : Nat, 0 ≤ d2 m q a T ∧ d2 m q a T ≤ T * 4000000000000000
  | 0 => ⟨Int.le_refl _, Int.le_refl _⟩
  | T + 1 => by
    have h1 := d2_b hm hq a T
    have h2 := cnt_b m (T : Int) q
    have h3 := c1_b m T a m.1.toNat
    have h4 := hm.base; unfold MBase at h4
    have h5 := mul_b (x := cnt m (T : Int) q) (y := c1 m T a m.1.toNat) h2.1 (by omega) h3.1 (by omega)
    unfold d2; omega
theorem ix_upd {l : List Int} {x v a : Int} (h0 : 0 ≤ x) (h1 : x < l.length) (ha : 0 ≤ a) : ix (l.set x.toNat v) a = if x = a then v else ix l a := by
  split
  · rename_i h; subst h; exact ix_set_same h0 h1
  · rename_i h; exact ix_set_ne h0 ha h
theorem isC_next {m : Mor} (hm : MOK m) {k : Int} {l : List Int} (h : isC m k l) (h0 : 0 ≤ k) : isC m (k + 1) (l.set (letT m k).toNat (ix l (letT m k) + 1)) := by
  have hq := letT_in hm _ k (Nat.le_refl _) h0
  refine ⟨by rw [List.length_set]; exact h.1, fun a a0 a1 => ?_⟩
  rw [ix_upd hq.1 (by have := h.1; omega) a0, show (k + 1).toNat = k.toNat + 1 by omega, cnt, show ((k.toNat : Nat) : Int) = k by omega]
  split
  · rename_i he; rw [he, h.2 a a0 a1]
  · rw [h.2 a a0 a1]; omega
theorem isC.uniq {m : Mor} {n : Int} {l l' : List Int} (h : isC m n l) (h' : isC m n l') : l = l' :=
  ix_ext (h.1.trans h'.1.symm) (fun j a b => by have := h.1; rw [h.2 j a (by omega), h'.2 j a (by omega)])
theorem isC_zero {m : Mor} {x : Int} (hx : x = m.2.1.length) : isC m 0 (List.replicate x.toNat 0) := by
  refine ⟨by simp; omega, fun a a0 a1 => ?_⟩
  rw [ix_replicate a0 (by omega)]; rfl
theorem counts_L17 {m : Mor} (hm : MOK m) {n : Int} (hn : n ≤ 1000000000000000) : ∀ (f : Nat) (k : Int) (out : List Int), (n - k).toNat = f → 0 ≤ k → k ≤ n → isC m k out → ∃ out', isC m n out' ∧ seqs_counts_L17 m n k out = some out' := by
  intro f
  induction f with
  | zero =>
    intro k out hf h0 h1 h
    have : k = n := by omega
    subst this
    refine ⟨out, h, ?_⟩
    rw [seqs_counts_L17_eq]; unfold seqs_counts_L17_B
    (try dsimp only); (repeat' first | (with_reducible refine G_to ?_ ?_; focus (first | omega | (unfold fits; omega) | (unfold room; simp only [List.length_append, List.length_cons, List.length_nil]; omega))) | (with_reducible refine itet_to ?_) | (with_reducible refine itef_to ?_) | (with_reducible refine ite_to (fun _ => ?_) (fun _ => ?_))) <;> try (exfalso; omega)
    rfl
  | succ f ih =>
    intro k out hf h0 h1 h
    have hq := letT_in hm _ k (Nat.le_refl _) h0
    have hl := h.1
    have hx := h.2 _ hq.1 hq.2
    have hb := cnt_b m (letT m k) k.toNat
    obtain ⟨out', g1, g2⟩ := ih (k + 1) _ (by omega) (by omega) (by omega) (isC_next hm h h0)
    refine ⟨out', g1, ?_⟩
    rw [seqs_counts_L17_eq]; unfold seqs_counts_L17_B
    (try dsimp only); (repeat' first | (with_reducible refine G_to ?_ ?_; focus (first | omega | (unfold fits; omega) | (unfold room; simp only [List.length_append, List.length_cons, List.length_nil]; omega))) | (with_reducible refine itet_to ?_) | (with_reducible refine itef_to ?_) | (with_reducible refine ite_to (fun _ => ?_) (fun _ => ?_))) <;> try (exfalso; omega)
    refine bind_to (letter_spec hm _ k rfl h0 (by omega)) ?_
    (try dsimp only); (repeat' first | (with_reducible refine G_to ?_ ?_; focus (first | omega | (unfold fits; omega) | (unfold room; simp only [List.length_append, List.length_cons, List.length_nil]; omega))) | (with_reducible refine itet_to ?_) | (with_reducible refine itef_to ?_) | (with_reducible refine ite_to (fun _ => ?_) (fun _ => ?_))) <;> try (exfalso; omega)
    exact g2
theorem Below_L18 {m : Mor} (hm : MOK m) {n : Int} (hn : n ≤ 1000000000000000) : ∀ (f : Nat) (k : Int) (out : List Int), (n - k).toNat = f → 0 ≤ k → k ≤ n → isC m k out → ∃ out', isC m n out' ∧ r23_Below_L18 m n k out = some out' := by
  intro f
  induction f with
  | zero =>
    intro k out hf h0 h1 h
    have : k = n := by omega
    subst this
    refine ⟨out, h, ?_⟩
    rw [r23_Below_L18_eq]; unfold r23_Below_L18_B
    (try dsimp only); (repeat' first | (with_reducible refine G_to ?_ ?_; focus (first | omega | (unfold fits; omega) | (unfold room; simp only [List.length_append, List.length_cons, List.length_nil]; omega))) | (with_reducible refine itet_to ?_) | (with_reducible refine itef_to ?_) | (with_reducible refine ite_to (fun _ => ?_) (fun _ => ?_))) <;> try (exfalso; omega)
    rfl
  | succ f ih =>
    intro k out hf h0 h1 h
    have hq := letT_in hm _ k (Nat.le_refl _) h0
    have hl := h.1
    have hx := h.2 _ hq.1 hq.2
    have hb := cnt_b m (letT m k) k.toNat
    obtain ⟨out', g1, g2⟩ := ih (k + 1) _ (by omega) (by omega) (by omega) (isC_next hm h h0)
    refine ⟨out', g1, ?_⟩
    rw [r23_Below_L18_eq]; unfold r23_Below_L18_B
    (try dsimp only); (repeat' first | (with_reducible refine G_to ?_ ?_; focus (first | omega | (unfold fits; omega) | (unfold room; simp only [List.length_append, List.length_cons, List.length_nil]; omega))) | (with_reducible refine itet_to ?_) | (with_reducible refine itef_to ?_) | (with_reducible refine ite_to (fun _ => ?_) (fun _ => ?_))) <;> try (exfalso; omega)
    refine bind_to (Letter_spec hm h0 (by omega)) ?_
    (try dsimp only); (repeat' first | (with_reducible refine G_to ?_ ?_; focus (first | omega | (unfold fits; omega) | (unfold room; simp only [List.length_append, List.length_cons, List.length_nil]; omega))) | (with_reducible refine itet_to ?_) | (with_reducible refine itef_to ?_) | (with_reducible refine ite_to (fun _ => ?_) (fun _ => ?_))) <;> try (exfalso; omega)
    exact g2
theorem Below_L4 {m : Mor} (hm : MOK m) {n : Int} (hn : n ≤ 1000000000000000) : ∀ (f : Nat) (k : Int) (out : List Int), (n - k).toNat = f → 0 ≤ k → k ≤ n → isC m k out → ∃ out', isC m n out' ∧ r23_Below_L4 m n k out = some out' := by
  intro f
  induction f with
  | zero =>
    intro k out hf h0 h1 h
    have : k = n := by omega
    subst this
    refine ⟨out, h, ?_⟩
    rw [r23_Below_L4_eq]; unfold r23_Below_L4_B
    (try dsimp only); (repeat' first | (with_reducible refine G_to ?_ ?_; focus (first | omega | (unfold fits; omega) | (unfold room; simp only [List.length_append, List.length_cons, List.length_nil]; omega))) | (with_reducible refine itet_to ?_) | (with_reducible refine itef_to ?_) | (with_reducible refine ite_to (fun _ => ?_) (fun _ => ?_))) <;> try (exfalso; omega)
    rfl
  | succ f ih =>
    intro k out hf h0 h1 h
    have hq := letT_in hm _ k (Nat.le_refl _) h0
    have hl := h.1
    have hx := h.2 _ hq.1 hq.2
    have hb := cnt_b m (letT m k) k.toNat
    obtain ⟨out', g1, g2⟩ := ih (k + 1) _ (by omega) (by omega) (by omega) (isC_next hm h h0)
    refine ⟨out', g1, ?_⟩
    rw [r23_Below_L4_eq]; unfold r23_Below_L4_B
    (try dsimp only); (repeat' first | (with_reducible refine G_to ?_ ?_; focus (first | omega | (unfold fits; omega) | (unfold room; simp only [List.length_append, List.length_cons, List.length_nil]; omega))) | (with_reducible refine itet_to ?_) | (with_reducible refine itef_to ?_) | (with_reducible refine ite_to (fun _ => ?_) (fun _ => ?_))) <;> try (exfalso; omega)
    refine bind_to (Letter_spec hm h0 (by omega)) ?_
    (try dsimp only); (repeat' first | (with_reducible refine G_to ?_ ?_; focus (first | omega | (unfold fits; omega) | (unfold room; simp only [List.length_append, List.length_cons, List.length_nil]; omega))) | (with_reducible refine itet_to ?_) | (with_reducible refine itef_to ?_) | (with_reducible refine ite_to (fun _ => ?_) (fun _ => ?_))) <;> try (exfalso; omega)
    exact g2
/-- What the rows so far add up to. -/
def isD (m : Mor) (q : Nat) (t : Int) (k : Nat) (l : List Int) : Prop := l.length = m.2.1.length ∧ ∀ a : Int, 0 ≤ a → a < m.2.1.length → ix l a = d2 m q a t.toNat + cnt m t q * c1 m t a k
theorem isD_next {m : Mor} (hm : MOK m) {q : Nat} {t : Int} (h0 : 0 ≤ t) (h1 : t < m.2.1.length) {k : Int} (k0 : 0 ≤ k) (k1 : k < m.1) {l y : List Int} (hy : isC m q y) (h : isD m q t k.toNat l) :
    isD m q t (k + 1).toNat (l.set (ix (ix m.2.1 t) k).toNat (ix l (ix (ix m.2.1 t) k) + ix y t)) := by
  have hr := (hm.tab t h0 h1).1 k k0 k1
  refine ⟨by rw [List.length_set]; exact h.1, fun a a0 a1 => ?_⟩
  rw [ix_upd hr.1 (by have := h.1; omega) a0, show (k + 1).toNat = k.toNat + 1 by omega, c1, show ((k.toNat : Nat) : Int) = k by omega]
  split
  · rename_i he
    rw [he, h.2 a a0 a1, hy.2 t h0 h1, Int.mul_add, Int.toNat_natCast]; omega
  · rw [h.2 a a0 a1, Int.add_zero]
theorem isD_row {m : Mor} (hm : MOK m) {q : Nat} {t : Int} (h0 : 0 ≤ t) {l : List Int} (h : isD m q t m.1.toNat l) : isD m q (t + 1) 0 l := by
  refine ⟨h.1, fun a a0 a1 => ?_⟩
  rw [h.2 a a0 a1, show (t + 1).toNat = t.toNat + 1 by omega, d2, show ((t.toNat : Nat) : Int) = t by omega, c1]; omega
theorem isD_end {m : Mor} (hm : MOK m) {q : Nat} {l : List Int} (h : isD m q m.2.1.length 0 l) : isC m (q * m.1) l := by
  have hb := hm.base.1
  refine ⟨h.1, fun a a0 a1 => ?_⟩
  rw [h.2 a a0 a1, Int.toNat_natCast, d2_all hm, c1, Int.mul_zero, Int.add_zero]
  congr 1
  have : ((q * m.1.toNat : Nat) : Int) = q * m.1 := by rw [Int.natCast_mul, show ((m.1.toNat : Nat) : Int) = m.1 by omega]
  omega
theorem isD_zero {m : Mor} {q : Nat} {x : Int} (hx : x = m.2.1.length) : isD m q 0 0 (List.replicate x.toNat 0) := by
  refine ⟨by simp; omega, fun a a0 a1 => ?_⟩
  rw [ix_replicate a0 (by omega)]; simp [d2, c1]
theorem isD_b {m : Mor} (hm : MOK m) {q : Nat} (hq : q ≤ 1000000000000000) {t : Int} (h0 : 0 ≤ t) (h1 : t < m.2.1.length) {k : Nat} (hk : (k : Int) ≤ m.1) {l y : List Int} (hy : isC m q y) (h : isD m q t k l) {a : Int} (a0 : 0 ≤ a) (a1 : a < m.2.1.length) :
    0 ≤ ix l a + ix y t ∧ ix l a + ix y t ≤ 100000000000000000 := by
  have e1 := hm.base; unfold MBase at e1
  have e2 := hm.size; unfold MSize at e2
  have h2 := d2_b hm hq a t.toNat
  have h3 := cnt_b m t q
  have h4 := c1_b m t a k
  have h5 := mul_b h3.1 (by omega) h4.1 (by omega)
  rw [h.2 a a0 a1, hy.2 t h0 h1, Int.toNat_natCast]; omega
theorem counts_L11 {m : Mor} (hm : MOK m) {q : Nat} (hq : q ≤ 1000000000000000) {y : List Int} (hy : isC m q y) {t : Int} (h0 : 0 ≤ t) (h1 : t < m.2.1.length) {r8 : Int → List Int → Option (List Int)} :
    ∀ (f : Nat) (k : Int) (out : List Int), (m.1 - k).toNat = f → 0 ≤ k → k ≤ m.1 → isD m q t k.toNat out → ∃ out', isD m q t m.1.toNat out' ∧ seqs_counts_L11 m y t r8 k out = r8 (t + 1) out' := by
  have e1 := hm.base; unfold MBase at e1
  have e2 := hm.size; unfold MSize at e2
  have e3 := hm.len h0 h1
  intro f
  induction f with
  | zero =>
    intro k out hf k0 k1 h
    have : k = m.1 := by omega
    subst this
    refine ⟨out, h, ?_⟩
    rw [seqs_counts_L11_eq]; unfold seqs_counts_L11_B
    (try dsimp only); (repeat' first | (with_reducible refine G_to ?_ ?_; focus (first | omega | (unfold fits; omega) | (unfold room; simp only [List.length_append, List.length_cons, List.length_nil]; omega))) | (with_reducible refine itet_to ?_) | (with_reducible refine itef_to ?_) | (with_reducible refine ite_to (fun _ => ?_) (fun _ => ?_))) <;> try (exfalso; omega)
    rfl
  | succ f ih =>
    intro k out hf k0 k1 h
    have hr := (hm.tab t h0 h1).1 k k0 (by omega)
    have hl := h.1
    have hb := isD_b hm hq h0 h1 (by omega) hy h hr.1 hr.2
    obtain ⟨out', g1, g2⟩ := ih (k + 1) _ (by omega) (by omega) (by omega) (isD_next hm h0 h1 k0 (by omega) hy h)
    refine ⟨out', g1, ?_⟩
    rw [seqs_counts_L11_eq]; unfold seqs_counts_L11_B
    (try dsimp only); (repeat' first | (with_reducible refine G_to ?_ ?_; focus (first | omega | (unfold fits; omega) | (unfold room; simp only [List.length_append, List.length_cons, List.length_nil]; omega))) | (with_reducible refine itet_to ?_) | (with_reducible refine itef_to ?_) | (with_reducible refine ite_to (fun _ => ?_) (fun _ => ?_))) <;> try (exfalso; omega)
    exact g2
theorem Below_L14 {m : Mor} (hm : MOK m) {q : Nat} (hq : q ≤ 1000000000000000) {y : List Int} (hy : isC m q y) {t : Int} (h0 : 0 ≤ t) (h1 : t < m.2.1.length) {r8 : Int → List Int → Option (List Int)} :
    ∀ (f : Nat) (k : Int) (out : List Int), (m.1 - k).toNat = f → 0 ≤ k → k ≤ m.1 → isD m q t k.toNat out → ∃ out', isD m q t m.1.toNat out' ∧ r23_Below_L14 m y t r8 k out = r8 (t + 1) out' := by
  have e1 := hm.base; unfold MBase at e1
  have e2 := hm.size; unfold MSize at e2
  have e3 := hm.len h0 h1
  have e4 := hy.1
  intro f
  induction f with
  | zero =>
    intro k out hf k0 k1 h
    have : k = m.1 := by omega
    subst this
    refine ⟨out, h, ?_⟩
    rw [r23_Below_L14_eq]; unfold r23_Below_L14_B
    (try dsimp only); (repeat' first | (with_reducible refine G_to ?_ ?_; focus (first | omega | (unfold fits; omega) | (unfold room; simp only [List.length_append, List.length_cons, List.length_nil]; omega))) | (with_reducible refine itet_to ?_) | (with_reducible refine itef_to ?_) | (with_reducible refine ite_to (fun _ => ?_) (fun _ => ?_))) <;> try (exfalso; omega)
    rfl
  | succ f ih =>
    intro k out hf k0 k1 h
    have hr := (hm.tab t h0 h1).1 k k0 (by omega)
    have hl := h.1
    have hb := isD_b hm hq h0 h1 (by omega) hy h hr.1 hr.2
    obtain ⟨out', g1, g2⟩ := ih (k + 1) _ (by omega) (by omega) (by omega) (isD_next hm h0 h1 k0 (by omega) hy h)
    refine ⟨out', g1, ?_⟩
    rw [r23_Below_L14_eq]; unfold r23_Below_L14_B
    (try dsimp only); (repeat' first | (with_reducible refine G_to ?_ ?_; focus (first | omega | (unfold fits; omega) | (unfold room; simp only [List.length_append, List.length_cons, List.length_nil]; omega))) | (with_reducible refine itet_to ?_) | (with_reducible refine itef_to ?_) | (with_reducible refine ite_to (fun _ => ?_) (fun _ => ?_))) <;> try (exfalso; omega)
    exact g2
theorem div_b {m : Mor} (hm : MOK m) {n : Int} (h0 : 0 < n) (hn : n ≤ 1000000000000000) : 0 ≤ n / m.1 ∧ n / m.1 < n ∧ 0 ≤ n / m.1 * m.1 ∧ n / m.1 * m.1 ≤ n ∧ n - n % m.1 = n / m.1 * m.1 := by
  have hb := hm.base.1
  have h1 := div_lt (b := m.1) h0 hb
  have h2 := Int.mul_ediv_add_emod n m.1
  have h3 := mod_in (n := n) hb
  have h4 := Int.mul_nonneg h1.1 (show 0 ≤ m.1 by omega)
  rw [Int.mul_comm] at h2
  exact ⟨h1.1, h1.2, h4, by omega, by omega⟩
theorem counts_L8 {m : Mor} (hm : MOK m) {n : Int} (hn0 : 0 < n) (hn : n ≤ 1000000000000000) {q : Nat} (hqn : (q : Int) = n / m.1) {y : List Int} (hy : isC m q y) :
    ∀ (f : Nat) (t : Int) (out : List Int), (m.2.1.length - t).toNat = f → 0 ≤ t → t ≤ m.2.1.length → isD m q t 0 out → ∃ out', isC m n out' ∧ seqs_counts_L8 m n y t out = some out' := by
  have hd := div_b hm hn0 hn
  have e1 := hm.base; unfold MBase at e1
  have e2 := hm.size; unfold MSize at e2
  have e4 := hy.1
  intro f
  induction f with
  | zero =>
    intro t out hf h0 h1 h
    have : t = m.2.1.length := by omega
    subst this
    have h2 := isD_end hm h
    rw [hqn] at h2
    obtain ⟨out', g1, g2⟩ := counts_L17 hm hn _ (n / m.1 * m.1) out rfl hd.2.2.1 hd.2.2.2.1 h2
    refine ⟨out', g1, ?_⟩
    rw [seqs_counts_L8_eq]; unfold seqs_counts_L8_B
    rw [Int.tdiv_eq_ediv_of_nonneg (by omega)]
    (try dsimp only); (repeat' first | (with_reducible refine G_to ?_ ?_; focus (first | omega | (unfold fits; omega) | (unfold room; simp only [List.length_append, List.length_cons, List.length_nil]; omega))) | (with_reducible refine itet_to ?_) | (with_reducible refine itef_to ?_) | (with_reducible refine ite_to (fun _ => ?_) (fun _ => ?_))) <;> try (exfalso; omega)
    exact g2
  | succ f ih =>
    intro t out hf h0 h1 h
    obtain ⟨o1, a1, a2⟩ := counts_L11 (r8 := seqs_counts_L8 m n y) hm (by omega) hy h0 (by omega) _ 0 out rfl (by omega) (by omega) h
    obtain ⟨out', g1, g2⟩ := ih (t + 1) o1 (by omega) (by omega) (by omega) (isD_row hm h0 a1)
    refine ⟨out', g1, ?_⟩
    rw [seqs_counts_L8_eq]; unfold seqs_counts_L8_B
    (try dsimp only); (repeat' first | (with_reducible refine G_to ?_ ?_; focus (first | omega | (unfold fits; omega) | (unfold room; simp only [List.length_append, List.length_cons, List.length_nil]; omega))) | (with_reducible refine itet_to ?_) | (with_reducible refine itef_to ?_) | (with_reducible refine ite_to (fun _ => ?_) (fun _ => ?_))) <;> try (exfalso; omega)
    rw [a2]; exact g2
theorem Below_L11 {m : Mor} (hm : MOK m) {n : Int} (hn0 : 0 < n) (hn : n ≤ 1000000000000000) {q : Nat} (hqn : (q : Int) = n / m.1) {y : List Int} (hy : isC m q y) :
    ∀ (f : Nat) (t : Int) (out : List Int), (m.2.1.length - t).toNat = f → 0 ≤ t → t ≤ m.2.1.length → isD m q t 0 out → ∃ out', isC m n out' ∧ r23_Below_L11 m n y t out = some out' := by
  have hd := div_b hm hn0 hn
  have e1 := hm.base; unfold MBase at e1
  have e2 := hm.size; unfold MSize at e2
  have e4 := hy.1
  intro f
  induction f with
  | zero =>
    intro t out hf h0 h1 h
    have : t = m.2.1.length := by omega
    subst this
    have h2 := isD_end hm h
    rw [hqn] at h2
    obtain ⟨out', g1, g2⟩ := Below_L18 hm hn _ (n / m.1 * m.1) out rfl hd.2.2.1 hd.2.2.2.1 h2
    refine ⟨out', g1, ?_⟩
    rw [r23_Below_L11_eq]; unfold r23_Below_L11_B
    rw [Int.tmod_eq_emod_of_nonneg (by omega), hd.2.2.2.2]
    (try dsimp only); (repeat' first | (with_reducible refine G_to ?_ ?_; focus (first | omega | (unfold fits; omega) | (unfold room; simp only [List.length_append, List.length_cons, List.length_nil]; omega))) | (with_reducible refine itet_to ?_) | (with_reducible refine itef_to ?_) | (with_reducible refine ite_to (fun _ => ?_) (fun _ => ?_))) <;> try (exfalso; omega)
    exact g2
  | succ f ih =>
    intro t out hf h0 h1 h
    obtain ⟨o1, a1, a2⟩ := Below_L14 (r8 := r23_Below_L11 m n y) hm (by omega) hy h0 (by omega) _ 0 out rfl (by omega) (by omega) h
    obtain ⟨out', g1, g2⟩ := ih (t + 1) o1 (by omega) (by omega) (by omega) (isD_row hm h0 a1)
    refine ⟨out', g1, ?_⟩
    rw [r23_Below_L11_eq]; unfold r23_Below_L11_B
    (try dsimp only); (repeat' first | (with_reducible refine G_to ?_ ?_; focus (first | omega | (unfold fits; omega) | (unfold room; simp only [List.length_append, List.length_cons, List.length_nil]; omega))) | (with_reducible refine itet_to ?_) | (with_reducible refine itef_to ?_) | (with_reducible refine ite_to (fun _ => ?_) (fun _ => ?_))) <;> try (exfalso; omega)
    rw [a2]; exact g2
theorem counts_spec {m : Mor} (hm : MOK m) : ∀ (f : Nat) (n : Int), n.toNat = f → 0 ≤ n → n ≤ 1000000000000000 → ∃ l, isC m n l ∧ seqs_counts m n = some l := by
  have e1 := hm.base; unfold MBase at e1
  have e2 := hm.size; unfold MSize at e2
  intro f
  induction f using Nat.strongRecOn with
  | ind f ih =>
    intro n hf h0 hn
    have hmk : mkOK (m.2.1.length : Int) (m.2.1.length : Int) 8 := ⟨by omega, by omega, by omega⟩
    by_cases hz : n = 0
    · subst hz
      refine ⟨_, isC_zero rfl, ?_⟩
      rw [seqs_counts_eq]; unfold seqs_counts_B
      rw [G_pos hmk]
      (try dsimp only); (repeat' first | (with_reducible refine G_to ?_ ?_; focus (first | omega | (unfold fits; omega) | (unfold room; simp only [List.length_append, List.length_cons, List.length_nil]; omega))) | (with_reducible refine itet_to ?_) | (with_reducible refine itef_to ?_) | (with_reducible refine ite_to (fun _ => ?_) (fun _ => ?_))) <;> try (exfalso; omega)
      rfl
    by_cases ho : n = 1
    · subst ho
      have h1 := isC_next hm (isC_zero (m := m) (x := m.2.1.length) rfl) (by omega)
      rw [letT_zero] at h1
      rw [ix_replicate (by omega) (by omega)] at h1
      refine ⟨_, h1, ?_⟩
      rw [seqs_counts_eq]; unfold seqs_counts_B
      rw [G_pos hmk, List.length_replicate]
      (try dsimp only); (repeat' first | (with_reducible refine G_to ?_ ?_; focus (first | omega | (unfold fits; omega) | (unfold room; simp only [List.length_append, List.length_cons, List.length_nil]; omega))) | (with_reducible refine itet_to ?_) | (with_reducible refine itef_to ?_) | (with_reducible refine ite_to (fun _ => ?_) (fun _ => ?_))) <;> try (exfalso; omega)
      rfl
    have hd := div_b hm (n := n) (by omega) hn
    obtain ⟨y, hy, he⟩ := ih _ (by omega) (n / m.1) rfl hd.1 (by omega)
    obtain ⟨l, hl, he2⟩ := counts_L8 hm (n := n) (q := (n / m.1).toNat) (by omega) hn (by omega) (by rw [show (((n / m.1).toNat : Nat) : Int) = n / m.1 by omega]; exact hy) _ 0 _ rfl (by omega) (by omega) (isD_zero (x := m.2.1.length) rfl)
    refine ⟨l, hl, ?_⟩
    rw [seqs_counts_eq]; unfold seqs_counts_B
    rw [G_pos hmk, Int.tdiv_eq_ediv_of_nonneg h0]
    (try dsimp only); (repeat' first | (with_reducible refine G_to ?_ ?_; focus (first | omega | (unfold fits; omega) | (unfold room; simp only [List.length_append, List.length_cons, List.length_nil]; omega))) | (with_reducible refine itet_to ?_) | (with_reducible refine itef_to ?_) | (with_reducible refine ite_to (fun _ => ?_) (fun _ => ?_))) <;> try (exfalso; omega)
    refine bind_to he ?_
    exact he2
theorem Below_spec {m : Mor} (hm : MOK m) : ∀ (f : Nat) (n : Int), n.toNat = f → 0 ≤ n → n ≤ 1000000000000000 → ∃ l, isC m n l ∧ r23_Below m n = some l := by
  have e1 := hm.base; unfold MBase at e1
  have e2 := hm.size; unfold MSize at e2
  intro f
  induction f using Nat.strongRecOn with
  | ind f ih =>
    intro n hf h0 hn
    have hmk : mkOK (m.2.1.length : Int) (m.2.1.length : Int) 8 := ⟨by omega, by omega, by omega⟩
    by_cases hz : n < 4
    · obtain ⟨l, hl, he⟩ := Below_L4 hm hn _ 0 _ rfl (by omega) h0 (isC_zero (x := m.2.1.length) rfl)
      refine ⟨l, hl, ?_⟩
      rw [r23_Below_eq]; unfold r23_Below_B
      rw [G_pos hmk]
      (try dsimp only); (repeat' first | (with_reducible refine G_to ?_ ?_; focus (first | omega | (unfold fits; omega) | (unfold room; simp only [List.length_append, List.length_cons, List.length_nil]; omega))) | (with_reducible refine itet_to ?_) | (with_reducible refine itef_to ?_) | (with_reducible refine ite_to (fun _ => ?_) (fun _ => ?_))) <;> try (exfalso; omega)
      exact he
    have hd := div_b hm (n := n) (by omega) hn
    obtain ⟨y, hy, he⟩ := ih _ (by omega) (n / m.1) rfl hd.1 (by omega)
    obtain ⟨l, hl, he2⟩ := Below_L11 hm (n := n) (q := (n / m.1).toNat) (by omega) hn (by omega) (by rw [show (((n / m.1).toNat : Nat) : Int) = n / m.1 by omega]; exact hy) _ 0 _ rfl (by omega) (by omega) (isD_zero (x := m.2.1.length) rfl)
    refine ⟨l, hl, ?_⟩
    rw [r23_Below_eq]; unfold r23_Below_B
    rw [G_pos hmk, Int.tdiv_eq_ediv_of_nonneg h0]
    (try dsimp only); (repeat' first | (with_reducible refine G_to ?_ ?_; focus (first | omega | (unfold fits; omega) | (unfold room; simp only [List.length_append, List.length_cons, List.length_nil]; omega))) | (with_reducible refine itet_to ?_) | (with_reducible refine itef_to ?_) | (with_reducible refine ite_to (fun _ => ?_) (fun _ => ?_))) <;> try (exfalso; omega)
    refine bind_to he ?_
    exact he2
def cod (m : Mor) (y : List Int) : Nat → Int → List Int → List Int
  | 0, _, out => out
  | n + 1, t, out => cod m y n (t + 1) (out.set (ix m.2.2.1 t).toNat (ix out (ix m.2.2.1 t) + ix y t))
def Low (b : Int) (l : List Int) : Prop := l.length = 10 ∧ ∀ a : Int, 0 ≤ a → a < 10 → 0 ≤ ix l a ∧ ix l a ≤ b
theorem Low.set {b v x : Int} {l : List Int} (h : Low b l) (h0 : 0 ≤ x) (h1 : x ≤ 9) (hv : 0 ≤ v ∧ v ≤ 1000000000000000) : Low (b + 1000000000000000) (l.set x.toNat (ix l x + v)) := by
  refine ⟨by rw [List.length_set]; exact h.1, fun a a0 a1 => ?_⟩
  have h2 := h.2 a a0 a1
  have h3 := h.2 x h0 (by omega)
  have hl := h.1
  rw [ix_upd h0 (by omega) a0]
  split <;> omega
theorem Counts_L8 {m : Mor} (hm : MOK m) {n : Int} (hn : n ≤ 1000000000000000) {y : List Int} (hy : isC m n y) : ∀ (f : Nat) (t : Int) (out : List Int), (m.2.1.length - t).toNat = f → 0 ≤ t → t ≤ m.2.1.length → Low (t * 1000000000000000) out → seqs_Counts_L8 m y t out = some (0, cod m y f t out) := by
  have e2 := hm.size; unfold MSize at e2
  have e4 := hy.1
  have e5 := hm.shape.1
  intro f
  induction f with
  | zero =>
    intro t out hf h0 h1 h
    rw [seqs_Counts_L8_eq]; unfold seqs_Counts_L8_B
    (try dsimp only); (repeat' first | (with_reducible refine G_to ?_ ?_; focus (first | omega | (unfold fits; omega) | (unfold room; simp only [List.length_append, List.length_cons, List.length_nil]; omega))) | (with_reducible refine itet_to ?_) | (with_reducible refine itef_to ?_) | (with_reducible refine ite_to (fun _ => ?_) (fun _ => ?_))) <;> try (exfalso; omega)
    rfl
  | succ f ih =>
    intro t out hf h0 h1 h
    have hr := (hm.tab t h0 (by omega)).2
    have hl := h.1
    have hb := cnt_b m t n.toNat
    have hyx := hy.2 t h0 (by omega)
    have hlo := h.2 _ hr.1 (by omega)
    have h3 := ih (t + 1) _ (by omega) (by omega) (by omega) (by have := h.set hr.1 hr.2 (v := ix y t) (by omega); rwa [show t * 1000000000000000 + 1000000000000000 = (t + 1) * 1000000000000000 by omega] at this)
    rw [seqs_Counts_L8_eq]; unfold seqs_Counts_L8_B
    (try dsimp only); (repeat' first | (with_reducible refine G_to ?_ ?_; focus (first | omega | (unfold fits; omega) | (unfold room; simp only [List.length_append, List.length_cons, List.length_nil]; omega))) | (with_reducible refine itet_to ?_) | (with_reducible refine itef_to ?_) | (with_reducible refine ite_to (fun _ => ?_) (fun _ => ?_))) <;> try (exfalso; omega)
    rw [h3]; rfl
theorem law_L10 {m : Mor} (hm : MOK m) {n : Int} (hn : n ≤ 1000000000000000) {y y1 : List Int} (hs : y1.length ≤ 1000) (hy : isC m n y) : ∀ (f : Nat) (t : Int) (out : List Int), (m.2.1.length - t).toNat = f → 0 ≤ t → t ≤ m.2.1.length → Low (t * 1000000000000000) out → law_SeqsCounts_L10 m 0 y1 y t out = some (decide (y1 = cod m y f t out)) := by
  have e2 := hm.size; unfold MSize at e2
  have e4 := hy.1
  have e5 := hm.shape.1
  intro f
  induction f with
  | zero =>
    intro t out hf h0 h1 h
    rw [law_SeqsCounts_L10_eq]; unfold law_SeqsCounts_L10_B
    (try dsimp only); (repeat' first | (with_reducible refine G_to ?_ ?_; focus (first | omega | (unfold fits; omega) | (unfold room; simp only [List.length_append, List.length_cons, List.length_nil]; omega))) | (with_reducible refine itet_to ?_) | (with_reducible refine itef_to ?_) | (with_reducible refine ite_to (fun _ => ?_) (fun _ => ?_))) <;> try (exfalso; omega)
    refine bind_to (r1_Words_spec (by omega)) ?_
    rfl
  | succ f ih =>
    intro t out hf h0 h1 h
    have hr := (hm.tab t h0 (by omega)).2
    have hl := h.1
    have hb := cnt_b m t n.toNat
    have hyx := hy.2 t h0 (by omega)
    have hlo := h.2 _ hr.1 (by omega)
    have h3 := ih (t + 1) _ (by omega) (by omega) (by omega) (by have := h.set hr.1 hr.2 (v := ix y t) (by omega); rwa [show t * 1000000000000000 + 1000000000000000 = (t + 1) * 1000000000000000 by omega] at this)
    rw [law_SeqsCounts_L10_eq]; unfold law_SeqsCounts_L10_B
    (try dsimp only); (repeat' first | (with_reducible refine G_to ?_ ?_; focus (first | omega | (unfold fits; omega) | (unfold room; simp only [List.length_append, List.length_cons, List.length_nil]; omega))) | (with_reducible refine itet_to ?_) | (with_reducible refine itef_to ?_) | (with_reducible refine ite_to (fun _ => ?_) (fun _ => ?_))) <;> try (exfalso; omega)
    rw [h3]; rfl
theorem cod_len (m : Mor) (y : List Int) : ∀ (f : Nat) (t : Int) (out : List Int), (cod m y f t out).length = out.length
  | 0, _, _ => rfl
  | f + 1, t, out => by rw [cod, cod_len m y f]; simp
theorem law_true (m : Mor) (n : Int) : law_SeqsCounts m n = some true := by
  have hlow : Low (0 * 1000000000000000) (List.replicate (10 : Int).toNat 0) := ⟨rfl, fun a a0 a1 => by rw [ix_replicate a0 (by omega)]; omega⟩
  unfold law_SeqsCounts
  by_cases h : morE m = 0
  · have hm := mor_of h
    have e2 := hm.size; unfold MSize at e2
    by_cases hr : 0 ≤ n ∧ n ≤ 1000000000000000
    · obtain ⟨y, hy, he⟩ := counts_spec hm _ n rfl hr.1 hr.2
      obtain ⟨y2, hy2, he2⟩ := Below_spec hm _ n rfl hr.1 hr.2
      obtain rfl := hy.uniq hy2
      have hcl := cod_len m y ((m.2.1.length : Int) - 0).toNat 0 (List.replicate (10 : Int).toNat 0)
      refine bind_to (y := (0, cod m y ((m.2.1.length : Int) - 0).toNat 0 (List.replicate (10 : Int).toNat 0))) ?_ ?_
      · unfold seqs_Counts
        refine bind_to (y := morE m) Check_spec ?_
        (try dsimp only); (repeat' first | (with_reducible refine G_to ?_ ?_; focus (first | omega | (unfold fits; omega) | (unfold room; simp only [List.length_append, List.length_cons, List.length_nil]; omega))) | (with_reducible refine itet_to ?_) | (with_reducible refine itef_to ?_) | (with_reducible refine ite_to (fun _ => ?_) (fun _ => ?_))) <;> try (exfalso; omega)
        rw [G_pos (by decide)]
        refine bind_to he ?_
        exact Counts_L8 hm hr.2 hy _ 0 _ rfl (by omega) (by omega) hlow
      refine bind_to (y := morE m) r23_Check_spec ?_
      (try dsimp only); (repeat' first | (with_reducible refine G_to ?_ ?_; focus (first | omega | (unfold fits; omega) | (unfold room; simp only [List.length_append, List.length_cons, List.length_nil]; omega))) | (with_reducible refine itet_to ?_) | (with_reducible refine itef_to ?_) | (with_reducible refine ite_to (fun _ => ?_) (fun _ => ?_))) <;> try (exfalso; omega)
      unfold law_SeqsCounts_J3
      rw [if_neg (by simp; omega)]
      unfold law_SeqsCounts_J4
      rw [if_neg (by simp [h]), G_pos (by decide)]
      refine bind_to he2 ?_
      rw [law_L10 hm hr.2 (by rw [hcl]; decide) hy _ 0 _ rfl (by omega) (by omega) hlow]
      simp
    · refine bind_to (y := (2, [])) ?_ ?_
      · unfold seqs_Counts
        refine bind_to (y := morE m) Check_spec ?_
        (try dsimp only); (repeat' first | (with_reducible refine G_to ?_ ?_; focus (first | omega | (unfold fits; omega) | (unfold room; simp only [List.length_append, List.length_cons, List.length_nil]; omega))) | (with_reducible refine itet_to ?_) | (with_reducible refine itef_to ?_) | (with_reducible refine ite_to (fun _ => ?_) (fun _ => ?_))) <;> try (exfalso; omega)
        all_goals rfl
      refine bind_to (y := morE m) r23_Check_spec ?_
      (try dsimp only); (repeat' first | (with_reducible refine G_to ?_ ?_; focus (first | omega | (unfold fits; omega) | (unfold room; simp only [List.length_append, List.length_cons, List.length_nil]; omega))) | (with_reducible refine itet_to ?_) | (with_reducible refine itef_to ?_) | (with_reducible refine ite_to (fun _ => ?_) (fun _ => ?_)) | unfold law_SeqsCounts_J3 | unfold law_SeqsCounts_J4) <;> try (exfalso; omega)
      all_goals first | rfl | skip
  · refine bind_to (y := (morE m, [])) ?_ ?_
    · unfold seqs_Counts
      refine bind_to (y := morE m) Check_spec ?_
      (try dsimp only); (repeat' first | (with_reducible refine G_to ?_ ?_; focus (first | omega | (unfold fits; omega) | (unfold room; simp only [List.length_append, List.length_cons, List.length_nil]; omega))) | (with_reducible refine itet_to ?_) | (with_reducible refine itef_to ?_) | (with_reducible refine ite_to (fun _ => ?_) (fun _ => ?_))) <;> try (exfalso; omega)
      rfl
    refine bind_to (y := morE m) r23_Check_spec ?_
    (try dsimp only); (repeat' first | (with_reducible refine G_to ?_ ?_; focus (first | omega | (unfold fits; omega) | (unfold room; simp only [List.length_append, List.length_cons, List.length_nil]; omega))) | (with_reducible refine itet_to ?_) | (with_reducible refine itef_to ?_) | (with_reducible refine ite_to (fun _ => ?_) (fun _ => ?_)) | unfold law_SeqsCounts_J3 | unfold law_SeqsCounts_J4) <;> try (exfalso; omega)
    all_goals first | rfl | skip

end Go.Proofs.Ytgjpkfbaobanlaa.seqsCountsW
