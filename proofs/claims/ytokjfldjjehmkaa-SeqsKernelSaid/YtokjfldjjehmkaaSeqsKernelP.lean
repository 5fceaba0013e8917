/- The law 'SeqsKernel' of the plain functions. -/
import Derived.Test.YtokjfldjjehmkaaSeqsKernelD
set_option maxHeartbeats 1000000
set_option maxRecDepth 20000
set_option linter.unusedSimpArgs false
set_option linter.unusedVariables false
namespace Go.Proofs.Ytokjfldjjehmkaa.seqsKernelW
open Go Go.Ab
theorem wrap_nat {n : Nat} (h : n < 9223372036854775808) : IntKind.wrap .i64 (n : Int) = n := by
  unfold IntKind.wrap
  simp [IntKind.bits, IntKind.signed]
  omega
theorem ofInt_nat (m : Nat) : BitVec.ofInt 64 (m : Int) = BitVec.ofNat 64 m := by
  apply BitVec.eq_of_toNat_eq; simp
theorem iand_nat {m n : Nat} (hm : m < 9223372036854775808) (hn : n < 9223372036854775808) : iand .i64 (m : Int) (n : Int) = ((m &&& n : Nat) : Int) := by
  unfold iand
  have h : (BitVec.ofInt IntKind.i64.bits (m : Int) &&& BitVec.ofInt IntKind.i64.bits (n : Int)).toNat = m &&& n := by
    show (BitVec.ofInt 64 (m : Int) &&& BitVec.ofInt 64 (n : Int)).toNat = m &&& n
    rw [ofInt_nat, ofInt_nat, BitVec.toNat_and, BitVec.toNat_ofNat, BitVec.toNat_ofNat, Nat.mod_eq_of_lt (by omega), Nat.mod_eq_of_lt (by omega)]
  rw [h, wrap_nat (Nat.lt_of_le_of_lt Nat.and_le_left hm)]
theorem ior_nat {m n : Nat} (hm : m < 9223372036854775808) (hn : n < 9223372036854775808) : ior .i64 (m : Int) (n : Int) = ((m ||| n : Nat) : Int) := by
  unfold ior
  have h : (BitVec.ofInt IntKind.i64.bits (m : Int) ||| BitVec.ofInt IntKind.i64.bits (n : Int)).toNat = m ||| n := by
    show (BitVec.ofInt 64 (m : Int) ||| BitVec.ofInt 64 (n : Int)).toNat = m ||| n
    rw [ofInt_nat, ofInt_nat, BitVec.toNat_or, BitVec.toNat_ofNat, BitVec.toNat_ofNat, Nat.mod_eq_of_lt (by omega), Nat.mod_eq_of_lt (by omega)]
  rw [h, wrap_nat (Nat.or_lt_two_pow (n := 63) hm hn)]
theorem ishl_nat {m k : Nat} (hk : k < 63) (h : m * 2 ^ k < 9223372036854775808) : ishl .i64 (m : Int) (k : Int) = ((m <<< k : Nat) : Int) := by
  unfold ishl
  have e : min ((k : Int).toNat) IntKind.i64.bits = k := by
    show min ((k : Int).toNat) 64 = k
    omega
  rw [e, Nat.shiftLeft_eq]
  have : (m : Int) * 2 ^ k = ((m * 2 ^ k : Nat) : Int) := by push_cast; rfl
  rw [this, wrap_nat h]
theorem ishr_nat {m k : Nat} (hk : k ≤ 64) : ishr .i64 (m : Int) (k : Int) = ((m >>> k : Nat) : Int) := by
  unfold ishr
  have e : min ((k : Int).toNat) IntKind.i64.bits = k := by
    show min ((k : Int).toNat) 64 = k
    omega
  rw [e, Nat.shiftRight_eq_div_pow, Int.fdiv_eq_ediv_of_nonneg _ (by exact_mod_cast Nat.zero_le _)]
  push_cast; rfl
/-- Bits: the q-th one is put. -/
theorem ior_bit {m q : Nat} (hm : m < 4611686018427387904) (hq : q < 62) : ior .i64 (m : Int) (ishl .i64 1 (q : Int)) = ((m ||| 2 ^ q : Nat) : Int) ∧ m ||| 2 ^ q < 4611686018427387904 := by
  have h2 : 2 ^ q < 4611686018427387904 := Nat.pow_lt_pow_right (a := 2) (n := 62) (by omega) hq
  have h1 : ishl .i64 1 (q : Int) = ((2 ^ q : Nat) : Int) := by
    have := ishl_nat (m := 1) (k := q) (by omega) (by omega)
    rw [Nat.shiftLeft_eq, Nat.one_mul] at this
    exact this
  rw [h1, ior_nat (by omega) (by omega)]
  exact ⟨rfl, Nat.or_lt_two_pow (n := 62) hm h2⟩

theorem r1_Words_L4_spec {a b : List Int} (hl : a.length = b.length) : ∀ (n : Nat) (i : Int), 0 ≤ i → i ≤ a.length → (a.length - i).toNat = n → a.length ≤ 2305843009213693951 → (∀ j : Int, 0 ≤ j → j < i → ix a j = ix b j) → r1_Words_L4 a b i = some (decide (a = b)) := by
  intro n
  induction n with
  | zero =>
    intro i h0 h1 hn hs h
    rw [r1_Words_L4_eq]; unfold r1_Words_L4_B
    (try dsimp only); (repeat' first | (with_reducible refine G_to ?_ ?_; focus (first | omega | (unfold fits; omega) | (unfold room; (try simp only [List.length_append, List.length_cons, List.length_nil]); omega))) | (with_reducible refine both_to ?_ ?_) | (with_reducible refine itet_to ?_) | (with_reducible refine itef_to ?_) | (with_reducible refine ite_to (fun _ => ?_) (fun _ => ?_))) <;> try (exfalso; omega)
    · rw [Option.some_inj, eq_comm, decide_eq_true_iff]; exact ix_ext hl (fun j a b => h j a (by omega))
  | succ n ih =>
    intro i h0 h1 hn hs h
    rw [r1_Words_L4_eq]; unfold r1_Words_L4_B
    (try dsimp only); (repeat' first | (with_reducible refine G_to ?_ ?_; focus (first | omega | (unfold fits; omega) | (unfold room; (try simp only [List.length_append, List.length_cons, List.length_nil]); omega))) | (with_reducible refine both_to ?_ ?_) | (with_reducible refine itet_to ?_) | (with_reducible refine itef_to ?_) | (with_reducible refine ite_to (fun _ => ?_) (fun _ => ?_))) <;> try (exfalso; omega)
    · rw [Option.some_inj, eq_comm, decide_eq_false_iff_not]; rintro rfl; contradiction
    · rename_i hx; exact ih _ (by omega) (by omega) (by omega) hs (below_succ h (Decidable.not_not.1 hx))
theorem r1_Words_spec {a b : List Int} (hs : a.length ≤ 2305843009213693951) : r1_Words a b = some (decide (a = b)) := by
  unfold r1_Words
  (try dsimp only); (repeat' first | (with_reducible refine G_to ?_ ?_; focus (first | omega | (unfold fits; omega) | (unfold room; (try simp only [List.length_append, List.length_cons, List.length_nil]); omega))) | (with_reducible refine both_to ?_ ?_) | (with_reducible refine itet_to ?_) | (with_reducible refine itef_to ?_) | (with_reducible refine ite_to (fun _ => ?_) (fun _ => ?_))) <;> try (exfalso; omega)
  · rw [Option.some_inj, eq_comm, decide_eq_false_iff_not]; rintro rfl; contradiction
  · exact r1_Words_L4_spec (by omega) _ 0 (by omega) (by omega) rfl hs (fun j a b => by omega)

theorem slices_Clone_spec {s : List Int} (hs : s.length * 8 ≤ 140737488355328) : slices_Clone s = some s := by
  have hr : G (room ([] : List Int) s 8) (some (([] : List Int) ++ s)) = some s := by
    rw [G_pos (room_of (by simpa using hs))]; rfl
  unfold slices_Clone
  refine itep_to (fun h => ?_) (fun h => hr)
  obtain rfl : s = [] := List.length_eq_zero_iff.1 h
  rw [hr]; exact both_self (ts := [(.list (.int .i64))]) (some ([] : List Int))

abbrev Mor := Int × List (List Int) × List Int × Unit
def MBase (m : Mor) : Prop := 2 ≤ m.1 ∧ m.1 ≤ 4
def MSize (m : Mor) : Prop := 1 ≤ (m.2.1.length : Int) ∧ (m.2.1.length : Int) ≤ 4
def MShape (m : Mor) : Prop := (m.2.2.1.length : Int) = m.2.1.length ∧ ∀ w ∈ m.2.1, (w.length : Int) = m.1
def MRow (m : Mor) (a : Int) : Prop := (∀ k : Int, 0 ≤ k → k < m.1 → 0 ≤ ix (ix m.2.1 a) k ∧ ix (ix m.2.1 a) k < m.2.1.length) ∧ 0 ≤ ix m.2.2.1 a ∧ ix m.2.2.1 a ≤ 9
def MTab (m : Mor) : Prop := ∀ a : Int, 0 ≤ a → a < m.2.1.length → MRow m a
def MZero (m : Mor) : Prop := ix (ix m.2.1 0) 0 = 0
open Classical in
/-- The fault of a morphism. -/
noncomputable def morE (m : Mor) : Int := if ¬ MBase m then 2 else if ¬ MSize m then 1 else if ¬ MShape m then 3 else if ¬ MTab m then 2 else if ¬ MZero m then 3 else 0
structure MOK (m : Mor) : Prop where
  base : MBase m
  size : MSize m
  shape : MShape m
  tab : MTab m
  zero : MZero m
theorem mor_base {m : Mor} (h : ¬ MBase m) : morE m = 2 := if_pos h
theorem mor_size {m : Mor} (h1 : MBase m) (h : ¬ MSize m) : morE m = 1 := by unfold morE; rw [if_neg (not_not_intro h1), if_pos h]
theorem mor_shape {m : Mor} (h1 : MBase m) (h2 : MSize m) (h : ¬ MShape m) : morE m = 3 := by unfold morE; rw [if_neg (not_not_intro h1), if_neg (not_not_intro h2), if_pos h]
theorem mor_tab {m : Mor} (h1 : MBase m) (h2 : MSize m) (h3 : MShape m) (h : ¬ MTab m) : morE m = 2 := by unfold morE; rw [if_neg (not_not_intro h1), if_neg (not_not_intro h2), if_neg (not_not_intro h3), if_pos h]
theorem mor_zero {m : Mor} (h1 : MBase m) (h2 : MSize m) (h3 : MShape m) (h4 : MTab m) (h : ¬ MZero m) : morE m = 3 := by
  unfold morE; rw [if_neg (not_not_intro h1), if_neg (not_not_intro h2), if_neg (not_not_intro h3), if_neg (not_not_intro h4), if_pos h]
theorem mor_ok {m : Mor} (h1 : MBase m) (h2 : MSize m) (h3 : MShape m) (h4 : MTab m) (h : MZero m) : morE m = 0 := by
  unfold morE; rw [if_neg (not_not_intro h1), if_neg (not_not_intro h2), if_neg (not_not_intro h3), if_neg (not_not_intro h4), if_neg (not_not_intro h)]
theorem mor_of {m : Mor} (h : morE m = 0) : MOK m := by
  by_cases h1 : MBase m
  · by_cases h2 : MSize m
    · by_cases h3 : MShape m
      · by_cases h4 : MTab m
        · by_cases h5 : MZero m
          · exact ⟨h1, h2, h3, h4, h5⟩
          · rw [mor_zero h1 h2 h3 h4 h5] at h; omega
        · rw [mor_tab h1 h2 h3 h4] at h; omega
      · rw [mor_shape h1 h2 h3] at h; omega
    · rw [mor_size h1 h2] at h; omega
  · rw [mor_base h1] at h; omega
theorem MOK.len {m : Mor} (h : MOK m) {a : Int} (h0 : 0 ≤ a) (ha : a < m.2.1.length) : ((ix m.2.1 a).length : Int) = m.1 := h.shape.2 _ (ix_mem h0 ha)
/-- The letter at a place. -/
def letF (m : Mor) : Nat → Int → Int
  | 0, _ => 0
  | f + 1, n => if n = 0 then 0 else ix (ix m.2.1 (letF m f (n / m.1))) (n % m.1)
def letT (m : Mor) (n : Int) : Int := letF m n.toNat n
theorem div_lt {n b : Int} (hn : 0 < n) (hb : 2 ≤ b) : 0 ≤ n / b ∧ n / b < n := ⟨Int.ediv_nonneg (by omega) (by omega), Int.ediv_lt_of_lt_mul (by omega) (by
  have : n * 2 ≤ n * b := Int.mul_le_mul_of_nonneg_left hb (by omega)
  omega)⟩
theorem letF_eq {m : Mor} (hb : 2 ≤ m.1) : ∀ (f : Nat) (n : Int), 0 ≤ n → n.toNat ≤ f → letF m f n = letT m n
  | 0, n, h0, h => by
    have : n = 0 := by omega
    subst this; rfl
  | f + 1, n, h0, h => by
    by_cases hn : n = 0
    · subst hn; rfl
    · have hd := div_lt (n := n) (b := m.1) (by omega) hb
      obtain ⟨k, hk⟩ : ∃ k, n.toNat = k + 1 := ⟨n.toNat - 1, by omega⟩
      unfold letT
      rw [hk]
      simp only [letF, if_neg hn]
      rw [letF_eq hb f _ hd.1 (by omega), letF_eq hb k _ hd.1 (by omega)]
theorem letT_zero {m : Mor} : letT m 0 = 0 := rfl
theorem letT_step {m : Mor} (hb : 2 ≤ m.1) {n : Int} (hn : 0 < n) : letT m n = ix (ix m.2.1 (letT m (n / m.1))) (n % m.1) := by
  have hd := div_lt (n := n) (b := m.1) (by omega) hb
  obtain ⟨k, hk⟩ : ∃ k, n.toNat = k + 1 := ⟨n.toNat - 1, by omega⟩
  show letF m n.toNat n = _
  rw [hk]
  simp only [letF, if_neg (show ¬ n = 0 by omega)]
  rw [letF_eq hb k _ hd.1 (by omega)]
theorem mod_in {n b : Int} (hb : 2 ≤ b) : 0 ≤ n % b ∧ n % b < b := ⟨Int.emod_nonneg _ (by omega), Int.emod_lt_of_pos _ (by omega)⟩
theorem letT_in {m : Mor} (h : MOK m) : ∀ (f : Nat) (n : Int), n.toNat ≤ f → 0 ≤ n → 0 ≤ letT m n ∧ letT m n < m.2.1.length
  | 0, n, hf, h0 => by
    have : n = 0 := by omega
    subst this; rw [letT_zero]; have := h.size; unfold MSize at this; omega
  | f + 1, n, hf, h0 => by
    by_cases hn : n = 0
    · subst hn; rw [letT_zero]; have := h.size; unfold MSize at this; omega
    · have hb := h.base.1
      have hd := div_lt (n := n) (b := m.1) (by omega) hb
      rw [letT_step hb (by omega)]
      have hi := letT_in h f (n / m.1) (by omega) hd.1
      exact (h.tab _ hi.1 hi.2).1 _ (mod_in hb).1 (mod_in hb).2
theorem pow_le {a : Nat} {n : Int} (h : 2 ^ a ≤ n) (hn : n ≤ 9223372036854775807) : a ≤ 62 := by
  refine Nat.le_of_not_lt fun h2 => ?_
  have h3 : (2 : Nat) ^ 63 ≤ 2 ^ a := Nat.pow_le_pow_right (by omega) h2
  have h4 : ((2 ^ a : Nat) : Int) = 2 ^ a := by simp
  omega
theorem pow_half {a : Nat} {n k b : Int} (hk : 0 < k) (hb : 2 ≤ b) (h : 2 ^ a * k ≤ n) : 2 ^ (a + 1) * (k / b) ≤ n := by
  have h1 : b * (k / b) ≤ k := Int.mul_ediv_self_le (by omega)
  have h0 : 0 ≤ k / b := (div_lt hk hb).1
  have h2 : 2 * (k / b) ≤ b * (k / b) := Int.mul_le_mul_of_nonneg_right hb h0
  have h3 : (2 : Int) ^ a * (2 * (k / b)) ≤ 2 ^ a * k := Int.mul_le_mul_of_nonneg_left (by omega) (Int.le_of_lt (Int.pow_pos (by omega)))
  rw [Int.pow_succ, Int.mul_assoc]; omega
theorem pow_one_le {a : Nat} {n k : Int} (hk : 0 < k) (h : 2 ^ a * k ≤ n) : 2 ^ a ≤ n := by
  have : (2 : Int) ^ a * 1 ≤ 2 ^ a * k := Int.mul_le_mul_of_nonneg_left (by omega) (Int.le_of_lt (Int.pow_pos (by omega)))
  omega
def digs (m : Mor) (p : List Int) (a : Int) : Int := p.foldr (fun d a => ix (ix m.2.1 a) d) a
theorem digs_add {m : Mor} {p : List Int} {d a : Int} : digs m (p ++ [d]) a = digs m p (ix (ix m.2.1 a) d) := by simp [digs]

theorem IndexFunc_L2_spec {s : List (List Int)} {c : Mor} (hs : s.length ≤ 1000000) : ∀ (n : Nat) (i : Int), (s.length - i).toNat = n → 0 ≤ i → i ≤ s.length → (∀ j : Int, 0 ≤ j → j < i → decide (¬ ((ix s j).length : Int) = c.1) = false) → slices_IndexFunc_L2 s c i = some (findI (fun w => decide (¬ (w.length : Int) = c.1)) s) := by
  intro n
  induction n with
  | zero =>
    intro i hn h0 h1 h
    rw [slices_IndexFunc_L2_eq]; unfold slices_IndexFunc_L2_B
    (try dsimp only); (repeat' first | (with_reducible refine G_to ?_ ?_; focus (first | omega | (unfold fits; omega) | (unfold room; (try simp only [List.length_append, List.length_cons, List.length_nil]); omega))) | (with_reducible refine both_to ?_ ?_) | (with_reducible refine itet_to ?_) | (with_reducible refine itef_to ?_) | (with_reducible refine ite_to (fun _ => ?_) (fun _ => ?_))) <;> try (exfalso; omega)
    rw [findI_none (fun j a b => h j a (by omega))]
  | succ n ih =>
    intro i hn h0 h1 h
    rw [slices_IndexFunc_L2_eq]; unfold slices_IndexFunc_L2_B
    (try dsimp only); (repeat' first | (with_reducible refine G_to ?_ ?_; focus (first | omega | (unfold fits; omega) | (unfold room; (try simp only [List.length_append, List.length_cons, List.length_nil]); omega))) | (with_reducible refine both_to ?_ ?_) | (with_reducible refine itet_to ?_) | (with_reducible refine itef_to ?_) | (with_reducible refine ite_to (fun _ => ?_) (fun _ => ?_))) <;> try (exfalso; omega)
    refine bind_to (y := decide (¬ ((ix s i).length : Int) = c.1)) rfl ?_
    (try dsimp only); (repeat' first | (with_reducible refine G_to ?_ ?_; focus (first | omega | (unfold fits; omega) | (unfold room; (try simp only [List.length_append, List.length_cons, List.length_nil]); omega))) | (with_reducible refine both_to ?_ ?_) | (with_reducible refine itet_to ?_) | (with_reducible refine itef_to ?_) | (with_reducible refine ite_to (fun _ => ?_) (fun _ => ?_))) <;> try (exfalso; omega)
    · rename_i hh; exact congrArg some (findI_hit (l := s) h0 (by omega) h (decide_eq_true hh)).symm
    · rename_i hh; exact ih (i + 1) (by omega) (by omega) (by omega) (below_succ h (decide_eq_false hh))
theorem ContainsFunc_spec {s : List (List Int)} {c : Mor} (hs : s.length ≤ 1000000) : slices_ContainsFunc s c = some (s.any (fun w => decide (¬ (w.length : Int) = c.1))) := by
  unfold slices_ContainsFunc
  refine bind_to (IndexFunc_L2_spec hs _ 0 rfl (by omega) (by omega) (fun j a b => by omega)) ?_
  rw [← findI_any]
theorem Check_2_spec {b t : Int} : seqs_Check_2 b t = some (decide (b < 0 ∨ t ≤ b)) := by
  unfold seqs_Check_2
  (try dsimp only); (repeat' first | (with_reducible refine G_to ?_ ?_; focus (first | omega | (unfold fits; omega) | (unfold room; (try simp only [List.length_append, List.length_cons, List.length_nil]); omega))) | (with_reducible refine both_to ?_ ?_) | (with_reducible refine itet_to ?_) | (with_reducible refine itef_to ?_) | (with_reducible refine ite_to (fun _ => ?_) (fun _ => ?_))) <;> try (exfalso; omega)
  · rw [Option.some_inj, eq_comm, decide_eq_true_iff]; exact .inl (by assumption)
  · rw [Option.some_inj]; congr 1; rw [eq_iff_iff]; omega
theorem IndexFunc_1_L2_spec {s : List Int} {c : Int} (hs : s.length ≤ 1000000) : ∀ (n : Nat) (i : Int), (s.length - i).toNat = n → 0 ≤ i → i ≤ s.length → (∀ j : Int, 0 ≤ j → j < i → decide (ix s j < 0 ∨ c ≤ ix s j) = false) → slices_IndexFunc_1_L2 s c i = some (findI (fun b => decide (b < 0 ∨ c ≤ b)) s) := by
  intro n
  induction n with
  | zero =>
    intro i hn h0 h1 h
    rw [slices_IndexFunc_1_L2_eq]; unfold slices_IndexFunc_1_L2_B
    (try dsimp only); (repeat' first | (with_reducible refine G_to ?_ ?_; focus (first | omega | (unfold fits; omega) | (unfold room; (try simp only [List.length_append, List.length_cons, List.length_nil]); omega))) | (with_reducible refine both_to ?_ ?_) | (with_reducible refine itet_to ?_) | (with_reducible refine itef_to ?_) | (with_reducible refine ite_to (fun _ => ?_) (fun _ => ?_))) <;> try (exfalso; omega)
    rw [findI_none (fun j a b => h j a (by omega))]
  | succ n ih =>
    intro i hn h0 h1 h
    rw [slices_IndexFunc_1_L2_eq]; unfold slices_IndexFunc_1_L2_B
    (try dsimp only); (repeat' first | (with_reducible refine G_to ?_ ?_; focus (first | omega | (unfold fits; omega) | (unfold room; (try simp only [List.length_append, List.length_cons, List.length_nil]); omega))) | (with_reducible refine both_to ?_ ?_) | (with_reducible refine itet_to ?_) | (with_reducible refine itef_to ?_) | (with_reducible refine ite_to (fun _ => ?_) (fun _ => ?_))) <;> try (exfalso; omega)
    refine bind_to Check_2_spec ?_
    (try dsimp only); (repeat' first | (with_reducible refine G_to ?_ ?_; focus (first | omega | (unfold fits; omega) | (unfold room; (try simp only [List.length_append, List.length_cons, List.length_nil]); omega))) | (with_reducible refine both_to ?_ ?_) | (with_reducible refine itet_to ?_) | (with_reducible refine itef_to ?_) | (with_reducible refine ite_to (fun _ => ?_) (fun _ => ?_))) <;> try (exfalso; omega)
    · rename_i hh; exact congrArg some (findI_hit (l := s) h0 (by omega) h (decide_eq_true hh)).symm
    · rename_i hh; exact ih (i + 1) (by omega) (by omega) (by omega) (below_succ h (decide_eq_false hh))
theorem ContainsFunc_1_spec {s : List Int} {c : Int} (hs : s.length ≤ 1000000) : slices_ContainsFunc_1 s c = some (s.any (fun b => decide (b < 0 ∨ c ≤ b))) := by
  unfold slices_ContainsFunc_1
  refine bind_to (IndexFunc_1_L2_spec hs _ 0 rfl (by omega) (by omega) (fun j a b => by omega)) ?_
  rw [← findI_any]
theorem Check_L9_spec {m : Mor} (g1 : MBase m) (g2 : MSize m) (g3 : MShape m) : ∀ (n : Nat) (a : Int), (m.2.1.length - a).toNat = n → 0 ≤ a → a ≤ m.2.1.length → (∀ j : Int, 0 ≤ j → j < a → MRow m j) → seqs_Check_L9 m a = some (morE m) := by
  have e1 := g1.1
  have e2 := g2.1
  have e3 := g2.2
  have e4 := g1.2
  have e5 := g3.1
  intro n
  induction n with
  | zero =>
    intro a hn h0 h1 h
    have ht : MTab m := fun j c d => h j c (by omega)
    have e6 : ((ix m.2.1 0).length : Int) = m.1 := g3.2 _ (ix_mem (by omega) (by omega))
    rw [seqs_Check_L9_eq]; unfold seqs_Check_L9_B
    (try dsimp only); (repeat' first | (with_reducible refine G_to ?_ ?_; focus (first | omega | (unfold fits; omega) | (unfold room; (try simp only [List.length_append, List.length_cons, List.length_nil]); omega))) | (with_reducible refine both_to ?_ ?_) | (with_reducible refine itet_to ?_) | (with_reducible refine itef_to ?_) | (with_reducible refine ite_to (fun _ => ?_) (fun _ => ?_))) <;> try (exfalso; omega)
    · rw [mor_zero g1 g2 g3 ht (by assumption)]
    · rw [mor_ok g1 g2 g3 ht (by unfold MZero; omega)]
  | succ n ih =>
    intro a hn h0 h1 h
    have e6 : ((ix m.2.1 a).length : Int) = m.1 := g3.2 _ (ix_mem (by omega) (by omega))
    rw [seqs_Check_L9_eq]; unfold seqs_Check_L9_B
    (try dsimp only); (repeat' first | (with_reducible refine G_to ?_ ?_; focus (first | omega | (unfold fits; omega) | (unfold room; (try simp only [List.length_append, List.length_cons, List.length_nil]); omega))) | (with_reducible refine both_to ?_ ?_) | (with_reducible refine itet_to ?_) | (with_reducible refine itef_to ?_) | (with_reducible refine ite_to (fun _ => ?_) (fun _ => ?_))) <;> try (exfalso; omega)
    refine bind_to (ContainsFunc_1_spec (by omega)) ?_
    refine iteb_to (fun hx => ?_) (fun hx => ?_)
    · rw [List.any_eq_true] at hx
      obtain ⟨b, hb, hb2⟩ := hx
      rw [decide_eq_true_iff] at hb2
      rw [mor_tab g1 g2 g3 (fun ht => by
        obtain ⟨k, k0, k1, rfl⟩ := mem_ix hb
        have := (ht a h0 (by omega)).1 k k0 (by omega)
        omega)]
    rw [List.any_eq_false] at hx
    (try dsimp only); (repeat' first | (with_reducible refine G_to ?_ ?_; focus (first | omega | (unfold fits; omega) | (unfold room; (try simp only [List.length_append, List.length_cons, List.length_nil]); omega))) | (with_reducible refine both_to ?_ ?_) | (with_reducible refine itet_to ?_) | (with_reducible refine itef_to ?_) | (with_reducible refine ite_to (fun _ => ?_) (fun _ => ?_))) <;> try (exfalso; omega)
    · rw [mor_tab g1 g2 g3 (fun ht => by have := (ht a h0 (by omega)).2; omega)]
    · rw [mor_tab g1 g2 g3 (fun ht => by have := (ht a h0 (by omega)).2; omega)]
    · refine ih (a + 1) (by omega) (by omega) (by omega) (below_succ h ⟨fun k k0 k1 => ?_, by omega, by omega⟩)
      have := hx _ (ix_mem k0 (by omega : k < (ix m.2.1 a).length))
      rw [decide_eq_true_iff] at this
      omega
theorem Check_spec {m : Mor} : seqs_Check m = some (morE m) := by
  unfold seqs_Check
  (try dsimp only); (repeat' first | (with_reducible refine G_to ?_ ?_; focus (first | omega | (unfold fits; omega) | (unfold room; (try simp only [List.length_append, List.length_cons, List.length_nil]); omega))) | (with_reducible refine both_to ?_ ?_) | (with_reducible refine itet_to ?_) | (with_reducible refine itef_to ?_) | (with_reducible refine ite_to (fun _ => ?_) (fun _ => ?_))) <;> try (exfalso; omega)
  · rw [mor_base (by unfold MBase; omega)]
  · rw [mor_base (by unfold MBase; omega)]
  · rw [mor_size (by unfold MBase; omega) (by unfold MSize; omega)]
  · rw [mor_size (by unfold MBase; omega) (by unfold MSize; omega)]
  · rw [mor_shape (by unfold MBase; omega) (by unfold MSize; omega) (fun h => by have := h.1; omega)]
  refine bind_to (ContainsFunc_spec (by omega)) ?_
  refine iteb_to (fun hx => ?_) (fun hx => ?_)
  · rw [List.any_eq_true] at hx
    obtain ⟨b, hb, hb2⟩ := hx
    rw [decide_eq_true_iff] at hb2
    exact congrArg some (mor_shape (m := m) (by unfold MBase; omega) (by unfold MSize; omega) (fun h => hb2 (h.2 b hb))).symm
  rw [List.any_eq_false] at hx
  exact Check_L9_spec (by unfold MBase; omega) (by unfold MSize; omega) ⟨by omega, fun w hw => by have := hx w hw; simpa using this⟩ _ 0 rfl (by omega) (by omega) (fun j a b => by omega)
theorem r23_Check_L17_spec {m : Mor} {r14 : Int → Option Int} (g1 : MBase m) (g2 : MSize m) (g3 : MShape m) {a : Int} (h0 : 0 ≤ a) (h1 : a < m.2.1.length) : ∀ (n : Nat) (k : Int), (m.1 - k).toNat = n → 0 ≤ k → k ≤ m.1 → (∀ j : Int, 0 ≤ j → j < k → 0 ≤ ix (ix m.2.1 a) j ∧ ix (ix m.2.1 a) j < m.2.1.length) →
    (¬ MRow m a ∧ r23_Check_L17 m a r14 k = some 2) ∨ (MRow m a ∧ r23_Check_L17 m a r14 k = r14 (a + 1)) := by
  have e1 := g1.1
  have e2 := g2.1
  have e3 := g2.2
  have e4 := g1.2
  have e5 := g3.1
  have e6 : ((ix m.2.1 a).length : Int) = m.1 := g3.2 _ (ix_mem (by omega) (by omega))
  intro n
  induction n with
  | zero =>
    intro k hn k0 k1 h
    by_cases hc : 0 ≤ ix m.2.2.1 a ∧ ix m.2.2.1 a ≤ 9
    · refine .inr ⟨⟨fun j x y => h j x (by omega), hc⟩, ?_⟩
      rw [r23_Check_L17_eq]; unfold r23_Check_L17_B
      (try dsimp only); (repeat' first | (with_reducible refine G_to ?_ ?_; focus (first | omega | (unfold fits; omega) | (unfold room; (try simp only [List.length_append, List.length_cons, List.length_nil]); omega))) | (with_reducible refine both_to ?_ ?_) | (with_reducible refine itet_to ?_) | (with_reducible refine itef_to ?_) | (with_reducible refine ite_to (fun _ => ?_) (fun _ => ?_))) <;> try (exfalso; omega)
      rfl
    · refine .inl ⟨fun hr => hc hr.2, ?_⟩
      rw [r23_Check_L17_eq]; unfold r23_Check_L17_B
      (try dsimp only); (repeat' first | (with_reducible refine G_to ?_ ?_; focus (first | omega | (unfold fits; omega) | (unfold room; (try simp only [List.length_append, List.length_cons, List.length_nil]); omega))) | (with_reducible refine both_to ?_ ?_) | (with_reducible refine itet_to ?_) | (with_reducible refine itef_to ?_) | (with_reducible refine ite_to (fun _ => ?_) (fun _ => ?_))) <;> try (exfalso; omega)
      all_goals rfl
  | succ n ih =>
    intro k hn k0 k1 h
    by_cases hc : 0 ≤ ix (ix m.2.1 a) k ∧ ix (ix m.2.1 a) k < m.2.1.length
    · have := ih (k + 1) (by omega) (by omega) (by omega) (below_succ h hc)
      have e : r23_Check_L17 m a r14 k = r23_Check_L17 m a r14 (k + 1) := by
        rw [r23_Check_L17_eq]; unfold r23_Check_L17_B
        (try dsimp only); (repeat' first | (with_reducible refine G_to ?_ ?_; focus (first | omega | (unfold fits; omega) | (unfold room; (try simp only [List.length_append, List.length_cons, List.length_nil]); omega))) | (with_reducible refine both_to ?_ ?_) | (with_reducible refine itet_to ?_) | (with_reducible refine itef_to ?_) | (with_reducible refine ite_to (fun _ => ?_) (fun _ => ?_))) <;> try (exfalso; omega)
        rfl
      rw [e]; exact this
    · refine .inl ⟨fun hr => hc (hr.1 k k0 (by omega)), ?_⟩
      rw [r23_Check_L17_eq]; unfold r23_Check_L17_B
      (try dsimp only); (repeat' first | (with_reducible refine G_to ?_ ?_; focus (first | omega | (unfold fits; omega) | (unfold room; (try simp only [List.length_append, List.length_cons, List.length_nil]); omega))) | (with_reducible refine both_to ?_ ?_) | (with_reducible refine itet_to ?_) | (with_reducible refine itef_to ?_) | (with_reducible refine ite_to (fun _ => ?_) (fun _ => ?_))) <;> try (exfalso; omega)
      all_goals rfl
theorem r23_Check_L14_spec {m : Mor} (g1 : MBase m) (g2 : MSize m) (g3 : MShape m) : ∀ (n : Nat) (a : Int), (m.2.1.length - a).toNat = n → 0 ≤ a → a ≤ m.2.1.length → (∀ j : Int, 0 ≤ j → j < a → MRow m j) → r23_Check_L14 m a = some (morE m) := by
  have e1 := g1.1
  have e2 := g2.1
  have e3 := g2.2
  have e4 := g1.2
  have e5 := g3.1
  intro n
  induction n with
  | zero =>
    intro a hn h0 h1 h
    have ht : MTab m := fun j c d => h j c (by omega)
    have e6 : ((ix m.2.1 0).length : Int) = m.1 := g3.2 _ (ix_mem (by omega) (by omega))
    rw [r23_Check_L14_eq]; unfold r23_Check_L14_B
    (try dsimp only); (repeat' first | (with_reducible refine G_to ?_ ?_; focus (first | omega | (unfold fits; omega) | (unfold room; (try simp only [List.length_append, List.length_cons, List.length_nil]); omega))) | (with_reducible refine both_to ?_ ?_) | (with_reducible refine itet_to ?_) | (with_reducible refine itef_to ?_) | (with_reducible refine ite_to (fun _ => ?_) (fun _ => ?_))) <;> try (exfalso; omega)
    · rw [mor_zero g1 g2 g3 ht (by assumption)]
    · rw [mor_ok g1 g2 g3 ht (by unfold MZero; omega)]
  | succ n ih =>
    intro a hn h0 h1 h
    rw [r23_Check_L14_eq]; unfold r23_Check_L14_B
    (try dsimp only); (repeat' first | (with_reducible refine G_to ?_ ?_; focus (first | omega | (unfold fits; omega) | (unfold room; (try simp only [List.length_append, List.length_cons, List.length_nil]); omega))) | (with_reducible refine both_to ?_ ?_) | (with_reducible refine itet_to ?_) | (with_reducible refine itef_to ?_) | (with_reducible refine ite_to (fun _ => ?_) (fun _ => ?_))) <;> try (exfalso; omega)
    rcases r23_Check_L17_spec (r14 := r23_Check_L14 m) g1 g2 g3 h0 (by omega) _ 0 rfl (by omega) (by omega) (fun j x y => by omega) with ⟨h2, h3⟩ | ⟨h2, h3⟩
    · rw [h3, mor_tab g1 g2 g3 (fun ht => h2 (ht a h0 (by omega)))]
    · rw [h3]; exact ih (a + 1) (by omega) (by omega) (by omega) (below_succ h h2)
theorem r23_Check_L9_spec {m : Mor} (g1 : MBase m) (g2 : MSize m) (g3 : (m.2.2.1.length : Int) = m.2.1.length) : ∀ (n : Nat) (a : Int), (m.2.1.length - a).toNat = n → 0 ≤ a → a ≤ m.2.1.length → (∀ j : Int, 0 ≤ j → j < a → ((ix m.2.1 j).length : Int) = m.1) → r23_Check_L9 m a = some (morE m) := by
  have e1 := g1.1
  have e2 := g2.1
  have e3 := g2.2
  have e4 := g1.2
  intro n
  induction n with
  | zero =>
    intro a hn h0 h1 h
    rw [r23_Check_L9_eq]; unfold r23_Check_L9_B
    (try dsimp only); (repeat' first | (with_reducible refine G_to ?_ ?_; focus (first | omega | (unfold fits; omega) | (unfold room; (try simp only [List.length_append, List.length_cons, List.length_nil]); omega))) | (with_reducible refine both_to ?_ ?_) | (with_reducible refine itet_to ?_) | (with_reducible refine itef_to ?_) | (with_reducible refine ite_to (fun _ => ?_) (fun _ => ?_))) <;> try (exfalso; omega)
    exact r23_Check_L14_spec g1 g2 ⟨g3, forall_ix.2 fun j c d => h j c (by omega)⟩ _ 0 rfl (by omega) (by omega) (fun j x y => by omega)
  | succ n ih =>
    intro a hn h0 h1 h
    rw [r23_Check_L9_eq]; unfold r23_Check_L9_B
    (try dsimp only); (repeat' first | (with_reducible refine G_to ?_ ?_; focus (first | omega | (unfold fits; omega) | (unfold room; (try simp only [List.length_append, List.length_cons, List.length_nil]); omega))) | (with_reducible refine both_to ?_ ?_) | (with_reducible refine itet_to ?_) | (with_reducible refine itef_to ?_) | (with_reducible refine ite_to (fun _ => ?_) (fun _ => ?_))) <;> try (exfalso; omega)
    · rw [mor_shape g1 g2 (fun hs => by have := hs.2 _ (ix_mem (l := m.2.1) (i := a) (by omega) (by omega)); omega)]
    · exact ih (a + 1) (by omega) (by omega) (by omega) (below_succ h (by omega))
theorem r23_Check_spec {m : Mor} : r23_Check m = some (morE m) := by
  unfold r23_Check
  (try dsimp only); (repeat' first | (with_reducible refine G_to ?_ ?_; focus (first | omega | (unfold fits; omega) | (unfold room; (try simp only [List.length_append, List.length_cons, List.length_nil]); omega))) | (with_reducible refine both_to ?_ ?_) | (with_reducible refine itet_to ?_) | (with_reducible refine itef_to ?_) | (with_reducible refine ite_to (fun _ => ?_) (fun _ => ?_))) <;> try (exfalso; omega)
  · rw [mor_base (by unfold MBase; omega)]
  · rw [mor_base (by unfold MBase; omega)]
  · rw [mor_size (by unfold MBase; omega) (by unfold MSize; omega)]
  · rw [mor_size (by unfold MBase; omega) (by unfold MSize; omega)]
  · rw [mor_shape (by unfold MBase; omega) (by unfold MSize; omega) (fun h => by have := h.1; omega)]
  exact r23_Check_L9_spec (by unfold MBase; omega) (by unfold MSize; omega) (by omega) _ 0 rfl (by omega) (by omega) (fun j x y => by omega)

/-- The answer is yes just if P. -/
def Tells (o : Option Bool) (P : Prop) : Prop := ∃ b, o = some b ∧ (b = true ↔ P)
theorem Tells.of {b : Bool} {P : Prop} (h : b = true ↔ P) : Tells (some b) P := ⟨b, rfl, h⟩
theorem Tells.dec {P Q : Prop} [Decidable P] (h : P ↔ Q) : Tells (some (decide P)) Q := ⟨_, rfl, by simpa using h⟩
theorem Tells.iff {o : Option Bool} {P Q : Prop} (h : Tells o P) (k : P ↔ Q) : Tells o Q := let ⟨b, h1, h2⟩ := h; ⟨b, h1, h2.trans k⟩
theorem Tells.eq {o : Option Bool} {P : Prop} [Decidable P] (h : Tells o P) : o = some (decide P) := by
  obtain ⟨b, rfl, hb⟩ := h
  by_cases hp : P
  · simp [hp, hb.2 hp]
  · have : b = false := by cases b; rfl; exact absurd (hb.1 rfl) hp
    simp [hp, this]
theorem Tells.to {R : Type} {o : Option Bool} {P : Prop} {k1 k2 x : Option R} (h : Tells o P) (h1 : P → k1 = x) (h2 : ¬ P → k2 = x) : (o.bind fun y => if y = true then k1 else k2) = x := by
  obtain ⟨b, rfl, hb⟩ := h
  refine bind_to rfl ?_
  cases b
  · exact h2 fun hp => by simpa using hb.2 hp
  · exact h1 (hb.1 rfl)
theorem Tells.bind {R : Type} {o : Option Bool} {P : Prop} {k : Bool → Option R} {x : Option R} (h : Tells o P) (h1 : ∀ b, (b = true ↔ P) → k b = x) : o.bind k = x := by
  obtain ⟨b, rfl, hb⟩ := h
  exact h1 b hb
section
variable {α C : Type} [Inhabited α]
theorem ex_ix {l : List α} {P : α → Prop} : (∃ x ∈ l, P x) ↔ ∃ i : Int, 0 ≤ i ∧ i < l.length ∧ P (ix l i) := by
  constructor
  · rintro ⟨x, hx, hp⟩
    obtain ⟨i, hi, rfl⟩ := List.mem_iff_getElem.1 hx
    refine ⟨i, by omega, by omega, ?_⟩
    rwa [ix_eq (by omega) (by omega)]
  · rintro ⟨i, h0, h1, hp⟩
    exact ⟨_, ix_mem h0 h1, hp⟩
theorem index_loop {s : List α} {f : α → Option Bool} {L : Int → Option Int} {P : α → Prop} (hs : s.length ≤ 4611686018427387904)
    (hL : ∀ t, L t = if decide (t < (s.length : Int)) = true then G (0 ≤ t ∧ t < (s.length : Int)) ((f (ix s t)).bind fun y => if y = true then some t else G (fits (t + 1)) (L (t + 1))) else some (-1))
    (hf : ∀ x ∈ s, Tells (f x) (P x)) : ∀ (n : Nat) (t : Int), 0 ≤ t → t ≤ s.length → (s.length - t).toNat = n →
      ∃ i, L t = some i ∧ ((i = -1 ∧ ∀ j : Int, t ≤ j → j < s.length → ¬ P (ix s j)) ∨ (t ≤ i ∧ i < s.length ∧ P (ix s i) ∧ ∀ j : Int, t ≤ j → j < i → ¬ P (ix s j))) := by
  intro n
  induction n with
  | zero =>
    intro t h0 h1 hn
    refine ⟨-1, ?_, .inl ⟨rfl, fun j a b => by omega⟩⟩
    rw [hL, if_neg (by simp; omega)]
  | succ n ih =>
    intro t h0 h1 hn
    rw [hL, if_pos (by simp; omega), G_pos (by omega)]
    obtain ⟨b, hb, hbp⟩ := hf _ (ix_mem h0 (by omega : t < s.length))
    rw [hb]
    cases b with
    | true => exact ⟨t, rfl, .inr ⟨by omega, by omega, hbp.1 rfl, fun j a b => by omega⟩⟩
    | false =>
      have hnp : ¬ P (ix s t) := fun hp => by simpa using hbp.2 hp
      obtain ⟨i, hi, hc⟩ := ih (t + 1) (by omega) (by omega) (by omega)
      refine ⟨i, ?_, ?_⟩
      · refine (if_neg (by simp) : (if false = true then some t else G (fits (t + 1)) (L (t + 1))) = _).trans ?_
        rw [G_pos (by unfold fits; omega), hi]
      · rcases hc with ⟨h2, h3⟩ | ⟨h2, h3, h4, h5⟩
        · refine .inl ⟨h2, fun j a b => ?_⟩
          by_cases e : j = t
          · rw [e]; exact hnp
          · exact h3 j (by omega) b
        · refine .inr ⟨by omega, h3, h4, fun j a b => ?_⟩
          by_cases e : j = t
          · rw [e]; exact hnp
          · exact h5 j (by omega) b
theorem contains_tells {s : List α} {f : α → Option Bool} {L : Int → Option Int} {P : α → Prop}
    (hL : ∀ t, L t = if decide (t < (s.length : Int)) = true then G (0 ≤ t ∧ t < (s.length : Int)) ((f (ix s t)).bind fun y => if y = true then some t else G (fits (t + 1)) (L (t + 1))) else some (-1))
    (hs : s.length ≤ 4611686018427387904) (hf : ∀ x ∈ s, Tells (f x) (P x)) : Tells ((L 0).bind fun y => some (decide ((0 : Int) ≤ y))) (∃ x ∈ s, P x) := by
  obtain ⟨i, hi, hc⟩ := index_loop hs hL hf _ 0 (by omega) (by omega) rfl
  rw [hi]
  refine ⟨decide (0 ≤ i), rfl, ?_⟩
  rw [decide_eq_true_iff, ex_ix]
  rcases hc with ⟨h2, h3⟩ | ⟨h2, h3, h4, h5⟩
  · constructor
    · intro h; omega
    · rintro ⟨j, h0, h1, hp⟩; exact absurd hp (h3 j h0 h1)
  · exact ⟨fun _ => ⟨i, by omega, h3, h4⟩, fun _ => by omega⟩
/-- .. of what carries along what it reads. -/
theorem contains_tells2 {s : List α} {c : C} {f : α → C → Option (Bool × C)} {L : Int → C → Option (Int × C)} {P : α → Prop}
    (hL : ∀ t c, L t c = if decide (t < (s.length : Int)) = true then G (0 ≤ t ∧ t < (s.length : Int)) ((f (ix s t) c).bind fun y => if y.1 = true then some (t, y.2) else G (fits (t + 1)) (L (t + 1) y.2)) else some (-1, c))
    (hs : s.length ≤ 4611686018427387904) (hf : ∀ x ∈ s, ∃ b, f x c = some (b, c) ∧ (b = true ↔ P x)) : ∃ b, ((L 0 c).bind fun y => some (decide ((0 : Int) ≤ y.1), y.2)) = some (b, c) ∧ (b = true ↔ ∃ x ∈ s, P x) := by
  have key : ∀ (n : Nat) (t : Int), 0 ≤ t → t ≤ s.length → (s.length - t).toNat = n →
      ∃ i, L t c = some (i, c) ∧ ((i = -1 ∧ ∀ j : Int, t ≤ j → j < s.length → ¬ P (ix s j)) ∨ (t ≤ i ∧ i < s.length ∧ P (ix s i))) := by
    intro n
    induction n with
    | zero =>
      intro t h0 h1 hn
      refine ⟨-1, ?_, .inl ⟨rfl, fun j a b => by omega⟩⟩
      rw [hL, if_neg (by simp; omega)]
    | succ n ih =>
      intro t h0 h1 hn
      rw [hL, if_pos (by simp; omega), G_pos (by omega)]
      obtain ⟨b, hb, hbp⟩ := hf _ (ix_mem h0 (by omega : t < s.length))
      rw [hb]
      cases b with
      | true => exact ⟨t, rfl, .inr ⟨by omega, by omega, hbp.1 rfl⟩⟩
      | false =>
        have hnp : ¬ P (ix s t) := fun hp => by simpa using hbp.2 hp
        obtain ⟨i, hi, hc⟩ := ih (t + 1) (by omega) (by omega) (by omega)
        refine ⟨i, ?_, ?_⟩
        · refine (if_neg (by simp) : (if false = true then some (t, c) else G (fits (t + 1)) (L (t + 1) c)) = _).trans ?_
          rw [G_pos (by unfold fits; omega), hi]
        · rcases hc with ⟨h2, h3⟩ | ⟨h2, h3, h4⟩
          · refine .inl ⟨h2, fun j a b => ?_⟩
            by_cases e : j = t
            · rw [e]; exact hnp
            · exact h3 j (by omega) b
          · exact .inr ⟨by omega, h3, h4⟩
  obtain ⟨i, hi, hc⟩ := key _ 0 (by omega) (by omega) rfl
  rw [hi]
  refine ⟨decide (0 ≤ i), rfl, ?_⟩
  rw [decide_eq_true_iff, ex_ix]
  rcases hc with ⟨h2, h3⟩ | ⟨h2, h3, h4⟩
  · constructor
    · intro h; omega
    · rintro ⟨j, h0, h1, hp⟩; exact absurd hp (h3 j h0 h1)
  · exact ⟨fun _ => ⟨i, by omega, h3, h4⟩, fun _ => by omega⟩
end
/-- A loop that looks for the first fault. -/
theorem scan_to {R : Type} {len : Int} {L : Int → Option R} {bad : Int → Prop} {x : Option R} {lo : Int} (h0 : lo ≤ len)
    (hs : ∀ t, lo ≤ t → t < len → (bad t → L t = x) ∧ (¬ bad t → L t = L (t + 1))) (hf : (∀ t, lo ≤ t → t < len → ¬ bad t) → L len = x) : L lo = x := by
  have key : ∀ (n : Nat) (t : Int), lo ≤ t → t ≤ len → (len - t).toNat = n → (∀ j, lo ≤ j → j < t → ¬ bad j) → L t = x := by
    intro n
    induction n with
    | zero =>
      intro t h1 h2 hn h
      obtain rfl : t = len := by omega
      exact hf h
    | succ n ih =>
      intro t h1 h2 hn h
      by_cases hb : bad t
      · exact (hs t h1 (by omega)).1 hb
      · rw [(hs t h1 (by omega)).2 hb]
        refine ih (t + 1) (by omega) (by omega) (by omega) fun j a b => ?_
        by_cases e : j = t
        · rw [e]; exact hb
        · exact h j a (by omega)
  exact key _ lo (Int.le_refl _) h0 rfl (fun j a b => by omega)
/-- A loop that counts, with a state. -/
theorem fold_to {R S : Type} {len : Int} {L : Int → S → Option R} {f : Int → S → S} {lo : Int} {I : Int → S → Prop} {s : S} (h0 : lo ≤ len) (hI : I lo s)
    (hs : ∀ t s, lo ≤ t → t < len → I t s → L t s = L (t + 1) (f t s) ∧ I (t + 1) (f t s)) : ∃ s', I len s' ∧ L lo s = L len s' := by
  have key : ∀ (n : Nat) (t : Int) (s : S), lo ≤ t → t ≤ len → (len - t).toNat = n → I t s → ∃ s', I len s' ∧ L t s = L len s' := by
    intro n
    induction n with
    | zero =>
      intro t s h1 h2 hn h
      obtain rfl : t = len := by omega
      exact ⟨s, h, rfl⟩
    | succ n ih =>
      intro t s h1 h2 hn h
      obtain ⟨e, h3⟩ := hs t s h1 (by omega) h
      obtain ⟨s', h4, h5⟩ := ih (t + 1) _ (by omega) (by omega) (by omega) h3
      exact ⟨s', h4, e.trans h5⟩
  exact key _ lo s (Int.le_refl _) h0 rfl hI

theorem mfind_none {α : Type} : ∀ {ks : List α} {x : α}, mfind ks x = none ↔ x ∉ ks
  | [], x => by simp [mfind]
  | y :: ys, x => by
    unfold mfind
    by_cases h : y = x
    · rw [if_pos h]; simp [h]
    · rw [if_neg h, Option.map_eq_none_iff, mfind_none]
      simp [Ne.symm h]
/-- A map that only marks: all its elements are one. -/
abbrev ones {α : Type} (ks : List α) : List Int := List.replicate ks.length 1
theorem mget_ones {α : Type} {ks : List α} {x : α} : (mget ks (ones ks) x 0 = 0) ↔ x ∉ ks := by
  unfold mget
  cases h : mfind ks x with
  | none => simp [mfind_none.1 h]
  | some j =>
    have hx : x ∈ ks := by
      refine Classical.byContradiction fun hn => ?_
      rw [mfind_none.2 hn] at h; cases h
    have := mfind_lt h
    simp [hx, this]
theorem mputK_new {α : Type} {ks : List α} {x : α} (h : x ∉ ks) : mputK ks x = ks ++ [x] := by
  unfold mputK; rw [mfind_none.2 h]
theorem mputV_new {α : Type} {ks : List α} {x : α} (h : x ∉ ks) : mputV ks (ones ks) x 1 = ones (ks ++ [x]) := by
  unfold mputV; rw [mfind_none.2 h]
  show List.replicate ks.length 1 ++ [1] = List.replicate (ks ++ [x]).length 1
  rw [List.length_append, List.length_singleton, List.replicate_succ']

theorem pigeon {α : Type} [DecidableEq α] : ∀ {l U : List α}, l.Nodup → (∀ x ∈ l, x ∈ U) → l.length ≤ U.length
  | [], _, _, _ => Nat.zero_le _
  | a :: l, U, hn, hs => by
    have ha := hs a (by simp)
    obtain ⟨h1, h2⟩ := List.nodup_cons.1 hn
    have := pigeon (U := U.erase a) h2 (fun x hx => (List.mem_erase_of_ne (by rintro rfl; exact h1 hx)).2 (hs x (by simp [hx])))
    rw [List.length_erase_of_mem ha] at this
    have hp : 0 < U.length := List.length_pos_of_mem ha
    rw [List.length_cons]; omega
theorem pigeon_int {l : List Int} {n : Nat} (h : l.Nodup) (hb : ∀ x ∈ l, 0 ≤ x ∧ x < n) : l.length ≤ n := by
  have := pigeon (U := (List.range n).map Int.ofNat) h (fun x hx => by
    have := hb x hx
    exact List.mem_map.2 ⟨x.toNat, List.mem_range.2 (by omega), by show ((x.toNat : Nat) : Int) = x; omega⟩)
  simpa using this

/-- The bytes of a list of small numbers. -/
def keyL (l : List Int) : List Int := l.flatMap fun x => [IntKind.wrap .u8 x, IntKind.wrap .u8 (ishr .i64 x 8)]
def keyB (l : List Int) : List UInt8 := bstr (keyL l)
theorem wrap_u8 (x : Int) : IntKind.wrap .u8 x = x % 256 := by
  unfold IntKind.wrap
  simp [IntKind.bits, IntKind.signed]
theorem keyB_cons (x : Int) (l : List Int) : keyB (x :: l) = UInt8.ofNat (x % 256).toNat :: UInt8.ofNat (ishr .i64 x 8 % 256).toNat :: keyB l := by
  unfold keyB keyL bstr
  simp [wrap_u8]
theorem u8_inj {a b : Int} (h : UInt8.ofNat (a % 256).toNat = UInt8.ofNat (b % 256).toNat) : a % 256 = b % 256 := by
  have := congrArg UInt8.toNat h
  simp only [UInt8.toNat_ofNat'] at this
  omega
theorem keyB_inj : ∀ {l k : List Int}, (∀ x ∈ l, 0 ≤ x ∧ x < 65536) → (∀ x ∈ k, 0 ≤ x ∧ x < 65536) → keyB l = keyB k → l = k
  | [], [], _, _, _ => rfl
  | [], y :: k, _, _, h => by rw [keyB_cons] at h; cases h
  | x :: l, [], _, _, h => by rw [keyB_cons] at h; cases h
  | x :: l, y :: k, hl, hk, h => by
    rw [keyB_cons, keyB_cons] at h
    injection h with h1 h
    injection h with h2 h
    have hx := hl x (by simp)
    have hy := hk y (by simp)
    have e1 := u8_inj h1
    have e2 := u8_inj h2
    obtain ⟨a, rfl⟩ : ∃ a : Nat, x = a := ⟨x.toNat, by omega⟩
    obtain ⟨b, rfl⟩ : ∃ b : Nat, y = b := ⟨y.toNat, by omega⟩
    rw [show (8 : Int) = ((8 : Nat) : Int) from rfl, ishr_nat (by omega), ishr_nat (by omega), Nat.shiftRight_eq_div_pow, Nat.shiftRight_eq_div_pow] at e2
    have : a = b := by omega
    rw [this, keyB_inj (fun z hz => hl z (by simp [hz])) (fun z hz => hk z (by simp [hz])) h]
theorem keyL_len (l : List Int) : (keyL l).length = 2 * l.length := by
  induction l with
  | nil => rfl
  | cons x l ih => unfold keyL at *; rw [List.flatMap_cons, List.length_append, ih]; simp; omega
/-- A row of so many numbers. -/
def mkR (n : Nat) (g : Int → Int) : List Int := (List.range n).map fun a : Nat => g a
theorem mkR_len (n : Nat) (g : Int → Int) : (mkR n g).length = n := by simp [mkR]
theorem mkR_ix {n : Nat} {g : Int → Int} {a : Int} (h0 : 0 ≤ a) (h1 : a < n) : ix (mkR n g) a = g a := by
  rw [ix_eq h0 (by rw [mkR_len]; exact h1)]
  simp [mkR, Int.toNat_of_nonneg h0]
theorem mkR_of {n : Nat} {g : Int → Int} {l : List Int} (hl : l.length = n) (h : ∀ a : Int, 0 ≤ a → a < n → ix l a = g a) : l = mkR n g :=
  ix_ext (by rw [mkR_len, hl]) fun j j0 j1 => by rw [mkR_ix j0 (by omega), h j j0 (by omega)]

theorem slices_Contains_tells {s : List Int} {v : Int} (hs : s.length ≤ 4611686018427387904) : Tells (slices_Contains s v) (v ∈ s) :=
  Tells.iff (contains_tells (f := fun x => some (decide (v = x))) (P := fun x => v = x) (slices_Index_L2_eq s v) hs (fun x _ => Tells.dec Iff.rfl)) ⟨fun ⟨x, hx, e⟩ => e ▸ hx, fun h => ⟨v, h, rfl⟩⟩
theorem det_Key_spec {l : List Int} (hl : l.length ≤ 1000000) : det_Key l = some (keyB l) := by
  have key : ∀ (n : Nat) (t : Int), (l.length - t).toNat = n → 0 ≤ t → t ≤ l.length → det_Key_L3 l t (keyL (l.take t.toNat)) = some (keyB l) := by
    intro n
    induction n with
    | zero =>
      intro t hn h0 h1
      rw [det_Key_L3_eq]; unfold det_Key_L3_B
      rw [if_neg (by simp; omega), List.take_of_length_le (by omega)]; rfl
    | succ n ih =>
      intro t hn h0 h1
      rw [det_Key_L3_eq]; unfold det_Key_L3_B
      have hk := keyL_len (l.take t.toNat)
      rw [List.length_take] at hk
      rw [if_pos (by simp; omega)]
      refine G_to (by omega) (G_to (by omega) (G_to (by unfold room; simp; omega) (G_to (by unfold fits; omega) ?_)))
      rw [← ih (t + 1) (by omega) (by omega) (by omega), ix_take h0 (by omega)]
      unfold keyL
      rw [List.flatMap_append]
      rfl
  unfold det_Key
  exact key _ 0 rfl (by omega) (by omega)
section
variable {m : Mor}
abbrev img (m : Mor) (a k : Int) : Int := ix (ix m.2.1 a) k
inductive Reach (m : Mor) : Int → Prop
  | zero : Reach m 0
  | step {a k : Int} : Reach m a → 0 ≤ k → k < m.1 → Reach m (img m a k)
theorem img_in (h : MOK m) {a k : Int} (a0 : 0 ≤ a) (a1 : a < m.2.1.length) (k0 : 0 ≤ k) (k1 : k < m.1) : 0 ≤ img m a k ∧ img m a k < m.2.1.length := (h.tab a a0 a1).1 k k0 k1
/-- Letters that are met so far. -/
structure Met (m : Mor) (l : List Int) : Prop where
  nd : l.Nodup
  b : ∀ a ∈ l, 0 ≤ a ∧ a < m.2.1.length
  r : ∀ a ∈ l, Reach m a
  z : 0 ∈ l
theorem Met.len {l : List Int} (h : MOK m) (k : Met m l) : l.length ≤ 4 := by
  have := h.size; unfold MSize at this
  have := pigeon_int (n := m.2.1.length) k.nd k.b
  omega
theorem met_L6 (h : MOK m) {i : Int} {l : List Int} {r3} (i0 : 0 ≤ i) (i1 : i < l.length) (hi : 0 ≤ ix l i ∧ ix l i < m.2.1.length ∧ Reach m (ix l i)) : ∀ (n : Nat) (t : Int) (l1 : List Int), (m.1 - t).toNat = n → 0 ≤ t → t ≤ m.1 → Met m l1 → i ≤ 4 → (∀ k, 0 ≤ k → k < t → img m (ix l i) k ∈ l1) →
    ∃ x, Met m (l1 ++ x) ∧ (∀ k, 0 ≤ k → k < m.1 → img m (ix l i) k ∈ l1 ++ x) ∧ seqs_met_L6 m i l r3 t l1 = r3 (i + 1) (l1 ++ x) := by
  intro n
  induction n with
  | zero =>
    intro t l1 hn t0 t1 hM h4 hc
    have hl := h.len hi.1 hi.2.1
    refine ⟨[], by simpa using hM, fun k k0 k1 => by simpa using hc k k0 (by omega), ?_⟩
    rw [seqs_met_L6_eq]; unfold seqs_met_L6_B
    rw [if_neg (by simp; omega), List.append_nil]
    exact G_to (by unfold fits; omega) rfl
  | succ n ih =>
    intro t l1 hn t0 t1 hM h4 hc
    have hl := h.len hi.1 hi.2.1
    have hb := h.base; unfold MBase at hb
    have hM4 := hM.len h
    have hin := img_in h hi.1 hi.2.1 t0 (by omega)
    rw [seqs_met_L6_eq]; unfold seqs_met_L6_B
    rw [if_pos (by simp; omega), G_pos (by omega), (slices_Contains_tells (s := l1) (v := img m (ix l i) t) (by omega)).eq]
    by_cases c : img m (ix l i) t ∈ l1
    · obtain ⟨x, x1, x2, x3⟩ := ih (t + 1) l1 (by omega) (by omega) (by omega) hM h4 (fun k k0 k1 => by
        by_cases e : k = t
        · rw [e]; exact c
        · exact hc k k0 (by omega))
      refine ⟨x, x1, x2, ?_⟩
      refine bind_to rfl ?_
      rw [if_neg (by simp [c])]
      exact G_to (by unfold fits; omega) x3
    · obtain ⟨x, x1, x2, x3⟩ := ih (t + 1) (l1 ++ [img m (ix l i) t]) (by omega) (by omega) (by omega)
        ⟨List.nodup_append.2 ⟨hM.nd, by simp, fun a ha b hb => by rw [List.mem_singleton.1 hb]; rintro rfl; exact c ha⟩,
         fun a ha => (List.mem_append.1 ha).elim (hM.b a) (fun e => by rw [List.mem_singleton.1 e]; exact hin),
         fun a ha => (List.mem_append.1 ha).elim (hM.r a) (fun e => by rw [List.mem_singleton.1 e]; exact hi.2.2.step t0 (by omega)),
         by simp [hM.z]⟩ h4 (fun k k0 k1 => by
        by_cases e : k = t
        · rw [e]; simp
        · exact List.mem_append.2 (.inl (hc k k0 (by omega))))
      refine ⟨[img m (ix l i) t] ++ x, by rw [← List.append_assoc]; exact x1, by rw [← List.append_assoc]; exact x2, ?_⟩
      refine bind_to rfl ?_
      rw [if_pos (by simp [c]), ← List.append_assoc]
      exact G_to (by unfold room; simp; omega) (G_to (by unfold fits; omega) x3)
theorem met_spec (h : MOK m) : ∃ L, seqs_met m = some L ∧ L.Nodup ∧ (∀ a ∈ L, 0 ≤ a ∧ a < m.2.1.length) ∧ (∀ a, a ∈ L ↔ Reach m a) := by
  have key : ∀ (n : Nat) (i : Int) (l : List Int), (4 - i).toNat = n → 0 ≤ i → i ≤ l.length → Met m l → (∀ j : Int, 0 ≤ j → j < i → ∀ k, 0 ≤ k → k < m.1 → img m (ix l j) k ∈ l) → ∃ L, seqs_met_L3 m i l = some L ∧ L.Nodup ∧ (∀ a ∈ L, 0 ≤ a ∧ a < m.2.1.length) ∧ (∀ a, a ∈ L ↔ Reach m a) := by
    intro n
    induction n using Nat.strongRecOn with
    | ind n ih =>
    intro i l hn i0 i1 hM hc
    have h4 := hM.len h
    rw [seqs_met_L3_eq]; unfold seqs_met_L3_B
    by_cases e : i < l.length
    · rw [if_pos (by simpa using e)]
      have hmem := ix_mem i0 e
      have hb := hM.b _ hmem
      obtain ⟨x, x1, x2, x3⟩ := met_L6 (r3 := seqs_met_L3 m) h i0 e ⟨hb.1, hb.2, hM.r _ hmem⟩ _ 0 l rfl (by omega) (by have := h.base.1; omega) hM (by omega) (fun k k0 k1 => by omega)
      obtain ⟨L, hL, rest⟩ := ih (4 - (i + 1)).toNat (by omega) (i + 1) (l ++ x) rfl (by omega) (by rw [List.length_append]; omega) x1 (fun j j0 j1 k k0 k1 => by
        rw [ix_append_left j0 (by omega)]
        by_cases e2 : j = i
        · rw [e2]; exact x2 k k0 k1
        · exact List.mem_append.2 (.inl (hc j j0 (by omega) k k0 k1)))
      exact ⟨L, G_to (by omega) (G_to (by omega) (G_to hb (x3.trans hL))), rest⟩
    · rw [if_neg (by simpa using e)]
      refine ⟨l, rfl, hM.nd, hM.b, fun a => ⟨hM.r a, fun hr => ?_⟩⟩
      induction hr with
      | zero => exact hM.z
      | step _ k0 k1 ih =>
        obtain ⟨j, j0, j1, rfl⟩ := (ex_ix (P := fun y => y = _)).1 ⟨_, ih, rfl⟩
        exact hc j j0 (by omega) _ k0 k1
  have hs := h.size; unfold MSize at hs
  unfold seqs_met
  exact key _ 0 [0] rfl (by omega) (by simp) ⟨by simp, fun a ha => by rw [List.mem_singleton.1 ha]; omega, fun a ha => by rw [List.mem_singleton.1 ha]; exact .zero, by simp⟩ (fun j j0 j1 => by omega)
/-- The second one's letters. -/
structure RMet (m : Mor) (t : List Bool) : Prop where
  len : t.length = m.2.1.length
  r : ∀ a : Int, 0 ≤ a → a < m.2.1.length → ix t a = true → Reach m a
  z : ix t 0 = true
abbrev cnt (t : List Bool) : Nat := t.count true
theorem cnt_set {t : List Bool} {b : Int} (b0 : 0 ≤ b) (b1 : b < t.length) : cnt (t.set b.toNat true) = if ix t b = true then cnt t else cnt t + 1 := by
  unfold cnt
  rw [List.count_set (by omega), ← ix_eq b0 b1]
  cases h : ix t b with
  | true =>
    have : 0 < t.count true := List.count_pos_iff.2 (h ▸ ix_mem b0 b1)
    simp; omega
  | false => simp
theorem RMet.set (h : MOK m) {t : List Bool} (hm : RMet m t) {a k : Int} (a0 : 0 ≤ a) (a1 : a < m.2.1.length) (k0 : 0 ≤ k) (k1 : k < m.1) (ht : ix t a = true) : RMet m (t.set (img m a k).toNat true) := by
  have hin := img_in h a0 a1 k0 k1
  have hs := h.size; unfold MSize at hs
  have hl := hm.len
  refine ⟨by rw [List.length_set]; exact hm.len, fun b b0 b1 hb => ?_, ?_⟩
  · by_cases e : b = img m a k
    · rw [e]; exact (hm.r a a0 a1 ht).step k0 k1
    · rw [ix_set_ne hin.1 b0 (Ne.symm e)] at hb; exact hm.r b b0 b1 hb
  · by_cases e : 0 = img m a k
    · rw [← e, ix_set_same (by omega) (by omega)]
    · rw [ix_set_ne hin.1 (by omega) (Ne.symm e)]; exact hm.z
theorem ker_L10 (h : MOK m) {a : Int} {r7} (a0 : 0 ≤ a) (a1 : a < m.2.1.length) : ∀ (n : Nat) (k : Int) (ag : Bool) (t : List Bool), (m.1 - k).toNat = n → 0 ≤ k → k ≤ m.1 → RMet m t →
    ∃ ag' t', RMet m t' ∧ cnt t ≤ cnt t' ∧ (ag' = false → ag = false ∧ t' = t ∧ (ix t a = true → ∀ j, k ≤ j → j < m.1 → ix t (img m a j) = true)) ∧ (ag' = true → ag = true ∨ cnt t < cnt t') ∧ r23_Kernel_L10 m a r7 ag k t = r7 ag' (a + 1) t' := by
  intro n
  induction n with
  | zero =>
    intro k ag t hn k0 k1 hM
    refine ⟨ag, t, hM, Nat.le_refl _, fun e => ⟨e, rfl, fun _ j j0 j1 => by omega⟩, fun e => .inl e, ?_⟩
    have hs := h.size; unfold MSize at hs
    rw [r23_Kernel_L10_eq]; unfold r23_Kernel_L10_B r23_Kernel_J10
    rw [if_neg (by simp; omega), if_neg (by simp)]
    exact G_to (by unfold fits; omega) rfl
  | succ n ih =>
    intro k ag t hn k0 k1 hM
    have hs := h.size; unfold MSize at hs
    have hbs := h.base; unfold MBase at hbs
    have hl := hM.len
    have hin := img_in h a0 a1 k0 (by omega)
    have hrl := h.len a0 a1
    rw [r23_Kernel_L10_eq]; unfold r23_Kernel_L10_B r23_Kernel_J10
    rw [if_pos (by simp; omega)]
    by_cases ht : ix t a = true
    · have hM' := hM.set h a0 a1 k0 (by omega : k < m.1) ht
      have hc := cnt_set (t := t) hin.1 (by omega)
      have ht' : ix (t.set (img m a k).toNat true) a = true := by
        by_cases e : a = img m a k
        · rw [← e, ix_set_same a0 (by omega)]
        · rw [ix_set_ne hin.1 a0 (Ne.symm e)]; exact ht
      have go : ∀ g : Bool, G (0 ≤ a ∧ a < (t.length : Int)) (G (a.toNat < t.length) (if ix t a = true then r23_Kernel_J10_1 m a ag k (r23_Kernel_L10 m a r7) (ix t a) t else G (fits (a + 1)) (r7 ag (a + 1) t))) = r23_Kernel_L10 m a r7 (ag || !(ix t (img m a k))) (k + 1) (t.set (img m a k).toNat true) := by
        intro _
        have hin2 : 0 ≤ ix (ix m.2.1 a) k ∧ ix (ix m.2.1 a) k < m.2.1.length := hin
        refine G_to (by omega) (G_to (by omega) ?_)
        rw [if_pos ht]
        unfold r23_Kernel_J10_1 r23_Kernel_J13
        refine G_to (by omega) (G_to (by omega) ?_)
        cases ag with
        | true =>
          rw [if_pos rfl]
          exact G_to (by omega) (G_to (by omega) (G_to (by unfold fits; omega) rfl))
        | false =>
          rw [if_neg (by simp)]
          exact G_to (by omega) (G_to (by omega) (G_to (by omega) (G_to (by omega) (G_to (by unfold fits; omega) rfl))))
      rw [go true]
      obtain ⟨ag', t', x1, x2, x3, x4, x5⟩ := ih (k + 1) (ag || !(ix t (img m a k))) (t.set (img m a k).toNat true) (by omega) (by omega) (by omega) hM'
      refine ⟨ag', t', x1, ?_, fun e => ?_, fun e => ?_, x5⟩
      · split at hc <;> omega
      · obtain ⟨y1, y2, y3⟩ := x3 e
        rw [Bool.or_eq_false_iff] at y1
        have hti : ix t (img m a k) = true := by simpa using y1.2
        have hsame : t.set (img m a k).toNat true = t := by
          refine ix_ext (by simp) fun j j0 j1 => ?_
          by_cases e : j = img m a k
          · rw [e, ix_set_same hin.1 (by omega), hti]
          · rw [ix_set_ne hin.1 j0 (Ne.symm e)]
        rw [hsame] at y2 y3
        refine ⟨y1.1, y2, fun _ j j0 j1 => ?_⟩
        by_cases e : j = k
        · rw [e]; exact hti
        · exact y3 ht j (by omega) j1
      · rcases x4 e with y | y
        · rcases Bool.or_eq_true_iff.1 y with y | y
          · exact .inl y
          · right
            rw [if_neg (by simpa using y)] at hc
            omega
        · right
          split at hc <;> omega
    · refine ⟨ag, t, hM, Nat.le_refl _, fun e => ⟨e, rfl, fun e2 => absurd e2 ht⟩, fun e => .inl e, ?_⟩
      refine G_to (by omega) (G_to (by omega) ?_)
      rw [if_neg ht]
      exact G_to (by unfold fits; omega) rfl
theorem ker_L7 (h : MOK m) {r4} : ∀ (n : Nat) (a : Int) (ag : Bool) (t : List Bool), (m.2.1.length - a).toNat = n → 0 ≤ a → a ≤ m.2.1.length → RMet m t →
    ∃ ag' t', RMet m t' ∧ cnt t ≤ cnt t' ∧ (ag' = false → ag = false ∧ t' = t ∧ ∀ b, a ≤ b → b < m.2.1.length → ix t b = true → ∀ j, 0 ≤ j → j < m.1 → ix t (img m b j) = true) ∧ (ag' = true → ag = true ∨ cnt t < cnt t') ∧ r23_Kernel_L7 m r4 ag a t = r4 ag' t' := by
  intro n
  induction n with
  | zero =>
    intro a ag t hn a0 a1 hM
    refine ⟨ag, t, hM, Nat.le_refl _, fun e => ⟨e, rfl, fun b b0 b1 => by omega⟩, fun e => .inl e, ?_⟩
    rw [r23_Kernel_L7_eq]; unfold r23_Kernel_L7_B
    rw [if_neg (by simp; omega)]
  | succ n ih =>
    intro a ag t hn a0 a1 hM
    have hb := h.base; unfold MBase at hb
    obtain ⟨ag1, t1, x1, x2, x3, x4, x5⟩ := ker_L10 (r7 := r23_Kernel_L7 m r4) h a0 (by omega : a < m.2.1.length) _ 0 ag t rfl (by omega) (by omega) hM
    obtain ⟨ag', t', y1, y2, y3, y4, y5⟩ := ih (a + 1) ag1 t1 (by omega) (by omega) (by omega) x1
    refine ⟨ag', t', y1, by omega, fun e => ?_, fun e => ?_, ?_⟩
    · obtain ⟨z1, z2, z3⟩ := y3 e
      obtain ⟨w1, w2, w3⟩ := x3 z1
      rw [w2] at z2 z3
      refine ⟨w1, z2, fun b b0 b1 hb j j0 j1 => ?_⟩
      by_cases e2 : b = a
      · subst e2; exact w3 hb j j0 j1
      · exact z3 b (by omega) b1 hb j j0 j1
    · rcases y4 e with z | z
      · rcases x4 z with w | w
        · exact .inl w
        · right; omega
      · right; omega
    · rw [r23_Kernel_L7_eq]; unfold r23_Kernel_L7_B
      rw [if_pos (by simp; omega)]
      exact x5.trans y5
theorem ker_L4 (h : MOK m) : ∀ (n : Nat) (t : List Bool), m.2.1.length - cnt t = n → RMet m t → ∃ t' : List Bool, t'.length = m.2.1.length ∧ (∀ a : Int, 0 ≤ a → a < m.2.1.length → (ix t' a = true ↔ Reach m a)) ∧ r23_Kernel_L4 m true t = r23_Kernel_L4 m false t' := by
  intro n
  induction n using Nat.strongRecOn with
  | ind n ih =>
  intro t hn hM
  obtain ⟨ag', t', y1, y2, y3, y4, y5⟩ := ker_L7 (r4 := r23_Kernel_L4 m) h _ 0 false t rfl (by omega) (by omega) hM
  have e : r23_Kernel_L4 m true t = r23_Kernel_L4 m ag' t' := by
    conv => lhs; rw [r23_Kernel_L4_eq]; unfold r23_Kernel_L4_B
    rw [if_pos rfl]; exact y5
  cases ag' with
  | true =>
    have hc : cnt t < cnt t' := (y4 rfl).elim (fun e => by cases e) id
    have hl : cnt t' ≤ m.2.1.length := by have := List.count_le_length (a := true) (l := t'); rw [y1.len] at this; exact this
    obtain ⟨t2, z1, z2, z3⟩ := ih (m.2.1.length - cnt t') (by omega) t' rfl y1
    exact ⟨t2, z1, z2, e.trans z3⟩
  | false =>
    obtain ⟨_, w2, w3⟩ := y3 rfl
    subst w2
    refine ⟨t', y1.len, fun a a0 a1 => ⟨y1.r a a0 a1, fun hr => ?_⟩, e⟩
    have : 0 ≤ a ∧ a < m.2.1.length ∧ ix t' a = true := by
      induction hr with
      | zero => exact ⟨a0, a1, y1.z⟩
      | @step b k hb k0 k1 ih =>
        have hbb : 0 ≤ b ∧ b < m.2.1.length := by
          clear ih a0 a1 k0 k1
          have hs := h.size; unfold MSize at hs
          induction hb with
          | zero => omega
          | step _ k0 k1 ih => exact img_in h ih.1 ih.2 k0 k1
        obtain ⟨i1, i2, i3⟩ := ih hbb.1 hbb.2
        have := img_in h i1 i2 k0 k1
        exact ⟨this.1, this.2, w3 b i1 i2 i3 k k0 k1⟩
    exact this.2.2
open Classical in
noncomputable def kep (m : Mor) (f : List Int) : List Int := mkR m.2.1.length fun a => if Reach m a then ix f a else 0
def nxt (m : Mor) (f : List Int) (d : Int) : List Int := mkR m.2.1.length fun a => ix f (img m a d)
def Row (m : Mor) (f : List Int) : Prop := f.length = m.2.1.length ∧ ∀ a : Int, 0 ≤ a → a < m.2.1.length → 0 ≤ ix f a ∧ ix f a ≤ 9
def keyF (L : List Int) (f : List Int) : List UInt8 := keyB (L.map (ix f))
theorem nxt_row (h : MOK m) {f : List Int} (hf : Row m f) {d : Int} (d0 : 0 ≤ d) (d1 : d < m.1) : Row m (nxt m f d) :=
  ⟨mkR_len _ _, fun a a0 a1 => by
    unfold nxt; rw [mkR_ix a0 a1]
    have := img_in h a0 a1 d0 d1
    exact hf.2 _ this.1 this.2⟩
theorem kep_len (f : List Int) : (kep m f).length = m.2.1.length := mkR_len _ _
theorem kep_nxt (h : MOK m) {f : List Int} {d : Int} (d0 : 0 ≤ d) (d1 : d < m.1) : kep m (nxt m (kep m f) d) = kep m (nxt m f d) := by
  unfold kep nxt
  refine ix_ext (by rw [mkR_len, mkR_len]) fun j j0 j1 => ?_
  rw [mkR_len] at j1
  have := img_in h j0 j1 d0 d1
  rw [mkR_ix j0 j1, mkR_ix j0 j1, mkR_ix j0 j1, mkR_ix j0 j1, mkR_ix this.1 this.2]
  by_cases c : Reach m j
  · rw [if_pos c, if_pos c, if_pos (c.step d0 d1)]
  · rw [if_neg c, if_neg c]
theorem key_kep (h : MOK m) {L : List Int} (hL : ∀ a ∈ L, 0 ≤ a ∧ a < m.2.1.length) (hR : ∀ a, a ∈ L ↔ Reach m a) {f g : List Int} (hf : Row m f) (hg : Row m g) : keyF L f = keyF L g ↔ kep m f = kep m g := by
  have e : keyF L f = keyF L g ↔ ∀ a ∈ L, ix f a = ix g a := by
    unfold keyF
    constructor
    · intro hk
      have := keyB_inj (fun x hx => by
        obtain ⟨a, ha, rfl⟩ := List.mem_map.1 hx
        have := hL a ha
        have := hf.2 a this.1 this.2
        omega) (fun x hx => by
        obtain ⟨a, ha, rfl⟩ := List.mem_map.1 hx
        have := hL a ha
        have := hg.2 a this.1 this.2
        omega) hk
      exact fun a ha => (List.map_inj_left.1 this) a ha
    · intro hk
      rw [List.map_congr_left hk]
  rw [e]
  unfold kep
  constructor
  · intro hk
    refine ix_ext (by rw [mkR_len, mkR_len]) fun j j0 j1 => ?_
    rw [mkR_len] at j1
    rw [mkR_ix j0 j1, mkR_ix j0 j1]
    by_cases c : Reach m j
    · rw [if_pos c, if_pos c]; exact hk j ((hR j).2 c)
    · rw [if_neg c, if_neg c]
  · intro hk a ha
    have hb := hL a ha
    have := congrArg (fun l => ix l a) hk
    simp only [mkR_ix hb.1 hb.2, if_pos ((hR a).1 ha)] at this
    exact this
theorem Kernel_1_spec (h : MOK m) {L f : List Int} (hL : ∀ a ∈ L, 0 ≤ a ∧ a < m.2.1.length) (hl : L.length ≤ 4) (hf : Row m f) : seqs_Kernel_1 f L = some (keyF L f) := by
  have key : ∀ (n : Nat) (t : Int), (L.length - t).toNat = n → 0 ≤ t → t ≤ L.length → seqs_Kernel_1_L3 f L t ((L.take t.toNat).map (ix f)) = some (keyF L f) := by
    intro n
    induction n with
    | zero =>
      intro t hn t0 t1
      rw [seqs_Kernel_1_L3_eq]; unfold seqs_Kernel_1_L3_B
      rw [if_neg (by simp; omega), List.take_of_length_le (by omega)]
      exact bind_to (det_Key_spec (by simp; omega)) rfl
    | succ n ih =>
      intro t hn t0 t1
      have hb := hL _ (ix_mem t0 (by omega : t < L.length))
      have hfl := hf.1
      rw [seqs_Kernel_1_L3_eq]; unfold seqs_Kernel_1_L3_B
      rw [if_pos (by simp; omega)]
      refine G_to (by omega) (G_to (by omega) (G_to (by unfold room; simp; omega) (G_to (by unfold fits; omega) ?_)))
      rw [← ih (t + 1) (by omega) (by omega) (by omega), ix_take t0 (by omega), List.map_append]; rfl
  unfold seqs_Kernel_1
  exact key _ 0 rfl (by omega) (by omega)
theorem kept_spec (h : MOK m) {t : List Bool} (ht : t.length = m.2.1.length) (hR : ∀ a : Int, 0 ≤ a → a < m.2.1.length → (ix t a = true ↔ Reach m a)) {f : List Int} (hf : f.length = m.2.1.length) : r23_kept f t = some (kep m f) := by
  have hs := h.size; unfold MSize at hs
  have key : ∀ (n : Nat) (a : Int) (out : List Int), (m.2.1.length - a).toNat = n → 0 ≤ a → a ≤ m.2.1.length → out.length = a → (∀ j : Int, 0 ≤ j → j < a → ix out j = ix (kep m f) j) → r23_kept_L3 f t a out = some (kep m f) := by
    intro n
    induction n with
    | zero =>
      intro a out hn a0 a1 hl hj
      rw [r23_kept_L3_eq]; unfold r23_kept_L3_B
      rw [if_neg (by simp; omega)]
      exact congrArg some (ix_ext (by rw [kep_len]; omega) fun j j0 j1 => hj j j0 (by omega))
    | succ n ih =>
      intro a out hn a0 a1 hl hj
      have hra := hR a a0 (by omega)
      have hk : ix (kep m f) a = if ix t a = true then ix f a else 0 := by
        unfold kep; rw [mkR_ix a0 (by omega)]
        by_cases c : Reach m a
        · rw [if_pos c, if_pos (hra.2 c)]
        · rw [if_neg c, if_neg (fun e => c (hra.1 e))]
      have nx : ∀ v, v = ix (kep m f) a → ∀ j : Int, 0 ≤ j → j < a + 1 → ix (out ++ [v]) j = ix (kep m f) j := fun v hv j j0 j1 => by
        by_cases e : j < a
        · rw [ix_append_left j0 (by omega)]; exact hj j j0 e
        · obtain rfl : j = out.length := by omega
          rw [ix_append_last, hv, hl]
      rw [r23_kept_L3_eq]; unfold r23_kept_L3_B
      rw [if_pos (by simp; omega), G_pos (by omega), G_pos (by omega)]
      by_cases c : ix t a = true
      · rw [if_neg (by simp [c])]
        refine G_to (by unfold room; simp; omega) (G_to (by unfold fits; omega) ?_)
        exact ih (a + 1) _ (by omega) (by omega) (by omega) (by simp; omega) (nx _ (by rw [hk, if_pos c]))
      · rw [if_pos (by simpa using c)]
        refine G_to (by unfold room; simp; omega) (G_to (by unfold fits; omega) ?_)
        exact ih (a + 1) _ (by omega) (by omega) (by omega) (by simp; omega) (nx _ (by rw [hk, if_neg c]))
  unfold r23_kept
  exact key _ 0 [] rfl (by omega) (by omega) rfl (fun j j0 j1 => by omega)
/-- All rows of numbers 0..9. -/
def allR : Nat → List (List Int)
  | 0 => [[]]
  | n + 1 => (allR n).flatMap fun l => (List.range 10).map fun x : Nat => (x : Int) :: l
theorem allR_len : ∀ n, (allR n).length = 10 ^ n
  | 0 => rfl
  | n + 1 => by
    unfold allR
    have key : ∀ u : List (List Int), (u.flatMap fun l => (List.range 10).map fun x : Nat => (x : Int) :: l).length = u.length * 10 := by
      intro u
      induction u with
      | nil => rfl
      | cons x u ih => rw [List.flatMap_cons, List.length_append, ih, List.length_map, List.length_range, List.length_cons]; omega
    rw [key, allR_len n, Nat.pow_succ]
theorem allR_mem : ∀ {l : List Int}, (∀ x ∈ l, 0 ≤ x ∧ x ≤ 9) → l ∈ allR l.length
  | [], _ => by simp [allR]
  | x :: l, h => by
    have hx := h x (by simp)
    rw [List.length_cons, allR, List.mem_flatMap]
    exact ⟨l, allR_mem (fun y hy => h y (by simp [hy])), List.mem_map.2 ⟨x.toNat, List.mem_range.2 (by omega), by rw [Int.toNat_of_nonneg hx.1]⟩⟩
theorem kep_b {f : List Int} (hf : Row m f) : ∀ x ∈ kep m f, 0 ≤ x ∧ x ≤ 9 := by
  intro x hx
  obtain ⟨j, j0, j1, rfl⟩ := (ex_ix (P := fun y => y = x)).1 ⟨x, hx, rfl⟩
  rw [kep_len] at j1
  unfold kep; rw [mkR_ix j0 j1]
  by_cases c : Reach m j
  · rw [if_pos c]; exact hf.2 j j0 j1
  · rw [if_neg c]; omega
theorem Fs_len (h : MOK m) {Fs : List (List Int)} (hF : ∀ f ∈ Fs, Row m f) (hn : (Fs.map (kep m)).Nodup) : Fs.length ≤ 10000 := by
  have hs := h.size; unfold MSize at hs
  have := pigeon (U := allR m.2.1.length) hn (fun x hx => by
    obtain ⟨f, hf, rfl⟩ := List.mem_map.1 hx
    have := allR_mem (kep_b (hF f hf))
    rwa [kep_len] at this)
  rw [List.length_map, allR_len] at this
  have h4 : 10 ^ m.2.1.length ≤ 10 ^ 4 := Nat.pow_le_pow_right (by omega) (by omega)
  omega
structure KerOk (m : Mor) (L : List Int) (t : List Bool) : Prop where
  h : MOK m
  ll : L.length ≤ 4
  lb : ∀ a ∈ L, 0 ≤ a ∧ a < m.2.1.length
  lr : ∀ a, a ∈ L ↔ Reach m a
  tl : t.length = m.2.1.length
  tr : ∀ a : Int, 0 ≤ a → a < m.2.1.length → (ix t a = true ↔ Reach m a)
theorem ker_known {L : List Int} {t : List Bool} (K : KerOk m L t) {Fs : List (List Int)} (hF : ∀ f ∈ Fs, Row m f) {g : List Int} (hg : Row m g) : keyF L g ∈ Fs.map (keyF L) ↔ kep m g ∈ Fs.map (kep m) := by
  rw [List.mem_map, List.mem_map]
  constructor
  · rintro ⟨f, hf, e⟩; exact ⟨f, hf, (key_kep K.h K.lb K.lr (hF f hf) hg).1 e⟩
  · rintro ⟨f, hf, e⟩; exact ⟨f, hf, (key_kep K.h K.lb K.lr (hF f hf) hg).2 e⟩
theorem kerP_L17 {L : List Int} {t : List Bool} (K : KerOk m L t) {d : Int} {ks : List (List UInt8)} {l1 : List (List Int)} {r13} {f : List Int} (d0 : 0 ≤ d) (d1 : d < m.1) (e : ix l1 0 = f) (hl1 : 0 < l1.length) (hl2 : l1.length ≤ 20000) (hf : Row m f) :
    seqs_Kernel_L17 m L d ks (ones ks) l1 r13 0 (List.replicate m.2.1.length 0) = if keyF L (nxt m f d) ∈ ks then r13 (d + 1) ks (ones ks) l1 else r13 (d + 1) (ks ++ [keyF L (nxt m f d)]) (ones (ks ++ [keyF L (nxt m f d)])) (l1 ++ [nxt m f d]) := by
  have hs := K.h.size; unfold MSize at hs
  have hb := K.h.base; unfold MBase at hb
  have key : ∀ (n : Nat) (a : Int) (nx : List Int), (m.2.1.length - a).toNat = n → 0 ≤ a → a ≤ m.2.1.length → nx.length = m.2.1.length → (∀ j : Int, 0 ≤ j → j < a → ix nx j = ix (nxt m f d) j) →
      seqs_Kernel_L17 m L d ks (ones ks) l1 r13 a nx = if keyF L (nxt m f d) ∈ ks then r13 (d + 1) ks (ones ks) l1 else r13 (d + 1) (ks ++ [keyF L (nxt m f d)]) (ones (ks ++ [keyF L (nxt m f d)])) (l1 ++ [nxt m f d]) := by
    intro n
    induction n with
    | zero =>
      intro a nx hn a0 a1 hl hj
      obtain rfl : nx = nxt m f d := ix_ext (by rw [hl]; exact (mkR_len _ _).symm) fun j j0 j1 => hj j j0 (by omega)
      rw [seqs_Kernel_L17_eq]; unfold seqs_Kernel_L17_B
      rw [if_neg (by simp; omega)]
      refine bind_to (Kernel_1_spec K.h K.lb K.ll (nxt_row K.h hf d0 d1)) ?_
      by_cases c : keyF L (nxt m f d) ∈ ks
      · rw [if_neg (fun hh => mget_ones.1 (of_decide_eq_true hh) c), if_pos c]
        exact G_to (by unfold fits; omega) rfl
      · rw [if_pos (decide_eq_true (mget_ones.2 c)), if_neg c, mputK_new c, mputV_new c]
        exact G_to (by unfold room; simp; omega) (G_to (by unfold fits; omega) rfl)
    | succ n ih =>
      intro a nx hn a0 a1 hl hj
      have hrl := K.h.len a0 (by omega)
      have hin : 0 ≤ ix (ix m.2.1 a) d ∧ ix (ix m.2.1 a) d < m.2.1.length := img_in K.h a0 (by omega) d0 d1
      have hfl := hf.1
      rw [seqs_Kernel_L17_eq]; unfold seqs_Kernel_L17_B
      rw [if_pos (by simp; omega), e]
      refine G_to (by omega) (G_to (by omega) (G_to (by omega) (G_to (by omega) (G_to (by omega) (G_to (by omega) (G_to (by omega) (G_to (by unfold fits; omega) ?_)))))))
      refine ih (a + 1) _ (by omega) (by omega) (by omega) (by rw [List.length_set]; exact hl) (fun j j0 j1 => ?_)
      by_cases e2 : j = a
      · subst e2
        rw [ix_set_same j0 (by omega)]
        unfold nxt; rw [mkR_ix j0 (by omega)]
      · rw [ix_set_ne a0 j0 (Ne.symm e2)]; exact hj j j0 (by omega)
  exact key _ 0 _ rfl (by omega) (by omega) (by simp) (fun j j0 j1 => by omega)
theorem kerR_L31 {d : Int} {l : List (List Int)} {r21} {y : List Int} (hl : l.length ≤ 10000) (hd : 0 ≤ d ∧ d ≤ 10) (hw : ∀ x ∈ l, x.length ≤ 10) : ∀ (n : Nat) (k : Int), (l.length - k).toNat = n → 0 ≤ k → k ≤ l.length → (∀ j : Int, 0 ≤ j → j < k → ix l j ≠ y) →
    r23_Kernel_L31 d l r21 y false k = if y ∈ l then r21 (d + 1) l else r21 (d + 1) (l ++ [y]) := by
  intro n
  induction n with
  | zero =>
    intro k hn k0 k1 hj
    have hy : y ∉ l := fun hy => by
      obtain ⟨j, j0, j1, e⟩ := (ex_ix (P := fun x => x = y)).1 ⟨y, hy, rfl⟩
      exact hj j j0 (by omega) e
    rw [r23_Kernel_L31_eq]; unfold r23_Kernel_L31_B r23_Kernel_J31
    rw [if_neg (by simp; omega), if_neg (by simp), if_pos (by simp), if_neg hy]
    exact G_to (by unfold room; simp; omega) (G_to (by unfold fits; omega) rfl)
  | succ n ih =>
    intro k hn k0 k1 hj
    have hk := hw _ (ix_mem k0 (by omega : k < l.length))
    rw [r23_Kernel_L31_eq]; unfold r23_Kernel_L31_B r23_Kernel_J31 r23_Kernel_J31_1
    rw [if_pos (by simp; omega), if_pos (by simp)]
    refine G_to (by omega) (G_to (by omega) ?_)
    refine bind_to (r1_Words_spec (by omega)) ?_
    refine G_to (by unfold fits; omega) ?_
    by_cases e : ix l k = y
    · rw [decide_eq_true e, if_pos (e ▸ ix_mem k0 (by omega)), r23_Kernel_L31_eq]; unfold r23_Kernel_L31_B r23_Kernel_J31
      have : ∀ b : Bool, (if b = true then r23_Kernel_J31 d l r21 y true (k + 1) (r23_Kernel_L31 d l r21 y) false else r23_Kernel_J31 d l r21 y true (k + 1) (r23_Kernel_L31 d l r21 y) false) = r21 (d + 1) l := fun b => by
        unfold r23_Kernel_J31
        rw [ite_self, if_neg (by simp), if_neg (by simp)]
        exact G_to (by unfold fits; omega) rfl
      exact this _
    · rw [decide_eq_false e]
      refine ih (k + 1) (by omega) (by omega) (by omega) (fun j j0 j1 => ?_)
      by_cases e2 : j = k
      · rw [e2]; exact e
      · exact hj j j0 (by omega)
theorem kerR_L25 {L : List Int} {t : List Bool} (K : KerOk m L t) {i d : Int} {l : List (List Int)} {r21} (d0 : 0 ≤ d) (d1 : d < m.1) (i0 : 0 ≤ i) (i1 : i < l.length) (hl : l.length ≤ 10000) (hw : ∀ x ∈ l, x.length = m.2.1.length) :
    r23_Kernel_L25 m t i d l r21 0 [] = if kep m (nxt m (ix l i) d) ∈ l then r21 (d + 1) l else r21 (d + 1) (l ++ [kep m (nxt m (ix l i) d)]) := by
  have hs := K.h.size; unfold MSize at hs
  have hb := K.h.base; unfold MBase at hb
  have key : ∀ (n : Nat) (a : Int) (nx : List Int), (m.2.1.length - a).toNat = n → 0 ≤ a → a ≤ m.2.1.length → nx.length = a → (∀ j : Int, 0 ≤ j → j < a → ix nx j = ix (nxt m (ix l i) d) j) →
      r23_Kernel_L25 m t i d l r21 a nx = if kep m (nxt m (ix l i) d) ∈ l then r21 (d + 1) l else r21 (d + 1) (l ++ [kep m (nxt m (ix l i) d)]) := by
    intro n
    induction n with
    | zero =>
      intro a nx hn a0 a1 hla hj
      obtain rfl : nx = nxt m (ix l i) d := ix_ext (by unfold nxt; rw [mkR_len]; omega) fun j j0 j1 => hj j j0 (by omega)
      rw [r23_Kernel_L25_eq]; unfold r23_Kernel_L25_B
      rw [if_neg (by simp; omega)]
      refine bind_to (kept_spec K.h K.tl K.tr (mkR_len _ _)) ?_
      exact kerR_L31 hl (by omega) (fun x hx => by rw [hw x hx]; omega) _ 0 rfl (by omega) (by omega) (fun j j0 j1 => by omega)
    | succ n ih =>
      intro a nx hn a0 a1 hla hj
      have hrl := K.h.len a0 (by omega)
      have hin : 0 ≤ ix (ix m.2.1 a) d ∧ ix (ix m.2.1 a) d < m.2.1.length := img_in K.h a0 (by omega) d0 d1
      have hfl := hw _ (ix_mem i0 i1)
      rw [r23_Kernel_L25_eq]; unfold r23_Kernel_L25_B
      rw [if_pos (by simp; omega)]
      refine G_to (by omega) (G_to (by omega) (G_to (by omega) (G_to (by omega) (G_to (by omega) (G_to (by unfold room; simp; omega) (G_to (by unfold fits; omega) ?_))))))
      refine ih (a + 1) _ (by omega) (by omega) (by omega) (by simp; omega) (fun j j0 j1 => ?_)
      by_cases e2 : j = a
      · have : j = nx.length := by omega
        rw [this, ix_append_last, ← this, e2]
        unfold nxt; rw [mkR_ix a0 (by omega)]
      · rw [ix_append_left j0 (by omega)]; exact hj j j0 (by omega)
  exact key _ 0 _ rfl (by omega) (by omega) rfl (fun j j0 j1 => by omega)
theorem ker_letters {L : List Int} {t : List Bool} (K : KerOk m L t) {C : List Int} (hC : C.length = m.2.1.length) {i : Int} {r10 r18} (i0 : 0 ≤ i) : ∀ (n : Nat) (d : Int) (Fs : List (List Int)), (m.1 - d).toNat = n → 0 ≤ d → d ≤ m.1 → i < Fs.length → (∀ f ∈ Fs, Row m f) → (Fs.map (kep m)).Nodup →
    ∃ x, (∀ f ∈ Fs ++ x, Row m f) ∧ ((Fs ++ x).map (kep m)).Nodup ∧ seqs_Kernel_L13 m L C r10 d (Fs.map (keyF L)) (ones (Fs.map (keyF L))) (Fs.drop i.toNat) = r10 ((Fs ++ x).map (keyF L)) (ones ((Fs ++ x).map (keyF L))) ((Fs ++ x).drop (i + 1).toNat) ∧
      r23_Kernel_L21 m t i r18 d (Fs.map (kep m)) = r18 (i + 1) ((Fs ++ x).map (kep m)) := by
  have hs := K.h.size; unfold MSize at hs
  have hb := K.h.base; unfold MBase at hb
  intro n
  induction n with
  | zero =>
    intro d Fs hn d0 d1 hi hF hnd
    have h4 := Fs_len K.h hF hnd
    refine ⟨[], by simpa using hF, by simpa using hnd, ?_, ?_⟩
    · rw [seqs_Kernel_L13_eq]; unfold seqs_Kernel_L13_B
      rw [if_neg (by simp; omega), List.append_nil]
      refine G_to (by rw [List.length_drop]; omega) ?_
      rw [List.drop_drop]
      rw [show i.toNat + (1 : Int).toNat = (i + 1).toNat by omega]
    · rw [r23_Kernel_L21_eq]; unfold r23_Kernel_L21_B
      rw [if_neg (by simp; omega), List.append_nil]
      exact G_to (by unfold fits; omega) rfl
  | succ n ih =>
    intro d Fs hn d0 d1 hi hF hnd
    have h4 := Fs_len K.h hF hnd
    have hfi := hF _ (ix_mem i0 hi)
    have hg := nxt_row K.h hfi d0 (by omega : d < m.1)
    have e0 : ix (Fs.drop i.toNat) 0 = ix Fs i := by rw [ix_drop i0 hi]; rfl
    have ek : kep m (nxt m (ix (Fs.map (kep m)) i) d) = kep m (nxt m (ix Fs i) d) := by
      rw [ix_map _ i0 hi, kep_nxt K.h d0 (by omega)]
    have P := kerP_L17 (ks := Fs.map (keyF L)) (l1 := Fs.drop i.toNat) (r13 := seqs_Kernel_L13 m L C r10) K d0 (by omega) e0 (by rw [List.length_drop]; omega) (by rw [List.length_drop]; omega) hfi
    have R := kerR_L25 (l := Fs.map (kep m)) (r21 := r23_Kernel_L21 m t i r18) K d0 (by omega) i0 (by rw [List.length_map]; exact hi) (by rw [List.length_map]; exact h4) (fun x hx => by
      obtain ⟨f, _, rfl⟩ := List.mem_map.1 hx
      exact kep_len f)
    rw [ek] at R
    have kn := ker_known K hF hg
    have eP : seqs_Kernel_L13 m L C r10 d (Fs.map (keyF L)) (ones (Fs.map (keyF L))) (Fs.drop i.toNat) = seqs_Kernel_L17 m L d (Fs.map (keyF L)) (ones (Fs.map (keyF L))) (Fs.drop i.toNat) (seqs_Kernel_L13 m L C r10) 0 (List.replicate m.2.1.length 0) := by
      conv => lhs; rw [seqs_Kernel_L13_eq]; unfold seqs_Kernel_L13_B
      rw [if_pos (by simp; omega)]
      refine G_to (by unfold mkOK; simp; omega) ?_
      rw [hC]; rfl
    have eR : r23_Kernel_L21 m t i r18 d (Fs.map (kep m)) = r23_Kernel_L25 m t i d (Fs.map (kep m)) (r23_Kernel_L21 m t i r18) 0 [] := by
      conv => lhs; rw [r23_Kernel_L21_eq]; unfold r23_Kernel_L21_B
      rw [if_pos (by simp; omega)]
    rw [eP, eR, P, R]
    by_cases c : kep m (nxt m (ix Fs i) d) ∈ Fs.map (kep m)
    · rw [if_pos (kn.2 c), if_pos c]
      exact ih (d + 1) Fs (by omega) (by omega) (by omega) hi hF hnd
    · rw [if_neg (fun hh => c (kn.1 hh)), if_neg c]
      have hdr : Fs.drop i.toNat ++ [nxt m (ix Fs i) d] = (Fs ++ [nxt m (ix Fs i) d]).drop i.toNat := (List.drop_append_of_le_length (by omega)).symm
      obtain ⟨x, x1, x2, x3, x4⟩ := ih (d + 1) (Fs ++ [nxt m (ix Fs i) d]) (by omega) (by omega) (by omega) (by rw [List.length_append]; omega)
        (fun f hf => (List.mem_append.1 hf).elim (hF f) (fun e => by rw [List.mem_singleton.1 e]; exact hg))
        (by
          rw [List.map_append, List.nodup_append]
          exact ⟨hnd, by simp, fun a ha b hb => by rw [List.map_singleton, List.mem_singleton] at hb; rw [hb]; rintro rfl; exact c ha⟩)
      rw [List.append_assoc] at x1 x2 x3 x4
      refine ⟨_, x1, x2, ?_, ?_⟩
      · rw [hdr]
        rw [List.map_append] at x3
        exact x3
      · rw [List.map_append] at x4
        exact x4
theorem ker_main {L : List Int} {t : List Bool} (K : KerOk m L t) {C : List Int} (hC : C.length = m.2.1.length) : ∀ (N : Nat) (i : Int) (Fs : List (List Int)), (10000 - i).toNat = N → 0 ≤ i → i ≤ Fs.length → (∀ f ∈ Fs, Row m f) → (Fs.map (kep m)).Nodup →
    ∃ c, seqs_Kernel_L10 m L C (Fs.map (keyF L)) (ones (Fs.map (keyF L))) (Fs.drop i.toNat) = some (c, 0) ∧ r23_Kernel_L18 m t i (Fs.map (kep m)) = some c := by
  intro N
  induction N using Nat.strongRecOn with
  | ind N ih =>
  intro i Fs hN i0 i1 hF hnd
  have h4 := Fs_len K.h hF hnd
  rw [seqs_Kernel_L10_eq, r23_Kernel_L18_eq]; unfold seqs_Kernel_L10_B r23_Kernel_L18_B
  by_cases e : i < Fs.length
  · obtain ⟨x, x1, x2, x3, x4⟩ := ker_letters (r10 := seqs_Kernel_L10 m L C) (r18 := r23_Kernel_L18 m t) K hC i0 _ 0 Fs rfl (by omega) (by have := K.h.base.1; omega) e hF hnd
    obtain ⟨c, c1, c2⟩ := ih (10000 - (i + 1)).toNat (by omega) (i + 1) (Fs ++ x) rfl (by omega) (by rw [List.length_append]; omega) x1 x2
    refine ⟨c, ?_, ?_⟩
    · rw [if_pos (by simp; omega)]; exact x3.trans c1
    · rw [if_pos (by simp; omega)]; exact x4.trans c2
  · refine ⟨Fs.length, ?_, ?_⟩
    · rw [if_neg (by simp; omega), List.length_map]
    · rw [if_neg (by simp; omega), List.length_map]
theorem ker_both (hm : morE m = 0) : ∃ c, seqs_Kernel m = some (c, 0) ∧ r23_Kernel m = some c := by
  have h := mor_of hm
  have hs := h.size; unfold MSize at hs
  have hsh := h.shape; unfold MShape at hsh
  obtain ⟨L, l1, l2, l3, l4⟩ := met_spec h
  have hll := pigeon_int l2 l3
  have hrow : Row m m.2.2.1 := ⟨by omega, fun a a0 a1 => (h.tab a a0 a1).2⟩
  have hmet : RMet m ((List.replicate m.2.1.length false).set 0 true) := by
    refine ⟨by simp, fun a a0 a1 ha => ?_, ?_⟩
    · by_cases e : a = 0
      · rw [e]; exact .zero
      · rw [show (0 : Nat) = (0 : Int).toNat from rfl, ix_set_ne (by omega) a0 (Ne.symm e), ix_replicate a0 (by omega)] at ha; cases ha
    · exact ix_set_same (i := 0) (by omega) (by simp; omega)
  obtain ⟨t, t1, t2, t3⟩ := ker_L4 h _ _ rfl hmet
  have K : KerOk m L t := ⟨h, by omega, l3, l4, t1, t2⟩
  obtain ⟨c, c1, c2⟩ := ker_main K (C := m.2.2.1) (by omega) _ 0 [m.2.2.1] rfl (by omega) (by simp) (fun f hf => by rw [List.mem_singleton.1 hf]; exact hrow) (by simp)
  refine ⟨c, ?_, ?_⟩
  · unfold seqs_Kernel
    refine bind_to (y := morE m) Check_spec ?_
    rw [hm, if_neg (by simp)]
    refine bind_to l1 ?_
    refine bind_to (slices_Clone_spec (by omega)) ?_
    refine bind_to (Kernel_1_spec h l3 (by omega) hrow) ?_
    exact c1
  · unfold r23_Kernel
    refine G_to (by unfold mkOK; simp; omega) (G_to (by simp; omega) (G_to (by simp; omega) ?_))
    refine Eq.trans t3 ?_
    rw [r23_Kernel_L4_eq]; unfold r23_Kernel_L4_B
    rw [if_neg (by simp)]
    refine bind_to (kept_spec h t1 t2 (by omega)) ?_
    exact c2
end
theorem law_true (m : Mor) : law_SeqsKernel m = some true := by
  unfold law_SeqsKernel
  by_cases hm : morE m = 0
  · obtain ⟨c, c1, c2⟩ := ker_both hm
    refine bind_to c1 ?_
    refine bind_to (y := morE m) r23_Check_spec ?_
    rw [hm]
    (try dsimp only); (repeat' first | (with_reducible refine G_to ?_ ?_; focus (first | omega | (unfold fits; omega) | (unfold room; (try simp only [List.length_append, List.length_cons, List.length_nil]); omega))) | (with_reducible refine both_to ?_ ?_) | (with_reducible refine itet_to ?_) | (with_reducible refine itef_to ?_) | (with_reducible refine ite_to (fun _ => ?_) (fun _ => ?_))) <;> try (exfalso; omega)
    refine bind_to c2 ?_
    (try dsimp only); (repeat' first | (with_reducible refine G_to ?_ ?_; focus (first | omega | (unfold fits; omega) | (unfold room; (try simp only [List.length_append, List.length_cons, List.length_nil]); omega))) | (with_reducible refine both_to ?_ ?_) | (with_reducible refine itet_to ?_) | (with_reducible refine itef_to ?_) | (with_reducible refine ite_to (fun _ => ?_) (fun _ => ?_))) <;> try (exfalso; omega)
    simp
  · have p1 : seqs_Kernel m = some (0, morE m) := by
      unfold seqs_Kernel
      refine bind_to (y := morE m) Check_spec ?_
      rw [if_pos (decide_eq_true hm)]
    refine bind_to p1 ?_
    refine bind_to (y := morE m) r23_Check_spec ?_
    rw [if_pos (decide_eq_true hm), if_pos (decide_eq_true rfl)]
    rfl

end Go.Proofs.Ytokjfldjjehmkaa.seqsKernelW
