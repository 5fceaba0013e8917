/- The law 'LyndonTurns' of the plain functions. -/
import Derived.Test.YtighoanekfodoaaLyndonTurnsD
import Derived.Sort.AssemblyPlain
set_option maxHeartbeats 1000000
set_option maxRecDepth 20000
set_option linter.unusedSimpArgs false
set_option linter.unusedVariables false
set_option linter.unusedSectionVars false
namespace Go.Proofs.Ytighoanekfodoaa.lyndonTurnsW
open Go Go.Ab
--import Derived.Sort.AssemblyPlain
theorem r1_Words_L4_spec {a b : List Int} (hl : a.length = b.length) : ∀ (n : Nat) (i : Int), 0 ≤ i → i ≤ a.length → (a.length - i).toNat = n → a.length ≤ 2305843009213693951 → (∀ j : Int, 0 ≤ j → j < i → ix a j = ix b j) → r1_Words_L4 a b i = some (decide (a = b)) := by
 intro n
 induction n with
 | zero =>
  intro i h0 h1 hn hs h
  rw [r1_Words_L4_eq]; unfold r1_Words_L4_B
  (try dsimp only); (repeat' first | (with_reducible refine G_to ?_ ?_; focus (first | omega | (unfold fits; omega) | (unfold room; (try simp only [List.length_append, List.length_cons, List.length_nil]); omega))) | (with_reducible refine both_to ?_ ?_) | (with_reducible refine itet_to ?_) | (with_reducible refine itef_to ?_) | (with_reducible refine ite_to (fun _ => ?_) (fun _ => ?_))) <;> try (exfalso; omega)
  ·rw [Option.some_inj, eq_comm, decide_eq_true_iff]; exact ix_ext hl (fun j a b => h j a (by omega))
 | succ n ih =>
  intro i h0 h1 hn hs h
  rw [r1_Words_L4_eq]; unfold r1_Words_L4_B
  (try dsimp only); (repeat' first | (with_reducible refine G_to ?_ ?_; focus (first | omega | (unfold fits; omega) | (unfold room; (try simp only [List.length_append, List.length_cons, List.length_nil]); omega))) | (with_reducible refine both_to ?_ ?_) | (with_reducible refine itet_to ?_) | (with_reducible refine itef_to ?_) | (with_reducible refine ite_to (fun _ => ?_) (fun _ => ?_))) <;> try (exfalso; omega)
  ·rw [Option.some_inj, eq_comm, decide_eq_false_iff_not]; rintro rfl; contradiction
  ·rename_i hx; exact ih _ (by omega) (by omega) (by omega) hs (below_succ h (Decidable.not_not.1 hx))
theorem r1_Words_spec {a b : List Int} (hs : a.length ≤ 2305843009213693951) : r1_Words a b = some (decide (a = b)) := by
 unfold r1_Words
 (try dsimp only); (repeat' first | (with_reducible refine G_to ?_ ?_; focus (first | omega | (unfold fits; omega) | (unfold room; (try simp only [List.length_append, List.length_cons, List.length_nil]); omega))) | (with_reducible refine both_to ?_ ?_) | (with_reducible refine itet_to ?_) | (with_reducible refine itef_to ?_) | (with_reducible refine ite_to (fun _ => ?_) (fun _ => ?_))) <;> try (exfalso; omega)
 ·rw [Option.some_inj, eq_comm, decide_eq_false_iff_not]; rintro rfl; contradiction
 ·exact r1_Words_L4_spec (by omega) _ 0 (by omega) (by omega) rfl hs (fun j a b => by omega)

theorem r1_May_L6_spec {letters : Int} {w : List Int} (hL : 1 ≤ letters ∧ letters ≤ 4) (hw : w.length ≤ (60 : Int)) : ∀ (n : Nat) (i : Int), 0 ≤ i → i ≤ w.length → (w.length - i).toNat = n → (∀ j : Int, 0 ≤ j → j < i → 0 ≤ ix w j ∧ ix w j < letters) → r1_May_L6 letters w i = some (mayE letters w) := by
 intro n
 induction n with
 | zero =>
  intro i h0 h1 hn h
  rw [r1_May_L6_eq]; unfold r1_May_L6_B
  (try dsimp only); (repeat' first | (with_reducible refine G_to ?_ ?_; focus (first | omega | (unfold fits; omega) | (unfold room; (try simp only [List.length_append, List.length_cons, List.length_nil]); omega))) | (with_reducible refine both_to ?_ ?_) | (with_reducible refine itet_to ?_) | (with_reducible refine itef_to ?_) | (with_reducible refine ite_to (fun _ => ?_) (fun _ => ?_))) <;> try (exfalso; omega)
  ·rw [mayE_ok hL hw (fun j a b => h j a (by omega))]
 | succ n ih =>
  intro i h0 h1 hn h
  rw [r1_May_L6_eq]; unfold r1_May_L6_B
  (try dsimp only); (repeat' first | (with_reducible refine G_to ?_ ?_; focus (first | omega | (unfold fits; omega) | (unfold room; (try simp only [List.length_append, List.length_cons, List.length_nil]); omega))) | (with_reducible refine both_to ?_ ?_) | (with_reducible refine itet_to ?_) | (with_reducible refine itef_to ?_) | (with_reducible refine ite_to (fun _ => ?_) (fun _ => ?_))) <;> try (exfalso; omega)
  ·rw [mayE_bad hL hw (i := i) (by omega) (by omega)]
  ·rw [mayE_bad hL hw (i := i) (by omega) (by omega)]
  ·exact ih _ (by omega) (by omega) (by omega) (below_succ h (by omega))
theorem r1_May_spec {letters : Int} {w : List Int} : r1_May letters w = some (mayE letters w) := by
 unfold r1_May
 (try dsimp only); (repeat' first | (with_reducible refine G_to ?_ ?_; focus (first | omega | (unfold fits; omega) | (unfold room; (try simp only [List.length_append, List.length_cons, List.length_nil]); omega))) | (with_reducible refine both_to ?_ ?_) | (with_reducible refine itet_to ?_) | (with_reducible refine itef_to ?_) | (with_reducible refine ite_to (fun _ => ?_) (fun _ => ?_))) <;> try (exfalso; omega)
 ·rw [mayE_range (by omega)]
 ·rw [mayE_range (by omega)]
 ·rw [mayE_size (by omega) (by omega)]
 ·exact r1_May_L6_spec (by omega) (by omega) _ 0 (by omega) (by omega) rfl (fun j a b => by omega)

theorem word_May_L6_spec {letters : Int} {w : List Int} (hL : 1 ≤ letters ∧ letters ≤ 4) (hw : w.length ≤ (60 : Int)) : ∀ (n : Nat) (i : Int), 0 ≤ i → i ≤ w.length → (w.length - i).toNat = n → (∀ j : Int, 0 ≤ j → j < i → 0 ≤ ix w j ∧ ix w j < letters) → word_May_L6 letters w i = some (mayE letters w) := by
 intro n
 induction n with
 | zero =>
  intro i h0 h1 hn h
  rw [word_May_L6_eq]; unfold word_May_L6_B
  (try dsimp only); (repeat' first | (with_reducible refine G_to ?_ ?_; focus (first | omega | (unfold fits; omega) | (unfold room; (try simp only [List.length_append, List.length_cons, List.length_nil]); omega))) | (with_reducible refine both_to ?_ ?_) | (with_reducible refine itet_to ?_) | (with_reducible refine itef_to ?_) | (with_reducible refine ite_to (fun _ => ?_) (fun _ => ?_))) <;> try (exfalso; omega)
  ·rw [mayE_ok hL hw (fun j a b => h j a (by omega))]
 | succ n ih =>
  intro i h0 h1 hn h
  rw [word_May_L6_eq]; unfold word_May_L6_B
  (try dsimp only); (repeat' first | (with_reducible refine G_to ?_ ?_; focus (first | omega | (unfold fits; omega) | (unfold room; (try simp only [List.length_append, List.length_cons, List.length_nil]); omega))) | (with_reducible refine both_to ?_ ?_) | (with_reducible refine itet_to ?_) | (with_reducible refine itef_to ?_) | (with_reducible refine ite_to (fun _ => ?_) (fun _ => ?_))) <;> try (exfalso; omega)
  ·rw [mayE_bad hL hw (i := i) (by omega) (by omega)]
  ·rw [mayE_bad hL hw (i := i) (by omega) (by omega)]
  ·exact ih _ (by omega) (by omega) (by omega) (below_succ h (by omega))
theorem word_May_spec {letters : Int} {w : List Int} : word_May letters w = some (mayE letters w) := by
 unfold word_May
 (try dsimp only); (repeat' first | (with_reducible refine G_to ?_ ?_; focus (first | omega | (unfold fits; omega) | (unfold room; (try simp only [List.length_append, List.length_cons, List.length_nil]); omega))) | (with_reducible refine both_to ?_ ?_) | (with_reducible refine itet_to ?_) | (with_reducible refine itef_to ?_) | (with_reducible refine ite_to (fun _ => ?_) (fun _ => ?_))) <;> try (exfalso; omega)
 ·rw [mayE_range (by omega)]
 ·rw [mayE_range (by omega)]
 ·rw [mayE_size (by omega) (by omega)]
 ·exact word_May_L6_spec (by omega) (by omega) _ 0 (by omega) (by omega) rfl (fun j a b => by omega)

theorem lyndon_may_L2_spec {l : List (List Int)} (hs : l.length ≤ 1000) : ∀ (n : Nat) (i : Int), 0 ≤ i → i ≤ l.length → (l.length - i).toNat = n → lyndon_may_L2 l i = some (((l.drop i.toNat).map (mayE 4)).foldr (fun x y => if x = 0 then y else x) 0) := by
 intro n
 induction n with
 | zero =>
  intro i h0 h1 hn
  rw [lyndon_may_L2_eq]; unfold lyndon_may_L2_B
  (try dsimp only); (repeat' first | (with_reducible refine G_to ?_ ?_; focus (first | omega | (unfold fits; omega) | (unfold room; (try simp only [List.length_append, List.length_cons, List.length_nil]); omega))) | (with_reducible refine both_to ?_ ?_) | (with_reducible refine itet_to ?_) | (with_reducible refine itef_to ?_) | (with_reducible refine ite_to (fun _ => ?_) (fun _ => ?_))) <;> try (exfalso; omega)
  rw [List.drop_of_length_le (by omega)]; rfl
 | succ n ih =>
  intro i h0 h1 hn
  rw [lyndon_may_L2_eq]; unfold lyndon_may_L2_B
  (try dsimp only); (repeat' first | (with_reducible refine G_to ?_ ?_; focus (first | omega | (unfold fits; omega) | (unfold room; (try simp only [List.length_append, List.length_cons, List.length_nil]); omega))) | (with_reducible refine both_to ?_ ?_) | (with_reducible refine itet_to ?_) | (with_reducible refine itef_to ?_) | (with_reducible refine ite_to (fun _ => ?_) (fun _ => ?_))) <;> try (exfalso; omega)
  refine bind_to (y := mayE 4 (ix l i)) word_May_spec ?_
  rw [ix_drop h0 (by omega), List.map_cons, List.foldr_cons]
  (try dsimp only); (repeat' first | (with_reducible refine G_to ?_ ?_; focus (first | omega | (unfold fits; omega) | (unfold room; (try simp only [List.length_append, List.length_cons, List.length_nil]); omega))) | (with_reducible refine both_to ?_ ?_) | (with_reducible refine itet_to ?_) | (with_reducible refine itef_to ?_) | (with_reducible refine ite_to (fun _ => ?_) (fun _ => ?_))) <;> try (exfalso; omega)
  ·rename_i h; rw [if_neg h]
  ·rename_i h; rw [if_pos (Decidable.not_not.1 h)]; exact ih _ (by omega) (by omega) (by omega)
theorem lyndon_may1 {a : List Int} : lyndon_may [a] = some (mayE 4 a) := by
 unfold lyndon_may
 rw [lyndon_may_L2_spec (by simp) _ 0 (by omega) (by omega) rfl]
 simp; omega
theorem lyndon_may2 {a b : List Int} : lyndon_may [a, b] = some (if mayE 4 a = 0 then mayE 4 b else mayE 4 a) := by
 unfold lyndon_may
 rw [lyndon_may_L2_spec (by simp) _ 0 (by omega) (by omega) rfl]
 simp; split <;> omega

/-! ### arrays and lists -/
section
variable {α : Type} [Inhabited α]
theorem ixA (d : Array α) (n : Nat) : ix d.toList (n : Int) = d[n]! := by
 unfold ix
 rw [Int.toNat_natCast, List.getD_eq_getElem?_getD, Array.getElem?_toList, getElem!_def]
 cases h : d[n]? <;> rfl
theorem setA (d : Array α) (i : Nat) (x : α) : d.toList.set i x = (d.setIfInBounds i x).toList := by simp
theorem swpA (d : Array α) (i j : Nat) : (d.toList.set i d[j]!).set j d[i]! = (Go.Sort.swp d i j).toList := by
 unfold Go.Sort.swp; rw [setA, setA]
theorem swpZ (d : Array α) (i j : Nat) : (Go.Sort.swp d i j).size = d.size := by unfold Go.Sort.swp; simp
end

/-! ### bits: math/bits.Len, the next power of two -/
theorem wrapU64 {x : Int} (h0 : 0 ≤ x) (h1 : x < 18446744073709551616) : IntKind.wrap .u64 x = x := by
 unfold IntKind.wrap
 simp [IntKind.bits, IntKind.signed]
 omega
theorem wrapU8 {x : Int} (h0 : 0 ≤ x) (h1 : x < 256) : IntKind.wrap .u8 x = x := by
 unfold IntKind.wrap
 simp [IntKind.bits, IntKind.signed]
 omega
theorem wrapI64 {x : Int} (h0 : 0 ≤ x) (h1 : x < 9223372036854775808) : IntKind.wrap .i64 x = x := by
 unfold IntKind.wrap
 simp [IntKind.bits, IntKind.signed]
 omega
/-- v is the number of bits of x. -/
def BL (x v : Int) : Prop := 0 ≤ v ∧ v ≤ 32 ∧ x < 2 ^ v.toNat ∧ (0 < x → (2 : Int) ^ v.toNat ≤ 2 * x)
def bTbl : List UInt8 := [0, 1, 2, 2, 3, 3, 3, 3, 4, 4, 4, 4, 4, 4, 4, 4, 5, 5, 5, 5, 5, 5, 5, 5, 5, 5, 5, 5, 5, 5, 5, 5, 6, 6, 6, 6, 6, 6, 6, 6, 6, 6, 6, 6, 6, 6, 6, 6, 6, 6, 6, 6, 6, 6, 6, 6, 6, 6, 6, 6, 6, 6, 6, 6, 7, 7, 7, 7, 7, 7, 7, 7, 7, 7, 7, 7, 7, 7, 7, 7, 7, 7, 7, 7, 7, 7, 7, 7, 7, 7, 7, 7, 7, 7, 7, 7, 7, 7, 7, 7, 7, 7, 7, 7, 7, 7, 7, 7, 7, 7, 7, 7, 7, 7, 7, 7, 7, 7, 7, 7, 7, 7, 7, 7, 7, 7, 7, 7, 8, 8, 8, 8, 8, 8, 8, 8, 8, 8, 8, 8, 8, 8, 8, 8, 8, 8, 8, 8, 8, 8, 8, 8, 8, 8, 8, 8, 8, 8, 8, 8, 8, 8, 8, 8, 8, 8, 8, 8, 8, 8, 8, 8, 8, 8, 8, 8, 8, 8, 8, 8, 8, 8, 8, 8, 8, 8, 8, 8, 8, 8, 8, 8, 8, 8, 8, 8, 8, 8, 8, 8, 8, 8, 8, 8, 8, 8, 8, 8, 8, 8, 8, 8, 8, 8, 8, 8, 8, 8, 8, 8, 8, 8, 8, 8, 8, 8, 8, 8, 8, 8, 8, 8, 8, 8, 8, 8, 8, 8, 8, 8, 8, 8, 8, 8, 8, 8, 8, 8, 8, 8, 8, 8, 8, 8, 8, 8]
theorem bTbl_all : (List.range 256).all (fun x => decide ((bTbl.getD x 0).toNat ≤ 8 ∧ x < 2 ^ (bTbl.getD x 0).toNat ∧ (x = 0 ∨ 2 ^ (bTbl.getD x 0).toNat ≤ 2 * x))) = true := by decide +kernel
theorem bTbl_len : bTbl.length = 256 := by decide +kernel
theorem bits9 {x n : Int} (h0 : 0 ≤ x) (h1 : x < 256) (n0 : 0 ≤ n) (n1 : n ≤ 100) : ∃ v, bits_Len64_J9 x n = some (n + v) ∧ v ≤ 8 ∧ BL x v := by
 have ha := bTbl_all
 rw [List.all_eq_true] at ha
 have hx := ha x.toNat (by rw [List.mem_range]; omega)
 simp only [decide_eq_true_eq] at hx
 obtain ⟨k1, k2, k3⟩ := hx
 have e : bits_Len64_J9 x n = G (0 ≤ IntKind.wrap .u8 x ∧ IntKind.wrap .u8 x < (bTbl.length : Int)) (G (fits (n + IntKind.wrap .i64 (bAt bTbl (IntKind.wrap .u8 x)))) (some (n + IntKind.wrap .i64 (bAt bTbl (IntKind.wrap .u8 x))))) := rfl
 have eb : bAt bTbl x = ((bTbl.getD x.toNat 0).toNat : Int) := rfl
 rw [e, wrapU8 h0 h1, eb, bTbl_len]
 generalize (bTbl.getD x.toNat 0).toNat = t at *
 rw [wrapI64 (by omega) (by omega), G_pos (by omega), G_pos (by unfold fits; omega)]
 have h2 : (2 : Int) ^ t = ((2 ^ t : Nat) : Int) := by simp
 exact ⟨t, rfl, by omega, by omega, by omega, by rw [Int.toNat_natCast, h2]; omega, fun hp => by rw [Int.toNat_natCast, h2]; omega⟩
theorem ishr_eq {x : Int} {k : Nat} (hk : k ≤ 64) : ishr .u64 x (k : Int) = x / 2 ^ k := by
 unfold ishr
 rw [Int.toNat_natCast, show min k (IntKind.bits .u64) = k from Nat.min_eq_left hk]
 exact Int.fdiv_eq_ediv_of_nonneg _ (by
  have : (2 : Int) ^ k = ((2 ^ k : Nat) : Int) := by simp
  rw [this]; exact Int.natCast_nonneg _)
theorem BL.up {x v : Int} {k : Nat} (h : BL (x / 2 ^ k) v) (hx : (2 : Int) ^ k ≤ x) (hv : v + k ≤ 32) : BL x (k + v) := by
 obtain ⟨a, b, c, d⟩ := h
 have hk : (0 : Int) < 2 ^ k := by
  have : (2 : Int) ^ k = ((2 ^ k : Nat) : Int) := by simp
  have := Nat.two_pow_pos k
  omega
 have e : ((k : Int) + v).toNat = k + v.toNat := by omega
 have hm := Int.mul_ediv_add_emod x (2 ^ k)
 have hr := Int.emod_nonneg x (by omega : (2 : Int) ^ k ≠ 0)
 have hr2 := Int.emod_lt_of_pos x hk
 have hq : 1 ≤ x / 2 ^ k := by
  have := (Int.le_ediv_iff_mul_le hk).2 (by omega : 1 * (2 : Int) ^ k ≤ x)
  exact this
 refine ⟨by omega, by omega, ?_, fun _ => ?_⟩
 ·rw [e, Int.pow_add]
  have h1 : (2 : Int) ^ k * (x / 2 ^ k + 1) ≤ 2 ^ k * 2 ^ v.toNat := Int.mul_le_mul_of_nonneg_left (by omega) (by omega)
  rw [Int.mul_add] at h1
  omega
 ·rw [e, Int.pow_add]
  have h1 : (2 : Int) ^ k * 2 ^ v.toNat ≤ 2 ^ k * (2 * (x / 2 ^ k)) := Int.mul_le_mul_of_nonneg_left (d (by omega)) (by omega)
  rw [← Int.mul_assoc, Int.mul_comm _ 2, Int.mul_assoc] at h1
  omega
theorem bits6 {x n : Int} (h0 : 0 ≤ x) (h1 : x < 65536) (n0 : 0 ≤ n) (n1 : n ≤ 64) : ∃ v, bits_Len64_J6 x n = some (n + v) ∧ v ≤ 16 ∧ BL x v := by
 unfold bits_Len64_J6
 by_cases c : 256 ≤ x
 ·rw [if_pos (decide_eq_true c), G_pos (by omega), G_pos (by unfold fits; omega), show (8 : Int) = ((8 : Nat) : Int) from rfl, ishr_eq (by omega)]
  have e8 : (2 : Int) ^ 8 = 256 := rfl
  obtain ⟨v, e, h, b⟩ := bits9 (x := x / 2 ^ 8) (n := n + ((8 : Nat) : Int)) (by omega) (by omega) (by omega) (by omega)
  exact ⟨((8 : Nat) : Int) + v, by rw [e, Int.add_assoc], by omega, b.up (by omega) (by omega)⟩
 ·rw [if_neg (by simpa using c)]
  obtain ⟨v, e, h, b⟩ := bits9 (x := x) (n := n) h0 (by omega) (by omega) (by omega)
  exact ⟨v, e, by omega, b⟩
theorem bits3 {x n : Int} (h0 : 0 ≤ x) (h1 : x < 4294967296) (n0 : 0 ≤ n) (n1 : n ≤ 32) : ∃ v, bits_Len64_J3 x n = some (n + v) ∧ v ≤ 32 ∧ BL x v := by
 unfold bits_Len64_J3
 by_cases c : 65536 ≤ x
 ·rw [if_pos (decide_eq_true c), G_pos (by omega), G_pos (by unfold fits; omega), show (16 : Int) = ((16 : Nat) : Int) from rfl, ishr_eq (by omega)]
  have e8 : (2 : Int) ^ 16 = 65536 := rfl
  obtain ⟨v, e, h, b⟩ := bits6 (x := x / 2 ^ 16) (n := n + ((16 : Nat) : Int)) (by omega) (by omega) (by omega) (by omega)
  exact ⟨((16 : Nat) : Int) + v, by rw [e, Int.add_assoc], by omega, b.up (by omega) (by omega)⟩
 ·rw [if_neg (by simpa using c)]
  obtain ⟨v, e, h, b⟩ := bits6 (x := x) (n := n) h0 (by omega) (by omega) (by omega)
  exact ⟨v, e, by omega, b⟩
theorem bits_spec {x : Int} (h0 : 0 ≤ x) (h1 : x < 4294967296) : ∃ v, bits_Len x = some v ∧ BL x v := by
 unfold bits_Len bits_Len64
 obtain ⟨v, e, h, b⟩ := bits3 (x := x) (n := 0) h0 h1 (by omega) (by omega)
 refine ⟨v, ?_, b⟩
 rw [if_neg (by simp only [decide_eq_true_eq]; omega), e, Int.zero_add]
 rfl
theorem nextPow {n : Int} (h0 : 8 ≤ n) (h1 : n ≤ 1000000000) : ∃ M, slices_nextPowerOfTwo n = some M ∧ 0 < M ∧ M ≤ 2 * n := by
 unfold slices_nextPowerOfTwo
 rw [wrapU64 (by omega) (by omega)]
 obtain ⟨v, e, b1, b2, b3, b4⟩ := bits_spec (x := n) (by omega) (by omega)
 have b4 := b4 (by omega)
 have h2 : (2 : Int) ^ v.toNat = ((2 ^ v.toNat : Nat) : Int) := by simp
 refine ⟨2 ^ v.toNat, bind_to e ?_, by omega, b4⟩
 rw [G_pos b1]
 unfold ishl
 rw [show min v.toNat (IntKind.bits .u64) = v.toNat from Nat.min_eq_left (by show v.toNat ≤ 64; omega), Int.one_mul, wrapU64 (by omega) (by omega)]
theorem iandU {x y : Int} (h0 : 0 ≤ y) (h1 : y < 4294967296) : 0 ≤ iand .u64 x y ∧ iand .u64 x y ≤ y := by
 unfold iand
 have h : (BitVec.ofInt IntKind.u64.bits x &&& BitVec.ofInt IntKind.u64.bits y).toNat ≤ y.toNat := by
  show (BitVec.ofInt 64 x &&& BitVec.ofInt 64 y).toNat ≤ y.toNat
  rw [BitVec.toNat_and]
  refine Nat.le_trans Nat.and_le_right ?_
  rw [BitVec.toNat_ofInt]
  have : y % ((2 ^ 64 : Nat) : Int) = y := Int.emod_eq_of_lt h0 (by omega)
  rw [this]
  exact Nat.le_refl _
 generalize (BitVec.ofInt IntKind.u64.bits x &&& BitVec.ofInt IntKind.u64.bits y).toNat = t at *
 rw [wrapU64 (by omega) (by omega)]
 omega

theorem slices_Grow_spec {n : Int} (h0 : 0 ≤ n) (h : n * 8 ≤ 140737488355328) : slices_Grow n = some [] := by
 unfold slices_Grow
 (try dsimp only); (repeat' first | (with_reducible refine G_to ?_ ?_; focus (first | omega | (unfold fits; omega) | (unfold room; (try simp only [List.length_append, List.length_cons, List.length_nil]); omega))) | (with_reducible refine both_to ?_ ?_) | (with_reducible refine itet_to ?_) | (with_reducible refine itef_to ?_) | (with_reducible refine ite_to (fun _ => ?_) (fun _ => ?_))) <;> try (exfalso; omega)
 all_goals first | rfl | (rw [show ((0 : Int)).toNat = 0 from rfl, List.take_zero])
theorem slices_Concat_spec {ls : List (List Int)} (h : ls.length ≤ 1000) (hl : (ls.flatten.length : Int) * 8 ≤ 140737488355328) : slices_Concat ls = some ls.flatten := by
 have sum : ∀ (k : Nat), ((ls.take k).flatten.length : Int) ≤ ls.flatten.length := by
  intro k
  have : ls.flatten = (ls.take k).flatten ++ (ls.drop k).flatten := by rw [← List.flatten_append, List.take_append_drop]
  rw [this, List.length_append]; omega
 have tk : ∀ t : Int, 0 ≤ t → t < ls.length → (ls.take (t + 1).toNat).flatten = (ls.take t.toNat).flatten ++ ix ls t := fun t h0 h1 => by
  rw [ix_take h0 h1, List.flatten_append]; simp
 unfold slices_Concat
 have k2 : ∀ (n : Nat) (t : Int), (ls.length - t).toNat = n → 0 ≤ t → t ≤ ls.length → slices_Concat_L11 ls t (ls.take t.toNat).flatten = some ls.flatten := by
  intro n
  induction n with
  | zero =>
   intro t hn h0 h1
   rw [slices_Concat_L11_eq]; unfold slices_Concat_L11_B
   rw [List.take_of_length_le (by omega), if_neg (by simp only [decide_eq_true_eq]; omega)]
  | succ n ih =>
   intro t hn h0 h1
   have e := tk t h0 (by omega)
   have s := sum (t + 1).toNat
   rw [e, List.length_append] at s
   rw [slices_Concat_L11_eq]; unfold slices_Concat_L11_B
   (try dsimp only); (repeat' first | (with_reducible refine G_to ?_ ?_; focus (first | omega | (unfold fits; omega) | (unfold room; (try simp only [List.length_append, List.length_cons, List.length_nil]); omega))) | (with_reducible refine both_to ?_ ?_) | (with_reducible refine itet_to ?_) | (with_reducible refine itef_to ?_) | (with_reducible refine ite_to (fun _ => ?_) (fun _ => ?_))) <;> try (exfalso; omega)
   rw [← e]
   exact ih (t + 1) (by omega) (by omega) (by omega)
 have k1 : ∀ (n : Nat) (t : Int), (ls.length - t).toNat = n → 0 ≤ t → t ≤ ls.length → slices_Concat_L3 ls ((ls.take t.toNat).flatten.length : Int) t = some ls.flatten := by
  intro n
  induction n with
  | zero =>
   intro t hn h0 h1
   rw [slices_Concat_L3_eq]; unfold slices_Concat_L3_B
   rw [List.take_of_length_le (by omega), if_neg (by simp only [decide_eq_true_eq]; omega)]
   refine bind_to (slices_Grow_spec (by omega) hl) ?_
   have := k2 _ 0 rfl (by omega) (by omega)
   simpa using this
  | succ n ih =>
   intro t hn h0 h1
   have e := tk t h0 (by omega)
   have s := sum (t + 1).toNat
   have ih' := ih (t + 1) (by omega) (by omega) (by omega)
   rw [e, List.length_append] at s ih'
   rw [slices_Concat_L3_eq]; unfold slices_Concat_L3_B
   (try dsimp only); (repeat' first | (with_reducible refine G_to ?_ ?_; focus (first | omega | (unfold fits; omega) | (unfold room; (try simp only [List.length_append, List.length_cons, List.length_nil]); omega))) | (with_reducible refine both_to ?_ ?_) | (with_reducible refine itet_to ?_) | (with_reducible refine itef_to ?_) | (with_reducible refine ite_to (fun _ => ?_) (fun _ => ?_))) <;> try (exfalso; omega)
   rw [← ih']; congr 1
 have := k1 _ 0 rfl (by omega) (by omega)
 simpa using this

/-! ### the order of dictionaries -/
def lcmp : List Int → List Int → Int
 | [], [] => 0
 | [], _ :: _ => -1
 | _ :: _, [] => 1
 | a :: s, b :: t => if a < b then -1 else if b < a then 1 else lcmp s t
theorem compare_spec (a b : List Int) (ha : a.length ≤ 1000) : slices_Compare a b = some (lcmp a b) := by
 have go : ∀ (n : Nat) (i : Nat), a.length - i = n → i ≤ a.length → i ≤ b.length → slices_Compare_L2 a b i = some (lcmp (a.drop i) (b.drop i)) := by
  intro n
  induction n with
  | zero =>
   intro i hn h0 h1
   rw [slices_Compare_L2_eq]; unfold slices_Compare_L2_B
   rw [if_neg (by simp only [decide_eq_true_eq]; omega), List.drop_of_length_le (by omega : a.length ≤ i)]
   by_cases c : a.length < b.length
   ·rw [if_pos (by simp only [decide_eq_true_eq]; omega), List.drop_eq_getElem_cons (by omega : i < b.length)]; rfl
   ·rw [if_neg (by simp only [decide_eq_true_eq]; omega), List.drop_of_length_le (by omega : b.length ≤ i)]; rfl
  | succ n ih =>
   intro i hn h0 h1
   rw [slices_Compare_L2_eq]; unfold slices_Compare_L2_B
   rw [if_pos (by simp only [decide_eq_true_eq]; omega), G_pos (by omega), List.drop_eq_getElem_cons (by omega : i < a.length)]
   by_cases c : b.length ≤ i
   ·rw [if_pos (by simp only [decide_eq_true_eq]; omega), List.drop_of_length_le (by omega : b.length ≤ i)]; rfl
   ·rw [if_neg (by simp only [decide_eq_true_eq]; omega), G_pos (by omega), List.drop_eq_getElem_cons (by omega : i < b.length)]
    have e1 : ix a (i : Int) = a[i] := by unfold ix; simp [List.getD_eq_getElem?_getD, List.getElem?_eq_getElem (by omega : i < a.length)]
    have e2 : ix b (i : Int) = b[i] := by unfold ix; simp [List.getD_eq_getElem?_getD, List.getElem?_eq_getElem (by omega : i < b.length)]
    rw [e1, e2]
    have e3 : cmp_Compare a[i] b[i] = some (if a[i] < b[i] then -1 else if b[i] < a[i] then 1 else 0) := by
     unfold cmp_Compare cmp_isNaN
     simp only [Option.bind_some]
     rw [if_neg (by simp), if_neg (by simp)]
     by_cases c1 : a[i] < b[i]
     ·simp [c1]
     ·by_cases c2 : b[i] < a[i] <;> simp [c1, c2]
    rw [e3, Option.bind_some]
    show _ = some (if a[i] < b[i] then -1 else if b[i] < a[i] then 1 else lcmp _ _)
    by_cases c1 : a[i] < b[i]
    ·simp [c1]
    ·by_cases c2 : b[i] < a[i]
     ·simp [c1, c2]
     ·rw [if_neg c1, if_neg c2, if_neg c1, if_neg c2, if_neg (by simp), G_pos (by unfold fits; omega)]
      exact_mod_cast ih (i + 1) (by omega) (by omega) (by omega)
 have := go _ 0 rfl (by omega) (by omega)
 unfold slices_Compare
 simpa using this
theorem lcmp_self : ∀ a : List Int, lcmp a a = 0
 | [] => rfl
 | a :: s => by unfold lcmp; rw [if_neg (by omega), if_neg (by omega)]; exact lcmp_self s
theorem lcmp_eq : ∀ {a b : List Int}, lcmp a b = 0 → a = b
 | [], [], _ => rfl
 | [], _ :: _, h => by cases h
 | _ :: _, [], h => by cases h
 | a :: s, b :: t, h => by
  unfold lcmp at h
  split at h
  ·cases h
  ·split at h
   ·cases h
   ·rw [lcmp_eq h, show a = b by omega]
theorem lcmp_range : ∀ (a b : List Int), lcmp a b = 0 ∨ lcmp a b = 1 ∨ lcmp a b = -1
 | [], [] => .inl rfl
 | [], _ :: _ => .inr (.inr rfl)
 | _ :: _, [] => .inr (.inl rfl)
 | a :: s, b :: t => by
  unfold lcmp
  split
  ·exact .inr (.inr rfl)
  ·split
   ·exact .inr (.inl rfl)
   ·exact lcmp_range s t
theorem lcmp_flip : ∀ (a b : List Int), lcmp b a = - lcmp a b
 | [], [] => rfl
 | [], _ :: _ => rfl
 | _ :: _, [] => rfl
 | a :: s, b :: t => by
  unfold lcmp
  by_cases c1 : a < b
  ·rw [if_neg (by omega), if_pos c1, if_pos c1]; rfl
  ·by_cases c2 : b < a
   ·rw [if_pos c2, if_neg c1, if_pos c2]
   ·rw [if_neg c2, if_neg c1, if_neg c1, if_neg c2]; exact lcmp_flip s t
theorem lcmp_trans : ∀ {a b c : List Int}, lcmp a b < 0 → lcmp b c < 0 → lcmp a c < 0
 | [], [], _, h, _ => by simp [lcmp] at h
 | [], _ :: _, [], _, h => by simp [lcmp] at h
 | [], _ :: _, _ :: _, _, _ => by simp [lcmp]
 | _ :: _, [], _, h, _ => by simp [lcmp] at h
 | _ :: _, _ :: _, [], _, h => by simp [lcmp] at h
 | a :: s, b :: t, c :: u, h1, h2 => by
  unfold lcmp at h1 h2 ⊢
  by_cases c1 : a < b
  ·by_cases c2 : b < c
   ·rw [if_pos (by omega)]; decide
   ·rw [if_neg c2] at h2
    by_cases c3 : c < b
    ·rw [if_pos c3] at h2; omega
    ·rw [if_pos (by omega)]; decide
  ·rw [if_neg c1] at h1
   by_cases c4 : b < a
   ·rw [if_pos c4] at h1; omega
   ·rw [if_neg c4] at h1
    by_cases c2 : b < c
    ·rw [if_pos (by omega)]; decide
    ·rw [if_neg c2] at h2
     by_cases c3 : c < b
     ·rw [if_pos c3] at h2; omega
     ·rw [if_neg c3] at h2
      rw [if_neg (by omega), if_neg (by omega)]
      exact lcmp_trans h1 h2
theorem ahead_spec (a b : List Int) (ha : a.length ≤ 1000) : r31_Ahead a b = some (decide (lcmp a b < 0)) := by
 have go : ∀ (n : Nat) (i : Nat), a.length - i = n → i ≤ a.length → i ≤ b.length → r31_Ahead_L2 a b i = some (decide (lcmp (a.drop i) (b.drop i) < 0)) := by
  intro n
  induction n with
  | zero =>
   intro i hn h0 h1
   rw [r31_Ahead_L2_eq]; unfold r31_Ahead_L2_B
   rw [if_neg (by simp only [decide_eq_true_eq]; omega), List.drop_of_length_le (by omega : a.length ≤ i)]
   by_cases c : a.length < b.length
   ·rw [List.drop_eq_getElem_cons (by omega : i < b.length)]; simp [lcmp, c]
   ·rw [List.drop_of_length_le (by omega : b.length ≤ i)]; simp [lcmp, c]
  | succ n ih =>
   intro i hn h0 h1
   rw [r31_Ahead_L2_eq]; unfold r31_Ahead_L2_B
   rw [if_pos (by simp only [decide_eq_true_eq]; omega), List.drop_eq_getElem_cons (by omega : i < a.length)]
   by_cases c : b.length ≤ i
   ·rw [if_neg (by simp only [decide_eq_true_eq]; omega), List.drop_of_length_le (by omega : b.length ≤ i), decide_eq_false (by omega)]; rfl
   ·rw [if_pos (by simp only [decide_eq_true_eq]; omega), G_pos (by omega), G_pos (by omega), List.drop_eq_getElem_cons (by omega : i < b.length)]
    have e1 : ix a (i : Int) = a[i] := by unfold ix; simp [List.getD_eq_getElem?_getD, List.getElem?_eq_getElem (by omega : i < a.length)]
    have e2 : ix b (i : Int) = b[i] := by unfold ix; simp [List.getD_eq_getElem?_getD, List.getElem?_eq_getElem (by omega : i < b.length)]
    rw [e1, e2]
    by_cases c1 : a[i] < b[i]
    ·rw [if_pos (by simp only [decide_eq_true_eq]; omega), G_pos (by omega), G_pos (by omega)]
     simp [lcmp, c1]
    ·by_cases c2 : b[i] < a[i]
     ·rw [if_pos (by simp only [decide_eq_true_eq]; omega), G_pos (by omega), G_pos (by omega)]
      simp [lcmp, c1, c2]
     ·rw [if_neg (by simp only [decide_eq_true_eq]; omega), G_pos (by unfold fits; omega)]
      have : lcmp (a[i] :: a.drop (i + 1)) (b[i] :: b.drop (i + 1)) = lcmp (a.drop (i + 1)) (b.drop (i + 1)) := by simp [lcmp, c1, c2]
      rw [this]
      exact_mod_cast ih (i + 1) (by omega) (by omega) (by omega)
 have := go _ 0 rfl (by omega) (by omega)
 unfold r31_Ahead
 simpa using this
/-! ### places of a word, sorted by what stands from them on -/
structure Pl (w : List Int) where
 val : Int
 ok : 0 ≤ val ∧ val ≤ w.length
instance plI (w : List Int) : Inhabited (Pl w) := ⟨⟨0, by omega⟩⟩
def cw {w : List Int} (x y : Pl w) : Int := lcmp (w.drop x.1.toNat) (w.drop y.1.toNat)
def ltW {w : List Int} (x y : Pl w) : Bool := decide (cw x y < 0)
def tl {w : List Int} (d : Array (Pl w)) : List Int := d.toList.map Pl.val
@[simp] theorem tlen {w : List Int} (d : Array (Pl w)) : (tl d).length = d.size := by unfold tl; simp
theorem ixW {w : List Int} (d : Array (Pl w)) (n : Nat) : ix (tl d) (n : Int) = (d[n]!).1 := by
 unfold ix tl
 rw [Int.toNat_natCast, List.getD_eq_getElem?_getD, List.getElem?_map, Array.getElem?_toList, getElem!_def]
 cases h : d[n]? <;> rfl
theorem setW {w : List Int} (d : Array (Pl w)) (i : Nat) (x : Pl w) : (tl d).set i x.1 = tl (d.setIfInBounds i x) := by unfold tl; simp [List.map_set]
theorem swpW {w : List Int} (d : Array (Pl w)) (i j : Nat) : ((tl d).set i (d[j]!).1).set j (d[i]!).1 = tl (Go.Sort.swp d i j) := by
 unfold Go.Sort.swp; rw [setW, setW]
theorem cut_drop (w : List Int) {x : Int} (h0 : 0 ≤ x) : cut w x w.length = w.drop x.toNat := by
 unfold cut; simp
theorem cmpE {w : List Int} [hw : Nonempty (PLift (w.length ≤ 1000))] (x y : Pl w) : lyndon_Ends_1 x.1 y.1 w = some (cw x y) := by
 have hw := hw.elim (·.down)
 unfold lyndon_Ends_1
 rw [G_pos ⟨x.2.1, x.2.2, by omega⟩, G_pos ⟨y.2.1, y.2.2, by omega⟩, cut_drop w x.2.1, cut_drop w y.2.1, compare_spec _ _ (by rw [List.length_drop]; omega)]
 rfl
theorem ltW_iff {w : List Int} {x y : Pl w} : ltW x y = true ↔ cw x y < 0 := by unfold ltW; rw [decide_eq_true_iff]
theorem ltW_no {w : List Int} {x y : Pl w} : ltW x y = false ↔ ¬ cw x y < 0 := by rw [← ltW_iff]; cases ltW x y <;> simp
theorem lcmp_ntrans {a b c : List Int} (h1 : ¬ lcmp a b < 0) (h2 : ¬ lcmp b c < 0) : ¬ lcmp a c < 0 := by
 intro h3
 have f1 := lcmp_flip a b
 have f2 := lcmp_flip b c
 rcases lcmp_range a b with e | e | e
 ·rw [lcmp_eq e] at h3; exact h2 h3
 ·exact h2 (lcmp_trans (by omega) h3)
 ·omega
theorem swoW {w : List Int} : Go.Sort.SWO (ltW (w := w)) where
 irrefl x := by rw [ltW_no]; unfold cw; rw [lcmp_self]; omega
 trans x y z h1 h2 := by rw [ltW_iff] at *; exact lcmp_trans h1 h2
 ntrans x y z h1 h2 := by rw [ltW_no] at *; exact lcmp_ntrans h1 h2
/-! ### slices' pdqsort CmpFunc: what it computes is Go.Sort's -/
section
variable {w : List Int} [Nonempty (PLift (w.length ≤ 1000))]
theorem ins4CmpFunc (a : Nat) (r1 : Int → List Int → Option (List Int)) (i : Int) (hi : 0 ≤ i ∧ i < 1000000000) : ∀ (j : Nat) (d : Array (Pl w)), j < d.size → d.size ≤ 1000000000 →
  slices_insertionSortCmpFunc_L4 a w i r1 j (tl d) = r1 (i + 1) (tl (Go.Sort.insInner (ltW (w := w)) a j d))
 | 0, d, hj, hd => by
  have := (tlen d)
  rw [slices_insertionSortCmpFunc_L4_eq]; unfold slices_insertionSortCmpFunc_L4_B
  rw [if_neg (by simp), G_pos (by unfold fits; omega)]
  rfl
 | j + 1, d, hj, hd => by
  have hl := (tlen d)
  rw [slices_insertionSortCmpFunc_L4_eq]; unfold slices_insertionSortCmpFunc_L4_B
  unfold Go.Sort.insInner
  rw [show ((j + 1 : Nat) : Int) - 1 = (j : Int) by omega]
  by_cases c : a < j + 1
  ·rw [if_pos (by simp only [decide_eq_true_eq]; omega)]
   (repeat (rw [G_pos (by first | omega | (unfold fits; omega) | (simp only [List.length_set, tlen]; omega))]))
   rw [ixW, ixW, cmpE]
   show (if (ltW (w := w)) d[j + 1]! d[j]! = true then _ else _) = _
   rw [show decide (j + 1 > a) = true from decide_eq_true c, Bool.true_and]
   cases (ltW (w := w)) d[j + 1]! d[j]! with
   | true =>
    rw [if_pos rfl, if_pos rfl]
    (repeat (rw [G_pos (by first | omega | (unfold fits; omega) | (simp only [List.length_set, tlen]; omega))]))
    rw [Int.toNat_natCast, Int.toNat_natCast, swpW]
    exact ins4CmpFunc a r1 i hi j _ (by rw [swpZ]; omega) (by rw [swpZ]; exact hd)
   | false =>
    rw [if_neg (by simp), if_neg (by simp)]
    (repeat (rw [G_pos (by first | omega | (unfold fits; omega) | (simp only [List.length_set, tlen]; omega))]))
  ·rw [if_neg (by simp only [decide_eq_true_eq]; omega), G_pos (by unfold fits; omega)]
   rw [show decide (j + 1 > a) = false from decide_eq_false c, Bool.false_and, if_neg (by simp)]
theorem insInnerZCmpFunc (a : Nat) : ∀ (j : Nat) (d : Array (Pl w)), (Go.Sort.insInner (ltW (w := w)) a j d).size = d.size
 | 0, _ => rfl
 | j + 1, d => by
  unfold Go.Sort.insInner
  split
  ·rw [insInnerZCmpFunc a j, swpZ]
  ·rfl
theorem ins1CmpFunc (a b : Nat) : ∀ (n i : Nat) (d : Array (Pl w)), b - i = n → i ≤ 1000000001 → b ≤ d.size → d.size ≤ 1000000000 →
  slices_insertionSortCmpFunc_L1 a b w i (tl d) = some (tl (Go.Sort.insOuter (ltW (w := w)) a b i d)) := by
 intro n
 induction n with
 | zero =>
  intro i d hn hi hb hd
  rw [slices_insertionSortCmpFunc_L1_eq]; unfold slices_insertionSortCmpFunc_L1_B
  unfold Go.Sort.insOuter
  rw [if_neg (by simp only [decide_eq_true_eq]; omega), if_neg (by omega)]
 | succ n ih =>
  intro i d hn hi hb hd
  rw [slices_insertionSortCmpFunc_L1_eq]; unfold slices_insertionSortCmpFunc_L1_B
  unfold Go.Sort.insOuter
  rw [if_pos (by simp only [decide_eq_true_eq]; omega), if_pos (by omega), ins4CmpFunc a _ i (by omega) i d (by omega) hd]
  have := ih (i + 1) (Go.Sort.insInner (ltW (w := w)) a i d) (by omega) (by omega) (by rw [insInnerZCmpFunc]; exact hb) (by rw [insInnerZCmpFunc]; exact hd)
  rw [← this]; rfl
theorem insCmpFunc (a b : Nat) (d : Array (Pl w)) (ha : a ≤ b) (hb : b ≤ d.size) (hd : d.size ≤ 1000000000) : slices_insertionSortCmpFunc a b w (tl d) = some (tl (Go.Sort.insertionSort (ltW (w := w)) d a b)) := by
 unfold slices_insertionSortCmpFunc Go.Sort.insertionSort
 (repeat (rw [G_pos (by first | omega | (unfold fits; omega) | (simp only [List.length_set, tlen]; omega))]))
 exact ins1CmpFunc a b _ (a + 1) d rfl (by omega) hb hd
/-! the heap -/
theorem siftCmpFunc (hi first : Nat) : ∀ (n root : Nat) (d : Array (Pl w)), hi - root ≤ n → first + hi ≤ d.size → d.size ≤ 1000000000 → root ≤ 1000000000 →
  slices_siftDownCmpFunc_L1 hi first w root (tl d) = some (tl (Go.Sort.siftDown (ltW (w := w)) hi first root d)) := by
 intro n
 induction n with
 | zero =>
  intro root d hn hf hd hr
  rw [slices_siftDownCmpFunc_L1_eq]; unfold slices_siftDownCmpFunc_L1_B
  unfold Go.Sort.siftDown
  (repeat (rw [G_pos (by first | omega | (unfold fits; omega) | (simp only [List.length_set, tlen]; omega))]))
  rw [if_pos (by simp only [decide_eq_true_eq]; omega), dif_pos (by omega)]
 | succ n ih =>
  intro root d hn hf hd hr
  have hl := (tlen d)
  rw [slices_siftDownCmpFunc_L1_eq]; unfold slices_siftDownCmpFunc_L1_B
  unfold Go.Sort.siftDown
  (repeat (rw [G_pos (by first | omega | (unfold fits; omega) | (simp only [List.length_set, tlen]; omega))]))
  by_cases c : hi ≤ 2 * root + 1
  ·rw [if_pos (by simp only [decide_eq_true_eq]; omega), dif_pos (by omega)]
  ·rw [if_neg (by simp only [decide_eq_true_eq]; omega), dif_neg (by omega)]
   (repeat (rw [G_pos (by first | omega | (unfold fits; omega) | (simp only [List.length_set, tlen]; omega))]))
   have J4 : ∀ ch : Nat, ch < hi → root < ch → slices_siftDownCmpFunc_J4 first w root (tl d) (slices_siftDownCmpFunc_L1 hi first w) ch = some (tl (if !(ltW (w := w)) d[first + root]! d[first + ch]! then d else Go.Sort.siftDown (ltW (w := w)) hi first ch (Go.Sort.swp d (first + root) (first + ch)))) := fun ch h1 h2 => by
    unfold slices_siftDownCmpFunc_J4
    rw [show (first : Int) + (root : Int) = ((first + root : Nat) : Int) by omega, show (first : Int) + (ch : Int) = ((first + ch : Nat) : Int) by omega]
    (repeat (rw [G_pos (by first | omega | (unfold fits; omega) | (simp only [List.length_set, tlen]; omega))]))
    rw [ixW, ixW, cmpE]
    show (if (!(ltW (w := w)) d[first + root]! d[first + ch]!) = true then _ else _) = _
    cases (ltW (w := w)) d[first + root]! d[first + ch]! with
    | true =>
     rw [if_neg (by simp), if_neg (by simp)]
     (repeat (rw [G_pos (by first | omega | (unfold fits; omega) | (simp only [List.length_set, tlen]; omega))]))
     rw [Int.toNat_natCast, Int.toNat_natCast, swpW]
     exact ih ch _ (by omega) (by rw [swpZ]; exact hf) (by rw [swpZ]; exact hd) (by omega)
    | false => rw [if_pos (by simp), if_pos (by simp)]
   have e1 : (2 : Int) * (root : Int) + 1 = ((2 * root + 1 : Nat) : Int) := by omega
   have e2 : ((2 * root + 1 : Nat) : Int) + 1 = ((2 * root + 2 : Nat) : Int) := by omega
   have J3 : ∀ t : Bool, (t = true → 2 * root + 2 < hi) → slices_siftDownCmpFunc_J3 first w root (tl d) (slices_siftDownCmpFunc_L1 hi first w) t = some (tl (if t = true then (if !(ltW (w := w)) d[first + root]! d[first + (2 * root + 2)]! then d else Go.Sort.siftDown (ltW (w := w)) hi first (2 * root + 2) (Go.Sort.swp d (first + root) (first + (2 * root + 2)))) else
     (if !(ltW (w := w)) d[first + root]! d[first + (2 * root + 1)]! then d else Go.Sort.siftDown (ltW (w := w)) hi first (2 * root + 1) (Go.Sort.swp d (first + root) (first + (2 * root + 1)))))) := fun t ht => by
    unfold slices_siftDownCmpFunc_J3
    rw [e1, e2]
    cases t with
    | true => rw [if_pos rfl, if_pos rfl]; (repeat (rw [G_pos (by first | omega | (unfold fits; omega) | (simp only [List.length_set, tlen]; omega))])); exact J4 _ (ht rfl) (by omega)
    | false => rw [if_neg (by simp), if_neg (by simp)]; exact J4 _ (by omega) (by omega)
   rw [e1, e2]
   by_cases c2 : 2 * root + 2 < hi
   ·rw [if_pos (by simp only [decide_eq_true_eq]; omega)]
    rw [show (first : Int) + ((2 * root + 1 : Nat) : Int) = ((first + (2 * root + 1) : Nat) : Int) by omega, show ((first + (2 * root + 1) : Nat) : Int) + 1 = ((first + (2 * root + 1) + 1 : Nat) : Int) by omega]
    (repeat (rw [G_pos (by first | omega | (unfold fits; omega) | (simp only [List.length_set, tlen]; omega))]))
    rw [ixW, ixW, cmpE]
    refine (J3 _ (fun _ => c2)).trans ?_
    rw [show decide (2 * root + 1 + 1 < hi) = true from decide_eq_true c2, Bool.true_and]
    show some (tl (if (ltW (w := w)) d[first + (2 * root + 1)]! d[first + (2 * root + 1) + 1]! = true then _ else _)) = _
    cases (ltW (w := w)) d[first + (2 * root + 1)]! d[first + (2 * root + 1) + 1]! with
    | true => simp [c2]
    | false => simp
   ·rw [if_neg (by simp only [decide_eq_true_eq]; omega), J3 false (by simp), show decide (2 * root + 1 + 1 < hi) = false from decide_eq_false c2, Bool.false_and]
    simp
theorem siftZCmpFunc (hi first : Nat) : ∀ (n root : Nat) (d : Array (Pl w)), hi - root ≤ n → (Go.Sort.siftDown (ltW (w := w)) hi first root d).size = d.size := by
 intro n
 induction n with
 | zero => intro root d hn; unfold Go.Sort.siftDown; rw [dif_pos (by omega)]
 | succ n ih =>
  intro root d hn
  unfold Go.Sort.siftDown
  split
  ·rfl
  ·split
   ·split
    ·rfl
    ·split
     ·rw [ih _ _ (by omega), swpZ]
     ·rfl
   ·split
    ·rfl
    ·rw [ih _ _ (by omega), swpZ]
theorem siftDCmpFunc (lo hi first : Nat) (d : Array (Pl w)) (hf : first + hi ≤ d.size) (hd : d.size ≤ 1000000000) (hl : lo ≤ 1000000000) : slices_siftDownCmpFunc lo hi first w (tl d) = some (tl (Go.Sort.siftDown (ltW (w := w)) hi first lo d)) := by
 unfold slices_siftDownCmpFunc
 exact siftCmpFunc hi first _ lo d (Nat.le_refl _) hf hd hl
theorem heap8CmpFunc (a n : Nat) : ∀ (k : Nat) (d : Array (Pl w)), k ≤ n → a + n ≤ d.size → d.size ≤ 1000000000 → slices_heapSortCmpFunc_L8 a w ((k : Int) - 1) (tl d) = some (tl (Go.Sort.heapPop (ltW (w := w)) a k d))
 | 0, d, hk, ha, hd => by
  rw [slices_heapSortCmpFunc_L8_eq]; unfold slices_heapSortCmpFunc_L8_B
  rw [if_neg (by simp only [decide_eq_true_eq]; omega)]; rfl
 | k + 1, d, hk, ha, hd => by
  have hl := (tlen d)
  rw [slices_heapSortCmpFunc_L8_eq]; unfold slices_heapSortCmpFunc_L8_B
  unfold Go.Sort.heapPop
  rw [show ((k + 1 : Nat) : Int) - 1 = (k : Int) by omega, if_pos (by simp only [decide_eq_true_eq]; omega), show (a : Int) + (k : Int) = ((a + k : Nat) : Int) by omega]
  (repeat (rw [G_pos (by first | omega | (unfold fits; omega) | (simp only [List.length_set, tlen]; omega))]))
  rw [ixW, ixW, Int.toNat_natCast, Int.toNat_natCast, swpW]
  refine bind_to (siftDCmpFunc 0 k a _ (by rw [swpZ]; omega) (by rw [swpZ]; exact hd) (by omega)) ?_
  (repeat (rw [G_pos (by first | omega | (unfold fits; omega) | (simp only [List.length_set, tlen]; omega))]))
  exact heap8CmpFunc a n k _ (by omega) (by rw [siftZCmpFunc _ _ _ _ _ (Nat.le_refl _), swpZ]; exact ha) (by rw [siftZCmpFunc _ _ _ _ _ (Nat.le_refl _), swpZ]; exact hd)
theorem heapBZCmpFunc (hi first : Nat) : ∀ (k : Nat) (d : Array (Pl w)), (Go.Sort.heapBuild (ltW (w := w)) hi first k d).size = d.size
 | 0, _ => rfl
 | k + 1, d => by unfold Go.Sort.heapBuild; rw [heapBZCmpFunc hi first k, siftZCmpFunc _ _ _ _ _ (Nat.le_refl _)]
theorem heap4CmpFunc (a b : Nat) (hab : a ≤ b) : ∀ (k : Nat) (d : Array (Pl w)), k ≤ b → b ≤ d.size → d.size ≤ 1000000000 → slices_heapSortCmpFunc_L4 a b w ((k : Int) - 1) (tl d) = some (tl (Go.Sort.heapPop (ltW (w := w)) a (b - a) (Go.Sort.heapBuild (ltW (w := w)) (b - a) a k d)))
 | 0, d, hk, hb, hd => by
  rw [slices_heapSortCmpFunc_L4_eq]; unfold slices_heapSortCmpFunc_L4_B
  rw [if_neg (by simp only [decide_eq_true_eq]; omega), show (b : Int) - (a : Int) = ((b - a : Nat) : Int) by omega]
  (repeat (rw [G_pos (by first | omega | (unfold fits; omega) | (simp only [List.length_set, tlen]; omega))]))
  exact heap8CmpFunc a (b - a) (b - a) d (Nat.le_refl _) (by omega) hd
 | k + 1, d, hk, hb, hd => by
  rw [slices_heapSortCmpFunc_L4_eq]; unfold slices_heapSortCmpFunc_L4_B
  unfold Go.Sort.heapBuild
  rw [show ((k + 1 : Nat) : Int) - 1 = (k : Int) by omega, if_pos (by simp only [decide_eq_true_eq]; omega), show (b : Int) - (a : Int) = ((b - a : Nat) : Int) by omega]
  (repeat (rw [G_pos (by first | omega | (unfold fits; omega) | (simp only [List.length_set, tlen]; omega))]))
  refine bind_to (siftDCmpFunc k (b - a) a d (by omega) hd (by omega)) ?_
  (repeat (rw [G_pos (by first | omega | (unfold fits; omega) | (simp only [List.length_set, tlen]; omega))]))
  exact heap4CmpFunc a b hab k _ (by omega) (by rw [siftZCmpFunc _ _ _ _ _ (Nat.le_refl _)]; exact hb) (by rw [siftZCmpFunc _ _ _ _ _ (Nat.le_refl _)]; exact hd)
theorem heapCmpFunc (a b : Nat) (d : Array (Pl w)) (hab : a < b) (hb : b ≤ d.size) (hd : d.size ≤ 1000000000) : slices_heapSortCmpFunc a b w (tl d) = some (tl (Go.Sort.heapSort (ltW (w := w)) d a b)) := by
 unfold slices_heapSortCmpFunc Go.Sort.heapSort
 have e : Int.tdiv ((b : Int) - (a : Int) - 1) 2 = (((b - a - 1) / 2 + 1 : Nat) : Int) - 1 := by
  rw [show (b : Int) - (a : Int) - 1 = ((b - a - 1 : Nat) : Int) by omega, show (2 : Int) = ((2 : Nat) : Int) from rfl, ← Int.ofNat_tdiv]; omega
 rw [e]
 (repeat (rw [G_pos (by first | omega | (unfold fits; omega) | (simp only [List.length_set, tlen]; omega))]))
 exact heap4CmpFunc a b (by omega) _ d (by omega) hb hd
/-! the pivot -/
theorem order2CmpFunc (d : Array (Pl w)) (a b s : Nat) (ha : a < d.size) (hb : b < d.size) (hs : s ≤ 1000) : slices_order2CmpFunc (tl d) a b w s = some (((Go.Sort.order2 (ltW (w := w)) d a b s).1 : Int), ((Go.Sort.order2 (ltW (w := w)) d a b s).2.1 : Int), ((Go.Sort.order2 (ltW (w := w)) d a b s).2.2 : Int)) := by
 have hl := (tlen d)
 unfold slices_order2CmpFunc Go.Sort.order2
 (repeat (rw [G_pos (by first | omega | (unfold fits; omega) | (simp only [List.length_set, tlen]; omega))]))
 rw [ixW, ixW, cmpE]
 show (if (ltW (w := w)) d[b]! d[a]! = true then _ else _) = _
 cases (ltW (w := w)) d[b]! d[a]! with
 | true => rw [if_pos rfl, if_pos rfl]; (repeat (rw [G_pos (by first | omega | (unfold fits; omega) | (simp only [List.length_set, tlen]; omega))])); rfl
 | false => rw [if_neg (by simp), if_neg (by simp)]
theorem order2SCmpFunc (d : Array (Pl w)) (a b s : Nat) : (Go.Sort.order2 (ltW (w := w)) d a b s).2.2 ≤ s + 1 := by
 unfold Go.Sort.order2; split <;> simp
theorem medianCmpFunc (d : Array (Pl w)) (a b c s : Nat) (ha : a < d.size) (hb : b < d.size) (hc : c < d.size) (hs : s ≤ 100) : slices_medianCmpFunc (tl d) a b c w s = some (((Go.Sort.median (ltW (w := w)) d a b c s).1 : Int), ((Go.Sort.median (ltW (w := w)) d a b c s).2 : Int)) := by
 unfold slices_medianCmpFunc Go.Sort.median
 have h1 := Go.Sort.order2_mem (ltW (w := w)) d a b s
 have s1 := order2SCmpFunc d a b s
 have h2 := Go.Sort.order2_mem (ltW (w := w)) d (Go.Sort.order2 (ltW (w := w)) d a b s).2.1 c (Go.Sort.order2 (ltW (w := w)) d a b s).2.2
 have s2 := order2SCmpFunc d (Go.Sort.order2 (ltW (w := w)) d a b s).2.1 c (Go.Sort.order2 (ltW (w := w)) d a b s).2.2
 refine bind_to (order2CmpFunc d a b s ha hb (by omega)) ?_
 refine bind_to (order2CmpFunc d _ c _ (by omega) hc (by omega)) ?_
 refine bind_to (order2CmpFunc d _ _ _ (by omega) (by omega) (by omega)) ?_
 rfl
theorem medianSCmpFunc (d : Array (Pl w)) (a b c s : Nat) : (Go.Sort.median (ltW (w := w)) d a b c s).2 ≤ s + 3 := by
 have s1 := order2SCmpFunc d a b s
 have s2 := order2SCmpFunc d (Go.Sort.order2 (ltW (w := w)) d a b s).2.1 c (Go.Sort.order2 (ltW (w := w)) d a b s).2.2
 have s3 := order2SCmpFunc d (Go.Sort.order2 (ltW (w := w)) d a b s).1 (Go.Sort.order2 (ltW (w := w)) d (Go.Sort.order2 (ltW (w := w)) d a b s).2.1 c (Go.Sort.order2 (ltW (w := w)) d a b s).2.2).1 (Go.Sort.order2 (ltW (w := w)) d (Go.Sort.order2 (ltW (w := w)) d a b s).2.1 c (Go.Sort.order2 (ltW (w := w)) d a b s).2.2).2.2
 unfold Go.Sort.median
 show (Go.Sort.order2 _ _ _ _ _).2.2 ≤ _
 omega
theorem medAdjCmpFunc (d : Array (Pl w)) (a s : Nat) (h0 : 0 < a) (ha : a + 1 < d.size) (hd : d.size ≤ 1000000000) (hs : s ≤ 100) : slices_medianAdjacentCmpFunc (tl d) a w s = some (((Go.Sort.medianAdjacent (ltW (w := w)) d a s).1 : Int), ((Go.Sort.medianAdjacent (ltW (w := w)) d a s).2 : Int)) := by
 unfold slices_medianAdjacentCmpFunc Go.Sort.medianAdjacent
 (repeat (rw [G_pos (by first | omega | (unfold fits; omega) | (simp only [List.length_set, tlen]; omega))]))
 rw [show (a : Int) - 1 = ((a - 1 : Nat) : Int) by omega, show (a : Int) + 1 = ((a + 1 : Nat) : Int) by omega]
 exact bind_to (medianCmpFunc d _ _ _ _ (by omega) (by omega) ha hs) rfl
def hintCmpFunc : Go.Sort.Hint → Int
 | .unknown => 0
 | .increasing => 1
 | .decreasing => 2
theorem cp11CmpFunc (j s : Nat) : slices_choosePivotCmpFunc_J11 j s = some ((j : Int), hintCmpFunc (if s = 0 then .increasing else if s = 12 then .decreasing else .unknown)) := by
 unfold slices_choosePivotCmpFunc_J11
 by_cases c : s = 0
 ·rw [if_pos (by simp [c]), if_pos c]; rfl
 ·rw [if_neg (by simp; omega), if_neg c]
  by_cases c2 : s = 12
  ·rw [if_pos (by simp [c2]), if_pos c2]; rfl
  ·rw [if_neg (by simp; omega), if_neg c2]; rfl
theorem pivotCmpFunc (d : Array (Pl w)) (a b : Nat) (hab : a < b) (hb : b ≤ d.size) (hd : d.size ≤ 1000000000) : slices_choosePivotCmpFunc (tl d) a b w = some (((Go.Sort.choosePivot (ltW (w := w)) d a b).1 : Int), hintCmpFunc (Go.Sort.choosePivot (ltW (w := w)) d a b).2) := by
 unfold slices_choosePivotCmpFunc Go.Sort.choosePivot
 have e : Int.tdiv ((b : Int) - (a : Int)) 4 = (((b - a) / 4 : Nat) : Int) := by
  rw [show (b : Int) - (a : Int) = ((b - a : Nat) : Int) by omega, show (4 : Int) = ((4 : Nat) : Int) from rfl, ← Int.ofNat_tdiv]
 have h4 := Nat.div_mul_le_self (b - a) 4
 have h5 : (b - a) / 4 * 4 + 4 > b - a := by omega
 rw [e]
 dsimp only
 generalize hq : (b - a) / 4 = q at *
 rw [show (a : Int) + (q : Int) * 1 = ((a + q * 1 : Nat) : Int) by omega, show (a : Int) + (q : Int) * 2 = ((a + q * 2 : Nat) : Int) by omega, show (a : Int) + (q : Int) * 3 = ((a + q * 3 : Nat) : Int) by omega]
 (repeat (rw [G_pos (by first | omega | (unfold fits; omega) | (simp only [List.length_set, tlen]; omega))]))
 have J10 : ∀ i j k s : Nat, i < d.size → j < d.size → k < d.size → s ≤ 100 → slices_choosePivotCmpFunc_J10 (tl d) w i j k s = some (((Go.Sort.median (ltW (w := w)) d i j k s).1 : Int), hintCmpFunc (if (Go.Sort.median (ltW (w := w)) d i j k s).2 = 0 then .increasing else if (Go.Sort.median (ltW (w := w)) d i j k s).2 = 12 then .decreasing else .unknown)) := fun i j k s h1 h2 h3 h4 => by
  unfold slices_choosePivotCmpFunc_J10
  exact bind_to (medianCmpFunc d i j k s h1 h2 h3 h4) (cp11CmpFunc _ _)
 by_cases c : 8 ≤ b - a
 ·rw [if_pos (by simp only [decide_eq_true_eq]; omega), if_pos c]
  by_cases c2 : 50 ≤ b - a
  ·rw [if_pos (by simp only [decide_eq_true_eq]; omega), if_pos c2]
   have q1 := medianSCmpFunc d (a + q * 1 - 1) (a + q * 1) (a + q * 1 + 1) 0
   have m1 := Go.Sort.median_mem (ltW (w := w)) d (a + q * 1 - 1) (a + q * 1) (a + q * 1 + 1) 0
   refine bind_to (medAdjCmpFunc d (a + q * 1) 0 (by omega) (by omega) hd (by omega)) ?_
   unfold Go.Sort.medianAdjacent
   generalize Go.Sort.median (ltW (w := w)) d (a + q * 1 - 1) (a + q * 1) (a + q * 1 + 1) 0 = r1 at *
   have q2 := medianSCmpFunc d (a + q * 2 - 1) (a + q * 2) (a + q * 2 + 1) r1.2
   have m2 := Go.Sort.median_mem (ltW (w := w)) d (a + q * 2 - 1) (a + q * 2) (a + q * 2 + 1) r1.2
   refine bind_to (medAdjCmpFunc d (a + q * 2) r1.2 (by omega) (by omega) hd (by omega)) ?_
   unfold Go.Sort.medianAdjacent
   generalize Go.Sort.median (ltW (w := w)) d (a + q * 2 - 1) (a + q * 2) (a + q * 2 + 1) r1.2 = r2 at *
   have q3 := medianSCmpFunc d (a + q * 3 - 1) (a + q * 3) (a + q * 3 + 1) r2.2
   have m3 := Go.Sort.median_mem (ltW (w := w)) d (a + q * 3 - 1) (a + q * 3) (a + q * 3 + 1) r2.2
   refine bind_to (medAdjCmpFunc d (a + q * 3) r2.2 (by omega) (by omega) hd (by omega)) ?_
   unfold Go.Sort.medianAdjacent
   generalize Go.Sort.median (ltW (w := w)) d (a + q * 3 - 1) (a + q * 3) (a + q * 3 + 1) r2.2 = r3 at *
   exact J10 r1.1 r2.1 r3.1 r3.2 (by omega) (by omega) (by omega) (by omega)
  ·rw [if_neg (by simp only [decide_eq_true_eq]; omega), if_neg c2]
   exact J10 (a + q * 1) (a + q * 2) (a + q * 3) 0 (by omega) (by omega) (by omega) (by omega)
 ·rw [if_neg (by simp only [decide_eq_true_eq]; omega), if_neg c]
  exact cp11CmpFunc (a + q * 2) 0
/-! reverseRange -/
theorem rev2CmpFunc : ∀ (n i j : Nat) (d : Array (Pl w)), j - i ≤ n → j < d.size → d.size ≤ 1000000000 → slices_reverseRangeCmpFunc_L2 i j (tl d) = some (tl (Go.Sort.reverseLoop i j d)) := by
 intro n
 induction n with
 | zero =>
  intro i j d hn hj hd
  rw [slices_reverseRangeCmpFunc_L2_eq]; unfold slices_reverseRangeCmpFunc_L2_B
  unfold Go.Sort.reverseLoop
  rw [if_neg (by simp only [decide_eq_true_eq]; omega), if_neg (by omega)]
 | succ n ih =>
  intro i j d hn hj hd
  have hl := (tlen d)
  rw [slices_reverseRangeCmpFunc_L2_eq]; unfold slices_reverseRangeCmpFunc_L2_B
  unfold Go.Sort.reverseLoop
  by_cases c : i < j
  ·rw [if_pos (by simp only [decide_eq_true_eq]; omega), if_pos c]
   (repeat (rw [G_pos (by first | omega | (unfold fits; omega) | (simp only [List.length_set, tlen]; omega))]))
   rw [ixW, ixW, Int.toNat_natCast, Int.toNat_natCast, swpW, show (j : Int) - 1 = ((j - 1 : Nat) : Int) by omega]
   exact ih (i + 1) (j - 1) _ (by omega) (by rw [swpZ]; omega) (by rw [swpZ]; exact hd)
  ·rw [if_neg (by simp only [decide_eq_true_eq]; omega), if_neg c]
theorem revCmpFunc (a b : Nat) (d : Array (Pl w)) (hab : a < b) (hb : b ≤ d.size) (hd : d.size ≤ 1000000000) : slices_reverseRangeCmpFunc a b w (tl d) = some (tl (Go.Sort.reverseRange d a b)) := by
 unfold slices_reverseRangeCmpFunc Go.Sort.reverseRange
 (repeat (rw [G_pos (by first | omega | (unfold fits; omega) | (simp only [List.length_set, tlen]; omega))]))
 rw [show (b : Int) - 1 = ((b - 1 : Nat) : Int) by omega]
 exact rev2CmpFunc _ a (b - 1) d (Nat.le_refl _) (by omega) hd
/-! partial insertion sort -/
theorem pi20CmpFunc (b : Nat) (j : Int) (r3 : Int → Int → List Int → Option (Bool × List Int)) (i2 : Int) (hj : 0 ≤ j ∧ j ≤ 100) : ∀ (n k : Nat) (d : Array (Pl w)), b - k = n → 0 < k → b ≤ d.size → d.size ≤ 1000000000 →
  slices_partialInsertionSortCmpFunc_L20 b w j r3 i2 k (tl d) = r3 i2 (j + 1) (tl (Go.Sort.shiftUp (ltW (w := w)) b k d)) := by
 intro n
 induction n with
 | zero =>
  intro k d hn hk hb hd
  rw [slices_partialInsertionSortCmpFunc_L20_eq]; unfold slices_partialInsertionSortCmpFunc_L20_B
  unfold Go.Sort.shiftUp
  rw [if_neg (by simp only [decide_eq_true_eq]; omega), if_neg (by omega)]
  (repeat (rw [G_pos (by first | omega | (unfold fits; omega) | (simp only [List.length_set, tlen]; omega))]))
 | succ n ih =>
  intro k d hn hk hb hd
  have hl := (tlen d)
  rw [slices_partialInsertionSortCmpFunc_L20_eq]; unfold slices_partialInsertionSortCmpFunc_L20_B
  unfold Go.Sort.shiftUp
  rw [if_pos (by simp only [decide_eq_true_eq]; omega), if_pos (by omega), show (k : Int) - 1 = ((k - 1 : Nat) : Int) by omega]
  (repeat (rw [G_pos (by first | omega | (unfold fits; omega) | (simp only [List.length_set, tlen]; omega))]))
  rw [ixW, ixW, cmpE]
  show (if (!(ltW (w := w)) d[k]! d[k - 1]!) = true then _ else _) = _
  cases (ltW (w := w)) d[k]! d[k - 1]! with
  | true =>
   rw [if_neg (by simp), if_neg (by simp)]
   (repeat (rw [G_pos (by first | omega | (unfold fits; omega) | (simp only [List.length_set, tlen]; omega))]))
   rw [Int.toNat_natCast, Int.toNat_natCast, swpW]
   exact ih (k + 1) _ (by omega) (by omega) (by rw [swpZ]; exact hb) (by rw [swpZ]; exact hd)
  | false =>
   rw [if_pos (by simp), if_pos (by simp)]
   (repeat (rw [G_pos (by first | omega | (unfold fits; omega) | (simp only [List.length_set, tlen]; omega))]))
theorem pi15CmpFunc (b : Nat) (j : Int) (r3 : Int → Int → List Int → Option (Bool × List Int)) (i2 : Nat) (hj : 0 ≤ j ∧ j ≤ 100) (d : Array (Pl w)) (hb : b ≤ d.size) (hd : d.size ≤ 1000000000) (hi : i2 ≤ b) :
  slices_partialInsertionSortCmpFunc_J15 b w j r3 i2 (tl d) = r3 i2 (j + 1) (tl (if b - i2 ≥ 2 then Go.Sort.shiftUp (ltW (w := w)) b (i2 + 1) d else d)) := by
 unfold slices_partialInsertionSortCmpFunc_J15
 (repeat (rw [G_pos (by first | omega | (unfold fits; omega) | (simp only [List.length_set, tlen]; omega))]))
 by_cases c : b - i2 ≥ 2
 ·rw [if_pos (by simp only [decide_eq_true_eq]; omega), if_pos c]
  (repeat (rw [G_pos (by first | omega | (unfold fits; omega) | (simp only [List.length_set, tlen]; omega))]))
  exact pi20CmpFunc b j r3 i2 hj _ (i2 + 1) d rfl (by omega) hb hd
 ·rw [if_neg (by simp only [decide_eq_true_eq]; omega), if_neg c]
  (repeat (rw [G_pos (by first | omega | (unfold fits; omega) | (simp only [List.length_set, tlen]; omega))]))
theorem pi14CmpFunc (b : Nat) (j : Int) (r3 : Int → Int → List Int → Option (Bool × List Int)) (i2 : Nat) (hj : 0 ≤ j ∧ j ≤ 100) (hi : i2 ≤ b) : ∀ (k : Nat) (d : Array (Pl w)), k < d.size → b ≤ d.size → d.size ≤ 1000000000 →
  slices_partialInsertionSortCmpFunc_L14 b w j r3 i2 k (tl d) = slices_partialInsertionSortCmpFunc_J15 b w j r3 i2 (tl (Go.Sort.shiftDown (ltW (w := w)) k d))
 | 0, d, hk, hb, hd => by
  rw [slices_partialInsertionSortCmpFunc_L14_eq]; unfold slices_partialInsertionSortCmpFunc_L14_B
  rw [if_neg (by simp)]; rfl
 | k + 1, d, hk, hb, hd => by
  have hl := (tlen d)
  rw [slices_partialInsertionSortCmpFunc_L14_eq]; unfold slices_partialInsertionSortCmpFunc_L14_B
  unfold Go.Sort.shiftDown
  rw [if_pos (by simp only [decide_eq_true_eq]; omega), show ((k + 1 : Nat) : Int) - 1 = (k : Int) by omega]
  (repeat (rw [G_pos (by first | omega | (unfold fits; omega) | (simp only [List.length_set, tlen]; omega))]))
  rw [ixW, ixW, cmpE]
  show (if (!(ltW (w := w)) d[k + 1]! d[k]!) = true then _ else _) = _
  cases (ltW (w := w)) d[k + 1]! d[k]! with
  | true =>
   rw [if_neg (by simp), if_neg (by simp)]
   (repeat (rw [G_pos (by first | omega | (unfold fits; omega) | (simp only [List.length_set, tlen]; omega))]))
   rw [Int.toNat_natCast, Int.toNat_natCast, swpW]
   exact pi14CmpFunc b j r3 i2 hj hi k _ (by rw [swpZ]; omega) (by rw [swpZ]; exact hb) (by rw [swpZ]; exact hd)
  | false => rw [if_pos (by simp), if_pos (by simp)]
theorem shiftDZCmpFunc : ∀ (k : Nat) (d : Array (Pl w)), (Go.Sort.shiftDown (ltW (w := w)) k d).size = d.size
 | 0, _ => rfl
 | k + 1, d => by
  unfold Go.Sort.shiftDown
  split
  ·rfl
  ·rw [shiftDZCmpFunc k, swpZ]
theorem shiftUZCmpFunc (b : Nat) : ∀ (n k : Nat) (d : Array (Pl w)), b - k = n → (Go.Sort.shiftUp (ltW (w := w)) b k d).size = d.size := by
 intro n
 induction n with
 | zero => intro k d hn; unfold Go.Sort.shiftUp; rw [if_neg (by omega)]
 | succ n ih =>
  intro k d hn
  unfold Go.Sort.shiftUp
  rw [if_pos (by omega)]
  split
  ·rfl
  ·rw [ih _ _ (by omega), swpZ]
theorem pi5CmpFunc (a b : Nat) (j : Int) (d : Array (Pl w)) (r3 : Int → Int → List Int → Option (Bool × List Int)) (hb : b ≤ d.size) (hd : d.size ≤ 1000000000) : ∀ (n i : Nat), b - i = n → 0 < i →
  slices_partialInsertionSortCmpFunc_L5 a b w j (tl d) r3 i = slices_partialInsertionSortCmpFunc_J6 a b w j (tl d) r3 (Go.Sort.scanSorted (ltW (w := w)) d b i : Nat) := by
 intro n
 induction n with
 | zero =>
  intro i hn hi
  rw [slices_partialInsertionSortCmpFunc_L5_eq]; unfold slices_partialInsertionSortCmpFunc_L5_B
  unfold Go.Sort.scanSorted
  rw [if_neg (by simp only [decide_eq_true_eq]; omega), show decide (i < b) = false from decide_eq_false (by omega), Bool.false_and, if_neg (by simp)]
 | succ n ih =>
  intro i hn hi
  have hl := (tlen d)
  rw [slices_partialInsertionSortCmpFunc_L5_eq]; unfold slices_partialInsertionSortCmpFunc_L5_B
  unfold Go.Sort.scanSorted
  rw [if_pos (by simp only [decide_eq_true_eq]; omega), show (i : Int) - 1 = ((i - 1 : Nat) : Int) by omega]
  (repeat (rw [G_pos (by first | omega | (unfold fits; omega) | (simp only [List.length_set, tlen]; omega))]))
  rw [ixW, ixW, cmpE, show decide (i < b) = true from decide_eq_true (by omega), Bool.true_and]
  show (if (!(ltW (w := w)) d[i]! d[i - 1]!) = true then _ else _) = _
  cases (ltW (w := w)) d[i]! d[i - 1]! with
  | true => rw [if_neg (by simp), if_neg (by simp)]
  | false =>
   rw [if_pos (by simp), if_pos (by simp)]
   (repeat (rw [G_pos (by first | omega | (unfold fits; omega) | (simp only [List.length_set, tlen]; omega))]))
   exact ih (i + 1) (by omega) (by omega)
theorem scanSCmpFunc (d : Array (Pl w)) (b : Nat) : ∀ (n i : Nat), b - i = n → i ≤ b → i ≤ Go.Sort.scanSorted (ltW (w := w)) d b i ∧ Go.Sort.scanSorted (ltW (w := w)) d b i ≤ b := by
 intro n
 induction n with
 | zero => intro i hn hi; unfold Go.Sort.scanSorted; rw [show decide (i < b) = false from decide_eq_false (by omega), Bool.false_and, if_neg (by simp)]; omega
 | succ n ih =>
  intro i hn hi
  unfold Go.Sort.scanSorted
  split
  ·have := ih (i + 1) (by omega) (by omega); omega
  ·omega
theorem pi3CmpFunc (a b : Nat) (hab : a < b) : ∀ (s i : Nat) (d : Array (Pl w)), s ≤ 5 → a < i → i ≤ b → b ≤ d.size → d.size ≤ 1000000000 →
  slices_partialInsertionSortCmpFunc_L3 a b w i (5 - (s : Int)) (tl d) = some ((Go.Sort.partialIns (ltW (w := w)) a b s i d).2, (tl (Go.Sort.partialIns (ltW (w := w)) a b s i d).1))
 | 0, i, d, hs, hi, hib, hb, hd => by
  rw [slices_partialInsertionSortCmpFunc_L3_eq]; unfold slices_partialInsertionSortCmpFunc_L3_B
  rw [if_neg (by simp)]; rfl
 | s + 1, i, d, hs, hi, hib, hb, hd => by
  have hl := (tlen d)
  rw [slices_partialInsertionSortCmpFunc_L3_eq]; unfold slices_partialInsertionSortCmpFunc_L3_B
  unfold Go.Sort.partialIns
  rw [if_pos (by simp only [decide_eq_true_eq]; omega), pi5CmpFunc a b _ d _ hb hd _ i rfl (by omega)]
  obtain ⟨k1, k2⟩ := scanSCmpFunc d b _ i rfl hib
  dsimp only
  generalize Go.Sort.scanSorted (ltW (w := w)) d b i = k at *
  unfold slices_partialInsertionSortCmpFunc_J6
  by_cases c1 : k = b
  ·rw [if_pos (by simp [c1]), if_pos c1]
  ·rw [if_neg (by simp only [decide_eq_true_eq]; omega), if_neg c1]
   (repeat (rw [G_pos (by first | omega | (unfold fits; omega) | (simp only [List.length_set, tlen]; omega))]))
   by_cases c2 : b - a < 50
   ·rw [if_pos (by simp only [decide_eq_true_eq]; omega), if_pos c2]
   ·rw [if_neg (by simp only [decide_eq_true_eq]; omega), if_neg c2, show (k : Int) - 1 = ((k - 1 : Nat) : Int) by omega]
    (repeat (rw [G_pos (by first | omega | (unfold fits; omega) | (simp only [List.length_set, tlen]; omega))]))
    rw [ixW, ixW, Int.toNat_natCast, Int.toNat_natCast, swpW]
    have hz := swpZ d k (k - 1)
    have e5 : (5 - ((s + 1 : Nat) : Int)) + 1 = 5 - (s : Int) := by omega
    have fin : ∀ d2 : Array (Pl w), d2.size = d.size → slices_partialInsertionSortCmpFunc_J15 b w (5 - ((s + 1 : Nat) : Int)) (slices_partialInsertionSortCmpFunc_L3 a b w) k (tl d2) = some ((Go.Sort.partialIns (ltW (w := w)) a b s k (if b - k ≥ 2 then Go.Sort.shiftUp (ltW (w := w)) b (k + 1) d2 else d2)).2, (tl (Go.Sort.partialIns (ltW (w := w)) a b s k (if b - k ≥ 2 then Go.Sort.shiftUp (ltW (w := w)) b (k + 1) d2 else d2)).1)) := fun d2 h2 => by
     rw [pi15CmpFunc b _ _ k (by omega) d2 (by omega) (by omega) k2, e5]
     have hz2 : (if b - k ≥ 2 then Go.Sort.shiftUp (ltW (w := w)) b (k + 1) d2 else d2).size = d2.size := by
      split
      ·exact shiftUZCmpFunc b _ _ _ rfl
      ·rfl
     exact pi3CmpFunc a b hab s k _ (by omega) (by omega) k2 (by omega) (by omega)
    by_cases c3 : k - a ≥ 2
    ·rw [if_pos (by simp only [decide_eq_true_eq]; omega), if_pos c3, pi14CmpFunc b _ _ k (by omega) k2 (k - 1) _ (by omega) (by omega) (by omega)]
     exact fin _ ((shiftDZCmpFunc _ _).trans hz)
    ·rw [if_neg (by simp only [decide_eq_true_eq]; omega), if_neg c3]
     exact fin _ hz
theorem partInsCmpFunc (a b : Nat) (d : Array (Pl w)) (hab : a < b) (hb : b ≤ d.size) (hd : d.size ≤ 1000000000) : slices_partialInsertionSortCmpFunc a b w (tl d) = some ((Go.Sort.partialInsertionSort (ltW (w := w)) d a b).2, (tl (Go.Sort.partialInsertionSort (ltW (w := w)) d a b).1)) := by
 unfold slices_partialInsertionSortCmpFunc Go.Sort.partialInsertionSort
 (repeat (rw [G_pos (by first | omega | (unfold fits; omega) | (simp only [List.length_set, tlen]; omega))]))
 exact pi3CmpFunc a b hab 5 (a + 1) d (Nat.le_refl _) (by omega) (by omega) hb hd
/-! the partitions -/
theorem pe5CmpFunc (a i2 : Nat) (d : Array (Pl w)) (r : Int → Int → List Int → Option (Int × List Int)) (ha : a < d.size) (hd : d.size ≤ 1000000000) (hi : 0 < i2) : ∀ j : Nat, j < d.size →
  slices_partitionEqualCmpFunc_L5 a w (tl d) r i2 j = slices_partitionEqualCmpFunc_J6 (tl d) r i2 (Go.Sort.scanDown (fun x => (ltW (w := w)) d[a]! x) d i2 j : Nat)
 | 0, hj => by
  rw [slices_partitionEqualCmpFunc_L5_eq]; unfold slices_partitionEqualCmpFunc_L5_B
  rw [if_neg (by simp only [decide_eq_true_eq]; omega)]; rfl
 | j + 1, hj => by
  have hl := (tlen d)
  rw [slices_partitionEqualCmpFunc_L5_eq]; unfold slices_partitionEqualCmpFunc_L5_B
  unfold Go.Sort.scanDown
  by_cases c : i2 ≤ j + 1
  ·rw [if_pos (by simp only [decide_eq_true_eq]; omega)]
   (repeat (rw [G_pos (by first | omega | (unfold fits; omega) | (simp only [List.length_set, tlen]; omega))]))
   rw [ixW, ixW, cmpE, show decide (i2 ≤ j + 1) = true from decide_eq_true c, Bool.true_and]
   show (if (ltW (w := w)) d[a]! d[j + 1]! = true then _ else _) = _
   cases (ltW (w := w)) d[a]! d[j + 1]! with
   | true =>
    rw [if_pos rfl, if_pos rfl]
    (repeat (rw [G_pos (by first | omega | (unfold fits; omega) | (simp only [List.length_set, tlen]; omega))]))
    rw [show ((j + 1 : Nat) : Int) - 1 = (j : Int) by omega]
    exact pe5CmpFunc a i2 d r ha hd hi j (by omega)
   | false => rw [if_neg (by simp), if_neg (by simp)]
  ·rw [if_neg (by simp only [decide_eq_true_eq]; omega), show decide (i2 ≤ j + 1) = false from decide_eq_false c, Bool.false_and, if_neg (by simp)]
theorem pe3CmpFunc (a j : Nat) (d : Array (Pl w)) (r : Int → Int → List Int → Option (Int × List Int)) (ha : a < d.size) (hj : j < d.size) (hd : d.size ≤ 1000000000) : ∀ (n i : Nat), j + 1 - i = n →
  slices_partitionEqualCmpFunc_L3 a w j (tl d) r i = slices_partitionEqualCmpFunc_J4 a w j (tl d) r (Go.Sort.scanUp (fun x => !(ltW (w := w)) d[a]! x) d j i : Nat) := by
 intro n
 induction n with
 | zero =>
  intro i hn
  rw [slices_partitionEqualCmpFunc_L3_eq]; unfold slices_partitionEqualCmpFunc_L3_B
  unfold Go.Sort.scanUp
  rw [if_neg (by simp only [decide_eq_true_eq]; omega), show decide (i ≤ j) = false from decide_eq_false (by omega), Bool.false_and, if_neg (by simp)]
 | succ n ih =>
  intro i hn
  have hl := (tlen d)
  rw [slices_partitionEqualCmpFunc_L3_eq]; unfold slices_partitionEqualCmpFunc_L3_B
  unfold Go.Sort.scanUp
  rw [if_pos (by simp only [decide_eq_true_eq]; omega), show decide (i ≤ j) = true from decide_eq_true (by omega), Bool.true_and]
  (repeat (rw [G_pos (by first | omega | (unfold fits; omega) | (simp only [List.length_set, tlen]; omega))]))
  rw [ixW, ixW, cmpE]
  show (if (!(ltW (w := w)) d[a]! d[i]!) = true then _ else _) = _
  cases (ltW (w := w)) d[a]! d[i]! with
  | true => rw [if_neg (by simp), if_neg (by simp)]
  | false =>
   rw [if_pos (by simp), if_pos (by simp)]
   (repeat (rw [G_pos (by first | omega | (unfold fits; omega) | (simp only [List.length_set, tlen]; omega))]))
   exact ih (i + 1) (by omega)
theorem pe3oCmpFunc (a : Nat) : ∀ (n i j : Nat) (d : Array (Pl w)), j + 1 - i ≤ n → a < i → j < d.size → a < d.size → d.size ≤ 1000000000 →
  slices_partitionEqualCmpFunc_L3o a w i j (tl d) = some (((Go.Sort.partEqLoop (ltW (w := w)) a i j d).1 : Int), (tl (Go.Sort.partEqLoop (ltW (w := w)) a i j d).2)) := by
 intro n
 induction n using Nat.strongRecOn with
 | ind n ih =>
  intro i j d hn hi hj ha hd
  have hl := (tlen d)
  rw [slices_partitionEqualCmpFunc_L3o_eq]; unfold slices_partitionEqualCmpFunc_L3o_B
  have g1 := Go.Sort.scanUp_ge (fun x => !(ltW (w := w)) d[a]! x) d j i
  have u1 := Go.Sort.scanUp_spec (fun x => !(ltW (w := w)) d[a]! x) d j _ i rfl
  rw [pe3CmpFunc a j d _ ha hj hd _ i rfl, Go.Sort.partEqLoop_eq]
  unfold slices_partitionEqualCmpFunc_J4
  generalize Go.Sort.scanUp (fun x => !(ltW (w := w)) d[a]! x) d j i = i2 at *
  have g2 := Go.Sort.scanDown_le (fun x => (ltW (w := w)) d[a]! x) d i2 j
  rw [pe5CmpFunc a i2 d _ ha hd (by omega) j hj]
  unfold slices_partitionEqualCmpFunc_J6
  generalize Go.Sort.scanDown (fun x => (ltW (w := w)) d[a]! x) d i2 j = j2 at *
  by_cases c : i2 > j2
  ·rw [if_pos (by simp only [decide_eq_true_eq]; omega), if_pos c]
  ·rw [if_neg (by simp only [decide_eq_true_eq]; omega), if_neg c]
   (repeat (rw [G_pos (by first | omega | (unfold fits; omega) | (simp only [List.length_set, tlen]; omega))]))
   rw [ixW, ixW, Int.toNat_natCast, Int.toNat_natCast, swpW, show (j2 : Int) - 1 = ((j2 - 1 : Nat) : Int) by omega]
   exact ih (j2 - 1 + 1 - (i2 + 1)) (by omega) (i2 + 1) (j2 - 1) _ (Nat.le_refl _) (by omega) (by rw [swpZ]; omega) (by rw [swpZ]; exact ha) (by rw [swpZ]; exact hd)
theorem partEqCmpFunc (a b pivot : Nat) (d : Array (Pl w)) (h1 : a ≤ pivot) (h2 : pivot < b) (hb : b ≤ d.size) (hd : d.size ≤ 1000000000) : slices_partitionEqualCmpFunc a b pivot w (tl d) = some (((Go.Sort.partitionEqual (ltW (w := w)) d a b pivot).1 : Int), (tl (Go.Sort.partitionEqual (ltW (w := w)) d a b pivot).2)) := by
 have hl := (tlen d)
 unfold slices_partitionEqualCmpFunc Go.Sort.partitionEqual
 (repeat (rw [G_pos (by first | omega | (unfold fits; omega) | (simp only [List.length_set, tlen]; omega))]))
 rw [ixW, ixW, Int.toNat_natCast, Int.toNat_natCast, swpW, show (b : Int) - 1 = ((b - 1 : Nat) : Int) by omega]
 exact pe3oCmpFunc a _ (a + 1) (b - 1) _ (Nat.le_refl _) (by omega) (by rw [swpZ]; omega) (by rw [swpZ]; omega) (by rw [swpZ]; exact hd)
theorem p15CmpFunc (a i2 : Nat) (d : Array (Pl w)) (r : Int → Int → List Int → Option (Int × Bool × List Int)) (ha : a < d.size) (hd : d.size ≤ 1000000000) (hi : 0 < i2) : ∀ j : Nat, j < d.size →
  slices_partitionCmpFunc_L15 a w (tl d) r i2 j = slices_partitionCmpFunc_J16 a (tl d) r i2 (Go.Sort.scanDown (fun x => !(ltW (w := w)) x d[a]!) d i2 j : Nat)
 | 0, hj => by
  rw [slices_partitionCmpFunc_L15_eq]; unfold slices_partitionCmpFunc_L15_B
  rw [if_neg (by simp only [decide_eq_true_eq]; omega)]; rfl
 | j + 1, hj => by
  have hl := (tlen d)
  rw [slices_partitionCmpFunc_L15_eq]; unfold slices_partitionCmpFunc_L15_B
  unfold Go.Sort.scanDown
  by_cases c : i2 ≤ j + 1
  ·rw [if_pos (by simp only [decide_eq_true_eq]; omega)]
   (repeat (rw [G_pos (by first | omega | (unfold fits; omega) | (simp only [List.length_set, tlen]; omega))]))
   rw [ixW, ixW, cmpE, show decide (i2 ≤ j + 1) = true from decide_eq_true c, Bool.true_and]
   show (if (!(ltW (w := w)) d[j + 1]! d[a]!) = true then _ else _) = _
   cases (ltW (w := w)) d[j + 1]! d[a]! with
   | false =>
    rw [if_pos (by simp), if_pos (by simp)]
    (repeat (rw [G_pos (by first | omega | (unfold fits; omega) | (simp only [List.length_set, tlen]; omega))]))
    rw [show ((j + 1 : Nat) : Int) - 1 = (j : Int) by omega]
    exact p15CmpFunc a i2 d r ha hd hi j (by omega)
   | true => rw [if_neg (by simp), if_neg (by simp)]
  ·rw [if_neg (by simp only [decide_eq_true_eq]; omega), show decide (i2 ≤ j + 1) = false from decide_eq_false c, Bool.false_and, if_neg (by simp)]
theorem p13CmpFunc (a j : Nat) (d : Array (Pl w)) (r : Int → Int → List Int → Option (Int × Bool × List Int)) (ha : a < d.size) (hj : j < d.size) (hd : d.size ≤ 1000000000) : ∀ (n i : Nat), j + 1 - i = n →
  slices_partitionCmpFunc_L13 a w j (tl d) r i = slices_partitionCmpFunc_J14 a w j (tl d) r (Go.Sort.scanUp (fun x => (ltW (w := w)) x d[a]!) d j i : Nat) := by
 intro n
 induction n with
 | zero =>
  intro i hn
  rw [slices_partitionCmpFunc_L13_eq]; unfold slices_partitionCmpFunc_L13_B
  unfold Go.Sort.scanUp
  rw [if_neg (by simp only [decide_eq_true_eq]; omega), show decide (i ≤ j) = false from decide_eq_false (by omega), Bool.false_and, if_neg (by simp)]
 | succ n ih =>
  intro i hn
  have hl := (tlen d)
  rw [slices_partitionCmpFunc_L13_eq]; unfold slices_partitionCmpFunc_L13_B
  unfold Go.Sort.scanUp
  rw [if_pos (by simp only [decide_eq_true_eq]; omega), show decide (i ≤ j) = true from decide_eq_true (by omega), Bool.true_and]
  (repeat (rw [G_pos (by first | omega | (unfold fits; omega) | (simp only [List.length_set, tlen]; omega))]))
  rw [ixW, ixW, cmpE]
  show (if (ltW (w := w)) d[i]! d[a]! = true then _ else _) = _
  cases (ltW (w := w)) d[i]! d[a]! with
  | false => rw [if_neg (by simp), if_neg (by simp)]
  | true =>
   rw [if_pos (by simp), if_pos (by simp)]
   (repeat (rw [G_pos (by first | omega | (unfold fits; omega) | (simp only [List.length_set, tlen]; omega))]))
   exact ih (i + 1) (by omega)
theorem p13oCmpFunc (a : Nat) : ∀ (n i j : Nat) (d : Array (Pl w)), j + 1 - i ≤ n → a < i → j < d.size → a < d.size → d.size ≤ 1000000000 →
  slices_partitionCmpFunc_L13o a w i j (tl d) = some (((Go.Sort.partLoop (ltW (w := w)) a i j d).1 : Int), false, (tl (Go.Sort.swp (Go.Sort.partLoop (ltW (w := w)) a i j d).2 (Go.Sort.partLoop (ltW (w := w)) a i j d).1 a))) := by
 intro n
 induction n using Nat.strongRecOn with
 | ind n ih =>
  intro i j d hn hi hj ha hd
  have hl := (tlen d)
  rw [slices_partitionCmpFunc_L13o_eq]; unfold slices_partitionCmpFunc_L13o_B
  have g1 := Go.Sort.scanUp_ge (fun x => (ltW (w := w)) x d[a]!) d j i
  rw [p13CmpFunc a j d _ ha hj hd _ i rfl, Go.Sort.partLoop_eq]
  unfold slices_partitionCmpFunc_J14
  generalize Go.Sort.scanUp (fun x => (ltW (w := w)) x d[a]!) d j i = i2 at *
  have g2 := Go.Sort.scanDown_le (fun x => !(ltW (w := w)) x d[a]!) d i2 j
  rw [p15CmpFunc a i2 d _ ha hd (by omega) j hj]
  unfold slices_partitionCmpFunc_J16
  generalize Go.Sort.scanDown (fun x => !(ltW (w := w)) x d[a]!) d i2 j = j2 at *
  by_cases c : i2 > j2
  ·rw [if_pos (by simp only [decide_eq_true_eq]; omega), if_pos c]
   (repeat (rw [G_pos (by first | omega | (unfold fits; omega) | (simp only [List.length_set, tlen]; omega))]))
   rw [ixW, ixW, Int.toNat_natCast, Int.toNat_natCast, swpW]
  ·rw [if_neg (by simp only [decide_eq_true_eq]; omega), if_neg c]
   (repeat (rw [G_pos (by first | omega | (unfold fits; omega) | (simp only [List.length_set, tlen]; omega))]))
   rw [ixW, ixW, Int.toNat_natCast, Int.toNat_natCast, swpW, show (j2 : Int) - 1 = ((j2 - 1 : Nat) : Int) by omega]
   exact ih (j2 - 1 + 1 - (i2 + 1)) (by omega) (i2 + 1) (j2 - 1) _ (Nat.le_refl _) (by omega) (by rw [swpZ]; omega) (by rw [swpZ]; exact ha) (by rw [swpZ]; exact hd)
theorem p5CmpFunc (a pivot i1 : Nat) (d : Array (Pl w)) (ha : a < d.size) (hp : pivot < d.size) (hd : d.size ≤ 1000000000) (hi : 0 < i1) : ∀ j : Nat, j < d.size →
  slices_partitionCmpFunc_L5 a pivot w (tl d) i1 j = slices_partitionCmpFunc_J6 a pivot w (tl d) i1 (Go.Sort.scanDown (fun x => !(ltW (w := w)) x (Go.Sort.swp d a pivot)[a]!) (Go.Sort.swp d a pivot) i1 j : Nat)
 | 0, hj => by
  rw [slices_partitionCmpFunc_L5_eq]; unfold slices_partitionCmpFunc_L5_B
  rw [if_neg (by simp only [decide_eq_true_eq]; omega)]; rfl
 | j + 1, hj => by
  have hl := (tlen d)
  have hz := swpZ d a pivot
  have hl2 := (Go.Sort.swp d a pivot).length_toList
  rw [slices_partitionCmpFunc_L5_eq]; unfold slices_partitionCmpFunc_L5_B
  unfold Go.Sort.scanDown
  rw [ixW d pivot, ixW d a, Int.toNat_natCast a, Int.toNat_natCast pivot, swpW]
  by_cases c : i1 ≤ j + 1
  ·rw [if_pos (by simp only [decide_eq_true_eq]; omega)]
   (repeat (rw [G_pos (by first | omega | (unfold fits; omega) | (simp only [List.length_set, tlen]; omega))]))
   rw [ixW, ixW, cmpE, show decide (i1 ≤ j + 1) = true from decide_eq_true c, Bool.true_and]
   show (if (!(ltW (w := w)) (Go.Sort.swp d a pivot)[j + 1]! (Go.Sort.swp d a pivot)[a]!) = true then _ else _) = _
   cases (ltW (w := w)) (Go.Sort.swp d a pivot)[j + 1]! (Go.Sort.swp d a pivot)[a]! with
   | false =>
    rw [if_pos (by simp), if_pos (by simp)]
    (repeat (rw [G_pos (by first | omega | (unfold fits; omega) | (simp only [List.length_set, tlen]; omega))]))
    rw [show ((j + 1 : Nat) : Int) - 1 = (j : Int) by omega]
    exact p5CmpFunc a pivot i1 d ha hp hd hi j (by omega)
   | true => rw [if_neg (by simp), if_neg (by simp)]
  ·rw [if_neg (by simp only [decide_eq_true_eq]; omega), show decide (i1 ≤ j + 1) = false from decide_eq_false c, Bool.false_and, if_neg (by simp)]
theorem p3CmpFunc (a b pivot : Nat) (d : Array (Pl w)) (ha : a < d.size) (hp : pivot < d.size) (hb0 : 0 < b) (hb : b ≤ d.size) (hd : d.size ≤ 1000000000) : ∀ (n i : Nat), b - 1 + 1 - i = n →
  slices_partitionCmpFunc_L3 a b pivot w (tl d) i = slices_partitionCmpFunc_J4 a b pivot w (tl d) (Go.Sort.scanUp (fun x => (ltW (w := w)) x (Go.Sort.swp d a pivot)[a]!) (Go.Sort.swp d a pivot) (b - 1) i : Nat) := by
 intro n
 have hl := (tlen d)
 have hz := swpZ d a pivot
 have hl2 := (Go.Sort.swp d a pivot).length_toList
 induction n with
 | zero =>
  intro i hn
  rw [slices_partitionCmpFunc_L3_eq]; unfold slices_partitionCmpFunc_L3_B
  unfold Go.Sort.scanUp
  (repeat (rw [G_pos (by first | omega | (unfold fits; omega) | (simp only [List.length_set, tlen]; omega))]))
  rw [if_neg (by simp only [decide_eq_true_eq]; omega), show decide (i ≤ b - 1) = false from decide_eq_false (by omega), Bool.false_and, if_neg (by simp)]
 | succ n ih =>
  intro i hn
  rw [slices_partitionCmpFunc_L3_eq]; unfold slices_partitionCmpFunc_L3_B
  unfold Go.Sort.scanUp
  (repeat (rw [G_pos (by first | omega | (unfold fits; omega) | (simp only [List.length_set, tlen]; omega))]))
  rw [ixW d pivot, ixW d a, Int.toNat_natCast a, Int.toNat_natCast pivot, swpW]
  rw [if_pos (by simp only [decide_eq_true_eq]; omega), show decide (i ≤ b - 1) = true from decide_eq_true (by omega), Bool.true_and]
  (repeat (rw [G_pos (by first | omega | (unfold fits; omega) | (simp only [List.length_set, tlen]; omega))]))
  rw [ixW, ixW, cmpE]
  show (if (ltW (w := w)) (Go.Sort.swp d a pivot)[i]! (Go.Sort.swp d a pivot)[a]! = true then _ else _) = _
  cases (ltW (w := w)) (Go.Sort.swp d a pivot)[i]! (Go.Sort.swp d a pivot)[a]! with
  | false => rw [if_neg (by simp), if_neg (by simp)]
  | true =>
   rw [if_pos (by simp), if_pos (by simp)]
   (repeat (rw [G_pos (by first | omega | (unfold fits; omega) | (simp only [List.length_set, tlen]; omega))]))
   exact ih (i + 1) (by omega)
theorem partCmpFunc (a b pivot : Nat) (d : Array (Pl w)) (h1 : a ≤ pivot) (h2 : pivot < b) (hb : b ≤ d.size) (hd : d.size ≤ 1000000000) : slices_partitionCmpFunc a b pivot w (tl d) = some (((Go.Sort.partition (ltW (w := w)) d a b pivot).1 : Int), (Go.Sort.partition (ltW (w := w)) d a b pivot).2.1, (tl (Go.Sort.partition (ltW (w := w)) d a b pivot).2.2)) := by
 have hl := (tlen d)
 have hz := swpZ d a pivot
 have hl2 := (Go.Sort.swp d a pivot).length_toList
 unfold slices_partitionCmpFunc Go.Sort.partition
 dsimp only
 (repeat (rw [G_pos (by first | omega | (unfold fits; omega) | (simp only [List.length_set, tlen]; omega))]))
 have g1 := Go.Sort.scanUp_ge (fun x => (ltW (w := w)) x (Go.Sort.swp d a pivot)[a]!) (Go.Sort.swp d a pivot) (b - 1) (a + 1)
 have e1 := p3CmpFunc a b pivot d (by omega) (by omega) (by omega) hb hd _ (a + 1) rfl
 rw [show ((a + 1 : Nat) : Int) = (a : Int) + 1 by omega] at e1
 rw [e1]
 unfold slices_partitionCmpFunc_J4
 generalize Go.Sort.scanUp (fun x => (ltW (w := w)) x (Go.Sort.swp d a pivot)[a]!) (Go.Sort.swp d a pivot) (b - 1) (a + 1) = i1 at *
 have g2 := Go.Sort.scanDown_le (fun x => !(ltW (w := w)) x (Go.Sort.swp d a pivot)[a]!) (Go.Sort.swp d a pivot) i1 (b - 1)
 rw [show (b : Int) - 1 = ((b - 1 : Nat) : Int) by omega]
 (repeat (rw [G_pos (by first | omega | (unfold fits; omega) | (simp only [List.length_set, tlen]; omega))]))
 rw [p5CmpFunc a pivot i1 d (by omega) (by omega) hd (by omega) (b - 1) (by omega)]
 unfold slices_partitionCmpFunc_J6
 generalize Go.Sort.scanDown (fun x => !(ltW (w := w)) x (Go.Sort.swp d a pivot)[a]!) (Go.Sort.swp d a pivot) i1 (b - 1) = j1 at *
 rw [ixW d pivot, ixW d a, Int.toNat_natCast a, Int.toNat_natCast pivot, swpW]
 by_cases c : i1 > j1
 ·rw [if_pos (by simp only [decide_eq_true_eq]; omega), if_pos c]
  (repeat (rw [G_pos (by first | omega | (unfold fits; omega) | (simp only [List.length_set, tlen]; omega))]))
  rw [ixW, ixW, Int.toNat_natCast, swpW]
 ·rw [if_neg (by simp only [decide_eq_true_eq]; omega), if_neg c]
  (repeat (rw [G_pos (by first | omega | (unfold fits; omega) | (simp only [List.length_set, tlen]; omega))]))
  rw [ixW, ixW, Int.toNat_natCast, Int.toNat_natCast, swpW, show (j1 : Int) - 1 = ((j1 - 1 : Nat) : Int) by omega]
  exact p13oCmpFunc a _ (i1 + 1) (j1 - 1) _ (Nat.le_refl _) (by omega) (by rw [swpZ]; omega) (by rw [swpZ]; omega) (by rw [swpZ]; omega)
/-! patterns are broken -/
theorem br5CmpFunc (a b : Nat) (M : Int) (h8 : a + 8 ≤ b) (hM : 0 < M ∧ M ≤ 2 * ((b : Int) - a)) : ∀ (n idx : Nat) (rnd : Int) (d : Array (Pl w)), a + (b - a) / 4 * 2 + 2 - idx = n → a ≤ idx → b ≤ d.size → d.size ≤ 1000000000 →
  ∃ d', slices_breakPatternsCmpFunc_L5 a b M idx (tl d) rnd = some (tl d') ∧ Go.Sort.PermIn a b d d' := by
 intro n
 have e : Int.tdiv ((b : Int) - (a : Int)) 4 = (((b - a) / 4 : Nat) : Int) := by
  rw [show (b : Int) - (a : Int) = ((b - a : Nat) : Int) by omega, show (4 : Int) = ((4 : Nat) : Int) from rfl, ← Int.ofNat_tdiv]
 have h4 := Nat.div_mul_le_self (b - a) 4
 induction n with
 | zero =>
  intro idx rnd d hn hi hb hd
  refine ⟨d, ?_, Go.Sort.permIn_refl d a b⟩
  rw [slices_breakPatternsCmpFunc_L5_eq]; unfold slices_breakPatternsCmpFunc_L5_B
  rw [e]
  (repeat (rw [G_pos (by first | omega | (unfold fits; omega) | (simp only [List.length_set, tlen]; omega))]))
  rw [if_neg (by simp only [decide_eq_true_eq]; omega)]
 | succ n ih =>
  intro idx rnd d hn hi hb hd
  have hl := (tlen d)
  rw [slices_breakPatternsCmpFunc_L5_eq]; unfold slices_breakPatternsCmpFunc_L5_B
  rw [e]
  (repeat (rw [G_pos (by first | omega | (unfold fits; omega) | (simp only [List.length_set, tlen]; omega))]))
  rw [if_pos (by simp only [decide_eq_true_eq]; omega)]
  unfold slices_xorshift_Next
  rw [G_pos (by omega), G_pos (by omega), G_pos (by omega)]
  simp only [Option.bind_some]
  generalize ixor .u64 _ _ = rn
  rw [wrapU64 (x := M - 1) (by omega) (by omega)]
  have hia := iandU (x := rn) (y := M - 1) (by omega) (by omega)
  generalize iand .u64 rn (M - 1) = o at *
  rw [wrapI64 (x := o) (by omega) (by omega)]
  have J9 : ∀ t : Nat, t < b - a → ∃ d', slices_breakPatternsCmpFunc_J9 a idx (tl d) (slices_breakPatternsCmpFunc_L5 a b M) rn t = some (tl d') ∧ Go.Sort.PermIn a b d d' := fun t ht => by
   unfold slices_breakPatternsCmpFunc_J9
   rw [show (a : Int) + (t : Int) = ((a + t : Nat) : Int) by omega]
   (repeat (rw [G_pos (by first | omega | (unfold fits; omega) | (simp only [List.length_set, tlen]; omega))]))
   rw [ixW, ixW, Int.toNat_natCast, Int.toNat_natCast, swpW, show (idx : Int) + 1 = ((idx + 1 : Nat) : Int) by omega]
   obtain ⟨d', e', p'⟩ := ih (idx + 1) rn (Go.Sort.swp d idx (a + t)) (by omega) (by omega) (by rw [swpZ]; exact hb) (by rw [swpZ]; exact hd)
   exact ⟨d', e', Go.Sort.permIn_trans d _ d' a b (Go.Sort.swp_permIn d a b idx (a + t) hi (by omega) (by omega) (by omega) hb) p'⟩
  by_cases c : (b : Int) - (a : Int) ≤ o
  ·rw [if_pos (decide_eq_true c), G_pos (by unfold fits; omega), show o - ((b : Int) - (a : Int)) = ((o - ((b : Int) - (a : Int))).toNat : Int) by omega]
   exact J9 _ (by omega)
  ·rw [if_neg (by simpa using c), show o = (o.toNat : Int) by omega]
   exact J9 _ (by omega)
theorem breakCmpFunc (a b : Nat) (d : Array (Pl w)) (hab : a ≤ b) (hb : b ≤ d.size) (hd : d.size ≤ 1000000000) : ∃ d', slices_breakPatternsCmpFunc a b w (tl d) = some (tl d') ∧ Go.Sort.PermIn a b d d' := by
 unfold slices_breakPatternsCmpFunc
 (repeat (rw [G_pos (by first | omega | (unfold fits; omega) | (simp only [List.length_set, tlen]; omega))]))
 by_cases c : 8 ≤ b - a
 ·rw [if_pos (by simp only [decide_eq_true_eq]; omega)]
  obtain ⟨M, e, h⟩ := nextPow (n := (b : Int) - (a : Int)) (by omega) (by omega)
  rw [e]
  have e4 : Int.tdiv ((b : Int) - (a : Int)) 4 = (((b - a) / 4 : Nat) : Int) := by
   rw [show (b : Int) - (a : Int) = ((b - a : Nat) : Int) by omega, show (4 : Int) = ((4 : Nat) : Int) from rfl, ← Int.ofNat_tdiv]
  show ∃ d', G _ _ = _ ∧ _
  rw [e4]
  have h4 := Nat.div_mul_le_self (b - a) 4
  (repeat (rw [G_pos (by first | omega | (unfold fits; omega) | (simp only [List.length_set, tlen]; omega))]))
  rw [show (a : Int) + (((b - a) / 4 : Nat) : Int) * 2 - 1 = ((a + (b - a) / 4 * 2 - 1 : Nat) : Int) by omega]
  exact br5CmpFunc a b M (by omega) h _ _ _ d rfl (by omega) hb hd
 ·rw [if_neg (by simp only [decide_eq_true_eq]; omega)]
  exact ⟨d, rfl, Go.Sort.permIn_refl d a b⟩
/-! the recursion -/
def PdqOkCmpFunc (n : Nat) : Prop := ∀ (a b lim : Nat) (wb wp : Bool) (d : Array (Pl w)), b - a ≤ n → a ≤ b → b ≤ d.size → d.size ≤ 1000000000 → lim ≤ 64 → Go.Sort.Below (ltW (w := w)) a b d →
 ∃ d', slices_pdqsortCmpFunc_L2 slices_pdqsortCmpFunc w a b lim wb wp (tl d) = some (tl d') ∧ Go.Sort.PermIn a b d d' ∧ Go.Sort.SortedIn (ltW (w := w)) a b d'
theorem pdqRecCmpFunc (a b lim : Nat) (l : List Int) : slices_pdqsortCmpFunc a b lim w l = slices_pdqsortCmpFunc_L2 slices_pdqsortCmpFunc w a b lim true true l := by
 rw [slices_pdqsortCmpFunc_eq]; unfold slices_pdqsortCmpFunc_B; rfl
theorem j17CmpFunc (hS : Go.Sort.SWO (ltW (w := w))) {n : Nat} (ih : ∀ m, m < n → PdqOkCmpFunc (w := w) m) (a b lim pivot : Nat) (wb wp : Bool) (d : Array (Pl w)) (hn : b - a = n) (hab : a < b) (hb : b ≤ d.size) (hd : d.size ≤ 1000000000) (hlim : lim ≤ 64) (hB : Go.Sort.Below (ltW (w := w)) a b d) (p0 : a ≤ pivot) (p1 : pivot < b) (t : Bool) (ht : t = true → 0 < a ∧ (ltW (w := w)) d[a - 1]! d[pivot]! = false) :
  ∃ d', slices_pdqsortCmpFunc_J17 slices_pdqsortCmpFunc w a b wb wp (slices_pdqsortCmpFunc_L2 slices_pdqsortCmpFunc w) lim pivot (tl d) t = some (tl d') ∧ Go.Sort.PermIn a b d d' ∧ Go.Sort.SortedIn (ltW (w := w)) a b d' := by
 unfold slices_pdqsortCmpFunc_J17
 cases t with
 | true =>
  obtain ⟨ha, hlt⟩ := ht rfl
  have hle : ∀ i, a ≤ i → i < b → (ltW (w := w)) d[i]! d[pivot]! = false := fun i i0 i1 => hS.ntrans _ _ _ ((hB.resolve_left (by omega)) i i0 i1) hlt
  obtain ⟨q1, q2, q3, q4, q5⟩ := Go.Sort.partitionEqual_holds (ltW (w := w)) hS d a b pivot p0 p1 hb hle
  rw [if_pos rfl, partEqCmpFunc a b pivot d p0 p1 hb hd]
  simp only [Option.bind_some]
  have hall := Go.Sort.permIn_all d (Go.Sort.partitionEqual (ltW (w := w)) d a b pivot).2 a b (fun x => (ltW (w := w)) x d[pivot]! = false) hb q3 hle
  generalize Go.Sort.partitionEqual (ltW (w := w)) d a b pivot = r at *
  obtain ⟨mid, d4⟩ := r
  dsimp only at q1 q2 q3 q4 q5 hall ⊢
  have hz := q3.1
  obtain ⟨R, e, r1, r2⟩ := ih (b - mid) (by omega) mid b lim wb wp d4 (Nat.le_refl _) q2 (by omega) (by omega) hlim (.inr fun i i0 i1 => by
   cases hc : (ltW (w := w)) d4[i]! d4[mid - 1]! with
   | false => rfl
   | true => have := hS.trans _ _ _ (q5 i i0 i1) hc; rw [q4 (mid - 1) (by omega) (by omega)] at this; cases this)
  have hm := Go.Sort.permIn_mono d4 R mid b a b (by omega) (Nat.le_refl _) (by omega) r1
  refine ⟨R, e, Go.Sort.permIn_trans d d4 R a b q3 hm, ?_⟩
  have hout : ∀ i, i < mid → R[i]! = d4[i]! := fun i h => r1.2.1 i (.inl h)
  have hin := Go.Sort.permIn_all d4 R mid b (fun x => (ltW (w := w)) d[pivot]! x = true) (by omega) r1 q5
  exact Go.Sort.sorted_glue_eq hS d[pivot]! r2 (fun i i0 i1 => by rw [hout i i1]; exact q4 i i0 i1) (fun i i0 i1 => by rw [hout i i1]; exact hall i i0 (by omega)) hin
 | false =>
  obtain ⟨q1, q2, q3, q4, q5⟩ := Go.Sort.partition_holds (ltW (w := w)) hS d a b pivot p0 p1 hb
  rw [if_neg (by simp), partCmpFunc a b pivot d p0 p1 hb hd]
  simp only [Option.bind_some]
  have hB4 := hB.perm hb q3
  generalize Go.Sort.partition (ltW (w := w)) d a b pivot = r at *
  obtain ⟨mid, al, d4⟩ := r
  dsimp only at q1 q2 q3 q4 q5 hB4 ⊢
  have hz := q3.1
  have e8 : Int.tdiv ((b : Int) - (a : Int)) 8 = (((b - a) / 8 : Nat) : Int) := by
   rw [show (b : Int) - (a : Int) = ((b - a : Nat) : Int) by omega, show (8 : Int) = ((8 : Nat) : Int) from rfl, ← Int.ofNat_tdiv]
  have h8 := Nat.div_mul_le_self (b - a) 8
  rw [e8]
  (repeat (rw [G_pos (by first | omega | (unfold fits; omega) | (simp only [List.length_set, tlen]; omega))]))
  have e1 : (mid : Int) + 1 = ((mid + 1 : Nat) : Int) := by omega
  rw [e1]
  -- the left part, the right part
  have left : ∀ (d5 : Array (Pl w)) (wb wp : Bool), d5.size = d.size → (∀ i, a ≤ i → i < mid → d5[i]! = d4[i]!) → (∀ i, i < a → d5[i]! = d4[i]!) → ∃ R, slices_pdqsortCmpFunc_L2 slices_pdqsortCmpFunc w a mid lim wb wp (tl d5) = some (tl R) ∧ Go.Sort.PermIn a mid d5 R ∧ Go.Sort.SortedIn (ltW (w := w)) a mid R := fun d5 wb wp h1 h2 h3 =>
   ih (mid - a) (by omega) a mid lim wb wp d5 (Nat.le_refl _) q1 (by omega) (by omega) hlim (by
    rcases hB4 with h | h
    ·exact .inl h
    ·rcases Nat.eq_zero_or_pos a with h0 | h0
     ·exact .inl h0
     ·exact .inr fun i i0 i1 => by rw [h2 i i0 i1, h3 (a - 1) (by omega)]; exact h i i0 (by omega))
  have right : ∀ (d5 : Array (Pl w)) (wb wp : Bool), d5.size = d.size → (∀ i, mid ≤ i → i < b → d5[i]! = d4[i]!) → ∃ R, slices_pdqsortCmpFunc_L2 slices_pdqsortCmpFunc w (mid + 1 : Nat) b lim wb wp (tl d5) = some (tl R) ∧ Go.Sort.PermIn (mid + 1) b d5 R ∧ Go.Sort.SortedIn (ltW (w := w)) (mid + 1) b R := fun d5 wb wp h1 h2 =>
   ih (b - (mid + 1)) (by omega) (mid + 1) b lim wb wp d5 (Nat.le_refl _) (by omega) (by omega) (by omega) hlim (.inr fun i i0 i1 => by
    rw [Nat.add_sub_cancel, h2 i (by omega) i1, h2 mid (Nat.le_refl _) q2]
    exact q5 i (by omega) i1)
  by_cases c : mid - a < b - mid
  ·rw [if_pos (by simp only [decide_eq_true_eq]; omega)]
   obtain ⟨R1, s1, s2, s3⟩ := left d4 true true hz (fun _ _ _ => rfl) (fun _ _ => rfl)
   rw [pdqRecCmpFunc, s1]
   simp only [Option.bind_some]
   (repeat (rw [G_pos (by first | omega | (unfold fits; omega) | (simp only [List.length_set, tlen]; omega))]))
   obtain ⟨R2, t1, t2, t3⟩ := right R1 (decide ((((b - a) / 8 : Nat) : Int) ≤ (mid : Int) - (a : Int))) al (by rw [s2.1]; exact hz) (fun i i0 i1 => s2.2.1 i (.inr i0))
   refine ⟨R2, t1, ?_, ?_⟩
   ·exact Go.Sort.permIn_trans d d4 R2 a b q3 (Go.Sort.permIn_trans d4 R1 R2 a b (Go.Sort.permIn_mono d4 R1 a mid a b (Nat.le_refl _) (by omega) (by omega) s2) (Go.Sort.permIn_mono R1 R2 (mid + 1) b a b (by omega) (Nat.le_refl _) (by rw [s2.1]; omega) t2))
   ·have hl : ∀ i, i < mid + 1 → R2[i]! = R1[i]! := fun i h => t2.2.1 i (.inl h)
    have hmid : R2[mid]! = d4[mid]! := (hl mid (by omega)).trans (s2.2.1 mid (.inr (Nat.le_refl _)))
    have hlo := Go.Sort.permIn_all d4 R1 a mid (fun x => (ltW (w := w)) x d4[mid]! = true) (by omega) s2 q4
    have hhi := Go.Sort.permIn_all R1 R2 (mid + 1) b (fun x => (ltW (w := w)) x d4[mid]! = false) (by rw [s2.1]; omega) t2 (fun i i0 i1 => by rw [s2.2.1 i (.inr (by omega))]; exact q5 i (by omega) i1)
    exact Go.Sort.sorted_glue hS (s3.congr fun i i0 i1 => hl i (by omega)) t3 (fun i i0 i1 => by rw [hl i (by omega), hmid]; exact hlo i i0 i1) (fun i i0 i1 => by rw [hmid]; exact hhi i (by omega) i1)
  ·rw [if_neg (by simp only [decide_eq_true_eq]; omega)]
   obtain ⟨R1, s1, s2, s3⟩ := right d4 true true hz (fun _ _ _ => rfl)
   rw [pdqRecCmpFunc, s1]
   simp only [Option.bind_some]
   (repeat (rw [G_pos (by first | omega | (unfold fits; omega) | (simp only [List.length_set, tlen]; omega))]))
   obtain ⟨R2, t1, t2, t3⟩ := left R1 (decide ((((b - a) / 8 : Nat) : Int) ≤ (b : Int) - (mid : Int))) al (by rw [s2.1]; exact hz) (fun i i0 i1 => s2.2.1 i (.inl (by omega))) (fun i i0 => s2.2.1 i (.inl (by omega)))
   refine ⟨R2, t1, ?_, ?_⟩
   ·exact Go.Sort.permIn_trans d d4 R2 a b q3 (Go.Sort.permIn_trans d4 R1 R2 a b (Go.Sort.permIn_mono d4 R1 (mid + 1) b a b (by omega) (Nat.le_refl _) (by omega) s2) (Go.Sort.permIn_mono R1 R2 a mid a b (Nat.le_refl _) (by omega) (by rw [s2.1]; omega) t2))
   ·have hl : ∀ i, mid ≤ i → R2[i]! = R1[i]! := fun i h => t2.2.1 i (.inr h)
    have hmid : R2[mid]! = d4[mid]! := (hl mid (Nat.le_refl _)).trans (s2.2.1 mid (.inl (by omega)))
    have hlo := Go.Sort.permIn_all R1 R2 a mid (fun x => (ltW (w := w)) x d4[mid]! = true) (by rw [s2.1]; omega) t2 (fun i i0 i1 => by rw [s2.2.1 i (.inl (by omega))]; exact q4 i i0 i1)
    have hhi := Go.Sort.permIn_all d4 R1 (mid + 1) b (fun x => (ltW (w := w)) x d4[mid]! = false) (by omega) s2 (fun i i0 i1 => q5 i (by omega) i1)
    exact Go.Sort.sorted_glue hS t3 (s3.congr fun i i0 i1 => hl i (by omega)) (fun i i0 i1 => by rw [hmid]; exact hlo i i0 i1) (fun i i0 i1 => by rw [hl i (by omega), hmid]; exact hhi i (by omega) i1)
theorem j16CmpFunc (hS : Go.Sort.SWO (ltW (w := w))) {n : Nat} (ih : ∀ m, m < n → PdqOkCmpFunc (w := w) m) (a b lim pivot : Nat) (wb wp : Bool) (d : Array (Pl w)) (hn : b - a = n) (hab : a < b) (hb : b ≤ d.size) (hd : d.size ≤ 1000000000) (hlim : lim ≤ 64) (hB : Go.Sort.Below (ltW (w := w)) a b d) (p0 : a ≤ pivot) (p1 : pivot < b) :
  ∃ d', slices_pdqsortCmpFunc_J16 slices_pdqsortCmpFunc w a b wb wp (slices_pdqsortCmpFunc_L2 slices_pdqsortCmpFunc w) lim pivot (tl d) = some (tl d') ∧ Go.Sort.PermIn a b d d' ∧ Go.Sort.SortedIn (ltW (w := w)) a b d' := by
 have hl := (tlen d)
 unfold slices_pdqsortCmpFunc_J16
 by_cases c : 0 < a
 ·rw [if_pos (by simp only [decide_eq_true_eq]; omega), show (a : Int) - 1 = ((a - 1 : Nat) : Int) by omega]
  (repeat (rw [G_pos (by first | omega | (unfold fits; omega) | (simp only [List.length_set, tlen]; omega))]))
  rw [ixW, ixW, cmpE]
  simp only [Option.bind_some]
  exact j17CmpFunc hS ih a b lim pivot wb wp d hn hab hb hd hlim hB p0 p1 (!(ltW (w := w)) d[a - 1]! d[pivot]!) (fun h => ⟨c, by simpa using h⟩)
 ·rw [if_neg (by simp only [decide_eq_true_eq]; omega)]
  exact j17CmpFunc hS ih a b lim pivot wb wp d hn hab hb hd hlim hB p0 p1 false (by simp)
theorem j14CmpFunc (hS : Go.Sort.SWO (ltW (w := w))) {n : Nat} (ih : ∀ m, m < n → PdqOkCmpFunc (w := w) m) (a b lim pivot : Nat) (wb wp : Bool) (hint : Int) (d : Array (Pl w)) (hn : b - a = n) (hab : a < b) (hb : b ≤ d.size) (hd : d.size ≤ 1000000000) (hlim : lim ≤ 64) (hB : Go.Sort.Below (ltW (w := w)) a b d) (p0 : a ≤ pivot) (p1 : pivot < b) :
  ∃ d', slices_pdqsortCmpFunc_J14 slices_pdqsortCmpFunc w a b wb wp (slices_pdqsortCmpFunc_L2 slices_pdqsortCmpFunc w) lim pivot hint (tl d) = some (tl d') ∧ Go.Sort.PermIn a b d d' ∧ Go.Sort.SortedIn (ltW (w := w)) a b d' := by
 have J15 : ∀ t : Bool, ∃ d', slices_pdqsortCmpFunc_J15 slices_pdqsortCmpFunc w a b wb wp (slices_pdqsortCmpFunc_L2 slices_pdqsortCmpFunc w) lim pivot (tl d) t = some (tl d') ∧ Go.Sort.PermIn a b d d' ∧ Go.Sort.SortedIn (ltW (w := w)) a b d' := fun t => by
  unfold slices_pdqsortCmpFunc_J15
  cases t with
  | true =>
   obtain ⟨k1, k2⟩ := Go.Sort.partialInsertionSort_holds hS d a b hab hb hB
   rw [if_pos rfl, partInsCmpFunc a b d hab hb hd]
   simp only [Option.bind_some]
   generalize Go.Sort.partialInsertionSort (ltW (w := w)) d a b = r at *
   obtain ⟨d3, ok⟩ := r
   dsimp only at k1 k2 ⊢
   cases ok with
   | true => exact ⟨d3, rfl, k1, k2 rfl⟩
   | false =>
    rw [if_neg (by simp)]
    obtain ⟨d', e, q1, q2⟩ := j16CmpFunc hS ih a b lim pivot wb wp d3 hn hab (by rw [k1.1]; exact hb) (by rw [k1.1]; exact hd) hlim (hB.perm hb k1) p0 p1
    exact ⟨d', e, Go.Sort.permIn_trans d d3 d' a b k1 q1, q2⟩
  | false =>
   rw [if_neg (by simp)]
   exact j16CmpFunc hS ih a b lim pivot wb wp d hn hab hb hd hlim hB p0 p1
 unfold slices_pdqsortCmpFunc_J14
 split
 ·split
  ·exact J15 _
  ·exact J15 _
 ·exact J15 _
theorem pdqCmpFunc (hS : Go.Sort.SWO (ltW (w := w))) : ∀ n, PdqOkCmpFunc (w := w) n := by
 intro n
 induction n using Nat.strongRecOn with
 | ind n ih =>
  intro a b lim wb wp d hn hab hb hd hlim hB
  have hl := (tlen d)
  rw [slices_pdqsortCmpFunc_L2_eq]; unfold slices_pdqsortCmpFunc_L2_B
  (repeat (rw [G_pos (by first | omega | (unfold fits; omega) | (simp only [List.length_set, tlen]; omega))]))
  by_cases c1 : b - a ≤ 12
  ·rw [if_pos (by simp only [decide_eq_true_eq]; omega), insCmpFunc a b d hab hb hd]
   obtain ⟨q1, q2⟩ := Go.Sort.insertionSort_holds hS d a b hab hb
   exact ⟨_, rfl, q1, q2⟩
  ·rw [if_neg (by simp only [decide_eq_true_eq]; omega)]
   by_cases c2 : lim = 0
   ·rw [if_pos (by simp [c2]), heapCmpFunc a b d (by omega) hb hd]
    obtain ⟨q1, q2⟩ := Go.Sort.heapSort_holds hS d a b hab hb
    exact ⟨_, rfl, q1, q2⟩
   ·rw [if_neg (by simp only [decide_eq_true_eq]; omega)]
    have J9 : ∀ (lim : Nat) (d1 : Array (Pl w)), lim ≤ 64 → Go.Sort.PermIn a b d d1 → ∃ d', slices_pdqsortCmpFunc_J9 slices_pdqsortCmpFunc w a b wb wp (slices_pdqsortCmpFunc_L2 slices_pdqsortCmpFunc w) lim (tl d1) = some (tl d') ∧ Go.Sort.PermIn a b d d' ∧ Go.Sort.SortedIn (ltW (w := w)) a b d' := fun lim d1 h1 h2 => by
     have hz := h2.1
     have hB1 := hB.perm hb h2
     obtain ⟨c3, c4⟩ := Go.Sort.choosePivot_holds (ltW (w := w)) d1 a b (by omega)
     unfold slices_pdqsortCmpFunc_J9
     rw [pivotCmpFunc d1 a b (by omega) (by omega) (by omega)]
     simp only [Option.bind_some]
     generalize Go.Sort.choosePivot (ltW (w := w)) d1 a b = r at *
     obtain ⟨pv, hi⟩ := r
     dsimp only at c3 c4 ⊢
     have ih' : ∀ m, m < b - a → PdqOkCmpFunc (w := w) m := fun m hm => ih m (by omega)
     by_cases c5 : hintCmpFunc hi = 2
     ·rw [if_pos (by simp [c5]), revCmpFunc a b d1 (by omega) (by omega) (by omega)]
      simp only [Option.bind_some]
      have hr := Go.Sort.reverseRange_holds d1 a b hab (by omega)
      have hz2 := hr.1
      (repeat (rw [G_pos (by first | omega | (unfold fits; omega) | (simp only [List.length_set, tlen]; omega))]))
      rw [show (b : Int) - 1 - ((pv : Int) - (a : Int)) = (((b - 1) - (pv - a) : Nat) : Int) by omega]
      obtain ⟨d', e, q1, q2⟩ := j14CmpFunc hS ih' a b lim ((b - 1) - (pv - a)) wb wp 1 _ rfl (by omega) (by omega) (by omega) h1 (hB1.perm (by omega) hr) (by omega) (by omega)
      exact ⟨d', e, Go.Sort.permIn_trans d d1 d' a b h2 (Go.Sort.permIn_trans d1 _ d' a b hr q1), q2⟩
     ·rw [if_neg (by simpa using c5)]
      obtain ⟨d', e, q1, q2⟩ := j14CmpFunc hS ih' a b lim pv wb wp (hintCmpFunc hi) d1 rfl (by omega) (by omega) (by omega) h1 hB1 c3 c4
      exact ⟨d', e, Go.Sort.permIn_trans d d1 d' a b h2 q1, q2⟩
    cases wb with
    | true =>
     rw [if_neg (by simp)]
     exact J9 lim d hlim (Go.Sort.permIn_refl d a b)
    | false =>
     rw [if_pos (by simp)]
     obtain ⟨d1, e, q⟩ := breakCmpFunc a b d hab hb hd
     rw [e]
     simp only [Option.bind_some]
     (repeat (rw [G_pos (by first | omega | (unfold fits; omega) | (simp only [List.length_set, tlen]; omega))]))
     rw [show (lim : Int) - 1 = ((lim - 1 : Nat) : Int) by omega]
     exact J9 (lim - 1) d1 (by omega) q
/-- A row, sorted. -/
theorem pdqAllCmpFunc (hS : Go.Sort.SWO (ltW (w := w))) (l : List (Pl w)) (hl : l.length ≤ 1000000000) {v : Int} (hv : BL l.length v) : ∃ l' : List (Pl w), slices_pdqsortCmpFunc 0 l.length v w (l.map Pl.val) = some (l'.map Pl.val) ∧ l'.Perm l ∧ l'.Pairwise (fun x y => (ltW (w := w)) y x = false) := by
 obtain ⟨v0, v1, _⟩ := hv
 obtain ⟨d', e, q1, q2⟩ := pdqCmpFunc hS _ 0 l.length v.toNat true true l.toArray (Nat.le_refl _) (Nat.zero_le _) (by simp) (by simpa using hl) (by omega) (.inl rfl)
 have hz := q1.1
 refine ⟨d'.toList, ?_, ?_, ?_⟩
 ·have := pdqRecCmpFunc (w := w) 0 l.length v.toNat (l.map Pl.val)
  rw [show ((v.toNat : Nat) : Int) = v by omega] at this
  rw [show ((0 : Nat) : Int) = 0 from rfl] at this
  rw [this]
  rw [show ((v.toNat : Nat) : Int) = v by omega] at e
  exact e
 ·have := q1.2.2
  rw [show d'.extract 0 l.length = d' by rw [← show d'.size = l.length by simpa using hz]; simp, show l.toArray.extract 0 l.length = l.toArray by simp] at this
  simpa using this
 ·rw [List.pairwise_iff_getElem]
  intro i j hi hj hij
  have := q2 i j (Nat.zero_le _) hij (by simpa [hz] using hj)
  simp only [Array.length_toList] at hi hj
  rw [getElem!_pos d' j hj, getElem!_pos d' i hi] at this
  simpa using this
end

theorem plOf (w : List Int) : ∀ l : List Int, (∀ x ∈ l, 0 ≤ x ∧ x ≤ w.length) → ∃ l' : List (Pl w), l'.map Pl.val = l
 | [], _ => ⟨[], rfl⟩
 | x :: l, h => by
  obtain ⟨l', e⟩ := plOf w l fun y hy => h y (List.mem_cons_of_mem _ hy)
  exact ⟨⟨x, h x List.mem_cons_self⟩ :: l', by rw [List.map_cons, e]⟩
theorem nodupW (n : Nat) : ((List.range n).map (fun k : Nat => (k : Int))).Nodup := by
 have hr : (List.range n).Pairwise (fun a b => a ≠ b) := List.nodup_range
 unfold List.Nodup
 rw [List.pairwise_map]
 exact hr.imp fun h e => h (by omega)
/-- All places, by what stands from them on. -/
structure EndsOK (w l : List Int) : Prop where
 perm : l.Perm ((List.range w.length).map (fun k : Nat => (k : Int)))
 rises : l.Pairwise (fun x y => ¬ lcmp (w.drop y.toNat) (w.drop x.toNat) < 0)
theorem sortW {w : List Int} (hw : w.length ≤ 1000) : ∃ l, slices_SortFunc w ((List.range w.length).map (fun k : Nat => (k : Int))) = some l ∧ EndsOK w l := by
 haveI : Nonempty (PLift (w.length ≤ 1000)) := ⟨⟨hw⟩⟩
 obtain ⟨l0, e0⟩ := plOf w ((List.range w.length).map (fun k : Nat => (k : Int))) fun x hx => by
  obtain ⟨k, hk, rfl⟩ := List.mem_map.1 hx
  have := List.mem_range.1 hk
  omega
 have hl : l0.length = w.length := by
  have := congrArg List.length e0
  simpa using this
 obtain ⟨v, e, b⟩ := bits_spec (x := (l0.length : Int)) (by omega) (by omega)
 obtain ⟨l1, e1, h1, h2⟩ := pdqAllCmpFunc (w := w) swoW l0 (by omega) b
 refine ⟨l1.map Pl.val, ?_, ?_, ?_⟩
 ·unfold slices_SortFunc
  rw [← e0, List.length_map, wrapU64 (by omega) (by omega), e]
  show (slices_pdqsortCmpFunc 0 _ v w _).bind _ = _
  rw [e1]; rfl
 ·rw [← e0]; exact h1.map _
 ·rw [List.pairwise_map]
  exact h2.imp fun h => ltW_no.1 h
theorem Ends_L6 {w : List Int} (hw : w.length ≤ 1000) : ∀ (n : Nat) (t : Nat), w.length - t = n → t ≤ w.length → ∃ l, lyndon_Ends_L6 w t ((List.range t).map (fun k : Nat => (k : Int))) = some (0, l) ∧ EndsOK w l := by
 intro n
 induction n with
 | zero =>
  intro t hn ht
  have : t = w.length := by omega
  subst this
  obtain ⟨l, e, h⟩ := sortW hw
  refine ⟨l, ?_, h⟩
  rw [lyndon_Ends_L6_eq]; unfold lyndon_Ends_L6_B
  rw [if_neg (by simp), e]; rfl
 | succ n ih =>
  intro t hn ht
  obtain ⟨l, e, h⟩ := ih (t + 1) (by omega) (by omega)
  refine ⟨l, ?_, h⟩
  rw [lyndon_Ends_L6_eq]; unfold lyndon_Ends_L6_B
  rw [if_pos (by simp only [decide_eq_true_eq]; omega), G_pos (room_of (by simp; omega)), G_pos (by unfold fits; omega)]
  rw [List.range_succ, List.map_append] at e
  exact_mod_cast e
/-! ### turns -/
def rot (w : List Int) (k : Int) : List Int := cut w k w.length ++ cut w 0 k
theorem rot_len {w : List Int} {k : Int} (h0 : 0 ≤ k) (h1 : k ≤ w.length) : (rot w k).length = w.length := by
 unfold rot cut; simp; omega
theorem rotC {w : List Int} (hw : w.length ≤ 60) {k : Int} (h0 : 0 ≤ k) (h1 : k ≤ w.length) : slices_Concat [cut w k w.length, cut w 0 k] = some (rot w k) := by
 have := rot_len h0 h1
 unfold rot at this ⊢
 rw [slices_Concat_spec (by simp) (by simp at this ⊢; omega)]; simp
structure Least (w : List Int) (b t : Int) : Prop where
 b0 : 0 ≤ b
 b1 : b < t ∨ b = 0
 low : ∀ i : Int, 0 ≤ i → i < t → ¬ lcmp (rot w i) (rot w b) < 0 ∧ (rot w i = rot w b → b ≤ i)
theorem Turn_L6 {w : List Int} (hw : w.length ≤ 60) : ∀ (n : Nat) (t b : Int), (w.length - t).toNat = n → 0 ≤ t → t ≤ w.length → Least w b t → ∃ b', lyndon_Turn_L6 w b t = some (b', 0) ∧ Least w b' w.length := by
 intro n
 induction n with
 | zero =>
  intro t b hn t0 t1 h
  refine ⟨b, ?_, ?_⟩
  ·rw [lyndon_Turn_L6_eq]; unfold lyndon_Turn_L6_B
   rw [if_neg (by simp only [decide_eq_true_eq]; omega)]
  ·rw [show (w.length : Int) = t by omega]; exact h
 | succ n ih =>
  intro t b hn t0 t1 h
  have hb0 := h.b0
  have hb1 := h.b1
  have step : ∀ b', Least w b' (t + 1) → lyndon_Turn_L6 w b t = lyndon_Turn_L6 w b' (t + 1) → ∃ b'', lyndon_Turn_L6 w b t = some (b'', 0) ∧ Least w b'' w.length := fun b' h' e => by
   rw [e]; exact ih _ _ (by omega) (by omega) (by omega) h'
  have e1 : lyndon_Turn_L6 w b t = lyndon_Turn_J8 b t (lyndon_Turn_L6 w) (decide (lcmp (rot w t) (rot w b) < 0)) := by
   rw [lyndon_Turn_L6_eq]; unfold lyndon_Turn_L6_B
   have hl := rot_len (w := w) (k := t) t0 (by omega)
   rw [if_pos (by simp only [decide_eq_true_eq]; omega), G_pos (by omega), G_pos (by omega), G_pos (by omega), G_pos (by omega)]
   simp only [both_self]
   rw [rotC hw t0 (by omega), rotC hw hb0 (by omega)]
   simp only [Option.bind_some]
   rw [compare_spec _ _ (by omega)]
   rfl
  by_cases c : lcmp (rot w t) (rot w b) < 0
  ·refine step t ⟨t0, .inl (by omega), fun i i0 i1 => ?_⟩ ?_
   ·by_cases it : i = t
    ·subst it; exact ⟨by rw [lcmp_self]; omega, fun _ => Int.le_refl _⟩
    ·obtain ⟨l1, l2⟩ := h.low i i0 (by omega)
     have c2 : lcmp (rot w t) (rot w i) < 0 := by
      refine Classical.byContradiction fun q => lcmp_ntrans q l1 c
     have f := lcmp_flip (rot w t) (rot w i)
     refine ⟨by omega, fun e => ?_⟩
     rw [e, lcmp_self] at c2; omega
   ·rw [e1, decide_eq_true c]; unfold lyndon_Turn_J8
    rw [if_pos rfl, G_pos (by unfold fits; omega)]
  ·refine step b ⟨hb0, by omega, fun i i0 i1 => ?_⟩ ?_
   ·by_cases it : i = t
    ·subst it; exact ⟨c, fun _ => by omega⟩
    ·exact h.low i i0 (by omega)
   ·rw [e1, decide_eq_false c]; unfold lyndon_Turn_J8
    rw [if_neg (by simp), G_pos (by unfold fits; omega)]
/-! ### the law -/
theorem turned_spec {w : List Int} (hw : w.length ≤ 60) {k : Int} (h0 : 0 ≤ k) (h1 : k ≤ w.length) : r31_Turned w k = some (rot w k) := by
 have := rot_len h0 h1
 unfold rot at this
 rw [List.length_append] at this
 unfold r31_Turned
 rw [G_pos (by omega), G_pos (room_of (by simp; omega)), G_pos (by omega), G_pos (room_of (by omega))]
 rfl
theorem ends_lt {w l : List Int} (h : EndsOK w l) {i : Int} (i0 : 1 ≤ i) (i1 : i < l.length) : lcmp (w.drop (ix l (i - 1)).toNat) (w.drop (ix l i).toNat) < 0 := by
 have hnd : l.Nodup := h.perm.nodup_iff.2 (nodupW _)
 have hm : ∀ x ∈ l, 0 ≤ x ∧ x < w.length := fun x hx => by
  obtain ⟨k, hk, rfl⟩ := List.mem_map.1 (h.perm.mem_iff.1 hx)
  have := List.mem_range.1 hk
  omega
 have e1 : ix l (i - 1) = l[(i - 1).toNat]'(by omega) := ix_eq (by omega) (by omega)
 have e2 : ix l i = l[i.toNat]'(by omega) := ix_eq (by omega) (by omega)
 have m1 := hm _ (ix_mem (l := l) (i := i - 1) (by omega) (by omega))
 have m2 := hm _ (ix_mem (l := l) (i := i) (by omega) (by omega))
 have p := (List.pairwise_iff_getElem.1 h.rises) (i - 1).toNat i.toNat (by omega) (by omega) (by omega)
 have q := (List.pairwise_iff_getElem.1 hnd) (i - 1).toNat i.toNat (by omega) (by omega) (by omega)
 rw [← e1, ← e2] at p q
 have f := lcmp_flip (w.drop (ix l (i - 1)).toNat) (w.drop (ix l i).toNat)
 rcases lcmp_range (w.drop (ix l (i - 1)).toNat) (w.drop (ix l i).toNat) with e | e | e
 ·have := congrArg List.length (lcmp_eq e)
  rw [List.length_drop, List.length_drop] at this
  omega
 ·omega
 ·omega
theorem law_L19 {w l : List Int} (hw : w.length ≤ 60) (h : EndsOK w l) : ∀ (n : Nat) (i : Int) (seen : List Bool), (l.length - i).toNat = n → 0 ≤ i → i ≤ l.length → seen.length = w.length → (∀ j : Int, i ≤ j → j < l.length → ix seen (ix l j) = false) → law_LyndonTurns_L19 w l i seen = some true := by
 have hll : l.length = w.length := by simpa using h.perm.length_eq
 have hnd : l.Nodup := h.perm.nodup_iff.2 (nodupW _)
 have hm : ∀ x ∈ l, 0 ≤ x ∧ x < w.length := fun x hx => by
  obtain ⟨k, hk, rfl⟩ := List.mem_map.1 (h.perm.mem_iff.1 hx)
  have := List.mem_range.1 hk
  omega
 intro n
 induction n with
 | zero =>
  intro i seen hn i0 i1 hs hu
  rw [law_LyndonTurns_L19_eq]; unfold law_LyndonTurns_L19_B
  rw [if_neg (by simp only [decide_eq_true_eq]; omega)]
 | succ n ih =>
  intro i seen hn i0 i1 hs hu
  obtain ⟨m0, m1⟩ := hm _ (ix_mem (l := l) (i := i) (by omega) (by omega))
  have next : law_LyndonTurns_L19 w l (i + 1) (seen.set (ix l i).toNat true) = some true := by
   refine ih _ _ (by omega) (by omega) (by omega) (by rw [List.length_set]; exact hs) fun j j0 j1 => ?_
   obtain ⟨n0, n1⟩ := hm _ (ix_mem (l := l) (i := j) (by omega) (by omega))
   rw [ix_set_ne m0 n0]
   ·exact hu j (by omega) j1
   ·intro e
    have e1 : ix l i = l[i.toNat]'(by omega) := ix_eq (by omega) (by omega)
    have e2 : ix l j = l[j.toNat]'(by omega) := ix_eq (by omega) (by omega)
    have q := (List.pairwise_iff_getElem.1 hnd) i.toNat j.toNat (by omega) (by omega) (by omega)
    rw [← e1, ← e2] at q
    exact q e
  rw [law_LyndonTurns_L19_eq]; unfold law_LyndonTurns_L19_B
  rw [if_pos (by simp only [decide_eq_true_eq]; omega), G_pos (by omega), G_pos (by omega), if_neg (by simp only [decide_eq_true_eq]; omega), G_pos (by omega), G_pos (by omega), if_neg (by simp only [decide_eq_true_eq]; omega), G_pos (by omega), G_pos (by omega), G_pos (by omega), G_pos (by omega), hu i (Int.le_refl _) (by omega), if_neg (by simp)]
  rw [G_pos (by omega), G_pos (by omega), G_pos (by omega), G_pos (by omega)]
  by_cases c : i = 0
  ·rw [if_pos (decide_eq_true c), if_neg (by simp), G_pos (by unfold fits; omega)]
   exact next
  ·obtain ⟨p0, p1⟩ := hm _ (ix_mem (l := l) (i := i - 1) (by omega) (by omega))
   rw [if_neg (by simpa using c), G_pos (by unfold fits; omega), G_pos (by omega), G_pos (by omega), G_pos (by omega), G_pos (by omega), G_pos (by omega), G_pos (by omega)]
   rw [cut_drop w p0, cut_drop w m0, ahead_spec _ _ (by rw [List.length_drop]; omega), decide_eq_true (ends_lt h (by omega) (by omega)), Option.bind_some, if_neg (by simp), G_pos (by unfold fits; omega)]
   exact next
theorem law_L10 {w l : List Int} {b : Int} (hw : w.length ≤ 60) (h : EndsOK w l) (hb : Least w b w.length) : ∀ (n : Nat) (i : Int), (w.length - i).toNat = n → 0 ≤ i → i ≤ w.length → law_LyndonTurns_L10 w b l (rot w b) i = some true := by
 intro n
 induction n with
 | zero =>
  intro i hn i0 i1
  have hll : l.length = w.length := by simpa using h.perm.length_eq
  have hm : ∀ x ∈ l, 0 ≤ x ∧ x < w.length := fun x hx => by
   obtain ⟨k, hk, rfl⟩ := List.mem_map.1 (h.perm.mem_iff.1 hx)
   have := List.mem_range.1 hk
   omega
  rw [law_LyndonTurns_L10_eq]; unfold law_LyndonTurns_L10_B
  rw [if_neg (by simp only [decide_eq_true_eq]; omega), G_pos (by unfold mkOK; omega)]
  refine law_L19 hw h _ 0 _ rfl (by omega) (by omega) (by simp) fun j j0 j1 => ?_
  obtain ⟨n0, n1⟩ := hm _ (ix_mem (l := l) (i := j) (by omega) (by omega))
  exact ix_replicate n0 (by omega)
 | succ n ih =>
  intro i hn i0 i1
  obtain ⟨l1, l2⟩ := hb.low i i0 (by omega)
  have hl := rot_len (w := w) (k := i) i0 (by omega)
  rw [law_LyndonTurns_L10_eq]; unfold law_LyndonTurns_L10_B
  rw [if_pos (by simp only [decide_eq_true_eq]; omega), turned_spec hw i0 (by omega), Option.bind_some, ahead_spec _ _ (by omega), Option.bind_some, r1_Words_spec (by omega), Option.bind_some]
  rw [decide_eq_false l1, if_neg (by simp)]
  by_cases c : rot w i = rot w b
  ·rw [if_pos (decide_eq_true c), if_neg (by simp only [decide_eq_true_eq]; have := l2 c; omega), G_pos (by unfold fits; omega)]
   exact ih _ (by omega) (by omega) (by omega)
  ·rw [if_neg (by simpa using c), G_pos (by unfold fits; omega)]
   exact ih _ (by omega) (by omega) (by omega)
theorem law_true (w : List Int) (hs : Sml (.list (.int .i64)) w) : law_LyndonTurns w = some true := by
 unfold law_LyndonTurns
 by_cases h : mayE 4 w = 0
 ·have hw : (w.length : Int) ≤ 60 := (mayE_zero h).2.1
  obtain ⟨l, el, hl⟩ := Ends_L6 (w := w) (by omega) _ 0 rfl (by omega)
  obtain ⟨b, eb, hb⟩ := Turn_L6 (w := w) (by omega) _ 0 0 rfl (by omega) (by omega) ⟨by omega, .inr rfl, fun i a b => by omega⟩
  have hll : l.length = w.length := by simpa using hl.perm.length_eq
  refine bind_to (y := (b, 0)) ?_ ?_
  ·unfold lyndon_Turn
   refine bind_to lyndon_may1 ?_
   rw [h, if_neg (by simp)]; exact eb
  refine bind_to (y := (0, l)) ?_ ?_
  ·unfold lyndon_Ends
   refine bind_to lyndon_may1 ?_
   rw [h, if_neg (by simp)]; exact el
  refine bind_to r1_May_spec ?_
  have b0 := hb.b0
  have b1 := hb.b1
  rw [h, if_neg (by simp), if_neg (by simp), if_neg (by simp), if_neg (by simp only [decide_eq_true_eq]; omega), if_neg (by simp only [decide_eq_true_eq]; omega), if_neg (by simp only [decide_eq_true_eq]; omega)]
  have J : law_LyndonTurns_J7 w b l = some true := by
   unfold law_LyndonTurns_J7
   rw [turned_spec (by omega) b0 (by omega), Option.bind_some]
   exact law_L10 (by omega) hl hb _ 0 rfl (by omega) (by omega)
  by_cases c : b = w.length
  ·rw [if_pos (by simpa using c), if_neg (by simp only [decide_eq_true_eq]; omega)]; exact J
  ·rw [if_neg (by simpa using c)]; exact J
 ·refine bind_to (y := (0, mayE 4 w)) ?_ ?_
  ·unfold lyndon_Turn
   refine bind_to lyndon_may1 ?_
   rw [if_pos (by simpa using h)]
  refine bind_to (y := (mayE 4 w, [])) ?_ ?_
  ·unfold lyndon_Ends
   refine bind_to lyndon_may1 ?_
   rw [if_pos (by simpa using h)]
  refine bind_to r1_May_spec ?_
  rw [if_pos (by simpa using h), if_pos (by simp), if_pos (by simp), if_pos (by simp)]
  simp

end Go.Proofs.Ytighoanekfodoaa.lyndonTurnsW
