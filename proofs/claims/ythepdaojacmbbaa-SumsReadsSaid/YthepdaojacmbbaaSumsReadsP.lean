/- The law 'SumsReads' of the plain functions. -/
import Derived.Test.YthepdaojacmbbaaSumsReadsD
set_option maxHeartbeats 1000000
set_option maxRecDepth 20000
set_option linter.unusedSimpArgs false
set_option linter.unusedVariables false
set_option linter.unusedSectionVars false
namespace Go.Proofs.Ythepdaojacmbbaa.sumsReadsW
open Go Go.Ab
abbrev BB := Bool × Bool × Bool × Unit
abbrev II := Int × Int × Int × Unit
abbrev ND := Int × Int × BB × II × Int × Unit
abbrev NR := Int × Int × BB × II × Int × Int × Int × Unit
abbrev L5 := List NR
def nowT (c : List UInt8) (i : Int) : Int := if i < c.length then bAt c i else 0
theorem now_lt {c : List UInt8} {i : Int} (h : nowT c i ≠ 0) : i < c.length := by
  unfold nowT at h
  by_cases h1 : i < c.length
  · exact h1
  · rw [if_neg h1] at h; exact absurd rfl h
theorem wrap_nat' {n : Nat} (h : n < 9223372036854775808) : IntKind.wrap .i64 (n : Int) = n := by
  unfold IntKind.wrap
  simp [IntKind.bits, IntKind.signed]
  omega
theorem wr64 {x : Int} (h0 : 0 ≤ x) (h1 : x ≤ 1000) : IntKind.wrap .i64 x = x := by
  obtain ⟨n, rfl⟩ := Int.eq_ofNat_of_zero_le h0
  exact wrap_nat' (by omega)
theorem wr8 {x : Int} (h0 : 0 ≤ x) (h1 : x ≤ 255) : IntKind.wrap .u8 x = x := by
  obtain ⟨n, rfl⟩ := Int.eq_ofNat_of_zero_le h0
  unfold IntKind.wrap
  simp [IntKind.bits, IntKind.signed]
  omega
section
variable {c : List UInt8} {i n s w f a : Int} {l : L5}
theorem p_now (h0 : 0 ≤ i) : sums_reader_now (c, (i, (s, (n, (w, ()))))) = some (nowT c i) := by
  unfold sums_reader_now nowT
  by_cases h : i < (c.length : Int)
  · rw [if_pos (by simp [h]), G_pos ⟨h0, h⟩, if_pos h]
  · simp [h]
theorem p_fail {k : Int} : sums_reader_fail (c, (i, (s, (n, (w, ()))))) k = some (.inr (k, i)) := rfl
theorem r_now (h0 : 0 ≤ i) : r22_Reader_now (c, (i, (s, (n, (w, (l, ((f, (a, ())), ()))))))) = some (nowT c i) := by
  unfold r22_Reader_now nowT
  by_cases h : (c.length : Int) ≤ i
  · have : ¬ i < (c.length : Int) := by omega
    simp [h, this]
  · have h2 : i < c.length := by omega
    simp only [h, decide_false, Bool.false_eq_true, if_false, if_pos h2]
    exact G_pos ⟨h0, h2⟩
theorem r_ok : r22_Reader_ok (c, (i, (s, (n, (w, (l, ((f, (a, ())), ()))))))) = some (decide (f = 0)) := rfl
theorem r_fail {k : Int} : r22_Reader_fail k c i s n w f a l = if f = 0 then some (c, i, s, n, w, l, k, i) else some (c, i, s, n, w, l, f, a) := by
  unfold r22_Reader_fail
  by_cases h : f = 0 <;> simp [h]
theorem p_counted (h0 : 0 ≤ i) (h1 : i ≤ c.length + 10) (hc : c.length ≤ 4000) (hn : 0 ≤ n ∧ n ≤ 12) :
    sums_reader_counted c i s n w = if 12 < n + 1 then some (.inr (7, i)) else some (.inl (c, i + 1, s, n + 1, w)) := by
  unfold sums_reader_counted
  rw [G_pos (fits_of (by omega) (by omega))]
  by_cases h : (12 : Int) < n + 1
  · simp [h, p_fail, pbind_inr]
  · simp only [h, decide_false, Bool.false_eq_true, if_false]
    exact G_pos (fits_of (by omega) (by omega))
theorem r_counted (h0 : 0 ≤ i) (h1 : i ≤ c.length + 10) (hc : c.length ≤ 4000) (hn : 0 ≤ n ∧ n ≤ 12) :
    r22_Reader_counted c i s n w 0 0 l = if 12 < n + 1 then some (c, i + 1, s, n + 1, w, l, 7, i) else some (c, i + 1, s, n + 1, w, l, 0, 0) := by
  have f3 : fits (i + 1) := fits_of (by omega) (by omega)
  unfold r22_Reader_counted
  rw [G_pos (fits_of (by omega) (by omega))]
  by_cases h : (12 : Int) < n + 1
  · simp [h, r_fail, G_pos f3]
  · simp [h, G_pos f3]
/-- What was found to be wrong stays. -/
theorem f_counted (hf : f ≠ 0) (h0 : 0 ≤ i) (h1 : i ≤ c.length + 1000) (hc : c.length ≤ 4000) (hn : 0 ≤ n ∧ n ≤ 100) :
    r22_Reader_counted c i s n w f a l = some (c, i + 1, s, n + 1, w, l, f, a) := by
  have f3 : fits (i + 1) := fits_of (by omega) (by omega)
  unfold r22_Reader_counted
  rw [G_pos (fits_of (by omega) (by omega))]
  by_cases h : (12 : Int) < n + 1
  · simp [h, r_fail, hf, G_pos f3]
  · simp [h, G_pos f3]
theorem r_put (h : l.length ≤ 1000) {k v x y re : Int} {b0 b1 b2 : Bool} {t0 t1 t2 : Int} : r22_Reader_put (k, (v, ((b0, (b1, (b2, ()))), ((t0, (t1, (t2, ()))), (re, (x, (y, ()))))))) c i s n w f a l =
    some ((l.length : Int), c, i, s, n, w, l ++ [(k, v, (b0, b1, b2, ()), (t0, t1, t2, ()), re, x, y, ())], f, a) := by
  unfold r22_Reader_put
  rw [G_pos (room_of (by simp; omega))]
  have e : (((l ++ [(k, v, (b0, b1, b2, ()), (t0, t1, t2, ()), re, x, y, ())]).length : Int) - 1) = (l.length : Int) := by simp
  simp only [e]
  rw [G_pos (fits_of (by omega) (by omega))]
theorem f_part (hf : f ≠ 0) : r22_Reader_part r22_Reader_whole c i s n w f a l = some (0, c, i, s, n, w, l, f, a) := by
  rw [r22_Reader_part_eq]
  unfold r22_Reader_part_B
  rw [r_ok]
  simp [hf]
theorem f_termL (hf : f ≠ 0) (h0 : 0 ≤ i) (x : Int) : r22_Reader_term_L2 r22_Reader_whole x c i s n w f a l = some (x, c, i, s, n, w, l, f, a) := by
  rw [r22_Reader_term_L2_eq]
  unfold r22_Reader_term_L2_B
  rw [r_now h0]
  simp only [Option.bind_some]
  rw [r_ok]
  simp [hf]
theorem f_term (hf : f ≠ 0) (h0 : 0 ≤ i) : r22_Reader_term r22_Reader_whole c i s n w f a l = some (0, c, i, s, n, w, l, f, a) := by
  unfold r22_Reader_term
  rw [f_part hf]
  simp only [Option.bind_some]
  exact f_termL hf h0 0
theorem f_wholeL (hf : f ≠ 0) (h0 : 0 ≤ i) (x : Int) : r22_Reader_whole_L2 r22_Reader_whole x c i s n w f a l = some (x, c, i, s, n, w, l, f, a) := by
  rw [r22_Reader_whole_L2_eq]
  unfold r22_Reader_whole_L2_B
  rw [r_now h0]
  simp only [Option.bind_some]
  rw [r_ok]
  simp [hf]
theorem f_whole (hf : f ≠ 0) (h0 : 0 ≤ i) : r22_Reader_whole c i s n w f a l = some (0, c, i, s, n, w, l, f, a) := by
  rw [r22_Reader_whole_eq]
  unfold r22_Reader_whole_B
  rw [f_term hf h0]
  simp only [Option.bind_some]
  exact f_wholeL hf h0 0
theorem f_sum (hf : f ≠ 0) {side plus sg v re x y t0 t1 t2 : Int} {b0 b1 b2 : Bool} : r22_Reader_sum side plus c i s n w f a sg v b0 b1 b2 t0 t1 t2 re x y l = some (plus, c, i, s, n, w, l, f, a, sg, v, b0, b1, b2, t0, t1, t2, re, x, y) := by
  unfold r22_Reader_sum
  rw [r22_Reader_sum_L1_eq]
  unfold r22_Reader_sum_L1_B
  rw [r_ok]
  simp [hf]
end
theorem variable_eq (x : Int) : sums_variable x = some (decide (120 ≤ x ∧ x ≤ 122)) := by
  unfold sums_variable
  by_cases h : 120 ≤ x <;> simp [h]
theorem now_byte {c : List UInt8} {i : Int} : 0 ≤ nowT c i ∧ nowT c i ≤ 255 := by
  unfold nowT
  by_cases h : i < c.length
  · rw [if_pos h]; unfold bAt
    have := (c.getD i.toNat 0).toNat_lt
    constructor
    · omega
    · omega
  · rw [if_neg h]; omega
def Bds (M t0 t1 t2 re : Int) : Prop := -M ≤ t0 ∧ t0 ≤ M ∧ -M ≤ t1 ∧ t1 ≤ M ∧ -M ≤ t2 ∧ t2 ≤ M ∧ -M ≤ re ∧ re ≤ M
abbrev PS := List UInt8 × Int × Int × Int × Int × Int × Int × Bool × Bool × Bool × Int × Int × Int × Int × List (Tr ND) × Int
abbrev RS := Int × List UInt8 × Int × Int × Int × Int × L5 × Int × Int × Int × Int × Bool × Bool × Bool × Int × Int × Int × Int × Int × Int
def SmS (c : List UInt8) (i s n w sg v : Int) (K : List (Tr ND)) (plus B : Int) (l : L5) (o : Option (PS ⊕ (Int × Int))) (r : Option RS) : Prop :=
  (∃ i' b0 b1 b2 t0 t1 t2 re p, o = some (.inl (c, i', s, n, w, sg, v, b0, b1, b2, t0, t1, t2, re, K, p)) ∧ r = some (p, c, i', s, n, w, l, 0, 0, sg, v, b0, b1, b2, t0, t1, t2, re, 0, 0)
    ∧ i < i' ∧ i' ≤ c.length ∧ plus ≤ p ∧ p ≤ 3 ∧ Bds (B + 9 * (p - plus + 1)) t0 t1 t2 re)
  ∨ (∃ cd pl i' b0 b1 b2 t0 t1 t2 re p, o = some (.inr (cd, pl)) ∧ r = some (p, c, i', s, n, w, l, cd, pl, sg, v, b0, b1, b2, t0, t1, t2, re, 0, 0)
    ∧ cd ≠ 0 ∧ 0 ≤ i' ∧ i' ≤ c.length ∧ 0 ≤ p ∧ p ≤ 4)
def SumIH (c : List UInt8) (side s n w sg v : Int) (K : List (Tr ND)) (l : L5) (m : Nat) : Prop :=
  ∀ (i : Int) b0 b1 b2 t0 t1 t2 re (plus B : Int), 0 ≤ i → i ≤ c.length → 0 ≤ plus → plus ≤ 3 → 0 ≤ B → B ≤ 1000 + 9 * plus → Bds B t0 t1 t2 re → ((c.length : Int) - i).toNat ≤ m →
    SmS c i s n w sg v K plus B l (sums_reader_sum_L1 side c i s n w sg v b0 b1 b2 t0 t1 t2 re plus K) (r22_Reader_sum_L1 side plus c i s n w 0 0 sg v b0 b1 b2 t0 t1 t2 re 0 0 l)
section
variable {c : List UInt8} {side s n w sg v : Int} {K : List (Tr ND)} {l : L5}
/-- Behind a summand. -/
theorem sum_after {m : Nat} (ih : ∀ m' < m, SumIH c side s n w sg v K l m') {i i0 : Int} {b0 b1 b2 : Bool} {t0 t1 t2 re plus B : Int} (h0 : 0 ≤ i0) (h1 : i ≤ c.length) (hi : i0 < i) (hc : c.length ≤ 4000) (p0 : 0 ≤ plus) (p1 : plus ≤ 3) (hB0 : 0 ≤ B) (hB : B ≤ 1000 + 9 * plus)
    (hb : Bds (B + 9) t0 t1 t2 re) (hm : ((c.length : Int) - i0).toNat ≤ m) :
    SmS c i0 s n w sg v K plus B l (sums_reader_sum_J6 (sums_reader_sum_L1 side) plus c i s n w sg v b0 b1 b2 t0 t1 t2 re K)
      (r22_Reader_sum_J18 plus (r22_Reader_sum_L1 side) c i s n w 0 0 sg v b0 b1 b2 t0 t1 t2 re 0 0 l) := by
  unfold sums_reader_sum_J6 r22_Reader_sum_J18
  rw [p_now (by omega), r_now (by omega)]
  simp only [Option.bind_some]
  by_cases h43 : nowT c i = 43
  · have hlt : i < c.length := now_lt (by rw [h43]; decide)
    simp only [h43, not_true_eq_false, decide_false, Bool.false_eq_true, if_false]
    rw [G_pos (fits_of (by omega) (by omega)), G_pos (fits_of (by omega) (by omega))]
    have f1 : fits (i + 1) := fits_of (by omega) (by omega)
    by_cases h3 : 3 < plus + 1
    · simp only [h3, decide_true, if_true, p_fail, pbind_inr, r_fail, Option.bind_some]
      unfold r22_Reader_sum_J24
      simp only [G_pos f1]
      have := f_sum (side := side) (plus := plus + 1) (c := c) (i := i + 1) (n := n) (s := s) (w := w) (f := 7) (a := i) (sg := sg) (v := v) (re := re) (x := 0) (y := 0) (t0 := t0) (t1 := t1) (t2 := t2) (b0 := b0) (b1 := b1) (b2 := b2) (l := l) (by decide)
      unfold r22_Reader_sum at this
      rw [this]
      exact .inr ⟨7, i, _, _, _, _, _, _, _, _, _, rfl, rfl, by decide, by omega, by omega, by omega, by omega⟩
    · simp only [h3, decide_false, Bool.false_eq_true, if_false]
      unfold r22_Reader_sum_J24 sums_reader_sum_J16
      simp only [G_pos f1]
      rcases ih (((c.length : Int) - (i + 1)).toNat) (by omega) (i + 1) b0 b1 b2 t0 t1 t2 re (plus + 1) (B + 9) (by omega) (by omega) (by omega) (by omega) (by omega) (by omega) hb (Nat.le_refl _) with
        ⟨i', b0', b1', b2', t0', t1', t2', re', p, e1, e2, g1, g2, g3, g4, g5⟩ | ⟨cd, pl, i', b0', b1', b2', t0', t1', t2', re', p, e1, e2, g1, g2, g3, g4, g5⟩
      · refine .inl ⟨i', b0', b1', b2', t0', t1', t2', re', p, e1, e2, by omega, g2, by omega, g4, ?_⟩
        have : B + 9 + 9 * (p - (plus + 1) + 1) = B + 9 * (p - plus + 1) := by omega
        rw [← this]; exact g5
      · exact .inr ⟨cd, pl, i', b0', b1', b2', t0', t1', t2', re', p, e1, e2, g1, g2, g3, g4, g5⟩
  · simp only [h43, not_false_eq_true, decide_true, if_true]
    refine .inl ⟨i, b0, b1, b2, t0, t1, t2, re, plus, rfl, rfl, hi, h1, by omega, p1, ?_⟩
    have : B + 9 * (plus - plus + 1) = B + 9 := by omega
    rw [this]; exact hb
/-- A summand, behind its digit. -/
theorem sum_item {m : Nat} (ih : ∀ m' < m, SumIH c side s n w sg v K l m') (hs : side = 1 ∨ side = -1) {d : Bool} {k i i0 : Int} {b0 b1 b2 : Bool} {t0 t1 t2 re plus B : Int} (h0 : 0 ≤ i0) (h1 : i ≤ c.length) (hi : i0 ≤ i) (hd : d = true → i0 < i) (hc : c.length ≤ 4000) (p0 : 0 ≤ plus) (p1 : plus ≤ 3) (hB0 : 0 ≤ B) (hB : B ≤ 1000 + 9 * plus)
    (k0 : 0 ≤ k) (k1 : k ≤ 9) (hb : Bds B t0 t1 t2 re) (hm : ((c.length : Int) - i0).toNat ≤ m) :
    SmS c i0 s n w sg v K plus B l (sums_reader_sum_J4 side (sums_reader_sum_L1 side) d sg v b0 b1 b2 t0 t1 t2 re plus K k c i s n w)
      (r22_Reader_sum_J10 side plus sg v b0 b1 b2 t0 t1 t2 re 0 0 (r22_Reader_sum_L1 side) d (nowT c i) k c i s n w 0 0 l) := by
  obtain ⟨q1, q2, q3, q4, q5, q6, q7, q8⟩ := hb
  unfold sums_reader_sum_J4 r22_Reader_sum_J10
  rw [p_now (by omega)]
  simp only [Option.bind_some, variable_eq]
  have sk : -9 ≤ side * k ∧ side * k ≤ 9 := by rcases hs with rfl | rfl <;> omega
  generalize hsk : side * k = z at sk
  have fz : fits z := fits_of (by omega) (by omega)
  by_cases hv : 120 ≤ nowT c i ∧ nowT c i ≤ 122
  · have hlt : i < c.length := now_lt (by omega)
    have fi : fits (i + 1) := fits_of (by omega) (by omega)
    simp only [hv, and_self, decide_true, if_true]
    unfold r22_Reader_sum_J11
    simp only [if_true]
    have f0 : fits (t0 + z) := fits_of (by omega) (by omega)
    have f1 : fits (t1 + z) := fits_of (by omega) (by omega)
    have f2 : fits (t2 + z) := fits_of (by omega) (by omega)
    have hx : nowT c i = 120 ∨ nowT c i = 121 ∨ nowT c i = 122 := by omega
    rcases hx with hx | hx | hx
    · have e8 : IntKind.wrap .u8 (nowT c i - 120) = 0 := by rw [hx]; exact wr8 (by decide) (by decide)
      simp only [e8, hsk]
      rw [G_pos (by decide), G_pos (by decide), G_pos (by decide), G_pos (by decide), G_pos fz, G_pos (by simpa using f0), G_pos (by decide), G_pos (by decide), G_pos fi]
      rw [G_pos (by decide), G_pos (by decide), G_pos (by decide), G_pos (by decide), G_pos fz, G_pos (by simpa using f0), G_pos (by decide), G_pos (by decide), G_pos fi]
      exact sum_after ih h0 (by omega) (by omega) hc p0 p1 hB0 hB ⟨by simp; omega, by simp; omega, by simp; omega, by simp; omega, by simp; omega, by simp; omega, by omega, by omega⟩ hm
    · have e8 : IntKind.wrap .u8 (nowT c i - 120) = 1 := by rw [hx]; exact wr8 (by decide) (by decide)
      simp only [e8, hsk]
      rw [G_pos (by decide), G_pos (by decide), G_pos (by decide), G_pos (by decide), G_pos fz, G_pos (by simpa using f1), G_pos (by decide), G_pos (by decide), G_pos fi]
      rw [G_pos (by decide), G_pos (by decide), G_pos (by decide), G_pos (by decide), G_pos fz, G_pos (by simpa using f1), G_pos (by decide), G_pos (by decide), G_pos fi]
      exact sum_after ih h0 (by omega) (by omega) hc p0 p1 hB0 hB ⟨by simp; omega, by simp; omega, by simp; omega, by simp; omega, by simp; omega, by simp; omega, by omega, by omega⟩ hm
    · have e8 : IntKind.wrap .u8 (nowT c i - 120) = 2 := by rw [hx]; exact wr8 (by decide) (by decide)
      simp only [e8, hsk]
      rw [G_pos (by decide), G_pos (by decide), G_pos (by decide), G_pos (by decide), G_pos fz, G_pos (by simpa using f2), G_pos (by decide), G_pos (by decide), G_pos fi]
      rw [G_pos (by decide), G_pos (by decide), G_pos (by decide), G_pos (by decide), G_pos fz, G_pos (by simpa using f2), G_pos (by decide), G_pos (by decide), G_pos fi]
      exact sum_after ih h0 (by omega) (by omega) hc p0 p1 hB0 hB ⟨by simp; omega, by simp; omega, by simp; omega, by simp; omega, by simp; omega, by simp; omega, by omega, by omega⟩ hm
  · have hr : (if (decide ((120 : Int) ≤ nowT c i)) = true then
        r22_Reader_sum_J11 side plus sg v b0 b1 b2 t0 t1 t2 re 0 0 (r22_Reader_sum_L1 side) d (nowT c i) k c i s n w 0 0 l (decide (nowT c i ≤ 122)) else
        r22_Reader_sum_J11 side plus sg v b0 b1 b2 t0 t1 t2 re 0 0 (r22_Reader_sum_L1 side) d (nowT c i) k c i s n w 0 0 l false) = r22_Reader_sum_J11 side plus sg v b0 b1 b2 t0 t1 t2 re 0 0 (r22_Reader_sum_L1 side) d (nowT c i) k c i s n w 0 0 l false := by
      by_cases h : 120 ≤ nowT c i
      · have h' : ¬ nowT c i ≤ 122 := fun h2 => hv ⟨h, h2⟩
        simp [h, h']
      · simp [h]
    rw [hr]
    simp only [hv, decide_false, Bool.false_eq_true, if_false]
    unfold r22_Reader_sum_J11
    simp only [Bool.false_eq_true, if_false, hsk]
    cases d with
    | true =>
      simp only [if_true]
      have f0 : fits (re - z) := fits_of (by omega) (by omega)
      rw [G_pos fz, G_pos f0, G_pos fz, G_pos f0]
      exact sum_after ih h0 h1 (hd rfl) hc p0 p1 hB0 hB ⟨by omega, by omega, by omega, by omega, by omega, by omega, by omega, by omega⟩ hm
    | false =>
      simp only [Bool.false_eq_true, if_false, p_fail, pbind_inr, r_fail, if_true, Option.bind_some]
      exact .inr ⟨4, i, _, _, _, _, _, _, _, _, _, rfl, rfl, by decide, by omega, by omega, by omega, by omega⟩
theorem sum_loop (hs : side = 1 ∨ side = -1) (hc : c.length ≤ 4000) : ∀ m, SumIH c side s n w sg v K l m := by
  intro m
  induction m using Nat.strongRecOn with
  | ind m ih =>
    intro i b0 b1 b2 t0 t1 t2 re plus B i0 i1 p0 p1 hB0 hB hb hm
    rw [sums_reader_sum_L1_eq, r22_Reader_sum_L1_eq]
    unfold sums_reader_sum_L1_B r22_Reader_sum_L1_B
    rw [p_now i0, r_ok, r_now i0]
    simp only [Option.bind_some, decide_true, Bool.not_true, Bool.false_eq_true, if_false]
    by_cases hd : 48 ≤ nowT c i ∧ nowT c i ≤ 57
    · have hlt : i < c.length := now_lt (by omega)
      have fi : fits (i + 1) := fits_of (by omega) (by omega)
      simp only [hd.1, hd.2, decide_true, if_true]
      unfold sums_reader_sum_J1 r22_Reader_sum_J6
      simp only [if_true]
      have e1 : IntKind.wrap .i64 (IntKind.wrap .u8 (nowT c i - 48)) = nowT c i - 48 := by rw [wr8 (by omega) (by omega), wr64 (by omega) (by omega)]
      have e2 : IntKind.wrap .i64 (nowT c i) = nowT c i := wr64 (by omega) (by omega)
      rw [e1, e2, G_pos fi, G_pos (fits_of (by omega) (by omega)), G_pos fi, r_now (by omega)]
      simp only [Option.bind_some]
      exact sum_item ih hs i0 (by omega) (by omega) (fun _ => by omega) hc p0 p1 hB0 hB (by omega) (by omega) hb hm
    · have hp : (if (decide ((48 : Int) ≤ nowT c i)) = true then
          sums_reader_sum_J1 side (sums_reader_sum_L1 side) (nowT c i) (decide (nowT c i ≤ 57)) c i s n w sg v b0 b1 b2 t0 t1 t2 re plus K else
          sums_reader_sum_J1 side (sums_reader_sum_L1 side) (nowT c i) false c i s n w sg v b0 b1 b2 t0 t1 t2 re plus K) = sums_reader_sum_J1 side (sums_reader_sum_L1 side) (nowT c i) false c i s n w sg v b0 b1 b2 t0 t1 t2 re plus K := by
        by_cases h : 48 ≤ nowT c i
        · have h' : ¬ nowT c i ≤ 57 := fun h2 => hd ⟨h, h2⟩
          simp [h, h']
        · simp [h]
      have hr : (if (decide ((48 : Int) ≤ nowT c i)) = true then
          r22_Reader_sum_J6 side plus c i s n w 0 0 sg v b0 b1 b2 t0 t1 t2 re 0 0 l (r22_Reader_sum_L1 side) (nowT c i) (decide (nowT c i ≤ 57)) else
          r22_Reader_sum_J6 side plus c i s n w 0 0 sg v b0 b1 b2 t0 t1 t2 re 0 0 l (r22_Reader_sum_L1 side) (nowT c i) false) = r22_Reader_sum_J6 side plus c i s n w 0 0 sg v b0 b1 b2 t0 t1 t2 re 0 0 l (r22_Reader_sum_L1 side) (nowT c i) false := by
        by_cases h : 48 ≤ nowT c i
        · have h' : ¬ nowT c i ≤ 57 := fun h2 => hd ⟨h, h2⟩
          simp [h, h']
        · simp [h]
      rw [hp, hr]
      unfold sums_reader_sum_J1 r22_Reader_sum_J6
      simp only [Bool.false_eq_true, if_false]
      exact sum_item ih hs i0 (by omega) (by omega) (fun h => by cases h) hc p0 p1 hB0 hB (by omega) (by omega) hb hm
end

/-! ### the tree stands in the list -/
def vT (x : NR) : ND := (x.1, x.2.1, x.2.2.1, x.2.2.2.1, x.2.2.2.2.1, ())
def xA (x : NR) : Int := x.2.2.2.2.2.1
def xB (x : NR) : Int := x.2.2.2.2.2.2.1
inductive Stn (l : L5) : Tr ND → Int → Prop
  | leaf (k : Int) (h0 : 0 ≤ k) (h1 : k < l.length) (hs : (ix l k).1 = 61 ∨ (ix l k).1 = 60) (hb : Bds 45 (ix l k).2.2.2.1.1 (ix l k).2.2.2.1.2.1 (ix l k).2.2.2.1.2.2.1 (ix l k).2.2.2.2.1) : Stn l (Tr.mk (vT (ix l k)) []) k
  | one (k : Int) (a : Tr ND) (h0 : 0 ≤ k) (h1 : k < l.length) (hs : (ix l k).1 = 33 ∨ (ix l k).1 = 69 ∨ (ix l k).1 = 65) (hv : 0 ≤ (ix l k).2.1 ∧ (ix l k).2.1 < 3) (hn : (ix l k).2.2.1 = (false, false, false, ())) (ha : Stn l a (xA (ix l k))) : Stn l (Tr.mk (vT (ix l k)) [a]) k
  | two (k : Int) (a b : Tr ND) (h0 : 0 ≤ k) (h1 : k < l.length) (hs : (ix l k).1 = 38 ∨ (ix l k).1 = 124) (hn : (ix l k).2.2.1 = (false, false, false, ())) (ha : Stn l a (xA (ix l k))) (hb : Stn l b (xB (ix l k))) : Stn l (Tr.mk (vT (ix l k)) [a, b]) k
theorem Stn.mono {l m : L5} {t : Tr ND} {k : Int} (h : Stn l t k) : Stn (l ++ m) t k := by
  induction h with
  | leaf k h0 h1 hs hb =>
    have e : ix (l ++ m) k = ix l k := ix_append_left h0 h1
    rw [← e] at hs hb ⊢
    exact .leaf k h0 (by simp; omega) hs hb
  | one k a h0 h1 hs hv hn ha iha =>
    have e : ix (l ++ m) k = ix l k := ix_append_left h0 h1
    rw [← e] at hs hv hn iha ⊢
    exact .one k a h0 (by simp; omega) hs hv hn iha
  | two k a b h0 h1 hs hn ha hb iha ihb =>
    have e : ix (l ++ m) k = ix l k := ix_append_left h0 h1
    rw [← e] at hs hn iha ihb ⊢
    exact .two k a b h0 (by simp; omega) hs hn iha ihb
theorem Stn.put_leaf {l : L5} {x : NR} (hs : x.1 = 61 ∨ x.1 = 60) (hb : Bds 45 x.2.2.2.1.1 x.2.2.2.1.2.1 x.2.2.2.1.2.2.1 x.2.2.2.2.1) : Stn (l ++ [x]) (Tr.mk (vT x) []) l.length := by
  have e : ix (l ++ [x]) (l.length : Int) = x := ix_append_last
  have := Stn.leaf (l := l ++ [x]) l.length (by omega) (by simp; omega) (by rw [e]; exact hs) (by rw [e]; exact hb)
  rw [e] at this; exact this
theorem Stn.put_one {l : L5} {x : NR} {a : Tr ND} (hs : x.1 = 33 ∨ x.1 = 69 ∨ x.1 = 65) (hv : 0 ≤ x.2.1 ∧ x.2.1 < 3) (hn : x.2.2.1 = (false, false, false, ())) (ha : Stn l a (xA x)) : Stn (l ++ [x]) (Tr.mk (vT x) [a]) l.length := by
  have e : ix (l ++ [x]) (l.length : Int) = x := ix_append_last
  have := Stn.one (l := l ++ [x]) l.length a (by omega) (by simp; omega) (by rw [e]; exact hs) (by rw [e]; exact hv) (by rw [e]; exact hn) (by rw [e]; exact ha.mono)
  rw [e] at this; exact this
theorem Stn.put_two {l : L5} {x : NR} {a b : Tr ND} (hs : x.1 = 38 ∨ x.1 = 124) (hn : x.2.2.1 = (false, false, false, ())) (ha : Stn l a (xA x)) (hb : Stn l b (xB x)) : Stn (l ++ [x]) (Tr.mk (vT x) [a, b]) l.length := by
  have e : ix (l ++ [x]) (l.length : Int) = x := ix_append_last
  have := Stn.two (l := l ++ [x]) l.length a b (by omega) (by simp; omega) (by rw [e]; exact hs) (by rw [e]; exact hn) (by rw [e]; exact ha.mono) (by rw [e]; exact hb.mono)
  rw [e] at this; exact this
def Ext (l l' : L5) : Prop := ∃ m, l' = l ++ m
theorem Ext.refl (l : L5) : Ext l l := ⟨[], by simp⟩
theorem Ext.trans {l l' l2 : L5} (h : Ext l l') (h2 : Ext l' l2) : Ext l l2 := by
  obtain ⟨m, rfl⟩ := h; obtain ⟨m', rfl⟩ := h2; exact ⟨m ++ m', by simp⟩
theorem Ext.snoc (l : L5) (x : NR) : Ext l (l ++ [x]) := ⟨[x], rfl⟩
theorem Ext.put {l l' : L5} (h : Ext l l') (x : NR) : Ext l (l' ++ [x]) := h.trans (Ext.snoc l' x)
theorem Ext.stn {l l' : L5} (h : Ext l l') {t : Tr ND} {k : Int} (h2 : Stn l t k) : Stn l' t k := by
  obtain ⟨m, rfl⟩ := h; exact h2.mono
/-! ### both alike -/
structure Pre (c : List UInt8) (i n s w : Int) (l : L5) : Prop where
  i0 : 0 ≤ i
  i1 : i ≤ c.length
  c1 : c.length ≤ 4000
  n0 : 0 ≤ n
  n1 : n ≤ 12
  s0 : 0 ≤ s
  s1 : s ≤ 40
  w0 : 0 ≤ w
  w1 : w ≤ 2
  l1 : (l.length : Int) ≤ n
def Sm (c : List UInt8) (i n s w : Int) (l : L5) (o : Option ((Tr ND × List UInt8 × Int × Int × Int × Int) ⊕ (Int × Int))) (r : Option (Int × List UInt8 × Int × Int × Int × Int × L5 × Int × Int)) : Prop :=
  (∃ a b i' n' l', o = some (.inl (a, c, i', s, n', w)) ∧ r = some (b, c, i', s, n', w, l', 0, 0) ∧ i ≤ i' ∧ i' ≤ c.length ∧ n ≤ n' ∧ n' ≤ 12 ∧ (l'.length : Int) + n ≤ l.length + n' ∧ Ext l l' ∧ Stn l' a b)
  ∨ (∃ cd pl b i' n' l', o = some (.inr (cd, pl)) ∧ r = some (b, c, i', s, n', w, l', cd, pl) ∧ cd ≠ 0 ∧ 0 ≤ i' ∧ i' ≤ c.length + 4 * (41 - s) ∧ n ≤ n' ∧ n' ≤ 13 ∧ (l'.length : Int) + n ≤ l.length + n')
def Part (c : List UInt8) (m : Nat) : Prop := ∀ i n s w l, Pre c i n s w l → ((c.length : Int) - i).toNat ≤ m → Sm c i n s w l (sums_reader_part sums_reader_whole c i s n w) (r22_Reader_part r22_Reader_whole c i s n w 0 0 l)
def Term (c : List UInt8) (m : Nat) : Prop := ∀ i n s w l, Pre c i n s w l → ((c.length : Int) - i).toNat ≤ m → Sm c i n s w l (sums_reader_term sums_reader_whole c i s n w) (r22_Reader_term r22_Reader_whole c i s n w 0 0 l)
def Whole (c : List UInt8) (m : Nat) : Prop := ∀ i n s w l, Pre c i n s w l → ((c.length : Int) - i).toNat ≤ m → Sm c i n s w l (sums_reader_whole c i s n w) (r22_Reader_whole c i s n w 0 0 l)
theorem term_loop {c : List UInt8} : ∀ m : Nat, (∀ m' < m, Part c m') → ∀ a b i n s w l, Pre c i n s w l → Stn l a b → ((c.length : Int) - i).toNat ≤ m →
    Sm c i n s w l (sums_reader_term_L2 sums_reader_whole a c i s n w) (r22_Reader_term_L2 r22_Reader_whole b c i s n w 0 0 l) := by
  intro m
  induction m using Nat.strongRecOn with
  | ind m ih =>
    intro hP a b i n s w l hp hab hm
    obtain ⟨i0, i1, c1, n0, n1, s0, s1, w0, w1, q1⟩ := hp
    rw [sums_reader_term_L2_eq, r22_Reader_term_L2_eq]
    unfold sums_reader_term_L2_B r22_Reader_term_L2_B
    rw [p_now i0, r_now i0]
    simp only [Option.bind_some]
    rw [r_ok]
    by_cases hb : nowT c i = 38
    · have hlt : i < c.length := now_lt (by rw [hb]; decide)
      simp only [hb, Option.bind_some, decide_true, not_true_eq_false, decide_false, Bool.not_true, Bool.false_eq_true, if_true, if_false]
      rw [p_counted i0 (by omega) c1 ⟨n0, n1⟩, r_counted i0 (by omega) c1 ⟨n0, n1⟩]
      by_cases hbad : 12 < n + 1
      · simp only [hbad, if_true, pbind_inr, Option.bind_some]
        rw [f_part (by decide)]
        simp only [Option.bind_some]
        rw [r_put (by omega)]
        simp only [Option.bind_some]
        rw [f_termL (by decide) (by omega)]
        exact .inr ⟨7, i, _, _, _, _, rfl, rfl, by decide, by omega, by omega, by omega, by omega, by simp; omega⟩
      · simp only [hbad, if_false, pbind_inl, Option.bind_some]
        rcases hP (((c.length : Int) - (i + 1)).toNat) (by omega) (i + 1) (n + 1) s w l ⟨by omega, by omega, c1, by omega, by omega, s0, s1, w0, w1, by omega⟩ (Nat.le_refl _) with
          ⟨a1, b1, i', n', l', e1, e2, g1, g2, g3, g4, g5, g6, g7⟩ | ⟨cd, pl, b1, i', n', l', e1, e2, g1, g2, g3, g3', g4, g5⟩
        · simp only [e1, e2, pbind_inl, Option.bind_some]
          rw [r_put (by omega)]
          simp only [Option.bind_some]
          have hst := Stn.put_two (l := l') (x := (38, 0, (false, false, false, ()), (0, 0, 0, ()), 0, b, b1, ())) (a := a) (b := a1) (.inl rfl) rfl (g6.stn hab) g7
          rcases ih (((c.length : Int) - i').toNat) (by omega) (fun m' hm' => hP m' (by omega)) _ (l'.length : Int) i' n' s w (l' ++ [(38, 0, (false, false, false, ()), (0, 0, 0, ()), 0, b, b1, ())])
            ⟨by omega, g2, c1, by omega, g4, s0, s1, w0, w1, by simp; omega⟩ hst (Nat.le_refl _) with
            ⟨a2, b2, i2, n2, l3, z1, z2, z3, z4, z5, z6, z7, z8, z9⟩ | ⟨cd, pl, b2, i2, n2, l3, z1, z2, z3, z4, z5, z5', z6, z7⟩
          · exact .inl ⟨a2, b2, i2, n2, l3, z1, z2, by omega, z4, by omega, z6, by simp at z7; omega, (g6.put _).trans z8, z9⟩
          · exact .inr ⟨cd, pl, b2, i2, n2, l3, z1, z2, z3, z4, z5, by omega, z6, by simp at z7; omega⟩
        · simp only [e1, e2, pbind_inr, Option.bind_some]
          rw [r_put (by omega)]
          simp only [Option.bind_some]
          rw [f_termL g1 g2]
          exact .inr ⟨cd, pl, _, _, _, _, rfl, rfl, g1, g2, g3, by omega, g4, by simp; omega⟩
    · simp only [hb, Option.bind_some, decide_true, not_false_eq_true, decide_false, Bool.not_true, Bool.false_eq_true, if_true, if_false]
      exact .inl ⟨a, b, i, n, l, rfl, rfl, by omega, i1, by omega, n1, by omega, .refl l, hab⟩
theorem term_of {c : List UInt8} {m : Nat} (hP : ∀ m' ≤ m, Part c m') : Term c m := by
  intro i n s w l hp hm
  have hp' := hp
  obtain ⟨i0, i1, c1, n0, n1, s0, s1, w0, w1, q1⟩ := hp
  unfold sums_reader_term r22_Reader_term
  rcases hP m (Nat.le_refl _) i n s w l hp' hm with
    ⟨a1, b1, i', n', l', e1, e2, g1, g2, g3, g4, g5, g6, g7⟩ | ⟨cd, pl, b1, i', n', l', e1, e2, g1, g2, g3, g3', g4, g5⟩
  · simp only [e1, e2, pbind_inl, Option.bind_some]
    rcases term_loop m (fun m' hm' => hP m' (by omega)) a1 b1 i' n' s w l' ⟨by omega, g2, c1, by omega, g4, s0, s1, w0, w1, by omega⟩ g7 (by omega) with
      ⟨a2, b2, i2, n2, l3, z1, z2, z3, z4, z5, z6, z7, z8, z9⟩ | ⟨cd, pl, b2, i2, n2, l3, z1, z2, z3, z4, z5, z5', z6, z7⟩
    · exact .inl ⟨a2, b2, i2, n2, l3, z1, z2, by omega, z4, by omega, z6, by omega, g6.trans z8, z9⟩
    · exact .inr ⟨cd, pl, b2, i2, n2, l3, z1, z2, z3, z4, z5, by omega, z6, by omega⟩
  · simp only [e1, e2, pbind_inr, Option.bind_some]
    rw [f_termL g1 g2]
    exact .inr ⟨cd, pl, _, _, _, _, rfl, rfl, g1, g2, g3, g3', g4, g5⟩
theorem whole_loop {c : List UInt8} : ∀ m : Nat, (∀ m' < m, Term c m') → ∀ a b i n s w l, Pre c i n s w l → Stn l a b → ((c.length : Int) - i).toNat ≤ m →
    Sm c i n s w l (sums_reader_whole_L2 sums_reader_whole a c i s n w) (r22_Reader_whole_L2 r22_Reader_whole b c i s n w 0 0 l) := by
  intro m
  induction m using Nat.strongRecOn with
  | ind m ih =>
    intro hP a b i n s w l hp hab hm
    obtain ⟨i0, i1, c1, n0, n1, s0, s1, w0, w1, q1⟩ := hp
    rw [sums_reader_whole_L2_eq, r22_Reader_whole_L2_eq]
    unfold sums_reader_whole_L2_B r22_Reader_whole_L2_B
    rw [p_now i0, r_now i0]
    simp only [Option.bind_some]
    rw [r_ok]
    by_cases hb : nowT c i = 124
    · have hlt : i < c.length := now_lt (by rw [hb]; decide)
      simp only [hb, Option.bind_some, decide_true, not_true_eq_false, decide_false, Bool.not_true, Bool.false_eq_true, if_true, if_false]
      rw [p_counted i0 (by omega) c1 ⟨n0, n1⟩, r_counted i0 (by omega) c1 ⟨n0, n1⟩]
      by_cases hbad : 12 < n + 1
      · simp only [hbad, if_true, pbind_inr, Option.bind_some]
        rw [f_term (by decide) (by omega)]
        simp only [Option.bind_some]
        rw [r_put (by omega)]
        simp only [Option.bind_some]
        rw [f_wholeL (by decide) (by omega)]
        exact .inr ⟨7, i, _, _, _, _, rfl, rfl, by decide, by omega, by omega, by omega, by omega, by simp; omega⟩
      · simp only [hbad, if_false, pbind_inl, Option.bind_some]
        rcases hP (((c.length : Int) - (i + 1)).toNat) (by omega) (i + 1) (n + 1) s w l ⟨by omega, by omega, c1, by omega, by omega, s0, s1, w0, w1, by omega⟩ (Nat.le_refl _) with
          ⟨a1, b1, i', n', l', e1, e2, g1, g2, g3, g4, g5, g6, g7⟩ | ⟨cd, pl, b1, i', n', l', e1, e2, g1, g2, g3, g3', g4, g5⟩
        · simp only [e1, e2, pbind_inl, Option.bind_some]
          rw [r_put (by omega)]
          simp only [Option.bind_some]
          have hst := Stn.put_two (l := l') (x := (124, 0, (false, false, false, ()), (0, 0, 0, ()), 0, b, b1, ())) (a := a) (b := a1) (.inr rfl) rfl (g6.stn hab) g7
          rcases ih (((c.length : Int) - i').toNat) (by omega) (fun m' hm' => hP m' (by omega)) _ (l'.length : Int) i' n' s w (l' ++ [(124, 0, (false, false, false, ()), (0, 0, 0, ()), 0, b, b1, ())])
            ⟨by omega, g2, c1, by omega, g4, s0, s1, w0, w1, by simp; omega⟩ hst (Nat.le_refl _) with
            ⟨a2, b2, i2, n2, l3, z1, z2, z3, z4, z5, z6, z7, z8, z9⟩ | ⟨cd, pl, b2, i2, n2, l3, z1, z2, z3, z4, z5, z5', z6, z7⟩
          · exact .inl ⟨a2, b2, i2, n2, l3, z1, z2, by omega, z4, by omega, z6, by simp at z7; omega, (g6.put _).trans z8, z9⟩
          · exact .inr ⟨cd, pl, b2, i2, n2, l3, z1, z2, z3, z4, z5, by omega, z6, by simp at z7; omega⟩
        · simp only [e1, e2, pbind_inr, Option.bind_some]
          rw [r_put (by omega)]
          simp only [Option.bind_some]
          rw [f_wholeL g1 g2]
          exact .inr ⟨cd, pl, _, _, _, _, rfl, rfl, g1, g2, g3, by omega, g4, by simp; omega⟩
    · simp only [hb, Option.bind_some, decide_true, not_false_eq_true, decide_false, Bool.not_true, Bool.false_eq_true, if_true, if_false]
      exact .inl ⟨a, b, i, n, l, rfl, rfl, by omega, i1, by omega, n1, by omega, .refl l, hab⟩
theorem whole_of {c : List UInt8} {m : Nat} (hP : ∀ m' ≤ m, Term c m') : Whole c m := by
  intro i n s w l hp hm
  have hp' := hp
  obtain ⟨i0, i1, c1, n0, n1, s0, s1, w0, w1, q1⟩ := hp
  rw [sums_reader_whole_eq, r22_Reader_whole_eq]
  unfold sums_reader_whole_B r22_Reader_whole_B
  rcases hP m (Nat.le_refl _) i n s w l hp' hm with
    ⟨a1, b1, i', n', l', e1, e2, g1, g2, g3, g4, g5, g6, g7⟩ | ⟨cd, pl, b1, i', n', l', e1, e2, g1, g2, g3, g3', g4, g5⟩
  · simp only [e1, e2, pbind_inl, Option.bind_some]
    rcases whole_loop m (fun m' hm' => hP m' (by omega)) a1 b1 i' n' s w l' ⟨by omega, g2, c1, by omega, g4, s0, s1, w0, w1, by omega⟩ g7 (by omega) with
      ⟨a2, b2, i2, n2, l3, z1, z2, z3, z4, z5, z6, z7, z8, z9⟩ | ⟨cd, pl, b2, i2, n2, l3, z1, z2, z3, z4, z5, z5', z6, z7⟩
    · exact .inl ⟨a2, b2, i2, n2, l3, z1, z2, by omega, z4, by omega, z6, by omega, g6.trans z8, z9⟩
    · exact .inr ⟨cd, pl, b2, i2, n2, l3, z1, z2, z3, z4, z5, by omega, z6, by omega⟩
  · simp only [e1, e2, pbind_inr, Option.bind_some]
    rw [f_wholeL g1 g2]
    exact .inr ⟨cd, pl, _, _, _, _, rfl, rfl, g1, g2, g3, g3', g4, g5⟩
theorem sums_of {c : List UInt8} {i n s w : Int} {l : L5} (hp : Pre c i n s w l) : Sm c i n s w l (sums_reader_sums c i s n w) (r22_Reader_sums c i s n w 0 0 l) := by
  obtain ⟨i0, i1, c1, n0, n1, s0, s1, w0, w1, q1⟩ := hp
  unfold sums_reader_sums r22_Reader_sums sums_reader_sum r22_Reader_sum
  rcases sum_loop (side := 1) (s := s) (n := n) (w := w) (sg := 0) (v := 0) (K := []) (l := l) (.inl rfl) c1 _ i false false false 0 0 0 0 0 0 i0 i1 (by omega) (by omega) (by omega) (by omega) ⟨by omega, by omega, by omega, by omega, by omega, by omega, by omega, by omega⟩ (Nat.le_refl _) with
    ⟨i1', b0, b1, b2, t0, t1, t2, re, p, e1, e2, g1, g2, g3, g4, g5⟩ | ⟨cd, pl, i1', b0, b1, b2, t0, t1, t2, re, p, e1, e2, g1, g2, g3, g4, g5⟩
  · simp only [e1, e2, pbind_inl, Option.bind_some]
    rw [p_now (by omega), r_now (by omega)]
    simp only [Option.bind_some]
    by_cases hsg : nowT c i1' = 61 ∨ nowT c i1' = 60
    · have hlt : i1' < c.length := now_lt (by omega)
      have key : Sm c i n s w l (sums_reader_sums_J6 c i1' s n w 0 b0 b1 b2 t0 t1 t2 re [] p (nowT c i1')) (r22_Reader_sums_J5 p 0 b0 b1 b2 t0 t1 t2 re 0 0 (nowT c i1') c i1' s n w 0 0 l) := by
        unfold sums_reader_sums_J6 r22_Reader_sums_J5 sums_reader_sum
        rw [p_counted (by omega) (by omega) c1 ⟨n0, n1⟩, r_counted (by omega) (by omega) c1 ⟨n0, n1⟩]
        by_cases hbad : 12 < n + 1
        · simp only [hbad, if_true, pbind_inr, Option.bind_some]
          rw [f_sum (by decide)]
          simp only [Option.bind_some]
          rw [r_put (by omega)]
          simp only [Option.bind_some]
          exact .inr ⟨7, i1', _, _, _, _, rfl, rfl, by decide, by omega, by omega, by omega, by omega, by simp; omega⟩
        · simp only [hbad, if_false, pbind_inl, Option.bind_some]
          unfold r22_Reader_sum
          rcases sum_loop (side := -1) (s := s) (n := n + 1) (w := w) (sg := nowT c i1') (v := 0) (K := []) (l := l) (.inr rfl) c1 _ (i1' + 1) b0 b1 b2 t0 t1 t2 re p (0 + 9 * (p - 0 + 1)) (by omega) (by omega) (by omega) (by omega) (by omega) (by omega) g5 (Nat.le_refl _) with
            ⟨i2, b0', b1', b2', t0', t1', t2', re', p', z1, z2, y1, y2, y3, y4, y5⟩ | ⟨cd, pl, i2, b0', b1', b2', t0', t1', t2', re', p', z1, z2, y1, y2, y3, y4, y5⟩
          · simp only [z1, z2, pbind_inl, Option.bind_some]
            rw [r_put (by omega)]
            simp only [Option.bind_some]
            refine .inl ⟨_, _, _, _, _, rfl, rfl, by omega, by omega, by omega, by omega, by simp; omega, Ext.snoc l _, ?_⟩
            refine Stn.put_leaf (x := (nowT c i1', 0, (b0', b1', b2', ()), (t0', t1', t2', ()), re', 0, 0, ())) hsg ?_
            obtain ⟨u1, u2, u3, u4, u5, u6, u7, u8⟩ := y5
            exact ⟨by show -45 ≤ t0'; omega, by show t0' ≤ 45; omega, by show -45 ≤ t1'; omega, by show t1' ≤ 45; omega, by show -45 ≤ t2'; omega, by show t2' ≤ 45; omega, by show -45 ≤ re'; omega, by show re' ≤ 45; omega⟩
          · simp only [z1, z2, pbind_inr, Option.bind_some]
            rw [r_put (by omega)]
            simp only [Option.bind_some]
            exact .inr ⟨cd, pl, _, _, _, _, rfl, rfl, y1, by omega, by omega, by omega, by omega, by simp; omega⟩
      rcases hsg with h | h
      · have := key
        simpa [h, sums_reader_sums_J5, r22_Reader_sums_J4] using this
      · have := key
        simpa [h, sums_reader_sums_J5, r22_Reader_sums_J4] using this
    · have h1 : ¬ nowT c i1' = 61 := fun h => hsg (.inl h)
      have h2 : ¬ nowT c i1' = 60 := fun h => hsg (.inr h)
      simp only [h1, h2, not_false_eq_true, decide_true, if_true]
      unfold sums_reader_sums_J5 r22_Reader_sums_J4
      simp only [if_true, p_fail, pbind_inr, r_fail, Option.bind_some]
      unfold r22_Reader_sums_J5
      rw [f_counted (by decide) (by omega) (by omega) c1 ⟨n0, by omega⟩]
      simp only [Option.bind_some]
      rw [f_sum (by decide)]
      simp only [Option.bind_some]
      rw [r_put (by omega)]
      simp only [Option.bind_some]
      exact .inr ⟨4, i1', _, _, _, _, rfl, rfl, by decide, by omega, by omega, by omega, by omega, by simp; omega⟩
  · simp only [e1, e2, pbind_inr, Option.bind_some]
    rw [r_now (by omega)]
    simp only [Option.bind_some]
    have key : ∀ f4 : Int, f4 = cd → Sm c i n s w l (some (.inr (cd, pl))) (r22_Reader_sums_J5 p 0 b0 b1 b2 t0 t1 t2 re 0 0 (nowT c i1') c i1' s n w f4 pl l) := by
      rintro _ rfl
      unfold r22_Reader_sums_J5
      rw [f_counted g1 (by omega) (by omega) c1 ⟨n0, by omega⟩]
      simp only [Option.bind_some]
      rw [f_sum g1]
      simp only [Option.bind_some]
      rw [r_put (by omega)]
      simp only [Option.bind_some]
      exact .inr ⟨_, pl, _, _, _, _, rfl, rfl, g1, by omega, by omega, by omega, by omega, by simp; omega⟩
    have := key cd rfl
    by_cases h1 : nowT c i1' = 61
    · simpa [h1, r22_Reader_sums_J4] using this
    · by_cases h2 : nowT c i1' = 60
      · simpa [h1, h2, r22_Reader_sums_J4] using this
      · simpa [h1, h2, r22_Reader_sums_J4, r_fail, g1] using this
theorem part_of {c : List UInt8} {m : Nat} (hP : ∀ m' < m, Part c m') (hW : ∀ m' < m, Whole c m') : Part c m := by
  intro i n s w l hp hm
  have hp' := hp
  obtain ⟨i0, i1, c1, n0, n1, s0, s1, w0, w1, q1⟩ := hp
  rw [sums_reader_part_eq, r22_Reader_part_eq]
  unfold sums_reader_part_B r22_Reader_part_B
  rw [p_now i0, r_ok, r_now i0]
  simp only [Option.bind_some, decide_true, Bool.not_true, Bool.false_eq_true, if_false]
  have es : s + 1 - 1 = s := by omega
  have ew : w + 1 - 1 = w := by omega
  have fs : fits s := fits_of (by omega) (by omega)
  have fw : fits w := fits_of (by omega) (by omega)
  by_cases h33 : nowT c i = 33
  · have hlt : i < c.length := now_lt (by rw [h33]; decide)
    simp only [h33, decide_true, if_true]
    rw [p_counted i0 (by omega) c1 ⟨n0, n1⟩, r_counted i0 (by omega) c1 ⟨n0, n1⟩]
    by_cases hbad : 12 < n + 1
    · simp only [hbad, if_true, pbind_inr, Option.bind_some]
      rw [f_part (by decide)]
      simp only [Option.bind_some]
      rw [r_put (by omega)]
      simp only [Option.bind_some]
      exact .inr ⟨7, i, _, _, _, _, rfl, rfl, by decide, by omega, by omega, by omega, by omega, by simp; omega⟩
    · simp only [hbad, if_false, pbind_inl, Option.bind_some]
      rcases hP (((c.length : Int) - (i + 1)).toNat) (by omega) (i + 1) (n + 1) s w l ⟨by omega, by omega, c1, by omega, by omega, s0, s1, w0, w1, by omega⟩ (Nat.le_refl _) with
        ⟨a1, b1, i', n', l', e1, e2, g1, g2, g3, g4, g5, g6, g7⟩ | ⟨cd, pl, b1, i', n', l', e1, e2, g1, g2, g3, g3', g4, g5⟩
      · simp only [e1, e2, pbind_inl, Option.bind_some]
        rw [r_put (by omega)]
        simp only [Option.bind_some]
        exact .inl ⟨_, _, _, _, _, rfl, rfl, by omega, g2, by omega, g4, by simp; omega, g6.put _, Stn.put_one (x := (33, 0, (false, false, false, ()), (0, 0, 0, ()), 0, b1, 0, ())) (.inl rfl) ⟨by show (0 : Int) ≤ 0; omega, by show (0 : Int) < 3; omega⟩ rfl g7⟩
      · simp only [e1, e2, pbind_inr, Option.bind_some]
        rw [r_put (by omega)]
        simp only [Option.bind_some]
        exact .inr ⟨cd, pl, _, _, _, _, rfl, rfl, g1, g2, g3, by omega, g4, by simp; omega⟩
  · simp only [h33, decide_false, Bool.false_eq_true, if_false]
    have j5 : ∀ t, (t = true → nowT c i = 69 ∨ nowT c i = 65) → Sm c i n s w l (sums_reader_part_J5 sums_reader_whole c i s n w (sums_reader_part sums_reader_whole) (nowT c i) t) (r22_Reader_part_J9 r22_Reader_whole c i s n w 0 0 l (r22_Reader_part r22_Reader_whole) (nowT c i) t) := by
      intro t ht
      unfold sums_reader_part_J5 r22_Reader_part_J9
      cases t with
      | true =>
        have hlt : i < c.length := now_lt (by have := ht rfl; omega)
        simp only [if_true]
        by_cases hw : w = 2
        · simp only [hw, decide_true, if_true, p_fail, pbind_inr, r_fail, Option.bind_some]
          exact .inr ⟨7, i, _, _, _, _, rfl, rfl, by decide, by omega, by omega, by omega, by omega, by omega⟩
        · simp only [hw, decide_false, Bool.false_eq_true, if_false]
          unfold sums_reader_part_J7
          rw [p_counted i0 (by omega) c1 ⟨n0, n1⟩, r_counted i0 (by omega) c1 ⟨n0, n1⟩]
          have fi2 : fits (i + 1 + 1) := fits_of (by omega) (by omega)
          have fw2 : fits (w + 1) := fits_of (by omega) (by omega)
          have fv : fits (IntKind.wrap .i64 (nowT c (i + 1)) - 120) := by have := now_byte (c := c) (i := i + 1); rw [wr64 (by omega) (by omega)]; exact fits_of (by omega) (by omega)
          by_cases hbad : 12 < n + 1
          · simp only [hbad, if_true, pbind_inr, Option.bind_some]
            rw [r_now (by omega)]
            simp only [Option.bind_some]
            have key : ∀ t, Sm c i n s w l (some (.inr (7, i))) (r22_Reader_part_J15 (r22_Reader_part r22_Reader_whole) (nowT c i) c (i + 1) s (n + 1) w l 7 i (nowT c (i + 1)) t) := by
              intro t
              have k2 : Sm c i n s w l (some (.inr (7, i))) (r22_Reader_part_J16 (r22_Reader_part r22_Reader_whole) (nowT c i) (nowT c (i + 1)) c (i + 1) s (n + 1) w 7 i l) := by
                unfold r22_Reader_part_J16
                rw [G_pos fi2, G_pos fw2, f_part (by decide)]
                simp only [Option.bind_some, ew, G_pos fw, G_pos fv]
                rw [r_put (by omega)]
                simp only [Option.bind_some]
                exact .inr ⟨7, i, _, _, _, _, rfl, rfl, by decide, by omega, by omega, by omega, by omega, by simp; omega⟩
              unfold r22_Reader_part_J15
              cases t with
              | true => simp only [if_true, r_fail]; simpa using k2
              | false => simpa using k2
            split
            · exact key _
            · exact key _
          · simp only [hbad, if_false, pbind_inl, Option.bind_some]
            rw [p_now (by omega), r_now (by omega)]
            simp only [Option.bind_some, variable_eq]
            by_cases hv : 120 ≤ nowT c (i + 1) ∧ nowT c (i + 1) ≤ 122
            · have hlt2 : i + 1 < c.length := now_lt (by omega)
              have h1 : ¬ nowT c (i + 1) < 120 := by omega
              have h2 : ¬ 122 < nowT c (i + 1) := by omega
              simp only [hv, and_self, decide_true, Bool.not_true, Bool.false_eq_true, if_false, h1, h2, decide_false]
              unfold r22_Reader_part_J15 sums_reader_part_J11
              simp only [Bool.false_eq_true, if_false]
              unfold r22_Reader_part_J16
              rw [G_pos fi2, G_pos fw2, G_pos fi2, G_pos fw2]
              rcases hP (((c.length : Int) - (i + 1 + 1)).toNat) (by omega) (i + 1 + 1) (n + 1) s (w + 1) l ⟨by omega, by omega, c1, by omega, by omega, s0, s1, by omega, by omega, by omega⟩ (Nat.le_refl _) with
                ⟨a1, b1, i', n', l', e1, e2, g1, g2, g3, g4, g5, g6, g7⟩ | ⟨cd, pl, b1, i', n', l', e1, e2, g1, g2, g3, g3', g4, g5⟩
              · simp only [e1, e2, pbind_inl, Option.bind_some, ew, G_pos fw, G_pos fv]
                rw [r_put (by omega)]
                simp only [Option.bind_some]
                have e8 : IntKind.wrap .i64 (IntKind.wrap .u8 (nowT c (i + 1) - 120)) = nowT c (i + 1) - 120 := by rw [wr8 (by omega) (by omega), wr64 (by omega) (by omega)]
                have e9 : IntKind.wrap .i64 (nowT c (i + 1)) = nowT c (i + 1) := wr64 (by omega) (by omega)
                rw [e8, e9]
                exact .inl ⟨_, _, _, _, _, rfl, rfl, by omega, g2, by omega, g4, by simp; omega, g6.put _, Stn.put_one (x := (nowT c i, nowT c (i + 1) - 120, (false, false, false, ()), (0, 0, 0, ()), 0, b1, 0, ())) (.inr (ht rfl)) ⟨by show 0 ≤ nowT c (i + 1) - 120; omega, by show nowT c (i + 1) - 120 < 3; omega⟩ rfl g7⟩
              · simp only [e1, e2, pbind_inr, Option.bind_some, ew, G_pos fw, G_pos fv]
                rw [r_put (by omega)]
                simp only [Option.bind_some]
                exact .inr ⟨cd, pl, _, _, _, _, rfl, rfl, g1, g2, g3, by omega, g4, by simp; omega⟩
            · simp only [hv, decide_false, Bool.not_false, if_true, p_fail, pbind_inr]
              have key : Sm c i n s w l (some (.inr (4, i + 1))) (r22_Reader_part_J15 (r22_Reader_part r22_Reader_whole) (nowT c i) c (i + 1) s (n + 1) w l 0 0 (nowT c (i + 1)) true) := by
                unfold r22_Reader_part_J15
                simp only [if_true, r_fail, Option.bind_some]
                unfold r22_Reader_part_J16
                rw [G_pos fi2, G_pos fw2, f_part (by decide)]
                simp only [Option.bind_some, ew, G_pos fw, G_pos fv]
                rw [r_put (by omega)]
                simp only [Option.bind_some]
                exact .inr ⟨4, i + 1, _, _, _, _, rfl, rfl, by decide, by omega, by omega, by omega, by omega, by simp; omega⟩
              by_cases h1 : nowT c (i + 1) < 120
              · simpa [h1] using key
              · have h2 : 122 < nowT c (i + 1) := by omega
                simpa [h1, h2] using key
      | false =>
        simp only [Bool.false_eq_true, if_false]
        by_cases h40 : nowT c i = 40
        · have hlt : i < c.length := now_lt (by rw [h40]; decide)
          simp only [h40, not_true_eq_false, decide_false, Bool.false_eq_true, if_false]
          by_cases hs : s = 40
          · simp only [hs, decide_true, if_true, p_fail, pbind_inr, r_fail, Option.bind_some]
            exact .inr ⟨7, i, _, _, _, _, rfl, rfl, by decide, by omega, by omega, by omega, by omega, by omega⟩
          · simp only [hs, decide_false, Bool.false_eq_true, if_false]
            unfold sums_reader_part_J20
            rw [G_pos (fits_of (by omega) (by omega)), G_pos (fits_of (by omega) (by omega)), G_pos (fits_of (by omega) (by omega)), G_pos (fits_of (by omega) (by omega))]
            rcases hW (((c.length : Int) - (i + 1)).toNat) (by omega) (i + 1) n (s + 1) w l ⟨by omega, by omega, c1, by omega, by omega, by omega, by omega, w0, w1, by omega⟩ (Nat.le_refl _) with
              ⟨a1, b1, i', n', l', e1, e2, g1, g2, g3, g4, g5, g6, g7⟩ | ⟨cd, pl, b1, i', n', l', e1, e2, g1, g2, g3, g3', g4, g5⟩
            · simp only [e1, e2, pbind_inl, Option.bind_some]
              rw [p_now (by omega), r_now (by omega)]
              simp only [Option.bind_some]
              have fi : fits (i' + 1) := fits_of (by omega) (by omega)
              by_cases h41 : nowT c i' = 41
              · have hlt3 : i' < c.length := now_lt (by rw [h41]; decide)
                simp only [h41, not_true_eq_false, decide_false, Bool.false_eq_true, if_false]
                unfold r22_Reader_part_J32
                simp only [es, G_pos fs, G_pos fi]
                exact .inl ⟨_, _, _, _, _, rfl, rfl, by omega, by omega, by omega, g4, by omega, g6, g7⟩
              · simp only [h41, not_false_eq_true, decide_true, if_true, p_fail, pbind_inr, r_fail, Option.bind_some]
                unfold r22_Reader_part_J32
                simp only [es, G_pos fs, G_pos fi]
                exact .inr ⟨4, i', _, _, _, _, rfl, rfl, by decide, by omega, by omega, by omega, by omega, by omega⟩
            · simp only [e1, e2, pbind_inr, Option.bind_some]
              rw [r_now (by omega)]
              simp only [Option.bind_some]
              have fi : fits (i' + 1) := fits_of (by omega) (by omega)
              have key : Sm c i n s w l (some (.inr (cd, pl))) (r22_Reader_part_J32 b1 c i' (s + 1) n' w cd pl l') := by
                unfold r22_Reader_part_J32
                simp only [es, G_pos fs, G_pos fi]
                exact .inr ⟨cd, pl, _, _, _, _, rfl, rfl, g1, by omega, by omega, by omega, by omega, by omega⟩
              by_cases h41 : nowT c i' = 41
              · simpa [h41] using key
              · simpa [h41, r_fail, g1] using key
        · simp only [h40, not_false_eq_true, decide_true, if_true]
          rcases sums_of hp' with
            ⟨a1, b1, i', n', l', e1, e2, g1, g2, g3, g4, g5, g6, g7⟩ | ⟨cd, pl, b1, i', n', l', e1, e2, g1, g2, g3, g3', g4, g5⟩
          · simp only [e1, e2, pbind_inl, Option.bind_some]
            exact .inl ⟨_, _, _, _, _, rfl, rfl, g1, g2, g3, g4, g5, g6, g7⟩
          · simp only [e1, e2, pbind_inr, Option.bind_some]
            exact .inr ⟨cd, pl, _, _, _, _, rfl, rfl, g1, g2, g3, g3', g4, g5⟩
    by_cases h69 : nowT c i = 69
    · have := j5 true (fun _ => .inl h69)
      simpa [h69] using this
    · have := j5 (decide (nowT c i = 65)) (fun h => .inr (of_decide_eq_true h))
      simpa [h69] using this
theorem all_of {c : List UInt8} : ∀ m : Nat, Part c m ∧ Whole c m := by
  intro m
  induction m using Nat.strongRecOn with
  | ind m ih =>
    have hP : Part c m := part_of (fun m' h => (ih m' h).1) (fun m' h => (ih m' h).2)
    have hP' : ∀ m' ≤ m, Part c m' := fun m' h => by
      rcases Nat.lt_or_eq_of_le h with h | rfl
      · exact (ih m' h).1
      · exact hP
    have hT : ∀ m' ≤ m, Term c m' := fun m' h => term_of fun m'' h' => hP' m'' (Nat.le_trans h' h)
    exact ⟨hP, whole_of hT⟩
/-- Both read: a tree and a list of nodes in which it stands, or the same fault. -/
theorem parse_both (c : List UInt8) : (∃ a b l, sums_parse c = some (a, (0, (0, ()))) ∧ r22_Parse c = some (b, (0, (0, ())), l) ∧ (l.length : Int) ≤ 12 ∧ Stn l a b)
    ∨ (∃ cd pl, sums_parse c = some (Tr.nil, (cd, (pl, ()))) ∧ r22_Parse c = some (0, (cd, (pl, ())), []) ∧ cd ≠ 0) := by
  unfold sums_parse r22_Parse
  by_cases hc : (4000 : Int) < c.length
  · simp only [hc, decide_true, if_true]
    exact .inr ⟨1, 0, rfl, rfl, by decide⟩
  · simp only [hc, decide_false, Bool.false_eq_true, if_false]
    rcases (all_of (c := c) (((c.length : Int) - 0).toNat)).2 0 0 0 0 [] ⟨by omega, by omega, by omega, by omega, by omega, by omega, by omega, by omega, by omega, by simp⟩ (Nat.le_refl _) with
      ⟨a1, b1, i', n', l', e1, e2, g1, g2, g3, g4, g5, g6, g7⟩ | ⟨cd, pl, b1, i', n', l', e1, e2, g1, g2, g3, g3', g4, g5⟩
    · simp only [e1, e2, pbind_inl, Option.bind_some]
      by_cases hi : i' < (c.length : Int)
      · simp only [hi, decide_true, if_true, p_fail, pbind_inr, r_fail, Option.bind_some, Int.reduceEq, not_false_eq_true]
        exact .inr ⟨4, i', rfl, rfl, by decide⟩
      · simp only [hi, decide_false, Bool.false_eq_true, if_false, not_true_eq_false, Option.bind_some]
        exact .inl ⟨a1, b1, l', rfl, rfl, by simp at g5; omega, g7⟩
    · simp only [e1, e2, pbind_inr, Option.bind_some]
      by_cases hi : i' < (c.length : Int)
      · simp only [hi, decide_true, if_true, r_fail, g1, if_false, not_false_eq_true, Option.bind_some]
        exact .inr ⟨cd, pl, rfl, rfl, g1⟩
      · simp only [hi, decide_false, Bool.false_eq_true, if_false, g1, not_false_eq_true, decide_true, if_true, Option.bind_some]
        exact .inr ⟨cd, pl, rfl, rfl, g1⟩

/-! ### which variables are free -/
def bI (b : Bool) : Int := if b then 1 else 0
theorem isMk_mk {α : Type} {x : α} {K : List (Tr α)} : (Tr.mk x K).isMk = true := rfl
section
variable {sg vv re : Int} {n0 n1 n2 : Bool} {t : II} {K : List (Tr ND)} {b1 b2 b3 i0 i1 i2 : Bool}
theorem mark_L4 : sums_node_mark_L4 sums_node_mark (Tr.mk (sg, vv, (n0, n1, n2, ()), t, re, ()) K) b1 b2 b3 0 i0 i1 i2 =
    sums_node_mark_L10 sums_node_mark (Tr.mk (sg, vv, (n0, n1, n2, ()), t, re, ()) K) b1 b2 b3 0 (i0 || (n0 && !b1)) (i1 || (n1 && !b2)) (i2 || (n2 && !b3)) := by
  have f1 : fits (0 + 1 : Int) := fits_of (by omega) (by omega)
  have f2 : fits (1 + 1 : Int) := fits_of (by omega) (by omega)
  have f3 : fits (2 + 1 : Int) := fits_of (by omega) (by omega)
  have s0 : sums_node_mark_L4 sums_node_mark (Tr.mk (sg, vv, (n0, n1, n2, ()), t, re, ()) K) b1 b2 b3 0 i0 i1 i2 = sums_node_mark_L4 sums_node_mark (Tr.mk (sg, vv, (n0, n1, n2, ()), t, re, ()) K) b1 b2 b3 1 (i0 || (n0 && !b1)) i1 i2 := by
    rw [sums_node_mark_L4_eq]
    unfold sums_node_mark_L4_B
    rw [if_pos (by decide), G_pos isMk_mk, G_pos (by decide)]
    show (if n0 = true then _ else _) = _
    cases n0 with
    | false => unfold sums_node_mark_J6 sums_node_mark_J7; simp only [Bool.false_eq_true, if_false]; rw [G_pos f1]; simp
    | true =>
      simp only [if_true]
      rw [G_pos (by decide), G_pos (by decide)]
      unfold sums_node_mark_J6 sums_node_mark_J7
      cases b1 with
      | false => rw [if_pos (by rfl), G_pos (by decide), G_pos (by decide), G_pos f1]; simp
      | true => rw [if_neg (by simp), G_pos f1]; simp
  have s1 : ∀ i0, sums_node_mark_L4 sums_node_mark (Tr.mk (sg, vv, (n0, n1, n2, ()), t, re, ()) K) b1 b2 b3 1 i0 i1 i2 = sums_node_mark_L4 sums_node_mark (Tr.mk (sg, vv, (n0, n1, n2, ()), t, re, ()) K) b1 b2 b3 2 i0 (i1 || (n1 && !b2)) i2 := by
    intro i0
    rw [sums_node_mark_L4_eq]
    unfold sums_node_mark_L4_B
    rw [if_pos (by decide), G_pos isMk_mk, G_pos (by decide)]
    show (if n1 = true then _ else _) = _
    cases n1 with
    | false => unfold sums_node_mark_J6 sums_node_mark_J7; simp only [Bool.false_eq_true, if_false]; rw [G_pos f2]; simp
    | true =>
      simp only [if_true]
      rw [G_pos (by decide), G_pos (by decide)]
      unfold sums_node_mark_J6 sums_node_mark_J7
      cases b2 with
      | false => rw [if_pos (by rfl), G_pos (by decide), G_pos (by decide), G_pos f2]; simp
      | true => rw [if_neg (by simp), G_pos f2]; simp
  have s2 : ∀ i0 i1, sums_node_mark_L4 sums_node_mark (Tr.mk (sg, vv, (n0, n1, n2, ()), t, re, ()) K) b1 b2 b3 2 i0 i1 i2 = sums_node_mark_L4 sums_node_mark (Tr.mk (sg, vv, (n0, n1, n2, ()), t, re, ()) K) b1 b2 b3 3 i0 i1 (i2 || (n2 && !b3)) := by
    intro i0 i1
    rw [sums_node_mark_L4_eq]
    unfold sums_node_mark_L4_B
    rw [if_pos (by decide), G_pos isMk_mk, G_pos (by decide)]
    show (if n2 = true then _ else _) = _
    cases n2 with
    | false => unfold sums_node_mark_J6 sums_node_mark_J7; simp only [Bool.false_eq_true, if_false]; rw [G_pos f3]; simp
    | true =>
      simp only [if_true]
      rw [G_pos (by decide), G_pos (by decide)]
      unfold sums_node_mark_J6 sums_node_mark_J7
      cases b3 with
      | false => rw [if_pos (by rfl), G_pos (by decide), G_pos (by decide), G_pos f3]; simp
      | true => rw [if_neg (by simp), G_pos f3]; simp
  rw [s0, s1, s2, sums_node_mark_L4_eq]
  unfold sums_node_mark_L4_B
  rw [if_neg (by decide), G_pos isMk_mk]
theorem mark_plain (h : sg ≠ 69 ∧ sg ≠ 65) : sums_node_mark (Tr.mk (sg, vv, (n0, n1, n2, ()), t, re, ()) K) (b1, b2, b3, ()) i0 i1 i2 =
    sums_node_mark_L10 sums_node_mark (Tr.mk (sg, vv, (n0, n1, n2, ()), t, re, ()) K) b1 b2 b3 0 (i0 || (n0 && !b1)) (i1 || (n1 && !b2)) (i2 || (n2 && !b3)) := by
  rw [sums_node_mark_eq]
  unfold sums_node_mark_B
  rw [G_pos isMk_mk]
  have h1 : ¬ (decide (sg = 69)) = true := by simpa using h.1
  have h2 : decide (sg = 65) = false := by simpa using h.2
  show (if (decide (sg = 69)) = true then _ else _) = _
  rw [if_neg h1, G_pos isMk_mk]
  show sums_node_mark_J1 _ _ _ _ _ _ (decide (sg = 65)) = _
  rw [h2]
  unfold sums_node_mark_J1 sums_node_mark_J2
  rw [if_neg (by decide)]
  exact mark_L4
theorem mark_quant (h : sg = 69 ∨ sg = 65) (hv : vv = 0 ∨ vv = 1 ∨ vv = 2) : sums_node_mark (Tr.mk (sg, vv, (false, false, false, ()), t, re, ()) K) (b1, b2, b3, ()) i0 i1 i2 =
    sums_node_mark_L10 sums_node_mark (Tr.mk (sg, vv, (false, false, false, ()), t, re, ()) K) (b1 || decide (vv = 0)) (b2 || decide (vv = 1)) (b3 || decide (vv = 2)) 0 i0 i1 i2 := by
  rw [sums_node_mark_eq]
  unfold sums_node_mark_B
  rw [G_pos isMk_mk]
  have k : sums_node_mark_J1 sums_node_mark (Tr.mk (sg, vv, (false, false, false, ()), t, re, ()) K) (b1, b2, b3, ()) i0 i1 i2 true = sums_node_mark_L10 sums_node_mark (Tr.mk (sg, vv, (false, false, false, ()), t, re, ()) K) (b1 || decide (vv = 0)) (b2 || decide (vv = 1)) (b3 || decide (vv = 2)) 0 i0 i1 i2 := by
    unfold sums_node_mark_J1 sums_node_mark_J2
    rw [if_pos rfl, G_pos isMk_mk]
    rcases hv with rfl | rfl | rfl
    · rw [G_pos (by simp [Tr.val]), G_pos (by simp [Tr.val])]
      refine Eq.trans mark_L4 ?_
      simp [Tr.val]
    · rw [G_pos (by simp [Tr.val]), G_pos (by simp [Tr.val])]
      refine Eq.trans mark_L4 ?_
      simp [Tr.val]
    · rw [G_pos (by simp [Tr.val]), G_pos (by simp [Tr.val])]
      refine Eq.trans mark_L4 ?_
      simp [Tr.val]
  show (if (decide (sg = 69)) = true then _ else _) = _
  rcases h with rfl | rfl
  · rw [if_pos (by decide)]; exact k
  · rw [if_neg (by decide), G_pos isMk_mk]; exact k
theorem kids0 {x : ND} : sums_node_mark_L10 sums_node_mark (Tr.mk x []) b1 b2 b3 0 i0 i1 i2 = some (i0, i1, i2) := by
  rw [sums_node_mark_L10_eq]
  unfold sums_node_mark_L10_B
  rw [if_neg (by simp [Tr.kids])]
theorem kids1 {x : ND} {a : Tr ND} {j0 j1 j2 : Bool} (h : sums_node_mark a (b1, b2, b3, ()) i0 i1 i2 = some (j0, j1, j2)) : sums_node_mark_L10 sums_node_mark (Tr.mk x [a]) b1 b2 b3 0 i0 i1 i2 = some (j0, j1, j2) := by
  rw [sums_node_mark_L10_eq]
  unfold sums_node_mark_L10_B
  rw [if_pos (by simp [Tr.kids]), G_pos (by simp [Tr.kids])]
  show (sums_node_mark a _ _ _ _).bind _ = _
  rw [h]
  simp only [Option.bind_some]
  rw [G_pos (fits_of (by omega) (by omega)), sums_node_mark_L10_eq]
  unfold sums_node_mark_L10_B
  rw [if_neg (by simp [Tr.kids])]
theorem kids2 {x : ND} {a b : Tr ND} {j0 j1 j2 k0 k1 k2 : Bool} (h : sums_node_mark a (b1, b2, b3, ()) i0 i1 i2 = some (j0, j1, j2)) (h2 : sums_node_mark b (b1, b2, b3, ()) j0 j1 j2 = some (k0, k1, k2)) :
    sums_node_mark_L10 sums_node_mark (Tr.mk x [a, b]) b1 b2 b3 0 i0 i1 i2 = some (k0, k1, k2) := by
  rw [sums_node_mark_L10_eq]
  unfold sums_node_mark_L10_B
  rw [if_pos (by simp [Tr.kids]), G_pos (by simp [Tr.kids])]
  show (sums_node_mark a _ _ _ _).bind _ = _
  rw [h]
  simp only [Option.bind_some]
  rw [G_pos (fits_of (by omega) (by omega)), sums_node_mark_L10_eq]
  unfold sums_node_mark_L10_B
  rw [if_pos (by simp [Tr.kids]), G_pos (by simp [Tr.kids])]
  show (sums_node_mark b _ _ _ _).bind _ = _
  rw [h2]
  simp only [Option.bind_some]
  rw [G_pos (fits_of (by omega) (by omega)), sums_node_mark_L10_eq]
  unfold sums_node_mark_L10_B
  rw [if_neg (by simp [Tr.kids])]
end
theorem r_free_L12 (a b : BB) : r22_Free_L12 a b 0 false false false = some (a.1 || b.1, a.2.1 || b.2.1, a.2.2.1 || b.2.2.1, ()) := by
  have stp : ∀ (v : Int) o0 o1 o2, v = 0 ∨ v = 1 ∨ v = 2 → r22_Free_L12 a b v o0 o1 o2 = r22_Free_L12 a b (v + 1) (if v = 0 then a.1 || b.1 else o0) (if v = 1 then a.2.1 || b.2.1 else o1) (if v = 2 then a.2.2.1 || b.2.2.1 else o2) := by
    intro v o0 o1 o2 hv
    have f1 : fits (v + 1) := fits_of (by omega) (by omega)
    rw [r22_Free_L12_eq]
    unfold r22_Free_L12_B
    have h3 : v < 3 := by omega
    rw [if_pos (by simp [h3]), G_pos (by omega), G_pos (by omega)]
    obtain ⟨a0, a1, a2, _⟩ := a
    obtain ⟨c0, c1, c2, _⟩ := b
    unfold r22_Free_J14
    rcases hv with rfl | rfl | rfl
    · cases a0 with
      | true => rw [if_pos (by rfl), G_pos (by omega), G_pos (by omega), G_pos f1]; simp
      | false => rw [if_neg (by simp), G_pos (by omega), G_pos (by omega), G_pos (by omega), G_pos (by omega), G_pos f1]; simp
    · cases a1 with
      | true => rw [if_pos (by rfl), G_pos (by omega), G_pos (by omega), G_pos f1]; simp
      | false => rw [if_neg (by simp), G_pos (by omega), G_pos (by omega), G_pos (by omega), G_pos (by omega), G_pos f1]; simp
    · cases a2 with
      | true => rw [if_pos (by rfl), G_pos (by omega), G_pos (by omega), G_pos f1]; simp
      | false => rw [if_neg (by simp), G_pos (by omega), G_pos (by omega), G_pos (by omega), G_pos (by omega), G_pos f1]; simp
  rw [stp 0 _ _ _ (.inl rfl)]
  show r22_Free_L12 a b 1 _ _ _ = _
  rw [stp 1 _ _ _ (.inr (.inl rfl))]
  show r22_Free_L12 a b 2 _ _ _ = _
  rw [stp 2 _ _ _ (.inr (.inr rfl))]
  show r22_Free_L12 a b 3 _ _ _ = _
  rw [r22_Free_L12_eq]
  unfold r22_Free_L12_B
  rw [if_neg (by decide)]
  simp
theorem bad_bool {a b c d : Bool} : (a || (b && !d) || (c && !d)) = (a || ((b || c) && !d)) := by cases a <;> cases b <;> cases c <;> cases d <;> rfl
/-- The variables that are free in a node, by the list; the tree's marks are these less the bound ones. -/
theorem mark_both {l : L5} {t : Tr ND} {k : Int} (h : Stn l t k) : ∃ F : BB, r22_Free l k = some F ∧ ∀ b1 b2 b3 i0 i1 i2, sums_node_mark t (b1, b2, b3, ()) i0 i1 i2 = some (i0 || (F.1 && !b1), i1 || (F.2.1 && !b2), i2 || (F.2.2.1 && !b3)) := by
  induction h with
  | leaf k h0 h1 hs hb =>
    refine ⟨(ix l k).2.2.1, ?_, ?_⟩
    · rw [r22_Free_eq]
      unfold r22_Free_B r22_Free_J5
      rw [G_pos ⟨h0, h1⟩]
      rcases hs with e | e <;> simp [e]
    · intro b1 b2 b3 i0 i1 i2
      generalize ix l k = x at hs
      obtain ⟨sg, vv, ⟨n0, n1, n2, _⟩, tt, re, A, B, _⟩ := x
      show sums_node_mark (Tr.mk (sg, vv, (n0, n1, n2, ()), tt, re, ()) []) _ _ _ _ = _
      have hs' : sg = 61 ∨ sg = 60 := hs
      rw [mark_plain (by omega), kids0]
  | one k a h0 h1 hs hv hn ha iha =>
    obtain ⟨Fa, fa, ma⟩ := iha
    by_cases h33 : (ix l k).1 = 33
    · refine ⟨Fa, ?_, ?_⟩
      · rw [r22_Free_eq]
        unfold r22_Free_B r22_Free_J5 r22_Free_J8 r22_Free_J18
        rw [G_pos ⟨h0, h1⟩]
        have fa' : r22_Free l (ix l k).2.2.2.2.2.1 = some Fa := fa
        simp [h33, fa']
      · intro b1 b2 b3 i0 i1 i2
        have hm := ma b1 b2 b3 i0 i1 i2
        generalize ix l k = x at h33 hn
        obtain ⟨sg, vv, ⟨n0, n1, n2, _⟩, tt, re, A, B, _⟩ := x
        obtain ⟨rfl, rfl, rfl⟩ : n0 = false ∧ n1 = false ∧ n2 = false := by simpa using hn
        have h' : sg = 33 := h33
        show sums_node_mark (Tr.mk (sg, vv, (false, false, false, ()), tt, re, ()) [a]) _ _ _ _ = _
        rw [mark_plain (by omega)]
        simp only [Bool.false_and, Bool.or_false]
        exact kids1 hm
    · have hs' : (ix l k).1 = 69 ∨ (ix l k).1 = 65 := by rcases hs with h | h; exact absurd h h33; exact h
      have hv3 : (ix l k).2.1 = 0 ∨ (ix l k).2.1 = 1 ∨ (ix l k).2.1 = 2 := by omega
      refine ⟨(Fa.1 && !decide ((ix l k).2.1 = 0), Fa.2.1 && !decide ((ix l k).2.1 = 1), Fa.2.2.1 && !decide ((ix l k).2.1 = 2), ()), ?_, ?_⟩
      · rw [r22_Free_eq]
        unfold r22_Free_B r22_Free_J5 r22_Free_J8 r22_Free_J18
        rw [G_pos ⟨h0, h1⟩]
        have fa' : r22_Free l (ix l k).2.2.2.2.2.1 = some Fa := fa
        have c1 : ¬ (ix l k).1 = 61 := by omega
        have c2 : ¬ (ix l k).1 = 60 := by omega
        have c3 : ¬ (ix l k).1 = 38 := by omega
        have c4 : ¬ (ix l k).1 = 124 := by omega
        simp only [c1, c2, c3, c4, h33, fa', decide_false, Bool.false_eq_true, if_false, Option.bind_some, not_false_eq_true, decide_true, if_true]
        rw [G_pos hv, G_pos (by omega)]
        rcases hv3 with e | e | e <;> simp [e]
      · intro b1 b2 b3 i0 i1 i2
        generalize ix l k = x at hs' hn hv3
        obtain ⟨sg, vv, ⟨n0, n1, n2, _⟩, tt, re, A, B, _⟩ := x
        obtain ⟨rfl, rfl, rfl⟩ : n0 = false ∧ n1 = false ∧ n2 = false := by simpa using hn
        have hm := ma (b1 || decide (vv = 0)) (b2 || decide (vv = 1)) (b3 || decide (vv = 2)) i0 i1 i2
        show sums_node_mark (Tr.mk (sg, vv, (false, false, false, ()), tt, re, ()) [a]) _ _ _ _ = _
        rw [mark_quant hs' hv3]
        refine (kids1 hm).trans ?_
        simp [Bool.and_assoc, Bool.and_comm, Bool.and_left_comm]
  | two k a b h0 h1 hs hn ha hb iha ihb =>
    obtain ⟨Fa, fa, ma⟩ := iha
    obtain ⟨Fb, fb, mb⟩ := ihb
    refine ⟨(Fa.1 || Fb.1, Fa.2.1 || Fb.2.1, Fa.2.2.1 || Fb.2.2.1, ()), ?_, ?_⟩
    · rw [r22_Free_eq]
      unfold r22_Free_B r22_Free_J5 r22_Free_J8
      rw [G_pos ⟨h0, h1⟩]
      have fa' : r22_Free l (ix l k).2.2.2.2.2.1 = some Fa := fa
      have fb' : r22_Free l (ix l k).2.2.2.2.2.2.1 = some Fb := fb
      rcases hs with e | e
      · simp [e, fa', fb', r_free_L12]
      · simp [e, fa', fb', r_free_L12]
    · intro b1 b2 b3 i0 i1 i2
      have hm := ma b1 b2 b3 i0 i1 i2
      have hm2 := mb b1 b2 b3 (i0 || (Fa.1 && !b1)) (i1 || (Fa.2.1 && !b2)) (i2 || (Fa.2.2.1 && !b3))
      generalize ix l k = x at hs hn
      obtain ⟨sg, vv, ⟨n0, n1, n2, _⟩, tt, re, A, B, _⟩ := x
      obtain ⟨rfl, rfl, rfl⟩ : n0 = false ∧ n1 = false ∧ n2 = false := by simpa using hn
      have h' : sg = 38 ∨ sg = 124 := hs
      show sums_node_mark (Tr.mk (sg, vv, (false, false, false, ()), tt, re, ()) [a, b]) _ _ _ _ = _
      rw [mark_plain (by omega)]
      simp only [Bool.false_and, Bool.or_false]
      refine (kids2 hm hm2).trans ?_
      simp only [bad_bool]
def varsOf (q : Bool × Bool × Bool) : List Int := (if q.1 then [0] else []) ++ (if q.2.1 then [1] else []) ++ (if q.2.2 then [2] else [])
theorem node_free {l : L5} {t : Tr ND} {k : Int} (h : Stn l t k) : ∃ F : BB, r22_Free l k = some F ∧ sums_node_free t = some (varsOf (F.1, F.2.1, F.2.2.1)) := by
  obtain ⟨F, g1, g2⟩ := mark_both h
  refine ⟨F, g1, ?_⟩
  unfold sums_node_free
  rw [g2]
  clear g1 g2
  simp only [Option.bind_some, Bool.false_or, Bool.not_false, Bool.and_true]
  obtain ⟨a0, a1, a2, _⟩ := F
  have stp : ∀ (v : Int) (l : List Int), v = 0 ∨ v = 1 ∨ v = 2 → l.length ≤ 3 → sums_node_free_L5 a0 a1 a2 v l = sums_node_free_L5 a0 a1 a2 (v + 1) (l ++ if (if v = 0 then a0 else if v = 1 then a1 else a2) = true then [v] else []) := by
    intro v l hv hl
    have f1 : fits (v + 1) := fits_of (by omega) (by omega)
    rw [sums_node_free_L5_eq]
    unfold sums_node_free_L5_B
    have h3 : v < 3 := by omega
    rw [if_pos (by simp [h3]), G_pos (by omega)]
    have hr : room l [v] 8 := room_of (by simp; omega)
    rcases hv with rfl | rfl | rfl
    · show (if a0 = true then _ else _) = _
      cases a0 with
      | true => rw [if_pos (by rfl), G_pos hr, G_pos f1]; simp
      | false => rw [if_neg (by simp), G_pos f1]; simp
    · show (if a1 = true then _ else _) = _
      cases a1 with
      | true => rw [if_pos (by rfl), G_pos hr, G_pos f1]; simp
      | false => rw [if_neg (by simp), G_pos f1]; simp
    · show (if a2 = true then _ else _) = _
      cases a2 with
      | true => rw [if_pos (by rfl), G_pos hr, G_pos f1]; simp
      | false => rw [if_neg (by simp), G_pos f1]; simp
  rw [stp 0 [] (.inl rfl) (by simp)]
  show sums_node_free_L5 _ _ _ 1 _ = _
  rw [stp 1 _ (.inr (.inl rfl)) (by cases a0 <;> simp)]
  show sums_node_free_L5 _ _ _ 2 _ = _
  rw [stp 2 _ (.inr (.inr rfl)) (by cases a0 <;> cases a1 <;> simp)]
  show sums_node_free_L5 _ _ _ 3 _ = _
  rw [sums_node_free_L5_eq]
  unfold sums_node_free_L5_B
  rw [if_neg (by decide)]
  cases a0 <;> cases a1 <;> cases a2 <;> simp [varsOf]
theorem free_both {l : L5} {t : Tr ND} {k : Int} (h : Stn l t k) : ∃ F : BB, r22_Free l k = some F ∧ sums_node_free t = some (varsOf (F.1, F.2.1, F.2.2.1)) := node_free h
theorem free_list (q : Bool × Bool × Bool) : sums_Free_L6 (varsOf q) 0 (List.replicate ((3 : Int)).toNat (0 : Int)) = some (0, [bI q.1, bI q.2.1, bI q.2.2]) := by
  have e3 : List.replicate ((3 : Int)).toNat (0 : Int) = [0, 0, 0] := rfl
  rw [e3]
  obtain ⟨q0, q1, q2⟩ := q
  have stp : ∀ (w : List Int) (t : Int) (l : List Int) (x : Int), 0 ≤ t → t < w.length → t ≤ 10 → ix w t = x → 0 ≤ x → x < l.length → sums_Free_L6 w t l = sums_Free_L6 w (t + 1) (l.set x.toNat 1) := by
    intro w t l x t0 t1 t2 e x0 x1
    rw [sums_Free_L6_eq]
    unfold sums_Free_L6_B
    rw [if_pos (by simpa using t1), G_pos ⟨t0, t1⟩, G_pos (by omega), G_pos (by rw [e]; exact ⟨x0, x1⟩), G_pos (by rw [e]; omega), G_pos (fits_of (by omega) (by omega)), e]
  have fin : ∀ (w : List Int) (t : Int) (l : List Int), (w.length : Int) ≤ t → sums_Free_L6 w t l = some (0, l) := by
    intro w t l h
    rw [sums_Free_L6_eq]
    unfold sums_Free_L6_B
    rw [if_neg (by simp; omega)]
  have go : ∀ (w : List Int) (l : List Int), (∀ x ∈ w, 0 ≤ x ∧ x < 3) → l.length = 3 → w.length ≤ 3 → ∀ (n : Nat) (t : Int) (l : List Int), l.length = 3 → 0 ≤ t → t + n = w.length → sums_Free_L6 w t l = some (0, (w.drop t.toNat).foldl (fun l x => l.set x.toNat 1) l) := by
    intro w l hw hl hl2 n
    induction n with
    | zero => intro t l hl h0 ht; rw [fin w t l (by omega), List.drop_eq_nil_of_le (by omega)]; rfl
    | succ n ih =>
      intro t l hl h0 ht
      have hm := hw _ (ix_mem h0 (by omega : t < w.length))
      rw [stp w t l (ix w t) h0 (by omega) (by omega) rfl hm.1 (by omega), ih (t + 1) _ (by simp [hl]) (by omega) (by omega), ix_drop h0 (by omega : t < w.length)]
      rfl
  have h := go (varsOf (q0, q1, q2)) [0, 0, 0] (by unfold varsOf; cases q0 <;> cases q1 <;> cases q2 <;> simp) rfl (by unfold varsOf; cases q0 <;> cases q1 <;> cases q2 <;> simp) (varsOf (q0, q1, q2)).length 0 [0, 0, 0] rfl (by omega) (by omega)
  rw [h]
  cases q0 <;> cases q1 <;> cases q2 <;> rfl

theorem eqB_self' (f a : Int) : eqB (f, (a, ())) (f, (a, ())) = true := by simp [eqB]
theorem law_L12 (F : BB) (q : Bool × Bool × Bool) (h : F = (q.1, q.2.1, q.2.2, ())) : law_SumsReads_L12 [bI q.1, bI q.2.1, bI q.2.2] F 0 = some true := by
  obtain ⟨q0, q1, q2⟩ := q
  subst h
  have key : ∀ (b : Bool), (decide ((bI b) = (1 : Int))) = b ∧ ¬ bI b < 0 ∧ ¬ 1 < bI b := by intro b; cases b <;> simp [bI]
  have stp : ∀ v : Int, v = 0 ∨ v = 1 ∨ v = 2 → law_SumsReads_L12 [bI q0, bI q1, bI q2] (q0, q1, q2, ()) v = law_SumsReads_L12 [bI q0, bI q1, bI q2] (q0, q1, q2, ()) (v + 1) := by
    intro v hv
    rw [law_SumsReads_L12_eq]
    unfold law_SumsReads_L12_B
    have e : ∃ b, ix [bI q0, bI q1, bI q2] v = bI b ∧ [q0, q1, q2].getD v.toNat false = b := by
      rcases hv with rfl | rfl | rfl
      · exact ⟨q0, rfl, rfl⟩
      · exact ⟨q1, rfl, rfl⟩
      · exact ⟨q2, rfl, rfl⟩
    obtain ⟨b, e1, e2⟩ := e
    obtain ⟨k1, k2, k3⟩ := key b
    have hl : ([bI q0, bI q1, bI q2] : List Int).length = 3 := rfl
    simp only [e1, e2, hl]
    have h3 : v < 3 := by omega
    have f3 : fits (v + 1) := fits_of (by omega) (by omega)
    rw [if_pos (by simp [h3])]
    repeat rw [G_pos (by omega)]
    rw [k1, if_neg (by simp)]
    repeat rw [G_pos (by omega)]
    rw [if_neg (by simpa using k2)]
    repeat rw [G_pos (by omega)]
    rw [if_neg (by simpa using k3)]
  have e0 := stp 0 (.inl rfl)
  have e1 := stp 1 (.inr (.inl rfl))
  have e2 := stp 2 (.inr (.inr rfl))
  show law_SumsReads_L12 [bI q0, bI q1, bI q2] (q0, q1, q2, ()) 0 = some true
  rw [e0]; show law_SumsReads_L12 _ _ 1 = _
  rw [e1]; show law_SumsReads_L12 _ _ 2 = _
  rw [e2]; show law_SumsReads_L12 _ _ 3 = _
  rw [law_SumsReads_L12_eq]
  unfold law_SumsReads_L12_B
  rw [if_neg (by simp)]
theorem law_true (c : List UInt8) : law_SumsReads c = some true := by
  unfold law_SumsReads sums_Check sums_Free
  rcases parse_both c with ⟨a, b, l, e1, e2, hl, hs⟩ | ⟨cd, pl, e1, e2, hcd⟩
  · obtain ⟨F, f1, f2⟩ := free_both hs
    simp only [e1, e2, Option.bind_some, not_true_eq_false, decide_false, Bool.false_eq_true, if_false, eqB_self', Bool.not_true]
    rw [G_pos (by unfold mkOK; simp), f2]
    simp only [Option.bind_some]
    rw [free_list (F.1, F.2.1, F.2.2.1)]
    simp only [Option.bind_some, not_true_eq_false, decide_false, Bool.false_eq_true, if_false, f1]
    have hl : (([bI F.1, bI F.2.1, bI F.2.2.1] : List Int).length : Int) = 3 := rfl
    simp only [hl, not_true_eq_false, decide_false, Bool.false_eq_true, if_false]
    exact law_L12 F (F.1, F.2.1, F.2.2.1) rfl
  · simp only [e1, e2, Option.bind_some, hcd, not_false_eq_true, decide_true, if_true, eqB_self', Bool.not_true, Bool.false_eq_true, if_false, List.length_nil]
    rfl

end Go.Proofs.Ythepdaojacmbbaa.sumsReadsW
