/- The law 'TimeReads' of the plain functions. -/
import Derived.Test.YtdobpnnpfehjnaaTimeReadsD
set_option maxHeartbeats 1000000
set_option maxRecDepth 20000
set_option linter.unusedSimpArgs false
set_option linter.unusedVariables false
set_option linter.unusedSectionVars false
namespace Go.Proofs.Ytdobpnnpfehjnaa.timeReadsW
open Go Go.Ab
abbrev L3 := List (Int × Int × Int × Unit)
def tm (b : Int) : Bool := decide (b = 88 ∨ b = 70 ∨ b = 71 ∨ b = 85 ∨ b = 82)
def tt (t b : Int) : Int := if tm b = true then t + 1 else t
def bad (n t b : Int) : Bool := decide (30 < n + 1) || (tm b && decide (5 < t + 1))
def nowT (c : List UInt8) (i : Int) : Int := if i < c.length then bAt c i else 0
theorem ofTime_tm (b : Int) : time_ofTime b = some (tm b) := by
  unfold time_ofTime tm
  by_cases h1 : b = 88
  · simp [h1]
  · by_cases h2 : b = 70
    · simp [h2]
    · by_cases h3 : b = 71
      · simp [h3]
      · by_cases h4 : b = 85
        · simp [h4]
        · simp [h1, h2, h3, h4]
section
variable {c : List UInt8} {i n t s : Int} {l : L3}
theorem p_now (h0 : 0 ≤ i) (h1 : i ≤ c.length) : time_reader_now (c, (i, (n, (t, (s, (l, ())))))) = some (nowT c i) := by
  unfold time_reader_now nowT
  by_cases h : i = (c.length : Int)
  · simp [h]
  · have h2 : i < c.length := by omega
    simp only [h, decide_false, Bool.false_eq_true, if_false, if_pos h2]
    exact G_pos ⟨h0, h2⟩
theorem r_now {f a : Int} (h0 : 0 ≤ i) : r8_Reader_now (c, (i, (n, (t, (s, (l, ((f, (a, ())), ()))))))) = some (nowT c i) := by
  unfold r8_Reader_now nowT
  by_cases h : (c.length : Int) ≤ i
  · have : ¬ i < (c.length : Int) := by omega
    simp [h, this]
  · have h2 : i < c.length := by omega
    simp only [h, decide_false, Bool.false_eq_true, if_false, if_pos h2]
    exact G_pos ⟨h0, h2⟩
theorem r_ok {f a : Int} : r8_Reader_ok (c, (i, (n, (t, (s, (l, ((f, (a, ())), ()))))))) = some (decide (f = 0)) := rfl
theorem r_fail {f a k : Int} : r8_Reader_fail k c i n t s f a l = if f = 0 then some (c, i, n, t, s, l, k, i) else some (c, i, n, t, s, l, f, a) := by
  unfold r8_Reader_fail
  by_cases h : f = 0 <;> simp [h]
theorem p_fail {k : Int} : time_reader_fail (c, (i, (n, (t, (s, (l, ())))))) k = some (.inr (k, i)) := rfl
theorem p_counted (h0 : 0 ≤ i) (h1 : i < c.length) (hc : c.length ≤ 4000) (hn : 0 ≤ n ∧ n ≤ 30) (ht : 0 ≤ t ∧ t ≤ 5) :
    time_reader_counted c i n t s l = if bad n t (nowT c i) = true then some (.inr (7, i)) else some (.inl (c, i + 1, n + 1, tt t (nowT c i), s, l)) := by
  have f1 : fits (n + 1) := fits_of (by omega) (by omega)
  have f2 : fits (t + 1) := fits_of (by omega) (by omega)
  have f3 : fits (i + 1) := fits_of (by omega) (by omega)
  unfold time_reader_counted
  rw [G_pos f1, p_now h0 (by omega)]
  simp only [Option.bind_some, ofTime_tm]
  unfold tt bad time_reader_counted_J3 time_reader_counted_J4
  cases htm : tm (nowT c i) with
  | true =>
    simp only [if_true, G_pos f2, p_fail, pbind_inr, G_pos f3, Bool.true_and]
    by_cases h2 : (30 : Int) < n + 1
    · simp [h2]
    · by_cases h3 : (5 : Int) < t + 1
      · simp [h2, h3]
      · simp [h2, h3]
  | false =>
    simp only [Bool.false_eq_true, if_false, p_fail, pbind_inr, G_pos f3, Bool.false_and, Bool.or_false]
    by_cases h2 : (30 : Int) < n + 1
    · simp [h2]
    · simp [h2]
theorem r_counted (h0 : 0 ≤ i) (h1 : i < c.length) (hc : c.length ≤ 4000) (hn : 0 ≤ n ∧ n ≤ 30) (ht : 0 ≤ t ∧ t ≤ 5) {b : Int} :
    r8_Reader_counted b c i n t s 0 0 l = if bad n t b = true then some (c, i + 1, n + 1, tt t b, s, l, 7, i) else some (c, i + 1, n + 1, tt t b, s, l, 0, 0) := by
  have f1 : fits (n + 1) := fits_of (by omega) (by omega)
  have f2 : fits (t + 1) := fits_of (by omega) (by omega)
  have f3 : fits (i + 1) := fits_of (by omega) (by omega)
  have e : r8_Reader_counted b c i n t s 0 0 l = r8_Reader_counted_J0 c i n t s 0 0 l (tm b) := by
    unfold r8_Reader_counted tm
    by_cases h1 : b = 88
    · simp [h1]
    · by_cases h2 : b = 70
      · simp [h2]
      · by_cases h3 : b = 71
        · simp [h3]
        · by_cases h4 : b = 85
          · simp [h4]
          · simp [h1, h2, h3, h4]
  rw [e]
  unfold r8_Reader_counted_J0
  rw [G_pos f1]
  unfold tt bad r8_Reader_counted_J3 r8_Reader_counted_J4
  cases htm : tm b with
  | true =>
    simp only [if_true, G_pos f2, r_fail, Option.bind_some, G_pos f3, Bool.true_and]
    by_cases h2 : (30 : Int) < n + 1
    · simp [h2, G_pos f3]
    · by_cases h3 : (5 : Int) < t + 1
      · simp [h2, h3, G_pos f3]
      · simp [h2, h3, G_pos f3]
  | false =>
    simp only [Bool.false_eq_true, if_false, r_fail, if_true, Option.bind_some, G_pos f3, Bool.false_and, Bool.or_false]
theorem p_put (h : l.length ≤ 1000) {k a b : Int} : time_reader_put (k, (a, (b, ()))) c i n t s l = some ((l.length : Int), c, i, n, t, s, l ++ [(k, a, b, ())]) := by
  unfold time_reader_put
  have e : (((l ++ [(k, (a, (b, ())))]).length : Int) - 1) = (l.length : Int) := by simp
  rw [G_pos (room_of (by simp; omega))]
  simp only [e]
  rw [G_pos (fits_of (by omega) (by omega))]
theorem r_put (h : l.length ≤ 1000) {k a b f at' : Int} : r8_Reader_put k a b c i n t s f at' l = some ((l.length : Int), c, i, n, t, s, l ++ [(k, a, b, ())], f, at') := by
  unfold r8_Reader_put
  have e : (((l ++ [(k, (a, (b, ())))]).length : Int) - 1) = (l.length : Int) := by simp
  rw [G_pos (room_of (by simp; omega))]
  simp only [e]
  rw [G_pos (fits_of (by omega) (by omega))]
theorem p_no (h : l.length ≤ 1000) {a : Int} : time_reader_no a c i n t s l = some ((l.length : Int), c, i, n, t, s, l ++ [(3, a, 0, ())]) := by
  unfold time_reader_no
  rw [p_put h]; rfl
theorem p_always (h : l.length ≤ 900) : ∃ l', time_reader_always c i n t s l = some ((l.length : Int) + 1, c, i, n, t, s, l') ∧ l'.length = l.length + 2 := by
  unfold time_reader_always
  rw [p_put (by omega)]
  simp only [Option.bind_some]
  rw [p_no (by simp; omega)]
  refine ⟨_, by simp; rfl, by simp⟩
end

/-! ### what was found to be wrong stays -/
section
variable {c : List UInt8} {i n t s cd pl : Int} {l : L3}
theorem f_one (F : List UInt8 → Int → Int → Int → Int → Int → Int → L3 → Option (Int × List UInt8 × Int × Int × Int × Int × L3 × Int × Int)) (h : cd ≠ 0) : r8_Reader_one F c i n t s cd pl l = some (0, c, i, n, t, s, l, cd, pl) := by
  rw [r8_Reader_one_eq]
  unfold r8_Reader_one_B
  rw [r_ok]
  simp [h]
theorem f_part (F : List UInt8 → Int → Int → Int → Int → Int → Int → L3 → Option (Int × List UInt8 × Int × Int × Int × Int × L3 × Int × Int)) (h : cd ≠ 0) (h0 : 0 ≤ i) : r8_Reader_part F c i n t s cd pl l = some (0, c, i, n, t, s, l, cd, pl) := by
  rw [r8_Reader_part_eq]
  unfold r8_Reader_part_B
  rw [f_one F h]
  simp only [Option.bind_some]
  rw [r_now h0, r_ok]
  simp [h]
theorem f_termL (F : List UInt8 → Int → Int → Int → Int → Int → Int → L3 → Option (Int × List UInt8 × Int × Int × Int × Int × L3 × Int × Int)) (h : cd ≠ 0) (h0 : 0 ≤ i) (a : Int) : r8_Reader_term_L2 F a c i n t s cd pl l = some (a, c, i, n, t, s, l, cd, pl) := by
  rw [r8_Reader_term_L2_eq]
  unfold r8_Reader_term_L2_B
  rw [r_now h0]
  simp only [Option.bind_some]
  rw [r_ok]
  simp [h]
theorem f_term (F : List UInt8 → Int → Int → Int → Int → Int → Int → L3 → Option (Int × List UInt8 × Int × Int × Int × Int × L3 × Int × Int)) (h : cd ≠ 0) (h0 : 0 ≤ i) : r8_Reader_term F c i n t s cd pl l = some (0, c, i, n, t, s, l, cd, pl) := by
  unfold r8_Reader_term
  rw [f_part F h h0]
  simp only [Option.bind_some]
  exact f_termL F h h0 0
theorem f_formL (F : List UInt8 → Int → Int → Int → Int → Int → Int → L3 → Option (Int × List UInt8 × Int × Int × Int × Int × L3 × Int × Int)) (h : cd ≠ 0) (h0 : 0 ≤ i) (a : Int) : r8_Reader_formula_L2 F a c i n t s cd pl l = some (a, c, i, n, t, s, l, cd, pl) := by
  rw [r8_Reader_formula_L2_eq]
  unfold r8_Reader_formula_L2_B
  rw [r_now h0]
  simp only [Option.bind_some]
  rw [r_ok]
  simp [h]
end
/-! ### both alike -/
structure Pre (c : List UInt8) (i n t s : Int) (l l2 : L3) : Prop where
  i0 : 0 ≤ i
  i1 : i ≤ c.length
  c1 : c.length ≤ 4000
  n0 : 0 ≤ n
  n1 : n ≤ 30
  t0 : 0 ≤ t
  t1 : t ≤ 5
  s0 : 0 ≤ s
  s1 : s ≤ 40
  l1 : (l.length : Int) ≤ 5 * n
  l2 : (l2.length : Int) ≤ n
def Sm (c : List UInt8) (i n t s : Int) (l l2 : L3) (o : Option ((Int × List UInt8 × Int × Int × Int × Int × L3) ⊕ (Int × Int))) (r : Option (Int × List UInt8 × Int × Int × Int × Int × L3 × Int × Int)) : Prop :=
  (∃ a b i' n' t' l' l2', o = some (.inl (a, c, i', n', t', s, l')) ∧ r = some (b, c, i', n', t', s, l2', 0, 0) ∧ i ≤ i' ∧ i' ≤ c.length ∧ n ≤ n' ∧ n' ≤ 30 ∧ 0 ≤ t' ∧ t' ≤ 5 ∧ 0 ≤ a ∧ a < (l'.length : Int) ∧ (l'.length : Int) + 5 * n ≤ l.length + 5 * n' ∧ (l2'.length : Int) + n ≤ l2.length + n')
  ∨ (∃ cd pl b i' n' t' l2', o = some (.inr (cd, pl)) ∧ r = some (b, c, i', n', t', s, l2', cd, pl) ∧ cd ≠ 0 ∧ 0 ≤ i' ∧ i' ≤ c.length + 40 - s ∧ n' ≤ 31 ∧ (l2'.length : Int) + n ≤ l2.length + n')
def One (c : List UInt8) (m : Nat) : Prop := ∀ i n t s l l2, Pre c i n t s l l2 → ((c.length : Int) - i).toNat ≤ m → Sm c i n t s l l2 (time_reader_one time_reader_formula c i n t s l) (r8_Reader_one r8_Reader_formula c i n t s 0 0 l2)
def Part (c : List UInt8) (m : Nat) : Prop := ∀ i n t s l l2, Pre c i n t s l l2 → ((c.length : Int) - i).toNat ≤ m → Sm c i n t s l l2 (time_reader_part time_reader_formula c i n t s l) (r8_Reader_part r8_Reader_formula c i n t s 0 0 l2)
def Term (c : List UInt8) (m : Nat) : Prop := ∀ i n t s l l2, Pre c i n t s l l2 → ((c.length : Int) - i).toNat ≤ m → Sm c i n t s l l2 (time_reader_term time_reader_formula c i n t s l) (r8_Reader_term r8_Reader_formula c i n t s 0 0 l2)
def Form (c : List UInt8) (m : Nat) : Prop := ∀ i n t s l l2, Pre c i n t s l l2 → ((c.length : Int) - i).toNat ≤ m → Sm c i n t s l l2 (time_reader_formula c i n t s l) (r8_Reader_formula c i n t s 0 0 l2)
theorem now_lt {c : List UInt8} {i : Int} (h : nowT c i ≠ 0) : i < c.length := by
  unfold nowT at h
  by_cases h1 : i < c.length
  · exact h1
  · rw [if_neg h1] at h; exact absurd rfl h
theorem tt_ok {n t b : Int} (h : ¬ bad n t b = true) (h0 : 0 ≤ t) (h1 : t ≤ 5) : n + 1 ≤ 30 ∧ 0 ≤ tt t b ∧ tt t b ≤ 5 := by
  unfold bad at h
  unfold tt
  simp only [Bool.or_eq_true, Bool.and_eq_true, decide_eq_true_eq, not_or, not_and] at h
  refine ⟨by omega, ?_, ?_⟩
  · split <;> omega
  · split
    · rename_i hb; have := h.2 hb; omega
    · omega
/-- The loop of a row of parts. -/
theorem term_loop {c : List UInt8} : ∀ m : Nat, (∀ m' < m, Part c m') → ∀ a b i n t s l l2, Pre c i n t s l l2 → ((c.length : Int) - i).toNat ≤ m → 0 ≤ a → a < (l.length : Int) →
    Sm c i n t s l l2 (time_reader_term_L2 time_reader_formula a c i n t s l) (r8_Reader_term_L2 r8_Reader_formula b c i n t s 0 0 l2) := by
  intro m
  induction m using Nat.strongRecOn with
  | ind m ih =>
    intro hP a b i n t s l l2 hp hm ha0 ha1
    obtain ⟨i0, i1, c1, n0, n1, t0, t1, s0, s1, q1, q2⟩ := hp
    rw [time_reader_term_L2_eq, r8_Reader_term_L2_eq]
    unfold time_reader_term_L2_B r8_Reader_term_L2_B
    rw [p_now i0 i1, r_now i0]
    simp only [Option.bind_some]
    rw [r_ok]
    by_cases hb : nowT c i = 38
    · have hlt : i < c.length := now_lt (by rw [hb]; decide)
      simp only [hb, Option.bind_some, decide_true, not_true_eq_false, decide_false, Bool.not_true, Bool.false_eq_true, if_true, if_false]
      rw [p_counted i0 hlt c1 ⟨n0, n1⟩ ⟨t0, t1⟩, r_counted i0 hlt c1 ⟨n0, n1⟩ ⟨t0, t1⟩, hb]
      by_cases hbad : bad n t 38 = true
      · simp only [hbad, if_true, pbind_inr, Option.bind_some]
        rw [f_part _ (by decide) (by omega)]
        simp only [Option.bind_some]
        rw [r_put (by omega)]
        simp only [Option.bind_some]
        rw [f_termL _ (by decide) (by omega)]
        exact .inr ⟨7, i, _, _, _, _, _, rfl, rfl, by decide, by omega, by omega, by omega, by (first | omega | (simp only [List.length_append, List.length_cons, List.length_nil] at *; omega) | (simp; done) | (simp; omega))⟩
      · obtain ⟨k1, k2, k3⟩ := tt_ok hbad t0 t1
        simp only [hbad, Bool.false_eq_true, if_false, pbind_inl, Option.bind_some]
        rcases hP (((c.length : Int) - (i + 1)).toNat) (by omega) (i + 1) (n + 1) (tt t 38) s l l2 ⟨by omega, by omega, c1, by omega, k1, k2, k3, s0, s1, by omega, by omega⟩ (Nat.le_refl _) with
          ⟨a1, b1, i', n', t', l', l2', e1, e2, g1, g2, g3, g4, g5, g6, g7, g8, g9, g10⟩ | ⟨cd, pl, b1, i', n', t', l2', e1, e2, g1, g2, g3, g4, g5⟩
        · simp only [e1, e2, pbind_inl, Option.bind_some]
          rw [p_put (by omega), r_put (by omega)]
          simp only [Option.bind_some]
          rcases ih (((c.length : Int) - i').toNat) (by omega) (fun m' hm' => hP m' (by omega)) (l'.length : Int) (l2'.length : Int) i' n' t' s (l' ++ [(4, a, a1, ())]) (l2' ++ [(38, b, b1, ())])
            ⟨by omega, g2, c1, by omega, g4, g5, g6, s0, s1, by (first | omega | (simp only [List.length_append, List.length_cons, List.length_nil] at *; omega) | (simp; done) | (simp; omega)), by (first | omega | (simp only [List.length_append, List.length_cons, List.length_nil] at *; omega) | (simp; done) | (simp; omega))⟩ (Nat.le_refl _) (by omega) (by (first | omega | (simp only [List.length_append, List.length_cons, List.length_nil] at *; omega) | (simp; done) | (simp; omega))) with
            ⟨a2, b2, i2, n2, t2, l3, l4, w1, w2, w3, w4, w5, w6, w7, w8, w9, w10, w11, w12⟩ | ⟨cd, pl, b2, i2, n2, t2, l4, w1, w2, w3, w4, w5, w6, w7⟩
          · simp only [List.length_append, List.length_cons, List.length_nil] at w11 w12
            exact .inl ⟨a2, b2, i2, n2, t2, l3, l4, w1, w2, by omega, w4, by omega, w6, w7, w8, w9, w10, by omega, by omega⟩
          · simp only [List.length_append, List.length_cons, List.length_nil] at w7
            exact .inr ⟨cd, pl, b2, i2, n2, t2, l4, w1, w2, w3, w4, w5, w6, by omega⟩
        · simp only [e1, e2, pbind_inr, Option.bind_some]
          rw [r_put (by omega)]
          simp only [Option.bind_some]
          rw [f_termL _ g1 g2]
          exact .inr ⟨cd, pl, _, _, _, _, _, rfl, rfl, g1, g2, g3, g4, by (first | omega | (simp only [List.length_append, List.length_cons, List.length_nil] at *; omega) | (simp; done) | (simp; omega))⟩
    · simp only [hb, Option.bind_some, decide_true, not_false_eq_true, decide_false, Bool.not_true, Bool.false_eq_true, if_true, if_false]
      exact .inl ⟨a, b, i, n, t, l, l2, rfl, rfl, by omega, i1, by omega, n1, t0, t1, ha0, ha1, by omega, by omega⟩
theorem term_of {c : List UInt8} {m : Nat} (hP : ∀ m' ≤ m, Part c m') : Term c m := by
  intro i n t s l l2 hp hm
  have hp' := hp
  obtain ⟨i0, i1, c1, n0, n1, t0, t1, s0, s1, q1, q2⟩ := hp
  unfold time_reader_term r8_Reader_term
  rcases hP m (Nat.le_refl _) i n t s l l2 hp' hm with
    ⟨a1, b1, i', n', t', l', l2', e1, e2, g1, g2, g3, g4, g5, g6, g7, g8, g9, g10⟩ | ⟨cd, pl, b1, i', n', t', l2', e1, e2, g1, g2, g3, g4, g5⟩
  · simp only [e1, e2, pbind_inl, Option.bind_some]
    rcases term_loop m (fun m' hm' => hP m' (by omega)) a1 b1 i' n' t' s l' l2' ⟨by omega, g2, c1, by omega, g4, g5, g6, s0, s1, by omega, by omega⟩ (by omega) g7 g8 with
      ⟨a2, b2, i2, n2, t2, l3, l4, w1, w2, w3, w4, w5, w6, w7, w8, w9, w10, w11, w12⟩ | ⟨cd, pl, b2, i2, n2, t2, l4, w1, w2, w3, w4, w5, w6, w7⟩
    · exact .inl ⟨a2, b2, i2, n2, t2, l3, l4, w1, w2, by omega, w4, by omega, w6, w7, w8, w9, w10, by omega, by omega⟩
    · exact .inr ⟨cd, pl, b2, i2, n2, t2, l4, w1, w2, w3, w4, w5, w6, by omega⟩
  · simp only [e1, e2, pbind_inr, Option.bind_some]
    rw [f_termL _ g1 g2]
    exact .inr ⟨cd, pl, _, _, _, _, _, rfl, rfl, g1, g2, g3, g4, g5⟩
/-- .. and of terms. -/
theorem form_loop {c : List UInt8} : ∀ m : Nat, (∀ m' < m, Term c m') → ∀ a b i n t s l l2, Pre c i n t s l l2 → ((c.length : Int) - i).toNat ≤ m → 0 ≤ a → a < (l.length : Int) →
    Sm c i n t s l l2 (time_reader_formula_L2 time_reader_formula a c i n t s l) (r8_Reader_formula_L2 r8_Reader_formula b c i n t s 0 0 l2) := by
  intro m
  induction m using Nat.strongRecOn with
  | ind m ih =>
    intro hP a b i n t s l l2 hp hm ha0 ha1
    obtain ⟨i0, i1, c1, n0, n1, t0, t1, s0, s1, q1, q2⟩ := hp
    rw [time_reader_formula_L2_eq, r8_Reader_formula_L2_eq]
    unfold time_reader_formula_L2_B r8_Reader_formula_L2_B
    rw [p_now i0 i1, r_now i0]
    simp only [Option.bind_some]
    rw [r_ok]
    by_cases hb : nowT c i = 124
    · have hlt : i < c.length := now_lt (by rw [hb]; decide)
      simp only [hb, Option.bind_some, decide_true, not_true_eq_false, decide_false, Bool.not_true, Bool.false_eq_true, if_true, if_false]
      rw [p_counted i0 hlt c1 ⟨n0, n1⟩ ⟨t0, t1⟩, r_counted i0 hlt c1 ⟨n0, n1⟩ ⟨t0, t1⟩, hb]
      by_cases hbad : bad n t 124 = true
      · simp only [hbad, if_true, pbind_inr, Option.bind_some]
        rw [f_term _ (by decide) (by omega)]
        simp only [Option.bind_some]
        rw [r_put (by omega)]
        simp only [Option.bind_some]
        rw [f_formL _ (by decide) (by omega)]
        exact .inr ⟨7, i, _, _, _, _, _, rfl, rfl, by decide, by omega, by omega, by omega, by (first | omega | (simp only [List.length_append, List.length_cons, List.length_nil] at *; omega) | (simp; done) | (simp; omega))⟩
      · obtain ⟨k1, k2, k3⟩ := tt_ok hbad t0 t1
        simp only [hbad, Bool.false_eq_true, if_false, pbind_inl, Option.bind_some]
        rcases hP (((c.length : Int) - (i + 1)).toNat) (by omega) (i + 1) (n + 1) (tt t 124) s l l2 ⟨by omega, by omega, c1, by omega, k1, k2, k3, s0, s1, by omega, by omega⟩ (Nat.le_refl _) with
          ⟨a1, b1, i', n', t', l', l2', e1, e2, g1, g2, g3, g4, g5, g6, g7, g8, g9, g10⟩ | ⟨cd, pl, b1, i', n', t', l2', e1, e2, g1, g2, g3, g4, g5⟩
        · simp only [e1, e2, pbind_inl, Option.bind_some]
          rw [p_put (by omega), r_put (by omega)]
          simp only [Option.bind_some]
          rcases ih (((c.length : Int) - i').toNat) (by omega) (fun m' hm' => hP m' (by omega)) (l'.length : Int) (l2'.length : Int) i' n' t' s (l' ++ [(5, a, a1, ())]) (l2' ++ [(124, b, b1, ())])
            ⟨by omega, g2, c1, by omega, g4, g5, g6, s0, s1, by (first | omega | (simp only [List.length_append, List.length_cons, List.length_nil] at *; omega) | (simp; done) | (simp; omega)), by (first | omega | (simp only [List.length_append, List.length_cons, List.length_nil] at *; omega) | (simp; done) | (simp; omega))⟩ (Nat.le_refl _) (by omega) (by (first | omega | (simp only [List.length_append, List.length_cons, List.length_nil] at *; omega) | (simp; done) | (simp; omega))) with
            ⟨a2, b2, i2, n2, t2, l3, l4, w1, w2, w3, w4, w5, w6, w7, w8, w9, w10, w11, w12⟩ | ⟨cd, pl, b2, i2, n2, t2, l4, w1, w2, w3, w4, w5, w6, w7⟩
          · simp only [List.length_append, List.length_cons, List.length_nil] at w11 w12
            exact .inl ⟨a2, b2, i2, n2, t2, l3, l4, w1, w2, by omega, w4, by omega, w6, w7, w8, w9, w10, by omega, by omega⟩
          · simp only [List.length_append, List.length_cons, List.length_nil] at w7
            exact .inr ⟨cd, pl, b2, i2, n2, t2, l4, w1, w2, w3, w4, w5, w6, by omega⟩
        · simp only [e1, e2, pbind_inr, Option.bind_some]
          rw [r_put (by omega)]
          simp only [Option.bind_some]
          rw [f_formL _ g1 g2]
          exact .inr ⟨cd, pl, _, _, _, _, _, rfl, rfl, g1, g2, g3, g4, by (first | omega | (simp only [List.length_append, List.length_cons, List.length_nil] at *; omega) | (simp; done) | (simp; omega))⟩
    · simp only [hb, Option.bind_some, decide_true, not_false_eq_true, decide_false, Bool.not_true, Bool.false_eq_true, if_true, if_false]
      exact .inl ⟨a, b, i, n, t, l, l2, rfl, rfl, by omega, i1, by omega, n1, t0, t1, ha0, ha1, by omega, by omega⟩
theorem form_of {c : List UInt8} {m : Nat} (hP : ∀ m' ≤ m, Term c m') : Form c m := by
  intro i n t s l l2 hp hm
  have hp' := hp
  obtain ⟨i0, i1, c1, n0, n1, t0, t1, s0, s1, q1, q2⟩ := hp
  rw [time_reader_formula_eq, r8_Reader_formula_eq]
  unfold time_reader_formula_B r8_Reader_formula_B
  rcases hP m (Nat.le_refl _) i n t s l l2 hp' hm with
    ⟨a1, b1, i', n', t', l', l2', e1, e2, g1, g2, g3, g4, g5, g6, g7, g8, g9, g10⟩ | ⟨cd, pl, b1, i', n', t', l2', e1, e2, g1, g2, g3, g4, g5⟩
  · simp only [e1, e2, pbind_inl, Option.bind_some]
    rcases form_loop m (fun m' hm' => hP m' (by omega)) a1 b1 i' n' t' s l' l2' ⟨by omega, g2, c1, by omega, g4, g5, g6, s0, s1, by omega, by omega⟩ (by omega) g7 g8 with
      ⟨a2, b2, i2, n2, t2, l3, l4, w1, w2, w3, w4, w5, w6, w7, w8, w9, w10, w11, w12⟩ | ⟨cd, pl, b2, i2, n2, t2, l4, w1, w2, w3, w4, w5, w6, w7⟩
    · exact .inl ⟨a2, b2, i2, n2, t2, l3, l4, w1, w2, by omega, w4, by omega, w6, w7, w8, w9, w10, by omega, by omega⟩
    · exact .inr ⟨cd, pl, b2, i2, n2, t2, l4, w1, w2, w3, w4, w5, w6, by omega⟩
  · simp only [e1, e2, pbind_inr, Option.bind_some]
    rw [f_formL _ g1 g2]
    exact .inr ⟨cd, pl, _, _, _, _, _, rfl, rfl, g1, g2, g3, g4, g5⟩
theorem part_of {c : List UInt8} {m : Nat} (hO : One c m) (hP : ∀ m' < m, Part c m') : Part c m := by
  intro i n t s l l2 hp hm
  have hp' := hp
  obtain ⟨i0, i1, c1, n0, n1, t0, t1, s0, s1, q1, q2⟩ := hp
  rw [time_reader_part_eq, r8_Reader_part_eq]
  unfold time_reader_part_B r8_Reader_part_B
  rcases hO i n t s l l2 hp' hm with
    ⟨a1, b1, i', n', t', l', l2', e1, e2, g1, g2, g3, g4, g5, g6, g7, g8, g9, g10⟩ | ⟨cd, pl, b1, i', n', t', l2', e1, e2, g1, g2, g3, g4, g5⟩
  · simp only [e1, e2, pbind_inl, Option.bind_some]
    rw [p_now (by omega) g2, r_now (by omega)]
    simp only [Option.bind_some]
    rw [r_ok]
    by_cases h85 : nowT c i' = 85
    · have hlt : i' < c.length := now_lt (by rw [h85]; decide)
      simp only [h85, Option.bind_some, decide_true, not_true_eq_false, decide_false, Bool.not_true, Bool.false_eq_true, if_true, if_false]
      unfold r8_Reader_part_J5
      rw [p_counted (by omega) hlt c1 ⟨by omega, g4⟩ ⟨g5, g6⟩, r_counted (by omega) hlt c1 ⟨by omega, g4⟩ ⟨g5, g6⟩, h85]
      by_cases hbad : bad n' t' 85 = true
      · simp only [hbad, if_true, pbind_inr, Option.bind_some]
        rw [f_part _ (by decide) (by omega)]
        simp only [Option.bind_some]
        rw [r_put (by omega)]
        simp only [Option.bind_some]
        exact .inr ⟨7, i', _, _, _, _, _, rfl, rfl, by decide, by omega, by omega, by omega, by (first | omega | (simp only [List.length_append, List.length_cons, List.length_nil] at *; omega) | (simp; done) | (simp; omega))⟩
      · obtain ⟨k1, k2, k3⟩ := tt_ok hbad g5 g6
        simp only [hbad, Bool.false_eq_true, if_false, pbind_inl, Option.bind_some]
        rcases hP (((c.length : Int) - (i' + 1)).toNat) (by omega) (i' + 1) (n' + 1) (tt t' 85) s l' l2' ⟨by omega, by omega, c1, by omega, k1, k2, k3, s0, s1, by omega, by omega⟩ (Nat.le_refl _) with
          ⟨a2, b2, i2, n2, t2, l3, l4, w1, w2, w3, w4, w5, w6, w7, w8, w9, w10, w11, w12⟩ | ⟨cd, pl, b2, i2, n2, t2, l4, w1, w2, w3, w4, w5, w6, w7⟩
        · simp only [w1, w2, pbind_inl, Option.bind_some]
          rw [p_put (by omega), r_put (by omega)]
          simp only [Option.bind_some]
          exact .inl ⟨_, _, _, _, _, _, _, rfl, rfl, by omega, w4, by omega, w6, w7, w8, by omega, by (first | omega | (simp only [List.length_append, List.length_cons, List.length_nil] at *; omega) | (simp; done) | (simp; omega)), by (first | omega | (simp only [List.length_append, List.length_cons, List.length_nil] at *; omega) | (simp; done) | (simp; omega)), by (first | omega | (simp only [List.length_append, List.length_cons, List.length_nil] at *; omega) | (simp; done) | (simp; omega))⟩
        · simp only [w1, w2, pbind_inr, Option.bind_some]
          rw [r_put (by omega)]
          simp only [Option.bind_some]
          exact .inr ⟨cd, pl, _, _, _, _, _, rfl, rfl, w3, w4, w5, w6, by (first | omega | (simp only [List.length_append, List.length_cons, List.length_nil] at *; omega) | (simp; done) | (simp; omega))⟩
    · by_cases h82 : nowT c i' = 82
      · have hlt : i' < c.length := now_lt (by rw [h82]; decide)
        have e85 : ¬ (82 : Int) = 85 := by decide
        simp only [h82, e85, Option.bind_some, decide_true, not_true_eq_false, not_false_eq_true, decide_false, Bool.not_true, Bool.false_eq_true, if_true, if_false]
        unfold r8_Reader_part_J5
        rw [p_counted (by omega) hlt c1 ⟨by omega, g4⟩ ⟨g5, g6⟩, r_counted (by omega) hlt c1 ⟨by omega, g4⟩ ⟨g5, g6⟩, h82]
        by_cases hbad : bad n' t' 82 = true
        · simp only [hbad, if_true, pbind_inr, Option.bind_some]
          rw [f_part _ (by decide) (by omega)]
          simp only [Option.bind_some]
          rw [r_put (by omega)]
          simp only [Option.bind_some]
          exact .inr ⟨7, i', _, _, _, _, _, rfl, rfl, by decide, by omega, by omega, by omega, by (first | omega | (simp only [List.length_append, List.length_cons, List.length_nil] at *; omega) | (simp; done) | (simp; omega))⟩
        · obtain ⟨k1, k2, k3⟩ := tt_ok hbad g5 g6
          simp only [hbad, Bool.false_eq_true, if_false, pbind_inl, Option.bind_some]
          rw [p_no (by omega)]
          simp only [Option.bind_some]
          rcases hP (((c.length : Int) - (i' + 1)).toNat) (by omega) (i' + 1) (n' + 1) (tt t' 82) s (l' ++ [(3, a1, 0, ())]) l2' ⟨by omega, by omega, c1, by omega, k1, k2, k3, s0, s1, by (first | omega | (simp only [List.length_append, List.length_cons, List.length_nil] at *; omega) | (simp; done) | (simp; omega)), by omega⟩ (Nat.le_refl _) with
            ⟨a2, b2, i2, n2, t2, l3, l4, w1, w2, w3, w4, w5, w6, w7, w8, w9, w10, w11, w12⟩ | ⟨cd, pl, b2, i2, n2, t2, l4, w1, w2, w3, w4, w5, w6, w7⟩
          · simp only [List.length_append, List.length_cons, List.length_nil] at w11
            simp only [w1, w2, pbind_inl, Option.bind_some]
            rw [p_no (by omega), r_put (by omega)]
            simp only [Option.bind_some]
            rw [p_put (by (first | omega | (simp only [List.length_append, List.length_cons, List.length_nil] at *; omega) | (simp; done) | (simp; omega)))]
            simp only [Option.bind_some]
            rw [p_no (by (first | omega | (simp only [List.length_append, List.length_cons, List.length_nil] at *; omega) | (simp; done) | (simp; omega)))]
            simp only [Option.bind_some]
            exact .inl ⟨_, _, _, _, _, _, _, rfl, rfl, by omega, w4, by omega, w6, w7, w8, by omega, by (first | omega | (simp only [List.length_append, List.length_cons, List.length_nil] at *; omega) | (simp; done) | (simp; omega)), by (first | omega | (simp only [List.length_append, List.length_cons, List.length_nil] at *; omega) | (simp; done) | (simp; omega)), by (first | omega | (simp only [List.length_append, List.length_cons, List.length_nil] at *; omega) | (simp; done) | (simp; omega))⟩
          · simp only [w1, w2, pbind_inr, Option.bind_some]
            rw [r_put (by omega)]
            simp only [Option.bind_some]
            exact .inr ⟨cd, pl, _, _, _, _, _, rfl, rfl, w3, w4, w5, w6, by (first | omega | (simp only [List.length_append, List.length_cons, List.length_nil] at *; omega) | (simp; done) | (simp; omega))⟩
      · simp only [h85, h82, Option.bind_some, decide_true, not_false_eq_true, decide_false, Bool.not_true, Bool.false_eq_true, if_true, if_false]
        exact .inl ⟨a1, b1, i', n', t', l', l2', rfl, rfl, g1, g2, g3, g4, g5, g6, g7, g8, g9, g10⟩
  · simp only [e1, e2, pbind_inr, Option.bind_some]
    rw [r_now g2]
    simp only [Option.bind_some]
    rw [r_ok]
    simp only [Option.bind_some, g1, decide_false, Bool.not_false, if_true]
    exact .inr ⟨cd, pl, _, _, _, _, _, rfl, rfl, g1, g2, g3, g4, g5⟩
theorem one_of {c : List UInt8} {m : Nat} (hO : ∀ m' < m, One c m') (hF : ∀ m' < m, Form c m') : One c m := by
  intro i n t s l l2 hp hm
  obtain ⟨i0, i1, c1, n0, n1, t0, t1, s0, s1, q1, q2⟩ := hp
  by_cases h33 : nowT c i = 33
  · have hlt : i < c.length := now_lt (by rw [h33]; decide)
    have e1 : r8_Reader_one r8_Reader_formula c i n t s 0 0 l2 = (r8_Reader_counted 33 c i n t s 0 0 l2).bind (fun y => (r8_Reader_one r8_Reader_formula y.1 y.2.1 y.2.2.1 y.2.2.2.1 y.2.2.2.2.1 y.2.2.2.2.2.2.1 y.2.2.2.2.2.2.2 y.2.2.2.2.2.1).bind (fun z => (r8_Reader_put 33 z.1 0 z.2.1 z.2.2.1 z.2.2.2.1 z.2.2.2.2.1 z.2.2.2.2.2.1 z.2.2.2.2.2.2.2.1 z.2.2.2.2.2.2.2.2 z.2.2.2.2.2.2.1).bind (fun y => some (y.1, y.2.1, y.2.2.1, y.2.2.2.1, y.2.2.2.2.1, y.2.2.2.2.2.1, y.2.2.2.2.2.2.1, y.2.2.2.2.2.2.2.1, y.2.2.2.2.2.2.2.2)))) := by
      rw [r8_Reader_one_eq]
      unfold r8_Reader_one_B
      rw [r_ok, r_now i0, h33]
      rfl
    rw [e1, time_reader_one_eq]
    unfold time_reader_one_B
    rw [p_now i0 i1, h33]
    simp only [Option.bind_some, Int.reduceEq, decide_true, decide_false, Bool.false_eq_true, if_true, if_false]
    rw [p_counted i0 hlt c1 ⟨n0, n1⟩ ⟨t0, t1⟩, r_counted i0 hlt c1 ⟨n0, n1⟩ ⟨t0, t1⟩, h33]
    by_cases hbad : bad n t 33 = true
    · simp only [hbad, if_true, pbind_inr, Option.bind_some]
      rw [f_one _ (by decide)]
      simp only [Option.bind_some]
      rw [r_put (by omega)]
      simp only [Option.bind_some]
      exact .inr ⟨7, i, _, _, _, _, _, rfl, rfl, by decide, by omega, by omega, by omega, by (first | omega | (simp only [List.length_append, List.length_cons, List.length_nil] at *; omega) | (simp; done) | (simp; omega))⟩
    · obtain ⟨k1, k2, k3⟩ := tt_ok hbad t0 t1
      simp only [hbad, Bool.false_eq_true, if_false, pbind_inl, Option.bind_some]
      rcases hO (((c.length : Int) - (i + 1)).toNat) (by omega) (i + 1) (n + 1) (tt t 33) s l l2 ⟨by omega, by omega, c1, by omega, k1, k2, k3, s0, s1, by omega, by omega⟩ (Nat.le_refl _) with
        ⟨a2, b2, i2, n2, t2, l3, l4, w1, w2, w3, w4, w5, w6, w7, w8, w9, w10, w11, w12⟩ | ⟨cd, pl, b2, i2, n2, t2, l4, w1, w2, w3, w4, w5, w6, w7⟩
      · simp only [w1, w2, pbind_inl, Option.bind_some]
        rw [r_put (by omega)]
        simp only [Option.bind_some]
        rw [p_no (by (first | omega | (simp only [List.length_append, List.length_cons, List.length_nil] at *; omega) | (simp; done) | (simp; omega)))]
        simp only [Option.bind_some]
        exact .inl ⟨_, _, _, _, _, _, _, rfl, rfl, by omega, w4, by omega, w6, w7, w8, by omega, by (first | omega | (simp only [List.length_append, List.length_cons, List.length_nil] at *; omega) | (simp; done) | (simp; omega)), by (first | omega | (simp only [List.length_append, List.length_cons, List.length_nil] at *; omega) | (simp; done) | (simp; omega)), by (first | omega | (simp only [List.length_append, List.length_cons, List.length_nil] at *; omega) | (simp; done) | (simp; omega))⟩
      · simp only [w1, w2, pbind_inr, Option.bind_some]
        rw [r_put (by omega)]
        simp only [Option.bind_some]
        exact .inr ⟨cd, pl, _, _, _, _, _, rfl, rfl, w3, w4, w5, w6, by (first | omega | (simp only [List.length_append, List.length_cons, List.length_nil] at *; omega) | (simp; done) | (simp; omega))⟩
  by_cases h88 : nowT c i = 88
  · have hlt : i < c.length := now_lt (by rw [h88]; decide)
    have e1 : r8_Reader_one r8_Reader_formula c i n t s 0 0 l2 = (r8_Reader_counted 88 c i n t s 0 0 l2).bind (fun y => (r8_Reader_one r8_Reader_formula y.1 y.2.1 y.2.2.1 y.2.2.2.1 y.2.2.2.2.1 y.2.2.2.2.2.2.1 y.2.2.2.2.2.2.2 y.2.2.2.2.2.1).bind (fun z => (r8_Reader_put 88 z.1 0 z.2.1 z.2.2.1 z.2.2.2.1 z.2.2.2.2.1 z.2.2.2.2.2.1 z.2.2.2.2.2.2.2.1 z.2.2.2.2.2.2.2.2 z.2.2.2.2.2.2.1).bind (fun y => some (y.1, y.2.1, y.2.2.1, y.2.2.2.1, y.2.2.2.2.1, y.2.2.2.2.2.1, y.2.2.2.2.2.2.1, y.2.2.2.2.2.2.2.1, y.2.2.2.2.2.2.2.2)))) := by
      rw [r8_Reader_one_eq]
      unfold r8_Reader_one_B
      rw [r_ok, r_now i0, h88]
      rfl
    rw [e1, time_reader_one_eq]
    unfold time_reader_one_B
    rw [p_now i0 i1, h88]
    simp only [Option.bind_some, Int.reduceEq, decide_true, decide_false, Bool.false_eq_true, if_true, if_false]
    rw [p_counted i0 hlt c1 ⟨n0, n1⟩ ⟨t0, t1⟩, r_counted i0 hlt c1 ⟨n0, n1⟩ ⟨t0, t1⟩, h88]
    by_cases hbad : bad n t 88 = true
    · simp only [hbad, if_true, pbind_inr, Option.bind_some]
      rw [f_one _ (by decide)]
      simp only [Option.bind_some]
      rw [r_put (by omega)]
      simp only [Option.bind_some]
      exact .inr ⟨7, i, _, _, _, _, _, rfl, rfl, by decide, by omega, by omega, by omega, by (first | omega | (simp only [List.length_append, List.length_cons, List.length_nil] at *; omega) | (simp; done) | (simp; omega))⟩
    · obtain ⟨k1, k2, k3⟩ := tt_ok hbad t0 t1
      simp only [hbad, Bool.false_eq_true, if_false, pbind_inl, Option.bind_some]
      rcases hO (((c.length : Int) - (i + 1)).toNat) (by omega) (i + 1) (n + 1) (tt t 88) s l l2 ⟨by omega, by omega, c1, by omega, k1, k2, k3, s0, s1, by omega, by omega⟩ (Nat.le_refl _) with
        ⟨a2, b2, i2, n2, t2, l3, l4, w1, w2, w3, w4, w5, w6, w7, w8, w9, w10, w11, w12⟩ | ⟨cd, pl, b2, i2, n2, t2, l4, w1, w2, w3, w4, w5, w6, w7⟩
      · simp only [w1, w2, pbind_inl, Option.bind_some]
        rw [r_put (by omega)]
        simp only [Option.bind_some]
        rw [p_put (by (first | omega | (simp only [List.length_append, List.length_cons, List.length_nil] at *; omega) | (simp; done) | (simp; omega)))]
        simp only [Option.bind_some]
        exact .inl ⟨_, _, _, _, _, _, _, rfl, rfl, by omega, w4, by omega, w6, w7, w8, by omega, by (first | omega | (simp only [List.length_append, List.length_cons, List.length_nil] at *; omega) | (simp; done) | (simp; omega)), by (first | omega | (simp only [List.length_append, List.length_cons, List.length_nil] at *; omega) | (simp; done) | (simp; omega)), by (first | omega | (simp only [List.length_append, List.length_cons, List.length_nil] at *; omega) | (simp; done) | (simp; omega))⟩
      · simp only [w1, w2, pbind_inr, Option.bind_some]
        rw [r_put (by omega)]
        simp only [Option.bind_some]
        exact .inr ⟨cd, pl, _, _, _, _, _, rfl, rfl, w3, w4, w5, w6, by (first | omega | (simp only [List.length_append, List.length_cons, List.length_nil] at *; omega) | (simp; done) | (simp; omega))⟩
  by_cases h70 : nowT c i = 70
  · have hlt : i < c.length := now_lt (by rw [h70]; decide)
    have e1 : r8_Reader_one r8_Reader_formula c i n t s 0 0 l2 = (r8_Reader_counted 70 c i n t s 0 0 l2).bind (fun y => (r8_Reader_one r8_Reader_formula y.1 y.2.1 y.2.2.1 y.2.2.2.1 y.2.2.2.2.1 y.2.2.2.2.2.2.1 y.2.2.2.2.2.2.2 y.2.2.2.2.2.1).bind (fun z => (r8_Reader_put 70 z.1 0 z.2.1 z.2.2.1 z.2.2.2.1 z.2.2.2.2.1 z.2.2.2.2.2.1 z.2.2.2.2.2.2.2.1 z.2.2.2.2.2.2.2.2 z.2.2.2.2.2.2.1).bind (fun y => some (y.1, y.2.1, y.2.2.1, y.2.2.2.1, y.2.2.2.2.1, y.2.2.2.2.2.1, y.2.2.2.2.2.2.1, y.2.2.2.2.2.2.2.1, y.2.2.2.2.2.2.2.2)))) := by
      rw [r8_Reader_one_eq]
      unfold r8_Reader_one_B
      rw [r_ok, r_now i0, h70]
      rfl
    rw [e1, time_reader_one_eq]
    unfold time_reader_one_B
    rw [p_now i0 i1, h70]
    simp only [Option.bind_some, Int.reduceEq, decide_true, decide_false, Bool.false_eq_true, if_true, if_false]
    rw [p_counted i0 hlt c1 ⟨n0, n1⟩ ⟨t0, t1⟩, r_counted i0 hlt c1 ⟨n0, n1⟩ ⟨t0, t1⟩, h70]
    by_cases hbad : bad n t 70 = true
    · simp only [hbad, if_true, pbind_inr, Option.bind_some]
      rw [f_one _ (by decide)]
      simp only [Option.bind_some]
      rw [r_put (by omega)]
      simp only [Option.bind_some]
      exact .inr ⟨7, i, _, _, _, _, _, rfl, rfl, by decide, by omega, by omega, by omega, by (first | omega | (simp only [List.length_append, List.length_cons, List.length_nil] at *; omega) | (simp; done) | (simp; omega))⟩
    · obtain ⟨k1, k2, k3⟩ := tt_ok hbad t0 t1
      simp only [hbad, Bool.false_eq_true, if_false, pbind_inl, Option.bind_some]
      obtain ⟨l1, z1, z2⟩ := p_always (c := c) (i := i + 1) (n := n + 1) (t := tt t 70) (s := s) (l := l) (by omega)
      rw [z1]
      simp only [Option.bind_some]
      rcases hO (((c.length : Int) - (i + 1)).toNat) (by omega) (i + 1) (n + 1) (tt t 70) s l1 l2 ⟨by omega, by omega, c1, by omega, k1, k2, k3, s0, s1, by omega, by omega⟩ (Nat.le_refl _) with
        ⟨a2, b2, i2, n2, t2, l3, l4, w1, w2, w3, w4, w5, w6, w7, w8, w9, w10, w11, w12⟩ | ⟨cd, pl, b2, i2, n2, t2, l4, w1, w2, w3, w4, w5, w6, w7⟩
      · simp only [w1, w2, pbind_inl, Option.bind_some]
        rw [r_put (by omega)]
        simp only [Option.bind_some]
        rw [p_put (by (first | omega | (simp only [List.length_append, List.length_cons, List.length_nil] at *; omega) | (simp; done) | (simp; omega)))]
        simp only [Option.bind_some]
        exact .inl ⟨_, _, _, _, _, _, _, rfl, rfl, by omega, w4, by omega, w6, w7, w8, by omega, by (first | omega | (simp only [List.length_append, List.length_cons, List.length_nil] at *; omega) | (simp; done) | (simp; omega)), by (first | omega | (simp only [List.length_append, List.length_cons, List.length_nil] at *; omega) | (simp; done) | (simp; omega)), by (first | omega | (simp only [List.length_append, List.length_cons, List.length_nil] at *; omega) | (simp; done) | (simp; omega))⟩
      · simp only [w1, w2, pbind_inr, Option.bind_some]
        rw [r_put (by omega)]
        simp only [Option.bind_some]
        exact .inr ⟨cd, pl, _, _, _, _, _, rfl, rfl, w3, w4, w5, w6, by (first | omega | (simp only [List.length_append, List.length_cons, List.length_nil] at *; omega) | (simp; done) | (simp; omega))⟩
  by_cases h71 : nowT c i = 71
  · have hlt : i < c.length := now_lt (by rw [h71]; decide)
    have e1 : r8_Reader_one r8_Reader_formula c i n t s 0 0 l2 = (r8_Reader_counted 71 c i n t s 0 0 l2).bind (fun y => (r8_Reader_one r8_Reader_formula y.1 y.2.1 y.2.2.1 y.2.2.2.1 y.2.2.2.2.1 y.2.2.2.2.2.2.1 y.2.2.2.2.2.2.2 y.2.2.2.2.2.1).bind (fun z => (r8_Reader_put 71 z.1 0 z.2.1 z.2.2.1 z.2.2.2.1 z.2.2.2.2.1 z.2.2.2.2.2.1 z.2.2.2.2.2.2.2.1 z.2.2.2.2.2.2.2.2 z.2.2.2.2.2.2.1).bind (fun y => some (y.1, y.2.1, y.2.2.1, y.2.2.2.1, y.2.2.2.2.1, y.2.2.2.2.2.1, y.2.2.2.2.2.2.1, y.2.2.2.2.2.2.2.1, y.2.2.2.2.2.2.2.2)))) := by
      rw [r8_Reader_one_eq]
      unfold r8_Reader_one_B
      rw [r_ok, r_now i0, h71]
      rfl
    rw [e1, time_reader_one_eq]
    unfold time_reader_one_B
    rw [p_now i0 i1, h71]
    simp only [Option.bind_some, Int.reduceEq, decide_true, decide_false, Bool.false_eq_true, if_true, if_false]
    rw [p_counted i0 hlt c1 ⟨n0, n1⟩ ⟨t0, t1⟩, r_counted i0 hlt c1 ⟨n0, n1⟩ ⟨t0, t1⟩, h71]
    by_cases hbad : bad n t 71 = true
    · simp only [hbad, if_true, pbind_inr, Option.bind_some]
      rw [f_one _ (by decide)]
      simp only [Option.bind_some]
      rw [r_put (by omega)]
      simp only [Option.bind_some]
      exact .inr ⟨7, i, _, _, _, _, _, rfl, rfl, by decide, by omega, by omega, by omega, by (first | omega | (simp only [List.length_append, List.length_cons, List.length_nil] at *; omega) | (simp; done) | (simp; omega))⟩
    · obtain ⟨k1, k2, k3⟩ := tt_ok hbad t0 t1
      simp only [hbad, Bool.false_eq_true, if_false, pbind_inl, Option.bind_some]
      obtain ⟨l1, z1, z2⟩ := p_always (c := c) (i := i + 1) (n := n + 1) (t := tt t 71) (s := s) (l := l) (by omega)
      rw [z1]
      simp only [Option.bind_some]
      rcases hO (((c.length : Int) - (i + 1)).toNat) (by omega) (i + 1) (n + 1) (tt t 71) s l1 l2 ⟨by omega, by omega, c1, by omega, k1, k2, k3, s0, s1, by omega, by omega⟩ (Nat.le_refl _) with
        ⟨a2, b2, i2, n2, t2, l3, l4, w1, w2, w3, w4, w5, w6, w7, w8, w9, w10, w11, w12⟩ | ⟨cd, pl, b2, i2, n2, t2, l4, w1, w2, w3, w4, w5, w6, w7⟩
      · simp only [w1, w2, pbind_inl, Option.bind_some]
        rw [r_put (by omega)]
        simp only [Option.bind_some]
        rw [p_no (by (first | omega | (simp only [List.length_append, List.length_cons, List.length_nil] at *; omega) | (simp; done) | (simp; omega)))]
        simp only [Option.bind_some]
        rw [p_put (by (first | omega | (simp only [List.length_append, List.length_cons, List.length_nil] at *; omega) | (simp; done) | (simp; omega)))]
        simp only [Option.bind_some]
        rw [p_no (by (first | omega | (simp only [List.length_append, List.length_cons, List.length_nil] at *; omega) | (simp; done) | (simp; omega)))]
        simp only [Option.bind_some]
        exact .inl ⟨_, _, _, _, _, _, _, rfl, rfl, by omega, w4, by omega, w6, w7, w8, by omega, by (first | omega | (simp only [List.length_append, List.length_cons, List.length_nil] at *; omega) | (simp; done) | (simp; omega)), by (first | omega | (simp only [List.length_append, List.length_cons, List.length_nil] at *; omega) | (simp; done) | (simp; omega)), by (first | omega | (simp only [List.length_append, List.length_cons, List.length_nil] at *; omega) | (simp; done) | (simp; omega))⟩
      · simp only [w1, w2, pbind_inr, Option.bind_some]
        rw [r_put (by omega)]
        simp only [Option.bind_some]
        exact .inr ⟨cd, pl, _, _, _, _, _, rfl, rfl, w3, w4, w5, w6, by (first | omega | (simp only [List.length_append, List.length_cons, List.length_nil] at *; omega) | (simp; done) | (simp; omega))⟩
  by_cases h40 : nowT c i = 40
  · have hlt : i < c.length := now_lt (by rw [h40]; decide)
    rw [r8_Reader_one_eq, time_reader_one_eq]
    unfold time_reader_one_B r8_Reader_one_B
    rw [p_now i0 i1, r_ok, r_now i0, h40]
    simp only [Option.bind_some, Int.reduceEq, decide_true, decide_false, Bool.not_true, Bool.false_eq_true, if_true, if_false]
    unfold r8_Reader_one_J9
    simp only [Int.reduceEq, decide_true, decide_false, Bool.false_eq_true, if_true, if_false]
    unfold r8_Reader_one_J16
    simp only [Int.reduceEq, not_true_eq_false, decide_true, decide_false, Bool.false_eq_true, if_true, if_false]
    by_cases hs : s = 40
    · subst hs
      simp only [decide_true, if_true, p_fail, pbind_inr, r_fail, Option.bind_some]
      exact .inr ⟨7, i, _, _, _, _, _, rfl, rfl, by decide, by omega, by omega, by omega, by omega⟩
    · simp only [hs, decide_false, Bool.false_eq_true, if_false]
      unfold time_reader_one_J19
      rw [G_pos (fits_of (by omega) (by omega)), G_pos (fits_of (by omega) (by omega)), G_pos (fits_of (by omega) (by omega)), G_pos (fits_of (by omega) (by omega))]
      have es : s + 1 - 1 = s := by omega
      have fs : fits (s + 1 - 1) := fits_of (by omega) (by omega)
      rcases hF (((c.length : Int) - (i + 1)).toNat) (by omega) (i + 1) n t (s + 1) l l2 ⟨by omega, by omega, c1, by omega, n1, t0, t1, by omega, by omega, by omega, by omega⟩ (Nat.le_refl _) with
        ⟨a2, b2, i2, n2, t2, l3, l4, w1, w2, w3, w4, w5, w6, w7, w8, w9, w10, w11, w12⟩ | ⟨cd, pl, b2, i2, n2, t2, l4, w1, w2, w3, w4, w5, w6, w7⟩
      · simp only [w1, w2, pbind_inl, Option.bind_some]
        rw [p_now (by omega) w4, r_now (by omega)]
        simp only [Option.bind_some]
        have fi : fits (i2 + 1) := fits_of (by omega) (by omega)
        by_cases h41 : nowT c i2 = 41
        · have hlt2 : i2 < c.length := now_lt (by rw [h41]; decide)
          simp only [h41, not_true_eq_false, decide_false, Bool.false_eq_true, if_false]
          unfold time_reader_one_J24
          rw [G_pos fi, G_pos fs, G_pos fi, G_pos fs, es]
          exact .inl ⟨_, _, _, _, _, _, _, rfl, rfl, by omega, by omega, by omega, w6, w7, w8, w9, w10, w11, w12⟩
        · simp only [h41, not_false_eq_true, decide_true, if_true, p_fail, pbind_inr, r_fail, Option.bind_some]
          rw [G_pos fi, G_pos fs, es]
          exact .inr ⟨4, i2, _, _, _, _, _, rfl, rfl, by decide, by omega, by omega, by omega, by omega⟩
      · simp only [w1, w2, pbind_inr, Option.bind_some]
        rw [r_now w4]
        simp only [Option.bind_some]
        have fi : fits (i2 + 1) := fits_of (by omega) (by omega)
        by_cases h41 : nowT c i2 = 41
        · simp only [h41, not_true_eq_false, decide_false, Bool.false_eq_true, if_false]
          rw [G_pos fi, G_pos fs, es]
          exact .inr ⟨cd, pl, _, _, _, _, _, rfl, rfl, w3, by omega, by omega, w6, w7⟩
        · simp only [h41, not_false_eq_true, decide_true, if_true, r_fail, w3, if_false, Option.bind_some]
          rw [G_pos fi, G_pos fs, es]
          exact .inr ⟨cd, pl, _, _, _, _, _, rfl, rfl, w3, by omega, by omega, w6, w7⟩
  by_cases h112 : nowT c i = 112
  · have hlt : i < c.length := now_lt (by rw [h112]; decide)
    have e1 : r8_Reader_one r8_Reader_formula c i n t s 0 0 l2 = (r8_Reader_counted 112 c i n t s 0 0 l2).bind (fun z => (r8_Reader_put 112 0 0 z.1 z.2.1 z.2.2.1 z.2.2.2.1 z.2.2.2.2.1 z.2.2.2.2.2.2.1 z.2.2.2.2.2.2.2 z.2.2.2.2.2.1).bind (fun y => some (y.1, y.2.1, y.2.2.1, y.2.2.2.1, y.2.2.2.2.1, y.2.2.2.2.2.1, y.2.2.2.2.2.2.1, y.2.2.2.2.2.2.2.1, y.2.2.2.2.2.2.2.2))) := by
      rw [r8_Reader_one_eq]
      unfold r8_Reader_one_B
      rw [r_ok, r_now i0, h112]
      rfl
    rw [e1, time_reader_one_eq]
    unfold time_reader_one_B
    rw [p_now i0 i1, h112]
    simp only [Option.bind_some, Int.reduceEq, decide_true, decide_false, Bool.false_eq_true, if_true, if_false]
    rw [p_counted i0 hlt c1 ⟨n0, n1⟩ ⟨t0, t1⟩, r_counted i0 hlt c1 ⟨n0, n1⟩ ⟨t0, t1⟩, h112]
    by_cases hbad : bad n t 112 = true
    · simp only [hbad, if_true, pbind_inr, Option.bind_some]
      rw [r_put (by omega)]
      simp only [Option.bind_some]
      exact .inr ⟨7, i, _, _, _, _, _, rfl, rfl, by decide, by omega, by omega, by omega, by (first | omega | (simp only [List.length_append, List.length_cons, List.length_nil] at *; omega) | (simp; done) | (simp; omega))⟩
    · obtain ⟨k1, k2, k3⟩ := tt_ok hbad t0 t1
      simp only [hbad, Bool.false_eq_true, if_false, pbind_inl, Option.bind_some]
      rw [p_put (by omega), r_put (by omega)]
      simp only [Option.bind_some]
      exact .inl ⟨_, _, _, _, _, _, _, rfl, rfl, by omega, by omega, by omega, k1, k2, k3, by omega, by (first | omega | (simp only [List.length_append, List.length_cons, List.length_nil] at *; omega) | (simp; done) | (simp; omega)), by (first | omega | (simp only [List.length_append, List.length_cons, List.length_nil] at *; omega) | (simp; done) | (simp; omega)), by (first | omega | (simp only [List.length_append, List.length_cons, List.length_nil] at *; omega) | (simp; done) | (simp; omega))⟩
  by_cases h113 : nowT c i = 113
  · have hlt : i < c.length := now_lt (by rw [h113]; decide)
    have e1 : r8_Reader_one r8_Reader_formula c i n t s 0 0 l2 = (r8_Reader_counted 113 c i n t s 0 0 l2).bind (fun z => (r8_Reader_put 113 0 0 z.1 z.2.1 z.2.2.1 z.2.2.2.1 z.2.2.2.2.1 z.2.2.2.2.2.2.1 z.2.2.2.2.2.2.2 z.2.2.2.2.2.1).bind (fun y => some (y.1, y.2.1, y.2.2.1, y.2.2.2.1, y.2.2.2.2.1, y.2.2.2.2.2.1, y.2.2.2.2.2.2.1, y.2.2.2.2.2.2.2.1, y.2.2.2.2.2.2.2.2))) := by
      rw [r8_Reader_one_eq]
      unfold r8_Reader_one_B
      rw [r_ok, r_now i0, h113]
      rfl
    rw [e1, time_reader_one_eq]
    unfold time_reader_one_B
    rw [p_now i0 i1, h113]
    simp only [Option.bind_some, Int.reduceEq, decide_true, decide_false, Bool.false_eq_true, if_true, if_false]
    rw [p_counted i0 hlt c1 ⟨n0, n1⟩ ⟨t0, t1⟩, r_counted i0 hlt c1 ⟨n0, n1⟩ ⟨t0, t1⟩, h113]
    by_cases hbad : bad n t 113 = true
    · simp only [hbad, if_true, pbind_inr, Option.bind_some]
      rw [r_put (by omega)]
      simp only [Option.bind_some]
      exact .inr ⟨7, i, _, _, _, _, _, rfl, rfl, by decide, by omega, by omega, by omega, by (first | omega | (simp only [List.length_append, List.length_cons, List.length_nil] at *; omega) | (simp; done) | (simp; omega))⟩
    · obtain ⟨k1, k2, k3⟩ := tt_ok hbad t0 t1
      simp only [hbad, Bool.false_eq_true, if_false, pbind_inl, Option.bind_some]
      rw [p_put (by omega), r_put (by omega)]
      simp only [Option.bind_some]
      exact .inl ⟨_, _, _, _, _, _, _, rfl, rfl, by omega, by omega, by omega, k1, k2, k3, by omega, by (first | omega | (simp only [List.length_append, List.length_cons, List.length_nil] at *; omega) | (simp; done) | (simp; omega)), by (first | omega | (simp only [List.length_append, List.length_cons, List.length_nil] at *; omega) | (simp; done) | (simp; omega)), by (first | omega | (simp only [List.length_append, List.length_cons, List.length_nil] at *; omega) | (simp; done) | (simp; omega))⟩
  by_cases h48 : nowT c i = 48
  · have hlt : i < c.length := now_lt (by rw [h48]; decide)
    have e1 : r8_Reader_one r8_Reader_formula c i n t s 0 0 l2 = (r8_Reader_counted 48 c i n t s 0 0 l2).bind (fun z => (r8_Reader_put 48 0 0 z.1 z.2.1 z.2.2.1 z.2.2.2.1 z.2.2.2.2.1 z.2.2.2.2.2.2.1 z.2.2.2.2.2.2.2 z.2.2.2.2.2.1).bind (fun y => some (y.1, y.2.1, y.2.2.1, y.2.2.2.1, y.2.2.2.2.1, y.2.2.2.2.2.1, y.2.2.2.2.2.2.1, y.2.2.2.2.2.2.2.1, y.2.2.2.2.2.2.2.2))) := by
      rw [r8_Reader_one_eq]
      unfold r8_Reader_one_B
      rw [r_ok, r_now i0, h48]
      rfl
    rw [e1, time_reader_one_eq]
    unfold time_reader_one_B
    rw [p_now i0 i1, h48]
    simp only [Option.bind_some, Int.reduceEq, decide_true, decide_false, Bool.false_eq_true, if_true, if_false]
    rw [p_counted i0 hlt c1 ⟨n0, n1⟩ ⟨t0, t1⟩, r_counted i0 hlt c1 ⟨n0, n1⟩ ⟨t0, t1⟩, h48]
    by_cases hbad : bad n t 48 = true
    · simp only [hbad, if_true, pbind_inr, Option.bind_some]
      rw [r_put (by omega)]
      simp only [Option.bind_some]
      exact .inr ⟨7, i, _, _, _, _, _, rfl, rfl, by decide, by omega, by omega, by omega, by (first | omega | (simp only [List.length_append, List.length_cons, List.length_nil] at *; omega) | (simp; done) | (simp; omega))⟩
    · obtain ⟨k1, k2, k3⟩ := tt_ok hbad t0 t1
      simp only [hbad, Bool.false_eq_true, if_false, pbind_inl, Option.bind_some]
      rw [p_put (by omega), r_put (by omega)]
      simp only [Option.bind_some]
      exact .inl ⟨_, _, _, _, _, _, _, rfl, rfl, by omega, by omega, by omega, k1, k2, k3, by omega, by (first | omega | (simp only [List.length_append, List.length_cons, List.length_nil] at *; omega) | (simp; done) | (simp; omega)), by (first | omega | (simp only [List.length_append, List.length_cons, List.length_nil] at *; omega) | (simp; done) | (simp; omega)), by (first | omega | (simp only [List.length_append, List.length_cons, List.length_nil] at *; omega) | (simp; done) | (simp; omega))⟩
  by_cases h49 : nowT c i = 49
  · have hlt : i < c.length := now_lt (by rw [h49]; decide)
    have e1 : r8_Reader_one r8_Reader_formula c i n t s 0 0 l2 = (r8_Reader_counted 49 c i n t s 0 0 l2).bind (fun z => (r8_Reader_put 49 0 0 z.1 z.2.1 z.2.2.1 z.2.2.2.1 z.2.2.2.2.1 z.2.2.2.2.2.2.1 z.2.2.2.2.2.2.2 z.2.2.2.2.2.1).bind (fun y => some (y.1, y.2.1, y.2.2.1, y.2.2.2.1, y.2.2.2.2.1, y.2.2.2.2.2.1, y.2.2.2.2.2.2.1, y.2.2.2.2.2.2.2.1, y.2.2.2.2.2.2.2.2))) := by
      rw [r8_Reader_one_eq]
      unfold r8_Reader_one_B
      rw [r_ok, r_now i0, h49]
      rfl
    rw [e1, time_reader_one_eq]
    unfold time_reader_one_B
    rw [p_now i0 i1, h49]
    simp only [Option.bind_some, Int.reduceEq, decide_true, decide_false, Bool.false_eq_true, if_true, if_false]
    rw [p_counted i0 hlt c1 ⟨n0, n1⟩ ⟨t0, t1⟩, r_counted i0 hlt c1 ⟨n0, n1⟩ ⟨t0, t1⟩, h49]
    by_cases hbad : bad n t 49 = true
    · simp only [hbad, if_true, pbind_inr, Option.bind_some]
      rw [r_put (by omega)]
      simp only [Option.bind_some]
      exact .inr ⟨7, i, _, _, _, _, _, rfl, rfl, by decide, by omega, by omega, by omega, by (first | omega | (simp only [List.length_append, List.length_cons, List.length_nil] at *; omega) | (simp; done) | (simp; omega))⟩
    · obtain ⟨k1, k2, k3⟩ := tt_ok hbad t0 t1
      simp only [hbad, Bool.false_eq_true, if_false, pbind_inl, Option.bind_some]
      obtain ⟨l1, z1, z2⟩ := p_always (c := c) (i := i + 1) (n := n + 1) (t := tt t 49) (s := s) (l := l) (by omega)
      rw [z1, r_put (by omega)]
      simp only [Option.bind_some]
      exact .inl ⟨_, _, _, _, _, _, _, rfl, rfl, by omega, by omega, by omega, k1, k2, k3, by omega, by (first | omega | (simp only [List.length_append, List.length_cons, List.length_nil] at *; omega) | (simp; done) | (simp; omega)), by (first | omega | (simp only [List.length_append, List.length_cons, List.length_nil] at *; omega) | (simp; done) | (simp; omega)), by (first | omega | (simp only [List.length_append, List.length_cons, List.length_nil] at *; omega) | (simp; done) | (simp; omega))⟩
  rw [r8_Reader_one_eq, time_reader_one_eq]
  unfold time_reader_one_B r8_Reader_one_B
  rw [p_now i0 i1, r_ok, r_now i0]
  simp only [h33, h88, h70, h71, h40, h112, h113, h48, h49, Option.bind_some, Int.reduceEq, decide_true, decide_false, Bool.not_true, Bool.false_eq_true, if_true, if_false]
  unfold r8_Reader_one_J9
  simp only [h33, h88, h70, h71, h40, h112, h113, h48, h49, decide_true, decide_false, Bool.false_eq_true, if_true, if_false]
  unfold r8_Reader_one_J16
  simp only [h40, not_false_eq_true, decide_true, Bool.false_eq_true, if_true, if_false, p_fail, pbind_inr, r_fail, Option.bind_some]
  exact .inr ⟨4, i, _, _, _, _, _, rfl, rfl, by decide, by omega, by omega, by omega, by omega⟩
theorem all_of {c : List UInt8} : ∀ m : Nat, One c m ∧ Part c m ∧ Term c m ∧ Form c m := by
  intro m
  induction m using Nat.strongRecOn with
  | ind m ih =>
    have hO : One c m := one_of (fun m' h => (ih m' h).1) (fun m' h => (ih m' h).2.2.2)
    have hP : Part c m := part_of hO (fun m' h => (ih m' h).2.1)
    have hT : Term c m := term_of fun m' h => by
      rcases Nat.lt_or_eq_of_le h with h | rfl
      · exact (ih m' h).2.1
      · exact hP
    have hF : Form c m := form_of fun m' h => by
      rcases Nat.lt_or_eq_of_le h with h | rfl
      · exact (ih m' h).2.2.1
      · exact hT
    exact ⟨hO, hP, hT, hF⟩
theorem eqB_self' (f a : Int) : eqB (f, (a, ())) (f, (a, ())) = true := by simp [eqB]
theorem law_true (c : List UInt8) : law_TimeReads c = some true := by
  unfold law_TimeReads time_Check time_parsed r8_Parse
  by_cases hc : (4000 : Int) < c.length
  · simp only [hc, decide_true, if_true, Option.bind_some, eqB_self']
  · simp only [hc, decide_false, Bool.false_eq_true, if_false]
    rcases (all_of (c := c) (((c.length : Int) - 0).toNat)).2.2.2 0 0 0 0 [] [] ⟨by omega, by omega, by omega, by omega, by omega, by omega, by omega, by omega, by omega, by simp, by simp⟩ (Nat.le_refl _) with
      ⟨a2, b2, i2, n2, t2, l3, l4, w1, w2, w3, w4, w5, w6, w7, w8, w9, w10, w11, w12⟩ | ⟨cd, pl, b2, i2, n2, t2, l4, w1, w2, w3, w4, w5, w6, w7⟩
    · simp only [w1, w2, pbind_inl, Option.bind_some]
      by_cases hi : i2 < (c.length : Int)
      · simp only [hi, decide_true, if_true, p_fail, pbind_inr, r_fail, Option.bind_some, Int.reduceEq, not_false_eq_true, eqB_self']
      · simp only [hi, decide_false, Bool.false_eq_true, if_false, not_true_eq_false, Option.bind_some]
        rw [G_pos (fits_of (by simp at w11; omega) (by simp at w11; omega)), G_pos ⟨by omega, by omega⟩]
        simp only [Option.bind_some, eqB_self']
    · simp only [w1, w2, pbind_inr, Option.bind_some]
      by_cases hi : i2 < (c.length : Int)
      · simp only [hi, decide_true, if_true, r_fail, w3, if_false, not_false_eq_true, Option.bind_some, eqB_self']
      · simp only [hi, decide_false, Bool.false_eq_true, if_false, w3, not_false_eq_true, decide_true, if_true, Option.bind_some, eqB_self']

end Go.Proofs.Ytdobpnnpfehjnaa.timeReadsW
