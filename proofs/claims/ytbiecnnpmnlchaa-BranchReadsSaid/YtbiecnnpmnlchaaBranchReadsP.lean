/- The law 'BranchReads' of the plain functions. -/
import Derived.Test.YtbiecnnpmnlchaaBranchReadsD
set_option maxHeartbeats 1000000
set_option maxRecDepth 20000
set_option linter.unusedSimpArgs false
set_option linter.unusedVariables false
set_option linter.unusedSectionVars false
namespace Go.Proofs.Ytbiecnnpmnlchaa.branchReadsW
open Go Go.Ab
abbrev ND := Int × Bool × Int × Unit
abbrev L5 := List (Int × Bool × Int × Int × Int × Unit)
def nowT (c : List UInt8) (i : Int) : Int := if i < c.length then bAt c i else 0
theorem now_lt {c : List UInt8} {i : Int} (h : nowT c i ≠ 0) : i < c.length := by
  unfold nowT at h
  by_cases h1 : i < c.length
  · exact h1
  · rw [if_neg h1] at h; exact absurd rfl h
section
variable {c : List UInt8} {i n s f a : Int} {l : L5}
theorem p_now (h0 : 0 ≤ i) : branch_reader_now (c, (i, (s, (n, ())))) = some (nowT c i) := by
  unfold branch_reader_now nowT
  by_cases h : i < (c.length : Int)
  · rw [if_pos (by simp [h]), G_pos ⟨h0, h⟩, if_pos h]
  · simp [h]
theorem p_fail {k : Int} : branch_reader_fail (c, (i, (s, (n, ())))) k = some (.inr (k, i)) := rfl
theorem r_now (h0 : 0 ≤ i) : r35_Reader_now (c, (i, (s, (n, (l, ((f, (a, ())), ())))))) = some (nowT c i) := by
  unfold r35_Reader_now nowT
  by_cases h : (c.length : Int) ≤ i
  · have : ¬ i < (c.length : Int) := by omega
    simp [h, this]
  · have h2 : i < c.length := by omega
    simp only [h, decide_false, Bool.false_eq_true, if_false, if_pos h2]
    exact G_pos ⟨h0, h2⟩
theorem r_ok : r35_Reader_ok (c, (i, (s, (n, (l, ((f, (a, ())), ())))))) = some (decide (f = 0)) := rfl
theorem r_fail {k : Int} : r35_Reader_fail k c i s n f a l = if f = 0 then some (c, i, s, n, l, k, i) else some (c, i, s, n, l, f, a) := by
  unfold r35_Reader_fail
  by_cases h : f = 0 <;> simp [h]
theorem p_counted (h0 : 0 ≤ i) (h1 : i ≤ c.length) (hc : c.length ≤ 4000) (hn : 0 ≤ n ∧ n ≤ 30) :
    branch_reader_counted c i s n = if 30 < n + 1 then some (.inr (7, i)) else some (.inl (c, i + 1, s, n + 1)) := by
  unfold branch_reader_counted
  rw [G_pos (fits_of (by omega) (by omega))]
  by_cases h : (30 : Int) < n + 1
  · simp [h, p_fail, pbind_inr]
  · simp only [h, decide_false, Bool.false_eq_true, if_false]
    exact G_pos (fits_of (by omega) (by omega))
theorem r_counted (h0 : 0 ≤ i) (h1 : i ≤ c.length) (hc : c.length ≤ 4000) (hn : 0 ≤ n ∧ n ≤ 30) :
    r35_Reader_counted c i s n 0 0 l = if 30 < n + 1 then some (c, i + 1, s, n + 1, l, 7, i) else some (c, i + 1, s, n + 1, l, 0, 0) := by
  have f3 : fits (i + 1) := fits_of (by omega) (by omega)
  unfold r35_Reader_counted
  rw [G_pos (fits_of (by omega) (by omega))]
  by_cases h : (30 : Int) < n + 1
  · simp [h, r_fail, G_pos f3]
  · simp [h, G_pos f3]
theorem r_put (h : l.length ≤ 1000) {k v x y : Int} {b : Bool} : r35_Reader_put (k, (b, (v, (x, (y, ()))))) c i s n f a l = some ((l.length : Int), c, i, s, n, l ++ [(k, b, v, x, y, ())], f, a) := by
  unfold r35_Reader_put
  have e : (((l ++ [(k, (b, (v, (x, (y, ())))))]).length : Int) - 1) = (l.length : Int) := by simp
  rw [G_pos (room_of (by simp; omega))]
  simp only [e]
  rw [G_pos (fits_of (by omega) (by omega))]
theorem p_open (h0 : 0 ≤ i ∧ i ≤ 5000) (hs : 0 ≤ s ∧ s ≤ 40) : branch_reader_open c i s n = if s = 40 then some (.inr (7, i)) else some (.inl (c, i + 1, s + 1, n)) := by
  unfold branch_reader_open
  by_cases h : s = 40
  · simp [h, p_fail, pbind_inr]
  · simp only [h, decide_false, Bool.false_eq_true, if_false]
    rw [G_pos (fits_of (by omega) (by omega)), G_pos (fits_of (by omega) (by omega))]
theorem r_open (h0 : 0 ≤ i ∧ i ≤ 5000) (hs : 0 ≤ s ∧ s ≤ 40) : r35_Reader_open c i s n 0 0 l = if s = 40 then some (c, i + 1, s + 1, n, l, 7, i) else some (c, i + 1, s + 1, n, l, 0, 0) := by
  have f1 : fits (s + 1) := fits_of (by omega) (by omega)
  have f2 : fits (i + 1) := fits_of (by omega) (by omega)
  unfold r35_Reader_open
  by_cases h : s = 40
  · have f4 : fits (41 : Int) := fits_of (by omega) (by omega)
    subst h; simp [r_fail, G_pos f4, G_pos f2]
  · simp [h, G_pos f1, G_pos f2]
theorem p_want {k : Int} (h0 : 0 ≤ i ∧ i ≤ 5000) : branch_reader_want k c i s n = if nowT c i = k then some (.inl (c, i + 1, s, n)) else some (.inr (4, i)) := by
  have f2 : fits (i + 1) := fits_of (by omega) (by omega)
  unfold branch_reader_want
  rw [p_now h0.1]
  by_cases h : nowT c i = k
  · simp [h, G_pos f2]
  · simp [h, p_fail, pbind_inr]
theorem r_want {k : Int} (h0 : 0 ≤ i ∧ i ≤ 5000) : r35_Reader_want k c i s n 0 0 l = if nowT c i = k then some (c, i + 1, s, n, l, 0, 0) else some (c, i + 1, s, n, l, 4, i) := by
  have f2 : fits (i + 1) := fits_of (by omega) (by omega)
  unfold r35_Reader_want
  rw [r_now h0.1]
  by_cases h : nowT c i = k
  · simp [h, G_pos f2]
  · simp [h, r_fail, G_pos f2]
/-- What was found to be wrong stays. -/
theorem f_want {k : Int} (hf : f ≠ 0) (h0 : 0 ≤ i ∧ i ≤ 5000) : r35_Reader_want k c i s n f a l = some (c, i + 1, s, n, l, f, a) := by
  have f2 : fits (i + 1) := fits_of (by omega) (by omega)
  unfold r35_Reader_want
  rw [r_now h0.1]
  by_cases h : nowT c i = k
  · simp [h, G_pos f2]
  · simp [h, r_fail, hf, G_pos f2]
theorem f_part (hf : f ≠ 0) : r35_Reader_part c i s n f a l = some (0, c, i, s, n, l, f, a) := by
  rw [r35_Reader_part_eq]
  unfold r35_Reader_part_B
  rw [r_ok]
  simp [hf]
theorem f_termL (hf : f ≠ 0) (h0 : 0 ≤ i) (x : Int) : r35_Reader_term_L2 r35_Reader_part x c i s n f a l = some (x, c, i, s, n, l, f, a) := by
  rw [r35_Reader_term_L2_eq]
  unfold r35_Reader_term_L2_B
  rw [r_now h0]
  simp only [Option.bind_some]
  rw [r_ok]
  simp [hf]
theorem f_term (hf : f ≠ 0) (h0 : 0 ≤ i) : r35_Reader_term r35_Reader_part c i s n f a l = some (0, c, i, s, n, l, f, a) := by
  unfold r35_Reader_term
  rw [f_part hf]
  simp only [Option.bind_some]
  exact f_termL hf h0 0
theorem f_wholeL (hf : f ≠ 0) (h0 : 0 ≤ i) (x : Int) : r35_Reader_whole_L2 r35_Reader_part x c i s n f a l = some (x, c, i, s, n, l, f, a) := by
  rw [r35_Reader_whole_L2_eq]
  unfold r35_Reader_whole_L2_B
  rw [r_now h0]
  simp only [Option.bind_some]
  rw [r_ok]
  simp [hf]
theorem f_whole (hf : f ≠ 0) (h0 : 0 ≤ i) : r35_Reader_whole r35_Reader_part c i s n f a l = some (0, c, i, s, n, l, f, a) := by
  unfold r35_Reader_whole
  rw [f_term hf h0]
  simp only [Option.bind_some]
  exact f_wholeL hf h0 0
end
/-! ### both alike -/
structure Pre (c : List UInt8) (i n s : Int) (l : L5) : Prop where
  i0 : 0 ≤ i
  i1 : i ≤ c.length
  c1 : c.length ≤ 4000
  n0 : 0 ≤ n
  n1 : n ≤ 30
  s0 : 0 ≤ s
  s1 : s ≤ 40
  l1 : (l.length : Int) ≤ n
def Sm (c : List UInt8) (i n s : Int) (l : L5) (o : Option ((Tr ND × List UInt8 × Int × Int × Int) ⊕ (Int × Int))) (r : Option (Int × List UInt8 × Int × Int × Int × L5 × Int × Int)) : Prop :=
  (∃ a b i' n' l', o = some (.inl (a, c, i', s, n')) ∧ r = some (b, c, i', s, n', l', 0, 0) ∧ i ≤ i' ∧ i' ≤ c.length ∧ n ≤ n' ∧ n' ≤ 30 ∧ (l'.length : Int) + n ≤ l.length + n')
  ∨ (∃ cd pl b i' n' l', o = some (.inr (cd, pl)) ∧ r = some (b, c, i', s, n', l', cd, pl) ∧ cd ≠ 0 ∧ 0 ≤ i' ∧ i' ≤ c.length + 4 * (41 - s) ∧ n' ≤ 31 ∧ (l'.length : Int) + n ≤ l.length + n')
def Part (c : List UInt8) (m : Nat) : Prop := ∀ i n s l, Pre c i n s l → ((c.length : Int) - i).toNat ≤ m → Sm c i n s l (branch_reader_part c i s n) (r35_Reader_part c i s n 0 0 l)
def Term (c : List UInt8) (m : Nat) : Prop := ∀ i n s l, Pre c i n s l → ((c.length : Int) - i).toNat ≤ m → Sm c i n s l (branch_reader_term branch_reader_part c i s n) (r35_Reader_term r35_Reader_part c i s n 0 0 l)
def Whole (c : List UInt8) (m : Nat) : Prop := ∀ i n s l, Pre c i n s l → ((c.length : Int) - i).toNat ≤ m → Sm c i n s l (branch_reader_whole branch_reader_part c i s n) (r35_Reader_whole r35_Reader_part c i s n 0 0 l)
theorem term_loop {c : List UInt8} : ∀ m : Nat, (∀ m' < m, Part c m') → ∀ a b i n s l, Pre c i n s l → ((c.length : Int) - i).toNat ≤ m →
    Sm c i n s l (branch_reader_term_L2 branch_reader_part a c i s n) (r35_Reader_term_L2 r35_Reader_part b c i s n 0 0 l) := by
  intro m
  induction m using Nat.strongRecOn with
  | ind m ih =>
    intro hP a b i n s l hp hm
    obtain ⟨i0, i1, c1, n0, n1, s0, s1, q1⟩ := hp
    rw [branch_reader_term_L2_eq, r35_Reader_term_L2_eq]
    unfold branch_reader_term_L2_B r35_Reader_term_L2_B
    rw [p_now i0, r_now i0]
    simp only [Option.bind_some]
    rw [r_ok]
    by_cases hb : nowT c i = 38
    · have hlt : i < c.length := now_lt (by rw [hb]; decide)
      simp only [hb, Option.bind_some, decide_true, not_true_eq_false, decide_false, Bool.not_true, Bool.false_eq_true, if_true, if_false]
      rw [p_counted i0 i1 c1 ⟨n0, n1⟩, r_counted i0 i1 c1 ⟨n0, n1⟩]
      by_cases hbad : 30 < n + 1
      · simp only [hbad, if_true, pbind_inr, Option.bind_some]
        rw [f_part (by decide)]
        simp only [Option.bind_some]
        rw [r_put (by omega)]
        simp only [Option.bind_some]
        rw [f_termL (by decide) (by omega)]
        exact .inr ⟨7, i, _, _, _, _, rfl, rfl, by decide, by omega, by omega, by omega, by (first | omega | (simp only [List.length_append, List.length_cons, List.length_nil] at *; omega) | (simp; done) | (simp; omega))⟩
      · simp only [hbad, if_false, pbind_inl, Option.bind_some]
        rcases hP (((c.length : Int) - (i + 1)).toNat) (by omega) (i + 1) (n + 1) s l ⟨by omega, by omega, c1, by omega, by omega, s0, s1, by omega⟩ (Nat.le_refl _) with
          ⟨a1, b1, i', n', l', e1, e2, g1, g2, g3, g4, g5⟩ | ⟨cd, pl, b1, i', n', l', e1, e2, g1, g2, g3, g4, g5⟩
        · simp only [e1, e2, pbind_inl, Option.bind_some]
          rw [r_put (by omega)]
          simp only [Option.bind_some]
          rcases ih (((c.length : Int) - i').toNat) (by omega) (fun m' hm' => hP m' (by omega)) (Tr.mk (38, (false, (0, ()))) [a, a1]) (l'.length : Int) i' n' s (l' ++ [(38, false, 0, b, b1, ())])
            ⟨by omega, g2, c1, by omega, g4, s0, s1, by (first | omega | (simp only [List.length_append, List.length_cons, List.length_nil] at *; omega) | (simp; done) | (simp; omega))⟩ (Nat.le_refl _) with
            ⟨a2, b2, i2, n2, l3, w1, w2, w3, w4, w5, w6, w7⟩ | ⟨cd, pl, b2, i2, n2, l3, w1, w2, w3, w4, w5, w6, w7⟩
          · exact .inl ⟨a2, b2, i2, n2, l3, w1, w2, by omega, w4, by omega, w6, by (first | omega | (simp only [List.length_append, List.length_cons, List.length_nil] at *; omega) | (simp; done) | (simp; omega))⟩
          · exact .inr ⟨cd, pl, b2, i2, n2, l3, w1, w2, w3, w4, w5, w6, by (first | omega | (simp only [List.length_append, List.length_cons, List.length_nil] at *; omega) | (simp; done) | (simp; omega))⟩
        · simp only [e1, e2, pbind_inr, Option.bind_some]
          rw [r_put (by omega)]
          simp only [Option.bind_some]
          rw [f_termL g1 g2]
          exact .inr ⟨cd, pl, _, _, _, _, rfl, rfl, g1, g2, g3, g4, by (first | omega | (simp only [List.length_append, List.length_cons, List.length_nil] at *; omega) | (simp; done) | (simp; omega))⟩
    · simp only [hb, Option.bind_some, decide_true, not_false_eq_true, decide_false, Bool.not_true, Bool.false_eq_true, if_true, if_false]
      exact .inl ⟨a, b, i, n, l, rfl, rfl, by omega, i1, by omega, n1, by omega⟩
theorem term_of {c : List UInt8} {m : Nat} (hP : ∀ m' ≤ m, Part c m') : Term c m := by
  intro i n s l hp hm
  have hp' := hp
  obtain ⟨i0, i1, c1, n0, n1, s0, s1, q1⟩ := hp
  unfold branch_reader_term r35_Reader_term
  rcases hP m (Nat.le_refl _) i n s l hp' hm with
    ⟨a1, b1, i', n', l', e1, e2, g1, g2, g3, g4, g5⟩ | ⟨cd, pl, b1, i', n', l', e1, e2, g1, g2, g3, g4, g5⟩
  · simp only [e1, e2, pbind_inl, Option.bind_some]
    rcases term_loop m (fun m' hm' => hP m' (by omega)) a1 b1 i' n' s l' ⟨by omega, g2, c1, by omega, g4, s0, s1, by omega⟩ (by omega) with
      ⟨a2, b2, i2, n2, l3, w1, w2, w3, w4, w5, w6, w7⟩ | ⟨cd, pl, b2, i2, n2, l3, w1, w2, w3, w4, w5, w6, w7⟩
    · exact .inl ⟨a2, b2, i2, n2, l3, w1, w2, by omega, w4, by omega, w6, by omega⟩
    · exact .inr ⟨cd, pl, b2, i2, n2, l3, w1, w2, w3, w4, w5, w6, by omega⟩
  · simp only [e1, e2, pbind_inr, Option.bind_some]
    rw [f_termL g1 g2]
    exact .inr ⟨cd, pl, _, _, _, _, rfl, rfl, g1, g2, g3, g4, g5⟩
theorem whole_loop {c : List UInt8} : ∀ m : Nat, (∀ m' < m, Term c m') → ∀ a b i n s l, Pre c i n s l → ((c.length : Int) - i).toNat ≤ m →
    Sm c i n s l (branch_reader_whole_L2 branch_reader_part a c i s n) (r35_Reader_whole_L2 r35_Reader_part b c i s n 0 0 l) := by
  intro m
  induction m using Nat.strongRecOn with
  | ind m ih =>
    intro hP a b i n s l hp hm
    obtain ⟨i0, i1, c1, n0, n1, s0, s1, q1⟩ := hp
    rw [branch_reader_whole_L2_eq, r35_Reader_whole_L2_eq]
    unfold branch_reader_whole_L2_B r35_Reader_whole_L2_B
    rw [p_now i0, r_now i0]
    simp only [Option.bind_some]
    rw [r_ok]
    by_cases hb : nowT c i = 124
    · have hlt : i < c.length := now_lt (by rw [hb]; decide)
      simp only [hb, Option.bind_some, decide_true, not_true_eq_false, decide_false, Bool.not_true, Bool.false_eq_true, if_true, if_false]
      rw [p_counted i0 i1 c1 ⟨n0, n1⟩, r_counted i0 i1 c1 ⟨n0, n1⟩]
      by_cases hbad : 30 < n + 1
      · simp only [hbad, if_true, pbind_inr, Option.bind_some]
        rw [f_term (by decide) (by omega)]
        simp only [Option.bind_some]
        rw [r_put (by omega)]
        simp only [Option.bind_some]
        rw [f_wholeL (by decide) (by omega)]
        exact .inr ⟨7, i, _, _, _, _, rfl, rfl, by decide, by omega, by omega, by omega, by (first | omega | (simp only [List.length_append, List.length_cons, List.length_nil] at *; omega) | (simp; done) | (simp; omega))⟩
      · simp only [hbad, if_false, pbind_inl, Option.bind_some]
        rcases hP (((c.length : Int) - (i + 1)).toNat) (by omega) (i + 1) (n + 1) s l ⟨by omega, by omega, c1, by omega, by omega, s0, s1, by omega⟩ (Nat.le_refl _) with
          ⟨a1, b1, i', n', l', e1, e2, g1, g2, g3, g4, g5⟩ | ⟨cd, pl, b1, i', n', l', e1, e2, g1, g2, g3, g4, g5⟩
        · simp only [e1, e2, pbind_inl, Option.bind_some]
          rw [r_put (by omega)]
          simp only [Option.bind_some]
          rcases ih (((c.length : Int) - i').toNat) (by omega) (fun m' hm' => hP m' (by omega)) (Tr.mk (124, (false, (0, ()))) [a, a1]) (l'.length : Int) i' n' s (l' ++ [(124, false, 0, b, b1, ())])
            ⟨by omega, g2, c1, by omega, g4, s0, s1, by (first | omega | (simp only [List.length_append, List.length_cons, List.length_nil] at *; omega) | (simp; done) | (simp; omega))⟩ (Nat.le_refl _) with
            ⟨a2, b2, i2, n2, l3, w1, w2, w3, w4, w5, w6, w7⟩ | ⟨cd, pl, b2, i2, n2, l3, w1, w2, w3, w4, w5, w6, w7⟩
          · exact .inl ⟨a2, b2, i2, n2, l3, w1, w2, by omega, w4, by omega, w6, by (first | omega | (simp only [List.length_append, List.length_cons, List.length_nil] at *; omega) | (simp; done) | (simp; omega))⟩
          · exact .inr ⟨cd, pl, b2, i2, n2, l3, w1, w2, w3, w4, w5, w6, by (first | omega | (simp only [List.length_append, List.length_cons, List.length_nil] at *; omega) | (simp; done) | (simp; omega))⟩
        · simp only [e1, e2, pbind_inr, Option.bind_some]
          rw [r_put (by omega)]
          simp only [Option.bind_some]
          rw [f_wholeL g1 g2]
          exact .inr ⟨cd, pl, _, _, _, _, rfl, rfl, g1, g2, g3, g4, by (first | omega | (simp only [List.length_append, List.length_cons, List.length_nil] at *; omega) | (simp; done) | (simp; omega))⟩
    · simp only [hb, Option.bind_some, decide_true, not_false_eq_true, decide_false, Bool.not_true, Bool.false_eq_true, if_true, if_false]
      exact .inl ⟨a, b, i, n, l, rfl, rfl, by omega, i1, by omega, n1, by omega⟩
theorem whole_of {c : List UInt8} {m : Nat} (hP : ∀ m' ≤ m, Term c m') : Whole c m := by
  intro i n s l hp hm
  have hp' := hp
  obtain ⟨i0, i1, c1, n0, n1, s0, s1, q1⟩ := hp
  unfold branch_reader_whole r35_Reader_whole
  rcases hP m (Nat.le_refl _) i n s l hp' hm with
    ⟨a1, b1, i', n', l', e1, e2, g1, g2, g3, g4, g5⟩ | ⟨cd, pl, b1, i', n', l', e1, e2, g1, g2, g3, g4, g5⟩
  · simp only [e1, e2, pbind_inl, Option.bind_some]
    rcases whole_loop m (fun m' hm' => hP m' (by omega)) a1 b1 i' n' s l' ⟨by omega, g2, c1, by omega, g4, s0, s1, by omega⟩ (by omega) with
      ⟨a2, b2, i2, n2, l3, w1, w2, w3, w4, w5, w6, w7⟩ | ⟨cd, pl, b2, i2, n2, l3, w1, w2, w3, w4, w5, w6, w7⟩
    · exact .inl ⟨a2, b2, i2, n2, l3, w1, w2, by omega, w4, by omega, w6, by omega⟩
    · exact .inr ⟨cd, pl, b2, i2, n2, l3, w1, w2, w3, w4, w5, w6, by omega⟩
  · simp only [e1, e2, pbind_inr, Option.bind_some]
    rw [f_wholeL g1 g2]
    exact .inr ⟨cd, pl, _, _, _, _, rfl, rfl, g1, g2, g3, g4, g5⟩
theorem f_open {c : List UInt8} {i n s f a : Int} {l : L5} (hf : f ≠ 0) (h0 : 0 ≤ i ∧ i ≤ 5000) (hs : 0 ≤ s ∧ s ≤ 40) : r35_Reader_open c i s n f a l = some (c, i + 1, s + 1, n, l, f, a) := by
  have f1 : fits (s + 1) := fits_of (by omega) (by omega)
  have f2 : fits (i + 1) := fits_of (by omega) (by omega)
  have f4 : fits (41 : Int) := fits_of (by omega) (by omega)
  unfold r35_Reader_open
  by_cases h : s = 40
  · subst h; simp [r_fail, hf, G_pos f4, G_pos f2]
  · simp [h, G_pos f1, G_pos f2]
theorem f_waysJ {c : List UInt8} {i n s f a ch : Int} {l : L5} {al t : Bool} (hf : f ≠ 0) (h0 : 0 ≤ i ∧ i ≤ 4900) (hs : 0 ≤ s ∧ s ≤ 40) (hl : l.length ≤ 900) :
    ∃ b i' l', r35_Reader_ways_J3 r35_Reader_part al c i s n l f a ch t = some (b, c, i', s, n, l', f, a) ∧ i ≤ i' ∧ i' ≤ i + 3 ∧ l'.length ≤ l.length + 1 := by
  unfold r35_Reader_ways_J3
  cases t with
  | true =>
    simp only [if_true]
    rw [G_pos (fits_of (by omega) (by omega)), f_part hf]
    simp only [Option.bind_some]
    rw [r_put (by omega)]
    simp only [Option.bind_some]
    exact ⟨_, _, _, rfl, by omega, by omega, by simp⟩
  | false =>
    by_cases h : ch = 40
    · simp only [h, Bool.false_eq_true, if_false, not_true_eq_false, decide_false]
      rw [f_open hf (by omega) hs]
      simp only [Option.bind_some]
      rw [f_whole hf (by omega)]
      simp only [Option.bind_some]
      rw [f_want hf (by omega)]
      simp only [Option.bind_some]
      rw [f_whole hf (by omega)]
      simp only [Option.bind_some]
      rw [f_want hf (by omega)]
      simp only [Option.bind_some]
      rw [G_pos (fits_of (by omega) (by omega)), r_put (by omega)]
      have es : s + 1 - 1 = s := by omega
      simp only [es, Option.bind_some]
      exact ⟨_, _, _, rfl, by omega, by omega, by simp⟩
    · simp only [h, Bool.false_eq_true, if_false, not_false_eq_true, decide_true, if_true]
      rw [r_fail, if_neg hf]
      exact ⟨_, _, _, rfl, by simp, by simp; omega, by simp⟩
theorem p_shut {c : List UInt8} {i n s : Int} (h0 : 0 ≤ i ∧ i ≤ 5000) (hs : 0 ≤ s ∧ s ≤ 40) : branch_reader_shut c i (s + 1) n = if nowT c i = 41 then some (.inl (c, i + 1, s, n)) else some (.inr (4, i)) := by
  unfold branch_reader_shut
  rw [p_want h0]
  have es : s + 1 - 1 = s := by omega
  have fs : fits s := fits_of (by omega) (by omega)
  by_cases h : nowT c i = 41
  · simp only [h, if_true, pbind_inl, es]; exact G_pos fs
  · simp only [h, if_false, pbind_inr]
theorem waysJ {c : List UInt8} {m : Nat} (hP : ∀ m' < m, Part c m') (hW : ∀ m' < m, Whole c m') {al t : Bool} {i n s : Int} {l : L5} (hn : 0 ≤ n) (hp : Pre c i (n + 1) s l) (hl : (l.length : Int) ≤ n) (hm : ((c.length : Int) - i).toNat < m) (ht : t = true → nowT c i ≠ 0) :
    Sm c i n s l (branch_reader_ways_J6 branch_reader_part al c i s (n + 1) (nowT c i) t) (r35_Reader_ways_J3 r35_Reader_part al c i s (n + 1) l 0 0 (nowT c i) t) := by
  obtain ⟨i0, i1, c1, n0, n1, s0, s1, q1⟩ := hp
  unfold branch_reader_ways_J6 r35_Reader_ways_J3
  have es : s + 1 - 1 = s := by omega
  have fs : fits s := fits_of (by omega) (by omega)
  cases t with
  | true =>
    have hlt : i < c.length := now_lt (ht rfl)
    have fi : fits (i + 1) := fits_of (by omega) (by omega)
    simp only [if_true, G_pos fi]
    rcases hP (((c.length : Int) - (i + 1)).toNat) (by omega) (i + 1) (n + 1) s l ⟨by omega, by omega, c1, by omega, by omega, s0, s1, by omega⟩ (Nat.le_refl _) with
      ⟨a1, b1, i', n', l', e1, e2, g1, g2, g3, g4, g5⟩ | ⟨cd, pl, b1, i', n', l', e1, e2, g1, g2, g3, g4, g5⟩
    · simp only [e1, e2, pbind_inl, Option.bind_some]
      rw [r_put (by omega)]
      simp only [Option.bind_some]
      exact .inl ⟨_, _, _, _, _, rfl, rfl, by omega, g2, by omega, g4, by (first | omega | (simp only [List.length_append, List.length_cons, List.length_nil] at *; omega) | (simp; done) | (simp; omega))⟩
    · simp only [e1, e2, pbind_inr, Option.bind_some]
      rw [r_put (by omega)]
      simp only [Option.bind_some]
      exact .inr ⟨cd, pl, _, _, _, _, rfl, rfl, g1, g2, g3, g4, by (first | omega | (simp only [List.length_append, List.length_cons, List.length_nil] at *; omega) | (simp; done) | (simp; omega))⟩
  | false =>
    by_cases h40 : nowT c i = 40
    · have hlt : i < c.length := now_lt (by rw [h40]; decide)
      simp only [h40, Bool.false_eq_true, if_false, decide_true, if_true, not_true_eq_false, decide_false]
      rw [p_open (by omega) ⟨s0, s1⟩, r_open (by omega) ⟨s0, s1⟩]
      by_cases hs : s = 40
      · simp only [hs, if_true, pbind_inr, Option.bind_some]
        rw [f_whole (by decide) (by omega)]
        simp only [Option.bind_some]
        rw [f_want (by decide) (by omega)]
        simp only [Option.bind_some]
        rw [f_whole (by decide) (by omega)]
        simp only [Option.bind_some]
        rw [f_want (by decide) (by omega)]
        simp only [Option.bind_some]
        rw [G_pos (fits_of (by omega) (by omega)), r_put (by omega)]
        simp only [Option.bind_some]
        exact .inr ⟨7, i, _, _, _, _, rfl, rfl, by decide, by omega, by omega, by omega, by (first | omega | (simp only [List.length_append, List.length_cons, List.length_nil] at *; omega) | (simp; done) | (simp; omega))⟩
      · simp only [hs, if_false, pbind_inl, Option.bind_some]
        rcases hW (((c.length : Int) - (i + 1)).toNat) (by omega) (i + 1) (n + 1) (s + 1) l ⟨by omega, by omega, c1, by omega, by omega, by omega, by omega, by omega⟩ (Nat.le_refl _) with
          ⟨a1, b1, i', n', l', e1, e2, g1, g2, g3, g4, g5⟩ | ⟨cd, pl, b1, i', n', l', e1, e2, g1, g2, g3, g4, g5⟩
        · simp only [e1, e2, pbind_inl, Option.bind_some]
          rw [p_want (by omega), r_want (by omega)]
          by_cases h85 : nowT c i' = 85
          · have hlt2 : i' < c.length := now_lt (by rw [h85]; decide)
            simp only [h85, if_true, pbind_inl, Option.bind_some]
            rcases hW (((c.length : Int) - (i' + 1)).toNat) (by omega) (i' + 1) n' (s + 1) l' ⟨by omega, by omega, c1, by omega, by omega, by omega, by omega, by omega⟩ (Nat.le_refl _) with
              ⟨a2, b2, i2, n2, l2, w1, w2, v1, v2, v3, v4, v5⟩ | ⟨cd, pl, b2, i2, n2, l2, w1, w2, v1, v2, v3, v4, v5⟩
            · simp only [w1, w2, pbind_inl, Option.bind_some]
              rw [p_shut (by omega) ⟨s0, s1⟩, r_want (by omega)]
              by_cases h41 : nowT c i2 = 41
              · have hlt3 : i2 < c.length := now_lt (by rw [h41]; decide)
                simp only [h41, if_true, pbind_inl, Option.bind_some, es, G_pos fs]
                rw [r_put (by omega)]
                simp only [Option.bind_some]
                exact .inl ⟨_, _, _, _, _, rfl, rfl, by omega, by omega, by omega, v4, by (first | omega | (simp only [List.length_append, List.length_cons, List.length_nil] at *; omega) | (simp; done) | (simp; omega))⟩
              · simp only [h41, if_false, pbind_inr, Option.bind_some, es, G_pos fs]
                rw [r_put (by omega)]
                simp only [Option.bind_some]
                exact .inr ⟨4, i2, _, _, _, _, rfl, rfl, by decide, by omega, by omega, by omega, by (first | omega | (simp only [List.length_append, List.length_cons, List.length_nil] at *; omega) | (simp; done) | (simp; omega))⟩
            · simp only [w1, w2, pbind_inr, Option.bind_some]
              rw [f_want v1 (by omega)]
              simp only [Option.bind_some, es, G_pos fs]
              rw [r_put (by omega)]
              simp only [Option.bind_some]
              exact .inr ⟨cd, pl, _, _, _, _, rfl, rfl, v1, by omega, by omega, v4, by (first | omega | (simp only [List.length_append, List.length_cons, List.length_nil] at *; omega) | (simp; done) | (simp; omega))⟩
          · simp only [h85, if_false, pbind_inr, Option.bind_some]
            rw [f_whole (by decide) (by omega)]
            simp only [Option.bind_some]
            rw [f_want (by decide) (by omega)]
            simp only [Option.bind_some, es, G_pos fs]
            rw [r_put (by omega)]
            simp only [Option.bind_some]
            exact .inr ⟨4, i', _, _, _, _, rfl, rfl, by decide, by omega, by omega, by omega, by (first | omega | (simp only [List.length_append, List.length_cons, List.length_nil] at *; omega) | (simp; done) | (simp; omega))⟩
        · simp only [e1, e2, pbind_inr, Option.bind_some]
          rw [f_want g1 (by omega)]
          simp only [Option.bind_some]
          rw [f_whole g1 (by omega)]
          simp only [Option.bind_some]
          rw [f_want g1 (by omega)]
          simp only [Option.bind_some, es, G_pos fs]
          rw [r_put (by omega)]
          simp only [Option.bind_some]
          exact .inr ⟨cd, pl, _, _, _, _, rfl, rfl, g1, by omega, by omega, g4, by (first | omega | (simp only [List.length_append, List.length_cons, List.length_nil] at *; omega) | (simp; done) | (simp; omega))⟩
    · simp only [h40, Bool.false_eq_true, if_false, not_false_eq_true, decide_true, decide_false, if_true, p_fail, pbind_inr, r_fail, Option.bind_some]
      exact .inr ⟨4, i, _, _, _, _, rfl, rfl, by decide, by omega, by omega, by omega, by omega⟩
theorem ways_of {c : List UInt8} {m : Nat} (hP : ∀ m' < m, Part c m') (hW : ∀ m' < m, Whole c m') {al : Bool} {i n s : Int} {l : L5} (hp : Pre c i n s l) (hlt : i < c.length) (hm : ((c.length : Int) - i).toNat ≤ m) :
    Sm c i n s l (branch_reader_ways branch_reader_part al c i s n) (r35_Reader_ways r35_Reader_part al c i s n 0 0 l) := by
  obtain ⟨i0, i1, c1, n0, n1, s0, s1, q1⟩ := hp
  unfold branch_reader_ways r35_Reader_ways
  rw [p_counted i0 i1 c1 ⟨n0, n1⟩, r_counted i0 i1 c1 ⟨n0, n1⟩]
  by_cases hbad : 30 < n + 1
  · simp only [hbad, if_true, pbind_inr, Option.bind_some]
    rw [r_now (by omega)]
    simp only [Option.bind_some]
    have key : ∀ t, Sm c i n s l (some (.inr (7, i))) (r35_Reader_ways_J3 r35_Reader_part al c (i + 1) s (n + 1) l 7 i (nowT c (i + 1)) t) := by
      intro t
      obtain ⟨b, i', l', e, g1, g2, g3⟩ := f_waysJ (c := c) (i := i + 1) (n := n + 1) (s := s) (f := 7) (a := i) (ch := nowT c (i + 1)) (l := l) (al := al) (t := t) (by decide) (by omega) ⟨s0, s1⟩ (by omega)
      rw [e]
      exact .inr ⟨7, i, b, i', n + 1, l', rfl, rfl, by decide, by omega, by omega, by omega, by omega⟩
    split
    · exact key _
    · split
      · exact key _
      · exact key _
  · simp only [hbad, if_false, pbind_inl, Option.bind_some]
    rw [p_now (by omega), r_now (by omega)]
    simp only [Option.bind_some]
    have key : ∀ t, (t = true → nowT c (i + 1) ≠ 0) → Sm c i n s l (branch_reader_ways_J6 branch_reader_part al c (i + 1) s (n + 1) (nowT c (i + 1)) t) (r35_Reader_ways_J3 r35_Reader_part al c (i + 1) s (n + 1) l 0 0 (nowT c (i + 1)) t) := by
      intro t ht
      rcases waysJ hP hW (al := al) (t := t) (i := i + 1) (n := n) (s := s) (l := l) n0 ⟨by omega, by omega, c1, by omega, by omega, s0, s1, by omega⟩ q1 (by omega) ht with
        ⟨a1, b1, i', n', l', e1, e2, g1, g2, g3, g4, g5⟩ | ⟨cd, pl, b1, i', n', l', e1, e2, g1, g2, g3, g4, g5⟩
      · exact .inl ⟨a1, b1, i', n', l', e1, e2, by omega, g2, g3, g4, g5⟩
      · exact .inr ⟨cd, pl, b1, i', n', l', e1, e2, g1, g2, g3, g4, g5⟩
    by_cases h88 : nowT c (i + 1) = 88
    · have := key true (fun _ => by rw [h88]; decide)
      simpa [h88] using this
    · by_cases h70 : nowT c (i + 1) = 70
      · have := key true (fun _ => by rw [h70]; decide)
        simpa [h70] using this
      · have := key (decide (nowT c (i + 1) = 71)) (fun h => by rw [of_decide_eq_true h]; decide)
        simpa [h88, h70] using this
theorem wrap_nat' {n : Nat} (h : n < 9223372036854775808) : IntKind.wrap .i64 (n : Int) = n := by
  unfold IntKind.wrap
  simp [IntKind.bits, IntKind.signed]
  omega
theorem wr64 {x : Int} (h0 : 0 ≤ x) (h1 : x ≤ 1000) : IntKind.wrap .i64 x = x := by
  obtain ⟨n, rfl⟩ := Int.eq_ofNat_of_zero_le h0
  exact wrap_nat' (by omega)
theorem part_of {c : List UInt8} {m : Nat} (hP : ∀ m' < m, Part c m') (hW : ∀ m' < m, Whole c m') : Part c m := by
  intro i n s l hp hm
  have hp' := hp
  obtain ⟨i0, i1, c1, n0, n1, s0, s1, q1⟩ := hp
  rw [branch_reader_part_eq, r35_Reader_part_eq]
  unfold branch_reader_part_B r35_Reader_part_B
  rw [p_now i0, r_ok, r_now i0]
  simp only [Option.bind_some, decide_true, Bool.not_true, Bool.false_eq_true, if_false]
  have es : s + 1 - 1 = s := by omega
  have fs : fits s := fits_of (by omega) (by omega)
  -- a leaf
  have leaf : ∀ (a : Tr ND) (k v : Int), nowT c i ≠ 0 → Sm c i n s l (pbind (branch_reader_counted c i s n) (fun y => some (.inl (a, y.1, y.2.1, y.2.2.1, y.2.2.2))) (fun p => some (.inr (p.1, p.2))))
      ((r35_Reader_counted c i s n 0 0 l).bind fun y => (r35_Reader_put (k, (false, (v, (0, (0, ()))))) y.1 y.2.1 y.2.2.1 y.2.2.2.1 y.2.2.2.2.2.1 y.2.2.2.2.2.2 y.2.2.2.2.1).bind fun y => some (y.1, y.2.1, y.2.2.1, y.2.2.2.1, y.2.2.2.2.1, y.2.2.2.2.2.1, y.2.2.2.2.2.2.1, y.2.2.2.2.2.2.2)) := by
    intro a k v h
    have hlt := now_lt h
    rw [p_counted i0 i1 c1 ⟨n0, n1⟩, r_counted i0 i1 c1 ⟨n0, n1⟩]
    by_cases hbad : 30 < n + 1
    · simp only [hbad, if_true, pbind_inr, Option.bind_some]
      rw [r_put (by omega)]
      simp only [Option.bind_some]
      exact .inr ⟨7, i, _, _, _, _, rfl, rfl, by decide, by omega, by omega, by omega, by (first | omega | (simp only [List.length_append, List.length_cons, List.length_nil] at *; omega) | (simp; done) | (simp; omega))⟩
    · simp only [hbad, if_false, pbind_inl, Option.bind_some]
      rw [r_put (by omega)]
      simp only [Option.bind_some]
      exact .inl ⟨_, _, _, _, _, rfl, rfl, by omega, by omega, by omega, by omega, by (first | omega | (simp only [List.length_append, List.length_cons, List.length_nil] at *; omega) | (simp; done) | (simp; omega))⟩
  have j2 : ∀ t, (t = true → nowT c i ≠ 0) → Sm c i n s l (branch_reader_part_J2 branch_reader_part c i s n (nowT c i) t) (r35_Reader_part_J5 r35_Reader_part c i s n 0 0 l (nowT c i) t) := by
    intro t ht
    unfold branch_reader_part_J2 r35_Reader_part_J5
    cases t with
    | true => simp only [if_true]; exact leaf _ _ _ (ht rfl)
    | false =>
      simp only [Bool.false_eq_true, if_false]
      have j5 : ∀ t, (t = true → 97 ≤ nowT c i ∧ nowT c i ≤ 100) → Sm c i n s l (branch_reader_part_J5 branch_reader_part c i s n (nowT c i) t) (r35_Reader_part_J8 r35_Reader_part c i s n 0 0 l (nowT c i) t) := by
        intro t ht
        unfold branch_reader_part_J5 r35_Reader_part_J8
        cases t with
        | true =>
          obtain ⟨h1, h2⟩ := ht rfl
          have fw : fits (IntKind.wrap .i64 (nowT c i) - 97) := by rw [wr64 (by omega) (by omega)]; exact fits_of (by omega) (by omega)
          simp only [if_true, G_pos fw]
          exact leaf _ _ _ (by omega)
        | false =>
          simp only [Bool.false_eq_true, if_false]
          by_cases h33 : nowT c i = 33
          · have hlt : i < c.length := now_lt (by rw [h33]; decide)
            simp only [h33, decide_true, if_true]
            rw [p_counted i0 i1 c1 ⟨n0, n1⟩, r_counted i0 i1 c1 ⟨n0, n1⟩]
            by_cases hbad : 30 < n + 1
            · simp only [hbad, if_true, pbind_inr, Option.bind_some]
              rw [f_part (by decide)]
              simp only [Option.bind_some]
              rw [r_put (by omega)]
              simp only [Option.bind_some]
              exact .inr ⟨7, i, _, _, _, _, rfl, rfl, by decide, by omega, by omega, by omega, by (first | omega | (simp only [List.length_append, List.length_cons, List.length_nil] at *; omega) | (simp; done) | (simp; omega))⟩
            · simp only [hbad, if_false, pbind_inl, Option.bind_some]
              rcases hP (((c.length : Int) - (i + 1)).toNat) (by omega) (i + 1) (n + 1) s l ⟨by omega, by omega, c1, by omega, by omega, s0, s1, by omega⟩ (Nat.le_refl _) with
                ⟨a1, b1, i', n', l', e1, e2, g1, g2, g3, g4, g5⟩ | ⟨cd, pl, b1, i', n', l', e1, e2, g1, g2, g3, g4, g5⟩
              · simp only [e1, e2, pbind_inl, Option.bind_some]
                rw [r_put (by omega)]
                simp only [Option.bind_some]
                exact .inl ⟨_, _, _, _, _, rfl, rfl, by omega, g2, by omega, g4, by (first | omega | (simp only [List.length_append, List.length_cons, List.length_nil] at *; omega) | (simp; done) | (simp; omega))⟩
              · simp only [e1, e2, pbind_inr, Option.bind_some]
                rw [r_put (by omega)]
                simp only [Option.bind_some]
                exact .inr ⟨cd, pl, _, _, _, _, rfl, rfl, g1, g2, g3, g4, by (first | omega | (simp only [List.length_append, List.length_cons, List.length_nil] at *; omega) | (simp; done) | (simp; omega))⟩
          · simp only [h33, decide_false, Bool.false_eq_true, if_false]
            have j11 : ∀ t, (t = true → nowT c i ≠ 0) → Sm c i n s l (branch_reader_part_J11 branch_reader_part c i s n (nowT c i) t) (r35_Reader_part_J15 r35_Reader_part c i s n 0 0 l (nowT c i) t) := by
              intro t ht
              unfold branch_reader_part_J11 r35_Reader_part_J15
              cases t with
              | true =>
                simp only [if_true]
                rcases ways_of hP hW (al := decide (nowT c i = 65)) hp' (now_lt (ht rfl)) hm with
                  ⟨a1, b1, i', n', l', e1, e2, g1, g2, g3, g4, g5⟩ | ⟨cd, pl, b1, i', n', l', e1, e2, g1, g2, g3, g4, g5⟩
                · simp only [e1, e2, pbind_inl, Option.bind_some]
                  exact .inl ⟨_, _, _, _, _, rfl, rfl, g1, g2, g3, g4, g5⟩
                · simp only [e1, e2, pbind_inr, Option.bind_some]
                  exact .inr ⟨cd, pl, _, _, _, _, rfl, rfl, g1, g2, g3, g4, g5⟩
              | false =>
                simp only [Bool.false_eq_true, if_false]
                by_cases h40 : nowT c i = 40
                · have hlt : i < c.length := now_lt (by rw [h40]; decide)
                  simp only [h40, not_true_eq_false, decide_false, Bool.false_eq_true, if_false]
                  unfold branch_reader_part_J14
                  rw [p_open (by omega) ⟨s0, s1⟩, r_open (by omega) ⟨s0, s1⟩]
                  by_cases hs : s = 40
                  · simp only [hs, if_true, pbind_inr, Option.bind_some]
                    rw [f_whole (by decide) (by omega)]
                    simp only [Option.bind_some]
                    rw [f_want (by decide) (by omega)]
                    simp only [Option.bind_some]
                    rw [G_pos (fits_of (by omega) (by omega))]
                    exact .inr ⟨7, i, _, _, _, _, rfl, rfl, by decide, by omega, by omega, by omega, by omega⟩
                  · simp only [hs, if_false, pbind_inl, Option.bind_some]
                    rcases hW (((c.length : Int) - (i + 1)).toNat) (by omega) (i + 1) n (s + 1) l ⟨by omega, by omega, c1, by omega, by omega, by omega, by omega, by omega⟩ (Nat.le_refl _) with
                      ⟨a1, b1, i', n', l', e1, e2, g1, g2, g3, g4, g5⟩ | ⟨cd, pl, b1, i', n', l', e1, e2, g1, g2, g3, g4, g5⟩
                    · simp only [e1, e2, pbind_inl, Option.bind_some]
                      rw [p_shut (by omega) ⟨s0, s1⟩, r_want (by omega)]
                      by_cases h41 : nowT c i' = 41
                      · have hlt3 : i' < c.length := now_lt (by rw [h41]; decide)
                        simp only [h41, if_true, pbind_inl, Option.bind_some, es, G_pos fs]
                        exact .inl ⟨_, _, _, _, _, rfl, rfl, by omega, by omega, by omega, g4, by omega⟩
                      · simp only [h41, if_false, pbind_inr, Option.bind_some, es, G_pos fs]
                        exact .inr ⟨4, i', _, _, _, _, rfl, rfl, by decide, by omega, by omega, by omega, by omega⟩
                    · simp only [e1, e2, pbind_inr, Option.bind_some]
                      rw [f_want g1 (by omega)]
                      simp only [Option.bind_some, es, G_pos fs]
                      exact .inr ⟨cd, pl, _, _, _, _, rfl, rfl, g1, by omega, by omega, g4, by omega⟩
                · simp only [h40, not_false_eq_true, decide_true, if_true, p_fail, pbind_inr, r_fail, Option.bind_some]
                  exact .inr ⟨4, i, _, _, _, _, rfl, rfl, by decide, by omega, by omega, by omega, by omega⟩
            by_cases h69 : nowT c i = 69
            · have := j11 true (fun _ => by rw [h69]; decide)
              simpa [h69] using this
            · have := j11 (decide (nowT c i = 65)) (fun h => by rw [of_decide_eq_true h]; decide)
              simpa [h69] using this
      by_cases h97 : 97 ≤ nowT c i
      · have := j5 (decide (nowT c i ≤ 100)) (fun h => ⟨h97, of_decide_eq_true h⟩)
        simpa [h97] using this
      · have := j5 false (fun h => by cases h)
        simpa [h97] using this
  by_cases h48 : nowT c i = 48
  · have := j2 true (fun _ => by rw [h48]; decide)
    simpa [h48] using this
  · have := j2 (decide (nowT c i = 49)) (fun h => by rw [of_decide_eq_true h]; decide)
    simpa [h48] using this
theorem all_of {c : List UInt8} : ∀ m : Nat, Part c m ∧ Whole c m := by
  intro m
  induction m using Nat.strongRecOn with
  | ind m ih =>
    have hP : Part c m := part_of (fun m' h => (ih m' h).1) (fun m' h => (ih m' h).2)
    have hP' : ∀ m' ≤ m, Part c m' := fun m' h => by
      rcases Nat.lt_or_eq_of_le h with h | rfl
      · exact (ih m' h).1
      · exact hP
    have hT : ∀ m' ≤ m, Term c m' := fun m' h => term_of fun m'' h' => hP' m'' (Nat.le_trans h' h)
    exact ⟨hP, whole_of hT⟩
theorem eqB_self' (f a : Int) : eqB (f, (a, ())) (f, (a, ())) = true := by simp [eqB]
theorem law_true (c : List UInt8) : law_BranchReads c = some true := by
  unfold law_BranchReads branch_Check branch_parse r35_Parse
  by_cases hc : (4000 : Int) < c.length
  · simp only [hc, decide_true, if_true, Option.bind_some, eqB_self']
  · simp only [hc, decide_false, Bool.false_eq_true, if_false]
    unfold branch_reader_whole_c r35_Reader_whole_c
    rcases (all_of (c := c) (((c.length : Int) - 0).toNat)).2 0 0 0 [] ⟨by omega, by omega, by omega, by omega, by omega, by omega, by omega, by simp⟩ (Nat.le_refl _) with
      ⟨a1, b1, i', n', l', e1, e2, g1, g2, g3, g4, g5⟩ | ⟨cd, pl, b1, i', n', l', e1, e2, g1, g2, g3, g4, g5⟩
    · simp only [e1, e2, pbind_inl, Option.bind_some]
      by_cases hi : i' < (c.length : Int)
      · simp only [hi, decide_true, if_true, p_fail, pbind_inr, r_fail, Option.bind_some, Int.reduceEq, not_false_eq_true, eqB_self']
      · simp only [hi, decide_false, Bool.false_eq_true, if_false, not_true_eq_false, Option.bind_some, eqB_self']
    · simp only [e1, e2, pbind_inr, Option.bind_some]
      by_cases hi : i' < (c.length : Int)
      · simp only [hi, decide_true, if_true, r_fail, g1, if_false, not_false_eq_true, Option.bind_some, eqB_self']
      · simp only [hi, decide_false, Bool.false_eq_true, if_false, g1, not_false_eq_true, decide_true, if_true, Option.bind_some, eqB_self']

end Go.Proofs.Ytbiecnnpmnlchaa.branchReadsW
