/- The law 'LogicHolds' of the plain functions. -/
import Derived.Test.YtnpkoeleenhgbaaLogicHoldsD
set_option maxHeartbeats 1000000
set_option maxRecDepth 20000
set_option linter.unusedSimpArgs false
set_option linter.unusedVariables false
set_option linter.unusedSectionVars false
namespace Go.Proofs.Ytnpkoeleenhgbaa.logicHoldsW
open Go Go.Ab
abbrev ND := Int × Int × Int × Int × Bool × Unit
abbrev NR := Int × Int × Int × Int × Bool × Unit
abbrev L5 := List NR
def nowT (c : List UInt8) (i : Int) : Int := if i < c.length then bAt c i else 0
theorem now_lt {c : List UInt8} {i : Int} (h : nowT c i ≠ 0) : i < c.length := by
 unfold nowT at h
 by_cases h1 : i < c.length
 ·exact h1
 ·rw [if_neg h1] at h; exact absurd rfl h
theorem bAt_byte {c : List UInt8} {i : Int} : 0 ≤ bAt c i ∧ bAt c i ≤ 255 := by
 unfold bAt
 have := (c.getD i.toNat 0).toNat_lt
 omega
theorem now_byte {c : List UInt8} {i : Int} : 0 ≤ nowT c i ∧ nowT c i ≤ 255 := by
 unfold nowT
 by_cases h : i < c.length
 ·rw [if_pos h]; exact bAt_byte
 ·rw [if_neg h]; omega
theorem wrap_nat' {n : Nat} (h : n < 9223372036854775808) : IntKind.wrap .i64 (n : Int) = n := by
 unfold IntKind.wrap
 simp [IntKind.bits, IntKind.signed]
 omega
theorem wr64 {x : Int} (h0 : 0 ≤ x) (h1 : x ≤ 1000) : IntKind.wrap .i64 x = x := by
 obtain ⟨n, rfl⟩ := Int.eq_ofNat_of_zero_le h0
 exact wrap_nat' (by omega)
theorem wr8 {x : Int} (h0 : 0 ≤ x) (h1 : x ≤ 255) : IntKind.wrap .u8 x = x := by
 obtain ⟨n, rfl⟩ := Int.eq_ofNat_of_zero_le h0
 unfold IntKind.wrap
 simp [IntKind.bits, IntKind.signed]
 omega
theorem cmp_ix : ∀ n : Fin 256, ixByte [60, 61, 126] (n.val : Int) = if (n.val : Int) = 60 then 0 else if (n.val : Int) = 61 then 1 else if (n.val : Int) = 126 then 2 else -1 := by decide +kernel
theorem cmp_all {x : Int} (h0 : 0 ≤ x) (h1 : x ≤ 255) : ixByte [60, 61, 126] x = if x = 60 then 0 else if x = 61 then 1 else if x = 126 then 2 else -1 := by
 have := cmp_ix ⟨x.toNat, by omega⟩
 have e : ((x.toNat : Nat) : Int) = x := by omega
 simpa only [e] using this
theorem place_eq (x : Int) : logic_place x = some (decide (120 ≤ x ∧ x ≤ 122)) := by
 unfold logic_place
 by_cases h : 120 ≤ x <;> simp [h]
theorem set_eq (x : Int) : logic_set x = some (decide (88 ≤ x ∧ x ≤ 90)) := by
 unfold logic_set
 by_cases h : 88 ≤ x <;> simp [h]
def VarB (q : Int) : Prop := (88 ≤ q ∧ q ≤ 90) ∨ (120 ≤ q ∧ q ≤ 122)
def Sc (Q : List Int) (S : List UInt8) : Prop := Q = S.map (fun b => (b.toNat : Int)) ∧ ∀ q ∈ Q, VarB q
theorem Sc.len {Q : List Int} {S : List UInt8} (h : Sc Q S) : Q.length = S.length := by rw [h.1]; simp
theorem Sc.at {Q : List Int} {S : List UInt8} (h : Sc Q S) {k : Int} (h0 : 0 ≤ k) (h1 : k < Q.length) : bAt S k = ix Q k := by
 have hl := h.len
 rw [h.1]
 unfold bAt ix
 rw [List.getD_eq_getElem?_getD, List.getD_eq_getElem?_getD, List.getElem?_map, List.getElem?_eq_getElem (show k.toNat < S.length by omega)]
 rfl
theorem Sc.nil : Sc [] [] := ⟨rfl, fun q h => by cases h⟩
theorem Sc.snoc {Q : List Int} {S : List UInt8} (h : Sc Q S) {v : Int} (hv : VarB v) : Sc (Q ++ [v]) (S ++ bstr [v]) := by
 refine ⟨?_, fun q hq => ?_⟩
 ·rw [List.map_append, ← h.1]
  congr 1
  unfold VarB at hv
  obtain ⟨n, rfl⟩ := Int.eq_ofNat_of_zero_le (show 0 ≤ v by omega)
  simp only [bstr, List.map_cons, List.map_nil]
  congr 1
  simp
  omega
 ·rcases List.mem_append.1 hq with hq | hq
  ·exact h.2 q hq
  ·rw [List.mem_singleton] at hq; subst hq; exact hv
section
variable {c : List UInt8} {i n t f a : Int} {Q : List Int} {S : List UInt8} {l : L5}
theorem p_now (h0 : 0 ≤ i) (h1 : i ≤ c.length) : logic_reader_now (c, (i, (n, (t, (Q, ()))))) = some (nowT c i) := by
 unfold logic_reader_now nowT
 by_cases h : i = (c.length : Int)
 ·have : ¬ i < c.length := by omega
  simp [h]
 ·have h2 : i < c.length := by omega
  simp only [h, decide_false, Bool.false_eq_true, if_false, if_pos h2]
  exact G_pos ⟨h0, h2⟩
theorem p_fail {k p : Int} : logic_reader_fail (c, (i, (n, (t, (Q, ()))))) k p = some (.inr (k, p)) := rfl
theorem p_counted (hn : 0 ≤ n ∧ n ≤ 31) : logic_reader_counted c i n t Q = if 30 < n + 1 then some (.inr (7, i)) else some (.inl (c, i, n + 1, t, Q)) := by
 unfold logic_reader_counted
 rw [G_pos (fits_of (by omega) (by omega))]
 by_cases h : (30 : Int) < n + 1
 ·simp [h, p_fail, pbind_inr]
 ·simp only [h, decide_false, Bool.false_eq_true, if_false]
theorem r_now (h0 : 0 ≤ i) : r5_Reader_now (c, (i, (n, (t, (S, (l, ((f, (a, ())), ()))))))) = some (nowT c i) := by
 unfold r5_Reader_now nowT
 by_cases h : (c.length : Int) ≤ i
 ·have : ¬ i < (c.length : Int) := by omega
  simp [h, this]
 ·have h2 : i < c.length := by omega
  simp only [h, decide_false, Bool.false_eq_true, if_false, if_pos h2]
  exact G_pos ⟨h0, h2⟩
theorem r_ok : r5_Reader_ok (c, (i, (n, (t, (S, (l, ((f, (a, ())), ()))))))) = some (decide (f = 0)) := rfl
theorem r_fail {k p : Int} : r5_Reader_fail k p c i n t S f a l = if f = 0 then some (c, i, n, t, S, l, k, p) else some (c, i, n, t, S, l, f, a) := by
 unfold r5_Reader_fail
 by_cases h : f = 0 <;> simp [h]
theorem r_counted (p : Int) (hn : 0 ≤ n ∧ n ≤ 31) : r5_Reader_counted p c i n t S 0 0 l = if 30 < n + 1 then some (c, i, n + 1, t, S, l, 7, p) else some (c, i, n + 1, t, S, l, 0, 0) := by
 unfold r5_Reader_counted
 rw [G_pos (fits_of (by omega) (by omega))]
 by_cases h : (30 : Int) < n + 1
 ·simp [h, r_fail]
 ·simp [h]
/-- What was found to be wrong stays. -/
theorem f_counted (hf : f ≠ 0) (p : Int) (hn : 0 ≤ n ∧ n ≤ 40) : r5_Reader_counted p c i n t S f a l = some (c, i, n + 1, t, S, l, f, a) := by
 unfold r5_Reader_counted
 rw [G_pos (fits_of (by omega) (by omega))]
 by_cases h : (30 : Int) < n + 1
 ·simp [h, r_fail, hf]
 ·simp [h]
theorem r_put (h : l.length ≤ 1000) {k v x y : Int} {b : Bool} : r5_Reader_put (k, (v, (x, (y, (b, ()))))) c i n t S f a l = some ((l.length : Int), c, i, n, t, S, l ++ [(k, v, x, y, b, ())], f, a) := by
 unfold r5_Reader_put
 rw [G_pos (room_of (by simp; omega))]
 have e : (((l ++ [(k, v, x, y, b, ())]).length : Int) - 1) = (l.length : Int) := by simp
 simp only [e]
 rw [G_pos (fits_of (by omega) (by omega))]
theorem f_part (hf : f ≠ 0) : r5_Reader_part c i n t S f a l = some (0, c, i, n, t, S, l, f, a) := by
 rw [r5_Reader_part_eq]
 unfold r5_Reader_part_B
 rw [r_ok]
 simp [hf]
theorem f_termL (hf : f ≠ 0) (h0 : 0 ≤ i) (x : Int) : r5_Reader_term_L2 r5_Reader_part x c i n t S f a l = some (x, c, i, n, t, S, l, f, a) := by
 rw [r5_Reader_term_L2_eq]
 unfold r5_Reader_term_L2_B
 rw [r_now h0]
 simp only [Option.bind_some]
 rw [r_ok]
 simp [hf]
theorem f_term (hf : f ≠ 0) (h0 : 0 ≤ i) : r5_Reader_term r5_Reader_part c i n t S f a l = some (0, c, i, n, t, S, l, f, a) := by
 unfold r5_Reader_term
 rw [f_part hf]
 simp only [Option.bind_some]
 exact f_termL hf h0 0
theorem f_formL (hf : f ≠ 0) (h0 : 0 ≤ i) (x : Int) : r5_Reader_formula_L2 r5_Reader_part x c i n t S f a l = some (x, c, i, n, t, S, l, f, a) := by
 rw [r5_Reader_formula_L2_eq]
 unfold r5_Reader_formula_L2_B
 rw [r_now h0]
 simp only [Option.bind_some]
 rw [r_ok]
 simp [hf]
theorem f_place (hf : f ≠ 0) : r5_Reader_place c i n t S f a l = some (0, c, i, n, t, S, l, f, a) := by
 unfold r5_Reader_place
 rw [r_ok]
 simp [hf]
/-- Both look for a variable around. -/
theorem known_loop (hS : Sc Q S) (h0 : 0 ≤ i) (h1 : i ≤ c.length) (hc : c.length ≤ 4000) : ∀ (m : Nat) (k : Int), k + 1 = m → k < Q.length → Q.length ≤ 3 →
  (∃ j : Int, 0 ≤ j ∧ j < Q.length ∧ ix Q j = nowT c i ∧ logic_reader_known_L2 c i n t Q k = some (.inl (j, c, i + 1, n, t, Q)) ∧ r5_Reader_known_L3 c i n t S 0 0 l (nowT c i) k = some (j, c, i + 1, n, t, S, l, 0, 0)) ∨
  (logic_reader_known_L2 c i n t Q k = some (.inr (5, i)) ∧ r5_Reader_known_L3 c i n t S 0 0 l (nowT c i) k = some (0, c, i, n, t, S, l, 5, i)) := by
 intro m
 induction m with
 | zero =>
  intro k hk hlt h3
  have hk0 : ¬ (0 : Int) ≤ k := by omega
  right
  rw [logic_reader_known_L2_eq, r5_Reader_known_L3_eq]
  unfold logic_reader_known_L2_B r5_Reader_known_L3_B
  simp only [hk0, decide_false, Bool.false_eq_true, if_false, p_fail, pbind_inr, r_fail, if_true, Option.bind_some, and_self]
 | succ m ih =>
  intro k hk hlt h3
  have hk0 : (0 : Int) ≤ k := by omega
  have hl := hS.len
  have fi : fits (i + 1) := fits_of (by omega) (by omega)
  have fk : fits (k - 1) := fits_of (by omega) (by omega)
  rw [logic_reader_known_L2_eq, r5_Reader_known_L3_eq]
  unfold logic_reader_known_L2_B r5_Reader_known_L3_B
  rw [if_pos (decide_eq_true hk0), if_pos (decide_eq_true hk0), G_pos ⟨hk0, hlt⟩, G_pos (by omega), G_pos (show 0 ≤ k ∧ k < (S.length : Int) from ⟨hk0, by omega⟩), p_now h0 h1, hS.at hk0 hlt]
  simp only [Option.bind_some]
  by_cases he : ix Q k = nowT c i
  ·simp only [he, decide_true, if_true, G_pos fi]
   exact .inl ⟨k, hk0, hlt, he, rfl, rfl⟩
  ·simp only [he, decide_false, Bool.false_eq_true, if_false, G_pos fk]
   exact ih (k - 1) (by omega) (by omega) h3
theorem known_both (hS : Sc Q S) (h0 : 0 ≤ i) (h1 : i ≤ c.length) (hc : c.length ≤ 4000) (h3 : Q.length ≤ 3) :
  (∃ j : Int, 0 ≤ j ∧ j < Q.length ∧ ix Q j = nowT c i ∧ i < c.length ∧ logic_reader_known c i n t Q = some (.inl (j, c, i + 1, n, t, Q)) ∧ r5_Reader_known c i n t S 0 0 l = some (j, c, i + 1, n, t, S, l, 0, 0)) ∨
  (logic_reader_known c i n t Q = some (.inr (5, i)) ∧ r5_Reader_known c i n t S 0 0 l = some (0, c, i, n, t, S, l, 5, i)) := by
 unfold logic_reader_known r5_Reader_known
 rw [r_now h0, ← hS.len]
 simp only [Option.bind_some]
 rw [G_pos (fits_of (by omega) (by omega)), G_pos (fits_of (by omega) (by omega))]
 rcases known_loop (n := n) (t := t) (l := l) hS h0 h1 hc Q.length ((Q.length : Int) - 1) (by omega) (by omega) h3 with ⟨j, j0, j1, j2, e1, e2⟩ | h
 ·refine .inl ⟨j, j0, j1, j2, now_lt ?_, e1, e2⟩
  have := hS.2 _ (ix_mem j0 j1)
  unfold VarB at this
  omega
 ·exact .inr h
theorem place_both (hS : Sc Q S) (h0 : 0 ≤ i) (h1 : i ≤ c.length) (hc : c.length ≤ 4000) (h3 : Q.length ≤ 3) :
  (∃ j : Int, 0 ≤ j ∧ j < Q.length ∧ 120 ≤ ix Q j ∧ ix Q j ≤ 122 ∧ i < c.length ∧ logic_reader_place c i n t Q = some (.inl (j, c, i + 1, n, t, Q)) ∧ r5_Reader_place c i n t S 0 0 l = some (j, c, i + 1, n, t, S, l, 0, 0)) ∨
  (∃ cd, cd ≠ 0 ∧ logic_reader_place c i n t Q = some (.inr (cd, i)) ∧ r5_Reader_place c i n t S 0 0 l = some (0, c, i, n, t, S, l, cd, i)) := by
 unfold logic_reader_place r5_Reader_place
 rw [p_now h0 h1, r_ok, r_now h0]
 simp only [Option.bind_some, decide_true, Bool.not_true, Bool.false_eq_true, if_false, place_eq]
 by_cases hp : 120 ≤ nowT c i ∧ nowT c i ≤ 122
 ·have q1 : ¬ nowT c i < 120 := by omega
  have q2 : ¬ 122 < nowT c i := by omega
  simp only [hp, and_self, decide_true, Bool.not_true, Bool.false_eq_true, if_false, q1, q2, decide_false]
  unfold logic_reader_place_J2 r5_Reader_place_J5
  simp only [Bool.false_eq_true, if_false]
  rcases known_both (n := n) (t := t) (l := l) hS h0 h1 hc h3 with ⟨j, j0, j1, j2, j3, e1, e2⟩ | ⟨e1, e2⟩
  ·rw [e1, e2]
   exact .inl ⟨j, j0, j1, by omega, by omega, j3, rfl, rfl⟩
  ·rw [e1, e2]
   exact .inr ⟨5, by decide, rfl, rfl⟩
 ·simp only [hp, decide_false, Bool.not_false, if_true, p_fail, pbind_inr]
  have key : r5_Reader_place_J5 c i n t S 0 0 l true = some (0, c, i, n, t, S, l, 4, i) := by
   unfold r5_Reader_place_J5
   simp [r_fail]
  right
  refine ⟨4, by decide, rfl, ?_⟩
  by_cases q1 : nowT c i < 120
  ·simpa [q1] using key
  ·have q2 : 122 < nowT c i := by omega
   simpa [q1, q2] using key
end
/-! ### the tree stands in the list -/
def vT (x : NR) : ND := x
def iT (x : NR) : ND := (x.1, 0, 0, 0, x.2.2.2.2.1, ())
def plc (Q : List Int) (j : Int) : Prop := 0 ≤ j ∧ j < Q.length ∧ 120 ≤ ix Q j ∧ ix Q j ≤ 122
def stv (Q : List Int) (j : Int) : Prop := 0 ≤ j ∧ j < Q.length ∧ 88 ≤ ix Q j ∧ ix Q j ≤ 90
def atomOK (Q : List Int) (x : NR) : Prop := x.2.2.2.2.1 = false ∧ ((x.1 = 0 ∧ 0 ≤ x.2.1 ∧ x.2.1 ≤ 1 ∧ plc Q x.2.2.1 ∧ x.2.2.2.1 = 0) ∨ ((x.1 = 1 ∨ x.1 = 2 ∨ x.1 = 3) ∧ x.2.1 = 0 ∧ plc Q x.2.2.1 ∧ plc Q x.2.2.2.1) ∨ (x.1 = 4 ∧ x.2.1 = 0 ∧ plc Q x.2.2.1 ∧ stv Q x.2.2.2.1))
inductive Stn (l : L5) : List Int → Tr ND → Int → Prop
 | atom (Q : List Int) (k : Int) (h0 : 0 ≤ k) (h1 : k < l.length) (h : atomOK Q (ix l k)) : Stn l Q (Tr.mk (vT (ix l k)) []) k
 | no (Q : List Int) (k : Int) (a : Tr ND) (h0 : 0 ≤ k) (h1 : k < l.length) (hk : (ix l k).1 = 5) (hs : (ix l k).2.2.2.2.1 = false) (ha : Stn l Q a (ix l k).2.2.1) : Stn l Q (Tr.mk (iT (ix l k)) [a]) k
 | two (Q : List Int) (k : Int) (a b : Tr ND) (h0 : 0 ≤ k) (h1 : k < l.length) (hk : (ix l k).1 = 6 ∨ (ix l k).1 = 7) (hs : (ix l k).2.2.2.2.1 = false) (ha : Stn l Q a (ix l k).2.2.1) (hb : Stn l Q b (ix l k).2.2.2.1) : Stn l Q (Tr.mk (iT (ix l k)) [a, b]) k
 | quant (Q : List Int) (k : Int) (a : Tr ND) (v : Int) (h0 : 0 ≤ k) (h1 : k < l.length) (hk : (ix l k).1 = 8 ∨ (ix l k).1 = 9) (hv : VarB v) (hs : (ix l k).2.2.2.2.1 = decide (88 ≤ v ∧ v ≤ 90)) (hd : Q.length < 3) (ha : Stn l (Q ++ [v]) a (ix l k).2.2.1) : Stn l Q (Tr.mk (iT (ix l k)) [a]) k
theorem Stn.mono {l m : L5} {Q : List Int} {t : Tr ND} {k : Int} (h : Stn l Q t k) : Stn (l ++ m) Q t k := by
 induction h with
 | atom Q k h0 h1 h =>
  have e : ix (l ++ m) k = ix l k := ix_append_left h0 h1
  rw [← e] at h ⊢
  exact .atom Q k h0 (by simp; omega) h
 | no Q k a h0 h1 hk hs ha iha =>
  have e : ix (l ++ m) k = ix l k := ix_append_left h0 h1
  rw [← e] at hk hs iha ⊢
  exact .no Q k a h0 (by simp; omega) hk hs iha
 | two Q k a b h0 h1 hk hs ha hb iha ihb =>
  have e : ix (l ++ m) k = ix l k := ix_append_left h0 h1
  rw [← e] at hk hs iha ihb ⊢
  exact .two Q k a b h0 (by simp; omega) hk hs iha ihb
 | quant Q k a v h0 h1 hk hv hs hd ha iha =>
  have e : ix (l ++ m) k = ix l k := ix_append_left h0 h1
  rw [← e] at hk hs iha ⊢
  exact .quant Q k a v h0 (by simp; omega) hk hv hs hd iha
theorem Stn.put_atom {l : L5} {Q : List Int} {x : NR} (h : atomOK Q x) : Stn (l ++ [x]) Q (Tr.mk (vT x) []) l.length := by
 have e : ix (l ++ [x]) (l.length : Int) = x := ix_append_last
 have := Stn.atom (l := l ++ [x]) Q l.length (by omega) (by simp; omega) (by rw [e]; exact h)
 rw [e] at this; exact this
theorem Stn.put_no {l : L5} {Q : List Int} {A : Int} {a : Tr ND} (ha : Stn l Q a A) : Stn (l ++ [(5, 0, A, 0, false, ())]) Q (Tr.mk (5, 0, 0, 0, false, ()) [a]) l.length := by
 have e : ix (l ++ [((5, 0, A, 0, false, ()) : NR)]) (l.length : Int) = (5, 0, A, 0, false, ()) := ix_append_last
 have := Stn.no (l := l ++ [(5, 0, A, 0, false, ())]) Q l.length a (by omega) (by simp; omega) (by rw [e]) (by rw [e]) (by rw [e]; exact ha.mono)
 rw [e] at this; exact this
theorem Stn.put_two {l : L5} {Q : List Int} {K A B : Int} {a b : Tr ND} (hk : K = 6 ∨ K = 7) (ha : Stn l Q a A) (hb : Stn l Q b B) : Stn (l ++ [(K, 0, A, B, false, ())]) Q (Tr.mk (K, 0, 0, 0, false, ()) [a, b]) l.length := by
 have e : ix (l ++ [((K, 0, A, B, false, ()) : NR)]) (l.length : Int) = (K, 0, A, B, false, ()) := ix_append_last
 have := Stn.two (l := l ++ [(K, 0, A, B, false, ())]) Q l.length a b (by omega) (by simp; omega) (by rw [e]; exact hk) (by rw [e]) (by rw [e]; exact ha.mono) (by rw [e]; exact hb.mono)
 rw [e] at this; exact this
theorem Stn.put_quant {l : L5} {Q : List Int} {K A v : Int} {a : Tr ND} (hk : K = 8 ∨ K = 9) (hv : VarB v) (hd : Q.length < 3) (ha : Stn l (Q ++ [v]) a A) :
  Stn (l ++ [(K, 0, A, 0, decide (88 ≤ v ∧ v ≤ 90), ())]) Q (Tr.mk (K, 0, 0, 0, decide (88 ≤ v ∧ v ≤ 90), ()) [a]) l.length := by
 have e : ix (l ++ [((K, 0, A, 0, decide (88 ≤ v ∧ v ≤ 90), ()) : NR)]) (l.length : Int) = (K, 0, A, 0, decide (88 ≤ v ∧ v ≤ 90), ()) := ix_append_last
 have := Stn.quant (l := l ++ [(K, 0, A, 0, decide (88 ≤ v ∧ v ≤ 90), ())]) Q l.length a v (by omega) (by simp; omega) (by rw [e]; exact hk) hv (by rw [e]) hd (by rw [e]; exact ha.mono)
 rw [e] at this; exact this
def Ext (l l' : L5) : Prop := ∃ m, l' = l ++ m
theorem Ext.refl (l : L5) : Ext l l := ⟨[], by simp⟩
theorem Ext.trans {l l' l2 : L5} (h : Ext l l') (h2 : Ext l' l2) : Ext l l2 := by
 obtain ⟨m, rfl⟩ := h; obtain ⟨m', rfl⟩ := h2; exact ⟨m ++ m', by simp⟩
theorem Ext.snoc (l : L5) (x : NR) : Ext l (l ++ [x]) := ⟨[x], rfl⟩
theorem Ext.put {l l' : L5} (h : Ext l l') (x : NR) : Ext l (l' ++ [x]) := h.trans (Ext.snoc l' x)
theorem Ext.stn {l l' : L5} (h : Ext l l') {Q : List Int} {t : Tr ND} {k : Int} (h2 : Stn l Q t k) : Stn l' Q t k := by
 obtain ⟨m, rfl⟩ := h; exact h2.mono
/-! ### both alike -/
structure Pre (c : List UInt8) (i n t : Int) (Q : List Int) (S : List UInt8) (l : L5) : Prop where
 i0 : 0 ≤ i
 i1 : i ≤ c.length
 c1 : c.length ≤ 4000
 n0 : 0 ≤ n
 n1 : n ≤ 30
 t0 : 0 ≤ t
 t1 : t ≤ 40
 q1 : Q.length ≤ 3
 sc : Sc Q S
 l1 : (l.length : Int) ≤ n
def Sm (c : List UInt8) (i n t : Int) (Q : List Int) (S : List UInt8) (l : L5) (o : Option ((Tr ND × List UInt8 × Int × Int × Int × List Int) ⊕ (Int × Int))) (r : Option (Int × List UInt8 × Int × Int × Int × List UInt8 × L5 × Int × Int)) : Prop :=
 (∃ a b i' n' l', o = some (.inl (a, c, i', n', t, Q)) ∧ r = some (b, c, i', n', t, S, l', 0, 0) ∧ i < i' ∧ i' ≤ c.length ∧ n ≤ n' ∧ n' ≤ 30 ∧ (l'.length : Int) + n ≤ l.length + n' ∧ Ext l l' ∧ Stn l' Q a b ∧ (b + 1 = l'.length))
 ∨ (∃ cd pl b i' n' S' l', o = some (.inr (cd, pl)) ∧ r = some (b, c, i', n', t, S', l', cd, pl) ∧ cd ≠ 0 ∧ 0 ≤ i' ∧ i' ≤ c.length + 4 * (41 - t) ∧ n ≤ n' ∧ n' ≤ 31 ∧ (l'.length : Int) + n ≤ l.length + n')
def Part (c : List UInt8) (m : Nat) : Prop := ∀ i n t Q S l, Pre c i n t Q S l → ((c.length : Int) - i).toNat ≤ m → Sm c i n t Q S l (logic_reader_part logic_reader_formula c i n t Q) (r5_Reader_part c i n t S 0 0 l)
def Term (c : List UInt8) (m : Nat) : Prop := ∀ i n t Q S l, Pre c i n t Q S l → ((c.length : Int) - i).toNat ≤ m → Sm c i n t Q S l (logic_reader_term logic_reader_formula c i n t Q) (r5_Reader_term r5_Reader_part c i n t S 0 0 l)
def Form (c : List UInt8) (m : Nat) : Prop := ∀ i n t Q S l, Pre c i n t Q S l → ((c.length : Int) - i).toNat ≤ m → Sm c i n t Q S l (logic_reader_formula c i n t Q) (r5_Reader_formula r5_Reader_part c i n t S 0 0 l)
/-- As 'Sm', where what stands ahead is part of the answer. -/
def SmL (c : List UInt8) (i n t : Int) (Q : List Int) (S : List UInt8) (l : L5) (o : Option ((Tr ND × List UInt8 × Int × Int × Int × List Int) ⊕ (Int × Int))) (r : Option (Int × List UInt8 × Int × Int × Int × List UInt8 × L5 × Int × Int)) : Prop :=
 (∃ a b i' n' l', o = some (.inl (a, c, i', n', t, Q)) ∧ r = some (b, c, i', n', t, S, l', 0, 0) ∧ i ≤ i' ∧ i' ≤ c.length ∧ n ≤ n' ∧ n' ≤ 30 ∧ (l'.length : Int) + n ≤ l.length + n' ∧ Ext l l' ∧ Stn l' Q a b ∧ (b + 1 = l'.length))
 ∨ (∃ cd pl b i' n' S' l', o = some (.inr (cd, pl)) ∧ r = some (b, c, i', n', t, S', l', cd, pl) ∧ cd ≠ 0 ∧ 0 ≤ i' ∧ i' ≤ c.length + 4 * (41 - t) ∧ n ≤ n' ∧ n' ≤ 31 ∧ (l'.length : Int) + n ≤ l.length + n')
theorem term_loop {c : List UInt8} : ∀ m : Nat, (∀ m' < m, Part c m') → ∀ a b i n t Q S l, Pre c i n t Q S l → Stn l Q a b → b + 1 = l.length → ((c.length : Int) - i).toNat ≤ m →
  SmL c i n t Q S l (logic_reader_term_L2 logic_reader_formula a c i n t Q) (r5_Reader_term_L2 r5_Reader_part b c i n t S 0 0 l) := by
 intro m
 induction m using Nat.strongRecOn with
 | ind m ih =>
  intro hP a b i n t Q S l hp hab hbl hm
  obtain ⟨i0, i1, c1, n0, n1, t0, t1, q1, sc, l1⟩ := hp
  rw [logic_reader_term_L2_eq, r5_Reader_term_L2_eq]
  unfold logic_reader_term_L2_B r5_Reader_term_L2_B
  rw [p_now i0 i1, r_now i0]
  simp only [Option.bind_some]
  rw [r_ok]
  by_cases hb : nowT c i = 38
  ·have hlt : i < c.length := now_lt (by rw [hb]; decide)
   have fi : fits (i + 1) := fits_of (by omega) (by omega)
   simp only [hb, Option.bind_some, decide_true, not_true_eq_false, decide_false, Bool.not_true, Bool.false_eq_true, if_true, if_false]
   rw [p_counted ⟨n0, by omega⟩, r_counted i ⟨n0, by omega⟩]
   by_cases hbad : 30 < n + 1
   ·simp only [hbad, if_true, pbind_inr, Option.bind_some, G_pos fi]
    rw [f_part (by decide)]
    simp only [Option.bind_some]
    rw [r_put (by omega)]
    simp only [Option.bind_some]
    rw [f_termL (by decide) (by omega)]
    exact .inr ⟨7, i, _, _, _, _, _, rfl, rfl, by decide, by omega, by omega, by omega, by omega, by simp; omega⟩
   ·simp only [hbad, if_false, pbind_inl, Option.bind_some, G_pos fi]
    rcases hP (((c.length : Int) - (i + 1)).toNat) (by omega) (i + 1) (n + 1) t Q S l ⟨by omega, by omega, c1, by omega, by omega, t0, t1, q1, sc, by omega⟩ (Nat.le_refl _) with
     ⟨a1, b1, i', n', l', e1, e2, g1, g2, g3, g4, g5, g6, g7, g8⟩ | ⟨cd, pl, b1, i', n', S', l', e1, e2, g1, g2, g3, g3', g4, g5⟩
    ·simp only [e1, e2, pbind_inl, Option.bind_some]
     rw [r_put (by omega)]
     simp only [Option.bind_some]
     have hst := Stn.put_two (l := l') (K := 6) (.inl rfl) (g6.stn hab) g7
     rcases ih (((c.length : Int) - i').toNat) (by omega) (fun m' hm' => hP m' (by omega)) _ (l'.length : Int) i' n' t Q S (l' ++ [(6, 0, b, b1, false, ())])
      ⟨by omega, g2, c1, by omega, g4, t0, t1, q1, sc, by simp; omega⟩ hst (by simp) (Nat.le_refl _) with
      ⟨a2, b2, i2, n2, l3, z1, z2, z3, z4, z5, z6, z7, z8, z9, z10⟩ | ⟨cd, pl, b2, i2, n2, S2, l3, z1, z2, z3, z4, z5, z5', z6, z7⟩
     ·exact .inl ⟨a2, b2, i2, n2, l3, z1, z2, by omega, z4, by omega, z6, by simp at z7; omega, (g6.put _).trans z8, z9, z10⟩
     ·exact .inr ⟨cd, pl, b2, i2, n2, S2, l3, z1, z2, z3, z4, z5, by omega, z6, by simp at z7; omega⟩
    ·simp only [e1, e2, pbind_inr, Option.bind_some]
     rw [r_put (by omega)]
     simp only [Option.bind_some]
     rw [f_termL g1 g2]
     exact .inr ⟨cd, pl, _, _, _, _, _, rfl, rfl, g1, g2, g3, by omega, g4, by simp; omega⟩
  ·simp only [hb, Option.bind_some, decide_true, not_false_eq_true, decide_false, Bool.not_true, Bool.false_eq_true, if_true, if_false]
   exact .inl ⟨a, b, i, n, l, rfl, rfl, by omega, i1, by omega, n1, by omega, .refl l, hab, hbl⟩
theorem term_of {c : List UInt8} {m : Nat} (hP : ∀ m' ≤ m, Part c m') : Term c m := by
 intro i n t Q S l hp hm
 have hp' := hp
 obtain ⟨i0, i1, c1, n0, n1, t0, t1, q1, sc, l1⟩ := hp
 unfold logic_reader_term r5_Reader_term
 rcases hP m (Nat.le_refl _) i n t Q S l hp' hm with
  ⟨a1, b1, i', n', l', e1, e2, g1, g2, g3, g4, g5, g6, g7, g8⟩ | ⟨cd, pl, b1, i', n', S', l', e1, e2, g1, g2, g3, g3', g4, g5⟩
 ·simp only [e1, e2, pbind_inl, Option.bind_some]
  rcases term_loop m (fun m' hm' => hP m' (by omega)) a1 b1 i' n' t Q S l' ⟨by omega, g2, c1, by omega, g4, t0, t1, q1, sc, by omega⟩ g7 g8 (by omega) with
   ⟨a2, b2, i2, n2, l3, z1, z2, z3, z4, z5, z6, z7, z8, z9, z10⟩ | ⟨cd, pl, b2, i2, n2, S2, l3, z1, z2, z3, z4, z5, z5', z6, z7⟩
  ·exact .inl ⟨a2, b2, i2, n2, l3, z1, z2, by omega, z4, by omega, z6, by omega, g6.trans z8, z9, z10⟩
  ·exact .inr ⟨cd, pl, b2, i2, n2, S2, l3, z1, z2, z3, z4, z5, by omega, z6, by omega⟩
 ·simp only [e1, e2, pbind_inr, Option.bind_some]
  rw [f_termL g1 g2]
  exact .inr ⟨cd, pl, _, _, _, _, _, rfl, rfl, g1, g2, g3, g3', g4, g5⟩
theorem form_loop {c : List UInt8} : ∀ m : Nat, (∀ m' < m, Term c m') → ∀ a b i n t Q S l, Pre c i n t Q S l → Stn l Q a b → b + 1 = l.length → ((c.length : Int) - i).toNat ≤ m →
  SmL c i n t Q S l (logic_reader_formula_L2 logic_reader_formula a c i n t Q) (r5_Reader_formula_L2 r5_Reader_part b c i n t S 0 0 l) := by
 intro m
 induction m using Nat.strongRecOn with
 | ind m ih =>
  intro hP a b i n t Q S l hp hab hbl hm
  obtain ⟨i0, i1, c1, n0, n1, t0, t1, q1, sc, l1⟩ := hp
  rw [logic_reader_formula_L2_eq, r5_Reader_formula_L2_eq]
  unfold logic_reader_formula_L2_B r5_Reader_formula_L2_B
  rw [p_now i0 i1, r_now i0]
  simp only [Option.bind_some]
  rw [r_ok]
  by_cases hb : nowT c i = 124
  ·have hlt : i < c.length := now_lt (by rw [hb]; decide)
   have fi : fits (i + 1) := fits_of (by omega) (by omega)
   simp only [hb, Option.bind_some, decide_true, not_true_eq_false, decide_false, Bool.not_true, Bool.false_eq_true, if_true, if_false]
   rw [p_counted ⟨n0, by omega⟩, r_counted i ⟨n0, by omega⟩]
   by_cases hbad : 30 < n + 1
   ·simp only [hbad, if_true, pbind_inr, Option.bind_some, G_pos fi]
    rw [f_term (by decide) (by omega)]
    simp only [Option.bind_some]
    rw [r_put (by omega)]
    simp only [Option.bind_some]
    rw [f_formL (by decide) (by omega)]
    exact .inr ⟨7, i, _, _, _, _, _, rfl, rfl, by decide, by omega, by omega, by omega, by omega, by simp; omega⟩
   ·simp only [hbad, if_false, pbind_inl, Option.bind_some, G_pos fi]
    rcases hP (((c.length : Int) - (i + 1)).toNat) (by omega) (i + 1) (n + 1) t Q S l ⟨by omega, by omega, c1, by omega, by omega, t0, t1, q1, sc, by omega⟩ (Nat.le_refl _) with
     ⟨a1, b1, i', n', l', e1, e2, g1, g2, g3, g4, g5, g6, g7, g8⟩ | ⟨cd, pl, b1, i', n', S', l', e1, e2, g1, g2, g3, g3', g4, g5⟩
    ·simp only [e1, e2, pbind_inl, Option.bind_some]
     rw [r_put (by omega)]
     simp only [Option.bind_some]
     have hst := Stn.put_two (l := l') (K := 7) (.inr rfl) (g6.stn hab) g7
     rcases ih (((c.length : Int) - i').toNat) (by omega) (fun m' hm' => hP m' (by omega)) _ (l'.length : Int) i' n' t Q S (l' ++ [(7, 0, b, b1, false, ())])
      ⟨by omega, g2, c1, by omega, g4, t0, t1, q1, sc, by simp; omega⟩ hst (by simp) (Nat.le_refl _) with
      ⟨a2, b2, i2, n2, l3, z1, z2, z3, z4, z5, z6, z7, z8, z9, z10⟩ | ⟨cd, pl, b2, i2, n2, S2, l3, z1, z2, z3, z4, z5, z5', z6, z7⟩
     ·exact .inl ⟨a2, b2, i2, n2, l3, z1, z2, by omega, z4, by omega, z6, by simp at z7; omega, (g6.put _).trans z8, z9, z10⟩
     ·exact .inr ⟨cd, pl, b2, i2, n2, S2, l3, z1, z2, z3, z4, z5, by omega, z6, by simp at z7; omega⟩
    ·simp only [e1, e2, pbind_inr, Option.bind_some]
     rw [r_put (by omega)]
     simp only [Option.bind_some]
     rw [f_formL g1 g2]
     exact .inr ⟨cd, pl, _, _, _, _, _, rfl, rfl, g1, g2, g3, by omega, g4, by simp; omega⟩
  ·simp only [hb, Option.bind_some, decide_true, not_false_eq_true, decide_false, Bool.not_true, Bool.false_eq_true, if_true, if_false]
   exact .inl ⟨a, b, i, n, l, rfl, rfl, by omega, i1, by omega, n1, by omega, .refl l, hab, hbl⟩
theorem form_of {c : List UInt8} {m : Nat} (hP : ∀ m' ≤ m, Term c m') : Form c m := by
 intro i n t Q S l hp hm
 have hp' := hp
 obtain ⟨i0, i1, c1, n0, n1, t0, t1, q1, sc, l1⟩ := hp
 rw [logic_reader_formula_eq]
 unfold logic_reader_formula_B r5_Reader_formula
 rcases hP m (Nat.le_refl _) i n t Q S l hp' hm with
  ⟨a1, b1, i', n', l', e1, e2, g1, g2, g3, g4, g5, g6, g7, g8⟩ | ⟨cd, pl, b1, i', n', S', l', e1, e2, g1, g2, g3, g3', g4, g5⟩
 ·simp only [e1, e2, pbind_inl, Option.bind_some]
  rcases form_loop m (fun m' hm' => hP m' (by omega)) a1 b1 i' n' t Q S l' ⟨by omega, g2, c1, by omega, g4, t0, t1, q1, sc, by omega⟩ g7 g8 (by omega) with
   ⟨a2, b2, i2, n2, l3, z1, z2, z3, z4, z5, z6, z7, z8, z9, z10⟩ | ⟨cd, pl, b2, i2, n2, S2, l3, z1, z2, z3, z4, z5, z5', z6, z7⟩
  ·exact .inl ⟨a2, b2, i2, n2, l3, z1, z2, by omega, z4, by omega, z6, by omega, g6.trans z8, z9, z10⟩
  ·exact .inr ⟨cd, pl, b2, i2, n2, S2, l3, z1, z2, z3, z4, z5, by omega, z6, by omega⟩
 ·simp only [e1, e2, pbind_inr, Option.bind_some]
  rw [f_formL g1 g2]
  exact .inr ⟨cd, pl, _, _, _, _, _, rfl, rfl, g1, g2, g3, g3', g4, g5⟩
theorem atom_both {c : List UInt8} {i n t : Int} {Q : List Int} {S : List UInt8} {l : L5} (hp : Pre c i n t Q S l) : Sm c i n t Q S l (logic_reader_atom c i n t Q) (r5_Reader_atom (nowT c i) c i n t S 0 0 l) := by
 have hp' := hp
 obtain ⟨i0, i1, c1, n0, n1, t0, t1, q1, sc, l1⟩ := hp
 unfold logic_reader_atom r5_Reader_atom
 rw [p_now i0 i1]
 simp only [Option.bind_some]
 have fi : fits (i + 1) := fits_of (by omega) (by omega)
 have fi2 : fits (i + 1 + 1) := fits_of (by omega) (by omega)
 have j2 : ∀ b, (b = true → nowT c i = 97 ∨ nowT c i = 98) → Sm c i n t Q S l (logic_reader_atom_J2 c i n t Q (nowT c i) b) (r5_Reader_atom_J2 (nowT c i) c i n t S 0 0 l b) := by
  intro b hb
  unfold logic_reader_atom_J2 r5_Reader_atom_J2
  cases b with
  | true =>
   have hx := hb rfl
   have hlt : i < c.length := now_lt (by omega)
   simp only [if_true]
   rw [p_counted ⟨n0, by omega⟩, r_counted i ⟨n0, by omega⟩]
   by_cases hbad : 30 < n + 1
   ·simp only [hbad, if_true, pbind_inr, Option.bind_some, G_pos fi]
    rw [f_place (by decide)]
    simp only [Option.bind_some]
    rw [r_put (by omega)]
    simp only [Option.bind_some]
    exact .inr ⟨7, i, _, _, _, _, _, rfl, rfl, by decide, by omega, by omega, by omega, by omega, by simp; omega⟩
   ·simp only [hbad, if_false, pbind_inl, Option.bind_some, G_pos fi]
    rcases place_both (n := n + 1) (t := t) (l := l) sc (show 0 ≤ i + 1 by omega) (by omega) c1 q1 with ⟨j, j0, j1, j2, j3, j4, e1, e2⟩ | ⟨cd, hcd, e1, e2⟩
    ·simp only [e1, e2, pbind_inl, Option.bind_some]
     rw [r_put (by omega)]
     simp only [Option.bind_some]
     have e : IntKind.wrap .i64 (IntKind.wrap .u8 (nowT c i - 97)) = nowT c i - 97 := by rw [wr8 (by omega) (by omega), wr64 (by omega) (by omega)]
     rw [e]
     exact .inl ⟨_, _, _, _, _, rfl, rfl, by omega, by omega, by omega, by omega, by simp; omega, Ext.snoc l _, Stn.put_atom (x := (0, nowT c i - 97, j, 0, false, ())) ⟨rfl, .inl ⟨rfl, by show 0 ≤ nowT c i - 97; omega, by show nowT c i - 97 ≤ 1; omega, ⟨j0, j1, j2, j3⟩, rfl⟩⟩, by simp⟩
    ·simp only [e1, e2, pbind_inr, Option.bind_some]
     rw [r_put (by omega)]
     simp only [Option.bind_some]
     exact .inr ⟨cd, i + 1, _, _, _, _, _, rfl, rfl, hcd, by omega, by omega, by omega, by omega, by simp; omega⟩
  | false =>
   simp only [Bool.false_eq_true, if_false, set_eq, place_eq, Option.bind_some]
   by_cases hset : 88 ≤ nowT c i ∧ nowT c i ≤ 90
   ·have hlt : i < c.length := now_lt (by omega)
    simp only [hset, and_self, decide_true, if_true]
    unfold r5_Reader_atom_J7
    simp only [if_true]
    rcases known_both (n := n) (t := t) (l := l) sc i0 i1 c1 q1 with ⟨y, y0, y1, y2, y3, e1, e2⟩ | ⟨e1, e2⟩
    ·simp only [e1, e2, pbind_inl, Option.bind_some]
     rw [p_counted ⟨n0, by omega⟩, r_counted i ⟨n0, by omega⟩]
     by_cases hbad : 30 < n + 1
     ·simp only [hbad, if_true, pbind_inr, Option.bind_some]
      rw [f_place (by decide)]
      simp only [Option.bind_some]
      rw [r_put (by omega)]
      simp only [Option.bind_some]
      exact .inr ⟨7, i, _, _, _, _, _, rfl, rfl, by decide, by omega, by omega, by omega, by omega, by simp; omega⟩
     ·simp only [hbad, if_false, pbind_inl, Option.bind_some, G_pos fi]
      rcases place_both (n := n + 1) (t := t) (l := l) sc (show 0 ≤ i + 1 by omega) (by omega) c1 q1 with ⟨j, j0, j1, j2, j3, j4, z1, z2⟩ | ⟨cd, hcd, z1, z2⟩
      ·simp only [z1, z2, pbind_inl, Option.bind_some]
       rw [r_put (by omega)]
       simp only [Option.bind_some]
       exact .inl ⟨_, _, _, _, _, rfl, rfl, by omega, by omega, by omega, by omega, by simp; omega, Ext.snoc l _, Stn.put_atom (x := (4, 0, j, y, false, ())) ⟨rfl, .inr (.inr ⟨rfl, rfl, ⟨j0, j1, j2, j3⟩, ⟨y0, y1, by show 88 ≤ ix Q y; omega, by show ix Q y ≤ 90; omega⟩⟩)⟩, by simp⟩
      ·simp only [z1, z2, pbind_inr, Option.bind_some]
       rw [r_put (by omega)]
       simp only [Option.bind_some]
       exact .inr ⟨cd, i + 1, _, _, _, _, _, rfl, rfl, hcd, by omega, by omega, by omega, by omega, by simp; omega⟩
    ·simp only [e1, e2, pbind_inr, Option.bind_some]
     rw [f_counted (by decide) _ ⟨n0, by omega⟩]
     simp only [Option.bind_some]
     rw [f_place (by decide)]
     simp only [Option.bind_some]
     rw [r_put (by omega)]
     simp only [Option.bind_some]
     exact .inr ⟨5, i, _, _, _, _, _, rfl, rfl, by decide, by omega, by omega, by omega, by omega, by simp; omega⟩
   ·have key : Sm c i n t Q S l (if decide (88 ≤ nowT c i ∧ nowT c i ≤ 90) = true then none else if decide (120 ≤ nowT c i ∧ nowT c i ≤ 122) = true then
      pbind (logic_reader_known c i n t Q) (fun y'_42 =>
       pbind (logic_reader_counted y'_42.2.1 i y'_42.2.2.2.1 y'_42.2.2.2.2.1 y'_42.2.2.2.2.2) (fun y'_48 =>
       G (fits (y'_48.2.1 + (1 : Int))) (
       (logic_reader_now (y'_48.1, (y'_48.2.1 + (1 : Int), (y'_48.2.2.1, (y'_48.2.2.2.1, (y'_48.2.2.2.2, ())))))).bind (fun y'_49 =>
       (strings_IndexByte ([60, 61, 126]) y'_49).bind (fun y'_50 =>
       if (decide (y'_50 < (0 : Int))) = true then
       logic_reader_atom_J23 y'_42.1 y'_48.1 y'_48.2.1 y'_48.2.2.1 y'_48.2.2.2.1 y'_48.2.2.2.2 y'_50 true else
       (logic_reader_now (y'_48.1, (y'_48.2.1 + (1 : Int), (y'_48.2.2.1, (y'_48.2.2.2.1, (y'_48.2.2.2.2, ())))))).bind (fun y'_59 =>
       logic_reader_atom_J23 y'_42.1 y'_48.1 y'_48.2.1 y'_48.2.2.1 y'_48.2.2.2.1 y'_48.2.2.2.2 y'_50 (decide (y'_59 = (0 : Int)))))))) (fun p => some (.inr (p.1, p.2)))) (fun p => some (.inr (p.1, p.2))) else
      pbind (logic_reader_fail (c, (i, (n, (t, (Q, ()))))) (4 : Int) i) (fun _ =>
       some (.inl (Tr.nil, c, i, n, t, Q))) (fun p => some (.inr (p.1, p.2))))
      (r5_Reader_atom_J7 (nowT c i) c i n t S 0 0 l false) := by
     unfold r5_Reader_atom_J7
     simp only [hset, decide_false, Bool.false_eq_true, if_false]
     by_cases hpl : 120 ≤ nowT c i ∧ nowT c i ≤ 122
     ·have hlt : i < c.length := now_lt (by omega)
      have q2 : ¬ nowT c i < 120 := by omega
      have q3 : ¬ 122 < nowT c i := by omega
      simp only [hpl, and_self, decide_true, if_true, q2, q3, decide_false, Bool.false_eq_true, if_false]
      unfold r5_Reader_atom_J12
      simp only [Bool.false_eq_true, if_false]
      rcases known_both (n := n) (t := t) (l := l) sc i0 i1 c1 q1 with ⟨x, x0, x1, x2, x3, e1, e2⟩ | ⟨e1, e2⟩
      ·simp only [e1, e2, pbind_inl, Option.bind_some]
       rw [p_counted ⟨n0, by omega⟩, r_counted i ⟨n0, by omega⟩]
       by_cases hbad : 30 < n + 1
       ·simp only [hbad, if_true, pbind_inr, Option.bind_some]
        rw [r_now (by omega)]
        simp only [Option.bind_some]
        have j20 : ∀ k, Sm c i n t Q S l (some (.inr (7, i))) (r5_Reader_atom_J20 x k c (i + 1) (n + 1) t S 7 i l) := by
         intro k
         unfold r5_Reader_atom_J20
         rw [G_pos fi2, f_place (by decide)]
         simp only [Option.bind_some]
         rw [r_put (by omega)]
         simp only [Option.bind_some]
         exact .inr ⟨7, i, _, _, _, _, _, rfl, rfl, by decide, by omega, by omega, by omega, by omega, by simp; omega⟩
        by_cases h60 : nowT c (i + 1) = 60
        ·simpa [h60] using j20 1
        ·by_cases h61 : nowT c (i + 1) = 61
         ·simpa [h60, h61] using j20 2
         ·by_cases h126 : nowT c (i + 1) = 126
          ·simpa [h60, h61, h126] using j20 3
          ·simpa [h60, h61, h126, r_fail] using j20 0
       ·simp only [hbad, if_false, pbind_inl, Option.bind_some, G_pos fi]
        rw [p_now (by omega) (by omega), r_now (by omega)]
        unfold strings_IndexByte stringslite_IndexByte
        simp only [Option.bind_some]
        rw [cmp_all now_byte.1 now_byte.2]
        have good : ∀ (k ch : Int), nowT c (i + 1) = ch → ch ≠ 0 → (k = 0 ∨ k = 1 ∨ k = 2) → Sm c i n t Q S l (logic_reader_atom_J23 x c i (n + 1) t Q k (decide (ch = 0))) (r5_Reader_atom_J20 x (1 + k) c (i + 1) (n + 1) t S 0 0 l) := by
         intro k ch hch hne hk
         have hlt2 : i + 1 < c.length := now_lt (by omega)
         unfold logic_reader_atom_J23 logic_reader_atom_J24 r5_Reader_atom_J20
         have fk : fits (1 + k) := fits_of (by omega) (by omega)
         simp only [hne, decide_false, Bool.false_eq_true, if_false, G_pos fk, G_pos fi2]
         rcases place_both (n := n + 1) (t := t) (l := l) sc (show 0 ≤ i + 1 + 1 by omega) (by omega) c1 q1 with ⟨j, j0, j1, j2, j3, j4, z1, z2⟩ | ⟨cd, hcd, z1, z2⟩
         ·simp only [z1, z2, pbind_inl, Option.bind_some]
          rw [r_put (by omega)]
          simp only [Option.bind_some]
          exact .inl ⟨_, _, _, _, _, rfl, rfl, by omega, by omega, by omega, by omega, by simp; omega, Ext.snoc l _, Stn.put_atom (x := (1 + k, 0, x, j, false, ())) ⟨rfl, .inr (.inl ⟨by show 1 + k = 1 ∨ 1 + k = 2 ∨ 1 + k = 3; omega, rfl, ⟨x0, x1, by show 120 ≤ ix Q x; omega, by show ix Q x ≤ 122; omega⟩, ⟨j0, j1, j2, j3⟩⟩)⟩, by simp⟩
         ·simp only [z1, z2, pbind_inr, Option.bind_some]
          rw [r_put (by omega)]
          simp only [Option.bind_some]
          exact .inr ⟨cd, i + 1 + 1, _, _, _, _, _, rfl, rfl, hcd, by omega, by omega, by omega, by omega, by simp; omega⟩
        by_cases h60 : nowT c (i + 1) = 60
        ·have := good 0 60 h60 (by decide) (.inl rfl)
         simpa [h60] using this
        ·by_cases h61 : nowT c (i + 1) = 61
         ·have := good 1 61 h61 (by decide) (.inr (.inl rfl))
          simpa [h60, h61] using this
         ·by_cases h126 : nowT c (i + 1) = 126
          ·have := good 2 126 h126 (by decide) (.inr (.inr rfl))
           simpa [h60, h61, h126] using this
          ·have j20 : Sm c i n t Q S l (some (.inr (4, i + 1))) (r5_Reader_atom_J20 x 0 c (i + 1) (n + 1) t S 4 (i + 1) l) := by
            unfold r5_Reader_atom_J20
            rw [G_pos fi2, f_place (by decide)]
            simp only [Option.bind_some]
            rw [r_put (by omega)]
            simp only [Option.bind_some]
            exact .inr ⟨4, i + 1, _, _, _, _, _, rfl, rfl, by decide, by omega, by omega, by omega, by omega, by simp; omega⟩
           simpa [h60, h61, h126, r_fail, logic_reader_atom_J23, p_fail, pbind_inr] using j20
      ·simp only [e1, e2, pbind_inr, Option.bind_some]
       rw [f_counted (by decide) _ ⟨n0, by omega⟩]
       simp only [Option.bind_some]
       rw [r_now (by omega)]
       simp only [Option.bind_some]
       have q60 : ¬ nowT c i = 60 := by omega
       have q61 : ¬ nowT c i = 61 := by omega
       have q126 : ¬ nowT c i = 126 := by omega
       simp only [q60, q61, q126, decide_false, Bool.false_eq_true, if_false]
       rw [r_fail, if_neg (by decide)]
       simp only [Option.bind_some]
       unfold r5_Reader_atom_J20
       rw [G_pos fi, f_place (by decide)]
       simp only [Option.bind_some]
       rw [r_put (by omega)]
       simp only [Option.bind_some]
       exact .inr ⟨5, i, _, _, _, _, _, rfl, rfl, by decide, by omega, by omega, by omega, by omega, by simp; omega⟩
     ·simp only [hpl, decide_false, Bool.false_eq_true, if_false, p_fail, pbind_inr]
      have k12 : Sm c i n t Q S l (some (.inr (4, i))) (r5_Reader_atom_J12 c i n t S 0 0 l true) := by
       unfold r5_Reader_atom_J12
       simp only [if_true, r_fail, Option.bind_some]
       exact .inr ⟨4, i, _, _, _, _, _, rfl, rfl, by decide, by omega, by omega, by omega, by omega, by omega⟩
      by_cases q2 : nowT c i < 120
      ·simpa [q2] using k12
      ·have q3 : 122 < nowT c i := by omega
       simpa [q2, q3] using k12
    by_cases h88 : 88 ≤ nowT c i
    ·have h90 : ¬ nowT c i ≤ 90 := fun h => hset ⟨h88, h⟩
     simpa [hset, h88, h90] using key
    ·simpa [hset, h88] using key
 by_cases h97 : nowT c i = 97
 ·have := j2 true (fun _ => .inl h97)
  simpa [h97] using this
 ·have := j2 (decide (nowT c i = 98)) (fun h => .inr (of_decide_eq_true h))
  simpa [h97] using this
theorem bind_eta9 (o : Option (Int × List UInt8 × Int × Int × Int × List UInt8 × L5 × Int × Int)) : (o.bind fun y => some (y.1, y.2.1, y.2.2.1, y.2.2.2.1, y.2.2.2.2.1, y.2.2.2.2.2.1, y.2.2.2.2.2.2.1, y.2.2.2.2.2.2.2.1, y.2.2.2.2.2.2.2.2)) = o := by cases o <;> rfl
theorem part_of {c : List UInt8} {m : Nat} (hP : ∀ m' < m, Part c m') (hW : ∀ m' < m, Form c m') : Part c m := by
 intro i n t Q S l hp hm
 have hp' := hp
 obtain ⟨i0, i1, c1, n0, n1, t0, t1, q1, sc, l1⟩ := hp
 rw [logic_reader_part_eq, r5_Reader_part_eq]
 unfold logic_reader_part_B r5_Reader_part_B
 rw [p_now i0 i1, r_ok, r_now i0]
 simp only [Option.bind_some, decide_true, Bool.not_true, Bool.false_eq_true, if_false]
 have es : t + 1 - 1 = t := by omega
 have fs : fits t := fits_of (by omega) (by omega)
 have fi : fits (i + 1) := fits_of (by omega) (by omega)
 have fi2 : fits (i + 1 + 1) := fits_of (by omega) (by omega)
 by_cases h33 : nowT c i = 33
 ·have hlt : i < c.length := now_lt (by rw [h33]; decide)
  simp only [h33, decide_true, if_true]
  rw [p_counted ⟨n0, by omega⟩, r_counted i ⟨n0, by omega⟩]
  by_cases hbad : 30 < n + 1
  ·simp only [hbad, if_true, pbind_inr, Option.bind_some, G_pos fi]
   rw [f_part (by decide)]
   simp only [Option.bind_some]
   rw [r_put (by omega)]
   simp only [Option.bind_some]
   exact .inr ⟨7, i, _, _, _, _, _, rfl, rfl, by decide, by omega, by omega, by omega, by omega, by simp; omega⟩
  ·simp only [hbad, if_false, pbind_inl, Option.bind_some, G_pos fi]
   rcases hP (((c.length : Int) - (i + 1)).toNat) (by omega) (i + 1) (n + 1) t Q S l ⟨by omega, by omega, c1, by omega, by omega, t0, t1, q1, sc, by omega⟩ (Nat.le_refl _) with
    ⟨a1, b1, i', n', l', e1, e2, g1, g2, g3, g4, g5, g6, g7, g8⟩ | ⟨cd, pl, b1, i', n', S', l', e1, e2, g1, g2, g3, g3', g4, g5⟩
   ·simp only [e1, e2, pbind_inl, Option.bind_some]
    rw [r_put (by omega)]
    simp only [Option.bind_some]
    exact .inl ⟨_, _, _, _, _, rfl, rfl, by omega, g2, by omega, g4, by simp; omega, g6.put _, Stn.put_no g7, by simp⟩
   ·simp only [e1, e2, pbind_inr, Option.bind_some]
    rw [r_put (by omega)]
    simp only [Option.bind_some]
    exact .inr ⟨cd, pl, _, _, _, _, _, rfl, rfl, g1, g2, g3, by omega, g4, by simp; omega⟩
 ·simp only [h33, decide_false, Bool.false_eq_true, if_false]
  by_cases h40 : nowT c i = 40
  ·have hlt : i < c.length := now_lt (by rw [h40]; decide)
   simp only [h40, decide_true, if_true]
   by_cases hs : t = 40
   ·simp only [hs, decide_true, if_true, p_fail, pbind_inr, r_fail, Option.bind_some]
    exact .inr ⟨7, i, _, _, _, _, _, rfl, rfl, by decide, by omega, by omega, by omega, by omega, by omega⟩
   ·simp only [hs, decide_false, Bool.false_eq_true, if_false]
    unfold logic_reader_part_J8
    have f1 : fits (t + 1) := fits_of (by omega) (by omega)
    simp only [G_pos f1, G_pos fi]
    rcases hW (((c.length : Int) - (i + 1)).toNat) (by omega) (i + 1) n (t + 1) Q S l ⟨by omega, by omega, c1, by omega, by omega, by omega, by omega, q1, sc, by omega⟩ (Nat.le_refl _) with
     ⟨a1, b1, i', n', l', e1, e2, g1, g2, g3, g4, g5, g6, g7, g8⟩ | ⟨cd, pl, b1, i', n', S', l', e1, e2, g1, g2, g3, g3', g4, g5⟩
    ·simp only [e1, e2, pbind_inl, Option.bind_some]
     rw [p_now (by omega) g2, r_now (by omega)]
     simp only [Option.bind_some]
     have fi' : fits (i' + 1) := fits_of (by omega) (by omega)
     by_cases h41 : nowT c i' = 41
     ·have hlt3 : i' < c.length := now_lt (by rw [h41]; decide)
      simp only [h41, not_true_eq_false, decide_false, Bool.false_eq_true, if_false, es, G_pos fs, G_pos fi']
      exact .inl ⟨_, _, _, _, _, rfl, rfl, by omega, by omega, by omega, g4, by omega, g6, g7, g8⟩
     ·simp only [h41, not_false_eq_true, decide_true, if_true, p_fail, pbind_inr, r_fail, Option.bind_some, es, G_pos fs, G_pos fi']
      exact .inr ⟨4, i', _, _, _, _, _, rfl, rfl, by decide, by omega, by omega, by omega, by omega, by omega⟩
    ·simp only [e1, e2, pbind_inr, Option.bind_some]
     rw [r_now (by omega)]
     simp only [Option.bind_some]
     have fi' : fits (i' + 1) := fits_of (by omega) (by omega)
     have key : Sm c i n t Q S l (some (.inr (cd, pl))) (some (b1, c, i' + 1, n', t, S', l', cd, pl)) :=
      .inr ⟨cd, pl, _, _, _, _, _, rfl, rfl, g1, by omega, by omega, by omega, by omega, by omega⟩
     by_cases h41 : nowT c i' = 41
     ·simpa [h41, es, G_pos fs, G_pos fi'] using key
     ·simpa [h41, r_fail, g1, es, G_pos fs, G_pos fi'] using key
  ·simp only [h40, decide_false, Bool.false_eq_true, if_false]
   have j17 : ∀ b, (b = true → nowT c i = 69 ∨ nowT c i = 65) → Sm c i n t Q S l (logic_reader_part_J17 c i n t Q (logic_reader_part logic_reader_formula) (nowT c i) b) (r5_Reader_part_J23 r5_Reader_part c i n t S 0 0 l (nowT c i) b) := by
    intro b hb
    unfold logic_reader_part_J17 r5_Reader_part_J23
    cases b with
    | true =>
     have hx := hb rfl
     have hlt : i < c.length := now_lt (by omega)
     simp only [if_true]
     rw [bind_eta9]
     unfold r5_Reader_quantified
     rw [← sc.len]
     by_cases h3 : (Q.length : Int) = 3
     ·simp only [h3, decide_true, if_true, p_fail, pbind_inr, r_fail, Option.bind_some]
      exact .inr ⟨7, i, _, _, _, _, _, rfl, rfl, by decide, by omega, by omega, by omega, by omega, by omega⟩
     ·simp only [h3, decide_false, Bool.false_eq_true, if_false]
      unfold logic_reader_part_J19
      rw [p_counted ⟨n0, by omega⟩, r_counted i ⟨n0, by omega⟩]
      by_cases hbad : 30 < n + 1
      ·simp only [hbad, if_true, pbind_inr, Option.bind_some]
       rw [r_ok]
       simp only [Option.bind_some, Int.reduceEq, decide_false, Bool.not_false, if_true]
       exact .inr ⟨7, i, _, _, _, _, _, rfl, rfl, by decide, by omega, by omega, by omega, by omega, by omega⟩
      ·simp only [hbad, if_false, pbind_inl, Option.bind_some]
       rw [r_ok]
       simp only [Option.bind_some, decide_true, Bool.not_true, Bool.false_eq_true, if_false, G_pos fi]
       rw [p_now (by omega) (by omega), r_now (by omega)]
       simp only [Option.bind_some, place_eq, set_eq]
       generalize hv : nowT c (i + 1) = v
       have key : ∀ st : Bool, st = decide (88 ≤ v ∧ v ≤ 90) → Sm c i n t Q S l
         (if (!decide (120 ≤ v ∧ v ≤ 122)) = true then logic_reader_part_J23 (logic_reader_part logic_reader_formula) (nowT c i) c i (n + 1) t Q v (!decide (88 ≤ v ∧ v ≤ 90)) else logic_reader_part_J23 (logic_reader_part logic_reader_formula) (nowT c i) c i (n + 1) t Q v false)
         (r5_Reader_quantified_J10 r5_Reader_part (nowT c i) c i (n + 1) t S l 0 0 v st) := by
        rintro st rfl
        by_cases hvar : VarB v
        ·have hlt2 : i + 1 < c.length := now_lt (by unfold VarB at hvar; omega)
         have kp : Sm c i n t Q S l (logic_reader_part_J23 (logic_reader_part logic_reader_formula) (nowT c i) c i (n + 1) t Q v false) (r5_Reader_quantified_J11 r5_Reader_part (nowT c i) c i (n + 1) t S l 0 0 v (decide (88 ≤ v ∧ v ≤ 90)) false) := by
          unfold logic_reader_part_J23 logic_reader_part_J24 r5_Reader_quantified_J11
          simp only [Bool.false_eq_true, if_false, G_pos fi2, set_eq, Option.bind_some]
          have hl1 := (sc.snoc hvar).len
          rw [G_pos (by have := sc.len; have e1 : (bstr [v]).length = 1 := by simp [bstr]
                        omega)]
          have core : ∀ K : Int, (K = 8 ∨ K = 9) → Sm c i n t Q S l (logic_reader_part_J28 (logic_reader_part logic_reader_formula) c i (n + 1) t Q v K 0 0 0 (decide (88 ≤ v ∧ v ≤ 90)))
            ((r5_Reader_part c (i + 1 + 1) (n + 1) t (S ++ bstr [v]) 0 0 l).bind fun y => r5_Reader_quantified_J21 S (decide (88 ≤ v ∧ v ≤ 90)) y.1 y.2.1 y.2.2.1 y.2.2.2.1 y.2.2.2.2.1 y.2.2.2.2.2.2.1 y.2.2.2.2.2.2.2.1 y.2.2.2.2.2.2.2.2 K) := by
           intro K hK
           unfold logic_reader_part_J28 r5_Reader_quantified_J21
           rw [G_pos (room_of (by simp; omega))]
           rcases hP (((c.length : Int) - (i + 1 + 1)).toNat) (by omega) (i + 1 + 1) (n + 1) t (Q ++ [v]) (S ++ bstr [v]) l ⟨by omega, by omega, c1, by omega, by omega, t0, t1, by simp; omega, sc.snoc hvar, by omega⟩ (Nat.le_refl _) with
            ⟨a1, b1, i', n', l', e1, e2, g1, g2, g3, g4, g5, g6, g7, g8⟩ | ⟨cd, pl, b1, i', n', S', l', e1, e2, g1, g2, g3, g3', g4, g5⟩
           ·simp only [e1, e2, pbind_inl, Option.bind_some]
            rw [G_pos (fits_of (by omega) (by simp; omega)), G_pos (by simp; omega), r_put (by omega)]
            simp only [Option.bind_some]
            have eQ : (Q ++ [v]).take (((Q ++ [v]).length : Int) - 1).toNat = Q := by
             have : (((Q ++ [v]).length : Int) - 1).toNat = Q.length := by simp
             rw [this, List.take_left]
            rw [eQ]
            exact .inl ⟨_, _, _, _, _, rfl, rfl, by omega, g2, by omega, g4, by simp; omega, g6.put _, Stn.put_quant hK hvar (by omega) g7, by simp⟩
           ·simp only [e1, e2, pbind_inr, Option.bind_some]
            rw [r_put (by omega)]
            simp only [Option.bind_some]
            exact .inr ⟨cd, pl, _, _, _, _, _, rfl, rfl, g1, g2, g3, by omega, g4, by simp; omega⟩
          by_cases h65 : nowT c i = 65
          ·simpa [h65] using core 9 (.inr rfl)
          ·simpa [h65] using core 8 (.inl rfl)
         unfold r5_Reader_quantified_J10
         by_cases hs : 88 ≤ v ∧ v ≤ 90
         ·have hnp : ¬ (120 ≤ v ∧ v ≤ 122) := by omega
          simp only [hs, and_self, decide_true, hnp, decide_false, Bool.not_false, Bool.not_true, if_true, Bool.false_eq_true, if_false] at kp ⊢
          exact kp
         ·have hp2 : 120 ≤ v ∧ v ≤ 122 := by unfold VarB at hvar; omega
          have q1 : ¬ v < 120 := by omega
          have q2 : ¬ 122 < v := by omega
          simp only [hs, hp2, and_self, decide_true, q1, q2, decide_false, Bool.not_false, Bool.not_true, if_true, Bool.false_eq_true, if_false] at kp ⊢
          exact kp
        ·have hs : ¬ (88 ≤ v ∧ v ≤ 90) := fun h => hvar (.inl h)
         have hp2 : ¬ (120 ≤ v ∧ v ≤ 122) := fun h => hvar (.inr h)
         have kp : Sm c i n t Q S l (logic_reader_part_J23 (logic_reader_part logic_reader_formula) (nowT c i) c i (n + 1) t Q v true) (r5_Reader_quantified_J11 r5_Reader_part (nowT c i) c i (n + 1) t S l 0 0 v false true) := by
          unfold logic_reader_part_J23 r5_Reader_quantified_J11
          simp only [if_true, p_fail, pbind_inr, r_fail, Option.bind_some]
          exact .inr ⟨4, i + 1, _, _, _, _, _, rfl, rfl, by decide, by omega, by omega, by omega, by omega, by omega⟩
         unfold r5_Reader_quantified_J10
         simp only [hs, hp2, decide_false, Bool.not_false, if_true]
         by_cases q1 : v < 120
         ·simpa [q1] using kp
         ·have q2 : 122 < v := by omega
          simpa [q1, q2] using kp
       by_cases h88 : 88 ≤ v
       ·simp only [h88, decide_true, if_true]
        have := key (decide (v ≤ 90)) (by simp [h88])
        simpa [h88] using this
       ·simp only [h88, decide_false, Bool.false_eq_true, if_false]
        have := key false (by simp [h88])
        simpa [h88] using this
    | false =>
     simp only [Bool.false_eq_true, if_false]
     rcases atom_both hp' with ⟨a1, b1, i', n', l', e1, e2, g⟩ | ⟨cd, pl, b1, i', n', S', l', e1, e2, g⟩
     ·simp only [e1, e2, pbind_inl, Option.bind_some]
      exact .inl ⟨_, _, _, _, _, rfl, rfl, g⟩
     ·simp only [e1, e2, pbind_inr, Option.bind_some]
      exact .inr ⟨_, _, _, _, _, _, _, rfl, rfl, g⟩
   by_cases h69 : nowT c i = 69
   ·have := j17 true (fun _ => .inl h69)
    simpa [h69] using this
   ·have := j17 (decide (nowT c i = 65)) (fun h => .inr (of_decide_eq_true h))
    simpa [h69] using this
theorem all_of {c : List UInt8} : ∀ m : Nat, Part c m ∧ Form c m := by
 intro m
 induction m using Nat.strongRecOn with
 | ind m ih =>
  have hP : Part c m := part_of (fun m' h => (ih m' h).1) (fun m' h => (ih m' h).2)
  have hP' : ∀ m' ≤ m, Part c m' := fun m' h => by
   rcases Nat.lt_or_eq_of_le h with h | rfl
   ·exact (ih m' h).1
   ·exact hP
  have hT : ∀ m' ≤ m, Term c m' := fun m' h => term_of fun m'' h' => hP' m'' (Nat.le_trans h' h)
  exact ⟨hP, form_of hT⟩
/-- Both read: a tree and a list of nodes whose last one is the tree, or the same fault. -/
theorem parse_both (c : List UInt8) : (∃ a l, logic_parsed c = some (a, (0, (0, ()))) ∧ r5_Parse c = some ((0, (0, ())), l) ∧ (l.length : Int) ≤ 30 ∧ Stn l [] a (l.length - 1) ∧ c.length ≤ 4000)
  ∨ (∃ cd pl, logic_parsed c = some (Tr.nil, (cd, (pl, ()))) ∧ r5_Parse c = some ((cd, (pl, ())), []) ∧ cd ≠ 0) := by
 unfold logic_parsed r5_Parse
 by_cases hc : (4000 : Int) < c.length
 ·simp only [hc, decide_true, if_true]
  exact .inr ⟨1, 0, rfl, rfl, by decide⟩
 ·simp only [hc, decide_false, Bool.false_eq_true, if_false]
  unfold r5_Reader_formula_c
  rcases (all_of (c := c) (((c.length : Int) - 0).toNat)).2 0 0 0 [] [] [] ⟨by omega, by omega, by omega, by omega, by omega, by omega, by omega, by simp, Sc.nil, by simp⟩ (Nat.le_refl _) with
   ⟨a1, b1, i', n', l', e1, e2, g1, g2, g3, g4, g5, g6, g7, g8⟩ | ⟨cd, pl, b1, i', n', S', l', e1, e2, g1, g2, g3, g3', g4, g5⟩
  ·simp only [e1, e2, pbind_inl, Option.bind_some]
   by_cases hi : i' < (c.length : Int)
   ·simp only [hi, decide_true, if_true, p_fail, pbind_inr, r_fail, Option.bind_some, Int.reduceEq, not_false_eq_true]
    exact .inr ⟨4, i', rfl, rfl, by decide⟩
   ·simp only [hi, decide_false, Bool.false_eq_true, if_false, not_true_eq_false, Option.bind_some]
    refine .inl ⟨a1, l', rfl, rfl, by simp at g5; omega, ?_, by omega⟩
    rw [show (l'.length : Int) - 1 = b1 by omega]; exact g7
  ·simp only [e1, e2, pbind_inr, Option.bind_some]
   by_cases hi : i' < (c.length : Int)
   ·simp only [hi, decide_true, if_true, r_fail, g1, if_false, not_false_eq_true, Option.bind_some]
    exact .inr ⟨cd, pl, rfl, rfl, g1⟩
   ·simp only [hi, decide_false, Bool.false_eq_true, if_false, g1, not_false_eq_true, decide_true, if_true, Option.bind_some]
    exact .inr ⟨cd, pl, rfl, rfl, g1⟩

theorem word_May_L6_spec {letters : Int} {w : List Int} (hL : 1 ≤ letters ∧ letters ≤ 4) (hw : w.length ≤ (60 : Int)) : ∀ (n : Nat) (i : Int), 0 ≤ i → i ≤ w.length → (w.length - i).toNat = n → (∀ j : Int, 0 ≤ j → j < i → 0 ≤ ix w j ∧ ix w j < letters) → word_May_L6 letters w i = some (mayE letters w) := by
 intro n
 induction n with
 | zero =>
  intro i h0 h1 hn h
  rw [word_May_L6_eq]; unfold word_May_L6_B
  (try dsimp only); (repeat' first | (with_reducible refine G_to ?_ ?_; focus (first | omega | (unfold fits; omega) | (unfold room; (try simp only [List.length_append, List.length_cons, List.length_nil]); omega))) | (with_reducible refine both_to ?_ ?_) | (with_reducible refine itet_to ?_) | (with_reducible refine itef_to ?_) | (with_reducible refine ite_to (fun _ => ?_) (fun _ => ?_))) <;> try (exfalso; omega)
  ·rw [mayE_ok hL hw (fun j a b => h j a (by omega))]
 | succ n ih =>
  intro i h0 h1 hn h
  rw [word_May_L6_eq]; unfold word_May_L6_B
  (try dsimp only); (repeat' first | (with_reducible refine G_to ?_ ?_; focus (first | omega | (unfold fits; omega) | (unfold room; (try simp only [List.length_append, List.length_cons, List.length_nil]); omega))) | (with_reducible refine both_to ?_ ?_) | (with_reducible refine itet_to ?_) | (with_reducible refine itef_to ?_) | (with_reducible refine ite_to (fun _ => ?_) (fun _ => ?_))) <;> try (exfalso; omega)
  ·rw [mayE_bad hL hw (i := i) (by omega) (by omega)]
  ·rw [mayE_bad hL hw (i := i) (by omega) (by omega)]
  ·exact ih _ (by omega) (by omega) (by omega) (below_succ h (by omega))
theorem word_May_spec {letters : Int} {w : List Int} : word_May letters w = some (mayE letters w) := by
 unfold word_May
 (try dsimp only); (repeat' first | (with_reducible refine G_to ?_ ?_; focus (first | omega | (unfold fits; omega) | (unfold room; (try simp only [List.length_append, List.length_cons, List.length_nil]); omega))) | (with_reducible refine both_to ?_ ?_) | (with_reducible refine itet_to ?_) | (with_reducible refine itef_to ?_) | (with_reducible refine ite_to (fun _ => ?_) (fun _ => ?_))) <;> try (exfalso; omega)
 ·rw [mayE_range (by omega)]
 ·rw [mayE_range (by omega)]
 ·rw [mayE_size (by omega) (by omega)]
 ·exact word_May_L6_spec (by omega) (by omega) _ 0 (by omega) (by omega) rfl (fun j a b => by omega)

theorem r1_May_L6_spec {letters : Int} {w : List Int} (hL : 1 ≤ letters ∧ letters ≤ 4) (hw : w.length ≤ (60 : Int)) : ∀ (n : Nat) (i : Int), 0 ≤ i → i ≤ w.length → (w.length - i).toNat = n → (∀ j : Int, 0 ≤ j → j < i → 0 ≤ ix w j ∧ ix w j < letters) → r1_May_L6 letters w i = some (mayE letters w) := by
 intro n
 induction n with
 | zero =>
  intro i h0 h1 hn h
  rw [r1_May_L6_eq]; unfold r1_May_L6_B
  (try dsimp only); (repeat' first | (with_reducible refine G_to ?_ ?_; focus (first | omega | (unfold fits; omega) | (unfold room; (try simp only [List.length_append, List.length_cons, List.length_nil]); omega))) | (with_reducible refine both_to ?_ ?_) | (with_reducible refine itet_to ?_) | (with_reducible refine itef_to ?_) | (with_reducible refine ite_to (fun _ => ?_) (fun _ => ?_))) <;> try (exfalso; omega)
  ·rw [mayE_ok hL hw (fun j a b => h j a (by omega))]
 | succ n ih =>
  intro i h0 h1 hn h
  rw [r1_May_L6_eq]; unfold r1_May_L6_B
  (try dsimp only); (repeat' first | (with_reducible refine G_to ?_ ?_; focus (first | omega | (unfold fits; omega) | (unfold room; (try simp only [List.length_append, List.length_cons, List.length_nil]); omega))) | (with_reducible refine both_to ?_ ?_) | (with_reducible refine itet_to ?_) | (with_reducible refine itef_to ?_) | (with_reducible refine ite_to (fun _ => ?_) (fun _ => ?_))) <;> try (exfalso; omega)
  ·rw [mayE_bad hL hw (i := i) (by omega) (by omega)]
  ·rw [mayE_bad hL hw (i := i) (by omega) (by omega)]
  ·exact ih _ (by omega) (by omega) (by omega) (below_succ h (by omega))
theorem r1_May_spec {letters : Int} {w : List Int} : r1_May letters w = some (mayE letters w) := by
 unfold r1_May
 (try dsimp only); (repeat' first | (with_reducible refine G_to ?_ ?_; focus (first | omega | (unfold fits; omega) | (unfold room; (try simp only [List.length_append, List.length_cons, List.length_nil]); omega))) | (with_reducible refine both_to ?_ ?_) | (with_reducible refine itet_to ?_) | (with_reducible refine itef_to ?_) | (with_reducible refine ite_to (fun _ => ?_) (fun _ => ?_))) <;> try (exfalso; omega)
 ·rw [mayE_range (by omega)]
 ·rw [mayE_range (by omega)]
 ·rw [mayE_size (by omega) (by omega)]
 ·exact r1_May_L6_spec (by omega) (by omega) _ 0 (by omega) (by omega) rfl (fun j a b => by omega)

def Env (w Q is : List Int) : Prop := is.length = Q.length ∧ ∀ j : Int, 0 ≤ j → j < Q.length → 120 ≤ ix Q j → 0 ≤ ix is j ∧ ix is j < w.length
theorem Env.plc {w Q is : List Int} (h : Env w Q is) {j : Int} (hp : plc Q j) : (0 ≤ j ∧ j < (is.length : Int)) ∧ 0 ≤ ix is j ∧ ix is j < w.length := by
 obtain ⟨h1, h2⟩ := h
 obtain ⟨p1, p2, p3, p4⟩ := hp
 exact ⟨⟨p1, by omega⟩, h2 j p1 p2 p3⟩
theorem Env.snoc {w Q is : List Int} {v x : Int} (h : Env w Q is) (hx : 120 ≤ v → 0 ≤ x ∧ x < w.length) : Env w (Q ++ [v]) (is ++ [x]) := by
 obtain ⟨h1, h2⟩ := h
 refine ⟨by simp [h1], fun j j0 j1 hj => ?_⟩
 have hl : ((Q ++ [v]).length : Int) = Q.length + 1 := by simp
 by_cases hlt : j < Q.length
 ·rw [ix_append_left j0 (by omega)] at hj ⊢
  exact h2 j j0 hlt hj
 ·have e : j = Q.length := by omega
  have e2 : j = is.length := by omega
  have ha : ix (Q ++ [v]) j = v := by rw [e]; exact ix_append_last
  have hb : ix (is ++ [x]) j = x := by rw [e2]; exact ix_append_last
  rw [ha] at hj
  rw [hb]
  exact hx hj
def Both (l : L5) (w : List Int) (t : Tr ND) (k : Int) (is : List Int) : Prop := ∃ b, logic_node_holds t w is = some b ∧ r5_Holds l k w is = some b
theorem isMk_mk {α : Type} {x : α} {K : List (Tr α)} : (Tr.mk x K).isMk = true := rfl
theorem val_mk {α : Type} {x d : α} {K : List (Tr α)} : (Tr.mk x K).val d = x := rfl
theorem kids_mk {α : Type} {x : α} {K : List (Tr α)} : (Tr.mk x K).kids = K := rfl
theorem q_loop {l : L5} {w Q is : List Int} {k v all kd : Int} {st : Bool} {a : Tr ND} (hall : all ≤ 64) (hkd : (ix l k).1 = kd) (hQ : Q.length ≤ 3) (hE : Env w Q is) (hv : 120 ≤ v → all ≤ w.length)
  (ih : ∀ is, Env w (Q ++ [v]) is → Both l w a (ix l k).2.2.1 is) : ∀ (m : Nat) (x : Int), 0 ≤ x → (all - x).toNat = m →
  ∃ b, logic_node_holds_L22 logic_node_holds (Tr.mk (kd, 0, 0, 0, st, ()) [a]) w is all x = some b ∧ r5_Holds_L28 r5_Holds l k w is all x = some b := by
 intro m
 induction m with
 | zero =>
  intro x x0 hm
  have hx : ¬ x < all := by omega
  rw [logic_node_holds_L22_eq, r5_Holds_L28_eq]
  unfold logic_node_holds_L22_B r5_Holds_L28_B
  simp only [val_mk, kids_mk]
  simp only [hx, decide_false, Bool.false_eq_true, if_false]
  exact ⟨decide (kd = 9), G_pos isMk_mk, by rw [hkd]⟩
 | succ m ihm =>
  intro x x0 hm
  have hx : x < all := by omega
  have hl := hE.1
  rw [logic_node_holds_L22_eq, r5_Holds_L28_eq]
  unfold logic_node_holds_L22_B r5_Holds_L28_B
  simp only [val_mk, kids_mk]
  rw [if_pos (decide_eq_true hx), if_pos (decide_eq_true hx), G_pos isMk_mk, G_pos isMk_mk, G_pos (by simp), cut_all, G_pos ⟨trivial, by omega, by omega⟩, G_pos ⟨by simp, room_of (by simp; omega)⟩, G_pos (room_of (by simp; omega)), G_pos (room_of (by simp; omega)), List.nil_append]
  obtain ⟨b, e1, e2⟩ := ih (is ++ [x]) (hE.snoc fun h => ⟨x0, by have := hv h; omega⟩)
  have e1' : logic_node_holds (ix [a] 0) w (is ++ [x]) = some b := e1
  rw [e1', e2]
  simp only [Option.bind_some]
  rw [hkd]
  by_cases hb : b = decide (kd = 8)
  ·exact ⟨b, (if_pos (decide_eq_true hb)).trans ((G_pos isMk_mk).trans (congrArg some hb.symm)), if_pos (decide_eq_true hb)⟩
  ·obtain ⟨b', f1, f2⟩ := ihm (x + 1) (by omega) (by omega)
   have fx : fits (x + 1) := fits_of (by omega) (by omega)
   exact ⟨b', (if_neg (fun h => hb (of_decide_eq_true h))).trans ((G_pos fx).trans f1), (if_neg (fun h => hb (of_decide_eq_true h))).trans ((G_pos fx).trans f2)⟩
theorem shl_ok : ∀ n : Fin 7, 0 ≤ ishl .i64 1 (n.val : Int) ∧ ishl .i64 1 (n.val : Int) ≤ 64 := by decide +kernel
theorem holds_both {l : L5} {w : List Int} (hw : w.length ≤ 6) {Q : List Int} {t : Tr ND} {k : Int} (h : Stn l Q t k) : Q.length ≤ 3 → ∀ is, Env w Q is → Both l w t k is := by
 induction h with
 | atom Q k h0 h1 h =>
  intro hQ is hE
  generalize hx : ix l k = x at h
  obtain ⟨kd, N, A, B, st, u⟩ := x
  unfold vT Both
  obtain ⟨hst, ⟨hk, n0, n1, hA, hB⟩ | ⟨hk, hN, hA, hB⟩ | ⟨hk, hN, hA, hB⟩⟩ := h
  ·have hk : kd = 0 := hk
   subst hk
   obtain ⟨a1, a2⟩ := hE.plc hA
   have a1 : 0 ≤ A ∧ A < (is.length : Int) := a1
   have a2 : 0 ≤ ix is A ∧ ix is A < (w.length : Int) := a2
   refine ⟨decide (ix w (ix is A) = N), ?_, ?_⟩
   ·rw [logic_node_holds_eq]; exact (G_pos isMk_mk).trans ((if_pos rfl).trans ((G_pos isMk_mk).trans ((G_pos a1).trans ((G_pos a2).trans ((G_pos isMk_mk).trans (rfl))))))
   ·rw [r5_Holds_eq]; unfold r5_Holds_B; rw [G_pos ⟨h0, h1⟩, hx]; rw [if_pos (by rfl), G_pos a1, G_pos a2]
  ·obtain ⟨a1, a2⟩ := hE.plc hA
   obtain ⟨b1, b2⟩ := hE.plc hB
   have a1 : 0 ≤ A ∧ A < (is.length : Int) := a1
   have a2 : 0 ≤ ix is A ∧ ix is A < (w.length : Int) := a2
   have b1 : 0 ≤ B ∧ B < (is.length : Int) := b1
   have hk : kd = 1 ∨ kd = 2 ∨ kd = 3 := hk
   have ff : fits (ix is A + 1) := fits_of (by omega) (by omega)
   rcases hk with rfl | rfl | rfl
   ·refine ⟨decide (ix is A < ix is B), ?_, ?_⟩
    ·rw [logic_node_holds_eq]; exact (G_pos isMk_mk).trans ((if_neg (by exact Bool.false_ne_true)).trans ((if_pos rfl).trans ((G_pos isMk_mk).trans ((G_pos a1).trans ((G_pos isMk_mk).trans ((G_pos b1).trans (rfl)))))))
    ·rw [r5_Holds_eq]; unfold r5_Holds_B; rw [G_pos ⟨h0, h1⟩, hx]; rw [if_neg (by simp), if_pos (by rfl), G_pos a1, G_pos b1]
   ·refine ⟨decide (ix is A = ix is B), ?_, ?_⟩
    ·rw [logic_node_holds_eq]; exact (G_pos isMk_mk).trans ((if_neg (by exact Bool.false_ne_true)).trans ((if_neg (by exact Bool.false_ne_true)).trans ((if_pos rfl).trans ((G_pos isMk_mk).trans ((G_pos a1).trans ((G_pos isMk_mk).trans ((G_pos b1).trans (rfl))))))))
    ·rw [r5_Holds_eq]; unfold r5_Holds_B; rw [G_pos ⟨h0, h1⟩, hx]; rw [if_neg (by simp), if_neg (by simp), if_pos (by rfl), G_pos a1, G_pos b1]
   ·refine ⟨decide (ix is B = ix is A + 1), ?_, ?_⟩
    ·rw [logic_node_holds_eq]; exact (G_pos isMk_mk).trans ((if_neg (by exact Bool.false_ne_true)).trans ((if_neg (by exact Bool.false_ne_true)).trans ((if_neg (by exact Bool.false_ne_true)).trans ((if_pos rfl).trans ((G_pos isMk_mk).trans ((G_pos b1).trans ((G_pos isMk_mk).trans ((G_pos a1).trans ((G_pos ff).trans (rfl))))))))))
    ·rw [r5_Holds_eq]; unfold r5_Holds_B; rw [G_pos ⟨h0, h1⟩, hx]; rw [if_neg (by simp), if_neg (by simp), if_neg (by simp), if_pos (by rfl), G_pos b1, G_pos a1, G_pos ff]
  ·have hk : kd = 4 := hk
   subst hk
   obtain ⟨a1, a2⟩ := hE.plc hA
   have a1 : 0 ≤ A ∧ A < (is.length : Int) := a1
   have a2 : 0 ≤ ix is A ∧ ix is A < (w.length : Int) := a2
   have b1 : 0 ≤ B ∧ B < (is.length : Int) := by
    obtain ⟨p1, p2, _⟩ := hB
    have p1 : 0 ≤ B := p1
    have p2 : B < (Q.length : Int) := p2
    have := hE.1
    exact ⟨p1, by omega⟩
   have a3 : 0 ≤ ix is A := a2.1
   refine ⟨decide ((iand .i64 (ishr .i64 (ix is B) (ix is A)) (1 : Int)) = (1 : Int)), ?_, ?_⟩
   ·rw [logic_node_holds_eq]; exact (G_pos isMk_mk).trans ((if_neg (by exact Bool.false_ne_true)).trans ((if_neg (by exact Bool.false_ne_true)).trans ((if_neg (by exact Bool.false_ne_true)).trans ((if_neg (by exact Bool.false_ne_true)).trans ((if_pos rfl).trans ((G_pos isMk_mk).trans ((G_pos b1).trans ((G_pos isMk_mk).trans ((G_pos a1).trans ((G_pos a3).trans (rfl)))))))))))
   ·rw [r5_Holds_eq]; unfold r5_Holds_B; rw [G_pos ⟨h0, h1⟩, hx]; rw [if_neg (by simp), if_neg (by simp), if_neg (by simp), if_neg (by simp), if_pos (by rfl), G_pos b1, G_pos a1, G_pos a3]
 | no Q k a h0 h1 hk hs ha iha =>
  intro hQ is hE
  obtain ⟨b, e1, e2⟩ := iha hQ is hE
  generalize hx : ix l k = x at hk hs e2
  obtain ⟨kd, N, A, B, st, u⟩ := x
  unfold iT Both
  have hk : kd = 5 := hk
  subst hk
  have e1' : logic_node_holds (ix [a] 0) w is = some b := e1
  have e2' : r5_Holds l A w is = some b := e2
  have g1 : 0 ≤ (0 : Int) ∧ (0 : Int) < (([a] : List (Tr ND)).length : Int) := by simp
  refine ⟨!b, ?_, ?_⟩
  ·rw [logic_node_holds_eq]; refine (G_pos isMk_mk).trans ((if_neg (by exact Bool.false_ne_true)).trans ((if_neg (by exact Bool.false_ne_true)).trans ((if_neg (by exact Bool.false_ne_true)).trans ((if_neg (by exact Bool.false_ne_true)).trans ((if_neg (by exact Bool.false_ne_true)).trans ((if_pos rfl).trans ((G_pos isMk_mk).trans ((G_pos g1).trans (?_)))))))))
   show (logic_node_holds (ix [a] 0) w is).bind _ = _
   rw [e1']; rfl
  ·rw [r5_Holds_eq]; unfold r5_Holds_B; rw [G_pos ⟨h0, h1⟩, hx]; rw [if_neg (by simp), if_neg (by simp), if_neg (by simp), if_neg (by simp), if_neg (by simp), if_pos (by rfl), e2']; rfl
 | two Q k a b h0 h1 hk hs ha hb iha ihb =>
  intro hQ is hE
  obtain ⟨x1, e1, e2⟩ := iha hQ is hE
  obtain ⟨x2, f1, f2⟩ := ihb hQ is hE
  generalize hx : ix l k = x at hk hs e2 f2
  obtain ⟨kd, N, A, B, st, u⟩ := x
  unfold iT Both
  have e1' : logic_node_holds (ix [a, b] 0) w is = some x1 := e1
  have e2' : r5_Holds l A w is = some x1 := e2
  have f1' : logic_node_holds (ix [a, b] 1) w is = some x2 := f1
  have f2' : r5_Holds l B w is = some x2 := f2
  have g1 : 0 ≤ (0 : Int) ∧ (0 : Int) < (([a, b] : List (Tr ND)).length : Int) := by simp
  have g2 : 0 ≤ (1 : Int) ∧ (1 : Int) < (([a, b] : List (Tr ND)).length : Int) := by simp
  have hk : kd = 6 ∨ kd = 7 := hk
  rcases hk with rfl | rfl
  ·refine ⟨x1 && x2, ?_, ?_⟩
   ·rw [logic_node_holds_eq]; refine (G_pos isMk_mk).trans ((if_neg (by exact Bool.false_ne_true)).trans ((if_neg (by exact Bool.false_ne_true)).trans ((if_neg (by exact Bool.false_ne_true)).trans ((if_neg (by exact Bool.false_ne_true)).trans ((if_neg (by exact Bool.false_ne_true)).trans ((if_neg (by exact Bool.false_ne_true)).trans ((if_pos rfl).trans ((G_pos isMk_mk).trans ((G_pos g1).trans (?_))))))))))
    show (logic_node_holds (ix [a, b] 0) w is).bind _ = _
    rw [e1']
    cases x1 with
    | true => refine (G_pos isMk_mk).trans ((G_pos g2).trans ?_); show (logic_node_holds (ix [a, b] 1) w is).bind _ = _; rw [f1']; rfl
    | false => rfl
   ·rw [r5_Holds_eq]; unfold r5_Holds_B; rw [G_pos ⟨h0, h1⟩, hx]; rw [if_neg (by simp), if_neg (by simp), if_neg (by simp), if_neg (by simp), if_neg (by simp), if_neg (by simp), if_pos (by rfl), e2', f2']; cases x1 <;> rfl
  ·refine ⟨x1 || x2, ?_, ?_⟩
   ·rw [logic_node_holds_eq]; refine (G_pos isMk_mk).trans ((if_neg (by exact Bool.false_ne_true)).trans ((if_neg (by exact Bool.false_ne_true)).trans ((if_neg (by exact Bool.false_ne_true)).trans ((if_neg (by exact Bool.false_ne_true)).trans ((if_neg (by exact Bool.false_ne_true)).trans ((if_neg (by exact Bool.false_ne_true)).trans ((if_neg (by exact Bool.false_ne_true)).trans ((if_pos rfl).trans ((G_pos isMk_mk).trans ((G_pos g1).trans (?_)))))))))))
    show (logic_node_holds (ix [a, b] 0) w is).bind _ = _
    rw [e1']
    cases x1 with
    | true => rfl
    | false => refine (G_pos isMk_mk).trans ((G_pos g2).trans ?_); show (logic_node_holds (ix [a, b] 1) w is).bind _ = _; rw [f1']; rfl
   ·rw [r5_Holds_eq]; unfold r5_Holds_B; rw [G_pos ⟨h0, h1⟩, hx]; rw [if_neg (by simp), if_neg (by simp), if_neg (by simp), if_neg (by simp), if_neg (by simp), if_neg (by simp), if_neg (by simp), if_pos (by rfl), e2', f2']; cases x1 <;> rfl
 | quant Q k a v h0 h1 hk hv hs hd ha iha =>
  intro hQ is hE
  have ih : ∀ is, Env w (Q ++ [v]) is → Both l w a (ix l k).2.2.1 is := iha (by simp; omega)
  have key : ∀ all : Int, all ≤ 64 → (120 ≤ v → all ≤ w.length) → ∃ b, logic_node_holds_J20 logic_node_holds (Tr.mk (iT (ix l k)) [a]) w is all = some b ∧ r5_Holds_J26 r5_Holds l k w is all = some b := fun all hall hv => by
   unfold logic_node_holds_J20 r5_Holds_J26
   exact q_loop hall rfl hQ hE hv ih _ 0 (by omega) rfl
  have hlen : 0 ≤ (w.length : Int) := by omega
  have sh := shl_ok ⟨w.length, by omega⟩
  have sh : 0 ≤ ishl .i64 1 (w.length : Int) ∧ ishl .i64 1 (w.length : Int) ≤ 64 := sh
  unfold VarB at hv
  clear ih iha
  generalize hx : ix l k = x at hk hs key
  obtain ⟨kd, N, A, B, st, u⟩ := x
  unfold iT at key ⊢
  unfold Both
  have hk : kd = 8 ∨ kd = 9 := hk
  have hs : st = decide (88 ≤ v ∧ v ≤ 90) := hs
  have fin : ∃ b, (if st = true then logic_node_holds_J20 logic_node_holds (Tr.mk (kd, 0, 0, 0, st, ()) [a]) w is (ishl .i64 (1 : Int) (w.length : Int)) else logic_node_holds_J20 logic_node_holds (Tr.mk (kd, 0, 0, 0, st, ()) [a]) w is (w.length : Int)) = some b ∧
    (if st = true then r5_Holds_J26 r5_Holds l k w is (ishl .i64 (1 : Int) (w.length : Int)) else r5_Holds_J26 r5_Holds l k w is (w.length : Int)) = some b := by
   cases st with
   | true =>
    have hst2 : (88 ≤ v ∧ v ≤ 90) := of_decide_eq_true hs.symm
    exact key _ sh.2 (fun h => by omega)
   | false => exact key w.length (by omega) (fun _ => Int.le_refl _)
  obtain ⟨b, f1, f2⟩ := fin
  refine ⟨b, ?_, ?_⟩
  ·rw [logic_node_holds_eq]
   have f1' : (if st = true then G (0 ≤ (w.length : Int)) (logic_node_holds_J20 logic_node_holds (Tr.mk (kd, 0, 0, 0, st, ()) [a]) w is (ishl .i64 (1 : Int) (w.length : Int))) else logic_node_holds_J20 logic_node_holds (Tr.mk (kd, 0, 0, 0, st, ()) [a]) w is (w.length : Int)) = some b := by
    rw [G_pos hlen]; exact f1
   rcases hk with rfl | rfl
   ·exact (G_pos isMk_mk).trans ((if_neg (by exact Bool.false_ne_true)).trans ((if_neg (by exact Bool.false_ne_true)).trans ((if_neg (by exact Bool.false_ne_true)).trans ((if_neg (by exact Bool.false_ne_true)).trans ((if_neg (by exact Bool.false_ne_true)).trans ((if_neg (by exact Bool.false_ne_true)).trans ((if_neg (by exact Bool.false_ne_true)).trans ((if_neg (by exact Bool.false_ne_true)).trans ((G_pos isMk_mk).trans (f1'))))))))))
   ·exact (G_pos isMk_mk).trans ((if_neg (by exact Bool.false_ne_true)).trans ((if_neg (by exact Bool.false_ne_true)).trans ((if_neg (by exact Bool.false_ne_true)).trans ((if_neg (by exact Bool.false_ne_true)).trans ((if_neg (by exact Bool.false_ne_true)).trans ((if_neg (by exact Bool.false_ne_true)).trans ((if_neg (by exact Bool.false_ne_true)).trans ((if_neg (by exact Bool.false_ne_true)).trans ((G_pos isMk_mk).trans (f1'))))))))))
  ·rw [r5_Holds_eq]; unfold r5_Holds_B; rw [G_pos ⟨h0, h1⟩, hx]
   have h8 : ∀ n : Int, n ≤ 7 → ¬ kd = n := fun n hn => by omega
   simp only [h8 0 (by omega), h8 1 (by omega), h8 2 (by omega), h8 3 (by omega), h8 4 (by omega), h8 5 (by omega), h8 6 (by omega), h8 7 (by omega), decide_false, Bool.false_eq_true, if_false]
   rw [G_pos hlen]
   exact f2
theorem law_true (c : List UInt8) (w : List Int) : law_LogicHolds c w = some true := by
 unfold law_LogicHolds logic_Holds
 rcases parse_both c with ⟨a, l, e1, e2, hl, hs, hc⟩ | ⟨cd, pl, e1, e2, hcd⟩
 ·simp only [e1, e2, Option.bind_some, not_true_eq_false, decide_false, Bool.false_eq_true, if_false]
  by_cases h6 : (6 : Int) < w.length
  ·simp only [h6, decide_true, if_true, Option.bind_some]
   rfl
  ·simp only [h6, decide_false, Bool.false_eq_true, if_false]
   rw [word_May_spec, r1_May_spec]
   simp only [Option.bind_some]
   by_cases hm : mayE 2 w = 0
   ·simp only [hm, not_true_eq_false, decide_false, Bool.false_eq_true, if_false]
    obtain ⟨b, f1, f2⟩ := holds_both (w := w) (by omega) hs (by simp) [] ⟨rfl, fun j j0 j1 => by simp at j1; omega⟩
    rw [f1]
    simp only [Option.bind_some]
    rw [G_pos (fits_of (by omega) (by omega)), f2]
    simp
   ·simp only [hm, not_false_eq_true, decide_true, if_true, Option.bind_some]
    simp
 ·simp only [e1, e2, Option.bind_some, hcd, not_false_eq_true, decide_true, if_true]
  rfl

end Go.Proofs.Ytnpkoeleenhgbaa.logicHoldsW
