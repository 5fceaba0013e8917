/- The law 'RegularReads' of the plain functions. -/
import Derived.Test.YtbckhoiofdojkaaRegularReadsD
set_option maxHeartbeats 1000000
set_option maxRecDepth 20000
set_option linter.unusedSimpArgs false
set_option linter.unusedVariables false
set_option linter.unusedSectionVars false
namespace Go.Proofs.Ytbckhoiofdojkaa.regularReadsW
open Go Go.Ab
abbrev ND := Int × Int × Unit
abbrev NR := Int × Int × (List Int) × Unit
abbrev L5 := List NR
def nowT (c : List UInt8) (i : Int) : Int := if i < c.length then bAt c i else 0
theorem now_lt {c : List UInt8} {i : Int} (h : nowT c i ≠ 0) : i < c.length := by
  unfold nowT at h
  by_cases h1 : i < c.length
  · exact h1
  · rw [if_neg h1] at h; exact absurd rfl h
theorem now_byte {c : List UInt8} {i : Int} : 0 ≤ nowT c i ∧ nowT c i ≤ 255 := by
  unfold nowT
  by_cases h : i < c.length
  · rw [if_pos h]; unfold bAt
    have := (c.getD i.toNat 0).toNat_lt
    constructor
    · omega
    · omega
  · rw [if_neg h]; omega
theorem wrap_nat' {n : Nat} (h : n < 9223372036854775808) : IntKind.wrap .i64 (n : Int) = n := by
  unfold IntKind.wrap
  simp [IntKind.bits, IntKind.signed]
  omega
theorem wr64 {x : Int} (h0 : 0 ≤ x) (h1 : x ≤ 1000) : IntKind.wrap .i64 x = x := by
  obtain ⟨n, rfl⟩ := Int.eq_ofNat_of_zero_le h0
  exact wrap_nat' (by omega)
theorem wr8 {x : Int} (h0 : 0 ≤ x) (h1 : x ≤ 255) : IntKind.wrap .u8 x = x := by
  obtain ⟨n, rfl⟩ := Int.eq_ofNat_of_zero_le h0
  unfold IntKind.wrap
  simp [IntKind.bits, IntKind.signed]
  omega
def begT (x : Int) : Bool := decide (x = 48) || decide (x = 49) || (decide (97 ≤ x) && decide (x ≤ 100)) || decide (x = 40)
theorem beg_ix : ∀ n : Fin 256, decide ((0 : Int) ≤ ixByte [48, 49, 97, 98, 99, 100, 40] (n.val : Int)) = begT (n.val : Int) := by decide +kernel
theorem beg_all {x : Int} (h0 : 0 ≤ x) (h1 : x ≤ 255) : decide ((0 : Int) ≤ ixByte [48, 49, 97, 98, 99, 100, 40] x) = begT x := by
  have := beg_ix ⟨x.toNat, by omega⟩
  have e : ((x.toNat : Nat) : Int) = x := by omega
  simpa only [e] using this
section
variable {c : List UInt8} {i s f a : Int} {l : L5}
theorem p_now (h0 : 0 ≤ i) (h1 : i ≤ c.length) : regular_reader_now (c, (i, (s, ()))) = some (nowT c i) := by
  unfold regular_reader_now nowT
  by_cases h : i = (c.length : Int)
  · have : ¬ i < c.length := by omega
    simp [h]
  · have h2 : i < c.length := by omega
    simp only [h, decide_false, Bool.false_eq_true, if_false, if_pos h2]
    exact G_pos ⟨h0, h2⟩
theorem p_fail {k : Int} : regular_reader_fail (c, (i, (s, ()))) k = some (.inr (k, i)) := rfl
theorem p_begins (h0 : 0 ≤ i) (h1 : i ≤ c.length) : regular_reader_begins (c, (i, (s, ()))) = some (begT (nowT c i)) := by
  unfold regular_reader_begins
  by_cases h : i < c.length
  · simp only [h, decide_true, if_true]
    rw [p_now h0 h1]
    unfold strings_IndexByte stringslite_IndexByte
    simp only [Option.bind_some]
    rw [beg_all now_byte.1 now_byte.2]
  · have : nowT c i = 0 := by unfold nowT; rw [if_neg h]
    simp only [h, decide_false, Bool.false_eq_true, if_false, this]
    rfl
theorem r_now (h0 : 0 ≤ i) : r2_Reader_now (c, (i, (s, (l, ((f, (a, ())), ()))))) = some (nowT c i) := by
  unfold r2_Reader_now nowT
  by_cases h : (c.length : Int) ≤ i
  · have : ¬ i < (c.length : Int) := by omega
    simp [h, this]
  · have h2 : i < c.length := by omega
    simp only [h, decide_false, Bool.false_eq_true, if_false, if_pos h2]
    exact G_pos ⟨h0, h2⟩
theorem r_ok : r2_Reader_ok (c, (i, (s, (l, ((f, (a, ())), ()))))) = some (decide (f = 0)) := rfl
theorem r_fail {k : Int} : r2_Reader_fail k c i s f a l = if f = 0 then some (c, i, s, l, k, i) else some (c, i, s, l, f, a) := by
  unfold r2_Reader_fail
  by_cases h : f = 0 <;> simp [h]
theorem r_put (h : l.length ≤ 100000) {k v : Int} {K : List Int} : r2_Reader_put (k, (v, (K, ()))) c i s f a l = some ((l.length : Int), c, i, s, l ++ [(k, v, K, ())], f, a) := by
  unfold r2_Reader_put
  rw [G_pos (room_of (by simp; omega))]
  have e : (((l ++ [(k, v, K, ())]).length : Int) - 1) = (l.length : Int) := by simp
  simp only [e]
  rw [G_pos (fits_of (by omega) (by omega))]
/-- What was found to be wrong stays. -/
theorem f_oneL (hf : f ≠ 0) (h0 : 0 ≤ i) (x : Int) : r2_Reader_one_L2 x c i s f a l = some (x, c, i, s, l, f, a) := by
  rw [r2_Reader_one_L2_eq]
  unfold r2_Reader_one_L2_B
  rw [r_now h0]
  simp only [Option.bind_some]
  rw [r_ok]
  simp [hf]
theorem f_rowL (hf : f ≠ 0) (h0 : 0 ≤ i) (hl : l.length ≤ 100000) (K : List Int) : r2_Reader_row_L3 r2_Reader_whole c i s f a K l = some ((l.length : Int), c, i, s, l ++ [(4, 0, K, ())], f, a) := by
  rw [r2_Reader_row_L3_eq]
  unfold r2_Reader_row_L3_B
  rw [r_now h0]
  simp only [Option.bind_some]
  rw [r_ok]
  unfold r2_Reader_row_J5 r2_Reader_row_J8
  rw [r_put hl]
  simp [hf]
theorem f_wholeL (hf : f ≠ 0) (h0 : 0 ≤ i) (hl : l.length ≤ 100000) (K : List Int) : r2_Reader_whole_L3 r2_Reader_whole c i s f a K l = some ((l.length : Int), c, i, s, l ++ [(3, 0, K, ())], f, a) := by
  rw [r2_Reader_whole_L3_eq]
  unfold r2_Reader_whole_L3_B
  rw [r_now h0]
  simp only [Option.bind_some]
  rw [r_ok]
  unfold r2_Reader_whole_J8
  rw [r_put hl]
  simp [hf]
end
/-! ### the tree stands in the list -/
def wfN (x : NR) : Prop := (x.1 = 0 ∧ x.2.2.1 = []) ∨ (x.1 = 1 ∧ x.2.2.1 = []) ∨ (x.1 = 2 ∧ 0 ≤ x.2.1 ∧ x.2.1 ≤ 3 ∧ x.2.2.1 = []) ∨ (x.1 = 3 ∧ x.2.2.1 ≠ []) ∨ (x.1 = 4 ∧ x.2.2.1 ≠ []) ∨ (x.1 = 5 ∧ x.2.2.1.length = 1)
mutual
inductive Stn (l : L5) : Tr ND → Int → Prop
  | mk (k : Int) (K : List (Tr ND)) (h0 : 0 ≤ k) (h1 : k < l.length) (hw : wfN (ix l k)) (ha : StnL l K (ix l k).2.2.1) : Stn l (Tr.mk ((ix l k).1, (ix l k).2.1, ()) K) k
inductive StnL (l : L5) : List (Tr ND) → List Int → Prop
  | nil : StnL l [] []
  | cons (t : Tr ND) (k : Int) (K : List (Tr ND)) (ks : List Int) (h : Stn l t k) (hs : StnL l K ks) : StnL l (t :: K) (k :: ks)
end
mutual
theorem Stn.mono {l m : L5} {t : Tr ND} {k : Int} : Stn l t k → Stn (l ++ m) t k
  | .mk k K h0 h1 hw ha => by
    have e : ix (l ++ m) k = ix l k := ix_append_left h0 h1
    have ih := ha.mono (m := m)
    rw [← e] at hw ih ⊢
    exact .mk k K h0 (by simp; omega) hw ih
theorem StnL.mono {l m : L5} {K : List (Tr ND)} {ks : List Int} : StnL l K ks → StnL (l ++ m) K ks
  | .nil => .nil
  | .cons t k K ks h hs => .cons t k K ks h.mono hs.mono
end
theorem StnL.snoc {l : L5} {K : List (Tr ND)} {ks : List Int} {t : Tr ND} {k : Int} (h : StnL l K ks) (h2 : Stn l t k) : StnL l (K ++ [t]) (ks ++ [k]) := by
  match h with
  | .nil => exact .cons _ _ _ _ h2 .nil
  | .cons t' k' K ks h hs => exact .cons _ _ _ _ h (hs.snoc h2)
theorem StnL.len {l : L5} {K : List (Tr ND)} {ks : List Int} (h : StnL l K ks) : K.length = ks.length := by
  match h with
  | .nil => rfl
  | .cons _ _ _ _ _ hs => simp [hs.len]
theorem Stn.put {l : L5} {x : NR} {K : List (Tr ND)} (hw : wfN x) (ha : StnL l K x.2.2.1) : Stn (l ++ [x]) (Tr.mk (x.1, x.2.1, ()) K) l.length := by
  have e : ix (l ++ [x]) (l.length : Int) = x := ix_append_last
  have := Stn.mk (l := l ++ [x]) l.length K (by omega) (by simp; omega) (by rw [e]; exact hw) (by rw [e]; exact ha.mono)
  rw [e] at this; exact this
def Ext (l l' : L5) : Prop := ∃ m, l' = l ++ m
theorem Ext.refl (l : L5) : Ext l l := ⟨[], by simp⟩
theorem Ext.trans {l l' l2 : L5} (h : Ext l l') (h2 : Ext l' l2) : Ext l l2 := by
  obtain ⟨m, rfl⟩ := h; obtain ⟨m', rfl⟩ := h2; exact ⟨m ++ m', by simp⟩
theorem Ext.snoc (l : L5) (x : NR) : Ext l (l ++ [x]) := ⟨[x], rfl⟩
theorem Ext.put {l l' : L5} (h : Ext l l') (x : NR) : Ext l (l' ++ [x]) := h.trans (Ext.snoc l' x)
theorem Ext.stn {l l' : L5} (h : Ext l l') {t : Tr ND} {k : Int} (h2 : Stn l t k) : Stn l' t k := by
  obtain ⟨m, rfl⟩ := h; exact h2.mono
theorem Ext.stnL {l l' : L5} (h : Ext l l') {K : List (Tr ND)} {ks : List Int} (h2 : StnL l K ks) : StnL l' K ks := by
  obtain ⟨m, rfl⟩ := h; exact h2.mono
/-! ### both alike -/
structure Pre (c : List UInt8) (i s : Int) (l : L5) : Prop where
  i0 : 0 ≤ i
  i1 : i ≤ c.length
  c1 : c.length ≤ 4000
  s0 : 0 ≤ s
  s1 : s ≤ 40
  l1 : (l.length : Int) ≤ 3 * i
/-- pt: what is made less than three a letter; ex: more, where something is wrong; z: the whole stands last. -/
def Sm (pt ex : Int) (z : Bool) (c : List UInt8) (i s : Int) (l : L5) (o : Option ((Tr ND × List UInt8 × Int × Int) ⊕ (Int × Int))) (r : Option (Int × List UInt8 × Int × Int × L5 × Int × Int)) : Prop :=
  (∃ a b i' l', o = some (.inl (a, c, i', s)) ∧ r = some (b, c, i', s, l', 0, 0) ∧ i < i' ∧ i' ≤ c.length ∧ (l'.length : Int) + pt ≤ l.length + 3 * (i' - i) ∧ Ext l l' ∧ Stn l' a b ∧ (z = true → b + 1 = l'.length))
  ∨ (∃ cd b i' l', o = some (.inr (cd, i')) ∧ r = some (b, c, i', s, l', cd, i') ∧ cd ≠ 0 ∧ i ≤ i' ∧ i' ≤ c.length ∧ (l'.length : Int) ≤ l.length + 3 * (i' - i) + 2 * (40 - s) + ex)
def Part (c : List UInt8) (m : Nat) : Prop := ∀ i s l, Pre c i s l → ((c.length : Int) - i).toNat ≤ m → Sm 2 0 false c i s l (regular_reader_part regular_reader_whole c i s) (r2_Reader_part r2_Reader_whole c i s 0 0 l)
def One (c : List UInt8) (m : Nat) : Prop := ∀ i s l, Pre c i s l → ((c.length : Int) - i).toNat ≤ m → Sm 2 0 false c i s l (regular_reader_one regular_reader_whole c i s) (r2_Reader_one r2_Reader_whole c i s 0 0 l)
def RRow (c : List UInt8) (m : Nat) : Prop := ∀ i s l, Pre c i s l → ((c.length : Int) - i).toNat ≤ m → Sm 1 1 false c i s l (regular_reader_row regular_reader_whole c i s) (r2_Reader_row r2_Reader_whole c i s 0 0 l)
def Whole (c : List UInt8) (m : Nat) : Prop := ∀ i s l, Pre c i s l → ((c.length : Int) - i).toNat ≤ m → Sm 0 2 true c i s l (regular_reader_whole c i s) (r2_Reader_whole c i s 0 0 l)
theorem one_loop {c : List UInt8} : ∀ (m : Nat) (a : Tr ND) (b i s : Int) (l : L5), Pre c i s l → Stn l a b → ((c.length : Int) - i).toNat ≤ m →
    ∃ a' b' i' l', regular_reader_one_L2 a c i s = some (.inl (a', c, i', s)) ∧ r2_Reader_one_L2 b c i s 0 0 l = some (b', c, i', s, l', 0, 0) ∧ i ≤ i' ∧ i' ≤ c.length ∧ (l'.length : Int) ≤ l.length + 3 * (i' - i) ∧ Ext l l' ∧ Stn l' a' b' := by
  intro m
  induction m with
  | zero =>
    intro a b i s l hp hab hm
    obtain ⟨i0, i1, c1, s0, s1, q1⟩ := hp
    rw [regular_reader_one_L2_eq, r2_Reader_one_L2_eq]
    unfold regular_reader_one_L2_B r2_Reader_one_L2_B
    rw [p_now i0 i1, r_now i0]
    simp only [Option.bind_some]
    rw [r_ok]
    have hb : ¬ nowT c i = 42 := fun h => by have := now_lt (c := c) (i := i) (by omega); omega
    simp only [hb, Option.bind_some, decide_true, not_false_eq_true, decide_false, Bool.not_true, Bool.false_eq_true, if_true, if_false]
    exact ⟨a, b, i, l, rfl, rfl, by omega, i1, by omega, .refl l, hab⟩
  | succ m ih =>
    intro a b i s l hp hab hm
    obtain ⟨i0, i1, c1, s0, s1, q1⟩ := hp
    rw [regular_reader_one_L2_eq, r2_Reader_one_L2_eq]
    unfold regular_reader_one_L2_B r2_Reader_one_L2_B
    rw [p_now i0 i1, r_now i0]
    simp only [Option.bind_some]
    rw [r_ok]
    by_cases hb : nowT c i = 42
    · have hlt : i < c.length := now_lt (by rw [hb]; decide)
      have fi : fits (i + 1) := fits_of (by omega) (by omega)
      simp only [hb, Option.bind_some, decide_true, not_true_eq_false, decide_false, Bool.not_true, Bool.false_eq_true, if_true, if_false, G_pos fi]
      rw [r_put (by omega)]
      simp only [Option.bind_some]
      have hst := Stn.put (l := l) (x := (5, 0, [b], ())) (K := [a]) (.inr (.inr (.inr (.inr (.inr ⟨rfl, rfl⟩))))) (.cons _ _ _ _ hab .nil)
      obtain ⟨a', b', i', l', e1, e2, g1, g2, g3, g4, g5⟩ := ih _ _ (i + 1) s (l ++ [(5, 0, [b], ())]) ⟨by omega, by omega, c1, s0, s1, by simp; omega⟩ hst (by omega)
      exact ⟨a', b', i', l', e1, e2, by omega, g2, by simp at g3; omega, (Ext.snoc l _).trans g4, g5⟩
    · simp only [hb, Option.bind_some, decide_true, not_false_eq_true, decide_false, Bool.not_true, Bool.false_eq_true, if_true, if_false]
      exact ⟨a, b, i, l, rfl, rfl, by omega, i1, by omega, .refl l, hab⟩
theorem one_of {c : List UInt8} {m : Nat} (hP : Part c m) : One c m := by
  intro i s l hp hm
  have hp' := hp
  obtain ⟨i0, i1, c1, s0, s1, q1⟩ := hp
  unfold regular_reader_one r2_Reader_one
  rcases hP i s l hp' hm with ⟨a1, b1, i', l', e1, e2, g1, g2, g3, g4, g5, _⟩ | ⟨cd, b1, i', l', e1, e2, g1, g2, g3, g4⟩
  · simp only [e1, e2, pbind_inl, Option.bind_some]
    obtain ⟨a', b', i2, l2, z1, z2, y1, y2, y3, y4, y5⟩ := one_loop _ a1 b1 i' s l' ⟨by omega, g2, c1, s0, s1, by omega⟩ g5 (Nat.le_refl _)
    exact .inl ⟨a', b', i2, l2, z1, z2, by omega, y2, by omega, g4.trans y4, y5, fun h => by cases h⟩
  · simp only [e1, e2, pbind_inr, Option.bind_some]
    rw [f_oneL g1 (by omega)]
    exact .inr ⟨cd, _, i', l', rfl, rfl, g1, g2, g3, g4⟩
theorem row_beg {c : List UInt8} {i s f a : Int} {K : List Int} {l : L5} (h0 : 0 ≤ i) :
    r2_Reader_row_L3_B r2_Reader_whole (r2_Reader_row_L3 r2_Reader_whole) c i s f a K l = r2_Reader_row_J5 r2_Reader_whole c i s f a K l (r2_Reader_row_L3 r2_Reader_whole) (decide (f = 0)) (begT (nowT c i)) := by
  unfold r2_Reader_row_L3_B
  rw [r_now h0]
  simp only [Option.bind_some]
  rw [r_ok]
  simp only [Option.bind_some]
  unfold begT
  by_cases h1 : nowT c i = 48
  · simp [h1]
  · by_cases h2 : nowT c i = 49
    · simp [h2]
    · by_cases h3 : 97 ≤ nowT c i
      · by_cases h4 : nowT c i ≤ 100
        · simp [h1, h2, h3, h4]
        · simp [h1, h2, h3, h4]
      · simp [h1, h2, h3]
theorem row_loop {c : List UInt8} : ∀ m : Nat, (∀ m' ≤ m, One c m') → ∀ K ks i s l, Pre c i s l → StnL l K ks → K ≠ [] → (K.length : Int) ≤ i → ((c.length : Int) - i).toNat ≤ m →
    (∃ a b i' l', regular_reader_row_L2 regular_reader_whole c i s 4 0 K = some (.inl (a, c, i', s)) ∧ r2_Reader_row_L3 r2_Reader_whole c i s 0 0 ks l = some (b, c, i', s, l', 0, 0) ∧ i ≤ i' ∧ i' ≤ c.length ∧ (l'.length : Int) ≤ l.length + 3 * (i' - i) + 1 ∧ Ext l l' ∧ Stn l' a b)
    ∨ (∃ cd b i' l', regular_reader_row_L2 regular_reader_whole c i s 4 0 K = some (.inr (cd, i')) ∧ r2_Reader_row_L3 r2_Reader_whole c i s 0 0 ks l = some (b, c, i', s, l', cd, i') ∧ cd ≠ 0 ∧ i ≤ i' ∧ i' ≤ c.length ∧ (l'.length : Int) ≤ l.length + 3 * (i' - i) + 2 * (40 - s) + 1) := by
  intro m
  induction m using Nat.strongRecOn with
  | ind m ih =>
    intro hO K ks i s l hp hK hne hKi hm
    have hp' := hp
    obtain ⟨i0, i1, c1, s0, s1, q1⟩ := hp
    have hlen := hK.len
    rw [regular_reader_row_L2_eq, r2_Reader_row_L3_eq, row_beg i0]
    unfold regular_reader_row_L2_B r2_Reader_row_J5
    rw [p_begins i0 i1]
    simp only [Option.bind_some, decide_true, Bool.not_true, Bool.false_eq_true, if_false]
    cases hb : begT (nowT c i) with
    | true =>
      simp only [if_true, Bool.not_true, Bool.false_eq_true, if_false]
      rcases hO m (Nat.le_refl _) i s l hp' hm with ⟨a1, b1, i', l', e1, e2, g1, g2, g3, g4, g5, _⟩ | ⟨cd, b1, i', l', e1, e2, g1, g2, g3, g4⟩
      · simp only [e1, e2, pbind_inl, Option.bind_some]
        rw [G_pos (room_of (by simp; omega)), G_pos (room_of (by simp; omega))]
        rcases ih (((c.length : Int) - i').toNat) (by omega) (fun m' h => hO m' (by omega)) (K ++ [a1]) (ks ++ [b1]) i' s l' ⟨by omega, g2, c1, s0, s1, by omega⟩ ((g4.stnL hK).snoc g5) (by simp) (by simp; omega) (Nat.le_refl _) with
          ⟨a2, b2, i2, l2, z1, z2, y1, y2, y3, y4, y5⟩ | ⟨cd, b2, i2, l2, z1, z2, y1, y2, y3, y4⟩
        · exact .inl ⟨a2, b2, i2, l2, z1, z2, by omega, y2, by omega, g4.trans y4, y5⟩
        · exact .inr ⟨cd, b2, i2, l2, z1, z2, y1, by omega, y3, by omega⟩
      · simp only [e1, e2, pbind_inr, Option.bind_some]
        rw [G_pos (room_of (by simp; omega)), f_rowL g1 (by omega) (by omega)]
        exact .inr ⟨cd, _, i', _, rfl, rfl, g1, g2, g3, by simp; omega⟩
    | false =>
      simp only [Bool.false_eq_true, if_false, Bool.not_false, if_true]
      unfold regular_reader_row_J3 r2_Reader_row_J8
      rw [r_put (by omega)]
      simp only [Option.bind_some]
      have hks : ks ≠ [] := by cases ks with
        | nil => exact absurd (List.length_eq_zero_iff.1 hlen) hne
        | cons => simp
      exact .inl ⟨_, _, i, _, rfl, rfl, by omega, i1, by simp, Ext.snoc l _, Stn.put (x := (4, 0, ks, ())) (.inr (.inr (.inr (.inr (.inl ⟨rfl, hks⟩))))) hK⟩
theorem row_of {c : List UInt8} {m : Nat} (hO : ∀ m' ≤ m, One c m') : RRow c m := by
  intro i s l hp hm
  have hp' := hp
  obtain ⟨i0, i1, c1, s0, s1, q1⟩ := hp
  unfold regular_reader_row r2_Reader_row
  rcases hO m (Nat.le_refl _) i s l hp' hm with ⟨a1, b1, i', l', e1, e2, g1, g2, g3, g4, g5, _⟩ | ⟨cd, b1, i', l', e1, e2, g1, g2, g3, g4⟩
  · simp only [e1, e2, pbind_inl, Option.bind_some]
    rcases row_loop m hO [a1] [b1] i' s l' ⟨by omega, g2, c1, s0, s1, by omega⟩ (.cons _ _ _ _ g5 .nil) (by simp) (by simp; omega) (by omega) with
      ⟨a2, b2, i2, l2, z1, z2, y1, y2, y3, y4, y5⟩ | ⟨cd, b2, i2, l2, z1, z2, y1, y2, y3, y4⟩
    · exact .inl ⟨a2, b2, i2, l2, z1, z2, by omega, y2, by omega, g4.trans y4, y5, fun h => by cases h⟩
    · exact .inr ⟨cd, b2, i2, l2, z1, z2, y1, by omega, y3, by omega⟩
  · simp only [e1, e2, pbind_inr, Option.bind_some]
    rw [f_rowL g1 (by omega) (by omega)]
    exact .inr ⟨cd, _, i', _, rfl, rfl, g1, g2, g3, by simp; omega⟩
theorem whole_loop {c : List UInt8} : ∀ m : Nat, (∀ m' < m, RRow c m') → ∀ K ks i s l, Pre c i s l → StnL l K ks → K ≠ [] → (K.length : Int) ≤ i → ((c.length : Int) - i).toNat ≤ m →
    (∃ a b i' l', regular_reader_whole_L2 regular_reader_whole c i s 3 0 K = some (.inl (a, c, i', s)) ∧ r2_Reader_whole_L3 r2_Reader_whole c i s 0 0 ks l = some (b, c, i', s, l', 0, 0) ∧ i ≤ i' ∧ i' ≤ c.length ∧ (l'.length : Int) ≤ l.length + 3 * (i' - i) + 1 ∧ Ext l l' ∧ Stn l' a b ∧ b + 1 = l'.length)
    ∨ (∃ cd b i' l', regular_reader_whole_L2 regular_reader_whole c i s 3 0 K = some (.inr (cd, i')) ∧ r2_Reader_whole_L3 r2_Reader_whole c i s 0 0 ks l = some (b, c, i', s, l', cd, i') ∧ cd ≠ 0 ∧ i ≤ i' ∧ i' ≤ c.length ∧ (l'.length : Int) ≤ l.length + 3 * (i' - i) + 2 * (40 - s) + 2) := by
  intro m
  induction m using Nat.strongRecOn with
  | ind m ih =>
    intro hO K ks i s l hp hK hne hKi hm
    have hp' := hp
    obtain ⟨i0, i1, c1, s0, s1, q1⟩ := hp
    have hlen := hK.len
    rw [regular_reader_whole_L2_eq, r2_Reader_whole_L3_eq]
    unfold regular_reader_whole_L2_B r2_Reader_whole_L3_B
    rw [p_now i0 i1, r_now i0]
    simp only [Option.bind_some]
    rw [r_ok]
    simp only [Option.bind_some, decide_true, Bool.not_true, Bool.false_eq_true, if_false]
    by_cases hb : nowT c i = 43
    · have hlt : i < c.length := now_lt (by rw [hb]; decide)
      have fi : fits (i + 1) := fits_of (by omega) (by omega)
      simp only [hb, decide_true, if_true, not_true_eq_false, decide_false, Bool.false_eq_true, if_false, G_pos fi]
      rcases hO (((c.length : Int) - (i + 1)).toNat) (by omega) (i + 1) s l ⟨by omega, by omega, c1, s0, s1, by omega⟩ (Nat.le_refl _) with ⟨a1, b1, i', l', e1, e2, g1, g2, g3, g4, g5, _⟩ | ⟨cd, b1, i', l', e1, e2, g1, g2, g3, g4⟩
      · simp only [e1, e2, pbind_inl, Option.bind_some]
        rw [G_pos (room_of (by simp; omega)), G_pos (room_of (by simp; omega))]
        rcases ih (((c.length : Int) - i').toNat) (by omega) (fun m' h => hO m' (by omega)) (K ++ [a1]) (ks ++ [b1]) i' s l' ⟨by omega, g2, c1, s0, s1, by omega⟩ ((g4.stnL hK).snoc g5) (by simp) (by simp; omega) (Nat.le_refl _) with
          ⟨a2, b2, i2, l2, z1, z2, y1, y2, y3, y4, y5, y6⟩ | ⟨cd, b2, i2, l2, z1, z2, y1, y2, y3, y4⟩
        · exact .inl ⟨a2, b2, i2, l2, z1, z2, by omega, y2, by omega, g4.trans y4, y5, y6⟩
        · exact .inr ⟨cd, b2, i2, l2, z1, z2, y1, by omega, y3, by omega⟩
      · simp only [e1, e2, pbind_inr, Option.bind_some]
        rw [G_pos (room_of (by simp; omega)), f_wholeL g1 (by omega) (by omega)]
        exact .inr ⟨cd, _, i', _, rfl, rfl, g1, by omega, g3, by simp; omega⟩
    · simp only [hb, not_false_eq_true, decide_true, if_true, decide_false, Bool.false_eq_true, if_false]
      unfold regular_reader_whole_J4 r2_Reader_whole_J8
      rw [r_put (by omega)]
      simp only [Option.bind_some]
      have hks : ks ≠ [] := by cases ks with
        | nil => exact absurd (List.length_eq_zero_iff.1 hlen) hne
        | cons => simp
      exact .inl ⟨_, _, i, _, rfl, rfl, by omega, i1, by simp, Ext.snoc l _, Stn.put (x := (3, 0, ks, ())) (.inr (.inr (.inr (.inl ⟨rfl, hks⟩)))) hK, by simp⟩
theorem whole_of {c : List UInt8} {m : Nat} (hO : ∀ m' ≤ m, RRow c m') : Whole c m := by
  intro i s l hp hm
  have hp' := hp
  obtain ⟨i0, i1, c1, s0, s1, q1⟩ := hp
  rw [regular_reader_whole_eq, r2_Reader_whole_eq]
  unfold regular_reader_whole_B r2_Reader_whole_B
  rcases hO m (Nat.le_refl _) i s l hp' hm with ⟨a1, b1, i', l', e1, e2, g1, g2, g3, g4, g5, _⟩ | ⟨cd, b1, i', l', e1, e2, g1, g2, g3, g4⟩
  · simp only [e1, e2, pbind_inl, Option.bind_some]
    rcases whole_loop m (fun m' h => hO m' (by omega)) [a1] [b1] i' s l' ⟨by omega, g2, c1, s0, s1, by omega⟩ (.cons _ _ _ _ g5 .nil) (by simp) (by simp; omega) (by omega) with
      ⟨a2, b2, i2, l2, z1, z2, y1, y2, y3, y4, y5, y6⟩ | ⟨cd, b2, i2, l2, z1, z2, y1, y2, y3, y4⟩
    · exact .inl ⟨a2, b2, i2, l2, z1, z2, by omega, y2, by omega, g4.trans y4, y5, fun _ => y6⟩
    · exact .inr ⟨cd, b2, i2, l2, z1, z2, y1, by omega, y3, by omega⟩
  · simp only [e1, e2, pbind_inr, Option.bind_some]
    rw [f_wholeL g1 (by omega) (by omega)]
    exact .inr ⟨cd, _, i', _, rfl, rfl, g1, g2, g3, by simp; omega⟩
theorem part_of {c : List UInt8} {m : Nat} (hW : ∀ m' < m, Whole c m') : Part c m := by
  intro i s l hp hm
  have hp' := hp
  obtain ⟨i0, i1, c1, s0, s1, q1⟩ := hp
  unfold regular_reader_part r2_Reader_part
  rw [p_now i0 i1, r_ok, r_now i0]
  simp only [Option.bind_some, decide_true, Bool.not_true, Bool.false_eq_true, if_false]
  have es : s + 1 - 1 = s := by omega
  have fs : fits s := fits_of (by omega) (by omega)
  have leaf : ∀ (x : NR), wfN x → x.2.2.1 = [] → i < c.length → Sm 2 0 false c i s l (some (.inl (Tr.mk (x.1, x.2.1, ()) [], c, i + 1, s))) (some ((l.length : Int), c, i + 1, s, l ++ [x], 0, 0)) := by
    intro x hw hk hlt
    exact .inl ⟨_, _, _, _, rfl, rfl, by omega, by omega, by simp; omega, Ext.snoc l _, Stn.put hw (by rw [hk]; exact .nil), fun h => by cases h⟩
  by_cases h48 : nowT c i = 48
  · have hlt : i < c.length := now_lt (by rw [h48]; decide)
    have fi : fits (i + 1) := fits_of (by omega) (by omega)
    simp only [h48, decide_true, if_true, G_pos fi]
    rw [r_put (by omega)]
    exact leaf (0, 0, [], ()) (.inl ⟨rfl, rfl⟩) rfl hlt
  · simp only [h48, decide_false, Bool.false_eq_true, if_false]
    by_cases h49 : nowT c i = 49
    · have hlt : i < c.length := now_lt (by rw [h49]; decide)
      have fi : fits (i + 1) := fits_of (by omega) (by omega)
      simp only [h49, decide_true, if_true, G_pos fi]
      rw [r_put (by omega)]
      exact leaf (1, 0, [], ()) (.inr (.inl ⟨rfl, rfl⟩)) rfl hlt
    · simp only [h49, decide_false, Bool.false_eq_true, if_false]
      have j5 : ∀ t, (t = true → 97 ≤ nowT c i ∧ nowT c i ≤ 100) → Sm 2 0 false c i s l (regular_reader_part_J5 regular_reader_whole c i s (nowT c i) t) (r2_Reader_part_J11 r2_Reader_whole c i s 0 0 l (nowT c i) t) := by
        intro t ht
        unfold regular_reader_part_J5 r2_Reader_part_J11
        cases t with
        | true =>
          obtain ⟨h1, h2⟩ := ht rfl
          have hlt : i < c.length := now_lt (by omega)
          have fi : fits (i + 1) := fits_of (by omega) (by omega)
          simp only [if_true, G_pos fi]
          rw [r_put (by omega)]
          have e : IntKind.wrap .i64 (IntKind.wrap .u8 (nowT c i - 97)) = nowT c i - 97 := by rw [wr8 (by omega) (by omega), wr64 (by omega) (by omega)]
          rw [e]
          exact leaf (2, nowT c i - 97, [], ()) (.inr (.inr (.inl ⟨rfl, by show 0 ≤ nowT c i - 97; omega, by show nowT c i - 97 ≤ 3; omega, rfl⟩))) rfl hlt
        | false =>
          simp only [Bool.false_eq_true, if_false]
          by_cases h40 : nowT c i = 40
          · have hlt : i < c.length := now_lt (by rw [h40]; decide)
            simp only [h40, not_true_eq_false, decide_false, Bool.false_eq_true, if_false, decide_true, if_true]
            by_cases hs : s = 40
            · simp only [hs, decide_true, if_true, p_fail, pbind_inr, r_fail, Option.bind_some]
              exact .inr ⟨7, _, i, _, rfl, rfl, by decide, by omega, by omega, by omega⟩
            · simp only [hs, decide_false, Bool.false_eq_true, if_false]
              unfold regular_reader_part_J10
              have f1 : fits (s + 1) := fits_of (by omega) (by omega)
              have f2 : fits (i + 1) := fits_of (by omega) (by omega)
              simp only [G_pos f1, G_pos f2]
              rcases hW (((c.length : Int) - (i + 1)).toNat) (by omega) (i + 1) (s + 1) l ⟨by omega, by omega, c1, by omega, by omega, by omega⟩ (Nat.le_refl _) with
                ⟨a1, b1, i', l', e1, e2, g1, g2, g3, g4, g5, _⟩ | ⟨cd, b1, i', l', e1, e2, g1, g2, g3, g4⟩
              · simp only [e1, e2, pbind_inl, Option.bind_some]
                rw [p_now (by omega) g2, r_now (by omega)]
                simp only [Option.bind_some]
                unfold r2_Reader_part_J25
                by_cases h41 : nowT c i' = 41
                · have hlt3 : i' < c.length := now_lt (by rw [h41]; decide)
                  have f3 : fits (i' + 1) := fits_of (by omega) (by omega)
                  simp only [h41, not_true_eq_false, decide_false, Bool.false_eq_true, if_false]
                  rw [r_ok]
                  simp only [Option.bind_some, decide_true, if_true, es, G_pos fs, G_pos f3]
                  exact .inl ⟨_, _, _, _, rfl, rfl, by omega, by omega, by omega, g4, g5, fun h => by cases h⟩
                · simp only [h41, not_false_eq_true, decide_true, if_true, p_fail, pbind_inr, r_fail, Option.bind_some]
                  rw [r_ok]
                  simp only [Option.bind_some, Int.reduceEq, decide_false, Bool.false_eq_true, if_false, es, G_pos fs]
                  exact .inr ⟨4, _, i', _, rfl, rfl, by decide, by omega, by omega, by omega⟩
              · simp only [e1, e2, pbind_inr, Option.bind_some]
                rw [r_now (by omega)]
                simp only [Option.bind_some]
                have key : Sm 2 0 false c i s l (some (.inr (cd, i'))) (r2_Reader_part_J25 b1 c i' (s + 1) cd i' l') := by
                  unfold r2_Reader_part_J25
                  rw [r_ok]
                  simp only [Option.bind_some, g1, decide_false, Bool.false_eq_true, if_false, es, G_pos fs]
                  exact .inr ⟨cd, _, i', _, rfl, rfl, g1, by omega, by omega, by omega⟩
                by_cases h41 : nowT c i' = 41
                · simpa [h41] using key
                · simpa [h41, r_fail, g1] using key
          · simp only [h40, not_false_eq_true, decide_true, if_true, decide_false, Bool.false_eq_true, if_false, p_fail, pbind_inr, r_fail, Option.bind_some]
            exact .inr ⟨4, _, i, _, rfl, rfl, by decide, by omega, by omega, by omega⟩
      by_cases h97 : 97 ≤ nowT c i
      · have := j5 (decide (nowT c i ≤ 100)) (fun h => ⟨h97, of_decide_eq_true h⟩)
        simpa [h97] using this
      · have := j5 false (fun h => by cases h)
        simpa [h97] using this
theorem all_of {c : List UInt8} : ∀ m : Nat, Whole c m := by
  intro m
  induction m using Nat.strongRecOn with
  | ind m ih =>
    have hP : ∀ m' ≤ m, Part c m' := fun m' h => part_of fun m'' h' => ih m'' (by omega)
    exact whole_of fun m' h => row_of fun m'' h' => one_of (hP m'' (by omega))
/-- Both read: a tree and a list of parts whose last one is the tree, or the same fault. -/
theorem parse_both (c : List UInt8) : (∃ a l, regular_parsed c = some (a, (0, (0, ()))) ∧ r2_Parse c = some ((0, (0, ())), l) ∧ (l.length : Int) ≤ 3 * c.length ∧ Stn l a (l.length - 1) ∧ c.length ≤ 4000)
    ∨ (∃ cd pl, regular_parsed c = some (Tr.nil, (cd, (pl, ()))) ∧ r2_Parse c = some ((cd, (pl, ())), []) ∧ cd ≠ 0) := by
  unfold regular_parsed r2_Parse
  by_cases hc : (4000 : Int) < c.length
  · simp only [hc, decide_true, if_true]
    exact .inr ⟨1, 0, rfl, rfl, by decide⟩
  · simp only [hc, decide_false, Bool.false_eq_true, if_false]
    rcases all_of (c := c) (((c.length : Int) - 0).toNat) 0 0 [] ⟨by omega, by omega, by omega, by omega, by omega, by simp⟩ (Nat.le_refl _) with
      ⟨a1, b1, i', l', e1, e2, g1, g2, g3, g4, g5, g6⟩ | ⟨cd, b1, i', l', e1, e2, g1, g2, g3, g4⟩
    · simp only [e1, e2, pbind_inl, Option.bind_some]
      by_cases hi : i' < (c.length : Int)
      · simp only [hi, decide_true, if_true, p_fail, pbind_inr, r_fail, Option.bind_some, Int.reduceEq, not_false_eq_true]
        exact .inr ⟨4, i', rfl, rfl, by decide⟩
      · simp only [hi, decide_false, Bool.false_eq_true, if_false, not_true_eq_false, Option.bind_some]
        have := g6 rfl
        refine .inl ⟨a1, l', rfl, rfl, by simp at g3; omega, ?_, by omega⟩
        rw [show (l'.length : Int) - 1 = b1 by omega]; exact g5
    · simp only [e1, e2, pbind_inr, Option.bind_some]
      by_cases hi : i' < (c.length : Int)
      · simp only [hi, decide_true, if_true, r_fail, g1, if_false, not_false_eq_true, Option.bind_some]
        exact .inr ⟨cd, i', rfl, rfl, g1⟩
      · simp only [hi, decide_false, Bool.false_eq_true, if_false, g1, not_false_eq_true, decide_true, if_true, Option.bind_some]
        exact .inr ⟨cd, i', rfl, rfl, g1⟩

theorem eqB_self' (f a : Int) : eqB (f, (a, ())) (f, (a, ())) = true := by simp [eqB]
theorem law_true (c : List UInt8) : law_RegularReads c = some true := by
  unfold law_RegularReads regular_Check
  rcases parse_both c with ⟨a, l, e1, e2, _⟩ | ⟨cd, pl, e1, e2, _⟩
  · simp only [e1, e2, Option.bind_some, eqB_self']
  · simp only [e1, e2, Option.bind_some, eqB_self']

end Go.Proofs.Ytbckhoiofdojkaa.regularReadsW
