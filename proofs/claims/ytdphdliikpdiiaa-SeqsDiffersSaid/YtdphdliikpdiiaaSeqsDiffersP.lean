/- The law 'SeqsDiffers' of the plain functions. -/
import Derived.Test.YtdphdliikpdiiaaSeqsDiffersD
set_option maxHeartbeats 1000000
set_option maxRecDepth 20000
set_option linter.unusedSimpArgs false
set_option linter.unusedVariables false
namespace Go.Proofs.Ytdphdliikpdiiaa.seqsDiffersW
open Go Go.Ab
/-- The answer is yes just if P. -/
def Tells (o : Option Bool) (P : Prop) : Prop := ∃ b, o = some b ∧ (b = true ↔ P)
theorem Tells.of {b : Bool} {P : Prop} (h : b = true ↔ P) : Tells (some b) P := ⟨b, rfl, h⟩
theorem Tells.dec {P Q : Prop} [Decidable P] (h : P ↔ Q) : Tells (some (decide P)) Q := ⟨_, rfl, by simpa using h⟩
theorem Tells.iff {o : Option Bool} {P Q : Prop} (h : Tells o P) (k : P ↔ Q) : Tells o Q := let ⟨b, h1, h2⟩ := h; ⟨b, h1, h2.trans k⟩
theorem Tells.eq {o : Option Bool} {P : Prop} [Decidable P] (h : Tells o P) : o = some (decide P) := by
  obtain ⟨b, rfl, hb⟩ := h
  by_cases hp : P
  · simp [hp, hb.2 hp]
  · have : b = false := by cases b; rfl; exact absurd (hb.1 rfl) hp
    simp [hp, this]
theorem Tells.to {R : Type} {o : Option Bool} {P : Prop} {k1 k2 x : Option R} (h : Tells o P) (h1 : P → k1 = x) (h2 : ¬ P → k2 = x) : (o.bind fun y => if y = true then k1 else k2) = x := by
  obtain ⟨b, rfl, hb⟩ := h
  refine bind_to rfl ?_
  cases b
  · exact h2 fun hp => by simpa using hb.2 hp
  · exact h1 (hb.1 rfl)
theorem Tells.bind {R : Type} {o : Option Bool} {P : Prop} {k : Bool → Option R} {x : Option R} (h : Tells o P) (h1 : ∀ b, (b = true ↔ P) → k b = x) : o.bind k = x := by
  obtain ⟨b, rfl, hb⟩ := h
  exact h1 b hb
section
variable {α C : Type} [Inhabited α]
theorem ex_ix {l : List α} {P : α → Prop} : (∃ x ∈ l, P x) ↔ ∃ i : Int, 0 ≤ i ∧ i < l.length ∧ P (ix l i) := by
  constructor
  · rintro ⟨x, hx, hp⟩
    obtain ⟨i, hi, rfl⟩ := List.mem_iff_getElem.1 hx
    refine ⟨i, by omega, by omega, ?_⟩
    rwa [ix_eq (by omega) (by omega)]
  · rintro ⟨i, h0, h1, hp⟩
    exact ⟨_, ix_mem h0 h1, hp⟩
theorem index_loop {s : List α} {f : α → Option Bool} {L : Int → Option Int} {P : α → Prop} (hs : s.length ≤ 4611686018427387904)
    (hL : ∀ t, L t = if decide (t < (s.length : Int)) = true then G (0 ≤ t ∧ t < (s.length : Int)) ((f (ix s t)).bind fun y => if y = true then some t else G (fits (t + 1)) (L (t + 1))) else some (-1))
    (hf : ∀ x ∈ s, Tells (f x) (P x)) : ∀ (n : Nat) (t : Int), 0 ≤ t → t ≤ s.length → (s.length - t).toNat = n →
      ∃ i, L t = some i ∧ ((i = -1 ∧ ∀ j : Int, t ≤ j → j < s.length → ¬ P (ix s j)) ∨ (t ≤ i ∧ i < s.length ∧ P (ix s i) ∧ ∀ j : Int, t ≤ j → j < i → ¬ P (ix s j))) := by
  intro n
  induction n with
  | zero =>
    intro t h0 h1 hn
    refine ⟨-1, ?_, .inl ⟨rfl, fun j a b => by omega⟩⟩
    rw [hL, if_neg (by simp; omega)]
  | succ n ih =>
    intro t h0 h1 hn
    rw [hL, if_pos (by simp; omega), G_pos (by omega)]
    obtain ⟨b, hb, hbp⟩ := hf _ (ix_mem h0 (by omega : t < s.length))
    rw [hb]
    cases b with
    | true => exact ⟨t, rfl, .inr ⟨by omega, by omega, hbp.1 rfl, fun j a b => by omega⟩⟩
    | false =>
      have hnp : ¬ P (ix s t) := fun hp => by simpa using hbp.2 hp
      obtain ⟨i, hi, hc⟩ := ih (t + 1) (by omega) (by omega) (by omega)
      refine ⟨i, ?_, ?_⟩
      · refine (if_neg (by simp) : (if false = true then some t else G (fits (t + 1)) (L (t + 1))) = _).trans ?_
        rw [G_pos (by unfold fits; omega), hi]
      · rcases hc with ⟨h2, h3⟩ | ⟨h2, h3, h4, h5⟩
        · refine .inl ⟨h2, fun j a b => ?_⟩
          by_cases e : j = t
          · rw [e]; exact hnp
          · exact h3 j (by omega) b
        · refine .inr ⟨by omega, h3, h4, fun j a b => ?_⟩
          by_cases e : j = t
          · rw [e]; exact hnp
          · exact h5 j (by omega) b
theorem contains_tells {s : List α} {f : α → Option Bool} {L : Int → Option Int} {P : α → Prop}
    (hL : ∀ t, L t = if decide (t < (s.length : Int)) = true then G (0 ≤ t ∧ t < (s.length : Int)) ((f (ix s t)).bind fun y => if y = true then some t else G (fits (t + 1)) (L (t + 1))) else some (-1))
    (hs : s.length ≤ 4611686018427387904) (hf : ∀ x ∈ s, Tells (f x) (P x)) : Tells ((L 0).bind fun y => some (decide ((0 : Int) ≤ y))) (∃ x ∈ s, P x) := by
  obtain ⟨i, hi, hc⟩ := index_loop hs hL hf _ 0 (by omega) (by omega) rfl
  rw [hi]
  refine ⟨decide (0 ≤ i), rfl, ?_⟩
  rw [decide_eq_true_iff, ex_ix]
  rcases hc with ⟨h2, h3⟩ | ⟨h2, h3, h4, h5⟩
  · constructor
    · intro h; omega
    · rintro ⟨j, h0, h1, hp⟩; exact absurd hp (h3 j h0 h1)
  · exact ⟨fun _ => ⟨i, by omega, h3, h4⟩, fun _ => by omega⟩
/-- .. of what carries along what it reads. -/
theorem contains_tells2 {s : List α} {c : C} {f : α → C → Option (Bool × C)} {L : Int → C → Option (Int × C)} {P : α → Prop}
    (hL : ∀ t c, L t c = if decide (t < (s.length : Int)) = true then G (0 ≤ t ∧ t < (s.length : Int)) ((f (ix s t) c).bind fun y => if y.1 = true then some (t, y.2) else G (fits (t + 1)) (L (t + 1) y.2)) else some (-1, c))
    (hs : s.length ≤ 4611686018427387904) (hf : ∀ x ∈ s, ∃ b, f x c = some (b, c) ∧ (b = true ↔ P x)) : ∃ b, ((L 0 c).bind fun y => some (decide ((0 : Int) ≤ y.1), y.2)) = some (b, c) ∧ (b = true ↔ ∃ x ∈ s, P x) := by
  have key : ∀ (n : Nat) (t : Int), 0 ≤ t → t ≤ s.length → (s.length - t).toNat = n →
      ∃ i, L t c = some (i, c) ∧ ((i = -1 ∧ ∀ j : Int, t ≤ j → j < s.length → ¬ P (ix s j)) ∨ (t ≤ i ∧ i < s.length ∧ P (ix s i))) := by
    intro n
    induction n with
    | zero =>
      intro t h0 h1 hn
      refine ⟨-1, ?_, .inl ⟨rfl, fun j a b => by omega⟩⟩
      rw [hL, if_neg (by simp; omega)]
    | succ n ih =>
      intro t h0 h1 hn
      rw [hL, if_pos (by simp; omega), G_pos (by omega)]
      obtain ⟨b, hb, hbp⟩ := hf _ (ix_mem h0 (by omega : t < s.length))
      rw [hb]
      cases b with
      | true => exact ⟨t, rfl, .inr ⟨by omega, by omega, hbp.1 rfl⟩⟩
      | false =>
        have hnp : ¬ P (ix s t) := fun hp => by simpa using hbp.2 hp
        obtain ⟨i, hi, hc⟩ := ih (t + 1) (by omega) (by omega) (by omega)
        refine ⟨i, ?_, ?_⟩
        · refine (if_neg (by simp) : (if false = true then some (t, c) else G (fits (t + 1)) (L (t + 1) c)) = _).trans ?_
          rw [G_pos (by unfold fits; omega), hi]
        · rcases hc with ⟨h2, h3⟩ | ⟨h2, h3, h4⟩
          · refine .inl ⟨h2, fun j a b => ?_⟩
            by_cases e : j = t
            · rw [e]; exact hnp
            · exact h3 j (by omega) b
          · exact .inr ⟨by omega, h3, h4⟩
  obtain ⟨i, hi, hc⟩ := key _ 0 (by omega) (by omega) rfl
  rw [hi]
  refine ⟨decide (0 ≤ i), rfl, ?_⟩
  rw [decide_eq_true_iff, ex_ix]
  rcases hc with ⟨h2, h3⟩ | ⟨h2, h3, h4⟩
  · constructor
    · intro h; omega
    · rintro ⟨j, h0, h1, hp⟩; exact absurd hp (h3 j h0 h1)
  · exact ⟨fun _ => ⟨i, by omega, h3, h4⟩, fun _ => by omega⟩
end
/-- A loop that looks for the first fault. -/
theorem scan_to {R : Type} {len : Int} {L : Int → Option R} {bad : Int → Prop} {x : Option R} {lo : Int} (h0 : lo ≤ len)
    (hs : ∀ t, lo ≤ t → t < len → (bad t → L t = x) ∧ (¬ bad t → L t = L (t + 1))) (hf : (∀ t, lo ≤ t → t < len → ¬ bad t) → L len = x) : L lo = x := by
  have key : ∀ (n : Nat) (t : Int), lo ≤ t → t ≤ len → (len - t).toNat = n → (∀ j, lo ≤ j → j < t → ¬ bad j) → L t = x := by
    intro n
    induction n with
    | zero =>
      intro t h1 h2 hn h
      obtain rfl : t = len := by omega
      exact hf h
    | succ n ih =>
      intro t h1 h2 hn h
      by_cases hb : bad t
      · exact (hs t h1 (by omega)).1 hb
      · rw [(hs t h1 (by omega)).2 hb]
        refine ih (t + 1) (by omega) (by omega) (by omega) fun j a b => ?_
        by_cases e : j = t
        · rw [e]; exact hb
        · exact h j a (by omega)
  exact key _ lo (Int.le_refl _) h0 rfl (fun j a b => by omega)
/-- A loop that counts, with a state. -/
theorem fold_to {R S : Type} {len : Int} {L : Int → S → Option R} {f : Int → S → S} {lo : Int} {I : Int → S → Prop} {s : S} (h0 : lo ≤ len) (hI : I lo s)
    (hs : ∀ t s, lo ≤ t → t < len → I t s → L t s = L (t + 1) (f t s) ∧ I (t + 1) (f t s)) : ∃ s', I len s' ∧ L lo s = L len s' := by
  have key : ∀ (n : Nat) (t : Int) (s : S), lo ≤ t → t ≤ len → (len - t).toNat = n → I t s → ∃ s', I len s' ∧ L t s = L len s' := by
    intro n
    induction n with
    | zero =>
      intro t s h1 h2 hn h
      obtain rfl : t = len := by omega
      exact ⟨s, h, rfl⟩
    | succ n ih =>
      intro t s h1 h2 hn h
      obtain ⟨e, h3⟩ := hs t s h1 (by omega) h
      obtain ⟨s', h4, h5⟩ := ih (t + 1) _ (by omega) (by omega) (by omega) h3
      exact ⟨s', h4, e.trans h5⟩
  exact key _ lo s (Int.le_refl _) h0 rfl hI

abbrev Mor := Int × List (List Int) × List Int × Unit
def MBase (m : Mor) : Prop := 2 ≤ m.1 ∧ m.1 ≤ 4
def MSize (m : Mor) : Prop := 1 ≤ (m.2.1.length : Int) ∧ (m.2.1.length : Int) ≤ 4
def MShape (m : Mor) : Prop := (m.2.2.1.length : Int) = m.2.1.length ∧ ∀ w ∈ m.2.1, (w.length : Int) = m.1
def MRow (m : Mor) (a : Int) : Prop := (∀ k : Int, 0 ≤ k → k < m.1 → 0 ≤ ix (ix m.2.1 a) k ∧ ix (ix m.2.1 a) k < m.2.1.length) ∧ 0 ≤ ix m.2.2.1 a ∧ ix m.2.2.1 a ≤ 9
def MTab (m : Mor) : Prop := ∀ a : Int, 0 ≤ a → a < m.2.1.length → MRow m a
def MZero (m : Mor) : Prop := ix (ix m.2.1 0) 0 = 0
open Classical in
/-- The fault of a morphism. -/
noncomputable def morE (m : Mor) : Int := if ¬ MBase m then 2 else if ¬ MSize m then 1 else if ¬ MShape m then 3 else if ¬ MTab m then 2 else if ¬ MZero m then 3 else 0
structure MOK (m : Mor) : Prop where
  base : MBase m
  size : MSize m
  shape : MShape m
  tab : MTab m
  zero : MZero m
theorem mor_base {m : Mor} (h : ¬ MBase m) : morE m = 2 := if_pos h
theorem mor_size {m : Mor} (h1 : MBase m) (h : ¬ MSize m) : morE m = 1 := by unfold morE; rw [if_neg (not_not_intro h1), if_pos h]
theorem mor_shape {m : Mor} (h1 : MBase m) (h2 : MSize m) (h : ¬ MShape m) : morE m = 3 := by unfold morE; rw [if_neg (not_not_intro h1), if_neg (not_not_intro h2), if_pos h]
theorem mor_tab {m : Mor} (h1 : MBase m) (h2 : MSize m) (h3 : MShape m) (h : ¬ MTab m) : morE m = 2 := by unfold morE; rw [if_neg (not_not_intro h1), if_neg (not_not_intro h2), if_neg (not_not_intro h3), if_pos h]
theorem mor_zero {m : Mor} (h1 : MBase m) (h2 : MSize m) (h3 : MShape m) (h4 : MTab m) (h : ¬ MZero m) : morE m = 3 := by
  unfold morE; rw [if_neg (not_not_intro h1), if_neg (not_not_intro h2), if_neg (not_not_intro h3), if_neg (not_not_intro h4), if_pos h]
theorem mor_ok {m : Mor} (h1 : MBase m) (h2 : MSize m) (h3 : MShape m) (h4 : MTab m) (h : MZero m) : morE m = 0 := by
  unfold morE; rw [if_neg (not_not_intro h1), if_neg (not_not_intro h2), if_neg (not_not_intro h3), if_neg (not_not_intro h4), if_neg (not_not_intro h)]
theorem mor_of {m : Mor} (h : morE m = 0) : MOK m := by
  by_cases h1 : MBase m
  · by_cases h2 : MSize m
    · by_cases h3 : MShape m
      · by_cases h4 : MTab m
        · by_cases h5 : MZero m
          · exact ⟨h1, h2, h3, h4, h5⟩
          · rw [mor_zero h1 h2 h3 h4 h5] at h; omega
        · rw [mor_tab h1 h2 h3 h4] at h; omega
      · rw [mor_shape h1 h2 h3] at h; omega
    · rw [mor_size h1 h2] at h; omega
  · rw [mor_base h1] at h; omega
theorem MOK.len {m : Mor} (h : MOK m) {a : Int} (h0 : 0 ≤ a) (ha : a < m.2.1.length) : ((ix m.2.1 a).length : Int) = m.1 := h.shape.2 _ (ix_mem h0 ha)
/-- The letter at a place. -/
def letF (m : Mor) : Nat → Int → Int
  | 0, _ => 0
  | f + 1, n => if n = 0 then 0 else ix (ix m.2.1 (letF m f (n / m.1))) (n % m.1)
def letT (m : Mor) (n : Int) : Int := letF m n.toNat n
theorem div_lt {n b : Int} (hn : 0 < n) (hb : 2 ≤ b) : 0 ≤ n / b ∧ n / b < n := ⟨Int.ediv_nonneg (by omega) (by omega), Int.ediv_lt_of_lt_mul (by omega) (by
  have : n * 2 ≤ n * b := Int.mul_le_mul_of_nonneg_left hb (by omega)
  omega)⟩
theorem letF_eq {m : Mor} (hb : 2 ≤ m.1) : ∀ (f : Nat) (n : Int), 0 ≤ n → n.toNat ≤ f → letF m f n = letT m n
  | 0, n, h0, h => by
    have : n = 0 := by omega
    subst this; rfl
  | f + 1, n, h0, h => by
    by_cases hn : n = 0
    · subst hn; rfl
    · have hd := div_lt (n := n) (b := m.1) (by omega) hb
      obtain ⟨k, hk⟩ : ∃ k, n.toNat = k + 1 := ⟨n.toNat - 1, by omega⟩
      unfold letT
      rw [hk]
      simp only [letF, if_neg hn]
      rw [letF_eq hb f _ hd.1 (by omega), letF_eq hb k _ hd.1 (by omega)]
theorem letT_zero {m : Mor} : letT m 0 = 0 := rfl
theorem letT_step {m : Mor} (hb : 2 ≤ m.1) {n : Int} (hn : 0 < n) : letT m n = ix (ix m.2.1 (letT m (n / m.1))) (n % m.1) := by
  have hd := div_lt (n := n) (b := m.1) (by omega) hb
  obtain ⟨k, hk⟩ : ∃ k, n.toNat = k + 1 := ⟨n.toNat - 1, by omega⟩
  show letF m n.toNat n = _
  rw [hk]
  simp only [letF, if_neg (show ¬ n = 0 by omega)]
  rw [letF_eq hb k _ hd.1 (by omega)]
theorem mod_in {n b : Int} (hb : 2 ≤ b) : 0 ≤ n % b ∧ n % b < b := ⟨Int.emod_nonneg _ (by omega), Int.emod_lt_of_pos _ (by omega)⟩
theorem letT_in {m : Mor} (h : MOK m) : ∀ (f : Nat) (n : Int), n.toNat ≤ f → 0 ≤ n → 0 ≤ letT m n ∧ letT m n < m.2.1.length
  | 0, n, hf, h0 => by
    have : n = 0 := by omega
    subst this; rw [letT_zero]; have := h.size; unfold MSize at this; omega
  | f + 1, n, hf, h0 => by
    by_cases hn : n = 0
    · subst hn; rw [letT_zero]; have := h.size; unfold MSize at this; omega
    · have hb := h.base.1
      have hd := div_lt (n := n) (b := m.1) (by omega) hb
      rw [letT_step hb (by omega)]
      have hi := letT_in h f (n / m.1) (by omega) hd.1
      exact (h.tab _ hi.1 hi.2).1 _ (mod_in hb).1 (mod_in hb).2
theorem pow_le {a : Nat} {n : Int} (h : 2 ^ a ≤ n) (hn : n ≤ 9223372036854775807) : a ≤ 62 := by
  refine Nat.le_of_not_lt fun h2 => ?_
  have h3 : (2 : Nat) ^ 63 ≤ 2 ^ a := Nat.pow_le_pow_right (by omega) h2
  have h4 : ((2 ^ a : Nat) : Int) = 2 ^ a := by simp
  omega
theorem pow_half {a : Nat} {n k b : Int} (hk : 0 < k) (hb : 2 ≤ b) (h : 2 ^ a * k ≤ n) : 2 ^ (a + 1) * (k / b) ≤ n := by
  have h1 : b * (k / b) ≤ k := Int.mul_ediv_self_le (by omega)
  have h0 : 0 ≤ k / b := (div_lt hk hb).1
  have h2 : 2 * (k / b) ≤ b * (k / b) := Int.mul_le_mul_of_nonneg_right hb h0
  have h3 : (2 : Int) ^ a * (2 * (k / b)) ≤ 2 ^ a * k := Int.mul_le_mul_of_nonneg_left (by omega) (Int.le_of_lt (Int.pow_pos (by omega)))
  rw [Int.pow_succ, Int.mul_assoc]; omega
theorem pow_one_le {a : Nat} {n k : Int} (hk : 0 < k) (h : 2 ^ a * k ≤ n) : 2 ^ a ≤ n := by
  have : (2 : Int) ^ a * 1 ≤ 2 ^ a * k := Int.mul_le_mul_of_nonneg_left (by omega) (Int.le_of_lt (Int.pow_pos (by omega)))
  omega
def digs (m : Mor) (p : List Int) (a : Int) : Int := p.foldr (fun d a => ix (ix m.2.1 a) d) a
theorem digs_add {m : Mor} {p : List Int} {d a : Int} : digs m (p ++ [d]) a = digs m p (ix (ix m.2.1 a) d) := by simp [digs]

theorem IndexFunc_L2_spec {s : List (List Int)} {c : Mor} (hs : s.length ≤ 1000000) : ∀ (n : Nat) (i : Int), (s.length - i).toNat = n → 0 ≤ i → i ≤ s.length → (∀ j : Int, 0 ≤ j → j < i → decide (¬ ((ix s j).length : Int) = c.1) = false) → slices_IndexFunc_L2 s c i = some (findI (fun w => decide (¬ (w.length : Int) = c.1)) s) := by
  intro n
  induction n with
  | zero =>
    intro i hn h0 h1 h
    rw [slices_IndexFunc_L2_eq]; unfold slices_IndexFunc_L2_B
    (try dsimp only); (repeat' first | (with_reducible refine G_to ?_ ?_; focus (first | omega | (unfold fits; omega) | (unfold room; (try simp only [List.length_append, List.length_cons, List.length_nil]); omega))) | (with_reducible refine both_to ?_ ?_) | (with_reducible refine itet_to ?_) | (with_reducible refine itef_to ?_) | (with_reducible refine ite_to (fun _ => ?_) (fun _ => ?_))) <;> try (exfalso; omega)
    rw [findI_none (fun j a b => h j a (by omega))]
  | succ n ih =>
    intro i hn h0 h1 h
    rw [slices_IndexFunc_L2_eq]; unfold slices_IndexFunc_L2_B
    (try dsimp only); (repeat' first | (with_reducible refine G_to ?_ ?_; focus (first | omega | (unfold fits; omega) | (unfold room; (try simp only [List.length_append, List.length_cons, List.length_nil]); omega))) | (with_reducible refine both_to ?_ ?_) | (with_reducible refine itet_to ?_) | (with_reducible refine itef_to ?_) | (with_reducible refine ite_to (fun _ => ?_) (fun _ => ?_))) <;> try (exfalso; omega)
    refine bind_to (y := decide (¬ ((ix s i).length : Int) = c.1)) rfl ?_
    (try dsimp only); (repeat' first | (with_reducible refine G_to ?_ ?_; focus (first | omega | (unfold fits; omega) | (unfold room; (try simp only [List.length_append, List.length_cons, List.length_nil]); omega))) | (with_reducible refine both_to ?_ ?_) | (with_reducible refine itet_to ?_) | (with_reducible refine itef_to ?_) | (with_reducible refine ite_to (fun _ => ?_) (fun _ => ?_))) <;> try (exfalso; omega)
    · rename_i hh; exact congrArg some (findI_hit (l := s) h0 (by omega) h (decide_eq_true hh)).symm
    · rename_i hh; exact ih (i + 1) (by omega) (by omega) (by omega) (below_succ h (decide_eq_false hh))
theorem ContainsFunc_spec {s : List (List Int)} {c : Mor} (hs : s.length ≤ 1000000) : slices_ContainsFunc s c = some (s.any (fun w => decide (¬ (w.length : Int) = c.1))) := by
  unfold slices_ContainsFunc
  refine bind_to (IndexFunc_L2_spec hs _ 0 rfl (by omega) (by omega) (fun j a b => by omega)) ?_
  rw [← findI_any]
theorem Check_2_spec {b t : Int} : seqs_Check_2 b t = some (decide (b < 0 ∨ t ≤ b)) := by
  unfold seqs_Check_2
  (try dsimp only); (repeat' first | (with_reducible refine G_to ?_ ?_; focus (first | omega | (unfold fits; omega) | (unfold room; (try simp only [List.length_append, List.length_cons, List.length_nil]); omega))) | (with_reducible refine both_to ?_ ?_) | (with_reducible refine itet_to ?_) | (with_reducible refine itef_to ?_) | (with_reducible refine ite_to (fun _ => ?_) (fun _ => ?_))) <;> try (exfalso; omega)
  · rw [Option.some_inj, eq_comm, decide_eq_true_iff]; exact .inl (by assumption)
  · rw [Option.some_inj]; congr 1; rw [eq_iff_iff]; omega
theorem IndexFunc_1_L2_spec {s : List Int} {c : Int} (hs : s.length ≤ 1000000) : ∀ (n : Nat) (i : Int), (s.length - i).toNat = n → 0 ≤ i → i ≤ s.length → (∀ j : Int, 0 ≤ j → j < i → decide (ix s j < 0 ∨ c ≤ ix s j) = false) → slices_IndexFunc_1_L2 s c i = some (findI (fun b => decide (b < 0 ∨ c ≤ b)) s) := by
  intro n
  induction n with
  | zero =>
    intro i hn h0 h1 h
    rw [slices_IndexFunc_1_L2_eq]; unfold slices_IndexFunc_1_L2_B
    (try dsimp only); (repeat' first | (with_reducible refine G_to ?_ ?_; focus (first | omega | (unfold fits; omega) | (unfold room; (try simp only [List.length_append, List.length_cons, List.length_nil]); omega))) | (with_reducible refine both_to ?_ ?_) | (with_reducible refine itet_to ?_) | (with_reducible refine itef_to ?_) | (with_reducible refine ite_to (fun _ => ?_) (fun _ => ?_))) <;> try (exfalso; omega)
    rw [findI_none (fun j a b => h j a (by omega))]
  | succ n ih =>
    intro i hn h0 h1 h
    rw [slices_IndexFunc_1_L2_eq]; unfold slices_IndexFunc_1_L2_B
    (try dsimp only); (repeat' first | (with_reducible refine G_to ?_ ?_; focus (first | omega | (unfold fits; omega) | (unfold room; (try simp only [List.length_append, List.length_cons, List.length_nil]); omega))) | (with_reducible refine both_to ?_ ?_) | (with_reducible refine itet_to ?_) | (with_reducible refine itef_to ?_) | (with_reducible refine ite_to (fun _ => ?_) (fun _ => ?_))) <;> try (exfalso; omega)
    refine bind_to Check_2_spec ?_
    (try dsimp only); (repeat' first | (with_reducible refine G_to ?_ ?_; focus (first | omega | (unfold fits; omega) | (unfold room; (try simp only [List.length_append, List.length_cons, List.length_nil]); omega))) | (with_reducible refine both_to ?_ ?_) | (with_reducible refine itet_to ?_) | (with_reducible refine itef_to ?_) | (with_reducible refine ite_to (fun _ => ?_) (fun _ => ?_))) <;> try (exfalso; omega)
    · rename_i hh; exact congrArg some (findI_hit (l := s) h0 (by omega) h (decide_eq_true hh)).symm
    · rename_i hh; exact ih (i + 1) (by omega) (by omega) (by omega) (below_succ h (decide_eq_false hh))
theorem ContainsFunc_1_spec {s : List Int} {c : Int} (hs : s.length ≤ 1000000) : slices_ContainsFunc_1 s c = some (s.any (fun b => decide (b < 0 ∨ c ≤ b))) := by
  unfold slices_ContainsFunc_1
  refine bind_to (IndexFunc_1_L2_spec hs _ 0 rfl (by omega) (by omega) (fun j a b => by omega)) ?_
  rw [← findI_any]
theorem Check_L9_spec {m : Mor} (g1 : MBase m) (g2 : MSize m) (g3 : MShape m) : ∀ (n : Nat) (a : Int), (m.2.1.length - a).toNat = n → 0 ≤ a → a ≤ m.2.1.length → (∀ j : Int, 0 ≤ j → j < a → MRow m j) → seqs_Check_L9 m a = some (morE m) := by
  have e1 := g1.1
  have e2 := g2.1
  have e3 := g2.2
  have e4 := g1.2
  have e5 := g3.1
  intro n
  induction n with
  | zero =>
    intro a hn h0 h1 h
    have ht : MTab m := fun j c d => h j c (by omega)
    have e6 : ((ix m.2.1 0).length : Int) = m.1 := g3.2 _ (ix_mem (by omega) (by omega))
    rw [seqs_Check_L9_eq]; unfold seqs_Check_L9_B
    (try dsimp only); (repeat' first | (with_reducible refine G_to ?_ ?_; focus (first | omega | (unfold fits; omega) | (unfold room; (try simp only [List.length_append, List.length_cons, List.length_nil]); omega))) | (with_reducible refine both_to ?_ ?_) | (with_reducible refine itet_to ?_) | (with_reducible refine itef_to ?_) | (with_reducible refine ite_to (fun _ => ?_) (fun _ => ?_))) <;> try (exfalso; omega)
    · rw [mor_zero g1 g2 g3 ht (by assumption)]
    · rw [mor_ok g1 g2 g3 ht (by unfold MZero; omega)]
  | succ n ih =>
    intro a hn h0 h1 h
    have e6 : ((ix m.2.1 a).length : Int) = m.1 := g3.2 _ (ix_mem (by omega) (by omega))
    rw [seqs_Check_L9_eq]; unfold seqs_Check_L9_B
    (try dsimp only); (repeat' first | (with_reducible refine G_to ?_ ?_; focus (first | omega | (unfold fits; omega) | (unfold room; (try simp only [List.length_append, List.length_cons, List.length_nil]); omega))) | (with_reducible refine both_to ?_ ?_) | (with_reducible refine itet_to ?_) | (with_reducible refine itef_to ?_) | (with_reducible refine ite_to (fun _ => ?_) (fun _ => ?_))) <;> try (exfalso; omega)
    refine bind_to (ContainsFunc_1_spec (by omega)) ?_
    refine iteb_to (fun hx => ?_) (fun hx => ?_)
    · rw [List.any_eq_true] at hx
      obtain ⟨b, hb, hb2⟩ := hx
      rw [decide_eq_true_iff] at hb2
      rw [mor_tab g1 g2 g3 (fun ht => by
        obtain ⟨k, k0, k1, rfl⟩ := mem_ix hb
        have := (ht a h0 (by omega)).1 k k0 (by omega)
        omega)]
    rw [List.any_eq_false] at hx
    (try dsimp only); (repeat' first | (with_reducible refine G_to ?_ ?_; focus (first | omega | (unfold fits; omega) | (unfold room; (try simp only [List.length_append, List.length_cons, List.length_nil]); omega))) | (with_reducible refine both_to ?_ ?_) | (with_reducible refine itet_to ?_) | (with_reducible refine itef_to ?_) | (with_reducible refine ite_to (fun _ => ?_) (fun _ => ?_))) <;> try (exfalso; omega)
    · rw [mor_tab g1 g2 g3 (fun ht => by have := (ht a h0 (by omega)).2; omega)]
    · rw [mor_tab g1 g2 g3 (fun ht => by have := (ht a h0 (by omega)).2; omega)]
    · refine ih (a + 1) (by omega) (by omega) (by omega) (below_succ h ⟨fun k k0 k1 => ?_, by omega, by omega⟩)
      have := hx _ (ix_mem k0 (by omega : k < (ix m.2.1 a).length))
      rw [decide_eq_true_iff] at this
      omega
theorem Check_spec {m : Mor} : seqs_Check m = some (morE m) := by
  unfold seqs_Check
  (try dsimp only); (repeat' first | (with_reducible refine G_to ?_ ?_; focus (first | omega | (unfold fits; omega) | (unfold room; (try simp only [List.length_append, List.length_cons, List.length_nil]); omega))) | (with_reducible refine both_to ?_ ?_) | (with_reducible refine itet_to ?_) | (with_reducible refine itef_to ?_) | (with_reducible refine ite_to (fun _ => ?_) (fun _ => ?_))) <;> try (exfalso; omega)
  · rw [mor_base (by unfold MBase; omega)]
  · rw [mor_base (by unfold MBase; omega)]
  · rw [mor_size (by unfold MBase; omega) (by unfold MSize; omega)]
  · rw [mor_size (by unfold MBase; omega) (by unfold MSize; omega)]
  · rw [mor_shape (by unfold MBase; omega) (by unfold MSize; omega) (fun h => by have := h.1; omega)]
  refine bind_to (ContainsFunc_spec (by omega)) ?_
  refine iteb_to (fun hx => ?_) (fun hx => ?_)
  · rw [List.any_eq_true] at hx
    obtain ⟨b, hb, hb2⟩ := hx
    rw [decide_eq_true_iff] at hb2
    exact congrArg some (mor_shape (m := m) (by unfold MBase; omega) (by unfold MSize; omega) (fun h => hb2 (h.2 b hb))).symm
  rw [List.any_eq_false] at hx
  exact Check_L9_spec (by unfold MBase; omega) (by unfold MSize; omega) ⟨by omega, fun w hw => by have := hx w hw; simpa using this⟩ _ 0 rfl (by omega) (by omega) (fun j a b => by omega)
theorem r23_Check_L17_spec {m : Mor} {r14 : Int → Option Int} (g1 : MBase m) (g2 : MSize m) (g3 : MShape m) {a : Int} (h0 : 0 ≤ a) (h1 : a < m.2.1.length) : ∀ (n : Nat) (k : Int), (m.1 - k).toNat = n → 0 ≤ k → k ≤ m.1 → (∀ j : Int, 0 ≤ j → j < k → 0 ≤ ix (ix m.2.1 a) j ∧ ix (ix m.2.1 a) j < m.2.1.length) →
    (¬ MRow m a ∧ r23_Check_L17 m a r14 k = some 2) ∨ (MRow m a ∧ r23_Check_L17 m a r14 k = r14 (a + 1)) := by
  have e1 := g1.1
  have e2 := g2.1
  have e3 := g2.2
  have e4 := g1.2
  have e5 := g3.1
  have e6 : ((ix m.2.1 a).length : Int) = m.1 := g3.2 _ (ix_mem (by omega) (by omega))
  intro n
  induction n with
  | zero =>
    intro k hn k0 k1 h
    by_cases hc : 0 ≤ ix m.2.2.1 a ∧ ix m.2.2.1 a ≤ 9
    · refine .inr ⟨⟨fun j x y => h j x (by omega), hc⟩, ?_⟩
      rw [r23_Check_L17_eq]; unfold r23_Check_L17_B
      (try dsimp only); (repeat' first | (with_reducible refine G_to ?_ ?_; focus (first | omega | (unfold fits; omega) | (unfold room; (try simp only [List.length_append, List.length_cons, List.length_nil]); omega))) | (with_reducible refine both_to ?_ ?_) | (with_reducible refine itet_to ?_) | (with_reducible refine itef_to ?_) | (with_reducible refine ite_to (fun _ => ?_) (fun _ => ?_))) <;> try (exfalso; omega)
      rfl
    · refine .inl ⟨fun hr => hc hr.2, ?_⟩
      rw [r23_Check_L17_eq]; unfold r23_Check_L17_B
      (try dsimp only); (repeat' first | (with_reducible refine G_to ?_ ?_; focus (first | omega | (unfold fits; omega) | (unfold room; (try simp only [List.length_append, List.length_cons, List.length_nil]); omega))) | (with_reducible refine both_to ?_ ?_) | (with_reducible refine itet_to ?_) | (with_reducible refine itef_to ?_) | (with_reducible refine ite_to (fun _ => ?_) (fun _ => ?_))) <;> try (exfalso; omega)
      all_goals rfl
  | succ n ih =>
    intro k hn k0 k1 h
    by_cases hc : 0 ≤ ix (ix m.2.1 a) k ∧ ix (ix m.2.1 a) k < m.2.1.length
    · have := ih (k + 1) (by omega) (by omega) (by omega) (below_succ h hc)
      have e : r23_Check_L17 m a r14 k = r23_Check_L17 m a r14 (k + 1) := by
        rw [r23_Check_L17_eq]; unfold r23_Check_L17_B
        (try dsimp only); (repeat' first | (with_reducible refine G_to ?_ ?_; focus (first | omega | (unfold fits; omega) | (unfold room; (try simp only [List.length_append, List.length_cons, List.length_nil]); omega))) | (with_reducible refine both_to ?_ ?_) | (with_reducible refine itet_to ?_) | (with_reducible refine itef_to ?_) | (with_reducible refine ite_to (fun _ => ?_) (fun _ => ?_))) <;> try (exfalso; omega)
        rfl
      rw [e]; exact this
    · refine .inl ⟨fun hr => hc (hr.1 k k0 (by omega)), ?_⟩
      rw [r23_Check_L17_eq]; unfold r23_Check_L17_B
      (try dsimp only); (repeat' first | (with_reducible refine G_to ?_ ?_; focus (first | omega | (unfold fits; omega) | (unfold room; (try simp only [List.length_append, List.length_cons, List.length_nil]); omega))) | (with_reducible refine both_to ?_ ?_) | (with_reducible refine itet_to ?_) | (with_reducible refine itef_to ?_) | (with_reducible refine ite_to (fun _ => ?_) (fun _ => ?_))) <;> try (exfalso; omega)
      all_goals rfl
theorem r23_Check_L14_spec {m : Mor} (g1 : MBase m) (g2 : MSize m) (g3 : MShape m) : ∀ (n : Nat) (a : Int), (m.2.1.length - a).toNat = n → 0 ≤ a → a ≤ m.2.1.length → (∀ j : Int, 0 ≤ j → j < a → MRow m j) → r23_Check_L14 m a = some (morE m) := by
  have e1 := g1.1
  have e2 := g2.1
  have e3 := g2.2
  have e4 := g1.2
  have e5 := g3.1
  intro n
  induction n with
  | zero =>
    intro a hn h0 h1 h
    have ht : MTab m := fun j c d => h j c (by omega)
    have e6 : ((ix m.2.1 0).length : Int) = m.1 := g3.2 _ (ix_mem (by omega) (by omega))
    rw [r23_Check_L14_eq]; unfold r23_Check_L14_B
    (try dsimp only); (repeat' first | (with_reducible refine G_to ?_ ?_; focus (first | omega | (unfold fits; omega) | (unfold room; (try simp only [List.length_append, List.length_cons, List.length_nil]); omega))) | (with_reducible refine both_to ?_ ?_) | (with_reducible refine itet_to ?_) | (with_reducible refine itef_to ?_) | (with_reducible refine ite_to (fun _ => ?_) (fun _ => ?_))) <;> try (exfalso; omega)
    · rw [mor_zero g1 g2 g3 ht (by assumption)]
    · rw [mor_ok g1 g2 g3 ht (by unfold MZero; omega)]
  | succ n ih =>
    intro a hn h0 h1 h
    rw [r23_Check_L14_eq]; unfold r23_Check_L14_B
    (try dsimp only); (repeat' first | (with_reducible refine G_to ?_ ?_; focus (first | omega | (unfold fits; omega) | (unfold room; (try simp only [List.length_append, List.length_cons, List.length_nil]); omega))) | (with_reducible refine both_to ?_ ?_) | (with_reducible refine itet_to ?_) | (with_reducible refine itef_to ?_) | (with_reducible refine ite_to (fun _ => ?_) (fun _ => ?_))) <;> try (exfalso; omega)
    rcases r23_Check_L17_spec (r14 := r23_Check_L14 m) g1 g2 g3 h0 (by omega) _ 0 rfl (by omega) (by omega) (fun j x y => by omega) with ⟨h2, h3⟩ | ⟨h2, h3⟩
    · rw [h3, mor_tab g1 g2 g3 (fun ht => h2 (ht a h0 (by omega)))]
    · rw [h3]; exact ih (a + 1) (by omega) (by omega) (by omega) (below_succ h h2)
theorem r23_Check_L9_spec {m : Mor} (g1 : MBase m) (g2 : MSize m) (g3 : (m.2.2.1.length : Int) = m.2.1.length) : ∀ (n : Nat) (a : Int), (m.2.1.length - a).toNat = n → 0 ≤ a → a ≤ m.2.1.length → (∀ j : Int, 0 ≤ j → j < a → ((ix m.2.1 j).length : Int) = m.1) → r23_Check_L9 m a = some (morE m) := by
  have e1 := g1.1
  have e2 := g2.1
  have e3 := g2.2
  have e4 := g1.2
  intro n
  induction n with
  | zero =>
    intro a hn h0 h1 h
    rw [r23_Check_L9_eq]; unfold r23_Check_L9_B
    (try dsimp only); (repeat' first | (with_reducible refine G_to ?_ ?_; focus (first | omega | (unfold fits; omega) | (unfold room; (try simp only [List.length_append, List.length_cons, List.length_nil]); omega))) | (with_reducible refine both_to ?_ ?_) | (with_reducible refine itet_to ?_) | (with_reducible refine itef_to ?_) | (with_reducible refine ite_to (fun _ => ?_) (fun _ => ?_))) <;> try (exfalso; omega)
    exact r23_Check_L14_spec g1 g2 ⟨g3, forall_ix.2 fun j c d => h j c (by omega)⟩ _ 0 rfl (by omega) (by omega) (fun j x y => by omega)
  | succ n ih =>
    intro a hn h0 h1 h
    rw [r23_Check_L9_eq]; unfold r23_Check_L9_B
    (try dsimp only); (repeat' first | (with_reducible refine G_to ?_ ?_; focus (first | omega | (unfold fits; omega) | (unfold room; (try simp only [List.length_append, List.length_cons, List.length_nil]); omega))) | (with_reducible refine both_to ?_ ?_) | (with_reducible refine itet_to ?_) | (with_reducible refine itef_to ?_) | (with_reducible refine ite_to (fun _ => ?_) (fun _ => ?_))) <;> try (exfalso; omega)
    · rw [mor_shape g1 g2 (fun hs => by have := hs.2 _ (ix_mem (l := m.2.1) (i := a) (by omega) (by omega)); omega)]
    · exact ih (a + 1) (by omega) (by omega) (by omega) (below_succ h (by omega))
theorem r23_Check_spec {m : Mor} : r23_Check m = some (morE m) := by
  unfold r23_Check
  (try dsimp only); (repeat' first | (with_reducible refine G_to ?_ ?_; focus (first | omega | (unfold fits; omega) | (unfold room; (try simp only [List.length_append, List.length_cons, List.length_nil]); omega))) | (with_reducible refine both_to ?_ ?_) | (with_reducible refine itet_to ?_) | (with_reducible refine itef_to ?_) | (with_reducible refine ite_to (fun _ => ?_) (fun _ => ?_))) <;> try (exfalso; omega)
  · rw [mor_base (by unfold MBase; omega)]
  · rw [mor_base (by unfold MBase; omega)]
  · rw [mor_size (by unfold MBase; omega) (by unfold MSize; omega)]
  · rw [mor_size (by unfold MBase; omega) (by unfold MSize; omega)]
  · rw [mor_shape (by unfold MBase; omega) (by unfold MSize; omega) (fun h => by have := h.1; omega)]
  exact r23_Check_L9_spec (by unfold MBase; omega) (by unfold MSize; omega) (by omega) _ 0 rfl (by omega) (by omega) (fun j x y => by omega)

theorem Letter_L7 {m : Mor} (hm : MOK m) {p : List Int} (hs : p.length ≤ 1000) (h3 : ∀ x ∈ p, 0 ≤ x ∧ x < m.1) : ∀ (f : Nat) (a i : Int), (i + 1).toNat = f → -1 ≤ i → i < p.length → 0 ≤ a → a < m.2.1.length → r23_Letter_L7 m p a i = some (digs m (p.take (i + 1).toNat) a) := by
  intro f
  induction f with
  | zero =>
    intro a i hf h0 h1 g0 g1
    have : i = -1 := by omega
    subst this
    rw [r23_Letter_L7_eq]; unfold r23_Letter_L7_B
    (try dsimp only); (repeat' first | (with_reducible refine G_to ?_ ?_; focus (first | omega | (unfold fits; omega) | (unfold room; (try simp only [List.length_append, List.length_cons, List.length_nil]); omega))) | (with_reducible refine both_to ?_ ?_) | (with_reducible refine itet_to ?_) | (with_reducible refine itef_to ?_) | (with_reducible refine ite_to (fun _ => ?_) (fun _ => ?_))) <;> try (exfalso; omega)
    rfl
  | succ f ih =>
    intro a i hf h0 h1 g0 g1
    have g4 := hm.len g0 g1
    have g5 := h3 _ (ix_mem (i := i) (by omega) h1)
    have g6 := (hm.tab a g0 g1).1 _ g5.1 g5.2
    rw [r23_Letter_L7_eq]; unfold r23_Letter_L7_B
    (try dsimp only); (repeat' first | (with_reducible refine G_to ?_ ?_; focus (first | omega | (unfold fits; omega) | (unfold room; (try simp only [List.length_append, List.length_cons, List.length_nil]); omega))) | (with_reducible refine both_to ?_ ?_) | (with_reducible refine itet_to ?_) | (with_reducible refine itef_to ?_) | (with_reducible refine ite_to (fun _ => ?_) (fun _ => ?_))) <;> try (exfalso; omega)
    rw [ih _ (i - 1) (by omega) (by omega) (by omega) g6.1 g6.2, ix_take (by omega) h1, digs_add, show i - 1 + 1 = i by omega]
theorem Letter_L2 {m : Mor} (hm : MOK m) {n : Int} (hx : n ≤ 9223372036854775807) : ∀ (f : Nat) (k : Int) (p : List Int), k.toNat = f → 0 ≤ k → k ≤ 9223372036854775807 → letT m n = digs m p (letT m k) → (∀ x ∈ p, 0 ≤ x ∧ x < m.1) → 2 ^ p.length * k ≤ n → p.length ≤ 63 → r23_Letter_L2 m k p = some (letT m n) := by
  intro f
  induction f using Nat.strongRecOn with
  | ind f ih =>
    intro k p hf h0 h1 h2 h3 h4 h5
    have hb := hm.base.1
    have hs := hm.size.1
    have h6 : 0 < k → p.length ≤ 62 := fun h => pow_le (pow_one_le h h4) hx
    by_cases hk : k = 0
    · subst hk
      rw [r23_Letter_L2_eq]; unfold r23_Letter_L2_B
      (try dsimp only); (repeat' first | (with_reducible refine G_to ?_ ?_; focus (first | omega | (unfold fits; omega) | (unfold room; (try simp only [List.length_append, List.length_cons, List.length_nil]); omega))) | (with_reducible refine both_to ?_ ?_) | (with_reducible refine itet_to ?_) | (with_reducible refine itef_to ?_) | (with_reducible refine ite_to (fun _ => ?_) (fun _ => ?_))) <;> try (exfalso; omega)
      rw [Letter_L7 hm (by omega) h3 _ 0 (p.length - 1) rfl (by omega) (by omega) (by omega) (by omega), h2, letT_zero, List.take_of_length_le (by omega)]
    · have hd := div_lt (b := m.1) (by omega : 0 < k) hb
      have hr := mod_in (n := k) hb
      have h7 := h6 (by omega)
      rw [r23_Letter_L2_eq]; unfold r23_Letter_L2_B
      rw [Int.tdiv_eq_ediv_of_nonneg h0, Int.tmod_eq_emod_of_nonneg h0]
      (try dsimp only); (repeat' first | (with_reducible refine G_to ?_ ?_; focus (first | omega | (unfold fits; omega) | (unfold room; (try simp only [List.length_append, List.length_cons, List.length_nil]); omega))) | (with_reducible refine both_to ?_ ?_) | (with_reducible refine itet_to ?_) | (with_reducible refine itef_to ?_) | (with_reducible refine ite_to (fun _ => ?_) (fun _ => ?_))) <;> try (exfalso; omega)
      refine ih _ (by omega) (k / m.1) _ rfl hd.1 (by omega) (by rw [h2, digs_add, ← letT_step hb (by omega)]) (fun x hx => ?_) (by rw [List.length_append]; exact pow_half (by omega) hb h4) (by simp; omega)
      rcases List.mem_append.1 hx with hx | hx
      · exact h3 x hx
      · rw [List.mem_singleton] at hx; subst hx; exact hr
theorem Letter_spec {m : Mor} (hm : MOK m) {n : Int} (h0 : 0 ≤ n) (hx : n ≤ 9223372036854775807) : r23_Letter m n = some (letT m n) :=
  Letter_L2 hm hx _ n [] rfl h0 hx rfl (by simp) (by simp) (by simp)

theorem mfind_none {α : Type} : ∀ {ks : List α} {x : α}, mfind ks x = none ↔ x ∉ ks
  | [], x => by simp [mfind]
  | y :: ys, x => by
    unfold mfind
    by_cases h : y = x
    · rw [if_pos h]; simp [h]
    · rw [if_neg h, Option.map_eq_none_iff, mfind_none]
      simp [Ne.symm h]
/-- A map that only marks: all its elements are one. -/
abbrev ones {α : Type} (ks : List α) : List Int := List.replicate ks.length 1
theorem mget_ones {α : Type} {ks : List α} {x : α} : (mget ks (ones ks) x 0 = 0) ↔ x ∉ ks := by
  unfold mget
  cases h : mfind ks x with
  | none => simp [mfind_none.1 h]
  | some j =>
    have hx : x ∈ ks := by
      refine Classical.byContradiction fun hn => ?_
      rw [mfind_none.2 hn] at h; cases h
    have := mfind_lt h
    simp [hx, this]
theorem mputK_new {α : Type} {ks : List α} {x : α} (h : x ∉ ks) : mputK ks x = ks ++ [x] := by
  unfold mputK; rw [mfind_none.2 h]
theorem mputV_new {α : Type} {ks : List α} {x : α} (h : x ∉ ks) : mputV ks (ones ks) x 1 = ones (ks ++ [x]) := by
  unfold mputV; rw [mfind_none.2 h]
  show List.replicate ks.length 1 ++ [1] = List.replicate (ks ++ [x]).length 1
  rw [List.length_append, List.length_singleton, List.replicate_succ']

theorem pigeon {α : Type} [DecidableEq α] : ∀ {l U : List α}, l.Nodup → (∀ x ∈ l, x ∈ U) → l.length ≤ U.length
  | [], _, _, _ => Nat.zero_le _
  | a :: l, U, hn, hs => by
    have ha := hs a (by simp)
    obtain ⟨h1, h2⟩ := List.nodup_cons.1 hn
    have := pigeon (U := U.erase a) h2 (fun x hx => (List.mem_erase_of_ne (by rintro rfl; exact h1 hx)).2 (hs x (by simp [hx])))
    rw [List.length_erase_of_mem ha] at this
    have hp : 0 < U.length := List.length_pos_of_mem ha
    rw [List.length_cons]; omega
theorem pigeon_int {l : List Int} {n : Nat} (h : l.Nodup) (hb : ∀ x ∈ l, 0 ≤ x ∧ x < n) : l.length ≤ n := by
  have := pigeon (U := (List.range n).map Int.ofNat) h (fun x hx => by
    have := hb x hx
    exact List.mem_map.2 ⟨x.toNat, List.mem_range.2 (by omega), by show ((x.toNat : Nat) : Int) = x; omega⟩)
  simpa using this

theorem letT_child {m : Mor} (hm : MOK m) {n d : Int} (n0 : 0 ≤ n) (d0 : 0 ≤ d) (d1 : d < m.1) : letT m (n * m.1 + d) = ix (ix m.2.1 (letT m n)) d := by
  have hb := hm.base.1
  by_cases h : n * m.1 + d = 0
  · have h0 : n = 0 := by
      refine Classical.byContradiction fun hn => ?_
      have : 1 * 1 ≤ n * m.1 := Int.mul_le_mul (by omega) (by omega) (by omega) (by omega)
      omega
    subst h0
    have : d = 0 := by omega
    subst this
    rw [h]
    exact hm.zero.symm
  · have : 0 ≤ n * m.1 := Int.mul_nonneg n0 (by omega)
    rw [letT_step hb (by omega), Int.add_comm, Int.add_mul_ediv_right _ _ (by omega), Int.add_mul_emod_self_right, Int.ediv_eq_zero_of_lt d0 d1, Int.emod_eq_of_lt d0 d1, Int.zero_add]
section
variable {a b : Mor}
structure TwoOk (a b : Mor) : Prop where
  ha : MOK a
  hb : MOK b
  base : a.1 = b.1
abbrev Pr := Int × Int × Unit
abbrev It := Int × Int × Int × Unit
def pr (a b : Mor) (n : Int) : Pr := (letT a n, letT b n, ())
def item (a b : Mor) (n : Int) : It := (letT a n, letT b n, n, ())
def code (a b : Mor) (n : Int) : Int := letT a n * b.2.1.length + letT b n
theorem TwoOk.rng (h : TwoOk a b) {n : Int} (n0 : 0 ≤ n) : 0 ≤ letT a n ∧ letT a n < a.2.1.length ∧ 0 ≤ letT b n ∧ letT b n < b.2.1.length := by
  have h1 := letT_in h.ha _ n (Nat.le_refl _) n0
  have h2 := letT_in h.hb _ n (Nat.le_refl _) n0
  exact ⟨h1.1, h1.2, h2.1, h2.2⟩
theorem TwoOk.sz (h : TwoOk a b) : 1 ≤ a.2.1.length ∧ a.2.1.length ≤ 4 ∧ 1 ≤ b.2.1.length ∧ b.2.1.length ≤ 4 ∧ 2 ≤ a.1 ∧ a.1 ≤ 4 := by
  have h1 := h.ha.size; unfold MSize at h1
  have h2 := h.hb.size; unfold MSize at h2
  have h3 := h.ha.base; unfold MBase at h3
  omega
theorem code_lt (h : TwoOk a b) {n : Int} (n0 : 0 ≤ n) : 0 ≤ code a b n ∧ code a b n < a.2.1.length * b.2.1.length := by
  obtain ⟨h1, h2, h3, h4⟩ := h.rng n0
  unfold code
  have e1 : 0 ≤ letT a n * b.2.1.length := Int.mul_nonneg h1 (by omega)
  have e2 : (letT a n + 1) * b.2.1.length ≤ a.2.1.length * b.2.1.length := Int.mul_le_mul_of_nonneg_right (by omega) (by omega)
  rw [Int.add_mul] at e2
  omega
theorem code_inj (h : TwoOk a b) {n k : Int} (n0 : 0 ≤ n) (k0 : 0 ≤ k) : code a b n = code a b k ↔ pr a b n = pr a b k := by
  obtain ⟨h1, h2, h3, h4⟩ := h.rng n0
  obtain ⟨g1, g2, g3, g4⟩ := h.rng k0
  have hz := h.sz
  unfold code pr
  constructor
  · intro e
    have key : ∀ x y u v N : Int, 0 ≤ u → u < N → 0 ≤ v → v < N → x * N + u = y * N + v → x = y ∧ u = v := by
      intro x y u v N u0 u1 v0 v1 e
      have e1 : (x * N + u) / N = x := by rw [Int.add_comm, Int.add_mul_ediv_right _ _ (by omega), Int.ediv_eq_zero_of_lt u0 u1, Int.zero_add]
      have e2 : (y * N + v) / N = y := by rw [Int.add_comm, Int.add_mul_ediv_right _ _ (by omega), Int.ediv_eq_zero_of_lt v0 v1, Int.zero_add]
      rw [e, e2] at e1
      subst e1
      exact ⟨rfl, by omega⟩
    obtain ⟨e1, e2⟩ := key _ _ _ _ _ h3 h4 g3 g4 e
    rw [e1, e2]
  · intro e
    injection e with e1 e
    injection e with e2 e
    rw [e1, e2]
theorem code_child (h : TwoOk a b) {n k d : Int} (n0 : 0 ≤ n) (k0 : 0 ≤ k) (d0 : 0 ≤ d) (d1 : d < a.1) (e : code a b n = code a b k) : code a b (n * a.1 + d) = code a b (k * a.1 + d) := by
  have := (code_inj h n0 k0).1 e
  unfold pr at this
  injection this with e1 e2
  injection e2 with e2 e3
  unfold code
  rw [letT_child h.ha n0 d0 d1, letT_child h.ha k0 d0 d1, h.base, letT_child h.hb n0 d0 (by rw [← h.base]; exact d1), letT_child h.hb k0 d0 (by rw [← h.base]; exact d1), e1, e2]
structure DInv (a b : Mor) (Ns : List Int) : Prop where
  pos : 0 < Ns.length
  z : ix Ns 0 = 0
  inc : ∀ j k : Int, 0 ≤ j → j < k → k < Ns.length → ix Ns j < ix Ns k
  bnd : ∀ j : Int, 0 ≤ j → j < Ns.length → 0 ≤ ix Ns j ∧ ix Ns j + 1 ≤ 4 ^ j.toNat
  nd : (Ns.map (code a b)).Nodup
theorem DInv.mem {Ns : List Int} (k : DInv a b Ns) {n : Int} (h : n ∈ Ns) : 0 ≤ n := by
  obtain ⟨j, j0, j1, rfl⟩ := (ex_ix (P := fun x => x = n)).1 ⟨n, h, rfl⟩
  exact (k.bnd j j0 j1).1
theorem DInv.len (h : TwoOk a b) {Ns : List Int} (k : DInv a b Ns) : Ns.length ≤ 16 := by
  have hz := h.sz
  have := pigeon_int (n := a.2.1.length * b.2.1.length) k.nd (fun x hx => by
    obtain ⟨n, hn, rfl⟩ := List.mem_map.1 hx
    have := code_lt h (k.mem hn)
    push_cast
    exact this)
  rw [List.length_map] at this
  have : a.2.1.length * b.2.1.length ≤ 4 * 4 := Nat.mul_le_mul hz.2.1 hz.2.2.2.1
  omega
theorem DInv.small (h : TwoOk a b) {Ns : List Int} (k : DInv a b Ns) {j : Int} (j0 : 0 ≤ j) (j1 : j < Ns.length) : ix Ns j + 1 ≤ 4294967296 := by
  have := (k.bnd j j0 j1).2
  have hl := k.len h
  have : (4 : Int) ^ j.toNat ≤ 4 ^ 16 := by
    have := Nat.pow_le_pow_right (n := 4) (by omega) (show j.toNat ≤ 16 by omega)
    exact_mod_cast this
  have : (4 : Int) ^ 16 = 4294967296 := by decide
  omega
theorem known_iff (h : TwoOk a b) {Ns : List Int} (k : DInv a b Ns) {n : Int} (n0 : 0 ≤ n) : pr a b n ∈ Ns.map (pr a b) ↔ code a b n ∈ Ns.map (code a b) := by
  rw [List.mem_map, List.mem_map]
  constructor
  · rintro ⟨x, hx, e⟩; exact ⟨x, hx, (code_inj h (k.mem hx) n0).2 e⟩
  · rintro ⟨x, hx, e⟩; exact ⟨x, hx, (code_inj h (k.mem hx) n0).1 e⟩
def Seen (a b : Mor) (seen : List Bool) (Ns : List Int) : Prop := (seen.length : Int) = a.2.1.length * b.2.1.length ∧ ∀ c : Int, 0 ≤ c → c < a.2.1.length * b.2.1.length → (ix seen c = true ↔ c ∈ Ns.map (code a b))
theorem dif_letters (h : TwoOk a b) {i : Int} {l : List It} {P0 : List Int} {n : Int} {r12 r6} (i0 : 0 ≤ i) (el : ix l 0 = item a b n) (ep : ix P0 i = n) : ∀ (f : Nat) (t : Int) (Ns : List Int) (seen : List Bool), (a.1 - t).toNat = f → 0 ≤ t → t ≤ a.1 → i < Ns.length → ix Ns i = n → DInv a b Ns → Seen a b seen Ns →
    (∀ x ∈ Ns, x < n * a.1 + t ∨ x = 0) → (∀ d, 0 ≤ d → d < t → ∃ x ∈ Ns, x ≤ n * a.1 + d ∧ code a b x = code a b (n * a.1 + d)) →
    ∃ x seen', i < (Ns ++ x).length ∧ DInv a b (Ns ++ x) ∧ Seen a b seen' (Ns ++ x) ∧ (∀ y ∈ Ns ++ x, y < (n + 1) * a.1 ∨ y = 0) ∧ (∀ d, 0 ≤ d → d < a.1 → ∃ y ∈ Ns ++ x, y ≤ n * a.1 + d ∧ code a b y = code a b (n * a.1 + d)) ∧
      seqs_Differ_L18 a b l r12 t (Ns.map (pr a b)) (ones (Ns.map (pr a b))) ((Ns.map (item a b)).drop i.toNat) = r12 ((Ns ++ x).map (pr a b)) (ones ((Ns ++ x).map (pr a b))) (((Ns ++ x).map (item a b)).drop (i + 1).toNat) ∧
      r23_Differ_L14 a b i P0 r6 (letT a n) (letT b n) t seen Ns = r6 (i + 1) seen' (Ns ++ x) := by
  have hz := h.sz
  intro f
  induction f with
  | zero =>
    intro t Ns seen hf t0 t1 hi en k hs hlt hch
    have hlen := k.len h
    obtain rfl : t = a.1 := by omega
    refine ⟨[], seen, by simpa using hi, by simpa using k, by simpa using hs, fun y hy => ?_, fun d d0 d1 => ?_, ?_, ?_⟩
    · rw [Int.add_mul, Int.one_mul]; exact hlt y (by simpa using hy)
    · obtain ⟨x, hx, e⟩ := hch d d0 d1; exact ⟨x, by simpa using hx, e⟩
    · rw [seqs_Differ_L18_eq]; unfold seqs_Differ_L18_B
      rw [if_neg (by simp), List.append_nil]
      refine G_to (by rw [List.length_drop, List.length_map]; omega) ?_
      rw [List.drop_drop, show i.toNat + (1 : Int).toNat = (i + 1).toNat by omega]
    · rw [r23_Differ_L14_eq]; unfold r23_Differ_L14_B
      rw [if_neg (by simp), List.append_nil]
      exact G_to (by unfold fits; omega) rfl
  | succ f ih =>
    intro t Ns seen hf t0 t1 hi en k hs hlt hch
    have hlen := k.len h
    have hn := k.bnd i i0 hi
    have hnb := k.small h i0 hi
    rw [en] at hn hnb
    obtain ⟨r1, r2, r3, r4⟩ := h.rng hn.1
    have q0 : 0 ≤ n * a.1 := Int.mul_nonneg hn.1 (by omega)
    have q4 : n * a.1 ≤ n * 4 := Int.mul_le_mul_of_nonneg_left (by omega) hn.1
    have hc0 : 0 ≤ n * a.1 + t := by omega
    have hcl := code_lt h hc0
    obtain ⟨g1, g2, g3, g4⟩ := h.rng hc0
    have ea : ix (ix a.2.1 (letT a n)) t = letT a (n * a.1 + t) := (letT_child h.ha hn.1 t0 (by omega)).symm
    have eb : ix (ix b.2.1 (letT b n)) t = letT b (n * a.1 + t) := by rw [h.base]; exact (letT_child h.hb hn.1 t0 (by rw [← h.base]; omega)).symm
    have la := h.ha.len r1 r2
    have lb := h.hb.len r3 r4
    have hbe := h.base
    have hcs := hs.1
    have hsI := hs.2 _ hcl.1 hcl.2
    have hprod : (a.2.1.length : Int) * b.2.1.length ≤ 16 := by
      have := Nat.mul_le_mul hz.2.1 hz.2.2.2.1
      exact_mod_cast this
    have hm4 : letT a (n * a.1 + t) * (b.2.1.length : Int) ≤ 16 ∧ 0 ≤ letT a (n * a.1 + t) * (b.2.1.length : Int) := by
      have : 0 ≤ letT a (n * a.1 + t) * (b.2.1.length : Int) := Int.mul_nonneg g1 (by omega)
      have := hcl.2
      unfold code at this
      omega
    have kn := known_iff h k hc0
    have hP : seqs_Differ_L18 a b l r12 t (Ns.map (pr a b)) (ones (Ns.map (pr a b))) ((Ns.map (item a b)).drop i.toNat) = if code a b (n * a.1 + t) ∈ Ns.map (code a b) then seqs_Differ_L18 a b l r12 (t + 1) (Ns.map (pr a b)) (ones (Ns.map (pr a b))) ((Ns.map (item a b)).drop i.toNat)
        else seqs_Differ_L18 a b l r12 (t + 1) ((Ns ++ [n * a.1 + t]).map (pr a b)) (ones ((Ns ++ [n * a.1 + t]).map (pr a b))) (((Ns ++ [n * a.1 + t]).map (item a b)).drop i.toNat) := by
      conv => lhs; rw [seqs_Differ_L18_eq]; unfold seqs_Differ_L18_B
      rw [if_pos (by simp; omega), el, show (item a b n).1 = letT a n from rfl, show (item a b n).2.1 = letT b n from rfl, show (item a b n).2.2.1 = n from rfl, ea, eb, show (letT a (n * a.1 + t), letT b (n * a.1 + t), ()) = pr a b (n * a.1 + t) from rfl, show (letT a (n * a.1 + t), letT b (n * a.1 + t), n * a.1 + t, ()) = item a b (n * a.1 + t) from rfl]
      refine G_to (by omega) (G_to (by omega) (G_to (by omega) (G_to (by omega) ?_)))
      unfold seqs_Differ_J23
      by_cases c : code a b (n * a.1 + t) ∈ Ns.map (code a b)
      · rw [if_neg (fun hh => mget_ones.1 (of_decide_eq_true hh) (kn.2 c)), if_pos c]
        exact G_to (by unfold fits; omega) rfl
      · have hnk : pr a b (n * a.1 + t) ∉ Ns.map (pr a b) := fun hh => c (kn.1 hh)
        rw [if_pos (decide_eq_true (mget_ones.2 hnk)), mputK_new hnk, mputV_new hnk, if_neg c, List.map_append, List.map_append, List.drop_append_of_le_length (by rw [List.length_map]; omega)]
        exact G_to (by unfold fits; omega) (G_to (by unfold fits; omega) (G_to (by unfold room; simp; omega) (G_to (by unfold fits; omega) rfl)))
    have hR : r23_Differ_L14 a b i P0 r6 (letT a n) (letT b n) t seen Ns = if code a b (n * a.1 + t) ∈ Ns.map (code a b) then r23_Differ_L14 a b i P0 r6 (letT a n) (letT b n) (t + 1) seen Ns
        else r23_Differ_L14 a b i P0 r6 (letT a n) (letT b n) (t + 1) (seen.set (code a b (n * a.1 + t)).toNat true) (Ns ++ [n * a.1 + t]) := by
      conv => lhs; rw [r23_Differ_L14_eq]; unfold r23_Differ_L14_B
      rw [if_pos (by simp; omega), ea, eb, ep, show letT a (n * a.1 + t) * (b.2.1.length : Int) + letT b (n * a.1 + t) = code a b (n * a.1 + t) from rfl]
      refine G_to (by omega) (G_to (by omega) (G_to (by unfold fits; omega) (G_to (by omega) (G_to (by omega) (G_to (by unfold fits; omega) (G_to (by omega) (G_to (by omega) ?_)))))))
      unfold r23_Differ_J19
      by_cases c : code a b (n * a.1 + t) ∈ Ns.map (code a b)
      · rw [if_neg (by rw [hsI.2 c]; simp), if_pos c]
        exact G_to (by unfold fits; omega) rfl
      · rw [if_pos (by cases e : ix seen (code a b (n * a.1 + t)); rfl; exact absurd (hsI.1 e) c), if_neg c]
        exact G_to (by omega) (G_to (by omega) (G_to (by unfold fits; omega) (G_to (by unfold fits; omega) (G_to (by unfold room; simp; omega) (G_to (by unfold fits; omega) rfl)))))
    rw [hP, hR]
    by_cases c : code a b (n * a.1 + t) ∈ Ns.map (code a b)
    · rw [if_pos c, if_pos c]
      exact ih (t + 1) Ns seen (by omega) (by omega) (by omega) hi en k hs (fun x hx => by have := hlt x hx; omega) (fun d d0 d1 => by
        by_cases e : d = t
        · obtain ⟨x, hx, e2⟩ := List.mem_map.1 c
          refine ⟨x, hx, ?_, by rw [e]; exact e2⟩
          have := hlt x hx
          omega
        · exact hch d d0 (by omega))
    · rw [if_neg c, if_neg c]
      have hnew : ∀ x ∈ Ns, x < n * a.1 + t := fun x hx => by
        rcases hlt x hx with e | e
        · exact e
        · have : n * a.1 + t ≠ 0 := fun e2 => c (by rw [e2]; exact List.mem_map.2 ⟨x, hx, by rw [e]⟩)
          omega
      have k' : DInv a b (Ns ++ [n * a.1 + t]) :=
        { pos := by simp
          z := by rw [ix_append_left (by omega) (by have := k.pos; omega)]; exact k.z
          inc := fun j q j0 j1 j2 => by
            rw [List.length_append, List.length_singleton] at j2
            by_cases e : q < Ns.length
            · rw [ix_append_left j0 (by omega), ix_append_left (by omega) e]; exact k.inc j q j0 j1 e
            · obtain rfl : q = Ns.length := by omega
              rw [ix_append_last, ix_append_left j0 (by omega)]
              exact hnew _ (ix_mem j0 (by omega))
          bnd := fun j j0 j1 => by
            rw [List.length_append, List.length_singleton] at j1
            by_cases e : j < Ns.length
            · rw [ix_append_left j0 e]; exact k.bnd j j0 e
            · obtain rfl : j = Ns.length := by omega
              rw [ix_append_last]
              refine ⟨hc0, ?_⟩
              have e1 : (n + 1) * a.1 ≤ (n + 1) * 4 := Int.mul_le_mul_of_nonneg_left (by omega) (by omega)
              rw [Int.add_mul, Int.one_mul] at e1
              have e2 : (4 : Int) ^ (i.toNat + 1) ≤ 4 ^ ((Ns.length : Int)).toNat := by
                have := Nat.pow_le_pow_right (n := 4) (by omega) (show i.toNat + 1 ≤ ((Ns.length : Int)).toNat by omega)
                exact_mod_cast this
              rw [Int.pow_succ] at e2
              omega
          nd := by
            rw [List.map_append, List.nodup_append]
            exact ⟨k.nd, by simp, fun x hx y hy => by rw [List.map_singleton, List.mem_singleton] at hy; rw [hy]; rintro rfl; exact c hx⟩ }
      have hs' : Seen a b (seen.set (code a b (n * a.1 + t)).toNat true) (Ns ++ [n * a.1 + t]) := by
        refine ⟨by rw [List.length_set]; exact hs.1, fun d d0 d1 => ?_⟩
        rw [List.map_append, List.mem_append, List.map_singleton, List.mem_singleton]
        by_cases e : d = code a b (n * a.1 + t)
        · subst e
          rw [ix_set_same d0 (by omega)]; simp
        · rw [ix_set_ne hcl.1 d0 (Ne.symm e), hs.2 d d0 d1]
          exact ⟨.inl, fun hh => hh.elim id (fun e' => absurd e' e)⟩
      obtain ⟨x, seen', y1, y2, y3, y4, y5, y6, y7⟩ := ih (t + 1) (Ns ++ [n * a.1 + t]) _ (by omega) (by omega) (by omega) (by rw [List.length_append]; omega) (by rw [ix_append_left i0 hi]; exact en) k' hs' (fun x hx => by
          rcases List.mem_append.1 hx with hx | hx
          · have := hnew x hx; omega
          · rw [List.mem_singleton.1 hx]; omega) (fun d d0 d1 => by
          by_cases e : d = t
          · exact ⟨n * a.1 + t, by simp, by omega, by rw [e]⟩
          · obtain ⟨x, hx, e2⟩ := hch d d0 (by omega)
            exact ⟨x, by simp [hx], e2⟩)
      rw [List.append_assoc] at y1 y2 y3 y4 y5 y6 y7
      exact ⟨_, seen', y1, y2, y3, y4, y5, y6, y7⟩
/-- Do two rows have one number at a place? -/
def same (a b : Mor) (n : Int) : Prop := ix a.2.2.1 (letT a n) = ix b.2.2.1 (letT b n)
theorem same_code (h : TwoOk a b) {n k : Int} (n0 : 0 ≤ n) (k0 : 0 ≤ k) (e : code a b n = code a b k) : same a b n ↔ same a b k := by
  have := (code_inj h n0 k0).1 e
  unfold pr at this
  injection this with e1 e2
  injection e2 with e2 e3
  unfold same
  rw [e1, e2]
/-- What is said of the rows in the end. -/
def Says (a b : Mor) (n : Int) (is : Bool) : Prop := ∀ k : Int, 0 ≤ k → same a b k ∨ (is = true ∧ n ≤ k)
/-- Each number below has one that was looked at. -/
theorem covered (h : TwoOk a b) {Ns : List Int} (k : DInv a b Ns) {i : Int} (i0 : 0 ≤ i) (i1 : i ≤ Ns.length) (hch : ∀ j : Int, 0 ≤ j → j < i → ∀ d, 0 ≤ d → d < a.1 → ∃ x ∈ Ns, x ≤ ix Ns j * a.1 + d ∧ code a b x = code a b (ix Ns j * a.1 + d)) :
    ∀ (f : Nat) (q : Int), q.toNat ≤ f → 0 ≤ q → (i < Ns.length → q < ix Ns i) → ∃ j : Int, 0 ≤ j ∧ j < i ∧ ix Ns j ≤ q ∧ code a b (ix Ns j) = code a b q := by
  have hz := h.sz
  have zero : (i < Ns.length → 0 < ix Ns i) → ∃ j : Int, 0 ≤ j ∧ j < i ∧ ix Ns j ≤ 0 ∧ code a b (ix Ns j) = code a b 0 := fun hlt => by
    have hp := k.pos
    refine ⟨0, by omega, ?_, by rw [k.z]; omega, by rw [k.z]⟩
    refine Classical.byContradiction fun hn => ?_
    have : i = 0 := by omega
    subst this
    have := hlt (by omega)
    rw [k.z] at this; omega
  intro f
  induction f with
  | zero =>
    intro q hf q0 hlt
    obtain rfl : q = 0 := by omega
    exact zero hlt
  | succ f ih =>
    intro q hf q0 hlt
    by_cases e : q = 0
    · subst e; exact zero hlt
    · have hd := div_lt (n := q) (b := a.1) (by omega) (by omega)
      have hm := mod_in (n := q) (b := a.1) (by omega)
      obtain ⟨j, j0, j1, j2, j3⟩ := ih (q / a.1) (by omega) hd.1 (fun hl => by have := hlt hl; omega)
      obtain ⟨x, hx, x1, x2⟩ := hch j j0 j1 (q % a.1) hm.1 hm.2
      have hj := (k.bnd j j0 (by omega)).1
      have hq : q / a.1 * a.1 + q % a.1 = q := by
        have := Int.mul_ediv_add_emod q a.1
        rw [Int.mul_comm] at this
        exact this
      have hc := code_child h hj hd.1 hm.1 hm.2 j3
      rw [hq] at hc
      have hle : ix Ns j * a.1 ≤ q / a.1 * a.1 := Int.mul_le_mul_of_nonneg_right j2 (by omega)
      obtain ⟨y, y0, y1, rfl⟩ := (ex_ix (P := fun z => z = x)).1 ⟨x, hx, rfl⟩
      refine ⟨y, y0, ?_, by omega, x2.trans hc⟩
      refine Classical.byContradiction fun hn => ?_
      have hil : i < Ns.length := by omega
      have h1 := hlt hil
      by_cases e2 : y = i
      · rw [e2] at x1; omega
      · have := k.inc i y i0 (by omega) y1
        omega
theorem dif_main (h : TwoOk a b) : ∀ (f : Nat) (i : Int) (Ns : List Int) (seen : List Bool), (16 - i).toNat = f → 0 ≤ i → i ≤ Ns.length → DInv a b Ns → Seen a b seen Ns →
    (∀ j : Int, 0 ≤ j → j < i → same a b (ix Ns j)) → (∀ j : Int, 0 ≤ j → j < i → ∀ d, 0 ≤ d → d < a.1 → ∃ x ∈ Ns, x ≤ ix Ns j * a.1 + d ∧ code a b x = code a b (ix Ns j * a.1 + d)) →
    (i < Ns.length → ∀ x ∈ Ns, x < ix Ns i * a.1 ∨ x = 0) →
    ∃ n is, Says a b n is ∧ seqs_Differ_L12 a b (Ns.map (pr a b)) (ones (Ns.map (pr a b))) ((Ns.map (item a b)).drop i.toNat) = some (n, is, 0) ∧ r23_Differ_L6 a b i seen Ns = some (n, is) := by
  have hz := h.sz
  intro f
  induction f using Nat.strongRecOn with
  | ind f ih =>
  intro i Ns seen hf i0 i1 k hs hsm hch hlt
  have hlen := k.len h
  rw [seqs_Differ_L12_eq, r23_Differ_L6_eq]; unfold seqs_Differ_L12_B r23_Differ_L6_B
  by_cases hi : i < Ns.length
  · have hn := k.bnd i i0 hi
    have hnb := k.small h i0 hi
    obtain ⟨r1, r2, r3, r4⟩ := h.rng hn.1
    have e0 : ix ((Ns.map (item a b)).drop i.toNat) 0 = item a b (ix Ns i) := by
      rw [ix_drop i0 (by rw [List.length_map]; exact hi), ix_cons_zero]
      exact ix_map (item a b) i0 hi
    have l1 : ((Ns.map (item a b)).drop i.toNat).length = Ns.length - i.toNat := by rw [List.length_drop, List.length_map]
    have c1 := h.ha.shape.1
    have c2 := h.hb.shape.1
    have s1 := Letter_spec h.ha hn.1 (by omega)
    have s2 := Letter_spec h.hb hn.1 (by omega)
    by_cases c : same a b (ix Ns i)
    · obtain ⟨x, seen', y1, y2, y3, y4, y5, y6, y7⟩ := dif_letters (r12 := seqs_Differ_L12 a b) (r6 := r23_Differ_L6 a b) h i0 e0 rfl _ 0 Ns seen rfl (by omega) (by omega) hi rfl k hs (fun x hx => by have := hlt hi x hx; omega) (fun d d0 d1 => by omega)
      have pre : ∀ j : Int, 0 ≤ j → j < Ns.length → ix (Ns ++ x) j = ix Ns j := fun j j0 j1 => ix_append_left j0 j1
      obtain ⟨n, is, z1, z2, z3⟩ := ih (16 - (i + 1)).toNat (by omega) (i + 1) (Ns ++ x) seen' rfl (by omega) (by rw [List.length_append]; omega) y2 y3 (fun j j0 j1 => by
          rw [pre j j0 (by omega)]
          by_cases e : j = i
          · rw [e]; exact c
          · exact hsm j j0 (by omega)) (fun j j0 j1 d d0 d1 => by
          rw [pre j j0 (by omega)]
          by_cases e : j = i
          · rw [e]; exact y5 d d0 d1
          · obtain ⟨w, hw, e2⟩ := hch j j0 (by omega) d d0 d1
            exact ⟨w, by simp [hw], e2⟩) (fun hl w hw => by
          have := y4 w hw
          have hinc := y2.inc i (i + 1) i0 (by omega) hl
          rw [pre i i0 hi] at hinc
          have : (ix Ns i + 1) * a.1 ≤ ix (Ns ++ x) (i + 1) * a.1 := Int.mul_le_mul_of_nonneg_right (by omega) (by omega)
          omega)
      refine ⟨n, is, z1, ?_, ?_⟩
      · rw [if_pos (by simp; omega), e0]
        refine G_to (by omega) (G_to (by omega) (G_to ?_ (G_to ?_ ?_)))
        · unfold item; dsimp only; omega
        · unfold item; dsimp only; omega
        · rw [if_neg (by unfold same at c; unfold item; simpa using c)]
          exact y6.trans z2
      · rw [if_pos (by simp; omega)]
        refine G_to (by omega) (G_to (by omega) ?_)
        refine bind_to s1 ?_
        refine bind_to s2 ?_
        refine G_to (by omega) (G_to (by omega) ?_)
        rw [if_neg (by unfold same at c; simpa using c)]
        exact y7.trans z3
    · refine ⟨ix Ns i, true, fun q q0 => ?_, ?_, ?_⟩
      · by_cases e : ix Ns i ≤ q
        · exact .inr ⟨rfl, e⟩
        · obtain ⟨j, j0, j1, j2, j3⟩ := covered h k i0 i1 hch _ q (Nat.le_refl _) q0 (fun _ => by omega)
          exact .inl ((same_code h (k.bnd j j0 (by omega)).1 q0 j3).1 (hsm j j0 j1))
      · rw [if_pos (by simp; omega), e0]
        refine G_to (by omega) (G_to (by omega) (G_to ?_ (G_to ?_ ?_)))
        · unfold item; dsimp only; omega
        · unfold item; dsimp only; omega
        · rw [if_pos (by unfold same at c; unfold item; simpa using c)]; rfl
      · rw [if_pos (by simp; omega)]
        refine G_to (by omega) (G_to (by omega) ?_)
        refine bind_to s1 ?_
        refine bind_to s2 ?_
        refine G_to (by omega) (G_to (by omega) ?_)
        rw [if_pos (by unfold same at c; simpa using c)]
  · refine ⟨0, false, fun q q0 => ?_, ?_, ?_⟩
    · obtain ⟨j, j0, j1, j2, j3⟩ := covered h k i0 i1 hch _ q (Nat.le_refl _) q0 (fun hl => absurd hl hi)
      exact .inl ((same_code h (k.bnd j j0 (by omega)).1 q0 j3).1 (hsm j j0 j1))
    · rw [if_neg (by rw [decide_eq_true_iff, List.length_drop, List.length_map]; omega)]
    · rw [if_neg (by simp; omega)]
theorem dif_both (h : TwoOk a b) : ∃ n is, Says a b n is ∧ seqs_Differ_L12 a b [pr a b 0] (ones [pr a b 0]) [item a b 0] = some (n, is, 0) ∧ r23_Differ a b = some (n, is) := by
  have hz := h.sz
  have hprod : (a.2.1.length : Int) * b.2.1.length ≤ 16 ∧ 1 ≤ (a.2.1.length : Int) * b.2.1.length := by
    have h1 := Nat.mul_le_mul hz.2.1 hz.2.2.2.1
    have h2 := Nat.mul_le_mul hz.1 hz.2.2.1
    exact ⟨by exact_mod_cast h1, by exact_mod_cast h2⟩
  have c0 : code a b 0 = 0 := by unfold code; rw [letT_zero, letT_zero]; simp
  have k : DInv a b [0] := ⟨by simp, rfl, fun j q j0 j1 j2 => by simp at j2; omega, fun j j0 j1 => by
    obtain rfl : j = 0 := by simp at j1; omega
    decide, by simp⟩
  have hs : Seen a b ((List.replicate ((a.2.1.length : Int) * b.2.1.length).toNat false).set 0 true) [0] := by
    refine ⟨by rw [List.length_set, List.length_replicate]; omega, fun c c0' c1 => ?_⟩
    rw [List.map_singleton, List.mem_singleton, c0]
    by_cases e : c = 0
    · subst e
      have := ix_set_same (l := List.replicate ((a.2.1.length : Int) * b.2.1.length).toNat false) (x := true) (i := 0) (by omega) (by rw [List.length_replicate]; omega)
      simpa using this
    · have := ix_set_ne (l := List.replicate ((a.2.1.length : Int) * b.2.1.length).toNat false) (x := true) (i := 0) (j := c) (by omega) c0' (Ne.symm e)
      rw [show (0 : Nat) = (0 : Int).toNat from rfl, this, ix_replicate c0' (by omega)]
      simp [e]
  obtain ⟨n, is, z1, z2, z3⟩ := dif_main h _ 0 [0] _ rfl (by omega) (by simp) k hs (fun j j0 j1 => by omega) (fun j j0 j1 => by omega) (fun _ x hx => by rw [List.mem_singleton] at hx; exact .inr hx)
  refine ⟨n, is, z1, z2, ?_⟩
  unfold r23_Differ
  exact G_to (by unfold fits; omega) (G_to (by unfold mkOK; omega) (G_to (by rw [List.length_replicate]; omega) (G_to (by rw [List.length_replicate]; omega) z3)))
end
theorem dif_prog {a b : Mor} : seqs_Differ a b = if ¬ morE a = 0 then some (0, false, morE a) else if ¬ morE b = 0 then some (0, false, morE b) else if ¬ a.1 = b.1 then some (0, false, 3) else seqs_Differ_L12 a b [pr a b 0] (ones [pr a b 0]) [item a b 0] := by
  unfold seqs_Differ
  have e0 : ix [(a.1, a.2.1, a.2.2.1, ()), (b.1, b.2.1, b.2.2.1, ())] 0 = a := rfl
  have e1 : ix [(a.1, a.2.1, a.2.2.1, ()), (b.1, b.2.1, b.2.2.1, ())] (0 + 1) = b := rfl
  rw [seqs_Differ_L2_eq]; unfold seqs_Differ_L2_B
  rw [if_pos (by simp), G_pos (by simp), G_pos (by simp), e0]
  refine bind_to (y := morE a) Check_spec ?_
  by_cases c : morE a = 0
  · rw [if_neg (by simpa using c), if_neg (by simpa using c), G_pos (by unfold fits; omega)]
    rw [seqs_Differ_L2_eq]; unfold seqs_Differ_L2_B
    rw [if_pos (by simp), G_pos (by simp), G_pos (by simp), e1]
    refine bind_to (y := morE b) Check_spec ?_
    by_cases c2 : morE b = 0
    · rw [if_neg (by simpa using c2), if_neg (by simpa using c2), G_pos (by unfold fits; omega)]
      rw [seqs_Differ_L2_eq]; unfold seqs_Differ_L2_B
      rw [if_neg (by simp)]
      by_cases c3 : a.1 = b.1
      · rw [if_neg (by simpa using c3), if_neg (by simpa using c3)]
        rfl
      · rw [if_pos (by simpa using c3), if_pos (by simpa using c3)]
    · rw [if_pos (by simpa using c2), if_pos (by simpa using c2)]
  · rw [if_pos (by simpa using c), if_pos (by simpa using c)]
theorem law_true (a b : Mor) (place : Int) (sa : Sml (.pair (.int .i64) (.pair (.list (.list (.int .i64))) (.pair (.list (.int .i64)) .unit))) a) (sb : Sml (.pair (.int .i64) (.pair (.list (.list (.int .i64))) (.pair (.list (.int .i64)) .unit))) b) (sp : Sml (.int .i64) place) : law_SeqsDiffers a b place = some true := by
  unfold law_SeqsDiffers
  have ea : (a.1, a.2.1, a.2.2.1, ()) = a := rfl
  have eb : (b.1, b.2.1, b.2.2.1, ()) = b := rfl
  rw [ea, eb, dif_prog]
  by_cases c : morE a = 0
  · rw [if_neg (not_not_intro c)]
    by_cases c2 : morE b = 0
    · rw [if_neg (not_not_intro c2)]
      by_cases c3 : a.1 = b.1
      · rw [if_neg (not_not_intro c3)]
        have h : TwoOk a b := ⟨mor_of c, mor_of c2, c3⟩
        obtain ⟨n, is, z1, z2, z3⟩ := dif_both h
        refine bind_to z2 ?_
        refine bind_to (y := morE a) r23_Check_spec ?_
        rw [if_pos (decide_eq_true c)]
        refine bind_to (y := morE b) r23_Check_spec ?_
        unfold law_SeqsDiffers_J4 law_SeqsDiffers_J5 law_SeqsDiffers_J6
        rw [if_pos (decide_eq_true c2), if_neg (by simpa using c3), if_neg (by simpa using c2), ea, eb]
        refine bind_to z3 ?_
        rw [if_neg (by simp), if_neg (by simp), if_neg (by simp)]
        by_cases c4 : place < 0
        · rw [if_pos (decide_eq_true c4)]
        · rw [if_neg (by simpa using c4)]
          have hp : place ≤ 9223372036854775807 := sp.2
          obtain ⟨r1, r2, r3, r4⟩ := h.rng (n := place) (by omega)
          have h1 := h.ha.shape.1
          have h2 := h.hb.shape.1
          refine bind_to (Letter_spec h.ha (by omega) (by omega)) ?_
          refine bind_to (Letter_spec h.hb (by omega) (by omega)) ?_
          refine G_to (by omega) (G_to (by omega) ?_)
          rcases z1 place (by omega) with e | ⟨e1, e2⟩
          · rw [if_pos (by unfold same at e; simpa using e)]
          · by_cases e3 : ix a.2.2.1 (letT a place) = ix b.2.2.1 (letT b place)
            · rw [if_pos (decide_eq_true e3)]
            · rw [if_neg (by simpa using e3), if_pos e1]; simpa using e2
      · rw [if_pos c3]
        refine bind_to rfl ?_
        refine bind_to (y := morE a) r23_Check_spec ?_
        rw [if_pos (decide_eq_true c)]
        refine bind_to (y := morE b) r23_Check_spec ?_
        unfold law_SeqsDiffers_J4 law_SeqsDiffers_J5 law_SeqsDiffers_J6
        rw [if_pos (decide_eq_true c2), if_pos (by simpa using c3), if_pos (by simp), if_pos (by simp)]
        rfl
    · rw [if_pos c2]
      refine bind_to rfl ?_
      refine bind_to (y := morE a) r23_Check_spec ?_
      rw [if_pos (decide_eq_true c)]
      refine bind_to (y := morE b) r23_Check_spec ?_
      unfold law_SeqsDiffers_J4 law_SeqsDiffers_J5 law_SeqsDiffers_J6
      rw [if_neg (by simpa using c2), if_neg (by simp), if_pos (by simpa using c2), if_pos (by simp)]
      rfl
  · rw [if_pos c]
    refine bind_to rfl ?_
    refine bind_to (y := morE a) r23_Check_spec ?_
    rw [if_neg (by simpa using c)]
    unfold law_SeqsDiffers_J4 law_SeqsDiffers_J5 law_SeqsDiffers_J6
    rw [if_neg (by simpa using c), if_neg (by simp), if_pos (by simpa using c), if_pos (by simp)]
    rfl

end Go.Proofs.Ytdphdliikpdiiaa.seqsDiffersW
