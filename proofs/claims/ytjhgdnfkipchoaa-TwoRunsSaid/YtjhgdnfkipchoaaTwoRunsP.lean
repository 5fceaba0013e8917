/- The law 'TwoRuns' of the plain functions. -/
import Derived.Test.YtjhgdnfkipchoaaTwoRunsD
set_option maxHeartbeats 1000000
set_option maxRecDepth 20000
set_option linter.unusedSimpArgs false
set_option linter.unusedVariables false
namespace Go.Proofs.Ytjhgdnfkipchoaa.twoRunsW
open Go Go.Ab
theorem pigeon : ∀ (n : Nat) (g : Nat → Nat), (∀ i, i ≤ n → g i < n) → ∃ i j, i < j ∧ j ≤ n ∧ g i = g j
  | 0, g, h => absurd (h 0 (Nat.le_refl _)) (by omega)
  | n + 1, g, h => by
    by_cases he : ∃ i, i ≤ n ∧ g i = g (n + 1)
    · obtain ⟨i, h1, h2⟩ := he; exact ⟨i, n + 1, by omega, by omega, h2⟩
    · have hne : ∀ i, i ≤ n → g i ≠ g (n + 1) := fun i hi e => he ⟨i, hi, e⟩
      obtain ⟨i, j, h1, h2, h3⟩ := pigeon n (fun i => if g i < g (n + 1) then g i else g i - 1) (fun i hi => by
        have := h i (by omega); have := h (n + 1) (by omega); have := hne i hi
        show (if g i < g (n + 1) then g i else g i - 1) < n
        split <;> omega)
      refine ⟨i, j, h1, by omega, ?_⟩
      have a := hne i (by omega); have b := hne j (by omega)
      split at h3 <;> split at h3 <;> omega
def itn {A : Type} (f : A → A) : Nat → A → A
  | 0, q => q
  | k + 1, q => f (itn f k q)
theorem itn_add {A : Type} (f : A → A) (a : Nat) : ∀ (b : Nat) (q : A), itn f (a + b) q = itn f a (itn f b q) := by
  induction a with
  | zero => intro b q; rw [Nat.zero_add]; rfl
  | succ a ih => intro b q; rw [Nat.succ_add]; show f _ = f _; rw [ih]
theorem itn_succ {A : Type} (f : A → A) (k : Nat) (q : A) : itn f (k + 1) q = itn f k (f q) := itn_add f k 1 q
theorem itn_lt {f : Nat → Nat} {n : Nat} (hf : ∀ q, q < n → f q < n) {q : Nat} (hq : q < n) : ∀ k, itn f k q < n
  | 0 => hq
  | k + 1 => hf _ (itn_lt hf hq k)
/-- Behind n rounds one goes in a circle of at most n. -/
theorem circle {f : Nat → Nat} {n : Nat} (hf : ∀ q, q < n → f q < n) {q : Nat} (hq : q < n) : ∃ p, 0 < p ∧ p ≤ n ∧ itn f p (itn f n q) = itn f n q := by
  obtain ⟨i, j, h1, h2, h3⟩ := pigeon n (fun k => itn f k q) (fun i _ => itn_lt hf hq i)
  refine ⟨j - i, by omega, by omega, ?_⟩
  rw [← itn_add]
  have e1 : j - i + n = n - i + j := by omega
  have e2 : n = n - i + i := by omega
  rw [e1, itn_add]
  conv => rhs; rw [e2, itn_add]
  rw [h3]
theorem itn_mul {A : Type} {f : A → A} {p : Nat} {q : A} (h : itn f p q = q) : ∀ k, itn f (k * p) q = q
  | 0 => by rw [Nat.zero_mul]; rfl
  | k + 1 => by rw [Nat.succ_mul, itn_add, h, itn_mul h k]
theorem itn_mod {A : Type} {f : A → A} {p : Nat} {q : A} (h : itn f p q = q) (i : Nat) : itn f i q = itn f (i % p) q := by
  have : i = i % p + i / p * p := by rw [Nat.mul_comm]; exact (Nat.mod_add_div i p).symm
  conv => lhs; rw [this, itn_add, itn_mul h]
theorem circleI {f : Int → Int} {n : Nat} (hf : ∀ q : Int, 0 ≤ q → q < n → 0 ≤ f q ∧ f q < n) {q : Int} (h0 : 0 ≤ q) (hq : q < n) : ∃ p, 0 < p ∧ p ≤ n ∧ itn f p (itn f n q) = itn f n q := by
  have hr : ∀ k, 0 ≤ itn f k q ∧ itn f k q < n := by
    intro k
    induction k with
    | zero => exact ⟨h0, hq⟩
    | succ k ih => exact hf _ ih.1 ih.2
  obtain ⟨i, j, h1, h2, h3⟩ := pigeon n (fun k => (itn f k q).toNat) (fun i _ => by have := hr i; show (itn f i q).toNat < n; omega)
  have h3 : itn f i q = itn f j q := by have a := hr i; have b := hr j; have : (itn f i q).toNat = (itn f j q).toNat := h3; omega
  refine ⟨j - i, by omega, by omega, ?_⟩
  rw [← itn_add]
  have e1 : j - i + n = n - i + j := by omega
  have e2 : n = n - i + i := by omega
  rw [e1, itn_add]
  conv => rhs; rw [e2, itn_add]
  rw [h3]

/-- The answer is yes just if P. -/
def Tells (o : Option Bool) (P : Prop) : Prop := ∃ b, o = some b ∧ (b = true ↔ P)
theorem Tells.of {b : Bool} {P : Prop} (h : b = true ↔ P) : Tells (some b) P := ⟨b, rfl, h⟩
theorem Tells.dec {P Q : Prop} [Decidable P] (h : P ↔ Q) : Tells (some (decide P)) Q := ⟨_, rfl, by simpa using h⟩
theorem Tells.iff {o : Option Bool} {P Q : Prop} (h : Tells o P) (k : P ↔ Q) : Tells o Q := let ⟨b, h1, h2⟩ := h; ⟨b, h1, h2.trans k⟩
theorem Tells.eq {o : Option Bool} {P : Prop} [Decidable P] (h : Tells o P) : o = some (decide P) := by
  obtain ⟨b, rfl, hb⟩ := h
  by_cases hp : P
  · simp [hp, hb.2 hp]
  · have : b = false := by cases b; rfl; exact absurd (hb.1 rfl) hp
    simp [hp, this]
theorem Tells.to {R : Type} {o : Option Bool} {P : Prop} {k1 k2 x : Option R} (h : Tells o P) (h1 : P → k1 = x) (h2 : ¬ P → k2 = x) : (o.bind fun y => if y = true then k1 else k2) = x := by
  obtain ⟨b, rfl, hb⟩ := h
  refine bind_to rfl ?_
  cases b
  · exact h2 fun hp => by simpa using hb.2 hp
  · exact h1 (hb.1 rfl)
theorem Tells.bind {R : Type} {o : Option Bool} {P : Prop} {k : Bool → Option R} {x : Option R} (h : Tells o P) (h1 : ∀ b, (b = true ↔ P) → k b = x) : o.bind k = x := by
  obtain ⟨b, rfl, hb⟩ := h
  exact h1 b hb
section
variable {α C : Type} [Inhabited α]
theorem ex_ix {l : List α} {P : α → Prop} : (∃ x ∈ l, P x) ↔ ∃ i : Int, 0 ≤ i ∧ i < l.length ∧ P (ix l i) := by
  constructor
  · rintro ⟨x, hx, hp⟩
    obtain ⟨i, hi, rfl⟩ := List.mem_iff_getElem.1 hx
    refine ⟨i, by omega, by omega, ?_⟩
    rwa [ix_eq (by omega) (by omega)]
  · rintro ⟨i, h0, h1, hp⟩
    exact ⟨_, ix_mem h0 h1, hp⟩
theorem index_loop {s : List α} {f : α → Option Bool} {L : Int → Option Int} {P : α → Prop} (hs : s.length ≤ 4611686018427387904)
    (hL : ∀ t, L t = if decide (t < (s.length : Int)) = true then G (0 ≤ t ∧ t < (s.length : Int)) ((f (ix s t)).bind fun y => if y = true then some t else G (fits (t + 1)) (L (t + 1))) else some (-1))
    (hf : ∀ x ∈ s, Tells (f x) (P x)) : ∀ (n : Nat) (t : Int), 0 ≤ t → t ≤ s.length → (s.length - t).toNat = n →
      ∃ i, L t = some i ∧ ((i = -1 ∧ ∀ j : Int, t ≤ j → j < s.length → ¬ P (ix s j)) ∨ (t ≤ i ∧ i < s.length ∧ P (ix s i) ∧ ∀ j : Int, t ≤ j → j < i → ¬ P (ix s j))) := by
  intro n
  induction n with
  | zero =>
    intro t h0 h1 hn
    refine ⟨-1, ?_, .inl ⟨rfl, fun j a b => by omega⟩⟩
    rw [hL, if_neg (by simp; omega)]
  | succ n ih =>
    intro t h0 h1 hn
    rw [hL, if_pos (by simp; omega), G_pos (by omega)]
    obtain ⟨b, hb, hbp⟩ := hf _ (ix_mem h0 (by omega : t < s.length))
    rw [hb]
    cases b with
    | true => exact ⟨t, rfl, .inr ⟨by omega, by omega, hbp.1 rfl, fun j a b => by omega⟩⟩
    | false =>
      have hnp : ¬ P (ix s t) := fun hp => by simpa using hbp.2 hp
      obtain ⟨i, hi, hc⟩ := ih (t + 1) (by omega) (by omega) (by omega)
      refine ⟨i, ?_, ?_⟩
      · refine (if_neg (by simp) : (if false = true then some t else G (fits (t + 1)) (L (t + 1))) = _).trans ?_
        rw [G_pos (by unfold fits; omega), hi]
      · rcases hc with ⟨h2, h3⟩ | ⟨h2, h3, h4, h5⟩
        · refine .inl ⟨h2, fun j a b => ?_⟩
          by_cases e : j = t
          · rw [e]; exact hnp
          · exact h3 j (by omega) b
        · refine .inr ⟨by omega, h3, h4, fun j a b => ?_⟩
          by_cases e : j = t
          · rw [e]; exact hnp
          · exact h5 j (by omega) b
theorem contains_tells {s : List α} {f : α → Option Bool} {L : Int → Option Int} {P : α → Prop}
    (hL : ∀ t, L t = if decide (t < (s.length : Int)) = true then G (0 ≤ t ∧ t < (s.length : Int)) ((f (ix s t)).bind fun y => if y = true then some t else G (fits (t + 1)) (L (t + 1))) else some (-1))
    (hs : s.length ≤ 4611686018427387904) (hf : ∀ x ∈ s, Tells (f x) (P x)) : Tells ((L 0).bind fun y => some (decide ((0 : Int) ≤ y))) (∃ x ∈ s, P x) := by
  obtain ⟨i, hi, hc⟩ := index_loop hs hL hf _ 0 (by omega) (by omega) rfl
  rw [hi]
  refine ⟨decide (0 ≤ i), rfl, ?_⟩
  rw [decide_eq_true_iff, ex_ix]
  rcases hc with ⟨h2, h3⟩ | ⟨h2, h3, h4, h5⟩
  · constructor
    · intro h; omega
    · rintro ⟨j, h0, h1, hp⟩; exact absurd hp (h3 j h0 h1)
  · exact ⟨fun _ => ⟨i, by omega, h3, h4⟩, fun _ => by omega⟩
/-- .. of what carries along what it reads. -/
theorem contains_tells2 {s : List α} {c : C} {f : α → C → Option (Bool × C)} {L : Int → C → Option (Int × C)} {P : α → Prop}
    (hL : ∀ t c, L t c = if decide (t < (s.length : Int)) = true then G (0 ≤ t ∧ t < (s.length : Int)) ((f (ix s t) c).bind fun y => if y.1 = true then some (t, y.2) else G (fits (t + 1)) (L (t + 1) y.2)) else some (-1, c))
    (hs : s.length ≤ 4611686018427387904) (hf : ∀ x ∈ s, ∃ b, f x c = some (b, c) ∧ (b = true ↔ P x)) : ∃ b, ((L 0 c).bind fun y => some (decide ((0 : Int) ≤ y.1), y.2)) = some (b, c) ∧ (b = true ↔ ∃ x ∈ s, P x) := by
  have key : ∀ (n : Nat) (t : Int), 0 ≤ t → t ≤ s.length → (s.length - t).toNat = n →
      ∃ i, L t c = some (i, c) ∧ ((i = -1 ∧ ∀ j : Int, t ≤ j → j < s.length → ¬ P (ix s j)) ∨ (t ≤ i ∧ i < s.length ∧ P (ix s i))) := by
    intro n
    induction n with
    | zero =>
      intro t h0 h1 hn
      refine ⟨-1, ?_, .inl ⟨rfl, fun j a b => by omega⟩⟩
      rw [hL, if_neg (by simp; omega)]
    | succ n ih =>
      intro t h0 h1 hn
      rw [hL, if_pos (by simp; omega), G_pos (by omega)]
      obtain ⟨b, hb, hbp⟩ := hf _ (ix_mem h0 (by omega : t < s.length))
      rw [hb]
      cases b with
      | true => exact ⟨t, rfl, .inr ⟨by omega, by omega, hbp.1 rfl⟩⟩
      | false =>
        have hnp : ¬ P (ix s t) := fun hp => by simpa using hbp.2 hp
        obtain ⟨i, hi, hc⟩ := ih (t + 1) (by omega) (by omega) (by omega)
        refine ⟨i, ?_, ?_⟩
        · refine (if_neg (by simp) : (if false = true then some (t, c) else G (fits (t + 1)) (L (t + 1) c)) = _).trans ?_
          rw [G_pos (by unfold fits; omega), hi]
        · rcases hc with ⟨h2, h3⟩ | ⟨h2, h3, h4⟩
          · refine .inl ⟨h2, fun j a b => ?_⟩
            by_cases e : j = t
            · rw [e]; exact hnp
            · exact h3 j (by omega) b
          · exact .inr ⟨by omega, h3, h4⟩
  obtain ⟨i, hi, hc⟩ := key _ 0 (by omega) (by omega) rfl
  rw [hi]
  refine ⟨decide (0 ≤ i), rfl, ?_⟩
  rw [decide_eq_true_iff, ex_ix]
  rcases hc with ⟨h2, h3⟩ | ⟨h2, h3, h4⟩
  · constructor
    · intro h; omega
    · rintro ⟨j, h0, h1, hp⟩; exact absurd hp (h3 j h0 h1)
  · exact ⟨fun _ => ⟨i, by omega, h3, h4⟩, fun _ => by omega⟩
end
/-- A loop that looks for the first fault. -/
theorem scan_to {R : Type} {len : Int} {L : Int → Option R} {bad : Int → Prop} {x : Option R} {lo : Int} (h0 : lo ≤ len)
    (hs : ∀ t, lo ≤ t → t < len → (bad t → L t = x) ∧ (¬ bad t → L t = L (t + 1))) (hf : (∀ t, lo ≤ t → t < len → ¬ bad t) → L len = x) : L lo = x := by
  have key : ∀ (n : Nat) (t : Int), lo ≤ t → t ≤ len → (len - t).toNat = n → (∀ j, lo ≤ j → j < t → ¬ bad j) → L t = x := by
    intro n
    induction n with
    | zero =>
      intro t h1 h2 hn h
      obtain rfl : t = len := by omega
      exact hf h
    | succ n ih =>
      intro t h1 h2 hn h
      by_cases hb : bad t
      · exact (hs t h1 (by omega)).1 hb
      · rw [(hs t h1 (by omega)).2 hb]
        refine ih (t + 1) (by omega) (by omega) (by omega) fun j a b => ?_
        by_cases e : j = t
        · rw [e]; exact hb
        · exact h j a (by omega)
  exact key _ lo (Int.le_refl _) h0 rfl (fun j a b => by omega)
/-- A loop that counts, with a state. -/
theorem fold_to {R S : Type} {len : Int} {L : Int → S → Option R} {f : Int → S → S} {lo : Int} {I : Int → S → Prop} {s : S} (h0 : lo ≤ len) (hI : I lo s)
    (hs : ∀ t s, lo ≤ t → t < len → I t s → L t s = L (t + 1) (f t s) ∧ I (t + 1) (f t s)) : ∃ s', I len s' ∧ L lo s = L len s' := by
  have key : ∀ (n : Nat) (t : Int) (s : S), lo ≤ t → t ≤ len → (len - t).toNat = n → I t s → ∃ s', I len s' ∧ L t s = L len s' := by
    intro n
    induction n with
    | zero =>
      intro t s h1 h2 hn h
      obtain rfl : t = len := by omega
      exact ⟨s, h, rfl⟩
    | succ n ih =>
      intro t s h1 h2 hn h
      obtain ⟨e, h3⟩ := hs t s h1 (by omega) h
      obtain ⟨s', h4, h5⟩ := ih (t + 1) _ (by omega) (by omega) (by omega) h3
      exact ⟨s', h4, e.trans h5⟩
  exact key _ lo s (Int.le_refl _) h0 rfl hI

theorem r1_May_L6_spec {letters : Int} {w : List Int} (hL : 1 ≤ letters ∧ letters ≤ 4) (hw : w.length ≤ (60 : Int)) : ∀ (n : Nat) (i : Int), 0 ≤ i → i ≤ w.length → (w.length - i).toNat = n → (∀ j : Int, 0 ≤ j → j < i → 0 ≤ ix w j ∧ ix w j < letters) → r1_May_L6 letters w i = some (mayE letters w) := by
  intro n
  induction n with
  | zero =>
    intro i h0 h1 hn h
    rw [r1_May_L6_eq]; unfold r1_May_L6_B
    (try dsimp only); (repeat' first | (with_reducible refine G_to ?_ ?_; focus (first | omega | (unfold fits; omega) | (unfold room; (try simp only [List.length_append, List.length_cons, List.length_nil]); omega))) | (with_reducible refine both_to ?_ ?_) | (with_reducible refine itet_to ?_) | (with_reducible refine itef_to ?_) | (with_reducible refine ite_to (fun _ => ?_) (fun _ => ?_))) <;> try (exfalso; omega)
    · rw [mayE_ok hL hw (fun j a b => h j a (by omega))]
  | succ n ih =>
    intro i h0 h1 hn h
    rw [r1_May_L6_eq]; unfold r1_May_L6_B
    (try dsimp only); (repeat' first | (with_reducible refine G_to ?_ ?_; focus (first | omega | (unfold fits; omega) | (unfold room; (try simp only [List.length_append, List.length_cons, List.length_nil]); omega))) | (with_reducible refine both_to ?_ ?_) | (with_reducible refine itet_to ?_) | (with_reducible refine itef_to ?_) | (with_reducible refine ite_to (fun _ => ?_) (fun _ => ?_))) <;> try (exfalso; omega)
    · rw [mayE_bad hL hw (i := i) (by omega) (by omega)]
    · rw [mayE_bad hL hw (i := i) (by omega) (by omega)]
    · exact ih _ (by omega) (by omega) (by omega) (below_succ h (by omega))
theorem r1_May_spec {letters : Int} {w : List Int} : r1_May letters w = some (mayE letters w) := by
  unfold r1_May
  (try dsimp only); (repeat' first | (with_reducible refine G_to ?_ ?_; focus (first | omega | (unfold fits; omega) | (unfold room; (try simp only [List.length_append, List.length_cons, List.length_nil]); omega))) | (with_reducible refine both_to ?_ ?_) | (with_reducible refine itet_to ?_) | (with_reducible refine itef_to ?_) | (with_reducible refine ite_to (fun _ => ?_) (fun _ => ?_))) <;> try (exfalso; omega)
  · rw [mayE_range (by omega)]
  · rw [mayE_range (by omega)]
  · rw [mayE_size (by omega) (by omega)]
  · exact r1_May_L6_spec (by omega) (by omega) _ 0 (by omega) (by omega) rfl (fun j a b => by omega)

theorem word_May_L6_spec {letters : Int} {w : List Int} (hL : 1 ≤ letters ∧ letters ≤ 4) (hw : w.length ≤ (60 : Int)) : ∀ (n : Nat) (i : Int), 0 ≤ i → i ≤ w.length → (w.length - i).toNat = n → (∀ j : Int, 0 ≤ j → j < i → 0 ≤ ix w j ∧ ix w j < letters) → word_May_L6 letters w i = some (mayE letters w) := by
  intro n
  induction n with
  | zero =>
    intro i h0 h1 hn h
    rw [word_May_L6_eq]; unfold word_May_L6_B
    (try dsimp only); (repeat' first | (with_reducible refine G_to ?_ ?_; focus (first | omega | (unfold fits; omega) | (unfold room; (try simp only [List.length_append, List.length_cons, List.length_nil]); omega))) | (with_reducible refine both_to ?_ ?_) | (with_reducible refine itet_to ?_) | (with_reducible refine itef_to ?_) | (with_reducible refine ite_to (fun _ => ?_) (fun _ => ?_))) <;> try (exfalso; omega)
    · rw [mayE_ok hL hw (fun j a b => h j a (by omega))]
  | succ n ih =>
    intro i h0 h1 hn h
    rw [word_May_L6_eq]; unfold word_May_L6_B
    (try dsimp only); (repeat' first | (with_reducible refine G_to ?_ ?_; focus (first | omega | (unfold fits; omega) | (unfold room; (try simp only [List.length_append, List.length_cons, List.length_nil]); omega))) | (with_reducible refine both_to ?_ ?_) | (with_reducible refine itet_to ?_) | (with_reducible refine itef_to ?_) | (with_reducible refine ite_to (fun _ => ?_) (fun _ => ?_))) <;> try (exfalso; omega)
    · rw [mayE_bad hL hw (i := i) (by omega) (by omega)]
    · rw [mayE_bad hL hw (i := i) (by omega) (by omega)]
    · exact ih _ (by omega) (by omega) (by omega) (below_succ h (by omega))
theorem word_May_spec {letters : Int} {w : List Int} : word_May letters w = some (mayE letters w) := by
  unfold word_May
  (try dsimp only); (repeat' first | (with_reducible refine G_to ?_ ?_; focus (first | omega | (unfold fits; omega) | (unfold room; (try simp only [List.length_append, List.length_cons, List.length_nil]); omega))) | (with_reducible refine both_to ?_ ?_) | (with_reducible refine itet_to ?_) | (with_reducible refine itef_to ?_) | (with_reducible refine ite_to (fun _ => ?_) (fun _ => ?_))) <;> try (exfalso; omega)
  · rw [mayE_range (by omega)]
  · rw [mayE_range (by omega)]
  · rw [mayE_size (by omega) (by omega)]
  · exact word_May_L6_spec (by omega) (by omega) _ 0 (by omega) (by omega) rfl (fun j a b => by omega)

theorem slices_Grow_spec {n : Int} (h0 : 0 ≤ n) (h : n * 8 ≤ 140737488355328) : slices_Grow n = some [] := by
  unfold slices_Grow
  (try dsimp only); (repeat' first | (with_reducible refine G_to ?_ ?_; focus (first | omega | (unfold fits; omega) | (unfold room; (try simp only [List.length_append, List.length_cons, List.length_nil]); omega))) | (with_reducible refine both_to ?_ ?_) | (with_reducible refine itet_to ?_) | (with_reducible refine itef_to ?_) | (with_reducible refine ite_to (fun _ => ?_) (fun _ => ?_))) <;> try (exfalso; omega)
  all_goals first | rfl | (rw [show ((0 : Int)).toNat = 0 from rfl, List.take_zero])
theorem slices_Concat_spec {ls : List (List Int)} (h : ls.length ≤ 1000) (hl : (ls.flatten.length : Int) * 8 ≤ 140737488355328) : slices_Concat ls = some ls.flatten := by
  have sum : ∀ (k : Nat), ((ls.take k).flatten.length : Int) ≤ ls.flatten.length := by
    intro k
    have : ls.flatten = (ls.take k).flatten ++ (ls.drop k).flatten := by rw [← List.flatten_append, List.take_append_drop]
    rw [this, List.length_append]; omega
  have tk : ∀ t : Int, 0 ≤ t → t < ls.length → (ls.take (t + 1).toNat).flatten = (ls.take t.toNat).flatten ++ ix ls t := fun t h0 h1 => by
    rw [ix_take h0 h1, List.flatten_append]; simp
  unfold slices_Concat
  have k2 : ∀ (n : Nat) (t : Int), (ls.length - t).toNat = n → 0 ≤ t → t ≤ ls.length → slices_Concat_L11 ls t (ls.take t.toNat).flatten = some ls.flatten := by
    intro n
    induction n with
    | zero =>
      intro t hn h0 h1
      rw [slices_Concat_L11_eq]; unfold slices_Concat_L11_B
      rw [List.take_of_length_le (by omega), if_neg (by simp only [decide_eq_true_eq]; omega)]
    | succ n ih =>
      intro t hn h0 h1
      have e := tk t h0 (by omega)
      have s := sum (t + 1).toNat
      rw [e, List.length_append] at s
      rw [slices_Concat_L11_eq]; unfold slices_Concat_L11_B
      (try dsimp only); (repeat' first | (with_reducible refine G_to ?_ ?_; focus (first | omega | (unfold fits; omega) | (unfold room; (try simp only [List.length_append, List.length_cons, List.length_nil]); omega))) | (with_reducible refine both_to ?_ ?_) | (with_reducible refine itet_to ?_) | (with_reducible refine itef_to ?_) | (with_reducible refine ite_to (fun _ => ?_) (fun _ => ?_))) <;> try (exfalso; omega)
      rw [← e]
      exact ih (t + 1) (by omega) (by omega) (by omega)
  have k1 : ∀ (n : Nat) (t : Int), (ls.length - t).toNat = n → 0 ≤ t → t ≤ ls.length → slices_Concat_L3 ls ((ls.take t.toNat).flatten.length : Int) t = some ls.flatten := by
    intro n
    induction n with
    | zero =>
      intro t hn h0 h1
      rw [slices_Concat_L3_eq]; unfold slices_Concat_L3_B
      rw [List.take_of_length_le (by omega), if_neg (by simp only [decide_eq_true_eq]; omega)]
      refine bind_to (slices_Grow_spec (by omega) hl) ?_
      have := k2 _ 0 rfl (by omega) (by omega)
      simpa using this
    | succ n ih =>
      intro t hn h0 h1
      have e := tk t h0 (by omega)
      have s := sum (t + 1).toNat
      have ih' := ih (t + 1) (by omega) (by omega) (by omega)
      rw [e, List.length_append] at s ih'
      rw [slices_Concat_L3_eq]; unfold slices_Concat_L3_B
      (try dsimp only); (repeat' first | (with_reducible refine G_to ?_ ?_; focus (first | omega | (unfold fits; omega) | (unfold room; (try simp only [List.length_append, List.length_cons, List.length_nil]); omega))) | (with_reducible refine both_to ?_ ?_) | (with_reducible refine itet_to ?_) | (with_reducible refine itef_to ?_) | (with_reducible refine ite_to (fun _ => ?_) (fun _ => ?_))) <;> try (exfalso; omega)
      rw [← ih']; congr 1
  have := k1 _ 0 rfl (by omega) (by omega)
  simpa using this

abbrev Row2 := List (Int × Int × Unit)
abbrev Tw := Int × Int × (List Row2) × (List Int) × Unit
def TBig (d : Tw) : Prop := d.2.2.1.length < 1 ∨ 4 < d.2.2.1.length
def TRag (d : Tw) : Prop := ¬ (d.2.2.2.1.length : Int) = d.2.2.1.length ∨ ∃ r ∈ d.2.2.1, ¬ (r.length : Int) = d.1 + 2
def badX (n : Int) (x : Int × Int × Unit) : Prop := (x.1 < 0 ∨ n ≤ x.1) ∨ (¬ x.2.1 = 1 ∧ ¬ x.2.1 = -1)
def TOut (d : Tw) : Prop := (d.2.1 < 0 ∨ (d.2.2.1.length : Int) ≤ d.2.1) ∨ (∃ r ∈ d.2.2.1, ∃ x ∈ r, badX (d.2.2.1.length : Int) x) ∨ (∃ s ∈ d.2.2.2.1, ¬ s = 0 ∧ ¬ s = 1)
open Classical in
noncomputable def twE (d : Tw) : Int := if d.1 < 1 ∨ 4 < d.1 then 2 else if TBig d then 1 else if TRag d then 3 else if TOut d then 2 else 0
structure TOk (d : Tw) : Prop where
  let1 : 1 ≤ d.1 ∧ d.1 ≤ 4
  n1 : 1 ≤ d.2.2.1.length ∧ d.2.2.1.length ≤ 4
  st : 0 ≤ d.2.1 ∧ d.2.1 < d.2.2.1.length
  mkl : (d.2.2.2.1.length : Int) = d.2.2.1.length
  row : ∀ r ∈ d.2.2.1, (r.length : Int) = d.1 + 2
  to : ∀ r ∈ d.2.2.1, ∀ x ∈ r, ¬ badX (d.2.2.1.length : Int) x
theorem twE_zero {d : Tw} (h : twE d = 0) : TOk d := by
  unfold twE at h
  by_cases c1 : d.1 < 1 ∨ 4 < d.1
  · rw [if_pos c1] at h; omega
  rw [if_neg c1] at h
  by_cases c2 : TBig d
  · rw [if_pos c2] at h; omega
  rw [if_neg c2] at h
  by_cases c3 : TRag d
  · rw [if_pos c3] at h; omega
  rw [if_neg c3] at h
  by_cases c4 : TOut d
  · rw [if_pos c4] at h; omega
  unfold TBig at c2; unfold TRag at c3; unfold TOut at c4
  refine ⟨by omega, by omega, ?_, ?_, fun r hr => ?_, fun r hr x hx hb => c4 (.inr (.inl ⟨r, hr, x, hx, hb⟩))⟩
  · have : ¬ (d.2.1 < 0 ∨ (d.2.2.1.length : Int) ≤ d.2.1) := fun h => c4 (.inl h)
    omega
  · exact Decidable.not_not.1 fun h => c3 (.inl h)
  · by_cases e : (r.length : Int) = d.1 + 2
    · exact e
    · exact absurd (.inr ⟨r, hr, e⟩) c3
theorem two_Check_spec {d : Tw} : two_Check d = some (twE d) := by
  unfold two_Check twE
  by_cases c1 : d.1 < 1 ∨ 4 < d.1
  · rw [if_pos c1]
    (try dsimp only); (repeat' first | (with_reducible refine G_to ?_ ?_; focus (first | omega | (unfold fits; omega) | (unfold room; (try simp only [List.length_append, List.length_cons, List.length_nil]); omega))) | (with_reducible refine both_to ?_ ?_) | (with_reducible refine itet_to ?_) | (with_reducible refine itef_to ?_) | (with_reducible refine ite_to (fun _ => ?_) (fun _ => ?_))) <;> try (exfalso; omega)
    all_goals rfl
  rw [if_neg c1]
  by_cases c2 : TBig d
  · rw [if_pos c2]; unfold TBig at c2
    (try dsimp only); (repeat' first | (with_reducible refine G_to ?_ ?_; focus (first | omega | (unfold fits; omega) | (unfold room; (try simp only [List.length_append, List.length_cons, List.length_nil]); omega))) | (with_reducible refine both_to ?_ ?_) | (with_reducible refine itet_to ?_) | (with_reducible refine itef_to ?_) | (with_reducible refine ite_to (fun _ => ?_) (fun _ => ?_))) <;> try (exfalso; omega)
    all_goals rfl
  rw [if_neg c2]
  unfold TBig at c2
  by_cases c3 : (d.2.2.2.1.length : Int) = d.2.2.1.length
  case neg =>
    rw [if_pos (show TRag d from .inl c3)]
    (try dsimp only); (repeat' first | (with_reducible refine G_to ?_ ?_; focus (first | omega | (unfold fits; omega) | (unfold room; (try simp only [List.length_append, List.length_cons, List.length_nil]); omega))) | (with_reducible refine both_to ?_ ?_) | (with_reducible refine itet_to ?_) | (with_reducible refine itef_to ?_) | (with_reducible refine ite_to (fun _ => ?_) (fun _ => ?_))) <;> try (exfalso; omega)
    all_goals rfl
  (try dsimp only); (repeat' first | (with_reducible refine G_to ?_ ?_; focus (first | omega | (unfold fits; omega) | (unfold room; (try simp only [List.length_append, List.length_cons, List.length_nil]); omega))) | (with_reducible refine both_to ?_ ?_) | (with_reducible refine itet_to ?_) | (with_reducible refine itef_to ?_) | (with_reducible refine ite_to (fun _ => ?_) (fun _ => ?_))) <;> try (exfalso; omega)
  have k1 : Tells (slices_ContainsFunc d.2.2.1 d) (∃ r ∈ d.2.2.1, ¬ (r.length : Int) = d.1 + 2) := contains_tells (f := fun r => two_Check_1 r d) (slices_IndexFunc_L2_eq d.2.2.1 d) (by omega) (fun x _ => by unfold two_Check_1; rw [G_pos (by unfold fits; omega)]; exact Tells.dec Iff.rfl)
  have nn : ∀ q t : Int, Tells (two_Check_2 q t) (q < 0 ∨ t ≤ q) := fun q t => by
    unfold two_Check_2
    by_cases h : q < 0
    · rw [if_pos (decide_eq_true h)]; exact Tells.of (by simp [h])
    · rw [if_neg (by simpa using h)]; exact Tells.dec (by omega)
  have k31 : ∀ (x : Int × Int × Unit) (n : Int), ∃ b, two_Check_3_1 x n = some (b, n) ∧ (b = true ↔ badX n x) := fun x n => by
    unfold two_Check_3_1 badX
    obtain ⟨b, hb, hb2⟩ := nn x.1 n
    rw [hb]
    cases b with
    | true => exact ⟨true, rfl, by simp [hb2.1 rfl]⟩
    | false =>
      have hnn : ¬ (x.1 < 0 ∨ n ≤ x.1) := fun h => by have := hb2.2 h; cases this
      show ∃ b, (if (false = true) then some (true, n) else if decide (¬ x.2.1 = 1) = true then some (decide (¬ x.2.1 = -1), n) else some (false, n)) = some (b, n) ∧ _
      rw [if_neg (by simp)]
      by_cases h1 : x.2.1 = 1
      · rw [if_neg (by simp [h1])]; exact ⟨false, rfl, by simp [h1]; omega⟩
      · rw [if_pos (by simp [h1])]; exact ⟨_, rfl, by simp [h1]; omega⟩
  have k3 : ∀ r ∈ d.2.2.1, r.length ≤ 1000 → ∃ b, two_Check_3 r (d.2.2.1.length : Int) = some (b, (d.2.2.1.length : Int)) ∧ (b = true ↔ ∃ x ∈ r, badX (d.2.2.1.length : Int) x) := fun r _ hr => by
    obtain ⟨b, hb, hb2⟩ := contains_tells2 (f := two_Check_3_1) (c := (d.2.2.1.length : Int)) (P := badX (d.2.2.1.length : Int)) (slices_IndexFunc_2_L2_eq r) (by omega) (fun x _ => k31 x _)
    refine ⟨b, ?_, hb2⟩
    unfold two_Check_3
    exact bind_to hb rfl
  have k4 : Tells (slices_ContainsFunc_3 d.2.2.2.1) (∃ s ∈ d.2.2.2.1, ¬ s = 0 ∧ ¬ s = 1) := contains_tells (f := fun q => two_Check_4 q) (slices_IndexFunc_3_L2_eq d.2.2.2.1) (by omega) (fun x _ => by
    unfold two_Check_4
    by_cases h : x = 0
    · rw [if_neg (by simp [h])]; exact Tells.of (by simp [h])
    · rw [if_pos (by simp [h])]; exact Tells.dec (by simp [h]))
  refine k1.to (fun h => by rw [if_pos (show TRag d from .inr h)]) (fun h => ?_)
  rw [if_neg (show ¬ TRag d from fun hh => hh.elim (fun e => e c3) h)]
  have hr : ∀ r ∈ d.2.2.1, r.length ≤ 1000 := fun r hr => by
    by_cases e : (r.length : Int) = d.1 + 2
    · omega
    · exact absurd ⟨r, hr, e⟩ h
  refine (nn _ _).to (fun h => by rw [if_pos (show TOut d from .inl h)]) (fun h1 => ?_)
  obtain ⟨b, hb, hb2⟩ : ∃ b, slices_ContainsFunc_1 d.2.2.1 (d.2.2.1.length : Int) = some (b, (d.2.2.1.length : Int)) ∧ (b = true ↔ ∃ r ∈ d.2.2.1, ∃ q ∈ r, badX (d.2.2.1.length : Int) q) :=
    contains_tells2 (f := two_Check_3) (slices_IndexFunc_1_L2_eq d.2.2.1) (by omega) (fun r hrm => k3 r hrm (hr r hrm))
  rw [hb]
  refine bind_to rfl ?_
  refine iteb_to (fun h => by rw [if_pos (show TOut d from .inr (.inl (hb2.1 h)))]) (fun h2 => ?_)
  refine k4.to (fun h => by rw [if_pos (show TOut d from .inr (.inr h))]) (fun h3 => ?_)
  rw [if_neg (show ¬ TOut d from fun h => h.elim h1 (fun h => h.elim (fun h => by rw [hb2.2 h] at h2; cases h2) h3))]
theorem r25_Check_spec {d : Tw} : r25_Check d = some (twE d) := by
  unfold r25_Check twE
  by_cases c1 : d.1 < 1 ∨ 4 < d.1
  · rw [if_pos c1]
    (try dsimp only); (repeat' first | (with_reducible refine G_to ?_ ?_; focus (first | omega | (unfold fits; omega) | (unfold room; (try simp only [List.length_append, List.length_cons, List.length_nil]); omega))) | (with_reducible refine both_to ?_ ?_) | (with_reducible refine itet_to ?_) | (with_reducible refine itef_to ?_) | (with_reducible refine ite_to (fun _ => ?_) (fun _ => ?_))) <;> try (exfalso; omega)
    all_goals rfl
  rw [if_neg c1]
  by_cases c2 : TBig d
  · rw [if_pos c2]; unfold TBig at c2
    (try dsimp only); (repeat' first | (with_reducible refine G_to ?_ ?_; focus (first | omega | (unfold fits; omega) | (unfold room; (try simp only [List.length_append, List.length_cons, List.length_nil]); omega))) | (with_reducible refine both_to ?_ ?_) | (with_reducible refine itet_to ?_) | (with_reducible refine itef_to ?_) | (with_reducible refine ite_to (fun _ => ?_) (fun _ => ?_))) <;> try (exfalso; omega)
    all_goals rfl
  rw [if_neg c2]
  unfold TBig at c2
  by_cases c3 : (d.2.2.2.1.length : Int) = d.2.2.1.length
  case neg =>
    rw [if_pos (show TRag d from .inl c3)]
    (try dsimp only); (repeat' first | (with_reducible refine G_to ?_ ?_; focus (first | omega | (unfold fits; omega) | (unfold room; (try simp only [List.length_append, List.length_cons, List.length_nil]); omega))) | (with_reducible refine both_to ?_ ?_) | (with_reducible refine itet_to ?_) | (with_reducible refine itef_to ?_) | (with_reducible refine ite_to (fun _ => ?_) (fun _ => ?_))) <;> try (exfalso; omega)
    all_goals rfl
  (try dsimp only); (repeat' first | (with_reducible refine G_to ?_ ?_; focus (first | omega | (unfold fits; omega) | (unfold room; (try simp only [List.length_append, List.length_cons, List.length_nil]); omega))) | (with_reducible refine both_to ?_ ?_) | (with_reducible refine itet_to ?_) | (with_reducible refine itef_to ?_) | (with_reducible refine ite_to (fun _ => ?_) (fun _ => ?_))) <;> try (exfalso; omega)
  refine scan_to (len := (d.2.2.1.length : Int)) (bad := fun t => ¬ ((ix d.2.2.1 t).length : Int) = d.1 + 2) (by omega) (fun t h0 h1 => ⟨fun hb => ?_, fun hb => ?_⟩) (fun hh => ?_)
  · rw [r25_Check_L9_eq]; unfold r25_Check_L9_B
    (try dsimp only); (repeat' first | (with_reducible refine G_to ?_ ?_; focus (first | omega | (unfold fits; omega) | (unfold room; (try simp only [List.length_append, List.length_cons, List.length_nil]); omega))) | (with_reducible refine both_to ?_ ?_) | (with_reducible refine itet_to ?_) | (with_reducible refine itef_to ?_) | (with_reducible refine ite_to (fun _ => ?_) (fun _ => ?_))) <;> try (exfalso; omega)
    rw [if_pos (show TRag d from .inr (ex_ix.2 ⟨t, by omega, by omega, hb⟩))]
  · conv => lhs; rw [r25_Check_L9_eq]; unfold r25_Check_L9_B
    (try dsimp only); (repeat' first | (with_reducible refine G_to ?_ ?_; focus (first | omega | (unfold fits; omega) | (unfold room; (try simp only [List.length_append, List.length_cons, List.length_nil]); omega))) | (with_reducible refine both_to ?_ ?_) | (with_reducible refine itet_to ?_) | (with_reducible refine itef_to ?_) | (with_reducible refine ite_to (fun _ => ?_) (fun _ => ?_))) <;> try (exfalso; omega)
    all_goals first | rfl | (exfalso; exact hb ‹_›) | (exfalso; exact absurd ‹_› hb)
  rw [if_neg (show ¬ TRag d from fun h => h.elim (fun e => e c3) (fun h => by obtain ⟨i, i0, i1, i2⟩ := ex_ix.1 h; exact hh i i0 i1 i2))]
  rw [r25_Check_L9_eq]; unfold r25_Check_L9_B
  by_cases c4 : d.2.1 < 0 ∨ (d.2.2.1.length : Int) ≤ d.2.1
  · rw [if_pos (show TOut d from .inl c4)]
    (try dsimp only); (repeat' first | (with_reducible refine G_to ?_ ?_; focus (first | omega | (unfold fits; omega) | (unfold room; (try simp only [List.length_append, List.length_cons, List.length_nil]); omega))) | (with_reducible refine both_to ?_ ?_) | (with_reducible refine itet_to ?_) | (with_reducible refine itef_to ?_) | (with_reducible refine ite_to (fun _ => ?_) (fun _ => ?_))) <;> try (exfalso; omega)
    all_goals rfl
  (try dsimp only); (repeat' first | (with_reducible refine G_to ?_ ?_; focus (first | omega | (unfold fits; omega) | (unfold room; (try simp only [List.length_append, List.length_cons, List.length_nil]); omega))) | (with_reducible refine both_to ?_ ?_) | (with_reducible refine itet_to ?_) | (with_reducible refine itef_to ?_) | (with_reducible refine ite_to (fun _ => ?_) (fun _ => ?_))) <;> try (exfalso; omega)
  have hlen : ∀ t : Int, 0 ≤ t → t < d.2.2.1.length → ((ix d.2.2.1 t).length : Int) = d.1 + 2 := fun t a b => Decidable.not_not.1 (hh t a b)
  refine scan_to (len := (d.2.2.1.length : Int)) (bad := fun t => (∃ q ∈ ix d.2.2.1 t, badX (d.2.2.1.length : Int) q) ∨ (¬ ix d.2.2.2.1 t = 0 ∧ ¬ ix d.2.2.2.1 t = 1)) (by omega) (fun t h0 h1 => ⟨fun hb => ?_, fun hb => ?_⟩) (fun hh2 => ?_)
  · have hout : TOut d := by
      rcases hb with hb | hb
      · exact .inr (.inl (ex_ix.2 ⟨t, h0, h1, hb⟩))
      · exact .inr (.inr (ex_ix.2 ⟨t, h0, by omega, hb⟩))
    rw [if_pos hout]
    rw [r25_Check_L16_eq]; unfold r25_Check_L16_B
    (try dsimp only); (repeat' first | (with_reducible refine G_to ?_ ?_; focus (first | omega | (unfold fits; omega) | (unfold room; (try simp only [List.length_append, List.length_cons, List.length_nil]); omega))) | (with_reducible refine both_to ?_ ?_) | (with_reducible refine itet_to ?_) | (with_reducible refine itef_to ?_) | (with_reducible refine ite_to (fun _ => ?_) (fun _ => ?_))) <;> try (exfalso; omega)
    have hlt := hlen t h0 h1
    refine scan_to (len := d.1 + 2) (bad := fun a => badX (d.2.2.1.length : Int) (ix (ix d.2.2.1 t) a)) (by omega) (fun a a0 a1 => ⟨fun hb => ?_, fun hb => ?_⟩) (fun hh3 => ?_)
    · unfold badX at hb
      rw [r25_Check_L19_eq]; unfold r25_Check_L19_B
      (try dsimp only); (repeat' first | (with_reducible refine G_to ?_ ?_; focus (first | omega | (unfold fits; omega) | (unfold room; (try simp only [List.length_append, List.length_cons, List.length_nil]); omega))) | (with_reducible refine both_to ?_ ?_) | (with_reducible refine itet_to ?_) | (with_reducible refine itef_to ?_) | (with_reducible refine ite_to (fun _ => ?_) (fun _ => ?_))) <;> try (exfalso; omega)
      all_goals first | rfl | (exfalso; exact absurd ‹_› ‹_›) | skip
      all_goals (exfalso; omega)
    · unfold badX at hb
      conv => lhs; rw [r25_Check_L19_eq]; unfold r25_Check_L19_B
      (try dsimp only); (repeat' first | (with_reducible refine G_to ?_ ?_; focus (first | omega | (unfold fits; omega) | (unfold room; (try simp only [List.length_append, List.length_cons, List.length_nil]); omega))) | (with_reducible refine both_to ?_ ?_) | (with_reducible refine itet_to ?_) | (with_reducible refine itef_to ?_) | (with_reducible refine ite_to (fun _ => ?_) (fun _ => ?_))) <;> try (exfalso; omega)
      all_goals first | rfl | (exfalso; omega)
    · rcases hb with hb | hb
      · exfalso
        obtain ⟨i, i0, i1, i2⟩ := ex_ix.1 hb
        exact hh3 i i0 (by omega) i2
      · rw [r25_Check_L19_eq]; unfold r25_Check_L19_B
        (try dsimp only); (repeat' first | (with_reducible refine G_to ?_ ?_; focus (first | omega | (unfold fits; omega) | (unfold room; (try simp only [List.length_append, List.length_cons, List.length_nil]); omega))) | (with_reducible refine both_to ?_ ?_) | (with_reducible refine itet_to ?_) | (with_reducible refine itef_to ?_) | (with_reducible refine ite_to (fun _ => ?_) (fun _ => ?_))) <;> try (exfalso; omega)
        all_goals first | rfl | (exfalso; exact hb.1 ‹_›) | (exfalso; exact hb.2 (Decidable.not_not.1 ‹_›)) | (exfalso; exact hb.2 ‹_›) | (exfalso; exact hb.1 (Decidable.not_not.1 ‹_›))
  · have hlt := hlen t h0 h1
    have hb1 : ¬ ∃ q ∈ ix d.2.2.1 t, badX (d.2.2.1.length : Int) q := fun h => hb (.inl h)
    have hb2 : ¬ (¬ ix d.2.2.2.1 t = 0 ∧ ¬ ix d.2.2.2.1 t = 1) := fun h => hb (.inr h)
    conv => lhs; rw [r25_Check_L16_eq]; unfold r25_Check_L16_B
    (try dsimp only); (repeat' first | (with_reducible refine G_to ?_ ?_; focus (first | omega | (unfold fits; omega) | (unfold room; (try simp only [List.length_append, List.length_cons, List.length_nil]); omega))) | (with_reducible refine both_to ?_ ?_) | (with_reducible refine itet_to ?_) | (with_reducible refine itef_to ?_) | (with_reducible refine ite_to (fun _ => ?_) (fun _ => ?_))) <;> try (exfalso; omega)
    refine scan_to (len := d.1 + 2) (bad := fun a => badX (d.2.2.1.length : Int) (ix (ix d.2.2.1 t) a)) (by omega) (fun a a0 a1 => ⟨fun hb' => ?_, fun hb => ?_⟩) (fun hh3 => ?_)
    · exfalso; exact hb1 (ex_ix.2 ⟨a, a0, by omega, hb'⟩)
    · unfold badX at hb
      conv => lhs; rw [r25_Check_L19_eq]; unfold r25_Check_L19_B
      (try dsimp only); (repeat' first | (with_reducible refine G_to ?_ ?_; focus (first | omega | (unfold fits; omega) | (unfold room; (try simp only [List.length_append, List.length_cons, List.length_nil]); omega))) | (with_reducible refine both_to ?_ ?_) | (with_reducible refine itet_to ?_) | (with_reducible refine itef_to ?_) | (with_reducible refine ite_to (fun _ => ?_) (fun _ => ?_))) <;> try (exfalso; omega)
      all_goals first | rfl | (exfalso; omega)
    · rw [r25_Check_L19_eq]; unfold r25_Check_L19_B
      (try dsimp only); (repeat' first | (with_reducible refine G_to ?_ ?_; focus (first | omega | (unfold fits; omega) | (unfold room; (try simp only [List.length_append, List.length_cons, List.length_nil]); omega))) | (with_reducible refine both_to ?_ ?_) | (with_reducible refine itet_to ?_) | (with_reducible refine itef_to ?_) | (with_reducible refine ite_to (fun _ => ?_) (fun _ => ?_))) <;> try (exfalso; omega)
      all_goals first | rfl | (exfalso; exact hb2 ⟨‹_›, ‹_›⟩)
  rw [if_neg (show ¬ TOut d from fun h => h.elim c4 (fun h => h.elim (fun h => by
    obtain ⟨t, h0, h1, hb⟩ := ex_ix.1 h
    exact hh2 t h0 h1 (.inl hb)) (fun h => by
    obtain ⟨t, h0, h1, hb⟩ := ex_ix.1 h
    exact hh2 t h0 (by omega) (.inr hb))))]
  rw [r25_Check_L16_eq]; unfold r25_Check_L16_B
  (try dsimp only); (repeat' first | (with_reducible refine G_to ?_ ?_; focus (first | omega | (unfold fits; omega) | (unfold room; (try simp only [List.length_append, List.length_cons, List.length_nil]); omega))) | (with_reducible refine both_to ?_ ?_) | (with_reducible refine itet_to ?_) | (with_reducible refine itef_to ?_) | (with_reducible refine ite_to (fun _ => ?_) (fun _ => ?_))) <;> try (exfalso; omega)
  all_goals rfl

section
variable {t : Tw} {w : List Int}
def tpe (t : Tw) (w : List Int) : List Int := ([t.1] ++ w) ++ [t.1 + 1]
def stpF (t : Tw) (w : List Int) (x : Int × Int) : Int × Int := ((ix (ix t.2.2.1 x.1) (ix (tpe t w) x.2)).1, x.2 + (ix (ix t.2.2.1 x.1) (ix (tpe t w) x.2)).2.1)
def cnf (t : Tw) (w : List Int) (k : Nat) : Int × Int := itn (stpF t w) k (t.2.1, 0)
def Inr (t : Tw) (w : List Int) (k : Nat) : Prop := 0 ≤ (cnf t w k).2 ∧ (cnf t w k).2 < (tpe t w).length
theorem tpe_len : (tpe t w).length = w.length + 2 := by simp [tpe]
theorem tpe_let (h1 : 1 ≤ t.1) (hw : ∀ a ∈ w, 0 ≤ a ∧ a < t.1) : ∀ a ∈ tpe t w, 0 ≤ a ∧ a < t.1 + 2 := by
  intro a ha
  simp only [tpe, List.mem_append, List.mem_singleton] at ha
  rcases ha with (rfl | ha) | rfl
  · omega
  · have := hw a ha; omega
  · omega
theorem cnf_step (h : TOk t) (hw : ∀ a ∈ w, 0 ≤ a ∧ a < t.1) {q p : Int} (q0 : 0 ≤ q) (q1 : q < t.2.2.1.length) (p0 : 0 ≤ p) (p1 : p < (tpe t w).length) :
    (0 ≤ ix (tpe t w) p ∧ ix (tpe t w) p < ((ix t.2.2.1 q).length : Int)) ∧ (0 ≤ (stpF t w (q, p)).1 ∧ (stpF t w (q, p)).1 < t.2.2.1.length) ∧ ((stpF t w (q, p)).2 = p + 1 ∨ (stpF t w (q, p)).2 = p - 1) := by
  have ha := tpe_let h.let1.1 hw _ (ix_mem p0 p1)
  have hr := h.row _ (ix_mem q0 q1)
  have hb := h.to _ (ix_mem q0 q1) _ (ix_mem ha.1 (by omega : ix (tpe t w) p < ((ix t.2.2.1 q).length : Int)))
  refine ⟨⟨ha.1, by omega⟩, ?_⟩
  have e1 : (stpF t w (q, p)).1 = (ix (ix t.2.2.1 q) (ix (tpe t w) p)).1 := rfl
  have e2 : (stpF t w (q, p)).2 = p + (ix (ix t.2.2.1 q) (ix (tpe t w) p)).2.1 := rfl
  rw [e1, e2]
  unfold badX at hb
  omega
theorem cnf_ok (h : TOk t) (hw : ∀ a ∈ w, 0 ≤ a ∧ a < t.1) : ∀ k, (∀ j, j < k → Inr t w j) → (0 ≤ (cnf t w k).1 ∧ (cnf t w k).1 < t.2.2.1.length) ∧ -1 ≤ (cnf t w k).2 ∧ (cnf t w k).2 ≤ (tpe t w).length
  | 0, _ => ⟨h.st, by show -1 ≤ (0 : Int); omega, by show (0 : Int) ≤ _; omega⟩
  | k + 1, hi => by
    obtain ⟨h1, _⟩ := cnf_ok h hw k (fun j hj => hi j (by omega))
    have h2 := hi k (by omega)
    obtain ⟨_, h3, h4⟩ := cnf_step h hw h1.1 h1.2 h2.1 h2.2
    have e : cnf t w (k + 1) = stpF t w ((cnf t w k).1, (cnf t w k).2) := rfl
    rw [e]
    refine ⟨h3, ?_⟩
    unfold Inr at h2
    rcases h4 with h4 | h4 <;> omega
/-- Who stays on the tape for so long stays for ever. -/
theorem stays (h : TOk t) (hw : ∀ a ∈ w, 0 ≤ a ∧ a < t.1) (hi : ∀ j, j ≤ (tpe t w).length * t.2.2.1.length → Inr t w j) : Inr t w ((tpe t w).length * t.2.2.1.length + 1) := by
  have hok : ∀ k, k ≤ (tpe t w).length * t.2.2.1.length → (0 ≤ (cnf t w k).1 ∧ (cnf t w k).1 < t.2.2.1.length) := fun k hk => (cnf_ok h hw k (fun j hj => hi j (by omega))).1
  obtain ⟨i, j, h1, h2, h3⟩ := pigeon ((tpe t w).length * t.2.2.1.length) (fun k => (cnf t w k).2.toNat * t.2.2.1.length + (cnf t w k).1.toNat) (fun k hk => by
    obtain ⟨a, b⟩ := hok k hk
    have c := hi k hk
    unfold Inr at c
    have d : ((cnf t w k).2.toNat + 1) * t.2.2.1.length ≤ (tpe t w).length * t.2.2.1.length := Nat.mul_le_mul_right _ (by omega)
    rw [Nat.add_mul] at d
    show (cnf t w k).2.toNat * t.2.2.1.length + (cnf t w k).1.toNat < _
    omega)
  have h3 : (cnf t w i).2.toNat * t.2.2.1.length + (cnf t w i).1.toNat = (cnf t w j).2.toNat * t.2.2.1.length + (cnf t w j).1.toNat := h3
  have e : cnf t w i = cnf t w j := by
    obtain ⟨a, b⟩ := hok i (by omega)
    obtain ⟨a', b'⟩ := hok j h2
    have c := hi i (by omega)
    have c' := hi j h2
    unfold Inr at c c'
    have m1 : ((cnf t w i).2.toNat * t.2.2.1.length + (cnf t w i).1.toNat) % t.2.2.1.length = (cnf t w i).1.toNat := by
      rw [Nat.mul_comm, Nat.mul_add_mod, Nat.mod_eq_of_lt (by omega)]
    have m2 : ((cnf t w j).2.toNat * t.2.2.1.length + (cnf t w j).1.toNat) % t.2.2.1.length = (cnf t w j).1.toNat := by
      rw [Nat.mul_comm, Nat.mul_add_mod, Nat.mod_eq_of_lt (by omega)]
    have m3 : (cnf t w i).1.toNat = (cnf t w j).1.toNat := by rw [← m1, ← m2, h3]
    have m4 : (cnf t w i).2.toNat = (cnf t w j).2.toNat := by
      rw [m3] at h3
      exact Nat.eq_of_mul_eq_mul_right (by omega : 0 < t.2.2.1.length) (Nat.add_right_cancel h3)
    exact Prod.ext (by omega) (by omega)
  have e2 : cnf t w ((tpe t w).length * t.2.2.1.length + 1) = cnf t w ((tpe t w).length * t.2.2.1.length + 1 - j + i) := by
    have a : (tpe t w).length * t.2.2.1.length + 1 = ((tpe t w).length * t.2.2.1.length + 1 - j) + j := by omega
    unfold cnf at e ⊢
    conv => lhs; rw [a, itn_add, ← e, ← itn_add]
  have := hi ((tpe t w).length * t.2.2.1.length + 1 - j + i) (by omega)
  unfold Inr at this ⊢
  rw [e2]; exact this
theorem run_both (h : TOk t) (hw : ∀ a ∈ w, 0 ≤ a ∧ a < t.1) (hl : w.length ≤ 1000) : ∀ (d k : Nat), (tpe t w).length * t.2.2.1.length + 1 - k = d → k ≤ (tpe t w).length * t.2.2.1.length + 1 → (∀ j, j < k → Inr t w j) →
    ∃ res : Bool × Int, two_Run_L9 t (tpe t w) (k : Int) (cnf t w k).2 (cnf t w k).1 = some (res.1, res.2, 0) ∧ r25_Run_L7 t w (cnf t w k).1 (cnf t w k).2 (k : Int) = some res := by
  have hlen := tpe_len (t := t) (w := w)
  have hn := h.n1
  have hB : ((tpe t w).length : Int) * (t.2.2.1.length : Int) = (((tpe t w).length * t.2.2.1.length : Nat) : Int) := by push_cast; rfl
  have hBb : (tpe t w).length * t.2.2.1.length ≤ 1002 * 4 := Nat.mul_le_mul (by omega) (by omega)
  intro d
  induction d with
  | zero =>
    intro k h1 h2 h3
    obtain rfl : k = (tpe t w).length * t.2.2.1.length + 1 := by omega
    have h4 := stays h hw (fun j hj => h3 j (by omega))
    have h4' := h4
    unfold Inr at h4
    refine ⟨(false, 0), ?_, ?_⟩
    · rw [two_Run_L9_eq]; unfold two_Run_L9_B two_Run_J9 two_Run_J9_1
      rw [hB]
      (try dsimp only); (repeat' first | (with_reducible refine G_to ?_ ?_; focus (first | omega | (unfold fits; omega) | (unfold room; (try simp only [List.length_append, List.length_cons, List.length_nil]); omega))) | (with_reducible refine both_to ?_ ?_) | (with_reducible refine itet_to ?_) | (with_reducible refine itef_to ?_) | (with_reducible refine ite_to (fun _ => ?_) (fun _ => ?_))) <;> try (exfalso; omega)
      all_goals rfl
    · rw [r25_Run_L7_eq]; unfold r25_Run_L7_B
      have e : ((([t.1] ++ w) ++ [t.1 + 1]).length : Int) * (t.2.2.1.length : Int) = (((tpe t w).length * t.2.2.1.length : Nat) : Int) := hB
      rw [e]
      (try dsimp only); (repeat' first | (with_reducible refine G_to ?_ ?_; focus (first | omega | (unfold fits; omega) | (unfold room; (try simp only [List.length_append, List.length_cons, List.length_nil]); omega))) | (with_reducible refine both_to ?_ ?_) | (with_reducible refine itet_to ?_) | (with_reducible refine itef_to ?_) | (with_reducible refine ite_to (fun _ => ?_) (fun _ => ?_))) <;> try (exfalso; omega)
      all_goals rfl
  | succ d ih =>
    intro k h1 h2 h3
    obtain ⟨q, p1, p2⟩ := cnf_ok h hw k h3
    by_cases hin : Inr t w k
    · obtain ⟨res, r1, r2⟩ := ih (k + 1) (by omega) (by omega) (fun j hj => by
        by_cases e : j = k
        · rw [e]; exact hin
        · exact h3 j (by omega))
      have hin' := hin
      unfold Inr at hin'
      obtain ⟨s1, s2, s3⟩ := cnf_step h hw q.1 q.2 hin'.1 hin'.2
      refine ⟨res, ?_, ?_⟩
      · rw [← r1]
        conv => lhs; rw [two_Run_L9_eq]; unfold two_Run_L9_B two_Run_J9 two_Run_J9_1
        rw [hB]
        have e2 : (stpF t w ((cnf t w k).1, (cnf t w k).2)).2 = (cnf t w k).2 + (ix (ix t.2.2.1 (cnf t w k).1) (ix (tpe t w) (cnf t w k).2)).2.1 := rfl
        rw [e2] at s3
        (try dsimp only); (repeat' first | (with_reducible refine G_to ?_ ?_; focus (first | omega | (unfold fits; omega) | (unfold room; (try simp only [List.length_append, List.length_cons, List.length_nil]); omega))) | (with_reducible refine both_to ?_ ?_) | (with_reducible refine itet_to ?_) | (with_reducible refine itef_to ?_) | (with_reducible refine ite_to (fun _ => ?_) (fun _ => ?_))) <;> try (exfalso; omega)
        all_goals rfl
      · rw [← r2]
        conv => lhs; rw [r25_Run_L7_eq]; unfold r25_Run_L7_B
        have e : ((([t.1] ++ w) ++ [t.1 + 1]).length : Int) * (t.2.2.1.length : Int) = (((tpe t w).length * t.2.2.1.length : Nat) : Int) := hB
        rw [e]
        have et : ([t.1] ++ w) ++ [t.1 + 1] = tpe t w := rfl
        rw [et]
        have e2 : (stpF t w ((cnf t w k).1, (cnf t w k).2)).2 = (cnf t w k).2 + (ix (ix t.2.2.1 (cnf t w k).1) (ix (tpe t w) (cnf t w k).2)).2.1 := rfl
        rw [e2] at s3
        (try dsimp only); (repeat' first | (with_reducible refine G_to ?_ ?_; focus (first | omega | (unfold fits; omega) | (unfold room; (try simp only [List.length_append, List.length_cons, List.length_nil]); omega))) | (with_reducible refine both_to ?_ ?_) | (with_reducible refine itet_to ?_) | (with_reducible refine itef_to ?_) | (with_reducible refine ite_to (fun _ => ?_) (fun _ => ?_))) <;> try (exfalso; omega)
        all_goals rfl
    · unfold Inr at hin
      have hm := h.mkl
      by_cases hneg : (cnf t w k).2 < 0
      · refine ⟨(false, k), ?_, ?_⟩
        · rw [two_Run_L9_eq]; unfold two_Run_L9_B two_Run_J9
          (try dsimp only); (repeat' first | (with_reducible refine G_to ?_ ?_; focus (first | omega | (unfold fits; omega) | (unfold room; (try simp only [List.length_append, List.length_cons, List.length_nil]); omega))) | (with_reducible refine both_to ?_ ?_) | (with_reducible refine itet_to ?_) | (with_reducible refine itef_to ?_) | (with_reducible refine ite_to (fun _ => ?_) (fun _ => ?_))) <;> try (exfalso; omega)
          all_goals rfl
        · rw [r25_Run_L7_eq]; unfold r25_Run_L7_B
          have e : ((([t.1] ++ w) ++ [t.1 + 1]).length : Int) * (t.2.2.1.length : Int) = (((tpe t w).length * t.2.2.1.length : Nat) : Int) := hB
          rw [e]
          (try dsimp only); (repeat' first | (with_reducible refine G_to ?_ ?_; focus (first | omega | (unfold fits; omega) | (unfold room; (try simp only [List.length_append, List.length_cons, List.length_nil]); omega))) | (with_reducible refine both_to ?_ ?_) | (with_reducible refine itet_to ?_) | (with_reducible refine itef_to ?_) | (with_reducible refine ite_to (fun _ => ?_) (fun _ => ?_))) <;> try (exfalso; omega)
          all_goals rfl
      · refine ⟨(decide (ix t.2.2.2.1 (cnf t w k).1 = 1), k), ?_, ?_⟩
        · rw [two_Run_L9_eq]; unfold two_Run_L9_B two_Run_J9
          (try dsimp only); (repeat' first | (with_reducible refine G_to ?_ ?_; focus (first | omega | (unfold fits; omega) | (unfold room; (try simp only [List.length_append, List.length_cons, List.length_nil]); omega))) | (with_reducible refine both_to ?_ ?_) | (with_reducible refine itet_to ?_) | (with_reducible refine itef_to ?_) | (with_reducible refine ite_to (fun _ => ?_) (fun _ => ?_))) <;> try (exfalso; omega)
          all_goals rfl
        · rw [r25_Run_L7_eq]; unfold r25_Run_L7_B
          have e : ((([t.1] ++ w) ++ [t.1 + 1]).length : Int) * (t.2.2.1.length : Int) = (((tpe t w).length * t.2.2.1.length : Nat) : Int) := hB
          rw [e]
          have et : ([t.1] ++ w) ++ [t.1 + 1] = tpe t w := rfl
          rw [et]
          (try dsimp only); (repeat' first | (with_reducible refine G_to ?_ ?_; focus (first | omega | (unfold fits; omega) | (unfold room; (try simp only [List.length_append, List.length_cons, List.length_nil]); omega))) | (with_reducible refine both_to ?_ ?_) | (with_reducible refine itet_to ?_) | (with_reducible refine itef_to ?_) | (with_reducible refine ite_to (fun _ => ?_) (fun _ => ?_))) <;> try (exfalso; omega)
          all_goals rfl
theorem two_Run_bad (hm : ¬ twE t = 0) : two_Run t w = some (false, 0, twE t) := by
  unfold two_Run
  refine bind_to two_Check_spec ?_
  have hm' : ¬ twE (t.1, t.2.1, t.2.2.1, t.2.2.2.1, ()) = 0 := hm
  rw [if_pos (decide_eq_true hm')]
theorem two_Run_bad2 (hm : twE t = 0) (hl : ¬ mayE t.1 w = 0) : two_Run t w = some (false, 0, mayE t.1 w) := by
  unfold two_Run
  refine bind_to two_Check_spec ?_
  rw [show twE (t.1, t.2.1, t.2.2.1, t.2.2.2.1, ()) = 0 from hm]
  (try dsimp only); (repeat' first | (with_reducible refine G_to ?_ ?_; focus (first | omega | (unfold fits; omega) | (unfold room; (try simp only [List.length_append, List.length_cons, List.length_nil]); omega))) | (with_reducible refine both_to ?_ ?_) | (with_reducible refine itet_to ?_) | (with_reducible refine itef_to ?_) | (with_reducible refine ite_to (fun _ => ?_) (fun _ => ?_))) <;> try (exfalso; omega)
  refine bind_to word_May_spec ?_
  rw [if_pos (decide_eq_true hl)]
theorem two_Run_good (hm : twE t = 0) (hl : mayE t.1 w = 0) : ∃ res : Bool × Int, two_Run t w = some (res.1, res.2, 0) ∧ r25_Run t w = some res := by
  have h := twE_zero hm
  have hw := mayE_zero hl
  have h1 := h.let1
  obtain ⟨res, r1, r2⟩ := run_both h hw.2.2 (by omega) _ 0 rfl (by omega) (fun j hj => by omega)
  refine ⟨res, ?_, ?_⟩
  · unfold two_Run
    refine bind_to two_Check_spec ?_
    rw [show twE (t.1, t.2.1, t.2.2.1, t.2.2.2.1, ()) = 0 from hm]
    (try dsimp only); (repeat' first | (with_reducible refine G_to ?_ ?_; focus (first | omega | (unfold fits; omega) | (unfold room; (try simp only [List.length_append, List.length_cons, List.length_nil]); omega))) | (with_reducible refine both_to ?_ ?_) | (with_reducible refine itet_to ?_) | (with_reducible refine itef_to ?_) | (with_reducible refine ite_to (fun _ => ?_) (fun _ => ?_))) <;> try (exfalso; omega)
    refine bind_to word_May_spec ?_
    rw [hl]
    (try dsimp only); (repeat' first | (with_reducible refine G_to ?_ ?_; focus (first | omega | (unfold fits; omega) | (unfold room; (try simp only [List.length_append, List.length_cons, List.length_nil]); omega))) | (with_reducible refine both_to ?_ ?_) | (with_reducible refine itet_to ?_) | (with_reducible refine itef_to ?_) | (with_reducible refine ite_to (fun _ => ?_) (fun _ => ?_))) <;> try (exfalso; omega)
    have e : [[t.1], w, [t.1 + 1]].flatten = tpe t w := by simp [tpe]
    refine bind_to (slices_Concat_spec (ls := [[t.1], w, [t.1 + 1]]) (by simp) (by rw [e, tpe_len]; omega)) ?_
    rw [e]
    exact r1
  · unfold r25_Run
    (try dsimp only); (repeat' first | (with_reducible refine G_to ?_ ?_; focus (first | omega | (unfold fits; omega) | (unfold room; (try simp only [List.length_append, List.length_cons, List.length_nil]); omega))) | (with_reducible refine both_to ?_ ?_) | (with_reducible refine itet_to ?_) | (with_reducible refine itef_to ?_) | (with_reducible refine ite_to (fun _ => ?_) (fun _ => ?_))) <;> try (exfalso; omega)
    exact r2
end
theorem law_true (t : Tw) (w : List Int) : law_TwoRuns t w = some true := by
  unfold law_TwoRuns
  refine bind_to two_Check_spec ?_
  refine bind_to r25_Check_spec ?_
  rw [show twE (t.1, t.2.1, t.2.2.1, t.2.2.2.1, ()) = twE t from rfl]
  by_cases hm : twE t = 0
  · by_cases hl : mayE t.1 w = 0
    · obtain ⟨res, r1, r2⟩ := two_Run_good hm hl
      refine bind_to r1 ?_
      rw [hm]
      (try dsimp only); (repeat' first | (with_reducible refine G_to ?_ ?_; focus (first | omega | (unfold fits; omega) | (unfold room; (try simp only [List.length_append, List.length_cons, List.length_nil]); omega))) | (with_reducible refine both_to ?_ ?_) | (with_reducible refine itet_to ?_) | (with_reducible refine itef_to ?_) | (with_reducible refine ite_to (fun _ => ?_) (fun _ => ?_))) <;> try (exfalso; omega)
      refine bind_to r1_May_spec ?_
      rw [hl]
      unfold law_TwoRuns_J7
      (try dsimp only); (repeat' first | (with_reducible refine G_to ?_ ?_; focus (first | omega | (unfold fits; omega) | (unfold room; (try simp only [List.length_append, List.length_cons, List.length_nil]); omega))) | (with_reducible refine both_to ?_ ?_) | (with_reducible refine itet_to ?_) | (with_reducible refine itef_to ?_) | (with_reducible refine ite_to (fun _ => ?_) (fun _ => ?_))) <;> try (exfalso; omega)
      refine bind_to r2 ?_
      (try dsimp only); (repeat' first | (with_reducible refine G_to ?_ ?_; focus (first | omega | (unfold fits; omega) | (unfold room; (try simp only [List.length_append, List.length_cons, List.length_nil]); omega))) | (with_reducible refine both_to ?_ ?_) | (with_reducible refine itet_to ?_) | (with_reducible refine itef_to ?_) | (with_reducible refine ite_to (fun _ => ?_) (fun _ => ?_))) <;> try (exfalso; omega)
      all_goals first | (exfalso; exact absurd rfl ‹¬ res.1 = res.1›) | (exfalso; exact absurd rfl ‹¬ (0 : Int) = 0›) | simp
    · refine bind_to (two_Run_bad2 hm hl) ?_
      rw [hm]
      (try dsimp only); (repeat' first | (with_reducible refine G_to ?_ ?_; focus (first | omega | (unfold fits; omega) | (unfold room; (try simp only [List.length_append, List.length_cons, List.length_nil]); omega))) | (with_reducible refine both_to ?_ ?_) | (with_reducible refine itet_to ?_) | (with_reducible refine itef_to ?_) | (with_reducible refine ite_to (fun _ => ?_) (fun _ => ?_))) <;> try (exfalso; omega)
      refine bind_to r1_May_spec ?_
      unfold law_TwoRuns_J7
      rw [if_pos (decide_eq_true hl), if_pos (decide_eq_true rfl)]
      rfl
  · refine bind_to (two_Run_bad hm) ?_
    rw [if_neg (by simp), if_neg (by simpa using hm)]
    unfold law_TwoRuns_J7
    rw [if_pos (decide_eq_true hm), if_pos (decide_eq_true rfl)]
    rfl

end Go.Proofs.Ytjhgdnfkipchoaa.twoRunsW
