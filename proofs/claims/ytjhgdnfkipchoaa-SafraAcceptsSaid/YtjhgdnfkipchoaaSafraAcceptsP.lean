/- The law 'SafraAccepts' of the plain functions. -/
import Derived.Test.YtjhgdnfkipchoaaSafraAcceptsD
set_option maxHeartbeats 1000000
set_option maxRecDepth 20000
set_option linter.unusedSimpArgs false
set_option linter.unusedVariables false
namespace Go.Proofs.Ytjhgdnfkipchoaa.safraAcceptsW
open Go Go.Ab
theorem pigeon : ∀ (n : Nat) (g : Nat → Nat), (∀ i, i ≤ n → g i < n) → ∃ i j, i < j ∧ j ≤ n ∧ g i = g j
  | 0, g, h => absurd (h 0 (Nat.le_refl _)) (by omega)
  | n + 1, g, h => by
    by_cases he : ∃ i, i ≤ n ∧ g i = g (n + 1)
    · obtain ⟨i, h1, h2⟩ := he; exact ⟨i, n + 1, by omega, by omega, h2⟩
    · have hne : ∀ i, i ≤ n → g i ≠ g (n + 1) := fun i hi e => he ⟨i, hi, e⟩
      obtain ⟨i, j, h1, h2, h3⟩ := pigeon n (fun i => if g i < g (n + 1) then g i else g i - 1) (fun i hi => by
        have := h i (by omega); have := h (n + 1) (by omega); have := hne i hi
        show (if g i < g (n + 1) then g i else g i - 1) < n
        split <;> omega)
      refine ⟨i, j, h1, by omega, ?_⟩
      have a := hne i (by omega); have b := hne j (by omega)
      split at h3 <;> split at h3 <;> omega
def itn {A : Type} (f : A → A) : Nat → A → A
  | 0, q => q
  | k + 1, q => f (itn f k q)
theorem itn_add {A : Type} (f : A → A) (a : Nat) : ∀ (b : Nat) (q : A), itn f (a + b) q = itn f a (itn f b q) := by
  induction a with
  | zero => intro b q; rw [Nat.zero_add]; rfl
  | succ a ih => intro b q; rw [Nat.succ_add]; show f _ = f _; rw [ih]
theorem itn_succ {A : Type} (f : A → A) (k : Nat) (q : A) : itn f (k + 1) q = itn f k (f q) := itn_add f k 1 q
theorem itn_lt {f : Nat → Nat} {n : Nat} (hf : ∀ q, q < n → f q < n) {q : Nat} (hq : q < n) : ∀ k, itn f k q < n
  | 0 => hq
  | k + 1 => hf _ (itn_lt hf hq k)
/-- Behind n rounds one goes in a circle of at most n. -/
theorem circle {f : Nat → Nat} {n : Nat} (hf : ∀ q, q < n → f q < n) {q : Nat} (hq : q < n) : ∃ p, 0 < p ∧ p ≤ n ∧ itn f p (itn f n q) = itn f n q := by
  obtain ⟨i, j, h1, h2, h3⟩ := pigeon n (fun k => itn f k q) (fun i _ => itn_lt hf hq i)
  refine ⟨j - i, by omega, by omega, ?_⟩
  rw [← itn_add]
  have e1 : j - i + n = n - i + j := by omega
  have e2 : n = n - i + i := by omega
  rw [e1, itn_add]
  conv => rhs; rw [e2, itn_add]
  rw [h3]
theorem itn_mul {A : Type} {f : A → A} {p : Nat} {q : A} (h : itn f p q = q) : ∀ k, itn f (k * p) q = q
  | 0 => by rw [Nat.zero_mul]; rfl
  | k + 1 => by rw [Nat.succ_mul, itn_add, h, itn_mul h k]
theorem itn_mod {A : Type} {f : A → A} {p : Nat} {q : A} (h : itn f p q = q) (i : Nat) : itn f i q = itn f (i % p) q := by
  have : i = i % p + i / p * p := by rw [Nat.mul_comm]; exact (Nat.mod_add_div i p).symm
  conv => lhs; rw [this, itn_add, itn_mul h]
theorem circleI {f : Int → Int} {n : Nat} (hf : ∀ q : Int, 0 ≤ q → q < n → 0 ≤ f q ∧ f q < n) {q : Int} (h0 : 0 ≤ q) (hq : q < n) : ∃ p, 0 < p ∧ p ≤ n ∧ itn f p (itn f n q) = itn f n q := by
  have hr : ∀ k, 0 ≤ itn f k q ∧ itn f k q < n := by
    intro k
    induction k with
    | zero => exact ⟨h0, hq⟩
    | succ k ih => exact hf _ ih.1 ih.2
  obtain ⟨i, j, h1, h2, h3⟩ := pigeon n (fun k => (itn f k q).toNat) (fun i _ => by have := hr i; show (itn f i q).toNat < n; omega)
  have h3 : itn f i q = itn f j q := by have a := hr i; have b := hr j; have : (itn f i q).toNat = (itn f j q).toNat := h3; omega
  refine ⟨j - i, by omega, by omega, ?_⟩
  rw [← itn_add]
  have e1 : j - i + n = n - i + j := by omega
  have e2 : n = n - i + i := by omega
  rw [e1, itn_add]
  conv => rhs; rw [e2, itn_add]
  rw [h3]

/-- The answer is yes just if P. -/
def Tells (o : Option Bool) (P : Prop) : Prop := ∃ b, o = some b ∧ (b = true ↔ P)
theorem Tells.of {b : Bool} {P : Prop} (h : b = true ↔ P) : Tells (some b) P := ⟨b, rfl, h⟩
theorem Tells.dec {P Q : Prop} [Decidable P] (h : P ↔ Q) : Tells (some (decide P)) Q := ⟨_, rfl, by simpa using h⟩
theorem Tells.iff {o : Option Bool} {P Q : Prop} (h : Tells o P) (k : P ↔ Q) : Tells o Q := let ⟨b, h1, h2⟩ := h; ⟨b, h1, h2.trans k⟩
theorem Tells.eq {o : Option Bool} {P : Prop} [Decidable P] (h : Tells o P) : o = some (decide P) := by
  obtain ⟨b, rfl, hb⟩ := h
  by_cases hp : P
  · simp [hp, hb.2 hp]
  · have : b = false := by cases b; rfl; exact absurd (hb.1 rfl) hp
    simp [hp, this]
theorem Tells.to {R : Type} {o : Option Bool} {P : Prop} {k1 k2 x : Option R} (h : Tells o P) (h1 : P → k1 = x) (h2 : ¬ P → k2 = x) : (o.bind fun y => if y = true then k1 else k2) = x := by
  obtain ⟨b, rfl, hb⟩ := h
  refine bind_to rfl ?_
  cases b
  · exact h2 fun hp => by simpa using hb.2 hp
  · exact h1 (hb.1 rfl)
theorem Tells.bind {R : Type} {o : Option Bool} {P : Prop} {k : Bool → Option R} {x : Option R} (h : Tells o P) (h1 : ∀ b, (b = true ↔ P) → k b = x) : o.bind k = x := by
  obtain ⟨b, rfl, hb⟩ := h
  exact h1 b hb
section
variable {α C : Type} [Inhabited α]
theorem ex_ix {l : List α} {P : α → Prop} : (∃ x ∈ l, P x) ↔ ∃ i : Int, 0 ≤ i ∧ i < l.length ∧ P (ix l i) := by
  constructor
  · rintro ⟨x, hx, hp⟩
    obtain ⟨i, hi, rfl⟩ := List.mem_iff_getElem.1 hx
    refine ⟨i, by omega, by omega, ?_⟩
    rwa [ix_eq (by omega) (by omega)]
  · rintro ⟨i, h0, h1, hp⟩
    exact ⟨_, ix_mem h0 h1, hp⟩
theorem index_loop {s : List α} {f : α → Option Bool} {L : Int → Option Int} {P : α → Prop} (hs : s.length ≤ 4611686018427387904)
    (hL : ∀ t, L t = if decide (t < (s.length : Int)) = true then G (0 ≤ t ∧ t < (s.length : Int)) ((f (ix s t)).bind fun y => if y = true then some t else G (fits (t + 1)) (L (t + 1))) else some (-1))
    (hf : ∀ x ∈ s, Tells (f x) (P x)) : ∀ (n : Nat) (t : Int), 0 ≤ t → t ≤ s.length → (s.length - t).toNat = n →
      ∃ i, L t = some i ∧ ((i = -1 ∧ ∀ j : Int, t ≤ j → j < s.length → ¬ P (ix s j)) ∨ (t ≤ i ∧ i < s.length ∧ P (ix s i) ∧ ∀ j : Int, t ≤ j → j < i → ¬ P (ix s j))) := by
  intro n
  induction n with
  | zero =>
    intro t h0 h1 hn
    refine ⟨-1, ?_, .inl ⟨rfl, fun j a b => by omega⟩⟩
    rw [hL, if_neg (by simp; omega)]
  | succ n ih =>
    intro t h0 h1 hn
    rw [hL, if_pos (by simp; omega), G_pos (by omega)]
    obtain ⟨b, hb, hbp⟩ := hf _ (ix_mem h0 (by omega : t < s.length))
    rw [hb]
    cases b with
    | true => exact ⟨t, rfl, .inr ⟨by omega, by omega, hbp.1 rfl, fun j a b => by omega⟩⟩
    | false =>
      have hnp : ¬ P (ix s t) := fun hp => by simpa using hbp.2 hp
      obtain ⟨i, hi, hc⟩ := ih (t + 1) (by omega) (by omega) (by omega)
      refine ⟨i, ?_, ?_⟩
      · refine (if_neg (by simp) : (if false = true then some t else G (fits (t + 1)) (L (t + 1))) = _).trans ?_
        rw [G_pos (by unfold fits; omega), hi]
      · rcases hc with ⟨h2, h3⟩ | ⟨h2, h3, h4, h5⟩
        · refine .inl ⟨h2, fun j a b => ?_⟩
          by_cases e : j = t
          · rw [e]; exact hnp
          · exact h3 j (by omega) b
        · refine .inr ⟨by omega, h3, h4, fun j a b => ?_⟩
          by_cases e : j = t
          · rw [e]; exact hnp
          · exact h5 j (by omega) b
theorem contains_tells {s : List α} {f : α → Option Bool} {L : Int → Option Int} {P : α → Prop}
    (hL : ∀ t, L t = if decide (t < (s.length : Int)) = true then G (0 ≤ t ∧ t < (s.length : Int)) ((f (ix s t)).bind fun y => if y = true then some t else G (fits (t + 1)) (L (t + 1))) else some (-1))
    (hs : s.length ≤ 4611686018427387904) (hf : ∀ x ∈ s, Tells (f x) (P x)) : Tells ((L 0).bind fun y => some (decide ((0 : Int) ≤ y))) (∃ x ∈ s, P x) := by
  obtain ⟨i, hi, hc⟩ := index_loop hs hL hf _ 0 (by omega) (by omega) rfl
  rw [hi]
  refine ⟨decide (0 ≤ i), rfl, ?_⟩
  rw [decide_eq_true_iff, ex_ix]
  rcases hc with ⟨h2, h3⟩ | ⟨h2, h3, h4, h5⟩
  · constructor
    · intro h; omega
    · rintro ⟨j, h0, h1, hp⟩; exact absurd hp (h3 j h0 h1)
  · exact ⟨fun _ => ⟨i, by omega, h3, h4⟩, fun _ => by omega⟩
/-- .. of what carries along what it reads. -/
theorem contains_tells2 {s : List α} {c : C} {f : α → C → Option (Bool × C)} {L : Int → C → Option (Int × C)} {P : α → Prop}
    (hL : ∀ t c, L t c = if decide (t < (s.length : Int)) = true then G (0 ≤ t ∧ t < (s.length : Int)) ((f (ix s t) c).bind fun y => if y.1 = true then some (t, y.2) else G (fits (t + 1)) (L (t + 1) y.2)) else some (-1, c))
    (hs : s.length ≤ 4611686018427387904) (hf : ∀ x ∈ s, ∃ b, f x c = some (b, c) ∧ (b = true ↔ P x)) : ∃ b, ((L 0 c).bind fun y => some (decide ((0 : Int) ≤ y.1), y.2)) = some (b, c) ∧ (b = true ↔ ∃ x ∈ s, P x) := by
  have key : ∀ (n : Nat) (t : Int), 0 ≤ t → t ≤ s.length → (s.length - t).toNat = n →
      ∃ i, L t c = some (i, c) ∧ ((i = -1 ∧ ∀ j : Int, t ≤ j → j < s.length → ¬ P (ix s j)) ∨ (t ≤ i ∧ i < s.length ∧ P (ix s i))) := by
    intro n
    induction n with
    | zero =>
      intro t h0 h1 hn
      refine ⟨-1, ?_, .inl ⟨rfl, fun j a b => by omega⟩⟩
      rw [hL, if_neg (by simp; omega)]
    | succ n ih =>
      intro t h0 h1 hn
      rw [hL, if_pos (by simp; omega), G_pos (by omega)]
      obtain ⟨b, hb, hbp⟩ := hf _ (ix_mem h0 (by omega : t < s.length))
      rw [hb]
      cases b with
      | true => exact ⟨t, rfl, .inr ⟨by omega, by omega, hbp.1 rfl⟩⟩
      | false =>
        have hnp : ¬ P (ix s t) := fun hp => by simpa using hbp.2 hp
        obtain ⟨i, hi, hc⟩ := ih (t + 1) (by omega) (by omega) (by omega)
        refine ⟨i, ?_, ?_⟩
        · refine (if_neg (by simp) : (if false = true then some (t, c) else G (fits (t + 1)) (L (t + 1) c)) = _).trans ?_
          rw [G_pos (by unfold fits; omega), hi]
        · rcases hc with ⟨h2, h3⟩ | ⟨h2, h3, h4⟩
          · refine .inl ⟨h2, fun j a b => ?_⟩
            by_cases e : j = t
            · rw [e]; exact hnp
            · exact h3 j (by omega) b
          · exact .inr ⟨by omega, h3, h4⟩
  obtain ⟨i, hi, hc⟩ := key _ 0 (by omega) (by omega) rfl
  rw [hi]
  refine ⟨decide (0 ≤ i), rfl, ?_⟩
  rw [decide_eq_true_iff, ex_ix]
  rcases hc with ⟨h2, h3⟩ | ⟨h2, h3, h4⟩
  · constructor
    · intro h; omega
    · rintro ⟨j, h0, h1, hp⟩; exact absurd hp (h3 j h0 h1)
  · exact ⟨fun _ => ⟨i, by omega, h3, h4⟩, fun _ => by omega⟩
end
/-- A loop that looks for the first fault. -/
theorem scan_to {R : Type} {len : Int} {L : Int → Option R} {bad : Int → Prop} {x : Option R} {lo : Int} (h0 : lo ≤ len)
    (hs : ∀ t, lo ≤ t → t < len → (bad t → L t = x) ∧ (¬ bad t → L t = L (t + 1))) (hf : (∀ t, lo ≤ t → t < len → ¬ bad t) → L len = x) : L lo = x := by
  have key : ∀ (n : Nat) (t : Int), lo ≤ t → t ≤ len → (len - t).toNat = n → (∀ j, lo ≤ j → j < t → ¬ bad j) → L t = x := by
    intro n
    induction n with
    | zero =>
      intro t h1 h2 hn h
      obtain rfl : t = len := by omega
      exact hf h
    | succ n ih =>
      intro t h1 h2 hn h
      by_cases hb : bad t
      · exact (hs t h1 (by omega)).1 hb
      · rw [(hs t h1 (by omega)).2 hb]
        refine ih (t + 1) (by omega) (by omega) (by omega) fun j a b => ?_
        by_cases e : j = t
        · rw [e]; exact hb
        · exact h j a (by omega)
  exact key _ lo (Int.le_refl _) h0 rfl (fun j a b => by omega)
/-- A loop that counts, with a state. -/
theorem fold_to {R S : Type} {len : Int} {L : Int → S → Option R} {f : Int → S → S} {lo : Int} {I : Int → S → Prop} {s : S} (h0 : lo ≤ len) (hI : I lo s)
    (hs : ∀ t s, lo ≤ t → t < len → I t s → L t s = L (t + 1) (f t s) ∧ I (t + 1) (f t s)) : ∃ s', I len s' ∧ L lo s = L len s' := by
  have key : ∀ (n : Nat) (t : Int) (s : S), lo ≤ t → t ≤ len → (len - t).toNat = n → I t s → ∃ s', I len s' ∧ L t s = L len s' := by
    intro n
    induction n with
    | zero =>
      intro t s h1 h2 hn h
      obtain rfl : t = len := by omega
      exact ⟨s, h, rfl⟩
    | succ n ih =>
      intro t s h1 h2 hn h
      obtain ⟨e, h3⟩ := hs t s h1 (by omega) h
      obtain ⟨s', h4, h5⟩ := ih (t + 1) _ (by omega) (by omega) (by omega) h3
      exact ⟨s', h4, e.trans h5⟩
  exact key _ lo s (Int.le_refl _) h0 rfl hI

theorem r1_May_L6_spec {letters : Int} {w : List Int} (hL : 1 ≤ letters ∧ letters ≤ 4) (hw : w.length ≤ (60 : Int)) : ∀ (n : Nat) (i : Int), 0 ≤ i → i ≤ w.length → (w.length - i).toNat = n → (∀ j : Int, 0 ≤ j → j < i → 0 ≤ ix w j ∧ ix w j < letters) → r1_May_L6 letters w i = some (mayE letters w) := by
  intro n
  induction n with
  | zero =>
    intro i h0 h1 hn h
    rw [r1_May_L6_eq]; unfold r1_May_L6_B
    (try dsimp only); (repeat' first | (with_reducible refine G_to ?_ ?_; focus (first | omega | (unfold fits; omega) | (unfold room; (try simp only [List.length_append, List.length_cons, List.length_nil]); omega))) | (with_reducible refine both_to ?_ ?_) | (with_reducible refine itet_to ?_) | (with_reducible refine itef_to ?_) | (with_reducible refine ite_to (fun _ => ?_) (fun _ => ?_))) <;> try (exfalso; omega)
    · rw [mayE_ok hL hw (fun j a b => h j a (by omega))]
  | succ n ih =>
    intro i h0 h1 hn h
    rw [r1_May_L6_eq]; unfold r1_May_L6_B
    (try dsimp only); (repeat' first | (with_reducible refine G_to ?_ ?_; focus (first | omega | (unfold fits; omega) | (unfold room; (try simp only [List.length_append, List.length_cons, List.length_nil]); omega))) | (with_reducible refine both_to ?_ ?_) | (with_reducible refine itet_to ?_) | (with_reducible refine itef_to ?_) | (with_reducible refine ite_to (fun _ => ?_) (fun _ => ?_))) <;> try (exfalso; omega)
    · rw [mayE_bad hL hw (i := i) (by omega) (by omega)]
    · rw [mayE_bad hL hw (i := i) (by omega) (by omega)]
    · exact ih _ (by omega) (by omega) (by omega) (below_succ h (by omega))
theorem r1_May_spec {letters : Int} {w : List Int} : r1_May letters w = some (mayE letters w) := by
  unfold r1_May
  (try dsimp only); (repeat' first | (with_reducible refine G_to ?_ ?_; focus (first | omega | (unfold fits; omega) | (unfold room; (try simp only [List.length_append, List.length_cons, List.length_nil]); omega))) | (with_reducible refine both_to ?_ ?_) | (with_reducible refine itet_to ?_) | (with_reducible refine itef_to ?_) | (with_reducible refine ite_to (fun _ => ?_) (fun _ => ?_))) <;> try (exfalso; omega)
  · rw [mayE_range (by omega)]
  · rw [mayE_range (by omega)]
  · rw [mayE_size (by omega) (by omega)]
  · exact r1_May_L6_spec (by omega) (by omega) _ 0 (by omega) (by omega) rfl (fun j a b => by omega)

theorem word_May_L6_spec {letters : Int} {w : List Int} (hL : 1 ≤ letters ∧ letters ≤ 4) (hw : w.length ≤ (60 : Int)) : ∀ (n : Nat) (i : Int), 0 ≤ i → i ≤ w.length → (w.length - i).toNat = n → (∀ j : Int, 0 ≤ j → j < i → 0 ≤ ix w j ∧ ix w j < letters) → word_May_L6 letters w i = some (mayE letters w) := by
  intro n
  induction n with
  | zero =>
    intro i h0 h1 hn h
    rw [word_May_L6_eq]; unfold word_May_L6_B
    (try dsimp only); (repeat' first | (with_reducible refine G_to ?_ ?_; focus (first | omega | (unfold fits; omega) | (unfold room; (try simp only [List.length_append, List.length_cons, List.length_nil]); omega))) | (with_reducible refine both_to ?_ ?_) | (with_reducible refine itet_to ?_) | (with_reducible refine itef_to ?_) | (with_reducible refine ite_to (fun _ => ?_) (fun _ => ?_))) <;> try (exfalso; omega)
    · rw [mayE_ok hL hw (fun j a b => h j a (by omega))]
  | succ n ih =>
    intro i h0 h1 hn h
    rw [word_May_L6_eq]; unfold word_May_L6_B
    (try dsimp only); (repeat' first | (with_reducible refine G_to ?_ ?_; focus (first | omega | (unfold fits; omega) | (unfold room; (try simp only [List.length_append, List.length_cons, List.length_nil]); omega))) | (with_reducible refine both_to ?_ ?_) | (with_reducible refine itet_to ?_) | (with_reducible refine itef_to ?_) | (with_reducible refine ite_to (fun _ => ?_) (fun _ => ?_))) <;> try (exfalso; omega)
    · rw [mayE_bad hL hw (i := i) (by omega) (by omega)]
    · rw [mayE_bad hL hw (i := i) (by omega) (by omega)]
    · exact ih _ (by omega) (by omega) (by omega) (below_succ h (by omega))
theorem word_May_spec {letters : Int} {w : List Int} : word_May letters w = some (mayE letters w) := by
  unfold word_May
  (try dsimp only); (repeat' first | (with_reducible refine G_to ?_ ?_; focus (first | omega | (unfold fits; omega) | (unfold room; (try simp only [List.length_append, List.length_cons, List.length_nil]); omega))) | (with_reducible refine both_to ?_ ?_) | (with_reducible refine itet_to ?_) | (with_reducible refine itef_to ?_) | (with_reducible refine ite_to (fun _ => ?_) (fun _ => ?_))) <;> try (exfalso; omega)
  · rw [mayE_range (by omega)]
  · rw [mayE_range (by omega)]
  · rw [mayE_size (by omega) (by omega)]
  · exact word_May_L6_spec (by omega) (by omega) _ 0 (by omega) (by omega) rfl (fun j a b => by omega)

noncomputable def lasE (letters : Int) (l : List Int × List Int × Unit) : Int := if mayE letters l.1 = 0 then (if mayE letters l.2.1 = 0 then (if l.2.1.length = 0 then 1 else 0) else mayE letters l.2.1) else mayE letters l.1
theorem r1_Lasso_spec {letters : Int} {l : List Int × List Int × Unit} : r1_Lasso letters l = some (lasE letters l) := by
  unfold r1_Lasso lasE
  refine bind_to r1_May_spec ?_
  by_cases h1 : mayE letters l.1 = 0
  · rw [if_pos h1, if_neg (by simp [h1])]
    refine bind_to r1_May_spec ?_
    by_cases h2 : mayE letters l.2.1 = 0
    · rw [if_pos h2, if_neg (by simp [h2])]
      by_cases h3 : l.2.1.length = 0
      · rw [if_pos (by simp [h3]), if_pos h3]
      · rw [if_neg (by simp only [decide_eq_true_eq]; omega), if_neg h3]
    · rw [if_neg h2, if_pos (by simp [h2])]
  · rw [if_neg h1, if_pos (by simp [h1])]
theorem word_Lasso_spec {letters : Int} {l : List Int × List Int × Unit} : word_Lasso letters l = some (lasE letters l) := by
  unfold word_Lasso lasE
  rw [word_Lasso_L2_eq]; unfold word_Lasso_L2_B
  rw [if_pos (by decide), G_pos (by decide)]
  refine bind_to word_May_spec ?_
  have e0 : vget (.list (.int .i64)) 2 (l.1, (l.2.1, ())) (0 : Int).toNat = l.1 := rfl
  have e1 : vget (.list (.int .i64)) 2 (l.1, (l.2.1, ())) ((0 : Int) + 1).toNat = l.2.1 := rfl
  rw [e0]
  by_cases h1 : mayE letters l.1 = 0
  · rw [if_pos h1, if_neg (by simp [h1]), G_pos (by unfold fits; omega), word_Lasso_L2_eq]; unfold word_Lasso_L2_B
    rw [if_pos (by decide), G_pos (by decide), e1]
    refine bind_to word_May_spec ?_
    by_cases h2 : mayE letters l.2.1 = 0
    · rw [if_pos h2, if_neg (by simp [h2]), G_pos (by unfold fits; omega), word_Lasso_L2_eq]; unfold word_Lasso_L2_B
      rw [if_neg (by decide)]
      by_cases h3 : l.2.1.length = 0
      · rw [if_pos (by simp [h3]), if_pos h3]
      · rw [if_neg (by simp only [decide_eq_true_eq]; omega), if_neg h3]
    · rw [if_neg h2, if_pos (by simp [h2])]
  · rw [if_neg h1, if_pos (by simp [h1])]
theorem lasE_zero {letters : Int} {l : List Int × List Int × Unit} (h : lasE letters l = 0) : mayE letters l.1 = 0 ∧ mayE letters l.2.1 = 0 ∧ 0 < l.2.1.length := by
  unfold lasE at h
  by_cases h1 : mayE letters l.1 = 0
  · rw [if_pos h1] at h
    by_cases h2 : mayE letters l.2.1 = 0
    · rw [if_pos h2] at h
      by_cases h3 : l.2.1.length = 0
      · rw [if_pos h3] at h; omega
      · exact ⟨h1, h2, by omega⟩
    · rw [if_neg h2] at h; exact absurd h h2
  · rw [if_neg h1] at h; exact absurd h h1

/-- A walk over a table. -/
def stp (N : List (List Int)) (q a : Int) : Int := ix (ix N q) a
def wlk (N : List (List Int)) (q : Int) (w : List Int) : Int := w.foldl (stp N) q
/-- The places come by. -/
def trc (N : List (List Int)) : Int → List Int → List Int
  | _, [] => []
  | q, a :: w => stp N q a :: trc N (stp N q a) w
/-- A table of so many letters. -/
structure Tab (L : Int) (N : List (List Int)) : Prop where
  row : ∀ r ∈ N, (r.length : Int) = L
  to : ∀ r ∈ N, ∀ q ∈ r, 0 ≤ q ∧ q < N.length
theorem Tab.stpb {L : Int} {N : List (List Int)} (h : Tab L N) {q a : Int} (q0 : 0 ≤ q) (q1 : q < N.length) (a0 : 0 ≤ a) (a1 : a < L) : 0 ≤ stp N q a ∧ stp N q a < N.length := by
  have h1 := ix_mem q0 q1
  have h2 := h.row _ h1
  exact h.to _ h1 _ (ix_mem a0 (by omega))
theorem Tab.rowlen {L : Int} {N : List (List Int)} (h : Tab L N) {q : Int} (q0 : 0 ≤ q) (q1 : q < N.length) : ((ix N q).length : Int) = L := h.row _ (ix_mem q0 q1)
theorem Tab.wlkb {L : Int} {N : List (List Int)} (h : Tab L N) : ∀ {w : List Int} {q : Int}, 0 ≤ q → q < N.length → (∀ a ∈ w, 0 ≤ a ∧ a < L) → 0 ≤ wlk N q w ∧ wlk N q w < N.length
  | [], q, q0, q1, _ => ⟨q0, q1⟩
  | a :: w, q, q0, q1, hw => by
    have := h.stpb q0 q1 (hw a (by simp)).1 (hw a (by simp)).2
    exact Tab.wlkb h (q := stp N q a) (w := w) this.1 this.2 (fun b hb => hw b (by simp [hb]))
theorem Tab.trcb {L : Int} {N : List (List Int)} (h : Tab L N) : ∀ {w : List Int} {q : Int}, 0 ≤ q → q < N.length → (∀ a ∈ w, 0 ≤ a ∧ a < L) → ∀ p ∈ trc N q w, 0 ≤ p ∧ p < N.length
  | [], q, q0, q1, _, p, hp => by cases hp
  | a :: w, q, q0, q1, hw, p, hp => by
    have := h.stpb q0 q1 (hw a (by simp)).1 (hw a (by simp)).2
    rcases List.mem_cons.1 hp with rfl | hp
    · exact this
    · exact Tab.trcb h this.1 this.2 (fun b hb => hw b (by simp [hb])) p hp

theorem det_After_spec {d : Int × Int × List (List Int) × List Int × Unit} {L : Int} (h : Tab L d.2.2.1) {w : List Int} (hw : ∀ a ∈ w, 0 ≤ a ∧ a < L) (hl : w.length ≤ 1000000) {q : Int} (q0 : 0 ≤ q) (q1 : q < d.2.2.1.length) : det_After d q w = some (wlk d.2.2.1 q w) := by
  have key : ∀ (n : Nat) (t q : Int), (w.length - t).toNat = n → 0 ≤ t → t ≤ w.length → 0 ≤ q → q < d.2.2.1.length → det_After_L2 d w q t = some (wlk d.2.2.1 q (w.drop t.toNat)) := by
    intro n
    induction n with
    | zero =>
      intro t q hn h0 h1 q0 q1
      rw [det_After_L2_eq]; unfold det_After_L2_B
      (try dsimp only); (repeat' first | (with_reducible refine G_to ?_ ?_; focus (first | omega | (unfold fits; omega) | (unfold room; (try simp only [List.length_append, List.length_cons, List.length_nil]); omega))) | (with_reducible refine both_to ?_ ?_) | (with_reducible refine itet_to ?_) | (with_reducible refine itef_to ?_) | (with_reducible refine ite_to (fun _ => ?_) (fun _ => ?_))) <;> try (exfalso; omega)
      rw [List.drop_of_length_le (by omega)]; rfl
    | succ n ih =>
      intro t q hn h0 h1 q0 q1
      have ha := hw _ (ix_mem h0 (by omega : t < w.length))
      have hr := h.rowlen q0 q1
      have hs := h.stpb q0 q1 ha.1 ha.2
      rw [det_After_L2_eq]; unfold det_After_L2_B
      (try dsimp only); (repeat' first | (with_reducible refine G_to ?_ ?_; focus (first | omega | (unfold fits; omega) | (unfold room; (try simp only [List.length_append, List.length_cons, List.length_nil]); omega))) | (with_reducible refine both_to ?_ ?_) | (with_reducible refine itet_to ?_) | (with_reducible refine itef_to ?_) | (with_reducible refine ite_to (fun _ => ?_) (fun _ => ?_))) <;> try (exfalso; omega)
      rw [ix_drop h0 (by omega)]
      exact ih (t + 1) _ (by omega) (by omega) (by omega) hs.1 hs.2
  exact key _ 0 q rfl (by omega) (by omega) q0 q1

theorem r3_After_spec {d : Int × Int × List (List Int) × List Int × Unit} {L : Int} (h : Tab L d.2.2.1) {w : List Int} (hw : ∀ a ∈ w, 0 ≤ a ∧ a < L) (hl : w.length ≤ 1000000) {q : Int} (q0 : 0 ≤ q) (q1 : q < d.2.2.1.length) : r3_After d q w = some (wlk d.2.2.1 q w) := by
  have key : ∀ (n : Nat) (t q : Int), (w.length - t).toNat = n → 0 ≤ t → t ≤ w.length → 0 ≤ q → q < d.2.2.1.length → r3_After_L2 d w q t = some (wlk d.2.2.1 q (w.drop t.toNat)) := by
    intro n
    induction n with
    | zero =>
      intro t q hn h0 h1 q0 q1
      rw [r3_After_L2_eq]; unfold r3_After_L2_B
      (try dsimp only); (repeat' first | (with_reducible refine G_to ?_ ?_; focus (first | omega | (unfold fits; omega) | (unfold room; (try simp only [List.length_append, List.length_cons, List.length_nil]); omega))) | (with_reducible refine both_to ?_ ?_) | (with_reducible refine itet_to ?_) | (with_reducible refine itef_to ?_) | (with_reducible refine ite_to (fun _ => ?_) (fun _ => ?_))) <;> try (exfalso; omega)
      rw [List.drop_of_length_le (by omega)]; rfl
    | succ n ih =>
      intro t q hn h0 h1 q0 q1
      have ha := hw _ (ix_mem h0 (by omega : t < w.length))
      have hr := h.rowlen q0 q1
      have hs := h.stpb q0 q1 ha.1 ha.2
      rw [r3_After_L2_eq]; unfold r3_After_L2_B
      (try dsimp only); (repeat' first | (with_reducible refine G_to ?_ ?_; focus (first | omega | (unfold fits; omega) | (unfold room; (try simp only [List.length_append, List.length_cons, List.length_nil]); omega))) | (with_reducible refine both_to ?_ ?_) | (with_reducible refine itet_to ?_) | (with_reducible refine itef_to ?_) | (with_reducible refine ite_to (fun _ => ?_) (fun _ => ?_))) <;> try (exfalso; omega)
      rw [ix_drop h0 (by omega)]
      exact ih (t + 1) _ (by omega) (by omega) (by omega) hs.1 hs.2
  exact key _ 0 q rfl (by omega) (by omega) q0 q1

abbrev Dt := Int × Int × (List (List Int)) × (List Int) × Unit
def DBig (mx : Int) (d : Dt) : Prop := d.2.2.1.length < 1 ∨ mx < d.2.2.1.length
def DRag (d : Dt) : Prop := ¬ (d.2.2.2.1.length : Int) = d.2.2.1.length ∨ ∃ r ∈ d.2.2.1, ¬ (r.length : Int) = d.1
def DOut (mb : Int → Prop) (d : Dt) : Prop := (d.2.1 < 0 ∨ (d.2.2.1.length : Int) ≤ d.2.1) ∨ (∃ r ∈ d.2.2.1, ∃ q ∈ r, q < 0 ∨ (d.2.2.1.length : Int) ≤ q) ∨ (∃ s ∈ d.2.2.2.1, mb s)
open Classical in
/-- What is wrong with an automaton of at most so many states, with such marks. -/
noncomputable def detE (mx : Int) (mb : Int → Prop) (d : Dt) : Int := if d.1 < 1 ∨ 4 < d.1 then 2 else if DBig mx d then 1 else if DRag d then 3 else if DOut mb d then 2 else 0
structure DOk (mx : Int) (mb : Int → Prop) (d : Dt) : Prop where
  let1 : 1 ≤ d.1 ∧ d.1 ≤ 4
  n1 : 1 ≤ d.2.2.1.length ∧ (d.2.2.1.length : Int) ≤ mx
  st : 0 ≤ d.2.1 ∧ d.2.1 < d.2.2.1.length
  mkl : (d.2.2.2.1.length : Int) = d.2.2.1.length
  mok : ∀ s ∈ d.2.2.2.1, ¬ mb s
  tab : Tab d.1 d.2.2.1
theorem detE_zero {mx : Int} {mb : Int → Prop} {d : Dt} (h : detE mx mb d = 0) : DOk mx mb d := by
  unfold detE at h
  by_cases c1 : d.1 < 1 ∨ 4 < d.1
  · rw [if_pos c1] at h; omega
  rw [if_neg c1] at h
  by_cases c2 : DBig mx d
  · rw [if_pos c2] at h; omega
  rw [if_neg c2] at h
  by_cases c3 : DRag d
  · rw [if_pos c3] at h; omega
  rw [if_neg c3] at h
  by_cases c4 : DOut mb d
  · rw [if_pos c4] at h; omega
  unfold DBig at c2; unfold DRag at c3; unfold DOut at c4
  refine ⟨by omega, by omega, ?_, ?_, fun s hs hm => c4 (.inr (.inr ⟨s, hs, hm⟩)), fun r hr => ?_, fun r hr q hq => ?_⟩
  · have : ¬ (d.2.1 < 0 ∨ (d.2.2.1.length : Int) ≤ d.2.1) := fun h => c4 (.inl h)
    omega
  · exact Decidable.not_not.1 fun h => c3 (.inl h)
  · by_cases e : (r.length : Int) = d.1
    · exact e
    · exact absurd (.inr ⟨r, hr, e⟩) c3
  · have : ¬ (q < 0 ∨ (d.2.2.1.length : Int) ≤ q) := fun h => c4 (.inr (.inl ⟨r, hr, q, hq, h⟩))
    omega

theorem safra_mk (m : Int) : Tells (safra_Check_4 m) (m < 0 ∨ 9 < m) := by
  unfold safra_Check_4
  by_cases h : m < 0
  · rw [if_pos (decide_eq_true h)]; exact Tells.of (by simp [h])
  · rw [if_neg (by simpa using h)]; exact Tells.dec (by omega)
abbrev badM (m : Int) : Prop := m < 0 ∨ 9 < m
theorem safra_Check_spec {d : Dt} : safra_Check d = some (detE 20000 badM d) := by
  unfold safra_Check detE
  by_cases c1 : d.1 < 1 ∨ 4 < d.1
  · rw [if_pos c1]
    (try dsimp only); (repeat' first | (with_reducible refine G_to ?_ ?_; focus (first | omega | (unfold fits; omega) | (unfold room; (try simp only [List.length_append, List.length_cons, List.length_nil]); omega))) | (with_reducible refine both_to ?_ ?_) | (with_reducible refine itet_to ?_) | (with_reducible refine itef_to ?_) | (with_reducible refine ite_to (fun _ => ?_) (fun _ => ?_))) <;> try (exfalso; omega)
    all_goals rfl
  rw [if_neg c1]
  by_cases c2 : DBig 20000 d
  · rw [if_pos c2]; unfold DBig at c2
    (try dsimp only); (repeat' first | (with_reducible refine G_to ?_ ?_; focus (first | omega | (unfold fits; omega) | (unfold room; (try simp only [List.length_append, List.length_cons, List.length_nil]); omega))) | (with_reducible refine both_to ?_ ?_) | (with_reducible refine itet_to ?_) | (with_reducible refine itef_to ?_) | (with_reducible refine ite_to (fun _ => ?_) (fun _ => ?_))) <;> try (exfalso; omega)
    all_goals rfl
  rw [if_neg c2]
  unfold DBig at c2
  by_cases c3 : (d.2.2.2.1.length : Int) = d.2.2.1.length
  case neg =>
    rw [if_pos (show DRag d from .inl c3)]
    (try dsimp only); (repeat' first | (with_reducible refine G_to ?_ ?_; focus (first | omega | (unfold fits; omega) | (unfold room; (try simp only [List.length_append, List.length_cons, List.length_nil]); omega))) | (with_reducible refine both_to ?_ ?_) | (with_reducible refine itet_to ?_) | (with_reducible refine itef_to ?_) | (with_reducible refine ite_to (fun _ => ?_) (fun _ => ?_))) <;> try (exfalso; omega)
    all_goals rfl
  (try dsimp only); (repeat' first | (with_reducible refine G_to ?_ ?_; focus (first | omega | (unfold fits; omega) | (unfold room; (try simp only [List.length_append, List.length_cons, List.length_nil]); omega))) | (with_reducible refine both_to ?_ ?_) | (with_reducible refine itet_to ?_) | (with_reducible refine itef_to ?_) | (with_reducible refine ite_to (fun _ => ?_) (fun _ => ?_))) <;> try (exfalso; omega)
  have k1 : Tells (slices_ContainsFunc d.2.2.1 d) (∃ r ∈ d.2.2.1, ¬ (r.length : Int) = d.1) := contains_tells (f := fun r => safra_Check_1 r d) (slices_IndexFunc_L2_eq d.2.2.1 d) (by omega) (fun x _ => Tells.dec Iff.rfl)
  have nn : ∀ q t : Int, Tells (safra_Check_2 q t) (q < 0 ∨ t ≤ q) := fun q t => by
    unfold safra_Check_2
    by_cases h : q < 0
    · rw [if_pos (decide_eq_true h)]; exact Tells.of (by simp [h])
    · rw [if_neg (by simpa using h)]; exact Tells.dec (by omega)
  have k2 : ∀ r ∈ d.2.2.1, r.length ≤ 1000 → Tells (slices_ContainsFunc_2 r (d.2.2.1.length : Int)) (∃ q ∈ r, q < 0 ∨ (d.2.2.1.length : Int) ≤ q) := fun r _ hr => contains_tells (f := fun q => safra_Check_2 q (d.2.2.1.length : Int)) (slices_IndexFunc_2_L2_eq r (d.2.2.1.length : Int)) (by omega) (fun x _ => nn x _)
  have k4 : Tells (slices_ContainsFunc_3 d.2.2.2.1) (∃ s ∈ d.2.2.2.1, (badM) s) := contains_tells (f := fun q => safra_Check_4 q) (slices_IndexFunc_3_L2_eq d.2.2.2.1) (by omega) (fun x _ => safra_mk x)
  refine k1.to (fun h => by rw [if_pos (show DRag d from .inr h)]) (fun h => ?_)
  rw [if_neg (show ¬ DRag d from fun hh => hh.elim (fun e => e c3) h)]
  have hr : ∀ r ∈ d.2.2.1, r.length ≤ 1000 := fun r hr => by
    by_cases e : (r.length : Int) = d.1
    · omega
    · exact absurd ⟨r, hr, e⟩ h
  refine (nn _ _).to (fun h => by rw [if_pos (show DOut _ d from .inl h)]) (fun h1 => ?_)
  obtain ⟨b, hb, hb2⟩ : ∃ b, slices_ContainsFunc_1 d.2.2.1 (d.2.2.1.length : Int) = some (b, (d.2.2.1.length : Int)) ∧ (b = true ↔ ∃ r ∈ d.2.2.1, ∃ q ∈ r, q < 0 ∨ (d.2.2.1.length : Int) ≤ q) :=
    contains_tells2 (f := safra_Check_3) (slices_IndexFunc_1_L2_eq d.2.2.1) (by omega) (fun r hrm => by
      obtain ⟨b, e, e2⟩ := k2 r hrm (hr r hrm)
      exact ⟨b, by unfold safra_Check_3; rw [e]; rfl, e2⟩)
  rw [hb]
  refine bind_to rfl ?_
  refine iteb_to (fun h => by rw [if_pos (show DOut _ d from .inr (.inl (hb2.1 h)))]) (fun h2 => ?_)
  refine k4.to (fun h => by rw [if_pos (show DOut _ d from .inr (.inr h))]) (fun h3 => ?_)
  rw [if_neg (show ¬ DOut _ d from fun h => h.elim h1 (fun h => h.elim (fun h => by rw [hb2.2 h] at h2; cases h2) h3))]

theorem r9_Check_spec {d : Dt} : r9_Check d = some (detE 20000 badM d) := by
  unfold r9_Check detE
  by_cases c1 : d.1 < 1 ∨ 4 < d.1
  · rw [if_pos c1]
    (try dsimp only); (repeat' first | (with_reducible refine G_to ?_ ?_; focus (first | omega | (unfold fits; omega) | (unfold room; (try simp only [List.length_append, List.length_cons, List.length_nil]); omega))) | (with_reducible refine both_to ?_ ?_) | (with_reducible refine itet_to ?_) | (with_reducible refine itef_to ?_) | (with_reducible refine ite_to (fun _ => ?_) (fun _ => ?_))) <;> try (exfalso; omega)
    all_goals rfl
  rw [if_neg c1]
  by_cases c2 : DBig 20000 d
  · rw [if_pos c2]; unfold DBig at c2
    (try dsimp only); (repeat' first | (with_reducible refine G_to ?_ ?_; focus (first | omega | (unfold fits; omega) | (unfold room; (try simp only [List.length_append, List.length_cons, List.length_nil]); omega))) | (with_reducible refine both_to ?_ ?_) | (with_reducible refine itet_to ?_) | (with_reducible refine itef_to ?_) | (with_reducible refine ite_to (fun _ => ?_) (fun _ => ?_))) <;> try (exfalso; omega)
    all_goals rfl
  rw [if_neg c2]
  unfold DBig at c2
  by_cases c3 : (d.2.2.2.1.length : Int) = d.2.2.1.length
  case neg =>
    rw [if_pos (show DRag d from .inl c3)]
    (try dsimp only); (repeat' first | (with_reducible refine G_to ?_ ?_; focus (first | omega | (unfold fits; omega) | (unfold room; (try simp only [List.length_append, List.length_cons, List.length_nil]); omega))) | (with_reducible refine both_to ?_ ?_) | (with_reducible refine itet_to ?_) | (with_reducible refine itef_to ?_) | (with_reducible refine ite_to (fun _ => ?_) (fun _ => ?_))) <;> try (exfalso; omega)
    all_goals rfl
  (try dsimp only); (repeat' first | (with_reducible refine G_to ?_ ?_; focus (first | omega | (unfold fits; omega) | (unfold room; (try simp only [List.length_append, List.length_cons, List.length_nil]); omega))) | (with_reducible refine both_to ?_ ?_) | (with_reducible refine itet_to ?_) | (with_reducible refine itef_to ?_) | (with_reducible refine ite_to (fun _ => ?_) (fun _ => ?_))) <;> try (exfalso; omega)
  refine scan_to (len := (d.2.2.1.length : Int)) (bad := fun t => ¬ ((ix d.2.2.1 t).length : Int) = d.1) (by omega) (fun t h0 h1 => ⟨fun hb => ?_, fun hb => ?_⟩) (fun hh => ?_)
  · rw [r9_Check_L9_eq]; unfold r9_Check_L9_B
    (try dsimp only); (repeat' first | (with_reducible refine G_to ?_ ?_; focus (first | omega | (unfold fits; omega) | (unfold room; (try simp only [List.length_append, List.length_cons, List.length_nil]); omega))) | (with_reducible refine both_to ?_ ?_) | (with_reducible refine itet_to ?_) | (with_reducible refine itef_to ?_) | (with_reducible refine ite_to (fun _ => ?_) (fun _ => ?_))) <;> try (exfalso; omega)
    rw [if_pos (show DRag d from .inr (ex_ix.2 ⟨t, by omega, by omega, hb⟩))]
  · conv => lhs; rw [r9_Check_L9_eq]; unfold r9_Check_L9_B
    (try dsimp only); (repeat' first | (with_reducible refine G_to ?_ ?_; focus (first | omega | (unfold fits; omega) | (unfold room; (try simp only [List.length_append, List.length_cons, List.length_nil]); omega))) | (with_reducible refine both_to ?_ ?_) | (with_reducible refine itet_to ?_) | (with_reducible refine itef_to ?_) | (with_reducible refine ite_to (fun _ => ?_) (fun _ => ?_))) <;> try (exfalso; omega)
    all_goals first | rfl | (exfalso; exact hb ‹_›) | (exfalso; exact absurd ‹_› hb)
  rw [if_neg (show ¬ DRag d from fun h => h.elim (fun e => e c3) (fun h => by obtain ⟨i, i0, i1, i2⟩ := ex_ix.1 h; exact hh i i0 i1 i2))]
  rw [r9_Check_L9_eq]; unfold r9_Check_L9_B
  by_cases c4 : d.2.1 < 0 ∨ (d.2.2.1.length : Int) ≤ d.2.1
  · rw [if_pos (show DOut _ d from .inl c4)]
    (try dsimp only); (repeat' first | (with_reducible refine G_to ?_ ?_; focus (first | omega | (unfold fits; omega) | (unfold room; (try simp only [List.length_append, List.length_cons, List.length_nil]); omega))) | (with_reducible refine both_to ?_ ?_) | (with_reducible refine itet_to ?_) | (with_reducible refine itef_to ?_) | (with_reducible refine ite_to (fun _ => ?_) (fun _ => ?_))) <;> try (exfalso; omega)
    all_goals rfl
  (try dsimp only); (repeat' first | (with_reducible refine G_to ?_ ?_; focus (first | omega | (unfold fits; omega) | (unfold room; (try simp only [List.length_append, List.length_cons, List.length_nil]); omega))) | (with_reducible refine both_to ?_ ?_) | (with_reducible refine itet_to ?_) | (with_reducible refine itef_to ?_) | (with_reducible refine ite_to (fun _ => ?_) (fun _ => ?_))) <;> try (exfalso; omega)
  have hlen : ∀ t : Int, 0 ≤ t → t < d.2.2.1.length → ((ix d.2.2.1 t).length : Int) = d.1 := fun t a b => Decidable.not_not.1 (hh t a b)
  refine scan_to (len := (d.2.2.1.length : Int)) (bad := fun t => ∃ q ∈ ix d.2.2.1 t, q < 0 ∨ (d.2.2.1.length : Int) ≤ q) (by omega) (fun t h0 h1 => ⟨fun hb => ?_, fun hb => ?_⟩) (fun hh2 => ?_)
  · rw [r9_Check_L16_eq]; unfold r9_Check_L16_B
    (try dsimp only); (repeat' first | (with_reducible refine G_to ?_ ?_; focus (first | omega | (unfold fits; omega) | (unfold room; (try simp only [List.length_append, List.length_cons, List.length_nil]); omega))) | (with_reducible refine both_to ?_ ?_) | (with_reducible refine itet_to ?_) | (with_reducible refine itef_to ?_) | (with_reducible refine ite_to (fun _ => ?_) (fun _ => ?_))) <;> try (exfalso; omega)
    have hlt := hlen t h0 h1
    refine scan_to (len := d.1) (bad := fun a => ix (ix d.2.2.1 t) a < 0 ∨ (d.2.2.1.length : Int) ≤ ix (ix d.2.2.1 t) a) (by omega) (fun a a0 a1 => ⟨fun hb => ?_, fun hb => ?_⟩) (fun hh3 => ?_)
    · rw [r9_Check_L19_eq]; unfold r9_Check_L19_B
      (try dsimp only); (repeat' first | (with_reducible refine G_to ?_ ?_; focus (first | omega | (unfold fits; omega) | (unfold room; (try simp only [List.length_append, List.length_cons, List.length_nil]); omega))) | (with_reducible refine both_to ?_ ?_) | (with_reducible refine itet_to ?_) | (with_reducible refine itef_to ?_) | (with_reducible refine ite_to (fun _ => ?_) (fun _ => ?_))) <;> try (exfalso; omega)
      all_goals rw [if_pos (show DOut _ d from .inr (.inl (ex_ix.2 ⟨t, h0, h1, ex_ix.2 ⟨a, a0, by omega, hb⟩⟩)))]
    · conv => lhs; rw [r9_Check_L19_eq]; unfold r9_Check_L19_B
      (try dsimp only); (repeat' first | (with_reducible refine G_to ?_ ?_; focus (first | omega | (unfold fits; omega) | (unfold room; (try simp only [List.length_append, List.length_cons, List.length_nil]); omega))) | (with_reducible refine both_to ?_ ?_) | (with_reducible refine itet_to ?_) | (with_reducible refine itef_to ?_) | (with_reducible refine ite_to (fun _ => ?_) (fun _ => ?_))) <;> try (exfalso; omega)
      all_goals rfl
    · exfalso
      obtain ⟨i, i0, i1, i2⟩ := ex_ix.1 hb
      exact hh3 i i0 (by omega) i2
  · conv => lhs; rw [r9_Check_L16_eq]; unfold r9_Check_L16_B
    (try dsimp only); (repeat' first | (with_reducible refine G_to ?_ ?_; focus (first | omega | (unfold fits; omega) | (unfold room; (try simp only [List.length_append, List.length_cons, List.length_nil]); omega))) | (with_reducible refine both_to ?_ ?_) | (with_reducible refine itet_to ?_) | (with_reducible refine itef_to ?_) | (with_reducible refine ite_to (fun _ => ?_) (fun _ => ?_))) <;> try (exfalso; omega)
    have hlt := hlen t h0 h1
    refine scan_to (len := d.1) (bad := fun a => ix (ix d.2.2.1 t) a < 0 ∨ (d.2.2.1.length : Int) ≤ ix (ix d.2.2.1 t) a) (by omega) (fun a a0 a1 => ⟨fun hb' => ?_, fun hb => ?_⟩) (fun hh3 => ?_)
    · exfalso; exact hb (ex_ix.2 ⟨a, a0, by omega, hb'⟩)
    · conv => lhs; rw [r9_Check_L19_eq]; unfold r9_Check_L19_B
      (try dsimp only); (repeat' first | (with_reducible refine G_to ?_ ?_; focus (first | omega | (unfold fits; omega) | (unfold room; (try simp only [List.length_append, List.length_cons, List.length_nil]); omega))) | (with_reducible refine both_to ?_ ?_) | (with_reducible refine itet_to ?_) | (with_reducible refine itef_to ?_) | (with_reducible refine ite_to (fun _ => ?_) (fun _ => ?_))) <;> try (exfalso; omega)
      all_goals rfl
    · rw [r9_Check_L19_eq]; unfold r9_Check_L19_B
      (try dsimp only); (repeat' first | (with_reducible refine G_to ?_ ?_; focus (first | omega | (unfold fits; omega) | (unfold room; (try simp only [List.length_append, List.length_cons, List.length_nil]); omega))) | (with_reducible refine both_to ?_ ?_) | (with_reducible refine itet_to ?_) | (with_reducible refine itef_to ?_) | (with_reducible refine ite_to (fun _ => ?_) (fun _ => ?_))) <;> try (exfalso; omega)
      all_goals rfl
  have hnr : ¬ ∃ r ∈ d.2.2.1, ∃ q ∈ r, q < 0 ∨ (d.2.2.1.length : Int) ≤ q := fun h => by
    obtain ⟨t, h0, h1, hb⟩ := ex_ix.1 h
    exact hh2 t h0 h1 hb
  rw [r9_Check_L16_eq]; unfold r9_Check_L16_B
  (try dsimp only); (repeat' first | (with_reducible refine G_to ?_ ?_; focus (first | omega | (unfold fits; omega) | (unfold room; (try simp only [List.length_append, List.length_cons, List.length_nil]); omega))) | (with_reducible refine both_to ?_ ?_) | (with_reducible refine itet_to ?_) | (with_reducible refine itef_to ?_) | (with_reducible refine ite_to (fun _ => ?_) (fun _ => ?_))) <;> try (exfalso; omega)
  refine scan_to (len := (d.2.2.1.length : Int)) (bad := fun t => (badM) (ix d.2.2.2.1 t)) (by omega) (fun t h0 h1 => ⟨fun hb => ?_, fun hb => ?_⟩) (fun hh3 => ?_)
  · rw [if_pos (show DOut _ d from .inr (.inr (ex_ix.2 ⟨t, h0, by omega, hb⟩)))]
    rw [r9_Check_L24_eq]; unfold r9_Check_L24_B
    try dsimp only at hb
    (try dsimp only); (repeat' first | (with_reducible refine G_to ?_ ?_; focus (first | omega | (unfold fits; omega) | (unfold room; (try simp only [List.length_append, List.length_cons, List.length_nil]); omega))) | (with_reducible refine both_to ?_ ?_) | (with_reducible refine itet_to ?_) | (with_reducible refine itef_to ?_) | (with_reducible refine ite_to (fun _ => ?_) (fun _ => ?_))) <;> try (exfalso; omega)
    all_goals first | rfl | (exfalso; exact hb.1 ‹_›) | (exfalso; exact hb.2 ‹_›)
  · conv => lhs; rw [r9_Check_L24_eq]; unfold r9_Check_L24_B
    try dsimp only at hb
    (try dsimp only); (repeat' first | (with_reducible refine G_to ?_ ?_; focus (first | omega | (unfold fits; omega) | (unfold room; (try simp only [List.length_append, List.length_cons, List.length_nil]); omega))) | (with_reducible refine both_to ?_ ?_) | (with_reducible refine itet_to ?_) | (with_reducible refine itef_to ?_) | (with_reducible refine ite_to (fun _ => ?_) (fun _ => ?_))) <;> try (exfalso; omega)
    all_goals first | rfl | (exfalso; exact hb ⟨‹_›, ‹_›⟩)
  rw [if_neg (show ¬ DOut _ d from fun h => h.elim c4 (fun h => h.elim hnr (fun h => by
    obtain ⟨t, h0, h1, hb⟩ := ex_ix.1 h
    exact hh3 t h0 (by omega) hb)))]
  rw [r9_Check_L24_eq]; unfold r9_Check_L24_B
  (try dsimp only); (repeat' first | (with_reducible refine G_to ?_ ?_; focus (first | omega | (unfold fits; omega) | (unfold room; (try simp only [List.length_append, List.length_cons, List.length_nil]); omega))) | (with_reducible refine both_to ?_ ?_) | (with_reducible refine itet_to ?_) | (with_reducible refine itef_to ?_) | (with_reducible refine ite_to (fun _ => ?_) (fun _ => ?_))) <;> try (exfalso; omega)
  all_goals rfl

/-- The least of marks. -/
def Lst (M : List Int) (v : Int) (P : Int → Prop) : Prop := (v = 10 ∨ ∃ b, P b ∧ v = ix M b) ∧ v ≤ 10 ∧ ∀ b, P b → v ≤ ix M b
theorem Lst.ext {M : List Int} {v u : Int} {P Q : Int → Prop} (h : Lst M v P) (k : Lst M u Q) (e : ∀ b, P b ↔ Q b) : v = u := by
  obtain ⟨h1, h2, h3⟩ := h
  obtain ⟨k1, k2, k3⟩ := k
  have a : v ≤ u := by
    rcases k1 with k1 | ⟨b, hb, k1⟩
    · omega
    · have := h3 b ((e b).2 hb); omega
  have b : u ≤ v := by
    rcases h1 with h1 | ⟨b, hb, h1⟩
    · omega
    · have := k3 b ((e b).1 hb); omega
  omega
theorem Lst.step {M : List Int} {v b : Int} {P : Int → Prop} (h : Lst M v P) : Lst M (imin v (ix M b)) (fun x => P x ∨ x = b) := by
  obtain ⟨h1, h2, h3⟩ := h
  unfold imin
  by_cases e : ix M b < v
  · rw [if_pos e]
    refine ⟨.inr ⟨b, .inr rfl, rfl⟩, by omega, fun x hx => ?_⟩
    rcases hx with hx | rfl
    · have := h3 x hx; omega
    · omega
  · rw [if_neg e]
    refine ⟨h1.imp id (fun ⟨c, hc, hv⟩ => ⟨c, .inl hc, hv⟩), h2, fun x hx => ?_⟩
    rcases hx with hx | rfl
    · exact h3 x hx
    · omega
theorem Lst.iff {M : List Int} {v : Int} {P Q : Int → Prop} (h : Lst M v P) (e : ∀ b, P b ↔ Q b) : Lst M v Q :=
  ⟨h.1.imp id (fun ⟨b, hb, hv⟩ => ⟨b, (e b).1 hb, hv⟩), h.2.1, fun b hb => h.2.2 b ((e b).2 hb)⟩
def addL (M : List Int) (s : Int) (l : List Int) : Int := l.foldl (fun s b => imin s (ix M b)) s
theorem addL_lst {M : List Int} : ∀ {l : List Int} {s : Int} {P : Int → Prop}, Lst M s P → Lst M (addL M s l) (fun b => P b ∨ b ∈ l)
  | [], s, P, h => h.iff (fun b => by simp)
  | x :: l, s, P, h => by
    have h1 := addL_lst (l := l) (h.step (b := x))
    refine h1.iff (fun b => ?_)
    rw [List.mem_cons, or_assoc]
abbrev SOk := DOk 20000 badM
section
variable {m : Dt} {l : List Int × List Int × Unit}
theorem safA_L14 (h : SOk m) (hw : ∀ a ∈ l.2.1, 0 ≤ a ∧ a < m.1) (hl : l.2.1.length ≤ 1000000) {q0 : Int} {r13 : Int → Int → Option (Bool × Int)} : ∀ (n : Nat) (t q s : Int), (l.2.1.length - t).toNat = n → 0 ≤ t → t ≤ l.2.1.length → 0 ≤ q → q < m.2.2.1.length →
    safra_Accepts_L14 m l q0 r13 q s t = if wlk m.2.2.1 q (l.2.1.drop t.toNat) = q0 then some (decide ((Int.tmod (addL m.2.2.2.1 s (trc m.2.2.1 q (l.2.1.drop t.toNat))) 2) = 0), 0) else r13 (wlk m.2.2.1 q (l.2.1.drop t.toNat)) (addL m.2.2.2.1 s (trc m.2.2.1 q (l.2.1.drop t.toNat))) := by
  intro n
  induction n with
  | zero =>
    intro t q s hn h0 h1 q0 q1
    rw [safra_Accepts_L14_eq]; unfold safra_Accepts_L14_B
    rw [List.drop_of_length_le (by omega), if_neg (by simp only [decide_eq_true_eq]; omega)]
    refine ite_to (fun h => ?_) (fun h => ?_)
    · rw [G_pos (by decide)]; exact (if_pos h).symm
    · exact (if_neg h).symm
  | succ n ih =>
    intro t q s hn h0 h1 q0 q1
    have ha := hw _ (ix_mem h0 (by omega : t < l.2.1.length))
    have hr := h.tab.rowlen q0 q1
    have hs := h.tab.stpb q0 q1 ha.1 ha.2
    have hm := h.mkl
    have hs1 : 0 ≤ ix (ix m.2.2.1 q) (ix l.2.1 t) := hs.1
    have hs2 : ix (ix m.2.2.1 q) (ix l.2.1 t) < m.2.2.1.length := hs.2
    rw [safra_Accepts_L14_eq]; unfold safra_Accepts_L14_B
    (try dsimp only); (repeat' first | (with_reducible refine G_to ?_ ?_; focus (first | omega | (unfold fits; omega) | (unfold room; (try simp only [List.length_append, List.length_cons, List.length_nil]); omega))) | (with_reducible refine both_to ?_ ?_) | (with_reducible refine itet_to ?_) | (with_reducible refine itef_to ?_) | (with_reducible refine ite_to (fun _ => ?_) (fun _ => ?_))) <;> try (exfalso; omega)
    rw [ix_drop h0 (by omega)]
    exact ih (t + 1) _ _ (by omega) (by omega) (by omega) hs.1 hs.2
theorem safR_L11 (h : SOk m) (hw : ∀ a ∈ l.2.1, 0 ≤ a ∧ a < m.1) (hl : l.2.1.length ≤ 1000000) {rd : Int} (hrd : 0 ≤ rd ∧ rd ≤ 100000) {r8 : Int → Int → Int → Option Bool} : ∀ (n : Nat) (t q s : Int), (l.2.1.length - t).toNat = n → 0 ≤ t → t ≤ l.2.1.length → 0 ≤ q → q < m.2.2.1.length →
    r9_Accepts_L11 m l rd r8 q s t = r8 (wlk m.2.2.1 q (l.2.1.drop t.toNat)) (addL m.2.2.2.1 s (trc m.2.2.1 q (l.2.1.drop t.toNat))) (rd + 1) := by
  intro n
  induction n with
  | zero =>
    intro t q s hn h0 h1 q0 q1
    rw [r9_Accepts_L11_eq]; unfold r9_Accepts_L11_B
    (try dsimp only); (repeat' first | (with_reducible refine G_to ?_ ?_; focus (first | omega | (unfold fits; omega) | (unfold room; (try simp only [List.length_append, List.length_cons, List.length_nil]); omega))) | (with_reducible refine both_to ?_ ?_) | (with_reducible refine itet_to ?_) | (with_reducible refine itef_to ?_) | (with_reducible refine ite_to (fun _ => ?_) (fun _ => ?_))) <;> try (exfalso; omega)
    rw [List.drop_of_length_le (by omega)]; rfl
  | succ n ih =>
    intro t q s hn h0 h1 q0 q1
    have ha := hw _ (ix_mem h0 (by omega : t < l.2.1.length))
    have hr := h.tab.rowlen q0 q1
    have hs := h.tab.stpb q0 q1 ha.1 ha.2
    have hm := h.mkl
    have hs1 : 0 ≤ ix (ix m.2.2.1 q) (ix l.2.1 t) := hs.1
    have hs2 : ix (ix m.2.2.1 q) (ix l.2.1 t) < m.2.2.1.length := hs.2
    have e : addL m.2.2.2.1 s (trc m.2.2.1 q (ix l.2.1 t :: l.2.1.drop (t + 1).toNat)) = addL m.2.2.2.1 (if ix m.2.2.2.1 (ix (ix m.2.2.1 q) (ix l.2.1 t)) < s then ix m.2.2.2.1 (ix (ix m.2.2.1 q) (ix l.2.1 t)) else s) (trc m.2.2.1 (stp m.2.2.1 q (ix l.2.1 t)) (l.2.1.drop (t + 1).toNat)) := rfl
    rw [ix_drop h0 (by omega), e]
    rw [r9_Accepts_L11_eq]; unfold r9_Accepts_L11_B
    (try dsimp only); (repeat' first | (with_reducible refine G_to ?_ ?_; focus (first | omega | (unfold fits; omega) | (unfold room; (try simp only [List.length_append, List.length_cons, List.length_nil]); omega))) | (with_reducible refine both_to ?_ ?_) | (with_reducible refine itet_to ?_) | (with_reducible refine itef_to ?_) | (with_reducible refine ite_to (fun _ => ?_) (fun _ => ?_))) <;> try (exfalso; omega)
    · rename_i hc
      rw [if_pos hc]
      exact ih (t + 1) _ _ (by omega) (by omega) (by omega) hs.1 hs.2
    · rename_i hc
      rw [if_neg hc]
      exact ih (t + 1) _ _ (by omega) (by omega) (by omega) hs.1 hs.2
/-- One round: the state and the least mark. -/
noncomputable def rnd (m : Dt) (w : List Int) (x : Int × Int) : Int × Int := (wlk m.2.2.1 x.1 w, addL m.2.2.2.1 x.2 (trc m.2.2.1 x.1 w))
theorem rnd_fst (k : Nat) (x : Int × Int) (w : List Int) : (itn (rnd m w) k x).1 = itn (fun q => wlk m.2.2.1 q w) k x.1 := by
  induction k with
  | zero => rfl
  | succ k ih => show wlk _ (itn (rnd m w) k x).1 w = _; rw [ih]; rfl
theorem rnd_lst (h : SOk m) {w : List Int} (hw : ∀ a ∈ w, 0 ≤ a ∧ a < m.1) {q : Int} (q0 : 0 ≤ q) (q1 : q < m.2.2.1.length) : ∀ k, (0 ≤ itn (fun q => wlk m.2.2.1 q w) k q ∧ itn (fun q => wlk m.2.2.1 q w) k q < m.2.2.1.length) ∧ Lst m.2.2.2.1 (itn (rnd m w) k (q, 10)).2 (fun b => ∃ i, i < k ∧ b ∈ trc m.2.2.1 (itn (fun q => wlk m.2.2.1 q w) i q) w)
  | 0 => ⟨⟨q0, q1⟩, .inl rfl, Int.le_refl _, fun b ⟨i, hi, _⟩ => by omega⟩
  | k + 1 => by
    obtain ⟨⟨h1, h2⟩, h3⟩ := rnd_lst h hw q0 q1 k
    refine ⟨h.tab.wlkb h1 h2 hw, ?_⟩
    have h4 := addL_lst (l := trc m.2.2.1 (itn (rnd m w) k (q, 10)).1 w) h3
    refine h4.iff (fun b => ?_)
    rw [rnd_fst]
    constructor
    · rintro (⟨i, hi, hb⟩ | hb)
      · exact ⟨i, by omega, hb⟩
      · exact ⟨k, by omega, hb⟩
    · rintro ⟨i, hi, hb⟩
      by_cases e : i = k
      · subst e; exact .inr hb
      · exact .inl ⟨i, by omega, hb⟩
theorem rnd_same (h : SOk m) {w : List Int} (hw : ∀ a ∈ w, 0 ≤ a ∧ a < m.1) {q : Int} (q0 : 0 ≤ q) (q1 : q < m.2.2.1.length) {p n : Nat} (hp : 0 < p) (hpn : p ≤ n) (he : itn (fun q => wlk m.2.2.1 q w) p q = q) : (itn (rnd m w) p (q, 10)).2 = (itn (rnd m w) n (q, 10)).2 := by
  refine (rnd_lst h hw q0 q1 p).2.ext (rnd_lst h hw q0 q1 n).2 (fun b => ⟨fun ⟨i, hi, hb⟩ => ⟨i, by omega, hb⟩, fun ⟨i, hi, hb⟩ => ⟨i % p, Nat.mod_lt _ hp, ?_⟩⟩)
  rw [← itn_mod he]; exact hb
theorem safA_L13 (h : SOk m) (hw : ∀ a ∈ l.2.1, 0 ≤ a ∧ a < m.1) (hl : l.2.1.length ≤ 1000000) {q : Int} (q0 : 0 ≤ q) (q1 : q < m.2.2.1.length) {p n : Nat} (hp : 0 < p) (hpn : p ≤ n) (he : itn (fun q => wlk m.2.2.1 q l.2.1) p q = q) : ∀ (d k : Nat), p - k = d → k < p →
    safra_Accepts_L13 m l q (itn (rnd m l.2.1) k (q, 10)).1 (itn (rnd m l.2.1) k (q, 10)).2 = some (decide ((Int.tmod (itn (rnd m l.2.1) n (q, 10)).2 2) = 0), 0) := by
  intro d
  induction d with
  | zero => intro k h1 h2; omega
  | succ d ih =>
    intro k h1 h2
    have hk := (rnd_lst h hw q0 q1 k).1
    rw [safra_Accepts_L13_eq]; unfold safra_Accepts_L13_B
    rw [safA_L14 h hw hl _ 0 _ _ rfl (by omega) (by omega) (by rw [rnd_fst]; exact hk.1) (by rw [rnd_fst]; exact hk.2)]
    have e1 : wlk m.2.2.1 (itn (rnd m l.2.1) k (q, 10)).1 (l.2.1.drop (0 : Int).toNat) = (itn (rnd m l.2.1) (k + 1) (q, 10)).1 := rfl
    have e2 : addL m.2.2.2.1 (itn (rnd m l.2.1) k (q, 10)).2 (trc m.2.2.1 (itn (rnd m l.2.1) k (q, 10)).1 (l.2.1.drop (0 : Int).toNat)) = (itn (rnd m l.2.1) (k + 1) (q, 10)).2 := rfl
    rw [e1, e2]
    by_cases e : (itn (rnd m l.2.1) (k + 1) (q, 10)).1 = q
    · rw [if_pos e]
      rw [rnd_fst] at e
      rw [rnd_same h hw q0 q1 (p := k + 1) (n := n) (by omega) (by omega) e]
    · rw [if_neg e]
      by_cases hkp : k + 1 = p
      · rw [rnd_fst, hkp] at e; exact absurd he e
      · exact ih (k + 1) (by omega) (by omega)
theorem safA_L9 (h : SOk m) (hw : ∀ a ∈ l.2.1, 0 ≤ a ∧ a < m.1) (hl : l.2.1.length ≤ 1000000) : ∀ (n : Nat) (t q : Int), (m.2.2.1.length - t).toNat = n → 0 ≤ t → t ≤ m.2.2.1.length → 0 ≤ q → q < m.2.2.1.length →
    safra_Accepts_L9 m l q t = safra_Accepts_L13 m l (itn (fun q => wlk m.2.2.1 q l.2.1) n q) (itn (fun q => wlk m.2.2.1 q l.2.1) n q) 10 := by
  intro n
  induction n with
  | zero =>
    intro t q hn h0 h1 q0 q1
    rw [safra_Accepts_L9_eq]; unfold safra_Accepts_L9_B
    (try dsimp only); (repeat' first | (with_reducible refine G_to ?_ ?_; focus (first | omega | (unfold fits; omega) | (unfold room; (try simp only [List.length_append, List.length_cons, List.length_nil]); omega))) | (with_reducible refine both_to ?_ ?_) | (with_reducible refine itet_to ?_) | (with_reducible refine itef_to ?_) | (with_reducible refine ite_to (fun _ => ?_) (fun _ => ?_))) <;> try (exfalso; omega)
    rfl
  | succ n ih =>
    intro t q hn h0 h1 q0 q1
    have hn4 := h.n1
    have hs := h.tab.wlkb q0 q1 hw
    rw [safra_Accepts_L9_eq]; unfold safra_Accepts_L9_B
    (try dsimp only); (repeat' first | (with_reducible refine G_to ?_ ?_; focus (first | omega | (unfold fits; omega) | (unfold room; (try simp only [List.length_append, List.length_cons, List.length_nil]); omega))) | (with_reducible refine both_to ?_ ?_) | (with_reducible refine itet_to ?_) | (with_reducible refine itef_to ?_) | (with_reducible refine ite_to (fun _ => ?_) (fun _ => ?_))) <;> try (exfalso; omega)
    refine bind_to (det_After_spec (d := m) h.tab hw hl q0 q1) ?_
    (try dsimp only); (repeat' first | (with_reducible refine G_to ?_ ?_; focus (first | omega | (unfold fits; omega) | (unfold room; (try simp only [List.length_append, List.length_cons, List.length_nil]); omega))) | (with_reducible refine both_to ?_ ?_) | (with_reducible refine itet_to ?_) | (with_reducible refine itef_to ?_) | (with_reducible refine ite_to (fun _ => ?_) (fun _ => ?_))) <;> try (exfalso; omega)
    rw [itn_succ]
    exact ih (t + 1) _ (by omega) (by omega) (by omega) hs.1 hs.2
noncomputable def safV (m : Dt) (l : List Int × List Int × Unit) : Int := (itn (rnd m l.2.1) m.2.2.1.length (itn (fun q => wlk m.2.2.1 q l.2.1) m.2.2.1.length (wlk m.2.2.1 m.2.1 l.1), 10)).2
theorem safra_Accepts_good (hm : detE 20000 badM m = 0) (hl : lasE m.1 l = 0) : safra_Accepts m l = some (decide (Int.tmod (safV m l) 2 = 0), 0) := by
  have h := detE_zero hm
  obtain ⟨a1, a2, a3⟩ := lasE_zero hl
  have b1 := mayE_zero a1
  have b2 := mayE_zero a2
  have hq := h.tab.wlkb h.st.1 h.st.2 b1.2.2
  have hn4 := h.n1
  unfold safra_Accepts
  obtain ⟨p, hp, hpn, he⟩ := circleI (f := fun q => wlk m.2.2.1 q l.2.1) (n := m.2.2.1.length) (fun q q0 q1 => h.tab.wlkb q0 q1 b2.2.2) hq.1 hq.2
  have hqn := (rnd_lst h b2.2.2 hq.1 hq.2 m.2.2.1.length).1
  have key := safA_L13 h b2.2.2 (by omega) hqn.1 hqn.2 hp hpn he p 0 rfl hp
  refine bind_to safra_Check_spec ?_
  rw [show detE 20000 badM (m.1, m.2.1, m.2.2.1, m.2.2.2.1, ()) = 0 from hm]
  (try dsimp only); (repeat' first | (with_reducible refine G_to ?_ ?_; focus (first | omega | (unfold fits; omega) | (unfold room; (try simp only [List.length_append, List.length_cons, List.length_nil]); omega))) | (with_reducible refine both_to ?_ ?_) | (with_reducible refine itet_to ?_) | (with_reducible refine itef_to ?_) | (with_reducible refine ite_to (fun _ => ?_) (fun _ => ?_))) <;> try (exfalso; omega)
  refine bind_to word_Lasso_spec ?_
  rw [show lasE m.1 (l.1, l.2.1, ()) = 0 from hl]
  (try dsimp only); (repeat' first | (with_reducible refine G_to ?_ ?_; focus (first | omega | (unfold fits; omega) | (unfold room; (try simp only [List.length_append, List.length_cons, List.length_nil]); omega))) | (with_reducible refine both_to ?_ ?_) | (with_reducible refine itet_to ?_) | (with_reducible refine itef_to ?_) | (with_reducible refine ite_to (fun _ => ?_) (fun _ => ?_))) <;> try (exfalso; omega)
  refine bind_to (det_After_spec (d := m) h.tab b1.2.2 (by omega) h.st.1 h.st.2) ?_
  have e10 := safA_L9 (l := l) h b2.2.2 (by omega) m.2.2.1.length 0 (wlk m.2.2.1 m.2.1 l.1) (by omega) (by omega) (by omega) hq.1 hq.2
  exact e10.trans key
theorem safra_Accepts_bad (hm : ¬ detE 20000 badM m = 0) : safra_Accepts m l = some (false, detE 20000 badM m) := by
  unfold safra_Accepts
  refine bind_to safra_Check_spec ?_
  have hm' : ¬ detE 20000 badM (m.1, m.2.1, m.2.2.1, m.2.2.2.1, ()) = 0 := hm
  rw [if_pos (decide_eq_true hm')]
theorem safra_Accepts_bad2 (hm : detE 20000 badM m = 0) (hl : ¬ lasE m.1 l = 0) : safra_Accepts m l = some (false, lasE m.1 l) := by
  unfold safra_Accepts
  refine bind_to safra_Check_spec ?_
  rw [show detE 20000 badM (m.1, m.2.1, m.2.2.1, m.2.2.2.1, ()) = 0 from hm]
  (try dsimp only); (repeat' first | (with_reducible refine G_to ?_ ?_; focus (first | omega | (unfold fits; omega) | (unfold room; (try simp only [List.length_append, List.length_cons, List.length_nil]); omega))) | (with_reducible refine both_to ?_ ?_) | (with_reducible refine itet_to ?_) | (with_reducible refine itef_to ?_) | (with_reducible refine ite_to (fun _ => ?_) (fun _ => ?_))) <;> try (exfalso; omega)
  refine bind_to word_Lasso_spec ?_
  have hl' : ¬ lasE m.1 (l.1, l.2.1, ()) = 0 := hl
  rw [if_pos (decide_eq_true hl')]
theorem safR_L3 (h : SOk m) (hw : ∀ a ∈ l.2.1, 0 ≤ a ∧ a < m.1) (hl : l.2.1.length ≤ 1000000) : ∀ (n : Nat) (t q : Int), (m.2.2.1.length - t).toNat = n → 0 ≤ t → t ≤ m.2.2.1.length → 0 ≤ q → q < m.2.2.1.length →
    r9_Accepts_L3 m l q t = r9_Accepts_L8 m l (itn (fun q => wlk m.2.2.1 q l.2.1) n q) 10 0 := by
  intro n
  induction n with
  | zero =>
    intro t q hn h0 h1 q0 q1
    rw [r9_Accepts_L3_eq]; unfold r9_Accepts_L3_B
    (try dsimp only); (repeat' first | (with_reducible refine G_to ?_ ?_; focus (first | omega | (unfold fits; omega) | (unfold room; (try simp only [List.length_append, List.length_cons, List.length_nil]); omega))) | (with_reducible refine both_to ?_ ?_) | (with_reducible refine itet_to ?_) | (with_reducible refine itef_to ?_) | (with_reducible refine ite_to (fun _ => ?_) (fun _ => ?_))) <;> try (exfalso; omega)
    rfl
  | succ n ih =>
    intro t q hn h0 h1 q0 q1
    have hn4 := h.n1
    have hs := h.tab.wlkb q0 q1 hw
    rw [r9_Accepts_L3_eq]; unfold r9_Accepts_L3_B
    (try dsimp only); (repeat' first | (with_reducible refine G_to ?_ ?_; focus (first | omega | (unfold fits; omega) | (unfold room; (try simp only [List.length_append, List.length_cons, List.length_nil]); omega))) | (with_reducible refine both_to ?_ ?_) | (with_reducible refine itet_to ?_) | (with_reducible refine itef_to ?_) | (with_reducible refine ite_to (fun _ => ?_) (fun _ => ?_))) <;> try (exfalso; omega)
    refine bind_to (r3_After_spec (d := m) h.tab hw hl q0 q1) ?_
    (try dsimp only); (repeat' first | (with_reducible refine G_to ?_ ?_; focus (first | omega | (unfold fits; omega) | (unfold room; (try simp only [List.length_append, List.length_cons, List.length_nil]); omega))) | (with_reducible refine both_to ?_ ?_) | (with_reducible refine itet_to ?_) | (with_reducible refine itef_to ?_) | (with_reducible refine ite_to (fun _ => ?_) (fun _ => ?_))) <;> try (exfalso; omega)
    rw [itn_succ]
    exact ih (t + 1) _ (by omega) (by omega) (by omega) hs.1 hs.2
theorem safR_L8 (h : SOk m) (hw : ∀ a ∈ l.2.1, 0 ≤ a ∧ a < m.1) (hl : l.2.1.length ≤ 1000000) {v : Int} (v0 : 0 ≤ v) (v1 : v < m.2.2.1.length) : ∀ (d k : Nat), m.2.2.1.length - k = d → k ≤ m.2.2.1.length →
    r9_Accepts_L8 m l (itn (rnd m l.2.1) k (v, 10)).1 (itn (rnd m l.2.1) k (v, 10)).2 (k : Int) = some (decide (Int.tmod (itn (rnd m l.2.1) m.2.2.1.length (v, 10)).2 2 = 0)) := by
  intro d
  induction d with
  | zero =>
    intro k h1 h2
    obtain rfl : k = m.2.2.1.length := by omega
    rw [r9_Accepts_L8_eq]; unfold r9_Accepts_L8_B
    rw [if_neg (by simp), G_pos (by decide)]
  | succ d ih =>
    intro k h1 h2
    have hn4 := h.n1
    have hk := (rnd_lst h hw v0 v1 k).1
    have ih' := ih (k + 1) (by omega) (by omega)
    rw [r9_Accepts_L8_eq]; unfold r9_Accepts_L8_B
    rw [if_pos (by simp only [decide_eq_true_eq]; omega)]
    rw [safR_L11 h hw hl (by omega) _ 0 _ _ rfl (by omega) (by omega) (by rw [rnd_fst]; exact hk.1) (by rw [rnd_fst]; exact hk.2)]
    rw [← ih']
    rfl
theorem r9_Accepts_good (hm : detE 20000 badM m = 0) (hl : lasE m.1 l = 0) : r9_Accepts m l = some (decide (Int.tmod (safV m l) 2 = 0)) := by
  have h := detE_zero hm
  obtain ⟨a1, a2, a3⟩ := lasE_zero hl
  have b1 := mayE_zero a1
  have b2 := mayE_zero a2
  have hq := h.tab.wlkb h.st.1 h.st.2 b1.2.2
  have hn4 := h.n1
  have hqn := (rnd_lst h b2.2.2 hq.1 hq.2 m.2.2.1.length).1
  unfold r9_Accepts
  refine bind_to (r3_After_spec (d := m) h.tab b1.2.2 (by omega) h.st.1 h.st.2) ?_
  have e3 := safR_L3 (l := l) h b2.2.2 (by omega) m.2.2.1.length 0 (wlk m.2.2.1 m.2.1 l.1) (by omega) (by omega) (by omega) hq.1 hq.2
  exact e3.trans (safR_L8 h b2.2.2 (by omega) hqn.1 hqn.2 m.2.2.1.length 0 (by omega) (by omega))
end
theorem law_true (m : Dt) (l : List Int × List Int × Unit) : law_SafraAccepts m l = some true := by
  unfold law_SafraAccepts
  refine bind_to safra_Check_spec ?_
  refine bind_to r9_Check_spec ?_
  rw [show detE 20000 badM (m.1, m.2.1, m.2.2.1, m.2.2.2.1, ()) = detE 20000 badM m from rfl]
  by_cases hm : detE 20000 badM m = 0
  · by_cases hl : lasE m.1 l = 0
    · refine bind_to (safra_Accepts_good hm hl) ?_
      rw [hm]
      (try dsimp only); (repeat' first | (with_reducible refine G_to ?_ ?_; focus (first | omega | (unfold fits; omega) | (unfold room; (try simp only [List.length_append, List.length_cons, List.length_nil]); omega))) | (with_reducible refine both_to ?_ ?_) | (with_reducible refine itet_to ?_) | (with_reducible refine itef_to ?_) | (with_reducible refine ite_to (fun _ => ?_) (fun _ => ?_))) <;> try (exfalso; omega)
      refine bind_to r1_Lasso_spec ?_
      rw [show lasE m.1 (l.1, l.2.1, ()) = 0 from hl]
      (try dsimp only); (repeat' first | (with_reducible refine G_to ?_ ?_; focus (first | omega | (unfold fits; omega) | (unfold room; (try simp only [List.length_append, List.length_cons, List.length_nil]); omega))) | (with_reducible refine both_to ?_ ?_) | (with_reducible refine itet_to ?_) | (with_reducible refine itef_to ?_) | (with_reducible refine ite_to (fun _ => ?_) (fun _ => ?_))) <;> try (exfalso; omega)
      refine bind_to (r9_Accepts_good hm hl) ?_
      (try dsimp only); (repeat' first | (with_reducible refine G_to ?_ ?_; focus (first | omega | (unfold fits; omega) | (unfold room; (try simp only [List.length_append, List.length_cons, List.length_nil]); omega))) | (with_reducible refine both_to ?_ ?_) | (with_reducible refine itet_to ?_) | (with_reducible refine itef_to ?_) | (with_reducible refine ite_to (fun _ => ?_) (fun _ => ?_))) <;> try (exfalso; omega)
      simp
    · refine bind_to (safra_Accepts_bad2 hm hl) ?_
      rw [hm]
      (try dsimp only); (repeat' first | (with_reducible refine G_to ?_ ?_; focus (first | omega | (unfold fits; omega) | (unfold room; (try simp only [List.length_append, List.length_cons, List.length_nil]); omega))) | (with_reducible refine both_to ?_ ?_) | (with_reducible refine itet_to ?_) | (with_reducible refine itef_to ?_) | (with_reducible refine ite_to (fun _ => ?_) (fun _ => ?_))) <;> try (exfalso; omega)
      refine bind_to r1_Lasso_spec ?_
      have hl' : ¬ lasE m.1 (l.1, l.2.1, ()) = 0 := hl
      rw [if_pos (decide_eq_true hl'), if_pos (decide_eq_true rfl)]; rfl
  · refine bind_to (safra_Accepts_bad hm) ?_
    rw [if_neg (by simp), if_pos (by simpa using hm), if_pos (decide_eq_true rfl)]; rfl

end Go.Proofs.Ytjhgdnfkipchoaa.safraAcceptsW
