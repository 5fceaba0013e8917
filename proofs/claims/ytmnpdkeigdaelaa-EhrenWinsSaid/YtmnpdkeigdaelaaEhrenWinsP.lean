/- The law 'EhrenWins' of the plain functions. -/
import Derived.Test.YtmnpdkeigdaelaaEhrenWinsD
set_option maxHeartbeats 1000000
set_option maxRecDepth 20000
set_option linter.unusedSimpArgs false
set_option linter.unusedVariables false
set_option linter.unusedSectionVars false
namespace Go.Proofs.Ytmnpdkeigdaelaa.ehrenWinsW
open Go Go.Ab
/-- The answer is yes just if P. -/
def Tells (o : Option Bool) (P : Prop) : Prop := ∃ b, o = some b ∧ (b = true ↔ P)
theorem Tells.of {b : Bool} {P : Prop} (h : b = true ↔ P) : Tells (some b) P := ⟨b, rfl, h⟩
theorem Tells.dec {P Q : Prop} [Decidable P] (h : P ↔ Q) : Tells (some (decide P)) Q := ⟨_, rfl, by simpa using h⟩
theorem Tells.iff {o : Option Bool} {P Q : Prop} (h : Tells o P) (k : P ↔ Q) : Tells o Q := let ⟨b, h1, h2⟩ := h; ⟨b, h1, h2.trans k⟩
theorem Tells.eq {o : Option Bool} {P : Prop} [Decidable P] (h : Tells o P) : o = some (decide P) := by
  obtain ⟨b, rfl, hb⟩ := h
  by_cases hp : P
  · simp [hp, hb.2 hp]
  · have : b = false := by cases b; rfl; exact absurd (hb.1 rfl) hp
    simp [hp, this]
theorem Tells.to {R : Type} {o : Option Bool} {P : Prop} {k1 k2 x : Option R} (h : Tells o P) (h1 : P → k1 = x) (h2 : ¬ P → k2 = x) : (o.bind fun y => if y = true then k1 else k2) = x := by
  obtain ⟨b, rfl, hb⟩ := h
  refine bind_to rfl ?_
  cases b
  · exact h2 fun hp => by simpa using hb.2 hp
  · exact h1 (hb.1 rfl)
theorem Tells.bind {R : Type} {o : Option Bool} {P : Prop} {k : Bool → Option R} {x : Option R} (h : Tells o P) (h1 : ∀ b, (b = true ↔ P) → k b = x) : o.bind k = x := by
  obtain ⟨b, rfl, hb⟩ := h
  exact h1 b hb
section
variable {α C : Type} [Inhabited α]
theorem ex_ix {l : List α} {P : α → Prop} : (∃ x ∈ l, P x) ↔ ∃ i : Int, 0 ≤ i ∧ i < l.length ∧ P (ix l i) := by
  constructor
  · rintro ⟨x, hx, hp⟩
    obtain ⟨i, hi, rfl⟩ := List.mem_iff_getElem.1 hx
    refine ⟨i, by omega, by omega, ?_⟩
    rwa [ix_eq (by omega) (by omega)]
  · rintro ⟨i, h0, h1, hp⟩
    exact ⟨_, ix_mem h0 h1, hp⟩
theorem index_loop {s : List α} {f : α → Option Bool} {L : Int → Option Int} {P : α → Prop} (hs : s.length ≤ 4611686018427387904)
    (hL : ∀ t, L t = if decide (t < (s.length : Int)) = true then G (0 ≤ t ∧ t < (s.length : Int)) ((f (ix s t)).bind fun y => if y = true then some t else G (fits (t + 1)) (L (t + 1))) else some (-1))
    (hf : ∀ x ∈ s, Tells (f x) (P x)) : ∀ (n : Nat) (t : Int), 0 ≤ t → t ≤ s.length → (s.length - t).toNat = n →
      ∃ i, L t = some i ∧ ((i = -1 ∧ ∀ j : Int, t ≤ j → j < s.length → ¬ P (ix s j)) ∨ (t ≤ i ∧ i < s.length ∧ P (ix s i) ∧ ∀ j : Int, t ≤ j → j < i → ¬ P (ix s j))) := by
  intro n
  induction n with
  | zero =>
    intro t h0 h1 hn
    refine ⟨-1, ?_, .inl ⟨rfl, fun j a b => by omega⟩⟩
    rw [hL, if_neg (by simp; omega)]
  | succ n ih =>
    intro t h0 h1 hn
    rw [hL, if_pos (by simp; omega), G_pos (by omega)]
    obtain ⟨b, hb, hbp⟩ := hf _ (ix_mem h0 (by omega : t < s.length))
    rw [hb]
    cases b with
    | true => exact ⟨t, rfl, .inr ⟨by omega, by omega, hbp.1 rfl, fun j a b => by omega⟩⟩
    | false =>
      have hnp : ¬ P (ix s t) := fun hp => by simpa using hbp.2 hp
      obtain ⟨i, hi, hc⟩ := ih (t + 1) (by omega) (by omega) (by omega)
      refine ⟨i, ?_, ?_⟩
      · refine (if_neg (by simp) : (if false = true then some t else G (fits (t + 1)) (L (t + 1))) = _).trans ?_
        rw [G_pos (by unfold fits; omega), hi]
      · rcases hc with ⟨h2, h3⟩ | ⟨h2, h3, h4, h5⟩
        · refine .inl ⟨h2, fun j a b => ?_⟩
          by_cases e : j = t
          · rw [e]; exact hnp
          · exact h3 j (by omega) b
        · refine .inr ⟨by omega, h3, h4, fun j a b => ?_⟩
          by_cases e : j = t
          · rw [e]; exact hnp
          · exact h5 j (by omega) b
theorem contains_tells {s : List α} {f : α → Option Bool} {L : Int → Option Int} {P : α → Prop}
    (hL : ∀ t, L t = if decide (t < (s.length : Int)) = true then G (0 ≤ t ∧ t < (s.length : Int)) ((f (ix s t)).bind fun y => if y = true then some t else G (fits (t + 1)) (L (t + 1))) else some (-1))
    (hs : s.length ≤ 4611686018427387904) (hf : ∀ x ∈ s, Tells (f x) (P x)) : Tells ((L 0).bind fun y => some (decide ((0 : Int) ≤ y))) (∃ x ∈ s, P x) := by
  obtain ⟨i, hi, hc⟩ := index_loop hs hL hf _ 0 (by omega) (by omega) rfl
  rw [hi]
  refine ⟨decide (0 ≤ i), rfl, ?_⟩
  rw [decide_eq_true_iff, ex_ix]
  rcases hc with ⟨h2, h3⟩ | ⟨h2, h3, h4, h5⟩
  · constructor
    · intro h; omega
    · rintro ⟨j, h0, h1, hp⟩; exact absurd hp (h3 j h0 h1)
  · exact ⟨fun _ => ⟨i, by omega, h3, h4⟩, fun _ => by omega⟩
/-- .. of what carries along what it reads. -/
theorem contains_tells2 {s : List α} {c : C} {f : α → C → Option (Bool × C)} {L : Int → C → Option (Int × C)} {P : α → Prop}
    (hL : ∀ t c, L t c = if decide (t < (s.length : Int)) = true then G (0 ≤ t ∧ t < (s.length : Int)) ((f (ix s t) c).bind fun y => if y.1 = true then some (t, y.2) else G (fits (t + 1)) (L (t + 1) y.2)) else some (-1, c))
    (hs : s.length ≤ 4611686018427387904) (hf : ∀ x ∈ s, ∃ b, f x c = some (b, c) ∧ (b = true ↔ P x)) : ∃ b, ((L 0 c).bind fun y => some (decide ((0 : Int) ≤ y.1), y.2)) = some (b, c) ∧ (b = true ↔ ∃ x ∈ s, P x) := by
  have key : ∀ (n : Nat) (t : Int), 0 ≤ t → t ≤ s.length → (s.length - t).toNat = n →
      ∃ i, L t c = some (i, c) ∧ ((i = -1 ∧ ∀ j : Int, t ≤ j → j < s.length → ¬ P (ix s j)) ∨ (t ≤ i ∧ i < s.length ∧ P (ix s i))) := by
    intro n
    induction n with
    | zero =>
      intro t h0 h1 hn
      refine ⟨-1, ?_, .inl ⟨rfl, fun j a b => by omega⟩⟩
      rw [hL, if_neg (by simp; omega)]
    | succ n ih =>
      intro t h0 h1 hn
      rw [hL, if_pos (by simp; omega), G_pos (by omega)]
      obtain ⟨b, hb, hbp⟩ := hf _ (ix_mem h0 (by omega : t < s.length))
      rw [hb]
      cases b with
      | true => exact ⟨t, rfl, .inr ⟨by omega, by omega, hbp.1 rfl⟩⟩
      | false =>
        have hnp : ¬ P (ix s t) := fun hp => by simpa using hbp.2 hp
        obtain ⟨i, hi, hc⟩ := ih (t + 1) (by omega) (by omega) (by omega)
        refine ⟨i, ?_, ?_⟩
        · refine (if_neg (by simp) : (if false = true then some (t, c) else G (fits (t + 1)) (L (t + 1) c)) = _).trans ?_
          rw [G_pos (by unfold fits; omega), hi]
        · rcases hc with ⟨h2, h3⟩ | ⟨h2, h3, h4⟩
          · refine .inl ⟨h2, fun j a b => ?_⟩
            by_cases e : j = t
            · rw [e]; exact hnp
            · exact h3 j (by omega) b
          · exact .inr ⟨by omega, h3, h4⟩
  obtain ⟨i, hi, hc⟩ := key _ 0 (by omega) (by omega) rfl
  rw [hi]
  refine ⟨decide (0 ≤ i), rfl, ?_⟩
  rw [decide_eq_true_iff, ex_ix]
  rcases hc with ⟨h2, h3⟩ | ⟨h2, h3, h4⟩
  · constructor
    · intro h; omega
    · rintro ⟨j, h0, h1, hp⟩; exact absurd hp (h3 j h0 h1)
  · exact ⟨fun _ => ⟨i, by omega, h3, h4⟩, fun _ => by omega⟩
end
/-- A loop that looks for the first fault. -/
theorem scan_to {R : Type} {len : Int} {L : Int → Option R} {bad : Int → Prop} {x : Option R} {lo : Int} (h0 : lo ≤ len)
    (hs : ∀ t, lo ≤ t → t < len → (bad t → L t = x) ∧ (¬ bad t → L t = L (t + 1))) (hf : (∀ t, lo ≤ t → t < len → ¬ bad t) → L len = x) : L lo = x := by
  have key : ∀ (n : Nat) (t : Int), lo ≤ t → t ≤ len → (len - t).toNat = n → (∀ j, lo ≤ j → j < t → ¬ bad j) → L t = x := by
    intro n
    induction n with
    | zero =>
      intro t h1 h2 hn h
      obtain rfl : t = len := by omega
      exact hf h
    | succ n ih =>
      intro t h1 h2 hn h
      by_cases hb : bad t
      · exact (hs t h1 (by omega)).1 hb
      · rw [(hs t h1 (by omega)).2 hb]
        refine ih (t + 1) (by omega) (by omega) (by omega) fun j a b => ?_
        by_cases e : j = t
        · rw [e]; exact hb
        · exact h j a (by omega)
  exact key _ lo (Int.le_refl _) h0 rfl (fun j a b => by omega)
/-- A loop that counts, with a state. -/
theorem fold_to {R S : Type} {len : Int} {L : Int → S → Option R} {f : Int → S → S} {lo : Int} {I : Int → S → Prop} {s : S} (h0 : lo ≤ len) (hI : I lo s)
    (hs : ∀ t s, lo ≤ t → t < len → I t s → L t s = L (t + 1) (f t s) ∧ I (t + 1) (f t s)) : ∃ s', I len s' ∧ L lo s = L len s' := by
  have key : ∀ (n : Nat) (t : Int) (s : S), lo ≤ t → t ≤ len → (len - t).toNat = n → I t s → ∃ s', I len s' ∧ L t s = L len s' := by
    intro n
    induction n with
    | zero =>
      intro t s h1 h2 hn h
      obtain rfl : t = len := by omega
      exact ⟨s, h, rfl⟩
    | succ n ih =>
      intro t s h1 h2 hn h
      obtain ⟨e, h3⟩ := hs t s h1 (by omega) h
      obtain ⟨s', h4, h5⟩ := ih (t + 1) _ (by omega) (by omega) (by omega) h3
      exact ⟨s', h4, e.trans h5⟩
  exact key _ lo s (Int.le_refl _) h0 rfl hI

theorem word_May_L6_spec {letters : Int} {w : List Int} (hL : 1 ≤ letters ∧ letters ≤ 4) (hw : w.length ≤ (60 : Int)) : ∀ (n : Nat) (i : Int), 0 ≤ i → i ≤ w.length → (w.length - i).toNat = n → (∀ j : Int, 0 ≤ j → j < i → 0 ≤ ix w j ∧ ix w j < letters) → word_May_L6 letters w i = some (mayE letters w) := by
  intro n
  induction n with
  | zero =>
    intro i h0 h1 hn h
    rw [word_May_L6_eq]; unfold word_May_L6_B
    (try dsimp only); (repeat' first | (with_reducible refine G_to ?_ ?_; focus (first | omega | (unfold fits; omega) | (unfold room; (try simp only [List.length_append, List.length_cons, List.length_nil]); omega))) | (with_reducible refine both_to ?_ ?_) | (with_reducible refine itet_to ?_) | (with_reducible refine itef_to ?_) | (with_reducible refine ite_to (fun _ => ?_) (fun _ => ?_))) <;> try (exfalso; omega)
    · rw [mayE_ok hL hw (fun j a b => h j a (by omega))]
  | succ n ih =>
    intro i h0 h1 hn h
    rw [word_May_L6_eq]; unfold word_May_L6_B
    (try dsimp only); (repeat' first | (with_reducible refine G_to ?_ ?_; focus (first | omega | (unfold fits; omega) | (unfold room; (try simp only [List.length_append, List.length_cons, List.length_nil]); omega))) | (with_reducible refine both_to ?_ ?_) | (with_reducible refine itet_to ?_) | (with_reducible refine itef_to ?_) | (with_reducible refine ite_to (fun _ => ?_) (fun _ => ?_))) <;> try (exfalso; omega)
    · rw [mayE_bad hL hw (i := i) (by omega) (by omega)]
    · rw [mayE_bad hL hw (i := i) (by omega) (by omega)]
    · exact ih _ (by omega) (by omega) (by omega) (below_succ h (by omega))
theorem word_May_spec {letters : Int} {w : List Int} : word_May letters w = some (mayE letters w) := by
  unfold word_May
  (try dsimp only); (repeat' first | (with_reducible refine G_to ?_ ?_; focus (first | omega | (unfold fits; omega) | (unfold room; (try simp only [List.length_append, List.length_cons, List.length_nil]); omega))) | (with_reducible refine both_to ?_ ?_) | (with_reducible refine itet_to ?_) | (with_reducible refine itef_to ?_) | (with_reducible refine ite_to (fun _ => ?_) (fun _ => ?_))) <;> try (exfalso; omega)
  · rw [mayE_range (by omega)]
  · rw [mayE_range (by omega)]
  · rw [mayE_size (by omega) (by omega)]
  · exact word_May_L6_spec (by omega) (by omega) _ 0 (by omega) (by omega) rfl (fun j a b => by omega)

theorem slices_Clone_spec {s : List Int} (hs : s.length * 8 ≤ 140737488355328) : slices_Clone s = some s := by
  have hr : G (room ([] : List Int) s 8) (some (([] : List Int) ++ s)) = some s := by
    rw [G_pos (room_of (by simpa using hs))]; rfl
  unfold slices_Clone
  refine itep_to (fun h => ?_) (fun h => hr)
  obtain rfl : s = [] := List.length_eq_zero_iff.1 h
  rw [hr]; exact both_self (ts := [(.list (.int .i64))]) (some ([] : List Int))

theorem cmp_spec (x y : Int) : cmp_Compare x y = r33_sign x y := by
  unfold cmp_Compare cmp_isNaN r33_sign
  refine bind_to rfl (bind_to rfl ?_)
  rw [if_neg (by simp), if_neg (by simp)]
theorem sign_some (x y : Int) : ∃ z, r33_sign x y = some z := by
  unfold r33_sign
  by_cases h : x < y
  · exact ⟨-1, by rw [if_pos (decide_eq_true h)]⟩
  · rw [if_neg (by simpa using h)]
    by_cases h2 : y < x
    · exact ⟨1, by rw [if_pos (decide_eq_true h2)]⟩
    · exact ⟨0, by rw [if_neg (by simpa using h2)]⟩
theorem fits_spec {u v a b : List Int} {p q : Int} (p0 : 0 ≤ p) (p1 : p < u.length) (q0 : 0 ≤ q) (q1 : q < v.length) (hab : a.length = b.length) (ha : a.length ≤ 1000) : ∃ f, ehren_table_fits (u, v, a, b, ()) p q = some f ∧ r33_Fits u v a b p q = some f := by
  have key : ∀ (m : Nat) (i : Int), 0 ≤ i → i + m = a.length → ∃ f, ehren_table_fits_L4 (u, v, a, b, ()) p q i = some f ∧ r33_Fits_L4 a b p q i = some f := by
    intro m
    induction m with
    | zero =>
      intro i i0 hi
      refine ⟨true, ?_, ?_⟩
      · rw [ehren_table_fits_L4_eq]; unfold ehren_table_fits_L4_B
        rw [if_neg (by simp only [decide_eq_true_eq]; omega)]
      · rw [r33_Fits_L4_eq]; unfold r33_Fits_L4_B
        rw [if_neg (by simp only [decide_eq_true_eq]; omega)]
    | succ m ih =>
      intro i i0 hi
      obtain ⟨x, hx⟩ := sign_some (ix a i) p
      obtain ⟨y, hy⟩ := sign_some (ix b i) q
      obtain ⟨f, h1, h2⟩ := ih (i + 1) (by omega) (by omega)
      by_cases e : x = y
      · refine ⟨f, ?_, ?_⟩
        · rw [ehren_table_fits_L4_eq]; unfold ehren_table_fits_L4_B
          dsimp only
          rw [if_pos (decide_eq_true (by omega)), G_pos (by omega), G_pos (by omega)]
          refine bind_to ((cmp_spec _ _).trans hx) (bind_to ((cmp_spec _ _).trans hy) ?_)
          rw [if_neg (by simp [e]), G_pos (by unfold _root_.Go.Ab.fits; omega)]
          exact h1
        · rw [r33_Fits_L4_eq]; unfold r33_Fits_L4_B
          rw [if_pos (decide_eq_true (by omega)), G_pos (by omega)]
          refine bind_to hx ?_
          rw [G_pos (by omega)]
          refine bind_to hy ?_
          rw [if_neg (by simp [e]), G_pos (by unfold _root_.Go.Ab.fits; omega)]
          exact h2
      · refine ⟨false, ?_, ?_⟩
        · rw [ehren_table_fits_L4_eq]; unfold ehren_table_fits_L4_B
          dsimp only
          rw [if_pos (decide_eq_true (by omega)), G_pos (by omega), G_pos (by omega)]
          refine bind_to ((cmp_spec _ _).trans hx) (bind_to ((cmp_spec _ _).trans hy) ?_)
          rw [if_pos (by simp [e])]
        · rw [r33_Fits_L4_eq]; unfold r33_Fits_L4_B
          rw [if_pos (decide_eq_true (by omega)), G_pos (by omega)]
          refine bind_to hx ?_
          rw [G_pos (by omega)]
          refine bind_to hy ?_
          rw [if_pos (by simp [e])]
  obtain ⟨f, h1, h2⟩ := key a.length 0 (by omega) (by omega)
  by_cases e : ix u p = ix v q
  · refine ⟨f, ?_, ?_⟩
    · unfold ehren_table_fits
      dsimp only
      rw [G_pos (by omega), G_pos (by omega), if_neg (by simp [e])]
      exact h1
    · unfold r33_Fits
      rw [G_pos (by omega), G_pos (by omega), if_neg (by simp [e])]
      exact h2
  · refine ⟨false, ?_, ?_⟩
    · unfold ehren_table_fits
      dsimp only
      rw [G_pos (by omega), G_pos (by omega), if_pos (by simp [e])]
    · unfold r33_Fits
      rw [G_pos (by omega), G_pos (by omega), if_pos (by simp [e])]
theorem with_spec {u v a b : List Int} {p q : Int} (ha : a.length ≤ 1000) (hb : b.length ≤ 1000) : ehren_table_with (u, v, a, b, ()) p q = some (u, v, a ++ [p], b ++ [q], ()) := by
  have h1 : slices_Clone a = some a := slices_Clone_spec (by omega)
  have h2 : slices_Clone b = some b := slices_Clone_spec (by omega)
  have g1 : room a [p] 8 := by unfold room; simp; omega
  have g2 : room b [q] 8 := by unfold room; simp; omega
  unfold ehren_table_with
  dsimp only
  rw [h1, h2]
  dsimp only [Option.bind]
  simp only [G_pos g1, G_pos g2, both_self]
def Agr (k : Int) : Prop := ∀ (u v a b : List Int), u.length ≤ 8 → v.length ≤ 8 → a.length = b.length → a.length + k ≤ 100 → ∃ bb, ehren_table_wins (u, v, a, b, ()) k = some bb ∧ r33_Wins u v a b k = some bb
theorem reply_spec {k : Int} (hk : Agr k) {u v a b : List Int} {p : Int} (hu : u.length ≤ 8) (hv : v.length ≤ 8) (hab : a.length = b.length) (ha : a.length + (k + 1) ≤ 100) (hk0 : 0 ≤ k) (p0 : 0 ≤ p) (p1 : p < u.length) :
    ∃ x : Int, (x = -1 ∨ 0 ≤ x) ∧ ehren_table_reply ehren_table_wins (u, v, a, b, ()) p k = some (if x < 0 then (0, false) else (x, true)) ∧ r33_Answer r33_Wins u v a b p k = some x := by
  have key : ∀ (m : Nat) (q : Int), 0 ≤ q → q + m = v.length → ∃ x : Int, (x = -1 ∨ 0 ≤ x) ∧ ehren_table_reply_L2 ehren_table_wins (u, v, a, b, ()) p k q = some (if x < 0 then (0, false) else (x, true)) ∧ r33_Answer_L2 r33_Wins u v a b p k q = some x := by
    intro m
    induction m with
    | zero =>
      intro q q0 hq
      refine ⟨-1, .inl rfl, ?_, ?_⟩
      · rw [ehren_table_reply_L2_eq]; unfold ehren_table_reply_L2_B
        rw [if_neg (by simp only [decide_eq_true_eq]; omega), if_pos (by omega)]
      · rw [r33_Answer_L2_eq]; unfold r33_Answer_L2_B
        rw [if_neg (by simp only [decide_eq_true_eq]; omega)]
    | succ m ih =>
      intro q q0 hq
      obtain ⟨f, f1, f2⟩ := fits_spec (u := u) (v := v) (a := a) (b := b) p0 p1 q0 (by omega) hab (by omega)
      obtain ⟨x, hx, e1, e2⟩ := ih (q + 1) (by omega) (by omega)
      have hw := with_spec (u := u) (v := v) (a := a) (b := b) (p := p) (q := q) (by omega) (by omega)
      obtain ⟨bb, b1, b2⟩ := hk u v (a ++ [p]) (b ++ [q]) hu hv (by simp [hab]) (by rw [List.length_append, List.length_singleton]; omega)
      have pro : ehren_table_reply_L2 ehren_table_wins (u, v, a, b, ()) p k q = if f = true then (if bb = true then some (q, true) else ehren_table_reply_L2 ehren_table_wins (u, v, a, b, ()) p k (q + 1)) else ehren_table_reply_L2 ehren_table_wins (u, v, a, b, ()) p k (q + 1) := by
        conv => lhs; rw [ehren_table_reply_L2_eq]; unfold ehren_table_reply_L2_B
        dsimp only
        rw [if_pos (decide_eq_true (by omega))]
        refine bind_to f1 ?_
        cases f with
        | false => rw [if_neg (by simp), if_neg (by simp), G_pos (by unfold _root_.Go.Ab.fits; omega)]
        | true =>
          rw [if_pos rfl, if_pos rfl]
          refine bind_to hw (bind_to b1 ?_)
          cases bb with
          | true => rfl
          | false => rw [if_neg (by simp), if_neg (by simp), G_pos (by unfold _root_.Go.Ab.fits; omega)]
      have ref : r33_Answer_L2 r33_Wins u v a b p k q = if f = true then (if bb = true then some q else r33_Answer_L2 r33_Wins u v a b p k (q + 1)) else r33_Answer_L2 r33_Wins u v a b p k (q + 1) := by
        conv => lhs; rw [r33_Answer_L2_eq]; unfold r33_Answer_L2_B
        rw [if_pos (decide_eq_true (by omega))]
        refine bind_to f2 ?_
        cases f with
        | false => rw [if_pos (by simp), if_neg (by simp), G_pos (by unfold _root_.Go.Ab.fits; omega)]
        | true =>
          rw [if_neg (by simp), if_pos rfl, List.nil_append, List.nil_append, G_pos (by unfold room; simp; omega), G_pos (by unfold room; simp; omega), G_pos (by unfold room; simp; omega), G_pos (by unfold room; simp; omega)]
          refine bind_to b2 ?_
          cases bb with
          | true => rfl
          | false => rw [if_neg (by simp), if_neg (by simp), G_pos (by unfold _root_.Go.Ab.fits; omega)]
      rw [pro, ref]
      cases f with
      | false => exact ⟨x, hx, e1, e2⟩
      | true =>
        cases bb with
        | false => exact ⟨x, hx, e1, e2⟩
        | true => exact ⟨q, .inr q0, by rw [if_pos rfl, if_pos rfl, if_neg (by omega)], rfl⟩
  unfold ehren_table_reply r33_Answer
  exact key v.length 0 (by omega) (by omega)
theorem agr_step {k : Int} (hk : Agr k) (hk0 : 0 ≤ k) (hk1 : k ≤ 50) : Agr (k + 1) := by
  intro u v a b hu hv hab ha
  have second : ∀ (m : Nat) (q : Int), 0 ≤ q → q + m = v.length → (ehren_table_wins_L7 ehren_table_wins (u, v, a, b, ()) (k + 1) (v, u, b, a, ()) 1 (ehren_table_wins_L4 ehren_table_wins (u, v, a, b, ()) (k + 1) (v, u, b, a, ())) q = some false ∧ r33_Wins_L10 r33_Wins u v a b (k + 1) q = some false) ∨
      (ehren_table_wins_L7 ehren_table_wins (u, v, a, b, ()) (k + 1) (v, u, b, a, ()) 1 (ehren_table_wins_L4 ehren_table_wins (u, v, a, b, ()) (k + 1) (v, u, b, a, ())) q = some true ∧ r33_Wins_L10 r33_Wins u v a b (k + 1) q = some true) := by
    intro m
    induction m with
    | zero =>
      intro q q0 hq
      refine .inr ⟨?_, ?_⟩
      · rw [ehren_table_wins_L7_eq]; unfold ehren_table_wins_L7_B
        rw [if_neg (by simp [ix]; omega), G_pos (by unfold _root_.Go.Ab.fits; omega), ehren_table_wins_L4_eq]; unfold ehren_table_wins_L4_B
        rw [if_neg (by simp)]
      · rw [r33_Wins_L10_eq]; unfold r33_Wins_L10_B
        rw [if_neg (by simp only [decide_eq_true_eq]; omega)]
    | succ m ih =>
      intro q q0 hq
      obtain ⟨x, hx, e1, e2⟩ := reply_spec hk (u := v) (v := u) (a := b) (b := a) (p := q) hv hu hab.symm (by omega) hk0 q0 (by omega)
      have pro : ehren_table_wins_L7 ehren_table_wins (u, v, a, b, ()) (k + 1) (v, u, b, a, ()) 1 (ehren_table_wins_L4 ehren_table_wins (u, v, a, b, ()) (k + 1) (v, u, b, a, ())) q = if x < 0 then some false else ehren_table_wins_L7 ehren_table_wins (u, v, a, b, ()) (k + 1) (v, u, b, a, ()) 1 (ehren_table_wins_L4 ehren_table_wins (u, v, a, b, ()) (k + 1) (v, u, b, a, ())) (q + 1) := by
        conv => lhs; rw [ehren_table_wins_L7_eq]; unfold ehren_table_wins_L7_B
        rw [if_pos (by simp [ix]; omega), G_pos (by unfold _root_.Go.Ab.fits; omega), show k + 1 - 1 = k by omega]
        refine bind_to e1 ?_
        by_cases h : x < 0
        · rw [if_pos h, if_pos h, if_pos (by simp)]
        · rw [if_neg h, if_neg h, if_neg (by simp), G_pos (by unfold _root_.Go.Ab.fits; omega)]
      have ref : r33_Wins_L10 r33_Wins u v a b (k + 1) q = if x < 0 then some false else r33_Wins_L10 r33_Wins u v a b (k + 1) (q + 1) := by
        conv => lhs; rw [r33_Wins_L10_eq]; unfold r33_Wins_L10_B
        rw [if_pos (decide_eq_true (by omega)), G_pos (by unfold _root_.Go.Ab.fits; omega), show k + 1 - 1 = k by omega]
        refine bind_to e2 ?_
        by_cases h : x < 0
        · rw [if_pos (decide_eq_true h), if_pos h]
        · rw [if_neg (by simpa using h), if_neg h, G_pos (by unfold _root_.Go.Ab.fits; omega)]
      rw [pro, ref]
      by_cases h : x < 0
      · rw [if_pos h, if_pos h]; exact .inl ⟨rfl, rfl⟩
      · rw [if_neg h, if_neg h]; exact ih (q + 1) (by omega) (by omega)
  have first : ∀ (m : Nat) (p : Int), 0 ≤ p → p + m = u.length → (ehren_table_wins_L7 ehren_table_wins (u, v, a, b, ()) (k + 1) (v, u, b, a, ()) 0 (ehren_table_wins_L4 ehren_table_wins (u, v, a, b, ()) (k + 1) (v, u, b, a, ())) p = some false ∧ r33_Wins_L4 r33_Wins u v a b (k + 1) p = some false) ∨
      (ehren_table_wins_L7 ehren_table_wins (u, v, a, b, ()) (k + 1) (v, u, b, a, ()) 0 (ehren_table_wins_L4 ehren_table_wins (u, v, a, b, ()) (k + 1) (v, u, b, a, ())) p = ehren_table_wins_L4 ehren_table_wins (u, v, a, b, ()) (k + 1) (v, u, b, a, ()) 1 ∧ r33_Wins_L4 r33_Wins u v a b (k + 1) p = r33_Wins_L10 r33_Wins u v a b (k + 1) 0) := by
    intro m
    induction m with
    | zero =>
      intro p p0 hp
      refine .inr ⟨?_, ?_⟩
      · rw [ehren_table_wins_L7_eq]; unfold ehren_table_wins_L7_B
        rw [if_neg (by simp [ix]; omega), G_pos (by unfold _root_.Go.Ab.fits; omega)]; rfl
      · rw [r33_Wins_L4_eq]; unfold r33_Wins_L4_B
        rw [if_neg (by simp only [decide_eq_true_eq]; omega)]
    | succ m ih =>
      intro p p0 hp
      obtain ⟨x, hx, e1, e2⟩ := reply_spec hk (u := u) (v := v) (a := a) (b := b) (p := p) hu hv hab (by omega) hk0 p0 (by omega)
      have pro : ehren_table_wins_L7 ehren_table_wins (u, v, a, b, ()) (k + 1) (v, u, b, a, ()) 0 (ehren_table_wins_L4 ehren_table_wins (u, v, a, b, ()) (k + 1) (v, u, b, a, ())) p = if x < 0 then some false else ehren_table_wins_L7 ehren_table_wins (u, v, a, b, ()) (k + 1) (v, u, b, a, ()) 0 (ehren_table_wins_L4 ehren_table_wins (u, v, a, b, ()) (k + 1) (v, u, b, a, ())) (p + 1) := by
        conv => lhs; rw [ehren_table_wins_L7_eq]; unfold ehren_table_wins_L7_B
        rw [if_pos (by simp [ix]; omega), G_pos (by unfold _root_.Go.Ab.fits; omega), show k + 1 - 1 = k by omega]
        refine bind_to e1 ?_
        by_cases h : x < 0
        · rw [if_pos h, if_pos h, if_pos (by simp)]
        · rw [if_neg h, if_neg h, if_neg (by simp), G_pos (by unfold _root_.Go.Ab.fits; omega)]
      have ref : r33_Wins_L4 r33_Wins u v a b (k + 1) p = if x < 0 then some false else r33_Wins_L4 r33_Wins u v a b (k + 1) (p + 1) := by
        conv => lhs; rw [r33_Wins_L4_eq]; unfold r33_Wins_L4_B
        rw [if_pos (decide_eq_true (by omega)), G_pos (by unfold _root_.Go.Ab.fits; omega), show k + 1 - 1 = k by omega]
        refine bind_to e2 ?_
        by_cases h : x < 0
        · rw [if_pos (decide_eq_true h), if_pos h]
        · rw [if_neg (by simpa using h), if_neg h, G_pos (by unfold _root_.Go.Ab.fits; omega)]
      rw [pro, ref]
      by_cases h : x < 0
      · rw [if_pos h, if_pos h]; exact .inl ⟨rfl, rfl⟩
      · rw [if_neg h, if_neg h]; exact ih (p + 1) (by omega) (by omega)
  have e0 : ehren_table_wins (u, v, a, b, ()) (k + 1) = ehren_table_wins_L7 ehren_table_wins (u, v, a, b, ()) (k + 1) (v, u, b, a, ()) 0 (ehren_table_wins_L4 ehren_table_wins (u, v, a, b, ()) (k + 1) (v, u, b, a, ())) 0 := by
    rw [ehren_table_wins_eq]; unfold ehren_table_wins_B
    rw [if_neg (by simp only [decide_eq_true_eq]; omega)]
    refine bind_to (y := (v, u, b, a, ())) rfl ?_
    rw [ehren_table_wins_L4_eq]; unfold ehren_table_wins_L4_B
    rw [if_pos (by simp), G_pos (by simp), G_pos (by simp)]
  have e1 : r33_Wins u v a b (k + 1) = r33_Wins_L4 r33_Wins u v a b (k + 1) 0 := by
    rw [r33_Wins_eq]; unfold r33_Wins_B
    rw [if_neg (by simp only [decide_eq_true_eq]; omega)]
  rw [e0, e1]
  rcases first u.length 0 (by omega) (by omega) with ⟨h1, h2⟩ | ⟨h1, h2⟩
  · exact ⟨false, h1, h2⟩
  · rw [h1, h2]
    have e2 : ehren_table_wins_L4 ehren_table_wins (u, v, a, b, ()) (k + 1) (v, u, b, a, ()) 1 = ehren_table_wins_L7 ehren_table_wins (u, v, a, b, ()) (k + 1) (v, u, b, a, ()) 1 (ehren_table_wins_L4 ehren_table_wins (u, v, a, b, ()) (k + 1) (v, u, b, a, ())) 0 := by
      rw [ehren_table_wins_L4_eq]; unfold ehren_table_wins_L4_B
      rw [if_pos (by simp), G_pos (by simp), G_pos (by simp)]
    rw [e2]
    rcases second v.length 0 (by omega) (by omega) with ⟨h1, h2⟩ | ⟨h1, h2⟩
    · exact ⟨false, h1, h2⟩
    · exact ⟨true, h1, h2⟩
theorem agr_all : ∀ k : Nat, k ≤ 50 → Agr k
  | 0, _ => fun u v a b _ _ _ _ => ⟨true, by
      rw [ehren_table_wins_eq]; unfold ehren_table_wins_B
      rw [if_pos (by simp)], by
      rw [r33_Wins_eq]; unfold r33_Wins_B
      rw [if_pos (by simp)]⟩
  | k + 1, h => by
    have := agr_step (agr_all k (by omega)) (by omega) (by omega)
    exact this
theorem r33_word_spec (w : List Int) : r33_word w = some (mayE 2 w) := by
  unfold r33_word
  by_cases h : (60 : Int) < w.length
  · rw [if_pos (decide_eq_true h), mayE_size (by omega) h]
  · rw [if_neg (by simpa using h)]
    have key : ∀ (m : Nat) (i : Int), 0 ≤ i → i + m = w.length → (∀ j : Int, 0 ≤ j → j < i → 0 ≤ ix w j ∧ ix w j < 2) → r33_word_L4 w i = some (mayE 2 w) := by
      intro m
      induction m with
      | zero =>
        intro i i0 hi hj
        rw [r33_word_L4_eq]; unfold r33_word_L4_B
        rw [if_neg (by simp only [decide_eq_true_eq]; omega), mayE_ok (by omega) (by omega) (fun j a b => hj j a (by omega))]
      | succ m ih =>
        intro i i0 hi hj
        rw [r33_word_L4_eq]; unfold r33_word_L4_B
        (try dsimp only); (repeat' first | (with_reducible refine G_to ?_ ?_; focus (first | omega | (unfold fits; omega) | (unfold room; (try simp only [List.length_append, List.length_cons, List.length_nil]); omega))) | (with_reducible refine both_to ?_ ?_) | (with_reducible refine itet_to ?_) | (with_reducible refine itef_to ?_) | (with_reducible refine ite_to (fun _ => ?_) (fun _ => ?_))) <;> try (exfalso; omega)
        · rw [mayE_bad (i := i) (by omega) (by omega) (by omega) (by omega)]
        · exact ih _ (by omega) (by omega) (fun j a b => by
            by_cases e : j = i
            · rw [e]; omega
            · exact hj j a (by omega))
        · exact ih _ (by omega) (by omega) (fun j a b => by
            by_cases e : j = i
            · rw [e]; omega
            · exact hj j a (by omega))
    exact key w.length 0 (by omega) (by omega) (fun j a b => by omega)
def ckE (u v : List Int) (k : Int) : Int := if mayE 2 u = 0 then if mayE 2 v = 0 then if 8 < u.length then 1 else if 8 < v.length then 1 else if k < 0 then 2 else if 3 < k then 2 else 0 else mayE 2 v else mayE 2 u
theorem r33_Check_spec (u v : List Int) (k : Int) : r33_Check u v k = some (ckE u v k) := by
  unfold r33_Check ckE
  refine bind_to (r33_word_spec u) (bind_to (r33_word_spec v) ?_)
  by_cases h1 : mayE 2 u = 0
  · rw [if_pos h1, if_neg (by simpa using h1)]
    by_cases h2 : mayE 2 v = 0
    · rw [if_pos h2, if_neg (by simpa using h2)]
      (try dsimp only); (repeat' first | (with_reducible refine G_to ?_ ?_; focus (first | omega | (unfold fits; omega) | (unfold room; (try simp only [List.length_append, List.length_cons, List.length_nil]); omega))) | (with_reducible refine both_to ?_ ?_) | (with_reducible refine itet_to ?_) | (with_reducible refine itef_to ?_) | (with_reducible refine ite_to (fun _ => ?_) (fun _ => ?_))) <;> try (exfalso; omega)
      all_goals (repeat' first | rw [if_pos (by omega)] | rw [if_neg (by omega)])
    · rw [if_neg h2, if_pos (by simpa using h2)]
  · rw [if_neg h1, if_pos (by simpa using h1)]
theorem checked_spec (u v : List Int) (k : Int) : ehren_checked u v k = some (ckE u v k) := by
  unfold ehren_checked
  rw [ehren_checked_L2_eq]; unfold ehren_checked_L2_B
  rw [if_pos (by simp), G_pos (by simp), G_pos (by simp)]
  refine bind_to (word_May_spec (letters := 2) (w := u)) ?_
  unfold ckE
  by_cases h1 : mayE 2 u = 0
  · rw [if_pos h1, if_neg (by simpa using h1), G_pos (by unfold _root_.Go.Ab.fits; omega), ehren_checked_L2_eq]; unfold ehren_checked_L2_B
    rw [if_pos (by simp), G_pos (by simp), G_pos (by simp)]
    refine bind_to (word_May_spec (letters := 2) (w := v)) ?_
    by_cases h2 : mayE 2 v = 0
    · rw [if_pos h2, if_neg (by simpa using h2), G_pos (by unfold _root_.Go.Ab.fits; omega), ehren_checked_L2_eq]; unfold ehren_checked_L2_B
      rw [if_neg (by simp)]
      (try dsimp only); (repeat' first | (with_reducible refine G_to ?_ ?_; focus (first | omega | (unfold fits; omega) | (unfold room; (try simp only [List.length_append, List.length_cons, List.length_nil]); omega))) | (with_reducible refine both_to ?_ ?_) | (with_reducible refine itet_to ?_) | (with_reducible refine itef_to ?_) | (with_reducible refine ite_to (fun _ => ?_) (fun _ => ?_))) <;> try (exfalso; omega)
      all_goals (repeat' first | rw [if_pos (by omega)] | rw [if_neg (by omega)])
    · rw [if_neg h2, if_pos (by simpa using h2)]
  · rw [if_neg h1, if_pos (by simpa using h1)]
theorem law_true (u v : List Int) (k place : Int) : law_EhrenWins u v k place = some true := by
  unfold law_EhrenWins
  by_cases h : ckE u v k = 0
  · have hc : u.length ≤ 8 ∧ v.length ≤ 8 ∧ 0 ≤ k ∧ k ≤ 3 := by
      unfold ckE at h
      by_cases h1 : mayE 2 u = 0
      · rw [if_pos h1] at h
        by_cases h2 : mayE 2 v = 0
        · rw [if_pos h2] at h
          split at h
          · omega
          · split at h
            · omega
            · split at h
              · omega
              · split at h
                · omega
                · omega
        · rw [if_neg h2] at h; exact absurd h h2
      · rw [if_neg h1] at h; exact absurd h h1
    obtain ⟨hu, hv, k0, k3⟩ := hc
    have hA := agr_all k.toNat (by omega)
    rw [Int.toNat_of_nonneg k0] at hA
    obtain ⟨bb, b1, b2⟩ := hA u v [] [] hu hv rfl (by simp; omega)
    have eW : ehren_Wins u v k = some (bb, 0) := by
      unfold ehren_Wins
      refine bind_to (checked_spec u v k) ?_
      rw [if_neg (by simpa using h)]
      exact bind_to b1 rfl
    refine bind_to eW ?_
    by_cases hA : k = 0 ∨ place < 0 ∨ (u.length : Int) ≤ place
    · have eR : ehren_Reply u v k place = some (0, false, 2) := by
        unfold ehren_Reply
        refine bind_to (checked_spec u v k) ?_
        rw [if_neg (by simpa using h)]
        by_cases c1 : k = 0
        · rw [if_pos (decide_eq_true c1)]
        rw [if_neg (by simpa using c1)]
        by_cases c2 : place < 0
        · rw [if_pos (decide_eq_true c2)]
        rw [if_neg (by simpa using c2), if_pos (decide_eq_true (by omega))]
      refine bind_to eR (bind_to (r33_Check_spec u v k) ?_)
      rw [if_neg (by simpa using h)]
      refine bind_to b2 ?_
      rw [if_neg (by simp), if_neg (by simp)]
      by_cases c1 : k = 0
      · rw [if_pos (decide_eq_true c1), if_pos (by simp), if_pos (by simp)]; simp
      rw [if_neg (by simpa using c1)]
      by_cases c2 : place < 0
      · rw [if_pos (decide_eq_true c2), if_pos (by simp), if_pos (by simp)]; simp
      rw [if_neg (by simpa using c2), if_pos (decide_eq_true (by omega)), if_pos (by simp), if_pos (by simp)]; simp
    · have hk := agr_all (k - 1).toNat (by omega)
      rw [Int.toNat_of_nonneg (by omega)] at hk
      obtain ⟨x, hx, x1, x2⟩ := reply_spec hk (u := u) (v := v) (a := []) (b := []) (p := place) hu hv rfl (by simp; omega) (by omega) (by omega) (by omega)
      have eR : ehren_Reply u v k place = some (if x < 0 then (0, false, 0) else (x, true, 0)) := by
        unfold ehren_Reply
        refine bind_to (checked_spec u v k) ?_
        rw [if_neg (by simpa using h), if_neg (by simp only [decide_eq_true_eq]; omega), if_neg (by simp only [decide_eq_true_eq]; omega), if_neg (by simp only [decide_eq_true_eq]; omega), G_pos (by unfold _root_.Go.Ab.fits; omega)]
        refine bind_to x1 ?_
        by_cases c : x < 0
        · rw [if_pos c, if_pos c]
        · rw [if_neg c, if_neg c]
      refine bind_to eR (bind_to (r33_Check_spec u v k) ?_)
      rw [if_neg (by simpa using h)]
      refine bind_to b2 ?_
      rw [if_neg (by simp), if_neg (by simp), if_neg (by simp only [decide_eq_true_eq]; omega), if_neg (by simp only [decide_eq_true_eq]; omega), if_neg (by simp only [decide_eq_true_eq]; omega), G_pos (by unfold _root_.Go.Ab.fits; omega)]
      refine bind_to x2 ?_
      by_cases c : x < 0
      · rw [if_pos (decide_eq_true c), if_pos c, if_pos (by simp), if_pos (by simp)]; simp
      · rw [if_neg (by simpa using c), if_neg c, if_pos (by simp), if_pos (by simp)]; simp
  · have eW : ehren_Wins u v k = some (false, ckE u v k) := by
      unfold ehren_Wins
      refine bind_to (checked_spec u v k) ?_
      rw [if_pos (by simpa using h)]
    have eR : ehren_Reply u v k place = some (0, false, ckE u v k) := by
      unfold ehren_Reply
      refine bind_to (checked_spec u v k) ?_
      rw [if_pos (by simpa using h)]
    refine bind_to eW (bind_to eR (bind_to (r33_Check_spec u v k) ?_))
    rw [if_pos (by simpa using h), if_pos (by simp), if_pos (by simp), if_pos (by simp), if_pos (by simp)]; simp

end Go.Proofs.Ytmnpdkeigdaelaa.ehrenWinsW
