/- The law 'TransRuns' of the plain functions. -/
import Derived.Test.YtiamohlhhcafdaaTransRunsD
set_option maxHeartbeats 1000000
set_option maxRecDepth 20000
set_option linter.unusedSimpArgs false
set_option linter.unusedVariables false
namespace Go.Proofs.Ytiamohlhhcafdaa.transRunsW
open Go Go.Ab
/-- The answer is yes just if P. -/
def Tells (o : Option Bool) (P : Prop) : Prop := ∃ b, o = some b ∧ (b = true ↔ P)
theorem Tells.of {b : Bool} {P : Prop} (h : b = true ↔ P) : Tells (some b) P := ⟨b, rfl, h⟩
theorem Tells.dec {P Q : Prop} [Decidable P] (h : P ↔ Q) : Tells (some (decide P)) Q := ⟨_, rfl, by simpa using h⟩
theorem Tells.iff {o : Option Bool} {P Q : Prop} (h : Tells o P) (k : P ↔ Q) : Tells o Q := let ⟨b, h1, h2⟩ := h; ⟨b, h1, h2.trans k⟩
theorem Tells.eq {o : Option Bool} {P : Prop} [Decidable P] (h : Tells o P) : o = some (decide P) := by
  obtain ⟨b, rfl, hb⟩ := h
  by_cases hp : P
  · simp [hp, hb.2 hp]
  · have : b = false := by cases b; rfl; exact absurd (hb.1 rfl) hp
    simp [hp, this]
theorem Tells.to {R : Type} {o : Option Bool} {P : Prop} {k1 k2 x : Option R} (h : Tells o P) (h1 : P → k1 = x) (h2 : ¬ P → k2 = x) : (o.bind fun y => if y = true then k1 else k2) = x := by
  obtain ⟨b, rfl, hb⟩ := h
  refine bind_to rfl ?_
  cases b
  · exact h2 fun hp => by simpa using hb.2 hp
  · exact h1 (hb.1 rfl)
theorem Tells.bind {R : Type} {o : Option Bool} {P : Prop} {k : Bool → Option R} {x : Option R} (h : Tells o P) (h1 : ∀ b, (b = true ↔ P) → k b = x) : o.bind k = x := by
  obtain ⟨b, rfl, hb⟩ := h
  exact h1 b hb
section
variable {α C : Type} [Inhabited α]
theorem ex_ix {l : List α} {P : α → Prop} : (∃ x ∈ l, P x) ↔ ∃ i : Int, 0 ≤ i ∧ i < l.length ∧ P (ix l i) := by
  constructor
  · rintro ⟨x, hx, hp⟩
    obtain ⟨i, hi, rfl⟩ := List.mem_iff_getElem.1 hx
    refine ⟨i, by omega, by omega, ?_⟩
    rwa [ix_eq (by omega) (by omega)]
  · rintro ⟨i, h0, h1, hp⟩
    exact ⟨_, ix_mem h0 h1, hp⟩
theorem index_loop {s : List α} {f : α → Option Bool} {L : Int → Option Int} {P : α → Prop} (hs : s.length ≤ 4611686018427387904)
    (hL : ∀ t, L t = if decide (t < (s.length : Int)) = true then G (0 ≤ t ∧ t < (s.length : Int)) ((f (ix s t)).bind fun y => if y = true then some t else G (fits (t + 1)) (L (t + 1))) else some (-1))
    (hf : ∀ x ∈ s, Tells (f x) (P x)) : ∀ (n : Nat) (t : Int), 0 ≤ t → t ≤ s.length → (s.length - t).toNat = n →
      ∃ i, L t = some i ∧ ((i = -1 ∧ ∀ j : Int, t ≤ j → j < s.length → ¬ P (ix s j)) ∨ (t ≤ i ∧ i < s.length ∧ P (ix s i) ∧ ∀ j : Int, t ≤ j → j < i → ¬ P (ix s j))) := by
  intro n
  induction n with
  | zero =>
    intro t h0 h1 hn
    refine ⟨-1, ?_, .inl ⟨rfl, fun j a b => by omega⟩⟩
    rw [hL, if_neg (by simp; omega)]
  | succ n ih =>
    intro t h0 h1 hn
    rw [hL, if_pos (by simp; omega), G_pos (by omega)]
    obtain ⟨b, hb, hbp⟩ := hf _ (ix_mem h0 (by omega : t < s.length))
    rw [hb]
    cases b with
    | true => exact ⟨t, rfl, .inr ⟨by omega, by omega, hbp.1 rfl, fun j a b => by omega⟩⟩
    | false =>
      have hnp : ¬ P (ix s t) := fun hp => by simpa using hbp.2 hp
      obtain ⟨i, hi, hc⟩ := ih (t + 1) (by omega) (by omega) (by omega)
      refine ⟨i, ?_, ?_⟩
      · refine (if_neg (by simp) : (if false = true then some t else G (fits (t + 1)) (L (t + 1))) = _).trans ?_
        rw [G_pos (by unfold fits; omega), hi]
      · rcases hc with ⟨h2, h3⟩ | ⟨h2, h3, h4, h5⟩
        · refine .inl ⟨h2, fun j a b => ?_⟩
          by_cases e : j = t
          · rw [e]; exact hnp
          · exact h3 j (by omega) b
        · refine .inr ⟨by omega, h3, h4, fun j a b => ?_⟩
          by_cases e : j = t
          · rw [e]; exact hnp
          · exact h5 j (by omega) b
theorem contains_tells {s : List α} {f : α → Option Bool} {L : Int → Option Int} {P : α → Prop}
    (hL : ∀ t, L t = if decide (t < (s.length : Int)) = true then G (0 ≤ t ∧ t < (s.length : Int)) ((f (ix s t)).bind fun y => if y = true then some t else G (fits (t + 1)) (L (t + 1))) else some (-1))
    (hs : s.length ≤ 4611686018427387904) (hf : ∀ x ∈ s, Tells (f x) (P x)) : Tells ((L 0).bind fun y => some (decide ((0 : Int) ≤ y))) (∃ x ∈ s, P x) := by
  obtain ⟨i, hi, hc⟩ := index_loop hs hL hf _ 0 (by omega) (by omega) rfl
  rw [hi]
  refine ⟨decide (0 ≤ i), rfl, ?_⟩
  rw [decide_eq_true_iff, ex_ix]
  rcases hc with ⟨h2, h3⟩ | ⟨h2, h3, h4, h5⟩
  · constructor
    · intro h; omega
    · rintro ⟨j, h0, h1, hp⟩; exact absurd hp (h3 j h0 h1)
  · exact ⟨fun _ => ⟨i, by omega, h3, h4⟩, fun _ => by omega⟩
/-- .. of what carries along what it reads. -/
theorem contains_tells2 {s : List α} {c : C} {f : α → C → Option (Bool × C)} {L : Int → C → Option (Int × C)} {P : α → Prop}
    (hL : ∀ t c, L t c = if decide (t < (s.length : Int)) = true then G (0 ≤ t ∧ t < (s.length : Int)) ((f (ix s t) c).bind fun y => if y.1 = true then some (t, y.2) else G (fits (t + 1)) (L (t + 1) y.2)) else some (-1, c))
    (hs : s.length ≤ 4611686018427387904) (hf : ∀ x ∈ s, ∃ b, f x c = some (b, c) ∧ (b = true ↔ P x)) : ∃ b, ((L 0 c).bind fun y => some (decide ((0 : Int) ≤ y.1), y.2)) = some (b, c) ∧ (b = true ↔ ∃ x ∈ s, P x) := by
  have key : ∀ (n : Nat) (t : Int), 0 ≤ t → t ≤ s.length → (s.length - t).toNat = n →
      ∃ i, L t c = some (i, c) ∧ ((i = -1 ∧ ∀ j : Int, t ≤ j → j < s.length → ¬ P (ix s j)) ∨ (t ≤ i ∧ i < s.length ∧ P (ix s i))) := by
    intro n
    induction n with
    | zero =>
      intro t h0 h1 hn
      refine ⟨-1, ?_, .inl ⟨rfl, fun j a b => by omega⟩⟩
      rw [hL, if_neg (by simp; omega)]
    | succ n ih =>
      intro t h0 h1 hn
      rw [hL, if_pos (by simp; omega), G_pos (by omega)]
      obtain ⟨b, hb, hbp⟩ := hf _ (ix_mem h0 (by omega : t < s.length))
      rw [hb]
      cases b with
      | true => exact ⟨t, rfl, .inr ⟨by omega, by omega, hbp.1 rfl⟩⟩
      | false =>
        have hnp : ¬ P (ix s t) := fun hp => by simpa using hbp.2 hp
        obtain ⟨i, hi, hc⟩ := ih (t + 1) (by omega) (by omega) (by omega)
        refine ⟨i, ?_, ?_⟩
        · refine (if_neg (by simp) : (if false = true then some (t, c) else G (fits (t + 1)) (L (t + 1) c)) = _).trans ?_
          rw [G_pos (by unfold fits; omega), hi]
        · rcases hc with ⟨h2, h3⟩ | ⟨h2, h3, h4⟩
          · refine .inl ⟨h2, fun j a b => ?_⟩
            by_cases e : j = t
            · rw [e]; exact hnp
            · exact h3 j (by omega) b
          · exact .inr ⟨by omega, h3, h4⟩
  obtain ⟨i, hi, hc⟩ := key _ 0 (by omega) (by omega) rfl
  rw [hi]
  refine ⟨decide (0 ≤ i), rfl, ?_⟩
  rw [decide_eq_true_iff, ex_ix]
  rcases hc with ⟨h2, h3⟩ | ⟨h2, h3, h4⟩
  · constructor
    · intro h; omega
    · rintro ⟨j, h0, h1, hp⟩; exact absurd hp (h3 j h0 h1)
  · exact ⟨fun _ => ⟨i, by omega, h3, h4⟩, fun _ => by omega⟩
end
/-- A loop that looks for the first fault. -/
theorem scan_to {R : Type} {len : Int} {L : Int → Option R} {bad : Int → Prop} {x : Option R} {lo : Int} (h0 : lo ≤ len)
    (hs : ∀ t, lo ≤ t → t < len → (bad t → L t = x) ∧ (¬ bad t → L t = L (t + 1))) (hf : (∀ t, lo ≤ t → t < len → ¬ bad t) → L len = x) : L lo = x := by
  have key : ∀ (n : Nat) (t : Int), lo ≤ t → t ≤ len → (len - t).toNat = n → (∀ j, lo ≤ j → j < t → ¬ bad j) → L t = x := by
    intro n
    induction n with
    | zero =>
      intro t h1 h2 hn h
      obtain rfl : t = len := by omega
      exact hf h
    | succ n ih =>
      intro t h1 h2 hn h
      by_cases hb : bad t
      · exact (hs t h1 (by omega)).1 hb
      · rw [(hs t h1 (by omega)).2 hb]
        refine ih (t + 1) (by omega) (by omega) (by omega) fun j a b => ?_
        by_cases e : j = t
        · rw [e]; exact hb
        · exact h j a (by omega)
  exact key _ lo (Int.le_refl _) h0 rfl (fun j a b => by omega)
/-- A loop that counts, with a state. -/
theorem fold_to {R S : Type} {len : Int} {L : Int → S → Option R} {f : Int → S → S} {lo : Int} {I : Int → S → Prop} {s : S} (h0 : lo ≤ len) (hI : I lo s)
    (hs : ∀ t s, lo ≤ t → t < len → I t s → L t s = L (t + 1) (f t s) ∧ I (t + 1) (f t s)) : ∃ s', I len s' ∧ L lo s = L len s' := by
  have key : ∀ (n : Nat) (t : Int) (s : S), lo ≤ t → t ≤ len → (len - t).toNat = n → I t s → ∃ s', I len s' ∧ L t s = L len s' := by
    intro n
    induction n with
    | zero =>
      intro t s h1 h2 hn h
      obtain rfl : t = len := by omega
      exact ⟨s, h, rfl⟩
    | succ n ih =>
      intro t s h1 h2 hn h
      obtain ⟨e, h3⟩ := hs t s h1 (by omega) h
      obtain ⟨s', h4, h5⟩ := ih (t + 1) _ (by omega) (by omega) (by omega) h3
      exact ⟨s', h4, e.trans h5⟩
  exact key _ lo s (Int.le_refl _) h0 rfl hI

theorem r1_May_L6_spec {letters : Int} {w : List Int} (hL : 1 ≤ letters ∧ letters ≤ 4) (hw : w.length ≤ (60 : Int)) : ∀ (n : Nat) (i : Int), 0 ≤ i → i ≤ w.length → (w.length - i).toNat = n → (∀ j : Int, 0 ≤ j → j < i → 0 ≤ ix w j ∧ ix w j < letters) → r1_May_L6 letters w i = some (mayE letters w) := by
  intro n
  induction n with
  | zero =>
    intro i h0 h1 hn h
    rw [r1_May_L6_eq]; unfold r1_May_L6_B
    (try dsimp only); (repeat' first | (with_reducible refine G_to ?_ ?_; focus (first | omega | (unfold fits; omega) | (unfold room; (try simp only [List.length_append, List.length_cons, List.length_nil]); omega))) | (with_reducible refine both_to ?_ ?_) | (with_reducible refine itet_to ?_) | (with_reducible refine itef_to ?_) | (with_reducible refine ite_to (fun _ => ?_) (fun _ => ?_))) <;> try (exfalso; omega)
    · rw [mayE_ok hL hw (fun j a b => h j a (by omega))]
  | succ n ih =>
    intro i h0 h1 hn h
    rw [r1_May_L6_eq]; unfold r1_May_L6_B
    (try dsimp only); (repeat' first | (with_reducible refine G_to ?_ ?_; focus (first | omega | (unfold fits; omega) | (unfold room; (try simp only [List.length_append, List.length_cons, List.length_nil]); omega))) | (with_reducible refine both_to ?_ ?_) | (with_reducible refine itet_to ?_) | (with_reducible refine itef_to ?_) | (with_reducible refine ite_to (fun _ => ?_) (fun _ => ?_))) <;> try (exfalso; omega)
    · rw [mayE_bad hL hw (i := i) (by omega) (by omega)]
    · rw [mayE_bad hL hw (i := i) (by omega) (by omega)]
    · exact ih _ (by omega) (by omega) (by omega) (below_succ h (by omega))
theorem r1_May_spec {letters : Int} {w : List Int} : r1_May letters w = some (mayE letters w) := by
  unfold r1_May
  (try dsimp only); (repeat' first | (with_reducible refine G_to ?_ ?_; focus (first | omega | (unfold fits; omega) | (unfold room; (try simp only [List.length_append, List.length_cons, List.length_nil]); omega))) | (with_reducible refine both_to ?_ ?_) | (with_reducible refine itet_to ?_) | (with_reducible refine itef_to ?_) | (with_reducible refine ite_to (fun _ => ?_) (fun _ => ?_))) <;> try (exfalso; omega)
  · rw [mayE_range (by omega)]
  · rw [mayE_range (by omega)]
  · rw [mayE_size (by omega) (by omega)]
  · exact r1_May_L6_spec (by omega) (by omega) _ 0 (by omega) (by omega) rfl (fun j a b => by omega)

theorem word_May_L6_spec {letters : Int} {w : List Int} (hL : 1 ≤ letters ∧ letters ≤ 4) (hw : w.length ≤ (60 : Int)) : ∀ (n : Nat) (i : Int), 0 ≤ i → i ≤ w.length → (w.length - i).toNat = n → (∀ j : Int, 0 ≤ j → j < i → 0 ≤ ix w j ∧ ix w j < letters) → word_May_L6 letters w i = some (mayE letters w) := by
  intro n
  induction n with
  | zero =>
    intro i h0 h1 hn h
    rw [word_May_L6_eq]; unfold word_May_L6_B
    (try dsimp only); (repeat' first | (with_reducible refine G_to ?_ ?_; focus (first | omega | (unfold fits; omega) | (unfold room; (try simp only [List.length_append, List.length_cons, List.length_nil]); omega))) | (with_reducible refine both_to ?_ ?_) | (with_reducible refine itet_to ?_) | (with_reducible refine itef_to ?_) | (with_reducible refine ite_to (fun _ => ?_) (fun _ => ?_))) <;> try (exfalso; omega)
    · rw [mayE_ok hL hw (fun j a b => h j a (by omega))]
  | succ n ih =>
    intro i h0 h1 hn h
    rw [word_May_L6_eq]; unfold word_May_L6_B
    (try dsimp only); (repeat' first | (with_reducible refine G_to ?_ ?_; focus (first | omega | (unfold fits; omega) | (unfold room; (try simp only [List.length_append, List.length_cons, List.length_nil]); omega))) | (with_reducible refine both_to ?_ ?_) | (with_reducible refine itet_to ?_) | (with_reducible refine itef_to ?_) | (with_reducible refine ite_to (fun _ => ?_) (fun _ => ?_))) <;> try (exfalso; omega)
    · rw [mayE_bad hL hw (i := i) (by omega) (by omega)]
    · rw [mayE_bad hL hw (i := i) (by omega) (by omega)]
    · exact ih _ (by omega) (by omega) (by omega) (below_succ h (by omega))
theorem word_May_spec {letters : Int} {w : List Int} : word_May letters w = some (mayE letters w) := by
  unfold word_May
  (try dsimp only); (repeat' first | (with_reducible refine G_to ?_ ?_; focus (first | omega | (unfold fits; omega) | (unfold room; (try simp only [List.length_append, List.length_cons, List.length_nil]); omega))) | (with_reducible refine both_to ?_ ?_) | (with_reducible refine itet_to ?_) | (with_reducible refine itef_to ?_) | (with_reducible refine ite_to (fun _ => ?_) (fun _ => ?_))) <;> try (exfalso; omega)
  · rw [mayE_range (by omega)]
  · rw [mayE_range (by omega)]
  · rw [mayE_size (by omega) (by omega)]
  · exact word_May_L6_spec (by omega) (by omega) _ 0 (by omega) (by omega) rfl (fun j a b => by omega)

theorem r1_Words_L4_spec {a b : List Int} (hl : a.length = b.length) : ∀ (n : Nat) (i : Int), 0 ≤ i → i ≤ a.length → (a.length - i).toNat = n → a.length ≤ 2305843009213693951 → (∀ j : Int, 0 ≤ j → j < i → ix a j = ix b j) → r1_Words_L4 a b i = some (decide (a = b)) := by
  intro n
  induction n with
  | zero =>
    intro i h0 h1 hn hs h
    rw [r1_Words_L4_eq]; unfold r1_Words_L4_B
    (try dsimp only); (repeat' first | (with_reducible refine G_to ?_ ?_; focus (first | omega | (unfold fits; omega) | (unfold room; (try simp only [List.length_append, List.length_cons, List.length_nil]); omega))) | (with_reducible refine both_to ?_ ?_) | (with_reducible refine itet_to ?_) | (with_reducible refine itef_to ?_) | (with_reducible refine ite_to (fun _ => ?_) (fun _ => ?_))) <;> try (exfalso; omega)
    · rw [Option.some_inj, eq_comm, decide_eq_true_iff]; exact ix_ext hl (fun j a b => h j a (by omega))
  | succ n ih =>
    intro i h0 h1 hn hs h
    rw [r1_Words_L4_eq]; unfold r1_Words_L4_B
    (try dsimp only); (repeat' first | (with_reducible refine G_to ?_ ?_; focus (first | omega | (unfold fits; omega) | (unfold room; (try simp only [List.length_append, List.length_cons, List.length_nil]); omega))) | (with_reducible refine both_to ?_ ?_) | (with_reducible refine itet_to ?_) | (with_reducible refine itef_to ?_) | (with_reducible refine ite_to (fun _ => ?_) (fun _ => ?_))) <;> try (exfalso; omega)
    · rw [Option.some_inj, eq_comm, decide_eq_false_iff_not]; rintro rfl; contradiction
    · rename_i hx; exact ih _ (by omega) (by omega) (by omega) hs (below_succ h (Decidable.not_not.1 hx))
theorem r1_Words_spec {a b : List Int} (hs : a.length ≤ 2305843009213693951) : r1_Words a b = some (decide (a = b)) := by
  unfold r1_Words
  (try dsimp only); (repeat' first | (with_reducible refine G_to ?_ ?_; focus (first | omega | (unfold fits; omega) | (unfold room; (try simp only [List.length_append, List.length_cons, List.length_nil]); omega))) | (with_reducible refine both_to ?_ ?_) | (with_reducible refine itet_to ?_) | (with_reducible refine itef_to ?_) | (with_reducible refine ite_to (fun _ => ?_) (fun _ => ?_))) <;> try (exfalso; omega)
  · rw [Option.some_inj, eq_comm, decide_eq_false_iff_not]; rintro rfl; contradiction
  · exact r1_Words_L4_spec (by omega) _ 0 (by omega) (by omega) rfl hs (fun j a b => by omega)

/-- A walk over a table. -/
def stp (N : List (List Int)) (q a : Int) : Int := ix (ix N q) a
def wlk (N : List (List Int)) (q : Int) (w : List Int) : Int := w.foldl (stp N) q
/-- The places come by. -/
def trc (N : List (List Int)) : Int → List Int → List Int
  | _, [] => []
  | q, a :: w => stp N q a :: trc N (stp N q a) w
/-- A table of so many letters. -/
structure Tab (L : Int) (N : List (List Int)) : Prop where
  row : ∀ r ∈ N, (r.length : Int) = L
  to : ∀ r ∈ N, ∀ q ∈ r, 0 ≤ q ∧ q < N.length
theorem Tab.stpb {L : Int} {N : List (List Int)} (h : Tab L N) {q a : Int} (q0 : 0 ≤ q) (q1 : q < N.length) (a0 : 0 ≤ a) (a1 : a < L) : 0 ≤ stp N q a ∧ stp N q a < N.length := by
  have h1 := ix_mem q0 q1
  have h2 := h.row _ h1
  exact h.to _ h1 _ (ix_mem a0 (by omega))
theorem Tab.rowlen {L : Int} {N : List (List Int)} (h : Tab L N) {q : Int} (q0 : 0 ≤ q) (q1 : q < N.length) : ((ix N q).length : Int) = L := h.row _ (ix_mem q0 q1)
theorem Tab.wlkb {L : Int} {N : List (List Int)} (h : Tab L N) : ∀ {w : List Int} {q : Int}, 0 ≤ q → q < N.length → (∀ a ∈ w, 0 ≤ a ∧ a < L) → 0 ≤ wlk N q w ∧ wlk N q w < N.length
  | [], q, q0, q1, _ => ⟨q0, q1⟩
  | a :: w, q, q0, q1, hw => by
    have := h.stpb q0 q1 (hw a (by simp)).1 (hw a (by simp)).2
    exact Tab.wlkb h (q := stp N q a) (w := w) this.1 this.2 (fun b hb => hw b (by simp [hb]))
theorem Tab.trcb {L : Int} {N : List (List Int)} (h : Tab L N) : ∀ {w : List Int} {q : Int}, 0 ≤ q → q < N.length → (∀ a ∈ w, 0 ≤ a ∧ a < L) → ∀ p ∈ trc N q w, 0 ≤ p ∧ p < N.length
  | [], q, q0, q1, _, p, hp => by cases hp
  | a :: w, q, q0, q1, hw, p, hp => by
    have := h.stpb q0 q1 (hw a (by simp)).1 (hw a (by simp)).2
    rcases List.mem_cons.1 hp with rfl | hp
    · exact this
    · exact Tab.trcb h this.1 this.2 (fun b hb => hw b (by simp [hb])) p hp

theorem slices_Grow_spec {n : Int} (h0 : 0 ≤ n) (h : n * 8 ≤ 140737488355328) : slices_Grow n = some [] := by
  unfold slices_Grow
  (try dsimp only); (repeat' first | (with_reducible refine G_to ?_ ?_; focus (first | omega | (unfold fits; omega) | (unfold room; (try simp only [List.length_append, List.length_cons, List.length_nil]); omega))) | (with_reducible refine both_to ?_ ?_) | (with_reducible refine itet_to ?_) | (with_reducible refine itef_to ?_) | (with_reducible refine ite_to (fun _ => ?_) (fun _ => ?_))) <;> try (exfalso; omega)
  all_goals first | rfl | (rw [show ((0 : Int)).toNat = 0 from rfl, List.take_zero])
theorem slices_Concat_spec {ls : List (List Int)} (h : ls.length ≤ 1000) (hl : (ls.flatten.length : Int) * 8 ≤ 140737488355328) : slices_Concat ls = some ls.flatten := by
  have sum : ∀ (k : Nat), ((ls.take k).flatten.length : Int) ≤ ls.flatten.length := by
    intro k
    have : ls.flatten = (ls.take k).flatten ++ (ls.drop k).flatten := by rw [← List.flatten_append, List.take_append_drop]
    rw [this, List.length_append]; omega
  have tk : ∀ t : Int, 0 ≤ t → t < ls.length → (ls.take (t + 1).toNat).flatten = (ls.take t.toNat).flatten ++ ix ls t := fun t h0 h1 => by
    rw [ix_take h0 h1, List.flatten_append]; simp
  unfold slices_Concat
  have k2 : ∀ (n : Nat) (t : Int), (ls.length - t).toNat = n → 0 ≤ t → t ≤ ls.length → slices_Concat_L11 ls t (ls.take t.toNat).flatten = some ls.flatten := by
    intro n
    induction n with
    | zero =>
      intro t hn h0 h1
      rw [slices_Concat_L11_eq]; unfold slices_Concat_L11_B
      rw [List.take_of_length_le (by omega), if_neg (by simp only [decide_eq_true_eq]; omega)]
    | succ n ih =>
      intro t hn h0 h1
      have e := tk t h0 (by omega)
      have s := sum (t + 1).toNat
      rw [e, List.length_append] at s
      rw [slices_Concat_L11_eq]; unfold slices_Concat_L11_B
      (try dsimp only); (repeat' first | (with_reducible refine G_to ?_ ?_; focus (first | omega | (unfold fits; omega) | (unfold room; (try simp only [List.length_append, List.length_cons, List.length_nil]); omega))) | (with_reducible refine both_to ?_ ?_) | (with_reducible refine itet_to ?_) | (with_reducible refine itef_to ?_) | (with_reducible refine ite_to (fun _ => ?_) (fun _ => ?_))) <;> try (exfalso; omega)
      rw [← e]
      exact ih (t + 1) (by omega) (by omega) (by omega)
  have k1 : ∀ (n : Nat) (t : Int), (ls.length - t).toNat = n → 0 ≤ t → t ≤ ls.length → slices_Concat_L3 ls ((ls.take t.toNat).flatten.length : Int) t = some ls.flatten := by
    intro n
    induction n with
    | zero =>
      intro t hn h0 h1
      rw [slices_Concat_L3_eq]; unfold slices_Concat_L3_B
      rw [List.take_of_length_le (by omega), if_neg (by simp only [decide_eq_true_eq]; omega)]
      refine bind_to (slices_Grow_spec (by omega) hl) ?_
      have := k2 _ 0 rfl (by omega) (by omega)
      simpa using this
    | succ n ih =>
      intro t hn h0 h1
      have e := tk t h0 (by omega)
      have s := sum (t + 1).toNat
      have ih' := ih (t + 1) (by omega) (by omega) (by omega)
      rw [e, List.length_append] at s ih'
      rw [slices_Concat_L3_eq]; unfold slices_Concat_L3_B
      (try dsimp only); (repeat' first | (with_reducible refine G_to ?_ ?_; focus (first | omega | (unfold fits; omega) | (unfold room; (try simp only [List.length_append, List.length_cons, List.length_nil]); omega))) | (with_reducible refine both_to ?_ ?_) | (with_reducible refine itet_to ?_) | (with_reducible refine itef_to ?_) | (with_reducible refine ite_to (fun _ => ?_) (fun _ => ?_))) <;> try (exfalso; omega)
      rw [← ih']; congr 1
  have := k1 _ 0 rfl (by omega) (by omega)
  simpa using this

abbrev Tr := Int × Int × Int × (List Int) × (List (List Int)) × (List (List (List Int))) × (List (List Int)) × Unit
def tW (t : Tr) : List (List Int) := ([t.2.2.2.1] ++ t.2.2.2.2.2.2.1) ++ t.2.2.2.2.2.1.flatten
def TLet (t : Tr) : Prop := t.1 < 1 ∨ 4 < t.1 ∨ t.2.1 < 1 ∨ 4 < t.2.1
def TSize (t : Tr) : Prop := t.2.2.2.2.1.length < 1 ∨ 6 < t.2.2.2.2.1.length
def TNum (t : Tr) : Prop := ¬ t.2.2.2.2.2.1.length = t.2.2.2.2.1.length ∨ ¬ t.2.2.2.2.2.2.1.length = t.2.2.2.2.1.length
def TRow (t : Tr) : Prop := ∃ i : Int, 0 ≤ i ∧ i < t.2.2.2.2.1.length ∧ (¬ ((ix t.2.2.2.2.1 i).length : Int) = t.1 ∨ ¬ ((ix t.2.2.2.2.2.1 i).length : Int) = t.1)
def TTo (t : Tr) : Prop := (t.2.2.1 < 0 ∨ (t.2.2.2.2.1.length : Int) ≤ t.2.2.1) ∨ ∃ r ∈ t.2.2.2.2.1, ∃ q ∈ r, q < 0 ∨ (t.2.2.2.2.1.length : Int) ≤ q
def TLong (t : Tr) : Prop := ∃ w ∈ tW t, 8 < w.length
abbrev LBad (t : Tr) (w : List Int) : Prop := ∃ a ∈ w, a < 0 ∨ t.2.1 ≤ a
def TSay (t : Tr) : Prop := ∃ w ∈ tW t, LBad t w
open Classical in
noncomputable def trE (t : Tr) : Int := if TLet t then 2 else if TSize t then 1 else if TNum t then 3 else if TRow t then 3 else if TTo t then 2 else if TLong t then 1 else if TSay t then 2 else 0
theorem said_len {t : Tr} (h1 : t.2.2.2.2.1.length ≤ 6) (h2 : t.2.2.2.2.2.1.length = t.2.2.2.2.1.length) (h3 : t.1 ≤ 4) (hr : ∀ i : Int, 0 ≤ i → i < t.2.2.2.2.1.length → ((ix t.2.2.2.2.2.1 i).length : Int) = t.1) : ∀ k : Nat, (t.2.2.2.2.2.1.take k).flatten.length ≤ 24 := by
  intro k
  have key : ∀ (l : List (List (List Int))), (∀ r ∈ l, r.length ≤ 4) → l.flatten.length ≤ 4 * l.length := by
    intro l
    induction l with
    | nil => intro _; simp
    | cons r l ih =>
      intro h
      have a := h r (by simp)
      have b := ih (fun x hx => h x (by simp [hx]))
      rw [List.flatten_cons, List.length_append, List.length_cons]; omega
  have := key (t.2.2.2.2.2.1.take k) (fun r hr' => by
    have hr' := List.mem_of_mem_take hr'
    obtain ⟨i, i0, i1, rfl⟩ := (ex_ix (P := fun x => x = r)).1 ⟨r, hr', rfl⟩
    have := hr i i0 (by omega)
    omega)
  rw [List.length_take] at this
  omega
section
variable {t : Tr}
theorem trans_said_spec (h1 : t.2.2.2.2.1.length ≤ 6) (h2 : t.2.2.2.2.2.1.length = t.2.2.2.2.1.length) (h4 : t.2.2.2.2.2.2.1.length = t.2.2.2.2.1.length) (h3 : t.1 ≤ 4) (hr : ∀ i : Int, 0 ≤ i → i < t.2.2.2.2.1.length → ((ix t.2.2.2.2.2.1 i).length : Int) = t.1) : trans_said t = some (tW t) := by
  have hl := said_len h1 h2 h3 hr
  have tk : ∀ i : Int, 0 ≤ i → i < t.2.2.2.2.2.1.length → (t.2.2.2.2.2.1.take (i + 1).toNat).flatten = (t.2.2.2.2.2.1.take i.toNat).flatten ++ ix t.2.2.2.2.2.1 i := fun i h0 h1 => by
    rw [ix_take h0 h1, List.flatten_append]; simp
  have key : ∀ (n : Nat) (i : Int), (t.2.2.2.2.2.1.length - i).toNat = n → 0 ≤ i → i ≤ t.2.2.2.2.2.1.length → trans_said_L3 t i (([t.2.2.2.1] ++ t.2.2.2.2.2.2.1) ++ (t.2.2.2.2.2.1.take i.toNat).flatten) = some (tW t) := by
    intro n
    induction n with
    | zero =>
      intro i hn h0 h1
      rw [trans_said_L3_eq]; unfold trans_said_L3_B
      rw [List.take_of_length_le (by omega), if_neg (by simp only [decide_eq_true_eq]; omega)]; rfl
    | succ n ih =>
      intro i hn h0 h1
      have a := hl i.toNat
      have b := hr i h0 (by omega)
      rw [trans_said_L3_eq]; unfold trans_said_L3_B
      (try dsimp only); (repeat' first | (with_reducible refine G_to ?_ ?_; focus (first | omega | (unfold fits; omega) | (unfold room; (try simp only [List.length_append, List.length_cons, List.length_nil]); omega))) | (with_reducible refine both_to ?_ ?_) | (with_reducible refine itet_to ?_) | (with_reducible refine itef_to ?_) | (with_reducible refine ite_to (fun _ => ?_) (fun _ => ?_))) <;> try (exfalso; omega)
      rw [List.append_assoc, ← tk i h0 (by omega)]
      exact ih (i + 1) (by omega) (by omega) (by omega)
  have := key _ 0 rfl (by omega) (by omega)
  unfold trans_said
  (try dsimp only); (repeat' first | (with_reducible refine G_to ?_ ?_; focus (first | omega | (unfold fits; omega) | (unfold room; (try simp only [List.length_append, List.length_cons, List.length_nil]); omega))) | (with_reducible refine both_to ?_ ?_) | (with_reducible refine itet_to ?_) | (with_reducible refine itef_to ?_) | (with_reducible refine ite_to (fun _ => ?_) (fun _ => ?_))) <;> try (exfalso; omega)
  simpa using this
theorem r16_Words_spec (h1 : t.2.2.2.2.1.length ≤ 6) (h2 : t.2.2.2.2.2.1.length = t.2.2.2.2.1.length) (h4 : t.2.2.2.2.2.2.1.length = t.2.2.2.2.1.length) (h3 : t.1 ≤ 4) (hr : ∀ i : Int, 0 ≤ i → i < t.2.2.2.2.1.length → ((ix t.2.2.2.2.2.1 i).length : Int) = t.1) : r16_Words t = some (tW t) := by
  have hl := said_len h1 h2 h3 hr
  have tk : ∀ i : Int, 0 ≤ i → i < t.2.2.2.2.2.1.length → (t.2.2.2.2.2.1.take (i + 1).toNat).flatten = (t.2.2.2.2.2.1.take i.toNat).flatten ++ ix t.2.2.2.2.2.1 i := fun i h0 h1 => by
    rw [ix_take h0 h1, List.flatten_append]; simp
  have key : ∀ (n : Nat) (i : Int), (t.2.2.2.2.2.1.length - i).toNat = n → 0 ≤ i → i ≤ t.2.2.2.2.2.1.length → r16_Words_L5 t i (([t.2.2.2.1] ++ t.2.2.2.2.2.2.1) ++ (t.2.2.2.2.2.1.take i.toNat).flatten) = some (tW t) := by
    intro n
    induction n with
    | zero =>
      intro i hn h0 h1
      rw [r16_Words_L5_eq]; unfold r16_Words_L5_B
      rw [List.take_of_length_le (by omega), if_neg (by simp only [decide_eq_true_eq]; omega)]; rfl
    | succ n ih =>
      intro i hn h0 h1
      have a := hl i.toNat
      have b := hr i h0 (by omega)
      rw [r16_Words_L5_eq]; unfold r16_Words_L5_B
      (try dsimp only); (repeat' first | (with_reducible refine G_to ?_ ?_; focus (first | omega | (unfold fits; omega) | (unfold room; (try simp only [List.length_append, List.length_cons, List.length_nil]); omega))) | (with_reducible refine both_to ?_ ?_) | (with_reducible refine itet_to ?_) | (with_reducible refine itef_to ?_) | (with_reducible refine ite_to (fun _ => ?_) (fun _ => ?_))) <;> try (exfalso; omega)
      rw [List.append_assoc, ← tk i h0 (by omega)]
      exact ih (i + 1) (by omega) (by omega) (by omega)
  have := key _ 0 rfl (by omega) (by omega)
  unfold r16_Words
  (try dsimp only); (repeat' first | (with_reducible refine G_to ?_ ?_; focus (first | omega | (unfold fits; omega) | (unfold room; (try simp only [List.length_append, List.length_cons, List.length_nil]); omega))) | (with_reducible refine both_to ?_ ?_) | (with_reducible refine itet_to ?_) | (with_reducible refine itef_to ?_) | (with_reducible refine ite_to (fun _ => ?_) (fun _ => ?_))) <;> try (exfalso; omega)
  simpa using this
theorem tW_len (h1 : t.2.2.2.2.1.length ≤ 6) (h2 : t.2.2.2.2.2.1.length = t.2.2.2.2.1.length) (h4 : t.2.2.2.2.2.2.1.length = t.2.2.2.2.1.length) (h3 : t.1 ≤ 4) (hr : ∀ i : Int, 0 ≤ i → i < t.2.2.2.2.1.length → ((ix t.2.2.2.2.2.1 i).length : Int) = t.1) : (tW t).length ≤ 40 := by
  have hl := said_len h1 h2 h3 hr t.2.2.2.2.2.1.length
  rw [List.take_length] at hl
  unfold tW
  rw [List.length_append, List.length_append, List.length_singleton]; omega
theorem nn_tells (q n : Int) : Tells (trans_Check_1 q n) (q < 0 ∨ n ≤ q) := by
  unfold trans_Check_1
  by_cases h : q < 0
  · rw [if_pos (decide_eq_true h)]; exact Tells.of (by simp [h])
  · rw [if_neg (by simpa using h)]; exact Tells.dec (by omega)
theorem trans_Check_spec : trans_Check t = some (trE t) := by
  unfold trans_Check trE
  have e0 : ix [t.1, t.2.1] 0 = t.1 := rfl
  have e1 : ix [t.1, t.2.1] (0 + 1) = t.2.1 := rfl
  rw [trans_Check_L2_eq]; unfold trans_Check_L2_B
  rw [if_pos (by simp), G_pos (by simp), G_pos (by simp), e0]
  by_cases c1 : TLet t
  · rw [if_pos c1]; unfold TLet at c1
    (try dsimp only); (repeat' first | (with_reducible refine G_to ?_ ?_; focus (first | omega | (unfold fits; omega) | (unfold room; (try simp only [List.length_append, List.length_cons, List.length_nil]); omega))) | (with_reducible refine both_to ?_ ?_) | (with_reducible refine itet_to ?_) | (with_reducible refine itef_to ?_) | (with_reducible refine ite_to (fun _ => ?_) (fun _ => ?_))) <;> try (exfalso; omega)
    all_goals first | rfl | skip
    rw [trans_Check_L2_eq]; unfold trans_Check_L2_B
    rw [if_pos (by simp), G_pos (by simp), G_pos (by simp), e1]
    (try dsimp only); (repeat' first | (with_reducible refine G_to ?_ ?_; focus (first | omega | (unfold fits; omega) | (unfold room; (try simp only [List.length_append, List.length_cons, List.length_nil]); omega))) | (with_reducible refine both_to ?_ ?_) | (with_reducible refine itet_to ?_) | (with_reducible refine itef_to ?_) | (with_reducible refine ite_to (fun _ => ?_) (fun _ => ?_))) <;> try (exfalso; omega)
    all_goals rfl
  rw [if_neg c1]; unfold TLet at c1
  (try dsimp only); (repeat' first | (with_reducible refine G_to ?_ ?_; focus (first | omega | (unfold fits; omega) | (unfold room; (try simp only [List.length_append, List.length_cons, List.length_nil]); omega))) | (with_reducible refine both_to ?_ ?_) | (with_reducible refine itet_to ?_) | (with_reducible refine itef_to ?_) | (with_reducible refine ite_to (fun _ => ?_) (fun _ => ?_))) <;> try (exfalso; omega)
  rw [trans_Check_L2_eq]; unfold trans_Check_L2_B
  rw [if_pos (by simp), G_pos (by simp), G_pos (by simp), e1]
  (try dsimp only); (repeat' first | (with_reducible refine G_to ?_ ?_; focus (first | omega | (unfold fits; omega) | (unfold room; (try simp only [List.length_append, List.length_cons, List.length_nil]); omega))) | (with_reducible refine both_to ?_ ?_) | (with_reducible refine itet_to ?_) | (with_reducible refine itef_to ?_) | (with_reducible refine ite_to (fun _ => ?_) (fun _ => ?_))) <;> try (exfalso; omega)
  rw [trans_Check_L2_eq]; unfold trans_Check_L2_B
  rw [if_neg (by simp)]
  by_cases c2 : TSize t
  · rw [if_pos c2]; unfold TSize at c2
    (try dsimp only); (repeat' first | (with_reducible refine G_to ?_ ?_; focus (first | omega | (unfold fits; omega) | (unfold room; (try simp only [List.length_append, List.length_cons, List.length_nil]); omega))) | (with_reducible refine both_to ?_ ?_) | (with_reducible refine itet_to ?_) | (with_reducible refine itef_to ?_) | (with_reducible refine ite_to (fun _ => ?_) (fun _ => ?_))) <;> try (exfalso; omega)
    all_goals rfl
  rw [if_neg c2]; unfold TSize at c2
  by_cases c3 : TNum t
  · rw [if_pos c3]; unfold TNum at c3
    (try dsimp only); (repeat' first | (with_reducible refine G_to ?_ ?_; focus (first | omega | (unfold fits; omega) | (unfold room; (try simp only [List.length_append, List.length_cons, List.length_nil]); omega))) | (with_reducible refine both_to ?_ ?_) | (with_reducible refine itet_to ?_) | (with_reducible refine itef_to ?_) | (with_reducible refine ite_to (fun _ => ?_) (fun _ => ?_))) <;> try (exfalso; omega)
    all_goals rfl
  rw [if_neg c3]
  have c3s : t.2.2.2.2.2.1.length = t.2.2.2.2.1.length := Decidable.not_not.1 fun h => c3 (.inl h)
  have c3l : t.2.2.2.2.2.2.1.length = t.2.2.2.2.1.length := Decidable.not_not.1 fun h => c3 (.inr h)
  (try dsimp only); (repeat' first | (with_reducible refine G_to ?_ ?_; focus (first | omega | (unfold fits; omega) | (unfold room; (try simp only [List.length_append, List.length_cons, List.length_nil]); omega))) | (with_reducible refine both_to ?_ ?_) | (with_reducible refine itet_to ?_) | (with_reducible refine itef_to ?_) | (with_reducible refine ite_to (fun _ => ?_) (fun _ => ?_))) <;> try (exfalso; omega)
  refine scan_to (len := (t.2.2.2.2.1.length : Int)) (bad := fun i => ¬ ((ix t.2.2.2.2.1 i).length : Int) = t.1 ∨ ¬ ((ix t.2.2.2.2.2.1 i).length : Int) = t.1) (by omega) (fun i h0 h1 => ⟨fun hb => ?_, fun hb => ?_⟩) (fun hh => ?_)
  · rw [if_pos (show TRow t from ⟨i, h0, h1, hb⟩)]
    rw [trans_Check_L13_eq]; unfold trans_Check_L13_B
    (try dsimp only); (repeat' first | (with_reducible refine G_to ?_ ?_; focus (first | omega | (unfold fits; omega) | (unfold room; (try simp only [List.length_append, List.length_cons, List.length_nil]); omega))) | (with_reducible refine both_to ?_ ?_) | (with_reducible refine itet_to ?_) | (with_reducible refine itef_to ?_) | (with_reducible refine ite_to (fun _ => ?_) (fun _ => ?_))) <;> try (exfalso; omega)
    all_goals first | rfl | (exfalso; exact hb.elim (fun h => h (Decidable.not_not.1 ‹_›)) (fun h => h (Decidable.not_not.1 ‹_›)))
  · have hb1 : ((ix t.2.2.2.2.1 i).length : Int) = t.1 := Decidable.not_not.1 fun h => hb (.inl h)
    have hb2 : ((ix t.2.2.2.2.2.1 i).length : Int) = t.1 := Decidable.not_not.1 fun h => hb (.inr h)
    conv => lhs; rw [trans_Check_L13_eq]; unfold trans_Check_L13_B
    (try dsimp only); (repeat' first | (with_reducible refine G_to ?_ ?_; focus (first | omega | (unfold fits; omega) | (unfold room; (try simp only [List.length_append, List.length_cons, List.length_nil]); omega))) | (with_reducible refine both_to ?_ ?_) | (with_reducible refine itet_to ?_) | (with_reducible refine itef_to ?_) | (with_reducible refine ite_to (fun _ => ?_) (fun _ => ?_))) <;> try (exfalso; omega)
    all_goals rfl
  rw [if_neg (show ¬ TRow t from fun ⟨i, i0, i1, hb⟩ => hh i i0 i1 hb)]
  have hN : ∀ i : Int, 0 ≤ i → i < t.2.2.2.2.1.length → ((ix t.2.2.2.2.1 i).length : Int) = t.1 := fun i i0 i1 => Decidable.not_not.1 fun h => hh i i0 i1 (.inl h)
  have hS : ∀ i : Int, 0 ≤ i → i < t.2.2.2.2.1.length → ((ix t.2.2.2.2.2.1 i).length : Int) = t.1 := fun i i0 i1 => Decidable.not_not.1 fun h => hh i i0 i1 (.inr h)
  rw [trans_Check_L13_eq]; unfold trans_Check_L13_B
  rw [if_neg (by simp)]
  refine (nn_tells _ _).to (fun h => by rw [if_pos (show TTo t from .inl h)]) (fun h1 => ?_)
  obtain ⟨b, hb, hb2⟩ : ∃ b, slices_ContainsFunc t.2.2.2.2.1 (t.2.2.2.2.1.length : Int) = some (b, (t.2.2.2.2.1.length : Int)) ∧ (b = true ↔ ∃ r ∈ t.2.2.2.2.1, ∃ q ∈ r, q < 0 ∨ (t.2.2.2.2.1.length : Int) ≤ q) :=
    contains_tells2 (f := trans_Check_2) (slices_IndexFunc_L2_eq t.2.2.2.2.1) (by omega) (fun r hrm => by
      obtain ⟨i, i0, i1, rfl⟩ := (ex_ix (P := fun x => x = r)).1 ⟨r, hrm, rfl⟩
      have := hN i i0 i1
      obtain ⟨b, e, e2⟩ := contains_tells (f := fun q => trans_Check_1 q (t.2.2.2.2.1.length : Int)) (P := fun q => q < 0 ∨ (t.2.2.2.2.1.length : Int) ≤ q) (slices_IndexFunc_1_L2_eq (ix t.2.2.2.2.1 i) (t.2.2.2.2.1.length : Int)) (by omega) (fun x _ => nn_tells x _)
      exact ⟨b, bind_to e rfl, e2⟩)
  rw [hb]
  refine bind_to rfl ?_
  refine iteb_to (fun h => by rw [if_pos (show TTo t from .inr (hb2.1 h))]) (fun h2 => ?_)
  rw [if_neg (show ¬ TTo t from fun h => h.elim h1 (fun h => by rw [hb2.2 h] at h2; cases h2))]
  have hsaid := trans_said_spec (by omega) c3s c3l (by omega) hS
  have hwl := tW_len (by omega) c3s c3l (by omega) hS
  have k3 : Tells (trans_long t) (TLong t) := by
    unfold trans_long
    obtain ⟨b, e, e2⟩ := contains_tells (f := trans_long_1) (P := fun w => 8 < w.length) (slices_IndexFunc_2_L2_eq (tW t)) (by omega) (fun x _ => Tells.dec (by omega))
    exact ⟨b, bind_to hsaid (bind_to e rfl), e2⟩
  refine k3.to (fun h => by rw [if_pos h]) (fun h3 => ?_)
  rw [if_neg h3]
  refine bind_to hsaid ?_
  have k4 : ∀ w ∈ tW t, Tells (slices_ContainsFunc_3 w t) (LBad t w) := fun w hw => contains_tells (f := fun a => trans_Check_3 a t) (P := fun a => a < 0 ∨ t.2.1 ≤ a) (slices_IndexFunc_3_L2_eq w t) (by
      by_cases e : 8 < w.length
      · exact absurd ⟨w, hw, e⟩ h3
      · omega) (fun x _ => by
    unfold trans_Check_3
    by_cases h : x < 0
    · rw [if_pos (decide_eq_true h)]; exact Tells.of (by simp [h])
    · rw [if_neg (by simpa using h)]; exact Tells.dec (by omega))
  refine scan_to (len := ((tW t).length : Int)) (bad := fun i => LBad t (ix (tW t) i)) (by omega) (fun i h0 h1 => ⟨fun hb => ?_, fun hb => ?_⟩) (fun hh4 => ?_)
  · rw [if_pos (show TSay t from ex_ix.2 ⟨i, h0, h1, hb⟩)]
    rw [trans_Check_L24_eq]; unfold trans_Check_L24_B
    (try dsimp only); (repeat' first | (with_reducible refine G_to ?_ ?_; focus (first | omega | (unfold fits; omega) | (unfold room; (try simp only [List.length_append, List.length_cons, List.length_nil]); omega))) | (with_reducible refine both_to ?_ ?_) | (with_reducible refine itet_to ?_) | (with_reducible refine itef_to ?_) | (with_reducible refine ite_to (fun _ => ?_) (fun _ => ?_))) <;> try (exfalso; omega)
    exact (k4 _ (ix_mem h0 h1)).to (fun _ => rfl) (fun h => absurd hb h)
  · conv => lhs; rw [trans_Check_L24_eq]; unfold trans_Check_L24_B
    (try dsimp only); (repeat' first | (with_reducible refine G_to ?_ ?_; focus (first | omega | (unfold fits; omega) | (unfold room; (try simp only [List.length_append, List.length_cons, List.length_nil]); omega))) | (with_reducible refine both_to ?_ ?_) | (with_reducible refine itet_to ?_) | (with_reducible refine itef_to ?_) | (with_reducible refine ite_to (fun _ => ?_) (fun _ => ?_))) <;> try (exfalso; omega)
    refine (k4 _ (ix_mem h0 h1)).to (fun h => absurd h hb) (fun _ => ?_)
    (try dsimp only); (repeat' first | (with_reducible refine G_to ?_ ?_; focus (first | omega | (unfold fits; omega) | (unfold room; (try simp only [List.length_append, List.length_cons, List.length_nil]); omega))) | (with_reducible refine both_to ?_ ?_) | (with_reducible refine itet_to ?_) | (with_reducible refine itef_to ?_) | (with_reducible refine ite_to (fun _ => ?_) (fun _ => ?_))) <;> try (exfalso; omega)
    all_goals rfl
  · rw [if_neg (show ¬ TSay t from fun h => by obtain ⟨i, i0, i1, i2⟩ := ex_ix.1 h; exact hh4 i i0 i1 i2)]
    rw [trans_Check_L24_eq]; unfold trans_Check_L24_B
    rw [if_neg (by simp)]
theorem r16_letters_spec {w : List Int} {out : Int} (h : w.length ≤ 1000) : (∃ a ∈ w, a < 0 ∨ out ≤ a) ∧ r16_letters w out = some 2 ∨ ¬ (∃ a ∈ w, a < 0 ∨ out ≤ a) ∧ r16_letters w out = some 0 := by
  unfold r16_letters
  by_cases c : ∃ a ∈ w, a < 0 ∨ out ≤ a
  · refine .inl ⟨c, ?_⟩
    refine scan_to (len := (w.length : Int)) (bad := fun i => ix w i < 0 ∨ out ≤ ix w i) (by omega) (fun i h0 h1 => ⟨fun hb => ?_, fun hb => ?_⟩) (fun hh => ?_)
    · rw [r16_letters_L2_eq]; unfold r16_letters_L2_B
      (try dsimp only); (repeat' first | (with_reducible refine G_to ?_ ?_; focus (first | omega | (unfold fits; omega) | (unfold room; (try simp only [List.length_append, List.length_cons, List.length_nil]); omega))) | (with_reducible refine both_to ?_ ?_) | (with_reducible refine itet_to ?_) | (with_reducible refine itef_to ?_) | (with_reducible refine ite_to (fun _ => ?_) (fun _ => ?_))) <;> try (exfalso; omega)
      all_goals rfl
    · conv => lhs; rw [r16_letters_L2_eq]; unfold r16_letters_L2_B
      (try dsimp only); (repeat' first | (with_reducible refine G_to ?_ ?_; focus (first | omega | (unfold fits; omega) | (unfold room; (try simp only [List.length_append, List.length_cons, List.length_nil]); omega))) | (with_reducible refine both_to ?_ ?_) | (with_reducible refine itet_to ?_) | (with_reducible refine itef_to ?_) | (with_reducible refine ite_to (fun _ => ?_) (fun _ => ?_))) <;> try (exfalso; omega)
      all_goals rfl
    · obtain ⟨i, i0, i1, i2⟩ := ex_ix.1 c; exact absurd i2 (hh i i0 i1)
  · refine .inr ⟨c, ?_⟩
    refine scan_to (len := (w.length : Int)) (bad := fun i => ix w i < 0 ∨ out ≤ ix w i) (by omega) (fun i h0 h1 => ⟨fun hb => absurd (ex_ix.2 ⟨i, h0, h1, hb⟩) c, fun hb => ?_⟩) (fun hh => ?_)
    · conv => lhs; rw [r16_letters_L2_eq]; unfold r16_letters_L2_B
      (try dsimp only); (repeat' first | (with_reducible refine G_to ?_ ?_; focus (first | omega | (unfold fits; omega) | (unfold room; (try simp only [List.length_append, List.length_cons, List.length_nil]); omega))) | (with_reducible refine both_to ?_ ?_) | (with_reducible refine itet_to ?_) | (with_reducible refine itef_to ?_) | (with_reducible refine ite_to (fun _ => ?_) (fun _ => ?_))) <;> try (exfalso; omega)
      all_goals rfl
    · rw [r16_letters_L2_eq]; unfold r16_letters_L2_B
      (try dsimp only); (repeat' first | (with_reducible refine G_to ?_ ?_; focus (first | omega | (unfold fits; omega) | (unfold room; (try simp only [List.length_append, List.length_cons, List.length_nil]); omega))) | (with_reducible refine both_to ?_ ?_) | (with_reducible refine itet_to ?_) | (with_reducible refine itef_to ?_) | (with_reducible refine ite_to (fun _ => ?_) (fun _ => ?_))) <;> try (exfalso; omega)
      all_goals rfl
theorem r16_Check_spec : r16_Check t = some (trE t) := by
  unfold r16_Check trE
  by_cases c1 : TLet t
  · rw [if_pos c1]; unfold TLet at c1
    (try dsimp only); (repeat' first | (with_reducible refine G_to ?_ ?_; focus (first | omega | (unfold fits; omega) | (unfold room; (try simp only [List.length_append, List.length_cons, List.length_nil]); omega))) | (with_reducible refine both_to ?_ ?_) | (with_reducible refine itet_to ?_) | (with_reducible refine itef_to ?_) | (with_reducible refine ite_to (fun _ => ?_) (fun _ => ?_))) <;> try (exfalso; omega)
    all_goals rfl
  rw [if_neg c1]; unfold TLet at c1
  by_cases c2 : TSize t
  · rw [if_pos c2]; unfold TSize at c2
    (try dsimp only); (repeat' first | (with_reducible refine G_to ?_ ?_; focus (first | omega | (unfold fits; omega) | (unfold room; (try simp only [List.length_append, List.length_cons, List.length_nil]); omega))) | (with_reducible refine both_to ?_ ?_) | (with_reducible refine itet_to ?_) | (with_reducible refine itef_to ?_) | (with_reducible refine ite_to (fun _ => ?_) (fun _ => ?_))) <;> try (exfalso; omega)
    all_goals rfl
  rw [if_neg c2]; unfold TSize at c2
  by_cases c3 : TNum t
  · rw [if_pos c3]; unfold TNum at c3
    (try dsimp only); (repeat' first | (with_reducible refine G_to ?_ ?_; focus (first | omega | (unfold fits; omega) | (unfold room; (try simp only [List.length_append, List.length_cons, List.length_nil]); omega))) | (with_reducible refine both_to ?_ ?_) | (with_reducible refine itet_to ?_) | (with_reducible refine itef_to ?_) | (with_reducible refine ite_to (fun _ => ?_) (fun _ => ?_))) <;> try (exfalso; omega)
    all_goals rfl
  rw [if_neg c3]
  have c3s : t.2.2.2.2.2.1.length = t.2.2.2.2.1.length := Decidable.not_not.1 fun h => c3 (.inl h)
  have c3l : t.2.2.2.2.2.2.1.length = t.2.2.2.2.1.length := Decidable.not_not.1 fun h => c3 (.inr h)
  (try dsimp only); (repeat' first | (with_reducible refine G_to ?_ ?_; focus (first | omega | (unfold fits; omega) | (unfold room; (try simp only [List.length_append, List.length_cons, List.length_nil]); omega))) | (with_reducible refine both_to ?_ ?_) | (with_reducible refine itet_to ?_) | (with_reducible refine itef_to ?_) | (with_reducible refine ite_to (fun _ => ?_) (fun _ => ?_))) <;> try (exfalso; omega)
  refine scan_to (len := (t.2.2.2.2.1.length : Int)) (bad := fun i => ¬ ((ix t.2.2.2.2.1 i).length : Int) = t.1 ∨ ¬ ((ix t.2.2.2.2.2.1 i).length : Int) = t.1) (by omega) (fun i h0 h1 => ⟨fun hb => ?_, fun hb => ?_⟩) (fun hh => ?_)
  · rw [if_pos (show TRow t from ⟨i, h0, h1, hb⟩)]
    rw [r16_Check_L9_eq]; unfold r16_Check_L9_B
    (try dsimp only); (repeat' first | (with_reducible refine G_to ?_ ?_; focus (first | omega | (unfold fits; omega) | (unfold room; (try simp only [List.length_append, List.length_cons, List.length_nil]); omega))) | (with_reducible refine both_to ?_ ?_) | (with_reducible refine itet_to ?_) | (with_reducible refine itef_to ?_) | (with_reducible refine ite_to (fun _ => ?_) (fun _ => ?_))) <;> try (exfalso; omega)
    all_goals first | rfl | (exfalso; exact hb.elim (fun h => h (Decidable.not_not.1 ‹_›)) (fun h => h (Decidable.not_not.1 ‹_›)))
  · have hb1 : ((ix t.2.2.2.2.1 i).length : Int) = t.1 := Decidable.not_not.1 fun h => hb (.inl h)
    have hb2 : ((ix t.2.2.2.2.2.1 i).length : Int) = t.1 := Decidable.not_not.1 fun h => hb (.inr h)
    conv => lhs; rw [r16_Check_L9_eq]; unfold r16_Check_L9_B
    (try dsimp only); (repeat' first | (with_reducible refine G_to ?_ ?_; focus (first | omega | (unfold fits; omega) | (unfold room; (try simp only [List.length_append, List.length_cons, List.length_nil]); omega))) | (with_reducible refine both_to ?_ ?_) | (with_reducible refine itet_to ?_) | (with_reducible refine itef_to ?_) | (with_reducible refine ite_to (fun _ => ?_) (fun _ => ?_))) <;> try (exfalso; omega)
    all_goals rfl
  rw [if_neg (show ¬ TRow t from fun ⟨i, i0, i1, hb⟩ => hh i i0 i1 hb)]
  have hN : ∀ i : Int, 0 ≤ i → i < t.2.2.2.2.1.length → ((ix t.2.2.2.2.1 i).length : Int) = t.1 := fun i i0 i1 => Decidable.not_not.1 fun h => hh i i0 i1 (.inl h)
  have hS : ∀ i : Int, 0 ≤ i → i < t.2.2.2.2.1.length → ((ix t.2.2.2.2.2.1 i).length : Int) = t.1 := fun i i0 i1 => Decidable.not_not.1 fun h => hh i i0 i1 (.inr h)
  rw [r16_Check_L9_eq]; unfold r16_Check_L9_B
  by_cases c4 : t.2.2.1 < 0 ∨ (t.2.2.2.2.1.length : Int) ≤ t.2.2.1
  · rw [if_pos (show TTo t from .inl c4)]
    (try dsimp only); (repeat' first | (with_reducible refine G_to ?_ ?_; focus (first | omega | (unfold fits; omega) | (unfold room; (try simp only [List.length_append, List.length_cons, List.length_nil]); omega))) | (with_reducible refine both_to ?_ ?_) | (with_reducible refine itet_to ?_) | (with_reducible refine itef_to ?_) | (with_reducible refine ite_to (fun _ => ?_) (fun _ => ?_))) <;> try (exfalso; omega)
    all_goals rfl
  (try dsimp only); (repeat' first | (with_reducible refine G_to ?_ ?_; focus (first | omega | (unfold fits; omega) | (unfold room; (try simp only [List.length_append, List.length_cons, List.length_nil]); omega))) | (with_reducible refine both_to ?_ ?_) | (with_reducible refine itet_to ?_) | (with_reducible refine itef_to ?_) | (with_reducible refine ite_to (fun _ => ?_) (fun _ => ?_))) <;> try (exfalso; omega)
  refine scan_to (len := (t.2.2.2.2.1.length : Int)) (bad := fun i => ∃ q ∈ ix t.2.2.2.2.1 i, q < 0 ∨ (t.2.2.2.2.1.length : Int) ≤ q) (by omega) (fun i h0 h1 => ⟨fun hb => ?_, fun hb => ?_⟩) (fun hh2 => ?_)
  · rw [if_pos (show TTo t from .inr (ex_ix.2 ⟨i, h0, h1, hb⟩))]
    rw [r16_Check_L16_eq]; unfold r16_Check_L16_B
    (try dsimp only); (repeat' first | (with_reducible refine G_to ?_ ?_; focus (first | omega | (unfold fits; omega) | (unfold room; (try simp only [List.length_append, List.length_cons, List.length_nil]); omega))) | (with_reducible refine both_to ?_ ?_) | (with_reducible refine itet_to ?_) | (with_reducible refine itef_to ?_) | (with_reducible refine ite_to (fun _ => ?_) (fun _ => ?_))) <;> try (exfalso; omega)
    have hlt := hN i h0 h1
    refine scan_to (len := t.1) (bad := fun a => ix (ix t.2.2.2.2.1 i) a < 0 ∨ (t.2.2.2.2.1.length : Int) ≤ ix (ix t.2.2.2.2.1 i) a) (by omega) (fun a a0 a1 => ⟨fun hb => ?_, fun hb => ?_⟩) (fun hh3 => ?_)
    · rw [r16_Check_L19_eq]; unfold r16_Check_L19_B
      (try dsimp only); (repeat' first | (with_reducible refine G_to ?_ ?_; focus (first | omega | (unfold fits; omega) | (unfold room; (try simp only [List.length_append, List.length_cons, List.length_nil]); omega))) | (with_reducible refine both_to ?_ ?_) | (with_reducible refine itet_to ?_) | (with_reducible refine itef_to ?_) | (with_reducible refine ite_to (fun _ => ?_) (fun _ => ?_))) <;> try (exfalso; omega)
      all_goals rfl
    · conv => lhs; rw [r16_Check_L19_eq]; unfold r16_Check_L19_B
      (try dsimp only); (repeat' first | (with_reducible refine G_to ?_ ?_; focus (first | omega | (unfold fits; omega) | (unfold room; (try simp only [List.length_append, List.length_cons, List.length_nil]); omega))) | (with_reducible refine both_to ?_ ?_) | (with_reducible refine itet_to ?_) | (with_reducible refine itef_to ?_) | (with_reducible refine ite_to (fun _ => ?_) (fun _ => ?_))) <;> try (exfalso; omega)
      all_goals rfl
    · exfalso
      obtain ⟨k, i0, i1, i2⟩ := ex_ix.1 hb
      exact hh3 k i0 (by omega) i2
  · conv => lhs; rw [r16_Check_L16_eq]; unfold r16_Check_L16_B
    (try dsimp only); (repeat' first | (with_reducible refine G_to ?_ ?_; focus (first | omega | (unfold fits; omega) | (unfold room; (try simp only [List.length_append, List.length_cons, List.length_nil]); omega))) | (with_reducible refine both_to ?_ ?_) | (with_reducible refine itet_to ?_) | (with_reducible refine itef_to ?_) | (with_reducible refine ite_to (fun _ => ?_) (fun _ => ?_))) <;> try (exfalso; omega)
    have hlt := hN i h0 h1
    refine scan_to (len := t.1) (bad := fun a => ix (ix t.2.2.2.2.1 i) a < 0 ∨ (t.2.2.2.2.1.length : Int) ≤ ix (ix t.2.2.2.2.1 i) a) (by omega) (fun a a0 a1 => ⟨fun hb' => ?_, fun hb => ?_⟩) (fun hh3 => ?_)
    · exfalso; exact hb (ex_ix.2 ⟨a, a0, by omega, hb'⟩)
    · conv => lhs; rw [r16_Check_L19_eq]; unfold r16_Check_L19_B
      (try dsimp only); (repeat' first | (with_reducible refine G_to ?_ ?_; focus (first | omega | (unfold fits; omega) | (unfold room; (try simp only [List.length_append, List.length_cons, List.length_nil]); omega))) | (with_reducible refine both_to ?_ ?_) | (with_reducible refine itet_to ?_) | (with_reducible refine itef_to ?_) | (with_reducible refine ite_to (fun _ => ?_) (fun _ => ?_))) <;> try (exfalso; omega)
      all_goals rfl
    · rw [r16_Check_L19_eq]; unfold r16_Check_L19_B
      (try dsimp only); (repeat' first | (with_reducible refine G_to ?_ ?_; focus (first | omega | (unfold fits; omega) | (unfold room; (try simp only [List.length_append, List.length_cons, List.length_nil]); omega))) | (with_reducible refine both_to ?_ ?_) | (with_reducible refine itet_to ?_) | (with_reducible refine itef_to ?_) | (with_reducible refine ite_to (fun _ => ?_) (fun _ => ?_))) <;> try (exfalso; omega)
      all_goals rfl
  rw [if_neg (show ¬ TTo t from fun h => h.elim c4 (fun h => by obtain ⟨i, i0, i1, i2⟩ := ex_ix.1 h; exact hh2 i i0 i1 i2))]
  rw [r16_Check_L16_eq]; unfold r16_Check_L16_B
  rw [if_neg (by simp)]
  have hsaid := r16_Words_spec (by omega) c3s c3l (by omega) hS
  have hwl := tW_len (by omega) c3s c3l (by omega) hS
  have k3 : Tells (r16_Long t) (TLong t) := by
    unfold r16_Long
    by_cases c : TLong t
    · refine ⟨true, bind_to hsaid ?_, by simp [c]⟩
      refine scan_to (len := ((tW t).length : Int)) (bad := fun i => 8 < (ix (tW t) i).length) (by omega) (fun i h0 h1 => ⟨fun hb => ?_, fun hb => ?_⟩) (fun hh => ?_)
      · rw [r16_Long_L3_eq]; unfold r16_Long_L3_B
        (try dsimp only); (repeat' first | (with_reducible refine G_to ?_ ?_; focus (first | omega | (unfold fits; omega) | (unfold room; (try simp only [List.length_append, List.length_cons, List.length_nil]); omega))) | (with_reducible refine both_to ?_ ?_) | (with_reducible refine itet_to ?_) | (with_reducible refine itef_to ?_) | (with_reducible refine ite_to (fun _ => ?_) (fun _ => ?_))) <;> try (exfalso; omega)
        all_goals rfl
      · conv => lhs; rw [r16_Long_L3_eq]; unfold r16_Long_L3_B
        (try dsimp only); (repeat' first | (with_reducible refine G_to ?_ ?_; focus (first | omega | (unfold fits; omega) | (unfold room; (try simp only [List.length_append, List.length_cons, List.length_nil]); omega))) | (with_reducible refine both_to ?_ ?_) | (with_reducible refine itet_to ?_) | (with_reducible refine itef_to ?_) | (with_reducible refine ite_to (fun _ => ?_) (fun _ => ?_))) <;> try (exfalso; omega)
        all_goals rfl
      · obtain ⟨i, i0, i1, i2⟩ := ex_ix.1 c; exact absurd i2 (hh i i0 i1)
    · refine ⟨false, bind_to hsaid ?_, by simp [c]⟩
      refine scan_to (len := ((tW t).length : Int)) (bad := fun i => 8 < (ix (tW t) i).length) (by omega) (fun i h0 h1 => ⟨fun hb => absurd (ex_ix.2 ⟨i, h0, h1, hb⟩) c, fun hb => ?_⟩) (fun hh => ?_)
      · conv => lhs; rw [r16_Long_L3_eq]; unfold r16_Long_L3_B
        (try dsimp only); (repeat' first | (with_reducible refine G_to ?_ ?_; focus (first | omega | (unfold fits; omega) | (unfold room; (try simp only [List.length_append, List.length_cons, List.length_nil]); omega))) | (with_reducible refine both_to ?_ ?_) | (with_reducible refine itet_to ?_) | (with_reducible refine itef_to ?_) | (with_reducible refine ite_to (fun _ => ?_) (fun _ => ?_))) <;> try (exfalso; omega)
        all_goals rfl
      · rw [r16_Long_L3_eq]; unfold r16_Long_L3_B
        (try dsimp only); (repeat' first | (with_reducible refine G_to ?_ ?_; focus (first | omega | (unfold fits; omega) | (unfold room; (try simp only [List.length_append, List.length_cons, List.length_nil]); omega))) | (with_reducible refine both_to ?_ ?_) | (with_reducible refine itet_to ?_) | (with_reducible refine itef_to ?_) | (with_reducible refine ite_to (fun _ => ?_) (fun _ => ?_))) <;> try (exfalso; omega)
        all_goals rfl
  refine k3.to (fun h => by rw [if_pos h]) (fun h3 => ?_)
  rw [if_neg h3]
  refine bind_to hsaid ?_
  have k4 : ∀ i : Int, 0 ≤ i → i < (tW t).length → (ix (tW t) i).length ≤ 1000 := fun i i0 i1 => by
    by_cases e : 8 < (ix (tW t) i).length
    · exact absurd (ex_ix.2 ⟨i, i0, i1, e⟩) h3
    · omega
  refine scan_to (len := ((tW t).length : Int)) (bad := fun i => LBad t (ix (tW t) i)) (by omega) (fun i h0 h1 => ⟨fun hb => ?_, fun hb => ?_⟩) (fun hh4 => ?_)
  · rw [if_pos (show TSay t from ex_ix.2 ⟨i, h0, h1, hb⟩)]
    rw [r16_Check_L28_eq]; unfold r16_Check_L28_B
    (try dsimp only); (repeat' first | (with_reducible refine G_to ?_ ?_; focus (first | omega | (unfold fits; omega) | (unfold room; (try simp only [List.length_append, List.length_cons, List.length_nil]); omega))) | (with_reducible refine both_to ?_ ?_) | (with_reducible refine itet_to ?_) | (with_reducible refine itef_to ?_) | (with_reducible refine ite_to (fun _ => ?_) (fun _ => ?_))) <;> try (exfalso; omega)
    rcases r16_letters_spec (out := t.2.1) (k4 i h0 h1) with ⟨_, e⟩ | ⟨e, _⟩
    · refine bind_to e ?_
      rw [if_pos (by decide)]
    · exact absurd hb e
  · conv => lhs; rw [r16_Check_L28_eq]; unfold r16_Check_L28_B
    (try dsimp only); (repeat' first | (with_reducible refine G_to ?_ ?_; focus (first | omega | (unfold fits; omega) | (unfold room; (try simp only [List.length_append, List.length_cons, List.length_nil]); omega))) | (with_reducible refine both_to ?_ ?_) | (with_reducible refine itet_to ?_) | (with_reducible refine itef_to ?_) | (with_reducible refine ite_to (fun _ => ?_) (fun _ => ?_))) <;> try (exfalso; omega)
    rcases r16_letters_spec (out := t.2.1) (k4 i h0 h1) with ⟨e, _⟩ | ⟨_, e⟩
    · exact absurd e hb
    · refine bind_to e ?_
      (try dsimp only); (repeat' first | (with_reducible refine G_to ?_ ?_; focus (first | omega | (unfold fits; omega) | (unfold room; (try simp only [List.length_append, List.length_cons, List.length_nil]); omega))) | (with_reducible refine both_to ?_ ?_) | (with_reducible refine itet_to ?_) | (with_reducible refine itef_to ?_) | (with_reducible refine ite_to (fun _ => ?_) (fun _ => ?_))) <;> try (exfalso; omega)
      all_goals rfl
  · rw [if_neg (show ¬ TSay t from fun h => by obtain ⟨i, i0, i1, i2⟩ := ex_ix.1 h; exact hh4 i i0 i1 i2)]
    rw [r16_Check_L28_eq]; unfold r16_Check_L28_B
    rw [if_neg (by simp)]
structure TOk (t : Tr) : Prop where
  let1 : 1 ≤ t.1 ∧ t.1 ≤ 4
  n1 : 1 ≤ t.2.2.2.2.1.length ∧ t.2.2.2.2.1.length ≤ 6
  sl : t.2.2.2.2.2.1.length = t.2.2.2.2.1.length
  ll : t.2.2.2.2.2.2.1.length = t.2.2.2.2.1.length
  st : 0 ≤ t.2.2.1 ∧ t.2.2.1 < t.2.2.2.2.1.length
  srow : ∀ i : Int, 0 ≤ i → i < t.2.2.2.2.1.length → ((ix t.2.2.2.2.2.1 i).length : Int) = t.1
  tab : Tab t.1 t.2.2.2.2.1
  short : ∀ w ∈ tW t, w.length ≤ 8
theorem trE_zero (h : trE t = 0) : TOk t := by
  unfold trE at h
  by_cases c1 : TLet t
  · rw [if_pos c1] at h; omega
  rw [if_neg c1] at h
  by_cases c2 : TSize t
  · rw [if_pos c2] at h; omega
  rw [if_neg c2] at h
  by_cases c3 : TNum t
  · rw [if_pos c3] at h; omega
  rw [if_neg c3] at h
  by_cases c4 : TRow t
  · rw [if_pos c4] at h; omega
  rw [if_neg c4] at h
  by_cases c5 : TTo t
  · rw [if_pos c5] at h; omega
  rw [if_neg c5] at h
  by_cases c6 : TLong t
  · rw [if_pos c6] at h; omega
  unfold TLet at c1; unfold TSize at c2
  have hN : ∀ i : Int, 0 ≤ i → i < t.2.2.2.2.1.length → ((ix t.2.2.2.2.1 i).length : Int) = t.1 := fun i i0 i1 => Decidable.not_not.1 fun h => c4 ⟨i, i0, i1, .inl h⟩
  have hS : ∀ i : Int, 0 ≤ i → i < t.2.2.2.2.1.length → ((ix t.2.2.2.2.2.1 i).length : Int) = t.1 := fun i i0 i1 => Decidable.not_not.1 fun h => c4 ⟨i, i0, i1, .inr h⟩
  refine ⟨by omega, by omega, Decidable.not_not.1 fun h => c3 (.inl h), Decidable.not_not.1 fun h => c3 (.inr h), ?_, hS, ⟨fun r hr => ?_, fun r hr q hq => ?_⟩, fun w hw => ?_⟩
  · have : ¬ (t.2.2.1 < 0 ∨ (t.2.2.2.2.1.length : Int) ≤ t.2.2.1) := fun h => c5 (.inl h)
    omega
  · obtain ⟨i, i0, i1, rfl⟩ := (ex_ix (P := fun x => x = r)).1 ⟨r, hr, rfl⟩
    exact hN i i0 i1
  · have : ¬ (q < 0 ∨ (t.2.2.2.2.1.length : Int) ≤ q) := fun h => c5 (.inr ⟨r, hr, q, hq, h⟩)
    omega
  · by_cases e : 8 < w.length
    · exact absurd ⟨w, hw, e⟩ c6
    · omega
/-- What is said to a word. -/
def sy (t : Tr) : Int → List Int → List Int
  | _, [] => []
  | q, a :: w => ix (ix t.2.2.2.2.2.1 q) a ++ sy t (stp t.2.2.2.2.1 q a) w
theorem sy_len (h : TOk t) : ∀ {w : List Int} {q : Int}, 0 ≤ q → q < t.2.2.2.2.1.length → (∀ a ∈ w, 0 ≤ a ∧ a < t.1) → (sy t q w).length ≤ 8 * w.length
  | [], q, _, _, _ => by simp [sy]
  | a :: w, q, q0, q1, hw => by
    have ha := hw a (by simp)
    have hs := h.tab.stpb q0 q1 ha.1 ha.2
    have hr := h.srow q q0 q1
    have hsl := h.sl
    have := sy_len h (w := w) hs.1 hs.2 (fun b hb => hw b (by simp [hb]))
    have m : ix (ix t.2.2.2.2.2.1 q) a ∈ tW t := List.mem_append_right _ (List.mem_flatten.2 ⟨_, ix_mem q0 (by omega), ix_mem ha.1 (by omega)⟩)
    have := h.short _ m
    rw [sy, List.length_append, List.length_cons]; omega
theorem trans_run_L3_spec (h : TOk t) {w : List Int} (hw : ∀ a ∈ w, 0 ≤ a ∧ a < t.1) (hl : w.length ≤ 60) : ∀ (n : Nat) (i q : Int) (out : List Int), (w.length - i).toNat = n → 0 ≤ i → i ≤ w.length → 0 ≤ q → q < t.2.2.2.2.1.length → (out.length : Int) ≤ 8 * i →
    trans_run_L3 t w q i out = some (wlk t.2.2.2.2.1 q (w.drop i.toNat), out ++ sy t q (w.drop i.toNat)) := by
  intro n
  induction n with
  | zero =>
    intro i q out hn h0 h1 q0 q1 ho
    rw [trans_run_L3_eq]; unfold trans_run_L3_B
    rw [List.drop_of_length_le (by omega), if_neg (by simp only [decide_eq_true_eq]; omega)]
    simp [wlk, sy]
  | succ n ih =>
    intro i q out hn h0 h1 q0 q1 ho
    have ha := hw _ (ix_mem h0 (by omega : i < w.length))
    have hr := h.tab.rowlen q0 q1
    have hsr := h.srow q q0 q1
    have hs := h.tab.stpb q0 q1 ha.1 ha.2
    have hsl := h.sl
    have m : ix (ix t.2.2.2.2.2.1 q) (ix w i) ∈ tW t := List.mem_append_right _ (List.mem_flatten.2 ⟨_, ix_mem q0 (by omega), ix_mem ha.1 (by omega)⟩)
    have hsh := h.short _ m
    rw [trans_run_L3_eq]; unfold trans_run_L3_B
    (try dsimp only); (repeat' first | (with_reducible refine G_to ?_ ?_; focus (first | omega | (unfold fits; omega) | (unfold room; (try simp only [List.length_append, List.length_cons, List.length_nil]); omega))) | (with_reducible refine both_to ?_ ?_) | (with_reducible refine itet_to ?_) | (with_reducible refine itef_to ?_) | (with_reducible refine ite_to (fun _ => ?_) (fun _ => ?_))) <;> try (exfalso; omega)
    rw [ix_drop h0 (by omega), show ix (ix t.2.2.2.2.1 q) (ix w i) = stp t.2.2.2.2.1 q (ix w i) from rfl]
    rw [ih (i + 1) _ _ (by omega) (by omega) (by omega) hs.1 hs.2 (by rw [List.length_append]; omega), List.append_assoc]
    rfl
theorem r16_Run_L4_spec (h : TOk t) {w : List Int} (hw : ∀ a ∈ w, 0 ≤ a ∧ a < t.1) (hl : w.length ≤ 60) : ∀ (n : Nat) (i q : Int) (out : List Int), (w.length - i).toNat = n → 0 ≤ i → i ≤ w.length → 0 ≤ q → q < t.2.2.2.2.1.length → (out.length : Int) ≤ 8 * i + 8 →
    r16_Run_L4 t w q i out = some (out ++ sy t q (w.drop i.toNat) ++ ix t.2.2.2.2.2.2.1 (wlk t.2.2.2.2.1 q (w.drop i.toNat))) := by
  intro n
  induction n with
  | zero =>
    intro i q out hn h0 h1 q0 q1 ho
    have hll := h.ll
    have m : ix t.2.2.2.2.2.2.1 q ∈ tW t := List.mem_append_left _ (List.mem_append_right _ (ix_mem q0 (by omega)))
    have hsh := h.short _ m
    rw [r16_Run_L4_eq]; unfold r16_Run_L4_B
    (try dsimp only); (repeat' first | (with_reducible refine G_to ?_ ?_; focus (first | omega | (unfold fits; omega) | (unfold room; (try simp only [List.length_append, List.length_cons, List.length_nil]); omega))) | (with_reducible refine both_to ?_ ?_) | (with_reducible refine itet_to ?_) | (with_reducible refine itef_to ?_) | (with_reducible refine ite_to (fun _ => ?_) (fun _ => ?_))) <;> try (exfalso; omega)
    rw [List.drop_of_length_le (by omega)]
    simp [wlk, sy]
  | succ n ih =>
    intro i q out hn h0 h1 q0 q1 ho
    have ha := hw _ (ix_mem h0 (by omega : i < w.length))
    have hr := h.tab.rowlen q0 q1
    have hsr := h.srow q q0 q1
    have hs := h.tab.stpb q0 q1 ha.1 ha.2
    have hsl := h.sl
    have m : ix (ix t.2.2.2.2.2.1 q) (ix w i) ∈ tW t := List.mem_append_right _ (List.mem_flatten.2 ⟨_, ix_mem q0 (by omega), ix_mem ha.1 (by omega)⟩)
    have hsh := h.short _ m
    rw [r16_Run_L4_eq]; unfold r16_Run_L4_B
    (try dsimp only); (repeat' first | (with_reducible refine G_to ?_ ?_; focus (first | omega | (unfold fits; omega) | (unfold room; (try simp only [List.length_append, List.length_cons, List.length_nil]); omega))) | (with_reducible refine both_to ?_ ?_) | (with_reducible refine itet_to ?_) | (with_reducible refine itef_to ?_) | (with_reducible refine ite_to (fun _ => ?_) (fun _ => ?_))) <;> try (exfalso; omega)
    rw [ix_drop h0 (by omega), show ix (ix t.2.2.2.2.1 q) (ix w i) = stp t.2.2.2.2.1 q (ix w i) from rfl]
    rw [ih (i + 1) _ _ (by omega) (by omega) (by omega) hs.1 hs.2 (by rw [List.length_append]; omega), List.append_assoc out]
    rfl
def allS (t : Tr) (w : List Int) : List Int := t.2.2.2.1 ++ sy t t.2.2.1 w ++ ix t.2.2.2.2.2.2.1 (wlk t.2.2.2.2.1 t.2.2.1 w)
theorem F_mem : t.2.2.2.1 ∈ tW t := List.mem_append_left _ (List.mem_append_left _ (by simp))
theorem trans_whole_spec (h : TOk t) {w : List Int} (hw : ∀ a ∈ w, 0 ≤ a ∧ a < t.1) (hl : w.length ≤ 60) : trans_whole t w = some (allS t w) ∧ (allS t w).length ≤ 1000 := by
  have hq := h.tab.wlkb h.st.1 h.st.2 hw
  have hll := h.ll
  have m : ix t.2.2.2.2.2.2.1 (wlk t.2.2.2.2.1 t.2.2.1 w) ∈ tW t := List.mem_append_left _ (List.mem_append_right _ (ix_mem hq.1 (by omega)))
  have h1 := h.short _ m
  have h2 := h.short _ F_mem
  have h3 := sy_len h h.st.1 h.st.2 hw
  have hlen : (allS t w).length ≤ 1000 := by
    unfold allS
    rw [List.length_append, List.length_append]; omega
  refine ⟨?_, hlen⟩
  unfold trans_whole trans_run
  have e := trans_run_L3_spec h hw hl _ 0 t.2.2.1 [] rfl (by omega) (by omega) h.st.1 h.st.2 (by simp)
  refine bind_to e ?_
  rw [show (0 : Int).toNat = 0 from rfl, List.drop_zero, List.nil_append]
  dsimp only
  rw [G_pos ⟨hq.1, by omega⟩]
  have e2 : [t.2.2.2.1, sy t t.2.2.1 w, ix t.2.2.2.2.2.2.1 (wlk t.2.2.2.2.1 t.2.2.1 w)].flatten = allS t w := by simp [allS]
  refine bind_to (slices_Concat_spec (by simp) (by rw [e2]; omega)) ?_
  rw [e2]
theorem r16_Run_spec (h : TOk t) {w : List Int} (hw : ∀ a ∈ w, 0 ≤ a ∧ a < t.1) (hl : w.length ≤ 60) : r16_Run t w = some (allS t w) := by
  have h2 := h.short _ F_mem
  unfold r16_Run
  (try dsimp only); (repeat' first | (with_reducible refine G_to ?_ ?_; focus (first | omega | (unfold fits; omega) | (unfold room; (try simp only [List.length_append, List.length_cons, List.length_nil]); omega))) | (with_reducible refine both_to ?_ ?_) | (with_reducible refine itet_to ?_) | (with_reducible refine itef_to ?_) | (with_reducible refine ite_to (fun _ => ?_) (fun _ => ?_))) <;> try (exfalso; omega)
  rw [List.nil_append, r16_Run_L4_spec h hw hl _ 0 _ _ rfl (by omega) (by omega) h.st.1 h.st.2 (by omega)]
  rfl
theorem trans_Run_bad {w : List Int} (h : ¬ trE t = 0) : trans_Run t w = some (trE t, []) := by
  unfold trans_Run
  refine bind_to (trans_Check_spec (t := t)) ?_
  rw [if_pos (decide_eq_true h)]
theorem trans_Run_bad2 {w : List Int} (h : trE t = 0) (h2 : ¬ mayE t.1 w = 0) : trans_Run t w = some (mayE t.1 w, []) := by
  unfold trans_Run
  refine bind_to (trans_Check_spec (t := t)) ?_
  rw [if_neg (by simp [h])]
  refine bind_to word_May_spec ?_
  rw [if_pos (decide_eq_true h2)]
theorem trans_Run_good {w : List Int} (h : trE t = 0) (h2 : mayE t.1 w = 0) : trans_Run t w = some (0, allS t w) := by
  unfold trans_Run
  refine bind_to (trans_Check_spec (t := t)) ?_
  rw [if_neg (by simp [h])]
  refine bind_to word_May_spec ?_
  rw [if_neg (by simp [h2])]
  have hm := mayE_zero h2
  exact bind_to (trans_whole_spec (trE_zero h) hm.2.2 (by omega)).1 rfl
end

theorem law_true (t : Tr) (w : List Int) : law_TransRuns t w = some true := by
  unfold law_TransRuns
  refine bind_to (trans_Check_spec (t := t)) ?_
  refine bind_to (r16_Check_spec (t := t)) ?_
  have fin : ∀ e : Int, ¬ e = 0 → law_TransRuns_J8 t w e [] e = some true := by
    intro e he
    unfold law_TransRuns_J8
    rw [if_pos (decide_eq_true he), if_pos (decide_eq_true rfl)]; rfl
  by_cases h : trE t = 0
  · by_cases h2 : mayE t.1 w = 0
    · have hm := mayE_zero h2
      have ok := trE_zero h
      refine bind_to (trans_Run_good h h2) ?_
      rw [if_neg (by simp), if_pos (by simpa using h)]
      refine bind_to r1_May_spec ?_
      rw [h2]
      unfold law_TransRuns_J8
      rw [if_neg (by simp)]
      refine bind_to (r16_Run_spec ok hm.2.2 (by omega)) ?_
      have hl := (trans_whole_spec ok hm.2.2 (by omega)).2
      refine bind_to (r1_Words_spec (Nat.le_trans hl (by decide))) ?_
      rw [if_pos (by simp)]
      simp
    · refine bind_to (trans_Run_bad2 h h2) ?_
      rw [if_neg (by simp), if_pos (by simpa using h)]
      refine bind_to r1_May_spec ?_
      exact fin _ h2
  · refine bind_to (trans_Run_bad h) ?_
    rw [if_neg (by simp), if_neg (by simpa using h)]
    exact fin _ h

end Go.Proofs.Ytiamohlhhcafdaa.transRunsW
