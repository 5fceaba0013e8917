/- The law 'CodeCheap' of the plain functions. -/
import Derived.Test.YtkjapglopaoknaaCodeCheapD
set_option maxHeartbeats 1000000
set_option maxRecDepth 20000
set_option linter.unusedSimpArgs false
set_option linter.unusedVariables false
namespace Go.Proofs.Ytkjapglopaoknaa.codeCheapW
open Go Go.Ab
/-- The answer is yes just if P. -/
def Tells (o : Option Bool) (P : Prop) : Prop := ∃ b, o = some b ∧ (b = true ↔ P)
theorem Tells.of {b : Bool} {P : Prop} (h : b = true ↔ P) : Tells (some b) P := ⟨b, rfl, h⟩
theorem Tells.dec {P Q : Prop} [Decidable P] (h : P ↔ Q) : Tells (some (decide P)) Q := ⟨_, rfl, by simpa using h⟩
theorem Tells.iff {o : Option Bool} {P Q : Prop} (h : Tells o P) (k : P ↔ Q) : Tells o Q := let ⟨b, h1, h2⟩ := h; ⟨b, h1, h2.trans k⟩
theorem Tells.eq {o : Option Bool} {P : Prop} [Decidable P] (h : Tells o P) : o = some (decide P) := by
  obtain ⟨b, rfl, hb⟩ := h
  by_cases hp : P
  · simp [hp, hb.2 hp]
  · have : b = false := by cases b; rfl; exact absurd (hb.1 rfl) hp
    simp [hp, this]
theorem Tells.to {R : Type} {o : Option Bool} {P : Prop} {k1 k2 x : Option R} (h : Tells o P) (h1 : P → k1 = x) (h2 : ¬ P → k2 = x) : (o.bind fun y => if y = true then k1 else k2) = x := by
  obtain ⟨b, rfl, hb⟩ := h
  refine bind_to rfl ?_
  cases b
  · exact h2 fun hp => by simpa using hb.2 hp
  · exact h1 (hb.1 rfl)
theorem Tells.bind {R : Type} {o : Option Bool} {P : Prop} {k : Bool → Option R} {x : Option R} (h : Tells o P) (h1 : ∀ b, (b = true ↔ P) → k b = x) : o.bind k = x := by
  obtain ⟨b, rfl, hb⟩ := h
  exact h1 b hb
section
variable {α C : Type} [Inhabited α]
theorem ex_ix {l : List α} {P : α → Prop} : (∃ x ∈ l, P x) ↔ ∃ i : Int, 0 ≤ i ∧ i < l.length ∧ P (ix l i) := by
  constructor
  · rintro ⟨x, hx, hp⟩
    obtain ⟨i, hi, rfl⟩ := List.mem_iff_getElem.1 hx
    refine ⟨i, by omega, by omega, ?_⟩
    rwa [ix_eq (by omega) (by omega)]
  · rintro ⟨i, h0, h1, hp⟩
    exact ⟨_, ix_mem h0 h1, hp⟩
theorem index_loop {s : List α} {f : α → Option Bool} {L : Int → Option Int} {P : α → Prop} (hs : s.length ≤ 4611686018427387904)
    (hL : ∀ t, L t = if decide (t < (s.length : Int)) = true then G (0 ≤ t ∧ t < (s.length : Int)) ((f (ix s t)).bind fun y => if y = true then some t else G (fits (t + 1)) (L (t + 1))) else some (-1))
    (hf : ∀ x ∈ s, Tells (f x) (P x)) : ∀ (n : Nat) (t : Int), 0 ≤ t → t ≤ s.length → (s.length - t).toNat = n →
      ∃ i, L t = some i ∧ ((i = -1 ∧ ∀ j : Int, t ≤ j → j < s.length → ¬ P (ix s j)) ∨ (t ≤ i ∧ i < s.length ∧ P (ix s i) ∧ ∀ j : Int, t ≤ j → j < i → ¬ P (ix s j))) := by
  intro n
  induction n with
  | zero =>
    intro t h0 h1 hn
    refine ⟨-1, ?_, .inl ⟨rfl, fun j a b => by omega⟩⟩
    rw [hL, if_neg (by simp; omega)]
  | succ n ih =>
    intro t h0 h1 hn
    rw [hL, if_pos (by simp; omega), G_pos (by omega)]
    obtain ⟨b, hb, hbp⟩ := hf _ (ix_mem h0 (by omega : t < s.length))
    rw [hb]
    cases b with
    | true => exact ⟨t, rfl, .inr ⟨by omega, by omega, hbp.1 rfl, fun j a b => by omega⟩⟩
    | false =>
      have hnp : ¬ P (ix s t) := fun hp => by simpa using hbp.2 hp
      obtain ⟨i, hi, hc⟩ := ih (t + 1) (by omega) (by omega) (by omega)
      refine ⟨i, ?_, ?_⟩
      · refine (if_neg (by simp) : (if false = true then some t else G (fits (t + 1)) (L (t + 1))) = _).trans ?_
        rw [G_pos (by unfold fits; omega), hi]
      · rcases hc with ⟨h2, h3⟩ | ⟨h2, h3, h4, h5⟩
        · refine .inl ⟨h2, fun j a b => ?_⟩
          by_cases e : j = t
          · rw [e]; exact hnp
          · exact h3 j (by omega) b
        · refine .inr ⟨by omega, h3, h4, fun j a b => ?_⟩
          by_cases e : j = t
          · rw [e]; exact hnp
          · exact h5 j (by omega) b
theorem contains_tells {s : List α} {f : α → Option Bool} {L : Int → Option Int} {P : α → Prop}
    (hL : ∀ t, L t = if decide (t < (s.length : Int)) = true then G (0 ≤ t ∧ t < (s.length : Int)) ((f (ix s t)).bind fun y => if y = true then some t else G (fits (t + 1)) (L (t + 1))) else some (-1))
    (hs : s.length ≤ 4611686018427387904) (hf : ∀ x ∈ s, Tells (f x) (P x)) : Tells ((L 0).bind fun y => some (decide ((0 : Int) ≤ y))) (∃ x ∈ s, P x) := by
  obtain ⟨i, hi, hc⟩ := index_loop hs hL hf _ 0 (by omega) (by omega) rfl
  rw [hi]
  refine ⟨decide (0 ≤ i), rfl, ?_⟩
  rw [decide_eq_true_iff, ex_ix]
  rcases hc with ⟨h2, h3⟩ | ⟨h2, h3, h4, h5⟩
  · constructor
    · intro h; omega
    · rintro ⟨j, h0, h1, hp⟩; exact absurd hp (h3 j h0 h1)
  · exact ⟨fun _ => ⟨i, by omega, h3, h4⟩, fun _ => by omega⟩
/-- .. of what carries along what it reads. -/
theorem contains_tells2 {s : List α} {c : C} {f : α → C → Option (Bool × C)} {L : Int → C → Option (Int × C)} {P : α → Prop}
    (hL : ∀ t c, L t c = if decide (t < (s.length : Int)) = true then G (0 ≤ t ∧ t < (s.length : Int)) ((f (ix s t) c).bind fun y => if y.1 = true then some (t, y.2) else G (fits (t + 1)) (L (t + 1) y.2)) else some (-1, c))
    (hs : s.length ≤ 4611686018427387904) (hf : ∀ x ∈ s, ∃ b, f x c = some (b, c) ∧ (b = true ↔ P x)) : ∃ b, ((L 0 c).bind fun y => some (decide ((0 : Int) ≤ y.1), y.2)) = some (b, c) ∧ (b = true ↔ ∃ x ∈ s, P x) := by
  have key : ∀ (n : Nat) (t : Int), 0 ≤ t → t ≤ s.length → (s.length - t).toNat = n →
      ∃ i, L t c = some (i, c) ∧ ((i = -1 ∧ ∀ j : Int, t ≤ j → j < s.length → ¬ P (ix s j)) ∨ (t ≤ i ∧ i < s.length ∧ P (ix s i))) := by
    intro n
    induction n with
    | zero =>
      intro t h0 h1 hn
      refine ⟨-1, ?_, .inl ⟨rfl, fun j a b => by omega⟩⟩
      rw [hL, if_neg (by simp; omega)]
    | succ n ih =>
      intro t h0 h1 hn
      rw [hL, if_pos (by simp; omega), G_pos (by omega)]
      obtain ⟨b, hb, hbp⟩ := hf _ (ix_mem h0 (by omega : t < s.length))
      rw [hb]
      cases b with
      | true => exact ⟨t, rfl, .inr ⟨by omega, by omega, hbp.1 rfl⟩⟩
      | false =>
        have hnp : ¬ P (ix s t) := fun hp => by simpa using hbp.2 hp
        obtain ⟨i, hi, hc⟩ := ih (t + 1) (by omega) (by omega) (by omega)
        refine ⟨i, ?_, ?_⟩
        · refine (if_neg (by simp) : (if false = true then some (t, c) else G (fits (t + 1)) (L (t + 1) c)) = _).trans ?_
          rw [G_pos (by unfold fits; omega), hi]
        · rcases hc with ⟨h2, h3⟩ | ⟨h2, h3, h4⟩
          · refine .inl ⟨h2, fun j a b => ?_⟩
            by_cases e : j = t
            · rw [e]; exact hnp
            · exact h3 j (by omega) b
          · exact .inr ⟨by omega, h3, h4⟩
  obtain ⟨i, hi, hc⟩ := key _ 0 (by omega) (by omega) rfl
  rw [hi]
  refine ⟨decide (0 ≤ i), rfl, ?_⟩
  rw [decide_eq_true_iff, ex_ix]
  rcases hc with ⟨h2, h3⟩ | ⟨h2, h3, h4⟩
  · constructor
    · intro h; omega
    · rintro ⟨j, h0, h1, hp⟩; exact absurd hp (h3 j h0 h1)
  · exact ⟨fun _ => ⟨i, by omega, h3, h4⟩, fun _ => by omega⟩
end
/-- A loop that looks for the first fault. -/
theorem scan_to {R : Type} {len : Int} {L : Int → Option R} {bad : Int → Prop} {x : Option R} {lo : Int} (h0 : lo ≤ len)
    (hs : ∀ t, lo ≤ t → t < len → (bad t → L t = x) ∧ (¬ bad t → L t = L (t + 1))) (hf : (∀ t, lo ≤ t → t < len → ¬ bad t) → L len = x) : L lo = x := by
  have key : ∀ (n : Nat) (t : Int), lo ≤ t → t ≤ len → (len - t).toNat = n → (∀ j, lo ≤ j → j < t → ¬ bad j) → L t = x := by
    intro n
    induction n with
    | zero =>
      intro t h1 h2 hn h
      obtain rfl : t = len := by omega
      exact hf h
    | succ n ih =>
      intro t h1 h2 hn h
      by_cases hb : bad t
      · exact (hs t h1 (by omega)).1 hb
      · rw [(hs t h1 (by omega)).2 hb]
        refine ih (t + 1) (by omega) (by omega) (by omega) fun j a b => ?_
        by_cases e : j = t
        · rw [e]; exact hb
        · exact h j a (by omega)
  exact key _ lo (Int.le_refl _) h0 rfl (fun j a b => by omega)
/-- A loop that counts, with a state. -/
theorem fold_to {R S : Type} {len : Int} {L : Int → S → Option R} {f : Int → S → S} {lo : Int} {I : Int → S → Prop} {s : S} (h0 : lo ≤ len) (hI : I lo s)
    (hs : ∀ t s, lo ≤ t → t < len → I t s → L t s = L (t + 1) (f t s) ∧ I (t + 1) (f t s)) : ∃ s', I len s' ∧ L lo s = L len s' := by
  have key : ∀ (n : Nat) (t : Int) (s : S), lo ≤ t → t ≤ len → (len - t).toNat = n → I t s → ∃ s', I len s' ∧ L t s = L len s' := by
    intro n
    induction n with
    | zero =>
      intro t s h1 h2 hn h
      obtain rfl : t = len := by omega
      exact ⟨s, h, rfl⟩
    | succ n ih =>
      intro t s h1 h2 hn h
      obtain ⟨e, h3⟩ := hs t s h1 (by omega) h
      obtain ⟨s', h4, h5⟩ := ih (t + 1) _ (by omega) (by omega) (by omega) h3
      exact ⟨s', h4, e.trans h5⟩
  exact key _ lo s (Int.le_refl _) h0 rfl hI

theorem r1_Words_L4_spec {a b : List Int} (hl : a.length = b.length) : ∀ (n : Nat) (i : Int), 0 ≤ i → i ≤ a.length → (a.length - i).toNat = n → a.length ≤ 2305843009213693951 → (∀ j : Int, 0 ≤ j → j < i → ix a j = ix b j) → r1_Words_L4 a b i = some (decide (a = b)) := by
  intro n
  induction n with
  | zero =>
    intro i h0 h1 hn hs h
    rw [r1_Words_L4_eq]; unfold r1_Words_L4_B
    (try dsimp only); (repeat' first | (with_reducible refine G_to ?_ ?_; focus (first | omega | (unfold fits; omega) | (unfold room; (try simp only [List.length_append, List.length_cons, List.length_nil]); omega))) | (with_reducible refine both_to ?_ ?_) | (with_reducible refine itet_to ?_) | (with_reducible refine itef_to ?_) | (with_reducible refine ite_to (fun _ => ?_) (fun _ => ?_))) <;> try (exfalso; omega)
    · rw [Option.some_inj, eq_comm, decide_eq_true_iff]; exact ix_ext hl (fun j a b => h j a (by omega))
  | succ n ih =>
    intro i h0 h1 hn hs h
    rw [r1_Words_L4_eq]; unfold r1_Words_L4_B
    (try dsimp only); (repeat' first | (with_reducible refine G_to ?_ ?_; focus (first | omega | (unfold fits; omega) | (unfold room; (try simp only [List.length_append, List.length_cons, List.length_nil]); omega))) | (with_reducible refine both_to ?_ ?_) | (with_reducible refine itet_to ?_) | (with_reducible refine itef_to ?_) | (with_reducible refine ite_to (fun _ => ?_) (fun _ => ?_))) <;> try (exfalso; omega)
    · rw [Option.some_inj, eq_comm, decide_eq_false_iff_not]; rintro rfl; contradiction
    · rename_i hx; exact ih _ (by omega) (by omega) (by omega) hs (below_succ h (Decidable.not_not.1 hx))
theorem r1_Words_spec {a b : List Int} (hs : a.length ≤ 2305843009213693951) : r1_Words a b = some (decide (a = b)) := by
  unfold r1_Words
  (try dsimp only); (repeat' first | (with_reducible refine G_to ?_ ?_; focus (first | omega | (unfold fits; omega) | (unfold room; (try simp only [List.length_append, List.length_cons, List.length_nil]); omega))) | (with_reducible refine both_to ?_ ?_) | (with_reducible refine itet_to ?_) | (with_reducible refine itef_to ?_) | (with_reducible refine ite_to (fun _ => ?_) (fun _ => ?_))) <;> try (exfalso; omega)
  · rw [Option.some_inj, eq_comm, decide_eq_false_iff_not]; rintro rfl; contradiction
  · exact r1_Words_L4_spec (by omega) _ 0 (by omega) (by omega) rfl hs (fun j a b => by omega)

theorem r1_May_L6_spec {letters : Int} {w : List Int} (hL : 1 ≤ letters ∧ letters ≤ 4) (hw : w.length ≤ (60 : Int)) : ∀ (n : Nat) (i : Int), 0 ≤ i → i ≤ w.length → (w.length - i).toNat = n → (∀ j : Int, 0 ≤ j → j < i → 0 ≤ ix w j ∧ ix w j < letters) → r1_May_L6 letters w i = some (mayE letters w) := by
  intro n
  induction n with
  | zero =>
    intro i h0 h1 hn h
    rw [r1_May_L6_eq]; unfold r1_May_L6_B
    (try dsimp only); (repeat' first | (with_reducible refine G_to ?_ ?_; focus (first | omega | (unfold fits; omega) | (unfold room; (try simp only [List.length_append, List.length_cons, List.length_nil]); omega))) | (with_reducible refine both_to ?_ ?_) | (with_reducible refine itet_to ?_) | (with_reducible refine itef_to ?_) | (with_reducible refine ite_to (fun _ => ?_) (fun _ => ?_))) <;> try (exfalso; omega)
    · rw [mayE_ok hL hw (fun j a b => h j a (by omega))]
  | succ n ih =>
    intro i h0 h1 hn h
    rw [r1_May_L6_eq]; unfold r1_May_L6_B
    (try dsimp only); (repeat' first | (with_reducible refine G_to ?_ ?_; focus (first | omega | (unfold fits; omega) | (unfold room; (try simp only [List.length_append, List.length_cons, List.length_nil]); omega))) | (with_reducible refine both_to ?_ ?_) | (with_reducible refine itet_to ?_) | (with_reducible refine itef_to ?_) | (with_reducible refine ite_to (fun _ => ?_) (fun _ => ?_))) <;> try (exfalso; omega)
    · rw [mayE_bad hL hw (i := i) (by omega) (by omega)]
    · rw [mayE_bad hL hw (i := i) (by omega) (by omega)]
    · exact ih _ (by omega) (by omega) (by omega) (below_succ h (by omega))
theorem r1_May_spec {letters : Int} {w : List Int} : r1_May letters w = some (mayE letters w) := by
  unfold r1_May
  (try dsimp only); (repeat' first | (with_reducible refine G_to ?_ ?_; focus (first | omega | (unfold fits; omega) | (unfold room; (try simp only [List.length_append, List.length_cons, List.length_nil]); omega))) | (with_reducible refine both_to ?_ ?_) | (with_reducible refine itet_to ?_) | (with_reducible refine itef_to ?_) | (with_reducible refine ite_to (fun _ => ?_) (fun _ => ?_))) <;> try (exfalso; omega)
  · rw [mayE_range (by omega)]
  · rw [mayE_range (by omega)]
  · rw [mayE_size (by omega) (by omega)]
  · exact r1_May_L6_spec (by omega) (by omega) _ 0 (by omega) (by omega) rfl (fun j a b => by omega)

theorem slices_Grow_spec {n : Int} (h0 : 0 ≤ n) (h : n * 8 ≤ 140737488355328) : slices_Grow n = some [] := by
  unfold slices_Grow
  (try dsimp only); (repeat' first | (with_reducible refine G_to ?_ ?_; focus (first | omega | (unfold fits; omega) | (unfold room; (try simp only [List.length_append, List.length_cons, List.length_nil]); omega))) | (with_reducible refine both_to ?_ ?_) | (with_reducible refine itet_to ?_) | (with_reducible refine itef_to ?_) | (with_reducible refine ite_to (fun _ => ?_) (fun _ => ?_))) <;> try (exfalso; omega)
  all_goals first | rfl | (rw [show ((0 : Int)).toNat = 0 from rfl, List.take_zero])
theorem slices_Concat_spec {ls : List (List Int)} (h : ls.length ≤ 1000) (hl : (ls.flatten.length : Int) * 8 ≤ 140737488355328) : slices_Concat ls = some ls.flatten := by
  have sum : ∀ (k : Nat), ((ls.take k).flatten.length : Int) ≤ ls.flatten.length := by
    intro k
    have : ls.flatten = (ls.take k).flatten ++ (ls.drop k).flatten := by rw [← List.flatten_append, List.take_append_drop]
    rw [this, List.length_append]; omega
  have tk : ∀ t : Int, 0 ≤ t → t < ls.length → (ls.take (t + 1).toNat).flatten = (ls.take t.toNat).flatten ++ ix ls t := fun t h0 h1 => by
    rw [ix_take h0 h1, List.flatten_append]; simp
  unfold slices_Concat
  have k2 : ∀ (n : Nat) (t : Int), (ls.length - t).toNat = n → 0 ≤ t → t ≤ ls.length → slices_Concat_L11 ls t (ls.take t.toNat).flatten = some ls.flatten := by
    intro n
    induction n with
    | zero =>
      intro t hn h0 h1
      rw [slices_Concat_L11_eq]; unfold slices_Concat_L11_B
      rw [List.take_of_length_le (by omega), if_neg (by simp only [decide_eq_true_eq]; omega)]
    | succ n ih =>
      intro t hn h0 h1
      have e := tk t h0 (by omega)
      have s := sum (t + 1).toNat
      rw [e, List.length_append] at s
      rw [slices_Concat_L11_eq]; unfold slices_Concat_L11_B
      (try dsimp only); (repeat' first | (with_reducible refine G_to ?_ ?_; focus (first | omega | (unfold fits; omega) | (unfold room; (try simp only [List.length_append, List.length_cons, List.length_nil]); omega))) | (with_reducible refine both_to ?_ ?_) | (with_reducible refine itet_to ?_) | (with_reducible refine itef_to ?_) | (with_reducible refine ite_to (fun _ => ?_) (fun _ => ?_))) <;> try (exfalso; omega)
      rw [← e]
      exact ih (t + 1) (by omega) (by omega) (by omega)
  have k1 : ∀ (n : Nat) (t : Int), (ls.length - t).toNat = n → 0 ≤ t → t ≤ ls.length → slices_Concat_L3 ls ((ls.take t.toNat).flatten.length : Int) t = some ls.flatten := by
    intro n
    induction n with
    | zero =>
      intro t hn h0 h1
      rw [slices_Concat_L3_eq]; unfold slices_Concat_L3_B
      rw [List.take_of_length_le (by omega), if_neg (by simp only [decide_eq_true_eq]; omega)]
      refine bind_to (slices_Grow_spec (by omega) hl) ?_
      have := k2 _ 0 rfl (by omega) (by omega)
      simpa using this
    | succ n ih =>
      intro t hn h0 h1
      have e := tk t h0 (by omega)
      have s := sum (t + 1).toNat
      have ih' := ih (t + 1) (by omega) (by omega) (by omega)
      rw [e, List.length_append] at s ih'
      rw [slices_Concat_L3_eq]; unfold slices_Concat_L3_B
      (try dsimp only); (repeat' first | (with_reducible refine G_to ?_ ?_; focus (first | omega | (unfold fits; omega) | (unfold room; (try simp only [List.length_append, List.length_cons, List.length_nil]); omega))) | (with_reducible refine both_to ?_ ?_) | (with_reducible refine itet_to ?_) | (with_reducible refine itef_to ?_) | (with_reducible refine ite_to (fun _ => ?_) (fun _ => ?_))) <;> try (exfalso; omega)
      rw [← ih']; congr 1
  have := k1 _ 0 rfl (by omega) (by omega)
  simpa using this

theorem begins_tells {w v : List Int} (hw : w.length ≤ 30) (hv : v.length ≤ 30) : Tells (r24_Begins w v) (∃ T, w = v ++ T) := by
  unfold r24_Begins
  by_cases c : (w.length : Int) < v.length
  · rw [if_pos (decide_eq_true c)]
    refine Tells.of ⟨fun h => (by cases h), fun ⟨T, h⟩ => ?_⟩
    rw [h, List.length_append] at c; omega
  · rw [if_neg (by simpa using c), G_pos (by omega)]
    have ec : cut w 0 v.length = w.take v.length := by unfold cut; simp
    refine ⟨decide (cut w 0 v.length = v), bind_to (r1_Words_spec (by rw [ec, List.length_take]; omega)) rfl, ?_⟩
    rw [decide_eq_true_iff, ec]
    constructor
    · intro h; exact ⟨w.drop v.length, by conv => lhs; rw [← List.take_append_drop v.length w, h]⟩
    · rintro ⟨T, rfl⟩; simp
theorem apart_spec {l : List (List Int)} (hl : l.length ≤ 20) (hs : ∀ i : Int, 0 ≤ i → i < l.length → (ix l i).length ≤ 30)
    (h : ∀ i k : Int, 0 ≤ i → i < l.length → 0 ≤ k → k < l.length → i ≠ k → ¬ ∃ T, ix l i = ix l k ++ T) : r24_Apart l = some true := by
  unfold r24_Apart
  refine scan_to (len := (l.length : Int)) (bad := fun _ => False) (by omega) (fun i i0 i1 => ⟨fun hb => hb.elim, fun _ => ?_⟩) (fun _ => ?_)
  · conv => lhs; rw [r24_Apart_L2_eq]; unfold r24_Apart_L2_B
    rw [if_pos (by simp only [decide_eq_true_eq]; omega)]
    refine scan_to (len := (l.length : Int)) (bad := fun _ => False) (by omega) (fun k k0 k1 => ⟨fun hb => hb.elim, fun _ => ?_⟩) (fun _ => ?_)
    · conv => lhs; rw [r24_Apart_L5_eq]; unfold r24_Apart_L5_B
      rw [if_pos (by simp only [decide_eq_true_eq]; omega), G_pos (by omega), G_pos (by omega)]
      obtain ⟨b, e, hb⟩ := begins_tells (hs i i0 i1) (hs k k0 k1)
      refine bind_to e ?_
      by_cases c : i = k
      · rw [if_neg (by simp [c]), G_pos (by unfold fits; omega)]
      · rw [if_pos (by simp [c]), if_neg (fun hb' => ?_), G_pos (by unfold fits; omega)]
        exact h i k i0 i1 k0 k1 c (hb.1 hb')
    · rw [r24_Apart_L5_eq]; unfold r24_Apart_L5_B
      rw [if_neg (by simp), G_pos (by unfold fits; omega)]
  · rw [r24_Apart_L2_eq]; unfold r24_Apart_L2_B
    rw [if_neg (by simp)]

abbrev Row := Int × (List Int) × Unit
theorem cmp_key (x y : Row) : ∃ o, code_Cheap_1 x y = some o ∧ (o < 0 ↔ x.1 < y.1) := by
  unfold code_Cheap_1 cmp_Compare cmp_isNaN
  simp only [Option.bind_some, not_true, decide_false, Bool.false_eq_true, if_false, decide_eq_true_eq]
  by_cases h : x.1 < y.1
  · exact ⟨-1, by simp [h], by omega⟩
  · by_cases h2 : y.1 < x.1
    · exact ⟨1, by simp [h, h2], by omega⟩
    · exact ⟨0, by simp [h, h2], by omega⟩
/- insertion sort: what slices.SortStableFunc does with at most 20 -/
def sz (data : List Row) (p : Int) : Int := Prod.fst (ix data p)
def Srt (i : Int) (data : List Row) : Prop := ∀ p q : Int, 0 ≤ p → p < q → q < i → sz data p ≤ sz data q
theorem swap_perm {α : Type} [Inhabited α] {l : List α} {i j : Int} (i0 : 0 ≤ i) (i1 : i < l.length) (j0 : 0 ≤ j) (j1 : j < l.length) : ((l.set i.toNat (ix l j)).set j.toNat (ix l i)).Perm l := by
  have h1 : i.toNat < l.toArray.size := by simp; omega
  have h2 : j.toNat < l.toArray.size := by simp; omega
  have := Array.perm_iff_toList_perm.1 (Array.swap_perm h1 h2)
  rw [Array.toList_swap] at this
  have e1 : l.toArray[j.toNat] = ix l j := by rw [ix_eq j0 j1]; rfl
  have e2 : l.toArray[i.toNat] = ix l i := by rw [ix_eq i0 i1]; rfl
  rw [e1, e2] at this
  exact this
theorem ins_L4 {r1 : Int → List Row → Option (List Row)} {i : Int} : ∀ (n : Nat) (j : Int) (data : List Row), j.toNat = n → 0 ≤ j → j ≤ i → i < data.length → data.length ≤ 20 →
    (∀ p q : Int, 0 ≤ p → p < q → q ≤ i → p ≠ j → q ≠ j → sz data p ≤ sz data q) → (∀ q : Int, j < q → q ≤ i → sz data j ≤ sz data q) →
    ∃ data', slices_insertionSortCmpFunc_L4 0 i r1 j data = r1 (i + 1) data' ∧ data'.Perm data ∧ Srt (i + 1) data' := by
  intro n
  induction n with
  | zero =>
    intro j data hn j0 ji hi hl h1 h2
    obtain rfl : j = 0 := by omega
    refine ⟨data, ?_, List.Perm.refl _, fun p q p0 pq qi => ?_⟩
    · rw [slices_insertionSortCmpFunc_L4_eq]; unfold slices_insertionSortCmpFunc_L4_B slices_insertionSortCmpFunc_J4
      rw [if_neg (by simp), if_neg (by simp), G_pos (by unfold fits; omega)]
    · by_cases e : p = 0
      · subst e; exact h2 q pq (by omega)
      · exact h1 p q p0 pq (by omega) e (by omega)
  | succ n ih =>
    intro j data hn j0 ji hi hl h1 h2
    obtain ⟨o, ho, ho2⟩ := cmp_key (ix data j) (ix data (j - 1))
    by_cases hlt : o < 0
    · have e1 := swap_perm (l := data) (i := j) (j := j - 1) (by omega) (by omega) (by omega) (by omega)
      have sj : ix ((data.set j.toNat (ix data (j - 1))).set (j - 1).toNat (ix data j)) j = ix data (j - 1) := by
        rw [ix_set_ne (by omega) (by omega) (by omega), ix_set_same (by omega) (by omega)]
      have sj1 : ix ((data.set j.toNat (ix data (j - 1))).set (j - 1).toNat (ix data j)) (j - 1) = ix data j := by
        rw [ix_set_same (by omega) (by rw [List.length_set]; omega)]
      have so : ∀ q : Int, 0 ≤ q → q ≠ j → q ≠ j - 1 → ix ((data.set j.toNat (ix data (j - 1))).set (j - 1).toNat (ix data j)) q = ix data q := fun q q0 a b => by
        rw [ix_set_ne (by omega) q0 (by omega), ix_set_ne (by omega) q0 (by omega)]
      have lt := ho2.1 hlt
      obtain ⟨d', e, hp, hs⟩ := ih (j - 1) ((data.set j.toNat (ix data (j - 1))).set (j - 1).toNat (ix data j)) (by omega) (by omega) (by omega) (by rw [List.length_set, List.length_set]; exact hi) (by rw [List.length_set, List.length_set]; exact hl) (fun p q p0 pq qi pj qj => by
        unfold sz
        by_cases a : p = j
        · subst a; rw [sj, so q (by omega) (by omega) (by omega)]; exact h1 (p - 1) q (by omega) (by omega) qi (by omega) (by omega)
        · by_cases b : q = j
          · subst b; rw [sj, so p (by omega) a (by omega)]; exact h1 p (q - 1) (by omega) (by omega) (by omega) (by omega) (by omega)
          · rw [so p p0 a pj, so q (by omega) b qj]; exact h1 p q p0 pq qi a b) (fun q qj qi => by
        unfold sz
        rw [sj1]
        by_cases b : q = j
        · subst b; rw [sj]; omega
        · rw [so q (by omega) b (by omega)]; exact h2 q (by omega) qi)
      refine ⟨d', ?_, hp.trans e1, hs⟩
      rw [← e, slices_insertionSortCmpFunc_L4_eq]; unfold slices_insertionSortCmpFunc_L4_B
      (try dsimp only); (repeat' first | (with_reducible refine G_to ?_ ?_; focus (first | omega | (unfold fits; omega) | (unfold room; (try simp only [List.length_append, List.length_cons, List.length_nil]); omega))) | (with_reducible refine both_to ?_ ?_) | (with_reducible refine itet_to ?_) | (with_reducible refine itef_to ?_) | (with_reducible refine ite_to (fun _ => ?_) (fun _ => ?_))) <;> try (exfalso; omega)
      refine bind_to ho ?_
      unfold slices_insertionSortCmpFunc_J4 slices_insertionSortCmpFunc_J4_1
      rw [if_pos (decide_eq_true hlt)]
      (try dsimp only); (repeat' first | (with_reducible refine G_to ?_ ?_; focus (first | omega | (unfold fits; omega) | (unfold room; (try simp only [List.length_append, List.length_cons, List.length_nil]); omega))) | (with_reducible refine both_to ?_ ?_) | (with_reducible refine itet_to ?_) | (with_reducible refine itef_to ?_) | (with_reducible refine ite_to (fun _ => ?_) (fun _ => ?_))) <;> try (exfalso; omega)
      refine G_to (by rw [List.length_set]; omega) ?_
      refine G_to (by rw [List.length_set]; omega) ?_
      (try dsimp only); (repeat' first | (with_reducible refine G_to ?_ ?_; focus (first | omega | (unfold fits; omega) | (unfold room; (try simp only [List.length_append, List.length_cons, List.length_nil]); omega))) | (with_reducible refine both_to ?_ ?_) | (with_reducible refine itet_to ?_) | (with_reducible refine itef_to ?_) | (with_reducible refine ite_to (fun _ => ?_) (fun _ => ?_))) <;> try (exfalso; omega)
      rfl
    · refine ⟨data, ?_, List.Perm.refl _, fun p q p0 pq qi => ?_⟩
      · rw [slices_insertionSortCmpFunc_L4_eq]; unfold slices_insertionSortCmpFunc_L4_B
        (try dsimp only); (repeat' first | (with_reducible refine G_to ?_ ?_; focus (first | omega | (unfold fits; omega) | (unfold room; (try simp only [List.length_append, List.length_cons, List.length_nil]); omega))) | (with_reducible refine both_to ?_ ?_) | (with_reducible refine itet_to ?_) | (with_reducible refine itef_to ?_) | (with_reducible refine ite_to (fun _ => ?_) (fun _ => ?_))) <;> try (exfalso; omega)
        refine bind_to ho ?_
        unfold slices_insertionSortCmpFunc_J4
        rw [if_neg (by simpa using hlt), G_pos (by unfold fits; omega)]
      · have nlt : ¬ sz data j < sz data (j - 1) := fun h => hlt (ho2.2 h)
        by_cases a : p = j
        · subst a; exact h2 q (by omega) (by omega)
        · by_cases b : q = j
          · subst b
            by_cases e : p = q - 1
            · subst e; omega
            · have := h1 p (q - 1) p0 (by omega) (by omega) a (by omega); omega
          · exact h1 p q p0 pq (by omega) a b
theorem ins_L1 : ∀ (n : Nat) (i : Int) (data : List Row), (data.length - i).toNat = n → 1 ≤ i → i ≤ data.length → data.length ≤ 20 → Srt i data →
    ∃ data', slices_insertionSortCmpFunc_L1 0 data.length i data = some data' ∧ data'.Perm data ∧ Srt data.length data' := by
  intro n
  induction n with
  | zero =>
    intro i data hn i1 il hl hs
    refine ⟨data, ?_, List.Perm.refl _, by rw [show (data.length : Int) = i by omega]; exact hs⟩
    rw [slices_insertionSortCmpFunc_L1_eq]; unfold slices_insertionSortCmpFunc_L1_B
    rw [if_neg (by simp only [decide_eq_true_eq]; omega)]
  | succ n ih =>
    intro i data hn i1 il hl hs
    obtain ⟨d, e, hp, hs'⟩ := ins_L4 (r1 := slices_insertionSortCmpFunc_L1 0 data.length) (i := i) _ i data rfl (by omega) (by omega) (by omega) hl (fun p q p0 pq qi a b => hs p q p0 pq (by omega)) (fun q a b => by omega)
    have len := hp.length_eq
    obtain ⟨d2, e2, hp2, hs2⟩ := ih (i + 1) d (by omega) (by omega) (by omega) (by omega) hs'
    rw [len] at e2 hs2
    refine ⟨d2, ?_, hp2.trans hp, hs2⟩
    rw [slices_insertionSortCmpFunc_L1_eq]; unfold slices_insertionSortCmpFunc_L1_B
    rw [if_pos (by simp only [decide_eq_true_eq]; omega), e, e2]
theorem sort_spec {data : List Row} (h1 : 1 ≤ data.length) (hl : data.length ≤ 20) : ∃ data', slices_SortStableFunc data = some data' ∧ data'.Perm data ∧ Srt data.length data' := by
  obtain ⟨d, e, hp, hs⟩ := ins_L1 _ 1 data rfl (by omega) (by omega) hl (fun p q p0 pq qi => by omega)
  refine ⟨d, ?_, hp, hs⟩
  have ins : slices_insertionSortCmpFunc 0 data.length data = some d := by
    unfold slices_insertionSortCmpFunc
    rw [G_pos (by decide)]
    exact e
  have L7 : slices_stableCmpFunc_L7 data.length 20 d = some d := by
    rw [slices_stableCmpFunc_L7_eq]; unfold slices_stableCmpFunc_L7_B
    rw [if_neg (by simp only [decide_eq_true_eq]; omega)]
  unfold slices_SortStableFunc slices_stableCmpFunc
  refine bind_to ?_ rfl
  rw [slices_stableCmpFunc_L2_eq]; unfold slices_stableCmpFunc_L2_B
  by_cases h : data.length = 20
  · rw [if_pos (by simp only [decide_eq_true_eq]; omega)]
    refine bind_to (by rw [show (20 : Int) = data.length by omega]; exact ins) ?_
    rw [G_pos (by decide), slices_stableCmpFunc_L2_eq]; unfold slices_stableCmpFunc_L2_B
    rw [if_neg (by simp only [decide_eq_true_eq]; omega)]
    have i2 : slices_insertionSortCmpFunc 20 data.length d = some d := by
      unfold slices_insertionSortCmpFunc
      rw [G_pos (by decide), slices_insertionSortCmpFunc_L1_eq]; unfold slices_insertionSortCmpFunc_L1_B
      rw [if_neg (by simp only [decide_eq_true_eq]; omega)]
    rw [i2]
    exact L7
  · rw [if_neg (by simp only [decide_eq_true_eq]; omega)]
    exact bind_to ins L7

/- sums -/
def sm (f : Int → Int) : List Int → Int
  | [] => 0
  | x :: l => f x + sm f l
theorem sm_app (f : Int → Int) : ∀ a b : List Int, sm f (a ++ b) = sm f a + sm f b
  | [], b => by simp [sm]
  | x :: a, b => by rw [List.cons_append, sm, sm, sm_app f a b]; omega
theorem sm_perm (f : Int → Int) {a b : List Int} (h : a.Perm b) : sm f a = sm f b := by
  induction h with
  | nil => rfl
  | cons x _ ih => rw [sm, sm, ih]
  | swap x y l => rw [sm, sm, sm, sm]; omega
  | trans _ _ h1 h2 => exact h1.trans h2
theorem sm_congr {f g : Int → Int} : ∀ {l : List Int}, (∀ x ∈ l, f x = g x) → sm f l = sm g l
  | [], _ => rfl
  | x :: l, h => by rw [sm, sm, h x (by simp), sm_congr (fun y hy => h y (by simp [hy]))]
theorem sm_add (f g : Int → Int) : ∀ l : List Int, sm (fun x => f x + g x) l = sm f l + sm g l
  | [] => rfl
  | x :: l => by rw [sm, sm, sm, sm_add f g l]; omega
theorem sm_le {f : Int → Int} {B : Int} : ∀ {l : List Int}, (∀ x ∈ l, 0 ≤ f x ∧ f x ≤ B) → 0 ≤ sm f l ∧ sm f l ≤ B * l.length
  | [], _ => by simp [sm]
  | x :: l, h => by
    have h1 := h x (by simp)
    have h2 := sm_le (l := l) (fun y hy => h y (by simp [hy]))
    rw [sm, List.length_cons]
    have : B * ((l.length + 1 : Nat) : Int) = B * l.length + B := by push_cast; rw [Int.mul_add]; omega
    rw [this]; omega
/- the least two -/
theorem min_head {a c : Int} {x y : List Int} (h : (a :: x).Perm (c :: y)) (ha : ∀ z ∈ x, a ≤ z) (hc : ∀ z ∈ y, c ≤ z) : a = c ∧ x.Perm y := by
  have h1 : a ∈ c :: y := h.mem_iff.1 (by simp)
  have h2 : c ∈ a :: x := h.mem_iff.2 (by simp)
  have e : a = c := by
    rcases List.mem_cons.1 h1 with e | e
    · exact e
    · rcases List.mem_cons.1 h2 with e2 | e2
      · exact e2.symm
      · have := hc a e; have := ha c e2; omega
  subst e
  exact ⟨rfl, h.cons_inv⟩
def iota' (n : Nat) : List Int := (List.range n).map (fun (k : Nat) => (k : Int))
theorem iota'_succ (n : Nat) : iota' (n + 1) = iota' n ++ [(n : Int)] := by simp [iota', List.range_succ]
theorem iota'_mem {n : Nat} {i : Int} : i ∈ iota' n ↔ 0 ≤ i ∧ i < n := by
  unfold iota'
  rw [List.mem_map]
  constructor
  · rintro ⟨k, hk, rfl⟩; rw [List.mem_range] at hk; omega
  · rintro ⟨h0, h1⟩; exact ⟨i.toNat, by rw [List.mem_range]; omega, by omega⟩
theorem iota'_nodup (n : Nat) : (iota' n).Nodup := by
  unfold iota'
  exact List.Pairwise.map _ (fun a b h => by omega) List.nodup_range
theorem iota'_len (n : Nat) : (iota' n).length = n := by simp [iota']
def insOf (rows : List Row) : List Int := (rows.map (fun r => r.2.1)).flatten
structure WOk (W : List Int) : Prop where
  n : 1 ≤ W.length ∧ W.length ≤ 20
  w : ∀ x ∈ W, 1 ≤ x ∧ x ≤ 1000000
theorem WOk.ix {W : List Int} (h : WOk W) {i : Int} (hi : i ∈ iota' W.length) : 1 ≤ Go.Ab.ix W i ∧ Go.Ab.ix W i ≤ 1000000 := by
  have := iota'_mem.1 hi
  exact h.w _ (ix_mem this.1 this.2)
def cst (W : List Int) (l : List (List Int)) (i : Int) : Int := ix W i * ((ix l i).length : Int)
structure CI (W : List Int) (cost : Int) (l : List (List Int)) (rows : List Row) : Prop where
  pos : 1 ≤ rows.length
  wt : ∀ r ∈ rows, r.1 = sm (ix W) r.2.1
  ins : (insOf rows).Perm (iota' W.length)
  len : l.length = W.length
  cost : cost = sm (cst W l) (iota' W.length)
  pf : ∀ r ∈ rows, ∀ i ∈ r.2.1, ∀ k ∈ r.2.1, i ≠ k → ¬ ∃ T, ix l i = ix l k ++ T
  dig : ∀ i ∈ iota' W.length, ∀ a ∈ ix l i, 0 ≤ a ∧ a < 2
  wl : ∀ i ∈ iota' W.length, (ix l i).length + rows.length ≤ W.length
  rl : rows.length ≤ W.length
section
variable {W : List Int}
theorem cst_b (h : WOk W) {l : List (List Int)} {m : Nat} (hm : m ≤ 20) (hl : ∀ i ∈ iota' W.length, (ix l i).length ≤ m) {i : Int} (hi : i ∈ iota' W.length) : 0 ≤ cst W l i ∧ cst W l i ≤ 20000000 := by
  have h1 := h.ix hi
  have h2 := hl i hi
  unfold cst
  have : ix W i * ((ix l i).length : Int) ≤ 1000000 * ((ix l i).length : Int) := Int.mul_le_mul_of_nonneg_right h1.2 (by omega)
  have : 0 ≤ ix W i * ((ix l i).length : Int) := Int.mul_nonneg (by omega) (by omega)
  omega
/-- One more letter for all of a tree. -/
theorem L18_spec {y : List Row} {t : Int} (t0 : 0 ≤ t) (t1 : t < 2) {r15} : ∀ (m : Nat) (t2 : Int) (l : List (List Int)), ((((ix y t).2).1).length - t2).toNat = m → 0 ≤ t2 → t2 ≤ (((ix y t).2).1).length → (((ix y t).2).1).length ≤ 100 → (((ix y t).2).1).Nodup → (∀ i ∈ ((ix y t).2).1, 0 ≤ i ∧ i < l.length) → (∀ i ∈ (((ix y t).2).1).drop t2.toNat, (ix l i).length ≤ 100) →
    ∃ l', l'.length = l.length ∧ (∀ i : Int, 0 ≤ i → i ∈ (((ix y t).2).1).drop t2.toNat → ix l' i = t :: ix l i) ∧ (∀ i : Int, 0 ≤ i → i ∉ (((ix y t).2).1).drop t2.toNat → ix l' i = ix l i) ∧ code_Cheap_L18 y t r15 t2 l = r15 (t + 1) l' := by
  generalize hin : ((ix y t).2).1 = ins
  intro m
  induction m with
  | zero =>
    intro t2 l hm h0 h1 hl hnd hi h100
    refine ⟨l, rfl, fun i _ hmem => ?_, fun i _ _ => rfl, ?_⟩
    · rw [List.drop_of_length_le (by omega)] at hmem; cases hmem
    · rw [code_Cheap_L18_eq]; unfold code_Cheap_L18_B
      rw [hin, if_neg (by simp; omega)]
      exact G_to (by unfold fits; omega) rfl
  | succ m ih =>
    intro t2 l hm h0 h1 hl hnd hi h100
    have hd : ins.drop t2.toNat = ix ins t2 :: ins.drop (t2 + 1).toNat := ix_drop h0 (by omega)
    have hx := hi _ (ix_mem h0 (by omega))
    have hx2 := h100 (ix ins t2) (by rw [hd]; simp)
    have hnd2 : ix ins t2 ∉ ins.drop (t2 + 1).toNat := by
      have : (ins.drop t2.toNat).Nodup := hnd.sublist (List.drop_sublist _ _)
      rw [hd, List.nodup_cons] at this
      exact this.1
    have hset : ∀ i : Int, 0 ≤ i → ix (l.set (ix ins t2).toNat ([t] ++ ix l (ix ins t2))) i = if i = ix ins t2 then t :: ix l i else ix l i := fun i i0 => by
      by_cases c : i = ix ins t2
      · rw [if_pos c, ← c, ix_set_same i0 (by omega)]; rfl
      · rw [if_neg c, ix_set_ne hx.1 i0 (Ne.symm c)]
    obtain ⟨l', z1, z2, z3, z4⟩ := ih (t2 + 1) (l.set (ix ins t2).toNat ([t] ++ ix l (ix ins t2))) (by omega) (by omega) (by omega) hl hnd (fun i hmem => by rw [List.length_set]; exact hi i hmem) (fun i hmem => by
      have c : ¬ i = ix ins t2 := fun c => hnd2 (c ▸ hmem)
      have i0 := (hi i (List.mem_of_mem_drop hmem)).1
      rw [hset i i0, if_neg c]
      exact h100 i (by rw [hd]; simp [hmem]))
    refine ⟨l', by rw [z1, List.length_set], fun i i0 hmem => ?_, fun i i0 hmem => ?_, ?_⟩
    · rw [hd] at hmem
      rcases List.mem_cons.1 hmem with e | e
      · rw [e, z3 _ hx.1 hnd2, hset _ hx.1, if_pos rfl]
      · rw [z2 i i0 e, hset i i0, if_neg (fun c : i = ix ins t2 => hnd2 (c ▸ e))]
    · rw [hd] at hmem
      have c : i ≠ ix ins t2 := fun c => hmem (by rw [c]; simp)
      rw [z3 i i0 (fun e => hmem (by simp [e])), hset i i0, if_neg c]
    · rw [code_Cheap_L18_eq]; unfold code_Cheap_L18_B
      rw [hin, if_pos (by simp; omega)]
      refine G_to (by omega) (G_to (by omega) (G_to (by omega) (G_to (by unfold room; simp; omega) (G_to (by omega) (G_to (by omega) (G_to (by unfold fits; omega) z4))))))
theorem insOf_cons (r : Row) (rows : List Row) : insOf (r :: rows) = r.2.1 ++ insOf rows := rfl
theorem insOf_app (a b : List Row) : insOf (a ++ b) = insOf a ++ insOf b := by unfold insOf; simp
theorem insOf_mem {rows : List Row} {r : Row} (h : r ∈ rows) {i : Int} (hi : i ∈ r.2.1) : i ∈ insOf rows := by
  unfold insOf
  rw [List.mem_flatten]
  exact ⟨r.2.1, List.mem_map.2 ⟨r, h, rfl⟩, hi⟩
theorem insOf_len {rows : List Row} {r : Row} (h : r ∈ rows) : r.2.1.length ≤ (insOf rows).length := by
  obtain ⟨a, b, rfl⟩ := List.append_of_mem h
  rw [insOf_app, insOf_cons, List.length_append, List.length_append]; omega
theorem insOf_nodup {rows : List Row} {r : Row} (h : r ∈ rows) (hn : (insOf rows).Nodup) : r.2.1.Nodup := by
  obtain ⟨a, b, rfl⟩ := List.append_of_mem h
  rw [insOf_app, insOf_cons] at hn
  exact (List.nodup_append.1 (List.nodup_append.1 hn).2.1).1
theorem CI.perm {cost : Int} {l : List (List Int)} {rows y : List Row} (h : CI W cost l rows) (hp : y.Perm rows) : CI W cost l y := by
  have hl := hp.length_eq
  refine ⟨by have := h.pos; omega, fun r hr => h.wt r (hp.mem_iff.1 hr), ?_, h.len, h.cost, fun r hr => h.pf r (hp.mem_iff.1 hr), h.dig, fun i hi => by have := h.wl i hi; omega, by have := h.rl; omega⟩
  exact ((hp.map _).flatten).trans h.ins
theorem CI.wb (hW : WOk W) {cost : Int} {l : List (List Int)} {rows : List Row} (h : CI W cost l rows) {r : Row} (hr : r ∈ rows) : 0 ≤ r.1 ∧ r.1 ≤ 20000000 := by
  rw [h.wt r hr]
  have h1 := insOf_len hr
  have h2 := h.ins.length_eq
  rw [iota'_len] at h2
  have h3 := hW.n
  have := sm_le (f := ix W) (B := 1000000) (l := r.2.1) (fun x hx => by have := hW.ix (h.ins.mem_iff.1 (insOf_mem hr hx)); omega)
  omega
theorem CI.cb (hW : WOk W) {cost : Int} {l : List (List Int)} {rows : List Row} (h : CI W cost l rows) : 0 ≤ cost ∧ cost ≤ 400000000 := by
  have h3 := hW.n
  have := sm_le (f := cst W l) (B := 20000000) (l := iota' W.length) (fun i hi => cst_b hW (m := 20) (by omega) (fun i hi => by have := h.wl i hi; omega) hi)
  rw [iota'_len, ← h.cost] at this
  omega
theorem iota_perm_sm (f : Int → Int) {rows : List Row} {cost : Int} {l : List (List Int)} (h : CI W cost l rows) : sm f (iota' W.length) = sm f (insOf rows) := (sm_perm f h.ins).symm
/-- Two trees become one. -/
theorem CI.join (hW : WOk W) {cost : Int} {l : List (List Int)} {r0 r1 : Row} {rest : List Row} (h : CI W cost l (r0 :: r1 :: rest)) {l1 l2 : List (List Int)} (len1 : l1.length = l.length) (len2 : l2.length = l1.length)
    (a1 : ∀ i : Int, 0 ≤ i → i ∈ r0.2.1 → ix l1 i = 0 :: ix l i) (b1 : ∀ i : Int, 0 ≤ i → i ∉ r0.2.1 → ix l1 i = ix l i)
    (a2 : ∀ i : Int, 0 ≤ i → i ∈ r1.2.1 → ix l2 i = 1 :: ix l1 i) (b2 : ∀ i : Int, 0 ≤ i → i ∉ r1.2.1 → ix l2 i = ix l1 i) : CI W (cost + (r0.1 + r1.1)) l2 (rest ++ [(r0.1 + r1.1, r0.2.1 ++ r1.2.1, ())]) := by
  have hnd : (insOf (r0 :: r1 :: rest)).Nodup := h.ins.nodup_iff.2 (iota'_nodup _)
  have e0 : insOf (r0 :: r1 :: rest) = r0.2.1 ++ (r1.2.1 ++ insOf rest) := rfl
  rw [e0] at hnd
  obtain ⟨_, hnd2, hdis1⟩ := List.nodup_append.1 hnd
  obtain ⟨_, _, hdis2⟩ := List.nodup_append.1 hnd2
  have nn : ∀ {i : Int}, i ∈ insOf (r0 :: r1 :: rest) → 0 ≤ i := fun hi => (iota'_mem.1 (h.ins.mem_iff.1 hi)).1
  have m0 : ∀ {i : Int}, i ∈ r0.2.1 → ix l2 i = 0 :: ix l i := fun {i} hi => by
    have i0 : 0 ≤ i := nn (i := i) (by rw [e0]; simp [hi])
    rw [b2 i i0 (fun c => hdis1 i hi i (by simp [c]) rfl), a1 i i0 hi]
  have m1 : ∀ {i : Int}, i ∈ r1.2.1 → ix l2 i = 1 :: ix l i := fun {i} hi => by
    have i0 : 0 ≤ i := nn (i := i) (by rw [e0]; simp [hi])
    rw [a2 i i0 hi, b1 i i0 (fun c => hdis1 i c i (by simp [hi]) rfl)]
  have m2 : ∀ {i : Int}, 0 ≤ i → i ∉ r0.2.1 → i ∉ r1.2.1 → ix l2 i = ix l i := fun {i} i0 h0 h1 => by rw [b2 i i0 h1, b1 i i0 h0]
  have hw0 := h.wt r0 (by simp)
  have hw1 := h.wt r1 (by simp)
  have hrl := h.rl
  rw [List.length_cons, List.length_cons] at hrl
  refine ⟨by simp, fun r hr => ?_, ?_, by rw [len2, len1]; exact h.len, ?_, fun r hr => ?_, fun i hi a ha => ?_, fun i hi => ?_, by simp; omega⟩
  · rcases List.mem_append.1 hr with hr | hr
    · exact h.wt r (by simp [hr])
    · rw [List.mem_singleton.1 hr]
      show r0.1 + r1.1 = sm (ix W) (r0.2.1 ++ r1.2.1)
      rw [sm_app, ← hw0, ← hw1]
  · refine List.Perm.trans ?_ h.ins
    rw [insOf_app, e0, insOf_cons]
    show (insOf rest ++ (r0.2.1 ++ r1.2.1 ++ [])).Perm (r0.2.1 ++ (r1.2.1 ++ insOf rest))
    rw [List.append_nil, ← List.append_assoc r0.2.1]
    exact List.perm_append_comm
  · have e1 : sm (cst W l2) (iota' W.length) = sm (cst W l2) (r0.2.1 ++ (r1.2.1 ++ insOf rest)) := (iota_perm_sm _ h)
    have e2 : sm (cst W l) (iota' W.length) = sm (cst W l) (r0.2.1 ++ (r1.2.1 ++ insOf rest)) := (iota_perm_sm _ h)
    rw [h.cost, e1, e2, sm_app, sm_app, sm_app, sm_app, hw0, hw1]
    have c0 : sm (cst W l2) r0.2.1 = sm (cst W l) r0.2.1 + sm (ix W) r0.2.1 := by
      rw [← sm_add]
      exact sm_congr (fun i hi => by unfold cst; rw [m0 hi, List.length_cons]; push_cast; rw [Int.mul_add]; omega)
    have c1 : sm (cst W l2) r1.2.1 = sm (cst W l) r1.2.1 + sm (ix W) r1.2.1 := by
      rw [← sm_add]
      exact sm_congr (fun i hi => by unfold cst; rw [m1 hi, List.length_cons]; push_cast; rw [Int.mul_add]; omega)
    have c2 : sm (cst W l2) (insOf rest) = sm (cst W l) (insOf rest) := sm_congr (fun i hi => by
      unfold cst
      rw [m2 (nn (by rw [e0]; simp [hi])) (fun c => hdis1 i c i (by simp [hi]) rfl) (fun c => hdis2 i c i hi rfl)])
    rw [c0, c1, c2]; omega
  · rcases List.mem_append.1 hr with hr | hr
    · intro i hi k hk
      have hi' : i ∈ insOf rest := insOf_mem hr hi
      have hk' : k ∈ insOf rest := insOf_mem hr hk
      rw [m2 (nn (by rw [e0]; simp [hi'])) (fun c => hdis1 i c i (by simp [hi']) rfl) (fun c => hdis2 i c i hi' rfl), m2 (nn (by rw [e0]; simp [hk'])) (fun c => hdis1 k c k (by simp [hk']) rfl) (fun c => hdis2 k c k hk' rfl)]
      exact h.pf r (by simp [hr]) i hi k hk
    · rw [List.mem_singleton.1 hr]
      intro i hi k hk hik
      rcases List.mem_append.1 hi with hi | hi <;> rcases List.mem_append.1 hk with hk | hk
      · rw [m0 hi, m0 hk]
        rintro ⟨T, hT⟩
        exact h.pf r0 (by simp) i hi k hk hik ⟨T, (List.cons.inj hT).2⟩
      · rw [m0 hi, m1 hk]
        rintro ⟨T, hT⟩
        have := (List.cons.inj hT).1
        omega
      · rw [m1 hi, m0 hk]
        rintro ⟨T, hT⟩
        have := (List.cons.inj hT).1
        omega
      · rw [m1 hi, m1 hk]
        rintro ⟨T, hT⟩
        exact h.pf r1 (by simp) i hi k hk hik ⟨T, (List.cons.inj hT).2⟩
  · have hd := h.dig i hi
    by_cases c0 : i ∈ r0.2.1
    · rw [m0 c0] at ha
      rcases List.mem_cons.1 ha with rfl | ha
      · omega
      · exact hd a ha
    · by_cases c1 : i ∈ r1.2.1
      · rw [m1 c1] at ha
        rcases List.mem_cons.1 ha with rfl | ha
        · omega
        · exact hd a ha
      · rw [m2 (iota'_mem.1 hi).1 c0 c1] at ha
        exact hd a ha
  · have hd := h.wl i hi
    rw [List.length_cons, List.length_cons] at hd
    rw [List.length_append, List.length_singleton]
    by_cases c0 : i ∈ r0.2.1
    · rw [m0 c0, List.length_cons]; omega
    · by_cases c1 : i ∈ r1.2.1
      · rw [m1 c1, List.length_cons]; omega
      · rw [m2 (iota'_mem.1 hi).1 c0 c1]; omega
theorem Cheap_step (hW : WOk W) {cost : Int} {l : List (List Int)} {rows : List Row} (h : CI W cost l rows) (h2 : 2 ≤ rows.length) : ∃ r0 r1 rest l', (r0 :: r1 :: rest).Perm rows ∧ r0.1 ≤ r1.1 ∧ (∀ r ∈ rest, r1.1 ≤ r.1) ∧ CI W (cost + (r0.1 + r1.1)) l' (rest ++ [(r0.1 + r1.1, r0.2.1 ++ r1.2.1, ())]) ∧
    code_Cheap_L12 cost l rows = code_Cheap_L12 (cost + (r0.1 + r1.1)) l' (rest ++ [(r0.1 + r1.1, r0.2.1 ++ r1.2.1, ())]) := by
  have hn := hW.n
  have hrl := h.rl
  obtain ⟨y, ey, hp, hs⟩ := sort_spec (data := rows) (by omega) (by omega)
  have hlen := hp.length_eq
  obtain ⟨r0, r1, rest, rfl⟩ : ∃ r0 r1 rest, y = r0 :: r1 :: rest := by
    match y, hlen with
    | r0 :: r1 :: rest, _ => exact ⟨r0, r1, rest, rfl⟩
    | [_], e => simp at e; omega
    | [], e => simp at e; omega
  have hi := h.perm hp
  have x0 : ix (r0 :: r1 :: rest) 0 = r0 := rfl
  have x1 : ix (r0 :: r1 :: rest) 1 = r1 := rfl
  have s01 : r0.1 ≤ r1.1 := hs 0 1 (by omega) (by omega) (by omega)
  have s1r : ∀ r ∈ rest, r1.1 ≤ r.1 := fun r hr => by
    obtain ⟨k, k0, k1, rfl⟩ := (ex_ix (P := fun x => x = r)).1 ⟨r, hr, rfl⟩
    have := hs 1 (k + 2) (by omega) (by omega) (by rw [← hlen]; simp; omega)
    unfold sz at this
    rw [x1] at this
    have e : ix (r0 :: r1 :: rest) (k + 2) = ix rest k := by
      obtain ⟨j, rfl⟩ : ∃ j : Nat, k = j := ⟨k.toNat, by omega⟩
      rw [show (j : Int) + 2 = ((j + 2 : Nat) : Int) by omega, ix_nat, ix_nat]; rfl
    rw [e] at this; exact this
  have il : ∀ r ∈ (r0 :: r1 :: rest), r.2.1.length ≤ 20 := fun r hr => by
    have h1 := insOf_len hr
    have h2 := hi.ins.length_eq
    rw [iota'_len] at h2; omega
  have hnd : (insOf (r0 :: r1 :: rest)).Nodup := hi.ins.nodup_iff.2 (iota'_nodup _)
  have mem : ∀ r ∈ (r0 :: r1 :: rest), ∀ i ∈ r.2.1, i ∈ iota' W.length := fun r hr i hm => hi.ins.mem_iff.1 (insOf_mem hr hm)
  have hll := hi.len
  have hwl := hi.wl
  obtain ⟨l1, p1, p2, p3, p4⟩ := L18_spec (y := r0 :: r1 :: rest) (t := 0) (by omega) (by omega) (r15 := code_Cheap_L15 cost code_Cheap_L12 (r0 :: r1 :: rest)) _ 0 l rfl (by omega) (by omega) (by rw [x0]; have := il r0 (by simp); omega) (by rw [x0]; exact insOf_nodup (by simp) hnd) (fun i hm => by rw [x0] at hm; have := iota'_mem.1 (mem r0 (by simp) i hm); omega) (fun i hm => by
    rw [x0] at hm
    have := hwl i (mem r0 (by simp) i hm); omega)
  rw [x0] at p2 p3
  have e01 : ∀ i ∈ r1.2.1, i ∉ r0.2.1 := fun i h1 h0 => by
    have e0 : insOf (r0 :: r1 :: rest) = r0.2.1 ++ (r1.2.1 ++ insOf rest) := rfl
    rw [e0] at hnd
    exact (List.nodup_append.1 hnd).2.2 i h0 i (by simp [h1]) rfl
  obtain ⟨l2, q1, q2, q3, q4⟩ := L18_spec (y := r0 :: r1 :: rest) (t := 1) (by omega) (by omega) (r15 := code_Cheap_L15 cost code_Cheap_L12 (r0 :: r1 :: rest)) _ 0 l1 rfl (by omega) (by omega) (by rw [x1]; have := il r1 (by simp); omega) (by rw [x1]; exact insOf_nodup (by simp) hnd) (fun i hm => by rw [x1] at hm; have := iota'_mem.1 (mem r1 (by simp) i hm); omega) (fun i hm => by
    rw [x1] at hm
    have hm' : i ∈ r1.2.1 := hm
    have := hwl i (mem r1 (by simp) i hm')
    have i0 := (iota'_mem.1 (mem r1 (by simp) i hm')).1
    rw [p3 i i0 (e01 i hm')]; omega)
  rw [x1] at q2 q3
  have hJ := hi.join hW p1 q1 p2 p3 q2 q3
  have w0 := hi.wb hW (r := r0) (by simp)
  have w1 := hi.wb hW (r := r1) (by simp)
  have hc := hi.cb hW
  refine ⟨r0, r1, rest, l2, hp, s01, s1r, hJ, ?_⟩
  rw [code_Cheap_L12_eq]; unfold code_Cheap_L12_B
  rw [if_pos (by simp; omega)]
  refine bind_to ey ?_
  rw [code_Cheap_L15_eq]; unfold code_Cheap_L15_B
  have ly : (r0 :: r1 :: rest).length = rest.length + 2 := rfl
  rw [if_pos (by simp), G_pos (by omega), G_pos (by simp), p4, show (0 : Int) + 1 = 1 from rfl]
  rw [code_Cheap_L15_eq]; unfold code_Cheap_L15_B
  rw [if_pos (by simp), G_pos (by omega), G_pos (by simp), q4, show (1 : Int) + 1 = 2 from rfl]
  rw [code_Cheap_L15_eq]; unfold code_Cheap_L15_B
  rw [if_neg (by simp), x0, x1]
  have hcat : slices_Concat [r0.2.1, r1.2.1] = some (r0.2.1 ++ r1.2.1) := by
    rw [slices_Concat_spec (by simp) (by have := il r0 (by simp); have := il r1 (by simp); simp; omega)]
    simp
  have fin : (slices_Concat [r0.2.1, r1.2.1]).bind (fun y'_1 => code_Cheap_J23 cost code_Cheap_L12 (r0 :: r1 :: rest) l2 (r0.1 + r1.1) y'_1) = code_Cheap_L12 (cost + (r0.1 + r1.1)) l2 (rest ++ [(r0.1 + r1.1, r0.2.1 ++ r1.2.1, ())]) := by
    refine bind_to hcat ?_
    unfold code_Cheap_J23
    have fin2 : G (0 ≤ (2 : Int) ∧ (2 : Int) ≤ ((r0 :: r1 :: rest).length : Int)) (G (room ((r0 :: r1 :: rest).drop ((2 : Int)).toNat) ([(r0.1 + r1.1, (r0.2.1 ++ r1.2.1, ()))]) 32) (code_Cheap_L12 (cost + (r0.1 + r1.1)) l2 (((r0 :: r1 :: rest).drop ((2 : Int)).toNat) ++ ([(r0.1 + r1.1, (r0.2.1 ++ r1.2.1, ()))])))) = code_Cheap_L12 (cost + (r0.1 + r1.1)) l2 (rest ++ [(r0.1 + r1.1, r0.2.1 ++ r1.2.1, ())]) := by
      refine G_to (by omega) (G_to (by unfold room; simp; omega) rfl)
    exact G_to (by unfold fits; omega) (both_to fin2 fin2)
  refine G_to (by omega) (G_to (by omega) (G_to (by omega) (G_to (by omega) (G_to (by simp) (G_to (by simp) (G_to (by unfold fits; omega) (G_to (by simp) (G_to (by simp) ?_))))))))
  exact both_to (both_to fin fin) fin
/- the document's -/
theorem ref_L8 {k : Int} (k0 : 0 ≤ k) {r5 : Int → List Int → Option Int} : ∀ (m : Nat) (i : Int) (l : List Int), (l.length - i).toNat = m → k < i → i ≤ l.length → l.length ≤ 100 → k < 100 → (∀ q : Int, k < q → q < i → ix l k ≤ ix l q) →
    ∃ l', l'.Perm l ∧ (∀ p : Int, 0 ≤ p → p < k → ix l' p = ix l p) ∧ (∀ q : Int, k < q → q < l.length → ix l' k ≤ ix l' q) ∧ r24_Cheapest_L8 k r5 i l = r5 (k + 1) l' := by
  intro m
  induction m with
  | zero =>
    intro i l hm hi hil hl hk h
    refine ⟨l, List.Perm.refl _, fun p _ _ => rfl, fun q q0 q1 => h q q0 (by omega), ?_⟩
    rw [r24_Cheapest_L8_eq]; unfold r24_Cheapest_L8_B
    rw [if_neg (by simp; omega)]
    exact G_to (by unfold fits; omega) rfl
  | succ m ih =>
    intro i l hm hi hil hl hk h
    by_cases c : ix l i < ix l k
    · have hp := swap_perm (l := l) (i := i) (j := k) (by omega) (by omega) k0 (by omega)
      have s1 : ix ((l.set i.toNat (ix l k)).set k.toNat (ix l i)) k = ix l i := ix_set_same k0 (by rw [List.length_set]; omega)
      have s2 : ix ((l.set i.toNat (ix l k)).set k.toNat (ix l i)) i = ix l k := by rw [ix_set_ne k0 (by omega) (by omega), ix_set_same (by omega) (by omega)]
      have s3 : ∀ q : Int, 0 ≤ q → q ≠ i → q ≠ k → ix ((l.set i.toNat (ix l k)).set k.toNat (ix l i)) q = ix l q := fun q q0 a b => by rw [ix_set_ne k0 q0 (by omega), ix_set_ne (by omega) q0 (by omega)]
      have hl' : ((l.set i.toNat (ix l k)).set k.toNat (ix l i)).length = l.length := by rw [List.length_set, List.length_set]
      obtain ⟨l', z1, z2, z3, z4⟩ := ih (i + 1) ((l.set i.toNat (ix l k)).set k.toNat (ix l i)) (by omega) (by omega) (by omega) (by omega) hk (fun q q0 q1 => by
        rw [s1]
        by_cases e : q = i
        · subst e; rw [s2]; omega
        · rw [s3 q (by omega) e (by omega)]
          have := h q q0 (by omega)
          omega)
      refine ⟨l', z1.trans hp, fun p p0 p1 => by rw [z2 p p0 p1, s3 p p0 (by omega) (by omega)], fun q q0 q1 => z3 q q0 (by omega), ?_⟩
      rw [r24_Cheapest_L8_eq]; unfold r24_Cheapest_L8_B
      rw [if_pos (by simp; omega)]
      refine G_to (by omega) (G_to (by omega) (G_to (by omega) (G_to (by omega) ?_)))
      rw [if_pos (decide_eq_true c)]
      exact G_to (by omega) (G_to (by omega) (G_to (by omega) (G_to (by omega) (G_to (by omega) (G_to (by omega) (G_to (by rw [List.length_set]; omega) (G_to (by rw [List.length_set]; omega) (G_to (by unfold fits; omega) z4))))))))
    · obtain ⟨l', z1, z2, z3, z4⟩ := ih (i + 1) l (by omega) (by omega) (by omega) hl hk (fun q q0 q1 => by
        by_cases e : q = i
        · subst e; omega
        · exact h q q0 (by omega))
      refine ⟨l', z1, z2, z3, ?_⟩
      rw [r24_Cheapest_L8_eq]; unfold r24_Cheapest_L8_B
      rw [if_pos (by simp; omega)]
      refine G_to (by omega) (G_to (by omega) (G_to (by omega) (G_to (by omega) ?_)))
      rw [if_neg (by simpa using c)]
      exact G_to (by unfold fits; omega) z4
theorem ref_step {cost : Int} {m : List Int} (h2 : 2 ≤ m.length) (hm : m.length ≤ 20) (hb : ∀ x ∈ m, 0 ≤ x ∧ x ≤ 20000000) (hc : 0 ≤ cost ∧ cost ≤ 400000000) : ∃ a b x, (a :: b :: x).Perm m ∧ a ≤ b ∧ (∀ z ∈ x, b ≤ z) ∧ (∀ z ∈ b :: x, a ≤ z) ∧ r24_Cheapest_L3 cost m = r24_Cheapest_L3 (cost + a + b) ((a + b) :: x) := by
  obtain ⟨l1, p1, p2, p3, p4⟩ := ref_L8 (k := 0) (by omega) (r5 := r24_Cheapest_L5 cost r24_Cheapest_L3) _ 1 m rfl (by omega) (by omega) (by omega) (by omega) (fun q q0 q1 => by omega)
  have hl1 := p1.length_eq
  obtain ⟨l2, q1, q2, q3, q4⟩ := ref_L8 (k := 1) (by omega) (r5 := r24_Cheapest_L5 cost r24_Cheapest_L3) _ 2 l1 rfl (by omega) (by omega) (by omega) (by omega) (fun q q0 q1 => by omega)
  have hl2 := q1.length_eq
  obtain ⟨a, b, x, rfl⟩ : ∃ a b x, l2 = a :: b :: x := by
    match l2, hl2 with
    | a :: b :: x, _ => exact ⟨a, b, x, rfl⟩
    | [_], e => simp at e; omega
    | [], e => simp at e; omega
  have x0 : ix (a :: b :: x) 0 = a := rfl
  have x1 : ix (a :: b :: x) 1 = b := rfl
  have hxs : ∀ k : Int, 0 ≤ k → ix (a :: b :: x) (k + 2) = ix x k := fun k k0 => by
    obtain ⟨j, rfl⟩ : ∃ j : Nat, k = j := ⟨k.toNat, by omega⟩
    rw [show (j : Int) + 2 = ((j + 2 : Nat) : Int) by omega, ix_nat, ix_nat]; rfl
  have lx : (a :: b :: x).length = x.length + 2 := rfl
  have hbx : ∀ z ∈ x, b ≤ z := fun z hz => by
    obtain ⟨k, k0, k1, rfl⟩ := (ex_ix (P := fun y => y = z)).1 ⟨z, hz, rfl⟩
    have := q3 (k + 2) (by omega) (by omega)
    rw [x1, hxs k k0] at this; exact this
  have e0 : ix l1 0 = a := by rw [← q2 0 (by omega) (by omega), x0]
  obtain ⟨y, rfl⟩ : ∃ y, l1 = a :: y := by
    match l1, hl1, e0 with
    | c :: y, _, e => exact ⟨y, by have : c = a := e; rw [this]⟩
    | [], e, _ => simp at e; omega
  have hay : ∀ z ∈ y, a ≤ z := fun z hz => by
    obtain ⟨k, k0, k1, rfl⟩ := (ex_ix (P := fun w => w = z)).1 ⟨z, hz, rfl⟩
    have := p3 (k + 1) (by omega) (by rw [← hl1, List.length_cons]; omega)
    have e : ix (a :: y) (k + 1) = ix y k := by
      obtain ⟨j, rfl⟩ : ∃ j : Nat, k = j := ⟨k.toNat, by omega⟩
      rw [show (j : Int) + 1 = ((j + 1 : Nat) : Int) by omega, ix_nat, ix_nat]; rfl
    rw [e0, e] at this; exact this
  have hperm : (b :: x).Perm y := q1.cons_inv
  have ha : ∀ z ∈ b :: x, a ≤ z := fun z hz => hay z (hperm.mem_iff.1 hz)
  have hpm := q1.trans p1
  have ba := hb a (hpm.mem_iff.1 (by simp))
  have bb := hb b (hpm.mem_iff.1 (by simp))
  refine ⟨a, b, x, hpm, ha b (by simp), hbx, ha, ?_⟩
  rw [r24_Cheapest_L3_eq]; unfold r24_Cheapest_L3_B
  rw [if_pos (by simp; omega), r24_Cheapest_L5_eq]; unfold r24_Cheapest_L5_B
  rw [if_pos (by simp), G_pos (by decide), show (0 : Int) + 1 = 1 from rfl, p4, show (0 : Int) + 1 = 1 from rfl, r24_Cheapest_L5_eq]; unfold r24_Cheapest_L5_B
  rw [if_pos (by simp), G_pos (by decide), show (1 : Int) + 1 = 2 from rfl, q4, show (1 : Int) + 1 = 2 from rfl, r24_Cheapest_L5_eq]; unfold r24_Cheapest_L5_B
  rw [if_neg (by simp), x0, x1]
  refine G_to (by omega) (G_to (by simp) (G_to (by unfold fits; omega) (G_to (by omega) (G_to (by simp) (G_to (by unfold fits; omega) (G_to (by omega) (G_to (by simp) (G_to (by omega) (G_to (by simp) (G_to (by unfold fits; omega) (G_to (by omega) (G_to (by simp) (G_to (by simp; omega) ?_)))))))))))))
  rfl
/-- Both cost the same. -/
theorem both_loops (hW : WOk W) : ∀ (n : Nat) (cost : Int) (l : List (List Int)) (rows : List Row) (m : List Int), rows.length = n → CI W cost l rows → m.Perm (rows.map Prod.fst) →
    ∃ cost' l' r, CI W cost' l' [r] ∧ code_Cheap_L12 cost l rows = some (cost', 0, l') ∧ r24_Cheapest_L3 cost m = some cost' := by
  intro n
  induction n with
  | zero => intro cost l rows m hn h; have := h.pos; omega
  | succ n ih =>
    intro cost l rows m hn h hp
    have hml : m.length = rows.length := by rw [hp.length_eq, List.length_map]
    by_cases c : rows.length = 1
    · obtain ⟨r, rfl⟩ : ∃ r, rows = [r] := List.length_eq_one_iff.1 c
      refine ⟨cost, l, r, h, ?_, ?_⟩
      · rw [code_Cheap_L12_eq]; unfold code_Cheap_L12_B code_Cheap_J25
        rw [if_neg (by simp)]
      · rw [r24_Cheapest_L3_eq]; unfold r24_Cheapest_L3_B
        rw [if_neg (by simp; omega)]
    · have hpos := h.pos
      have hrl := h.rl
      have hn := hW.n
      obtain ⟨r0, r1, rest, l', s1, s2, s3, s4, s5⟩ := Cheap_step hW h (by omega)
      have bnd : ∀ x ∈ m, 0 ≤ x ∧ x ≤ 20000000 := fun x hx => by
        obtain ⟨r, hr, rfl⟩ := List.mem_map.1 (hp.mem_iff.1 hx)
        exact h.wb hW hr
      obtain ⟨a, b, x, t1, t2, t3, t4, t5⟩ := ref_step (cost := cost) (m := m) (by omega) (by omega) bnd (h.cb hW)
      have pp : (a :: b :: x).Perm (r0.1 :: r1.1 :: rest.map Prod.fst) := (t1.trans hp).trans ((s1.map Prod.fst).symm)
      obtain ⟨e1, pp2⟩ := min_head pp t4 (fun z hz => by
        rcases List.mem_cons.1 hz with rfl | hz
        · exact s2
        · obtain ⟨r, hr, rfl⟩ := List.mem_map.1 hz
          have := s3 r hr; omega)
      obtain ⟨e2, pp3⟩ := min_head pp2 t3 (fun z hz => by
        obtain ⟨r, hr, rfl⟩ := List.mem_map.1 hz
        exact s3 r hr)
      have hsl := s1.length_eq
      have lr : (r0 :: r1 :: rest).length = rest.length + 2 := rfl
      obtain ⟨cost', l'', r, z1, z2, z3⟩ := ih (cost + (r0.1 + r1.1)) l' (rest ++ [(r0.1 + r1.1, r0.2.1 ++ r1.2.1, ())]) ((a + b) :: x) (by simp; omega) s4 (by
        rw [List.map_append, e1, e2]
        exact (pp3.cons _).trans (List.perm_append_comm (l₁ := [r0.1 + r1.1])))
      refine ⟨cost', l'', r, z1, s5.trans z2, t5.trans ?_⟩
      rw [show cost + a + b = cost + (r0.1 + r1.1) by omega]; exact z3
def WBad (W : List Int) : Prop := ∃ x ∈ W, x < 1 ∨ 1000000 < x
theorem wr (i : Int) : (ix W i, [i], ()) = ((ix W i, [i], ()) : Row) := rfl
/-- The first rows. -/
noncomputable def rows0 (W : List Int) (k : Nat) : List Row := (iota' k).map (fun i => (ix W i, [i], ()))
theorem rows0_succ (k : Nat) : rows0 W (k + 1) = rows0 W k ++ [(ix W (k : Int), [(k : Int)], ())] := by unfold rows0; rw [iota'_succ]; simp
theorem rows0_len (k : Nat) : (rows0 W k).length = k := by unfold rows0; rw [List.length_map, iota'_len]
theorem rows0_ins (k : Nat) : insOf (rows0 W k) = iota' k := by
  unfold insOf rows0
  rw [List.map_map]
  induction iota' k with
  | nil => rfl
  | cons x l ih => simp only [List.map_cons, List.flatten_cons, ih]; rfl
theorem ix_replicate_nil {n : Nat} {i : Int} : ix (List.replicate n ([] : List Int)) i = [] := by
  unfold ix
  rw [List.getD_eq_getElem?_getD, List.getElem?_replicate]
  split <;> rfl
theorem CI.first (hW : WOk W) : CI W 0 (List.replicate W.length []) (rows0 W W.length) := by
  have hn := hW.n
  refine ⟨by rw [rows0_len]; omega, fun r hr => ?_, by rw [rows0_ins], by rw [List.length_replicate], ?_, fun r hr => ?_, fun i _ a ha => ?_, fun i _ => ?_, by rw [rows0_len]; omega⟩
  · obtain ⟨i, _, rfl⟩ := List.mem_map.1 hr
    show ix W i = ix W i + 0
    omega
  · rw [sm_congr (g := fun _ => 0) (fun i _ => by unfold cst; rw [ix_replicate_nil]; simp)]
    induction iota' W.length with
    | nil => rfl
    | cons x l ih => rw [sm, ← ih]; rfl
  · obtain ⟨j, _, rfl⟩ := List.mem_map.1 hr
    intro i hi k hk hik
    exact absurd ((List.mem_singleton.1 hi).trans (List.mem_singleton.1 hk).symm) hik
  · rw [ix_replicate_nil] at ha; cases ha
  · rw [ix_replicate_nil, rows0_len]; simp
theorem Cheap_good (hW : WOk W) : ∃ cost l r, CI W cost l [r] ∧ code_Cheap W = some (cost, 0, l) ∧ r24_Cheapest W = some cost := by
  have hn := hW.n
  have hp : W.Perm ((rows0 W W.length).map Prod.fst) := by
    have : (rows0 W W.length).map Prod.fst = W := by
      refine ix_ext (by rw [List.length_map, rows0_len]) (fun j j0 j1 => ?_)
      rw [List.length_map, rows0_len] at j1
      unfold rows0 iota'
      rw [List.map_map, List.map_map]
      obtain ⟨k, rfl⟩ : ∃ k : Nat, j = k := ⟨j.toNat, by omega⟩
      rw [ix_nat, List.getD_eq_getElem?_getD, List.getElem?_map, List.getElem?_range (by omega)]; rfl
    rw [this]
  obtain ⟨cost, l, r, z1, z2, z3⟩ := both_loops hW _ 0 _ _ W rfl (CI.first hW) hp
  refine ⟨cost, l, r, z1, ?_, ?_⟩
  · have key : ∀ (m k : Nat), W.length - k = m → k ≤ W.length → code_Cheap_L5 W 0 k (rows0 W k) = some (cost, 0, l) := by
      intro m
      induction m with
      | zero =>
        intro k hm hk
        obtain rfl : k = W.length := by omega
        rw [code_Cheap_L5_eq]; unfold code_Cheap_L5_B
        rw [if_neg (by simp)]
        refine G_to (by unfold mkOK; omega) ?_
        rw [Int.toNat_natCast]; exact z2
      | succ m ih =>
        intro k hm hk
        have hw := hW.w _ (ix_mem (i := (k : Int)) (by omega) (by omega))
        have ih' := ih (k + 1) (by omega) (by omega)
        rw [rows0_succ] at ih'
        rw [code_Cheap_L5_eq]; unfold code_Cheap_L5_B
        rw [if_pos (by simp; omega)]
        refine G_to (by omega) ?_
        rw [if_neg (by simp; omega), if_neg (by simp; omega)]
        exact G_to (by unfold room; rw [rows0_len]; simp; omega) (G_to (by unfold fits; omega) ih')
    unfold code_Cheap
    rw [if_neg (by simp; omega), if_neg (by simp; omega)]
    exact key _ 0 rfl (by omega)
  · unfold r24_Cheapest
    exact G_to (by unfold room; simp; omega) z3
theorem Cheap_bad (h1 : 1 ≤ W.length ∧ W.length ≤ 20) (hb : WBad W) : code_Cheap W = some (0, 2, []) := by
  unfold code_Cheap
  rw [if_neg (by simp; omega), if_neg (by simp; omega)]
  have key : ∀ (m k : Nat) (rows : List Row), W.length - k = m → k ≤ W.length → rows.length = k → (∀ j : Int, 0 ≤ j → j < k → ¬ (ix W j < 1 ∨ 1000000 < ix W j)) → code_Cheap_L5 W 0 k rows = some (0, 2, []) := by
    intro m
    induction m with
    | zero =>
      intro k rows hm hk hr h
      obtain ⟨x, hx, hb⟩ := hb
      obtain ⟨j, j0, j1, rfl⟩ := (ex_ix (P := fun y => y = x)).1 ⟨x, hx, rfl⟩
      exact absurd hb (h j j0 (by omega))
    | succ m ih =>
      intro k rows hm hk hr h
      rw [code_Cheap_L5_eq]; unfold code_Cheap_L5_B
      rw [if_pos (by simp; omega)]
      refine G_to (by omega) ?_
      by_cases c1 : ix W (k : Int) < 1
      · rw [if_pos (decide_eq_true c1)]
      · rw [if_neg (by simpa using c1)]
        by_cases c2 : 1000000 < ix W (k : Int)
        · rw [if_pos (decide_eq_true c2)]
        · rw [if_neg (by simpa using c2)]
          refine G_to (by unfold room; simp; omega) (G_to (by unfold fits; omega) (ih (k + 1) _ (by omega) (by omega) (by simp [hr]) (fun j j0 j1 => ?_)))
          by_cases c : j = k
          · subst c; omega
          · exact h j j0 (by omega)
  exact key _ 0 [] rfl (by omega) rfl (fun j _ _ => by omega)
theorem L6_end {cost e : Int} {l : List (List Int)} {no i : Int} (hno : ¬ no = 0) : law_CodeCheap_L6 W cost e l no i = if e = no ∧ cost = 0 ∧ (l.length : Int) = 0 then some true else some false := by
  have key : law_CodeCheap_J6 W cost e l no i (law_CodeCheap_L6 W cost e l) false = if e = no ∧ cost = 0 ∧ (l.length : Int) = 0 then some true else some false := by
    unfold law_CodeCheap_J6
    rw [if_neg (by simp), if_pos (decide_eq_true hno)]
    by_cases c1 : e = no
    · rw [if_pos (decide_eq_true c1)]
      by_cases c2 : cost = 0
      · rw [if_pos (decide_eq_true c2)]
        by_cases c3 : (l.length : Int) = 0
        · rw [if_pos ⟨c1, c2, c3⟩, decide_eq_true c3]
        · rw [if_neg (fun h => c3 h.2.2), decide_eq_false c3]
      · rw [if_neg (by simpa using c2), if_neg (fun h => c2 h.2.1)]
    · rw [if_neg (by simpa using c1), if_neg (fun h => c1 h.1)]
  rw [law_CodeCheap_L6_eq]; unfold law_CodeCheap_L6_B
  by_cases c : i < (W.length : Int)
  · rw [if_pos (decide_eq_true c), decide_eq_false hno]; exact key
  · rw [if_neg (by simpa using c)]; exact key
end
theorem law_true (W : List Int) : law_CodeCheap W = some true := by
  unfold law_CodeCheap
  by_cases c1 : (W.length : Int) < 1
  · have : code_Cheap W = some (0, 1, []) := by unfold code_Cheap; rw [if_pos (decide_eq_true c1)]
    refine bind_to this ?_
    rw [if_pos (decide_eq_true c1)]
    unfold law_CodeCheap_J3 law_CodeCheap_J4
    rw [if_pos rfl, L6_end (by omega)]; rfl
  by_cases c2 : (20 : Int) < W.length
  · have : code_Cheap W = some (0, 1, []) := by unfold code_Cheap; rw [if_neg (by simpa using c1), if_pos (decide_eq_true c2)]
    refine bind_to this ?_
    rw [if_neg (by simpa using c1)]
    unfold law_CodeCheap_J3 law_CodeCheap_J4
    rw [if_pos (decide_eq_true c2), L6_end (by omega)]; rfl
  by_cases hb : WBad W
  · refine bind_to (Cheap_bad (by omega) hb) ?_
    rw [if_neg (by simpa using c1)]
    unfold law_CodeCheap_J3 law_CodeCheap_J4
    rw [if_neg (by simpa using c2)]
    have key : ∀ (m k : Nat), W.length - k = m → k ≤ W.length → (∀ j : Int, 0 ≤ j → j < k → ¬ (ix W j < 1 ∨ 1000000 < ix W j)) → law_CodeCheap_L6 W 0 2 [] 0 k = some true := by
      intro m
      induction m with
      | zero =>
        intro k hm hk h
        obtain ⟨x, hx, hb⟩ := hb
        obtain ⟨j, j0, j1, rfl⟩ := (ex_ix (P := fun y => y = x)).1 ⟨x, hx, rfl⟩
        exact absurd hb (h j j0 (by omega))
      | succ m ih =>
        intro k hm hk h
        rw [law_CodeCheap_L6_eq]; unfold law_CodeCheap_L6_B law_CodeCheap_J6 law_CodeCheap_J6_1
        rw [if_pos (by simp; omega), if_pos (by simp)]
        refine G_to (by omega) ?_
        by_cases d1 : ix W (k : Int) < 1
        · rw [if_pos (decide_eq_true d1)]
          refine G_to (by unfold fits; omega) ?_
          rw [L6_end (by omega)]; rfl
        · rw [if_neg (by simpa using d1)]
          refine G_to (by omega) ?_
          by_cases d2 : 1000000 < ix W (k : Int)
          · rw [if_pos (decide_eq_true d2)]
            refine G_to (by unfold fits; omega) ?_
            rw [L6_end (by omega)]; rfl
          · rw [if_neg (by simpa using d2)]
            refine G_to (by unfold fits; omega) (ih (k + 1) (by omega) (by omega) (fun j j0 j1 => ?_))
            by_cases c : j = k
            · subst c; omega
            · exact h j j0 (by omega)
    exact key _ 0 rfl (by omega) (fun j _ _ => by omega)
  · have hW : WOk W := ⟨by omega, fun x hx => by
      have : ¬ (x < 1 ∨ 1000000 < x) := fun h => hb ⟨x, hx, h⟩
      omega⟩
    have hn := hW.n
    obtain ⟨cost, l, r, z1, z2, z3⟩ := Cheap_good hW
    have hlen := z1.len
    have hwl := z1.wl
    have hdig := z1.dig
    refine bind_to z2 ?_
    rw [if_neg (by simpa using c1)]
    unfold law_CodeCheap_J3 law_CodeCheap_J4
    rw [if_neg (by simpa using c2)]
    have mem : ∀ i : Int, 0 ≤ i → i < l.length → i ∈ iota' W.length := fun i i0 i1 => iota'_mem.2 ⟨i0, by omega⟩
    have hap : r24_Apart l = some true := apart_spec (by omega) (fun i i0 i1 => by have := hwl i (mem i i0 i1); omega) (fun i k i0 i1 k0 k1 hik => by
      have hins := z1.ins
      have e : insOf [r] = r.2.1 := by show r.2.1 ++ [] = r.2.1; simp
      rw [e] at hins
      exact z1.pf r (by simp) i (hins.mem_iff.2 (mem i i0 i1)) k (hins.mem_iff.2 (mem k k0 k1)) hik)
    have k17 : ∀ (m k : Nat), W.length - k = m → k ≤ W.length → law_CodeCheap_L17 W cost l (sm (cst W l) (iota' k)) k = some true := by
      intro m
      induction m with
      | zero =>
        intro k hm hk
        obtain rfl : k = W.length := by omega
        rw [law_CodeCheap_L17_eq]; unfold law_CodeCheap_L17_B
        rw [if_neg (by simp; omega)]
        refine bind_to hap ?_
        rw [if_pos (decide_eq_true z1.cost.symm)]
      | succ m ih =>
        intro k hm hk
        have hi := mem (k : Int) (by omega) (by omega)
        have hb := cst_b hW (l := l) (m := 20) (by omega) (fun i hi => by have := hwl i hi; omega) hi
        have hsm := sm_le (f := cst W l) (B := 20000000) (l := iota' k) (fun i hi => cst_b hW (m := 20) (by omega) (fun i hi => by have := hwl i hi; omega) (iota'_mem.2 (by have := iota'_mem.1 hi; omega)))
        rw [iota'_len] at hsm
        have ih' := ih (k + 1) (by omega) (by omega)
        rw [iota'_succ, sm_app] at ih'
        have e : sm (cst W l) [(k : Int)] = ix W (k : Int) * ((ix l (k : Int)).length : Int) := by show cst W l (k : Int) + 0 = _; unfold cst; omega
        rw [e] at ih'
        unfold cst at hb
        rw [law_CodeCheap_L17_eq]; unfold law_CodeCheap_L17_B
        rw [if_pos (by simp; omega)]
        refine G_to (by omega) (G_to (by omega) (bind_to r1_May_spec ?_))
        have hm0 : mayE 2 (ix l (k : Int)) = 0 := mayE_ok (by omega) (by have := hwl _ hi; omega) (fun j j0 j1 => hdig _ hi _ (ix_mem j0 j1))
        rw [if_neg (by rw [hm0]; simp)]
        exact G_to (by omega) (G_to (by omega) (G_to (by omega) (G_to (by unfold fits; omega) (G_to (by unfold fits; omega) (G_to (by unfold fits; omega) ih')))))
    have key : ∀ (m k : Nat), W.length - k = m → k ≤ W.length → law_CodeCheap_L6 W cost 0 l 0 k = some true := by
      intro m
      induction m with
      | zero =>
        intro k hm hk
        rw [law_CodeCheap_L6_eq]; unfold law_CodeCheap_L6_B law_CodeCheap_J6
        rw [if_neg (by simp; omega), if_neg (by simp), if_neg (by simp)]
        refine bind_to z3 ?_
        rw [if_neg (by simp), if_neg (by simp), if_neg (by simp; omega)]
        exact k17 _ 0 rfl (by omega)
      | succ m ih =>
        intro k hm hk
        have hw := hW.w _ (ix_mem (i := (k : Int)) (by omega) (by omega))
        rw [law_CodeCheap_L6_eq]; unfold law_CodeCheap_L6_B law_CodeCheap_J6 law_CodeCheap_J6_1
        rw [if_pos (by simp; omega), if_pos (by simp)]
        refine G_to (by omega) ?_
        rw [if_neg (by simp; omega)]
        refine G_to (by omega) ?_
        rw [if_neg (by simp; omega)]
        exact G_to (by unfold fits; omega) (ih (k + 1) (by omega) (by omega))
    exact key _ 0 rfl (by omega)

end Go.Proofs.Ytkjapglopaoknaa.codeCheapW
