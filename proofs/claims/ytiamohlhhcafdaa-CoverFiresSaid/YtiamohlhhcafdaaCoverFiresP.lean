/- The law 'CoverFires' of the plain functions. -/
import Derived.Test.YtiamohlhhcafdaaCoverFiresD
set_option maxHeartbeats 1000000
set_option maxRecDepth 20000
set_option linter.unusedSimpArgs false
set_option linter.unusedVariables false
namespace Go.Proofs.Ytiamohlhhcafdaa.coverFiresW
open Go Go.Ab
/-- The answer is yes just if P. -/
def Tells (o : Option Bool) (P : Prop) : Prop := ∃ b, o = some b ∧ (b = true ↔ P)
theorem Tells.of {b : Bool} {P : Prop} (h : b = true ↔ P) : Tells (some b) P := ⟨b, rfl, h⟩
theorem Tells.dec {P Q : Prop} [Decidable P] (h : P ↔ Q) : Tells (some (decide P)) Q := ⟨_, rfl, by simpa using h⟩
theorem Tells.iff {o : Option Bool} {P Q : Prop} (h : Tells o P) (k : P ↔ Q) : Tells o Q := let ⟨b, h1, h2⟩ := h; ⟨b, h1, h2.trans k⟩
theorem Tells.eq {o : Option Bool} {P : Prop} [Decidable P] (h : Tells o P) : o = some (decide P) := by
  obtain ⟨b, rfl, hb⟩ := h
  by_cases hp : P
  · simp [hp, hb.2 hp]
  · have : b = false := by cases b; rfl; exact absurd (hb.1 rfl) hp
    simp [hp, this]
theorem Tells.to {R : Type} {o : Option Bool} {P : Prop} {k1 k2 x : Option R} (h : Tells o P) (h1 : P → k1 = x) (h2 : ¬ P → k2 = x) : (o.bind fun y => if y = true then k1 else k2) = x := by
  obtain ⟨b, rfl, hb⟩ := h
  refine bind_to rfl ?_
  cases b
  · exact h2 fun hp => by simpa using hb.2 hp
  · exact h1 (hb.1 rfl)
theorem Tells.bind {R : Type} {o : Option Bool} {P : Prop} {k : Bool → Option R} {x : Option R} (h : Tells o P) (h1 : ∀ b, (b = true ↔ P) → k b = x) : o.bind k = x := by
  obtain ⟨b, rfl, hb⟩ := h
  exact h1 b hb
section
variable {α C : Type} [Inhabited α]
theorem ex_ix {l : List α} {P : α → Prop} : (∃ x ∈ l, P x) ↔ ∃ i : Int, 0 ≤ i ∧ i < l.length ∧ P (ix l i) := by
  constructor
  · rintro ⟨x, hx, hp⟩
    obtain ⟨i, hi, rfl⟩ := List.mem_iff_getElem.1 hx
    refine ⟨i, by omega, by omega, ?_⟩
    rwa [ix_eq (by omega) (by omega)]
  · rintro ⟨i, h0, h1, hp⟩
    exact ⟨_, ix_mem h0 h1, hp⟩
theorem index_loop {s : List α} {f : α → Option Bool} {L : Int → Option Int} {P : α → Prop} (hs : s.length ≤ 4611686018427387904)
    (hL : ∀ t, L t = if decide (t < (s.length : Int)) = true then G (0 ≤ t ∧ t < (s.length : Int)) ((f (ix s t)).bind fun y => if y = true then some t else G (fits (t + 1)) (L (t + 1))) else some (-1))
    (hf : ∀ x ∈ s, Tells (f x) (P x)) : ∀ (n : Nat) (t : Int), 0 ≤ t → t ≤ s.length → (s.length - t).toNat = n →
      ∃ i, L t = some i ∧ ((i = -1 ∧ ∀ j : Int, t ≤ j → j < s.length → ¬ P (ix s j)) ∨ (t ≤ i ∧ i < s.length ∧ P (ix s i) ∧ ∀ j : Int, t ≤ j → j < i → ¬ P (ix s j))) := by
  intro n
  induction n with
  | zero =>
    intro t h0 h1 hn
    refine ⟨-1, ?_, .inl ⟨rfl, fun j a b => by omega⟩⟩
    rw [hL, if_neg (by simp; omega)]
  | succ n ih =>
    intro t h0 h1 hn
    rw [hL, if_pos (by simp; omega), G_pos (by omega)]
    obtain ⟨b, hb, hbp⟩ := hf _ (ix_mem h0 (by omega : t < s.length))
    rw [hb]
    cases b with
    | true => exact ⟨t, rfl, .inr ⟨by omega, by omega, hbp.1 rfl, fun j a b => by omega⟩⟩
    | false =>
      have hnp : ¬ P (ix s t) := fun hp => by simpa using hbp.2 hp
      obtain ⟨i, hi, hc⟩ := ih (t + 1) (by omega) (by omega) (by omega)
      refine ⟨i, ?_, ?_⟩
      · refine (if_neg (by simp) : (if false = true then some t else G (fits (t + 1)) (L (t + 1))) = _).trans ?_
        rw [G_pos (by unfold fits; omega), hi]
      · rcases hc with ⟨h2, h3⟩ | ⟨h2, h3, h4, h5⟩
        · refine .inl ⟨h2, fun j a b => ?_⟩
          by_cases e : j = t
          · rw [e]; exact hnp
          · exact h3 j (by omega) b
        · refine .inr ⟨by omega, h3, h4, fun j a b => ?_⟩
          by_cases e : j = t
          · rw [e]; exact hnp
          · exact h5 j (by omega) b
theorem contains_tells {s : List α} {f : α → Option Bool} {L : Int → Option Int} {P : α → Prop}
    (hL : ∀ t, L t = if decide (t < (s.length : Int)) = true then G (0 ≤ t ∧ t < (s.length : Int)) ((f (ix s t)).bind fun y => if y = true then some t else G (fits (t + 1)) (L (t + 1))) else some (-1))
    (hs : s.length ≤ 4611686018427387904) (hf : ∀ x ∈ s, Tells (f x) (P x)) : Tells ((L 0).bind fun y => some (decide ((0 : Int) ≤ y))) (∃ x ∈ s, P x) := by
  obtain ⟨i, hi, hc⟩ := index_loop hs hL hf _ 0 (by omega) (by omega) rfl
  rw [hi]
  refine ⟨decide (0 ≤ i), rfl, ?_⟩
  rw [decide_eq_true_iff, ex_ix]
  rcases hc with ⟨h2, h3⟩ | ⟨h2, h3, h4, h5⟩
  · constructor
    · intro h; omega
    · rintro ⟨j, h0, h1, hp⟩; exact absurd hp (h3 j h0 h1)
  · exact ⟨fun _ => ⟨i, by omega, h3, h4⟩, fun _ => by omega⟩
/-- .. of what carries along what it reads. -/
theorem contains_tells2 {s : List α} {c : C} {f : α → C → Option (Bool × C)} {L : Int → C → Option (Int × C)} {P : α → Prop}
    (hL : ∀ t c, L t c = if decide (t < (s.length : Int)) = true then G (0 ≤ t ∧ t < (s.length : Int)) ((f (ix s t) c).bind fun y => if y.1 = true then some (t, y.2) else G (fits (t + 1)) (L (t + 1) y.2)) else some (-1, c))
    (hs : s.length ≤ 4611686018427387904) (hf : ∀ x ∈ s, ∃ b, f x c = some (b, c) ∧ (b = true ↔ P x)) : ∃ b, ((L 0 c).bind fun y => some (decide ((0 : Int) ≤ y.1), y.2)) = some (b, c) ∧ (b = true ↔ ∃ x ∈ s, P x) := by
  have key : ∀ (n : Nat) (t : Int), 0 ≤ t → t ≤ s.length → (s.length - t).toNat = n →
      ∃ i, L t c = some (i, c) ∧ ((i = -1 ∧ ∀ j : Int, t ≤ j → j < s.length → ¬ P (ix s j)) ∨ (t ≤ i ∧ i < s.length ∧ P (ix s i))) := by
    intro n
    induction n with
    | zero =>
      intro t h0 h1 hn
      refine ⟨-1, ?_, .inl ⟨rfl, fun j a b => by omega⟩⟩
      rw [hL, if_neg (by simp; omega)]
    | succ n ih =>
      intro t h0 h1 hn
      rw [hL, if_pos (by simp; omega), G_pos (by omega)]
      obtain ⟨b, hb, hbp⟩ := hf _ (ix_mem h0 (by omega : t < s.length))
      rw [hb]
      cases b with
      | true => exact ⟨t, rfl, .inr ⟨by omega, by omega, hbp.1 rfl⟩⟩
      | false =>
        have hnp : ¬ P (ix s t) := fun hp => by simpa using hbp.2 hp
        obtain ⟨i, hi, hc⟩ := ih (t + 1) (by omega) (by omega) (by omega)
        refine ⟨i, ?_, ?_⟩
        · refine (if_neg (by simp) : (if false = true then some (t, c) else G (fits (t + 1)) (L (t + 1) c)) = _).trans ?_
          rw [G_pos (by unfold fits; omega), hi]
        · rcases hc with ⟨h2, h3⟩ | ⟨h2, h3, h4⟩
          · refine .inl ⟨h2, fun j a b => ?_⟩
            by_cases e : j = t
            · rw [e]; exact hnp
            · exact h3 j (by omega) b
          · exact .inr ⟨by omega, h3, h4⟩
  obtain ⟨i, hi, hc⟩ := key _ 0 (by omega) (by omega) rfl
  rw [hi]
  refine ⟨decide (0 ≤ i), rfl, ?_⟩
  rw [decide_eq_true_iff, ex_ix]
  rcases hc with ⟨h2, h3⟩ | ⟨h2, h3, h4⟩
  · constructor
    · intro h; omega
    · rintro ⟨j, h0, h1, hp⟩; exact absurd hp (h3 j h0 h1)
  · exact ⟨fun _ => ⟨i, by omega, h3, h4⟩, fun _ => by omega⟩
end
/-- A loop that looks for the first fault. -/
theorem scan_to {R : Type} {len : Int} {L : Int → Option R} {bad : Int → Prop} {x : Option R} {lo : Int} (h0 : lo ≤ len)
    (hs : ∀ t, lo ≤ t → t < len → (bad t → L t = x) ∧ (¬ bad t → L t = L (t + 1))) (hf : (∀ t, lo ≤ t → t < len → ¬ bad t) → L len = x) : L lo = x := by
  have key : ∀ (n : Nat) (t : Int), lo ≤ t → t ≤ len → (len - t).toNat = n → (∀ j, lo ≤ j → j < t → ¬ bad j) → L t = x := by
    intro n
    induction n with
    | zero =>
      intro t h1 h2 hn h
      obtain rfl : t = len := by omega
      exact hf h
    | succ n ih =>
      intro t h1 h2 hn h
      by_cases hb : bad t
      · exact (hs t h1 (by omega)).1 hb
      · rw [(hs t h1 (by omega)).2 hb]
        refine ih (t + 1) (by omega) (by omega) (by omega) fun j a b => ?_
        by_cases e : j = t
        · rw [e]; exact hb
        · exact h j a (by omega)
  exact key _ lo (Int.le_refl _) h0 rfl (fun j a b => by omega)
/-- A loop that counts, with a state. -/
theorem fold_to {R S : Type} {len : Int} {L : Int → S → Option R} {f : Int → S → S} {lo : Int} {I : Int → S → Prop} {s : S} (h0 : lo ≤ len) (hI : I lo s)
    (hs : ∀ t s, lo ≤ t → t < len → I t s → L t s = L (t + 1) (f t s) ∧ I (t + 1) (f t s)) : ∃ s', I len s' ∧ L lo s = L len s' := by
  have key : ∀ (n : Nat) (t : Int) (s : S), lo ≤ t → t ≤ len → (len - t).toNat = n → I t s → ∃ s', I len s' ∧ L t s = L len s' := by
    intro n
    induction n with
    | zero =>
      intro t s h1 h2 hn h
      obtain rfl : t = len := by omega
      exact ⟨s, h, rfl⟩
    | succ n ih =>
      intro t s h1 h2 hn h
      obtain ⟨e, h3⟩ := hs t s h1 (by omega) h
      obtain ⟨s', h4, h5⟩ := ih (t + 1) _ (by omega) (by omega) (by omega) h3
      exact ⟨s', h4, e.trans h5⟩
  exact key _ lo s (Int.le_refl _) h0 rfl hI

theorem r1_Words_L4_spec {a b : List Int} (hl : a.length = b.length) : ∀ (n : Nat) (i : Int), 0 ≤ i → i ≤ a.length → (a.length - i).toNat = n → a.length ≤ 2305843009213693951 → (∀ j : Int, 0 ≤ j → j < i → ix a j = ix b j) → r1_Words_L4 a b i = some (decide (a = b)) := by
  intro n
  induction n with
  | zero =>
    intro i h0 h1 hn hs h
    rw [r1_Words_L4_eq]; unfold r1_Words_L4_B
    (try dsimp only); (repeat' first | (with_reducible refine G_to ?_ ?_; focus (first | omega | (unfold fits; omega) | (unfold room; (try simp only [List.length_append, List.length_cons, List.length_nil]); omega))) | (with_reducible refine both_to ?_ ?_) | (with_reducible refine itet_to ?_) | (with_reducible refine itef_to ?_) | (with_reducible refine ite_to (fun _ => ?_) (fun _ => ?_))) <;> try (exfalso; omega)
    · rw [Option.some_inj, eq_comm, decide_eq_true_iff]; exact ix_ext hl (fun j a b => h j a (by omega))
  | succ n ih =>
    intro i h0 h1 hn hs h
    rw [r1_Words_L4_eq]; unfold r1_Words_L4_B
    (try dsimp only); (repeat' first | (with_reducible refine G_to ?_ ?_; focus (first | omega | (unfold fits; omega) | (unfold room; (try simp only [List.length_append, List.length_cons, List.length_nil]); omega))) | (with_reducible refine both_to ?_ ?_) | (with_reducible refine itet_to ?_) | (with_reducible refine itef_to ?_) | (with_reducible refine ite_to (fun _ => ?_) (fun _ => ?_))) <;> try (exfalso; omega)
    · rw [Option.some_inj, eq_comm, decide_eq_false_iff_not]; rintro rfl; contradiction
    · rename_i hx; exact ih _ (by omega) (by omega) (by omega) hs (below_succ h (Decidable.not_not.1 hx))
theorem r1_Words_spec {a b : List Int} (hs : a.length ≤ 2305843009213693951) : r1_Words a b = some (decide (a = b)) := by
  unfold r1_Words
  (try dsimp only); (repeat' first | (with_reducible refine G_to ?_ ?_; focus (first | omega | (unfold fits; omega) | (unfold room; (try simp only [List.length_append, List.length_cons, List.length_nil]); omega))) | (with_reducible refine both_to ?_ ?_) | (with_reducible refine itet_to ?_) | (with_reducible refine itef_to ?_) | (with_reducible refine ite_to (fun _ => ?_) (fun _ => ?_))) <;> try (exfalso; omega)
  · rw [Option.some_inj, eq_comm, decide_eq_false_iff_not]; rintro rfl; contradiction
  · exact r1_Words_L4_spec (by omega) _ 0 (by omega) (by omega) rfl hs (fun j a b => by omega)

theorem slices_Clone_spec {s : List Int} (hs : s.length * 8 ≤ 140737488355328) : slices_Clone s = some s := by
  have hr : G (room ([] : List Int) s 8) (some (([] : List Int) ++ s)) = some s := by
    rw [G_pos (room_of (by simpa using hs))]; rfl
  unfold slices_Clone
  refine itep_to (fun h => ?_) (fun h => hr)
  obtain rfl : s = [] := List.length_eq_zero_iff.1 h
  rw [hr]; exact both_self (ts := [(.list (.int .i64))]) (some ([] : List Int))

theorem slices_Grow_spec {n : Int} (h0 : 0 ≤ n) (h : n * 24 ≤ 140737488355328) : slices_Grow n = some [] := by
  unfold slices_Grow
  (try dsimp only); (repeat' first | (with_reducible refine G_to ?_ ?_; focus (first | omega | (unfold fits; omega) | (unfold room; (try simp only [List.length_append, List.length_cons, List.length_nil]); omega))) | (with_reducible refine both_to ?_ ?_) | (with_reducible refine itet_to ?_) | (with_reducible refine itef_to ?_) | (with_reducible refine ite_to (fun _ => ?_) (fun _ => ?_))) <;> try (exfalso; omega)
  all_goals first | rfl | (rw [show ((0 : Int)).toNat = 0 from rfl, List.take_zero])
theorem slices_Concat_spec {ls : List (List (List Int))} (h : ls.length ≤ 1000) (hl : (ls.flatten.length : Int) * 24 ≤ 140737488355328) : slices_Concat ls = some ls.flatten := by
  have sum : ∀ (k : Nat), ((ls.take k).flatten.length : Int) ≤ ls.flatten.length := by
    intro k
    have : ls.flatten = (ls.take k).flatten ++ (ls.drop k).flatten := by rw [← List.flatten_append, List.take_append_drop]
    rw [this, List.length_append]; omega
  have tk : ∀ t : Int, 0 ≤ t → t < ls.length → (ls.take (t + 1).toNat).flatten = (ls.take t.toNat).flatten ++ ix ls t := fun t h0 h1 => by
    rw [ix_take h0 h1, List.flatten_append]; simp
  unfold slices_Concat
  have k2 : ∀ (n : Nat) (t : Int), (ls.length - t).toNat = n → 0 ≤ t → t ≤ ls.length → slices_Concat_L11 ls t (ls.take t.toNat).flatten = some ls.flatten := by
    intro n
    induction n with
    | zero =>
      intro t hn h0 h1
      rw [slices_Concat_L11_eq]; unfold slices_Concat_L11_B
      rw [List.take_of_length_le (by omega), if_neg (by simp only [decide_eq_true_eq]; omega)]
    | succ n ih =>
      intro t hn h0 h1
      have e := tk t h0 (by omega)
      have s := sum (t + 1).toNat
      rw [e, List.length_append] at s
      rw [slices_Concat_L11_eq]; unfold slices_Concat_L11_B
      (try dsimp only); (repeat' first | (with_reducible refine G_to ?_ ?_; focus (first | omega | (unfold fits; omega) | (unfold room; (try simp only [List.length_append, List.length_cons, List.length_nil]); omega))) | (with_reducible refine both_to ?_ ?_) | (with_reducible refine itet_to ?_) | (with_reducible refine itef_to ?_) | (with_reducible refine ite_to (fun _ => ?_) (fun _ => ?_))) <;> try (exfalso; omega)
      rw [← e]
      exact ih (t + 1) (by omega) (by omega) (by omega)
  have k1 : ∀ (n : Nat) (t : Int), (ls.length - t).toNat = n → 0 ≤ t → t ≤ ls.length → slices_Concat_L3 ls ((ls.take t.toNat).flatten.length : Int) t = some ls.flatten := by
    intro n
    induction n with
    | zero =>
      intro t hn h0 h1
      rw [slices_Concat_L3_eq]; unfold slices_Concat_L3_B
      rw [List.take_of_length_le (by omega), if_neg (by simp only [decide_eq_true_eq]; omega)]
      refine bind_to (slices_Grow_spec (by omega) hl) ?_
      have := k2 _ 0 rfl (by omega) (by omega)
      simpa using this
    | succ n ih =>
      intro t hn h0 h1
      have e := tk t h0 (by omega)
      have s := sum (t + 1).toNat
      have ih' := ih (t + 1) (by omega) (by omega) (by omega)
      rw [e, List.length_append] at s ih'
      rw [slices_Concat_L3_eq]; unfold slices_Concat_L3_B
      (try dsimp only); (repeat' first | (with_reducible refine G_to ?_ ?_; focus (first | omega | (unfold fits; omega) | (unfold room; (try simp only [List.length_append, List.length_cons, List.length_nil]); omega))) | (with_reducible refine both_to ?_ ?_) | (with_reducible refine itet_to ?_) | (with_reducible refine itef_to ?_) | (with_reducible refine ite_to (fun _ => ?_) (fun _ => ?_))) <;> try (exfalso; omega)
      rw [← ih']; congr 1
  have := k1 _ 0 rfl (by omega) (by omega)
  simpa using this

abbrev Hps := Int × (List (List Int)) × (List (List Int)) × Unit
abbrev outB (most x : Int) : Prop := x < 0 ∨ most < x
def RBad (most : Int) (r : List Int) : Prop := ∃ x ∈ r, outB most x
open Classical in
noncomputable def rowE (r : List Int) (p most : Int) : Int := if ¬ (r.length : Int) = p then 3 else if RBad most r then 2 else 0
def HSize (n : Hps) : Prop := n.1 < 1 ∨ 4 < n.1 ∨ 8 < n.2.1.length
def HShape (n : Hps) : Prop := ¬ n.2.2.1.length = n.2.1.length ∨ ∃ r ∈ n.2.1 ++ n.2.2.1, ¬ (r.length : Int) = n.1
def HOut (n : Hps) : Prop := ∃ r ∈ n.2.1 ++ n.2.2.1, RBad 2 r
open Classical in
noncomputable def heapE (n : Hps) : Int := if HSize n then 1 else if HShape n then 3 else if HOut n then 2 else 0
def Fine (n : Hps) : Prop := ∀ r ∈ n.2.1 ++ n.2.2.1, r.length ≤ 1000000000000000
theorem beyond_tells {r : List Int} {most : Int} (h : r.length ≤ 1000000000000000) : Tells (cover_beyond r most) (RBad most r) := by
  unfold cover_beyond
  obtain ⟨b, hb, hb2⟩ := contains_tells (f := fun x => cover_beyond_1 x most) (P := outB most) (slices_IndexFunc_2_L2_eq r most) (by omega) (fun x _ => by
    unfold cover_beyond_1 outB
    by_cases h : x < 0
    · rw [if_pos (decide_eq_true h)]; exact Tells.of (by simp [h])
    · rw [if_neg (by simpa using h)]; exact Tells.dec (by omega))
  exact ⟨b, bind_to hb rfl, hb2⟩
theorem cover_Check_spec {n : Hps} (hf : Fine n) : cover_Check n = some (heapE n) := by
  unfold cover_Check heapE
  by_cases c1 : HSize n
  · rw [if_pos c1]; unfold HSize at c1
    (try dsimp only); (repeat' first | (with_reducible refine G_to ?_ ?_; focus (first | omega | (unfold fits; omega) | (unfold room; (try simp only [List.length_append, List.length_cons, List.length_nil]); omega))) | (with_reducible refine both_to ?_ ?_) | (with_reducible refine itet_to ?_) | (with_reducible refine itef_to ?_) | (with_reducible refine ite_to (fun _ => ?_) (fun _ => ?_))) <;> try (exfalso; omega)
    all_goals rfl
  rw [if_neg c1]; unfold HSize at c1
  by_cases c2 : n.2.2.1.length = n.2.1.length
  case neg =>
    rw [if_pos (show HShape n from .inl c2)]
    (try dsimp only); (repeat' first | (with_reducible refine G_to ?_ ?_; focus (first | omega | (unfold fits; omega) | (unfold room; (try simp only [List.length_append, List.length_cons, List.length_nil]); omega))) | (with_reducible refine both_to ?_ ?_) | (with_reducible refine itet_to ?_) | (with_reducible refine itef_to ?_) | (with_reducible refine ite_to (fun _ => ?_) (fun _ => ?_))) <;> try (exfalso; omega)
    all_goals rfl
  (try dsimp only); (repeat' first | (with_reducible refine G_to ?_ ?_; focus (first | omega | (unfold fits; omega) | (unfold room; (try simp only [List.length_append, List.length_cons, List.length_nil]); omega))) | (with_reducible refine both_to ?_ ?_) | (with_reducible refine itet_to ?_) | (with_reducible refine itef_to ?_) | (with_reducible refine ite_to (fun _ => ?_) (fun _ => ?_))) <;> try (exfalso; omega)
  have e : [n.2.1, n.2.2.1].flatten = n.2.1 ++ n.2.2.1 := by simp
  refine bind_to (slices_Concat_spec (ls := [n.2.1, n.2.2.1]) (by simp) (by rw [e, List.length_append]; omega)) ?_
  rw [e]
  have hl : (n.2.1 ++ n.2.2.1).length ≤ 100 := by rw [List.length_append]; omega
  have k1 : Tells (slices_ContainsFunc (n.2.1 ++ n.2.2.1) n) (∃ r ∈ n.2.1 ++ n.2.2.1, ¬ (r.length : Int) = n.1) := contains_tells (f := fun r => cover_Check_1 r n) (slices_IndexFunc_L2_eq _ n) (by omega) (fun x _ => Tells.dec Iff.rfl)
  have k2 : Tells (slices_ContainsFunc_1 (n.2.1 ++ n.2.2.1)) (HOut n) := contains_tells (f := cover_Check_2) (P := RBad 2) (slices_IndexFunc_1_L2_eq _) (by omega) (fun x hx => by
    unfold cover_Check_2
    obtain ⟨b, hb, hb2⟩ := beyond_tells (most := 2) (hf x hx)
    exact ⟨b, bind_to hb rfl, hb2⟩)
  refine k1.to (fun h => by rw [if_pos (show HShape n from .inr h)]) (fun h => ?_)
  rw [if_neg (show ¬ HShape n from fun hh => hh.elim (fun e => e c2) h)]
  exact k2.to (fun h => by rw [if_pos h]) (fun h => by rw [if_neg h])
theorem r19_row_spec {r : List Int} {p most : Int} (h : r.length ≤ 1000000000000000) : r19_row r p most = some (rowE r p most) := by
  unfold r19_row rowE
  by_cases c1 : (r.length : Int) = p
  case neg => rw [if_pos (by simpa using c1), if_pos c1]
  rw [if_neg (by simpa using c1), if_neg (fun h => h c1)]
  refine scan_to (len := (r.length : Int)) (bad := fun t => outB most (ix r t)) (by omega) (fun t h0 h1 => ⟨fun hb => ?_, fun hb => ?_⟩) (fun hh => ?_)
  · rw [if_pos (show RBad most r from ex_ix.2 ⟨t, h0, h1, hb⟩)]
    rw [r19_row_L4_eq]; unfold r19_row_L4_B
    unfold outB at hb
    (try dsimp only); (repeat' first | (with_reducible refine G_to ?_ ?_; focus (first | omega | (unfold fits; omega) | (unfold room; (try simp only [List.length_append, List.length_cons, List.length_nil]); omega))) | (with_reducible refine both_to ?_ ?_) | (with_reducible refine itet_to ?_) | (with_reducible refine itef_to ?_) | (with_reducible refine ite_to (fun _ => ?_) (fun _ => ?_))) <;> try (exfalso; omega)
    all_goals rfl
  · unfold outB at hb
    conv => lhs; rw [r19_row_L4_eq]; unfold r19_row_L4_B
    (try dsimp only); (repeat' first | (with_reducible refine G_to ?_ ?_; focus (first | omega | (unfold fits; omega) | (unfold room; (try simp only [List.length_append, List.length_cons, List.length_nil]); omega))) | (with_reducible refine both_to ?_ ?_) | (with_reducible refine itet_to ?_) | (with_reducible refine itef_to ?_) | (with_reducible refine ite_to (fun _ => ?_) (fun _ => ?_))) <;> try (exfalso; omega)
    all_goals rfl
  · rw [if_neg (show ¬ RBad most r from fun h => by obtain ⟨t, h0, h1, hb⟩ := ex_ix.1 h; exact hh t h0 h1 hb)]
    rw [r19_row_L4_eq]; unfold r19_row_L4_B
    (try dsimp only); (repeat' first | (with_reducible refine G_to ?_ ?_; focus (first | omega | (unfold fits; omega) | (unfold room; (try simp only [List.length_append, List.length_cons, List.length_nil]); omega))) | (with_reducible refine both_to ?_ ?_) | (with_reducible refine itet_to ?_) | (with_reducible refine itef_to ?_) | (with_reducible refine ite_to (fun _ => ?_) (fun _ => ?_))) <;> try (exfalso; omega)
    all_goals rfl
theorem rowE_cases {r : List Int} {p most : Int} : rowE r p most = 3 ∧ ¬ (r.length : Int) = p ∨ rowE r p most = 2 ∧ (r.length : Int) = p ∧ RBad most r ∨ rowE r p most = 0 ∧ (r.length : Int) = p ∧ ¬ RBad most r := by
  unfold rowE
  by_cases c1 : (r.length : Int) = p
  · rw [if_neg (fun h => h c1)]
    by_cases c2 : RBad most r
    · rw [if_pos c2]; exact .inr (.inl ⟨rfl, c1, c2⟩)
    · rw [if_neg c2]; exact .inr (.inr ⟨rfl, c1, c2⟩)
  · rw [if_pos c1]; exact .inl ⟨rfl, c1⟩
open Classical in
theorem r19_Check_spec {n : Hps} (hf : Fine n) : r19_Check n = some (heapE n) := by
  unfold r19_Check heapE
  by_cases c1 : HSize n
  · rw [if_pos c1]; unfold HSize at c1
    (try dsimp only); (repeat' first | (with_reducible refine G_to ?_ ?_; focus (first | omega | (unfold fits; omega) | (unfold room; (try simp only [List.length_append, List.length_cons, List.length_nil]); omega))) | (with_reducible refine both_to ?_ ?_) | (with_reducible refine itet_to ?_) | (with_reducible refine itef_to ?_) | (with_reducible refine ite_to (fun _ => ?_) (fun _ => ?_))) <;> try (exfalso; omega)
    all_goals rfl
  rw [if_neg c1]; unfold HSize at c1
  by_cases c2 : n.2.2.1.length = n.2.1.length
  case neg =>
    rw [if_pos (show HShape n from .inl c2)]
    (try dsimp only); (repeat' first | (with_reducible refine G_to ?_ ?_; focus (first | omega | (unfold fits; omega) | (unfold room; (try simp only [List.length_append, List.length_cons, List.length_nil]); omega))) | (with_reducible refine both_to ?_ ?_) | (with_reducible refine itet_to ?_) | (with_reducible refine itef_to ?_) | (with_reducible refine ite_to (fun _ => ?_) (fun _ => ?_))) <;> try (exfalso; omega)
    all_goals rfl
  (try dsimp only); (repeat' first | (with_reducible refine G_to ?_ ?_; focus (first | omega | (unfold fits; omega) | (unfold room; (try simp only [List.length_append, List.length_cons, List.length_nil]); omega))) | (with_reducible refine both_to ?_ ?_) | (with_reducible refine itet_to ?_) | (with_reducible refine itef_to ?_) | (with_reducible refine ite_to (fun _ => ?_) (fun _ => ?_))) <;> try (exfalso; omega)
  have f1 : ∀ t : Int, 0 ≤ t → t < n.2.1.length → (ix n.2.1 t).length ≤ 1000000000000000 := fun t h0 h1 => hf _ (List.mem_append_left _ (ix_mem h0 h1))
  have f2 : ∀ t : Int, 0 ≤ t → t < n.2.1.length → (ix n.2.2.1 t).length ≤ 1000000000000000 := fun t h0 h1 => hf _ (List.mem_append_right _ (ix_mem h0 (by omega)))
  have key : ∀ (k : Nat) (t bad : Int), (n.2.1.length - t).toNat = k → 0 ≤ t → t ≤ n.2.1.length →
      (∀ j : Int, 0 ≤ j → j < t → (((ix n.2.1 j).length : Int) = n.1 ∧ ((ix n.2.2.1 j).length : Int) = n.1)) →
      (bad = 2 ∧ (∃ j : Int, 0 ≤ j ∧ j < t ∧ (RBad 2 (ix n.2.1 j) ∨ RBad 2 (ix n.2.2.1 j))) ∨ bad = 0 ∧ ∀ j : Int, 0 ≤ j → j < t → ¬ RBad 2 (ix n.2.1 j) ∧ ¬ RBad 2 (ix n.2.2.1 j)) →
      r19_Check_L7 n bad t = some (if HShape n then 3 else if HOut n then 2 else 0) := by
    intro k
    induction k with
    | zero =>
      intro t bad hk h0 h1 hs hb
      obtain rfl : t = n.2.1.length := by omega
      have hns : ¬ HShape n := fun h => h.elim (fun h => h c2) (fun ⟨r, hr, hrl⟩ => by
        rcases List.mem_append.1 hr with hr | hr
        · obtain ⟨j, j0, j1, j2⟩ := (ex_ix (P := fun x => x = r)).1 ⟨r, hr, rfl⟩
          exact hrl (j2 ▸ (hs j j0 j1).1)
        · obtain ⟨j, j0, j1, j2⟩ := (ex_ix (P := fun x => x = r)).1 ⟨r, hr, rfl⟩
          exact hrl (j2 ▸ (hs j j0 (by omega)).2))
      rw [if_neg hns, r19_Check_L7_eq]; unfold r19_Check_L7_B
      rw [if_neg (by simp)]
      rcases hb with ⟨rfl, j, j0, j1, hj⟩ | ⟨rfl, hj⟩
      · have : HOut n := by
          rcases hj with hj | hj
          · exact ⟨_, List.mem_append_left _ (ix_mem j0 j1), hj⟩
          · exact ⟨_, List.mem_append_right _ (ix_mem j0 (by omega)), hj⟩
        rw [if_pos this]
      · have : ¬ HOut n := fun ⟨r, hr, hrb⟩ => by
          rcases List.mem_append.1 hr with hr | hr
          · obtain ⟨j, j0, j1, j2⟩ := (ex_ix (P := fun x => x = r)).1 ⟨r, hr, rfl⟩
            exact (hj j j0 j1).1 (j2 ▸ hrb)
          · obtain ⟨j, j0, j1, j2⟩ := (ex_ix (P := fun x => x = r)).1 ⟨r, hr, rfl⟩
            exact (hj j j0 (by omega)).2 (j2 ▸ hrb)
        rw [if_neg this]
    | succ k ih =>
      intro t bad hk h0 h1 hs hb
      have ht : t < n.2.1.length := by clear hb; omega
      have q1 : (n.2.1.length - (t + 1)).toNat = k := by clear hb; omega
      have q2 : 0 ≤ t + 1 := by clear hb; omega
      have q3 : t + 1 ≤ n.2.1.length := by clear hb; omega
      have q4 : t < n.2.2.1.length := by clear hb; omega
      have q5 : fits (t + 1) := by clear hb; unfold fits; omega
      have hnb : ((if RBad 2 (ix n.2.1 t) then 2 else if RBad 2 (ix n.2.2.1 t) then 2 else bad) = 2 ∧ (∃ j : Int, 0 ≤ j ∧ j < t + 1 ∧ (RBad 2 (ix n.2.1 j) ∨ RBad 2 (ix n.2.2.1 j)))) ∨ ((if RBad 2 (ix n.2.1 t) then 2 else if RBad 2 (ix n.2.2.1 t) then 2 else bad) = 0 ∧ ∀ j : Int, 0 ≤ j → j < t + 1 → ¬ RBad 2 (ix n.2.1 j) ∧ ¬ RBad 2 (ix n.2.2.1 j)) := by
        by_cases b1 : RBad 2 (ix n.2.1 t)
        · rw [if_pos b1]; exact .inl ⟨rfl, t, h0, Int.lt_succ t, .inl b1⟩
        by_cases b2 : RBad 2 (ix n.2.2.1 t)
        · rw [if_neg b1, if_pos b2]; exact .inl ⟨rfl, t, h0, Int.lt_succ t, .inr b2⟩
        rw [if_neg b1, if_neg b2]
        rcases hb with ⟨hb, j, j0, j1, hj⟩ | ⟨hb, hj⟩
        · exact .inl ⟨hb, j, j0, Int.lt_trans j1 (Int.lt_succ t), hj⟩
        · exact .inr ⟨hb, below_succ (p := fun j => ¬ RBad 2 (ix n.2.1 j) ∧ ¬ RBad 2 (ix n.2.2.1 j)) hj ⟨b1, b2⟩⟩
      clear hb
      rw [r19_Check_L7_eq]; unfold r19_Check_L7_B
      rw [if_pos (decide_eq_true ht), G_pos ⟨h0, ht⟩]
      refine bind_to (r19_row_spec (f1 t h0 ht)) ?_
      rw [G_pos ⟨h0, q4⟩]
      refine bind_to (r19_row_spec (f2 t h0 ht)) ?_
      have m1 : ix n.2.1 t ∈ n.2.1 ++ n.2.2.1 := List.mem_append_left _ (ix_mem h0 ht)
      have m2 : ix n.2.2.1 t ∈ n.2.1 ++ n.2.2.1 := List.mem_append_right _ (ix_mem h0 q4)
      rcases rowE_cases (r := ix n.2.1 t) (p := n.1) (most := 2) with ⟨e1, s1⟩ | ⟨e1, s1, b1⟩ | ⟨e1, s1, b1⟩
      · rw [e1, if_pos (by decide), if_pos (show HShape n from .inr ⟨_, m1, s1⟩)]
      all_goals
        rcases rowE_cases (r := ix n.2.2.1 t) (p := n.1) (most := 2) with ⟨e2, s2⟩ | ⟨e2, s2, b2⟩ | ⟨e2, s2, b2⟩
        · rw [e1, e2, if_neg (by decide), if_pos (by decide), if_pos (show HShape n from .inr ⟨_, m2, s2⟩)]
        all_goals
          rw [e1, e2]
          have r := ih (t + 1) _ q1 q2 q3 (below_succ (p := fun j => ((ix n.2.1 j).length : Int) = n.1 ∧ ((ix n.2.2.1 j).length : Int) = n.1) hs ⟨s1, s2⟩) hnb
          first | rw [if_pos b1] at r | rw [if_neg b1, if_pos b2] at r | rw [if_neg b1, if_neg b2] at r
          clear hnb
          (try dsimp only); (repeat' first | (with_reducible refine G_to ?_ ?_; focus (first | omega | (unfold fits; omega) | (unfold room; (try simp only [List.length_append, List.length_cons, List.length_nil]); omega))) | (with_reducible refine both_to ?_ ?_) | (with_reducible refine itet_to ?_) | (with_reducible refine itef_to ?_) | (with_reducible refine ite_to (fun _ => ?_) (fun _ => ?_))) <;> try (exfalso; omega)
          all_goals first | exact r | (exfalso; contradiction)
  exact key _ 0 0 rfl (by omega) (by omega) (fun j a b => by omega) (.inr ⟨rfl, fun j a b => by omega⟩)
noncomputable def stE (n : Hps) (s : List Int) : Int := if heapE n = 0 then rowE s n.1 10 else heapE n
theorem cover_checked_spec {n : Hps} {s : List Int} (hf : Fine n) (hs : s.length ≤ 1000000000000000) : cover_checked n [s] = some (stE n s) := by
  unfold cover_checked stE
  refine bind_to (cover_Check_spec (n := (n.1, (n.2.1, (n.2.2.1, ())))) hf) ?_
  rw [show heapE (n.1, (n.2.1, (n.2.2.1, ()))) = heapE n from rfl]
  by_cases h : heapE n = 0
  · rw [if_pos h, if_neg (by simp [h]), cover_checked_L5_eq]; unfold cover_checked_L5_B
    rw [if_pos (by simp), G_pos (by simp)]
    have e : ix [s] 0 = s := rfl
    rw [e]
    rcases rowE_cases (r := s) (p := n.1) (most := 10) with ⟨e1, s1⟩ | ⟨e1, s1, b1⟩ | ⟨e1, s1, b1⟩
    · rw [e1, if_pos (by simpa using s1)]
    · rw [e1, if_neg (by simpa using s1)]
      exact (beyond_tells (most := 10) hs).to (fun _ => rfl) (fun h => absurd b1 h)
    · rw [e1, if_neg (by simpa using s1)]
      refine (beyond_tells (most := 10) hs).to (fun h => absurd h b1) (fun _ => ?_)
      rw [G_pos (by unfold fits; omega), cover_checked_L5_eq]; unfold cover_checked_L5_B
      rw [if_neg (by simp)]
  · rw [if_neg h, if_pos (by simpa using h)]
theorem law_heaps_spec {n : Hps} {s : List Int} (hf : Fine n) (hs : s.length ≤ 1000000000000000) : law_heaps n [s] = some (stE n s) := by
  unfold law_heaps stE
  refine bind_to (r19_Check_spec (n := (n.1, (n.2.1, (n.2.2.1, ())))) hf) ?_
  rw [show heapE (n.1, (n.2.1, (n.2.2.1, ()))) = heapE n from rfl]
  have e : ix [s] 0 = s := rfl
  rw [law_heaps_L3_eq]; unfold law_heaps_L3_B law_heaps_J3 law_heaps_J3_1
  rw [if_pos (by simp)]
  by_cases h : heapE n = 0
  · rw [if_pos h, if_pos (by simp [h]), G_pos (by simp), e]
    unfold r19_State
    have hr : r19_row s n.1 10 = _ := r19_row_spec hs
    simp only [hr, Option.bind_some]
    rw [G_pos (by unfold fits; omega), law_heaps_L3_eq]; unfold law_heaps_L3_B law_heaps_J3
    rw [if_neg (by simp), if_neg (by simp)]
  · rw [if_neg h, if_neg (by simpa using h)]
def cvr (a b : List Int) : Prop := ∀ i : Int, 0 ≤ i → i < a.length → ¬ ix a i < ix b i
theorem cover_covers_tells {a b : List Int} (h : a.length ≤ b.length) (ha : a.length ≤ 1000) : Tells (cover_covers a b) (cvr a b) := by
  unfold cover_covers
  by_cases hc : cvr a b
  · refine ⟨true, ?_, by simp [hc]⟩
    refine scan_to (len := (a.length : Int)) (bad := fun i => ix a i < ix b i) (by omega) (fun t h0 h1 => ⟨fun hb => absurd hb (hc t h0 h1), fun hb => ?_⟩) (fun hh => ?_)
    · conv => lhs; rw [cover_covers_L2_eq]; unfold cover_covers_L2_B
      (try dsimp only); (repeat' first | (with_reducible refine G_to ?_ ?_; focus (first | omega | (unfold fits; omega) | (unfold room; (try simp only [List.length_append, List.length_cons, List.length_nil]); omega))) | (with_reducible refine both_to ?_ ?_) | (with_reducible refine itet_to ?_) | (with_reducible refine itef_to ?_) | (with_reducible refine ite_to (fun _ => ?_) (fun _ => ?_))) <;> try (exfalso; omega)
      all_goals rfl
    · rw [cover_covers_L2_eq]; unfold cover_covers_L2_B
      (try dsimp only); (repeat' first | (with_reducible refine G_to ?_ ?_; focus (first | omega | (unfold fits; omega) | (unfold room; (try simp only [List.length_append, List.length_cons, List.length_nil]); omega))) | (with_reducible refine both_to ?_ ?_) | (with_reducible refine itet_to ?_) | (with_reducible refine itef_to ?_) | (with_reducible refine ite_to (fun _ => ?_) (fun _ => ?_))) <;> try (exfalso; omega)
      all_goals rfl
  · refine ⟨false, ?_, by simp [hc]⟩
    refine scan_to (len := (a.length : Int)) (bad := fun i => ix a i < ix b i) (by omega) (fun t h0 h1 => ⟨fun hb => ?_, fun hb => ?_⟩) (fun hh => absurd hh hc)
    · rw [cover_covers_L2_eq]; unfold cover_covers_L2_B
      (try dsimp only); (repeat' first | (with_reducible refine G_to ?_ ?_; focus (first | omega | (unfold fits; omega) | (unfold room; (try simp only [List.length_append, List.length_cons, List.length_nil]); omega))) | (with_reducible refine both_to ?_ ?_) | (with_reducible refine itet_to ?_) | (with_reducible refine itef_to ?_) | (with_reducible refine ite_to (fun _ => ?_) (fun _ => ?_))) <;> try (exfalso; omega)
      all_goals rfl
    · conv => lhs; rw [cover_covers_L2_eq]; unfold cover_covers_L2_B
      (try dsimp only); (repeat' first | (with_reducible refine G_to ?_ ?_; focus (first | omega | (unfold fits; omega) | (unfold room; (try simp only [List.length_append, List.length_cons, List.length_nil]); omega))) | (with_reducible refine both_to ?_ ?_) | (with_reducible refine itet_to ?_) | (with_reducible refine itef_to ?_) | (with_reducible refine ite_to (fun _ => ?_) (fun _ => ?_))) <;> try (exfalso; omega)
      all_goals rfl
theorem r19_Covers_tells {a b : List Int} (h : a.length ≤ b.length) (ha : a.length ≤ 1000) : Tells (r19_Covers a b) (cvr a b) := by
  unfold r19_Covers
  by_cases hc : cvr a b
  · refine ⟨true, ?_, by simp [hc]⟩
    refine scan_to (len := (a.length : Int)) (bad := fun i => ix a i < ix b i) (by omega) (fun t h0 h1 => ⟨fun hb => absurd hb (hc t h0 h1), fun hb => ?_⟩) (fun hh => ?_)
    · conv => lhs; rw [r19_Covers_L2_eq]; unfold r19_Covers_L2_B
      (try dsimp only); (repeat' first | (with_reducible refine G_to ?_ ?_; focus (first | omega | (unfold fits; omega) | (unfold room; (try simp only [List.length_append, List.length_cons, List.length_nil]); omega))) | (with_reducible refine both_to ?_ ?_) | (with_reducible refine itet_to ?_) | (with_reducible refine itef_to ?_) | (with_reducible refine ite_to (fun _ => ?_) (fun _ => ?_))) <;> try (exfalso; omega)
      all_goals rfl
    · rw [r19_Covers_L2_eq]; unfold r19_Covers_L2_B
      (try dsimp only); (repeat' first | (with_reducible refine G_to ?_ ?_; focus (first | omega | (unfold fits; omega) | (unfold room; (try simp only [List.length_append, List.length_cons, List.length_nil]); omega))) | (with_reducible refine both_to ?_ ?_) | (with_reducible refine itet_to ?_) | (with_reducible refine itef_to ?_) | (with_reducible refine ite_to (fun _ => ?_) (fun _ => ?_))) <;> try (exfalso; omega)
      all_goals rfl
  · refine ⟨false, ?_, by simp [hc]⟩
    refine scan_to (len := (a.length : Int)) (bad := fun i => ix a i < ix b i) (by omega) (fun t h0 h1 => ⟨fun hb => ?_, fun hb => ?_⟩) (fun hh => absurd hh hc)
    · rw [r19_Covers_L2_eq]; unfold r19_Covers_L2_B
      (try dsimp only); (repeat' first | (with_reducible refine G_to ?_ ?_; focus (first | omega | (unfold fits; omega) | (unfold room; (try simp only [List.length_append, List.length_cons, List.length_nil]); omega))) | (with_reducible refine both_to ?_ ?_) | (with_reducible refine itet_to ?_) | (with_reducible refine itef_to ?_) | (with_reducible refine ite_to (fun _ => ?_) (fun _ => ?_))) <;> try (exfalso; omega)
      all_goals rfl
    · conv => lhs; rw [r19_Covers_L2_eq]; unfold r19_Covers_L2_B
      (try dsimp only); (repeat' first | (with_reducible refine G_to ?_ ?_; focus (first | omega | (unfold fits; omega) | (unfold room; (try simp only [List.length_append, List.length_cons, List.length_nil]); omega))) | (with_reducible refine both_to ?_ ?_) | (with_reducible refine itet_to ?_) | (with_reducible refine itef_to ?_) | (with_reducible refine ite_to (fun _ => ?_) (fun _ => ?_))) <;> try (exfalso; omega)
      all_goals rfl
/-- The state behind a step, number by number. -/
def dnx (n : Hps) (s : List Int) (t i : Int) : Int := ix s i + (ix (ix n.2.2.1 t) i - ix (ix n.2.1 t) i)
structure SOk (n : Hps) (s : List Int) (t : Int) : Prop where
  t0 : 0 ≤ t
  t1 : t < n.2.1.length
  g : n.2.2.1.length = n.2.1.length
  p : n.1 ≤ 4
  sl : (s.length : Int) = n.1
  l1 : ((ix n.2.1 t).length : Int) = n.1
  l2 : ((ix n.2.2.1 t).length : Int) = n.1
  b0 : ∀ i : Int, 0 ≤ i → i < n.1 → 0 ≤ ix s i ∧ ix s i ≤ 10
  b1 : ∀ i : Int, 0 ≤ i → i < n.1 → 0 ≤ ix (ix n.2.1 t) i ∧ ix (ix n.2.1 t) i ≤ 2
  b2 : ∀ i : Int, 0 ≤ i → i < n.1 → 0 ≤ ix (ix n.2.2.1 t) i ∧ ix (ix n.2.2.1 t) i ≤ 2
theorem cover_done_spec {n : Hps} {s : List Int} {t : Int} (h : SOk n s t) : ∃ o, cover_done n s t = some o ∧ o.length = s.length ∧ ∀ i : Int, 0 ≤ i → i < s.length → ix o i = dnx n s t i := by
  have hp := h.p
  have hsl := h.sl
  have ht0 := h.t0
  have ht1 := h.t1
  have hg := h.g
  have hl1 := h.l1
  have hl2 := h.l2
  obtain ⟨o, ⟨o1, o2, _⟩, he⟩ := fold_to (R := List Int) (S := List Int) (len := (s.length : Int)) (lo := 0) (L := fun i out => cover_done_L3 n t s i out) (f := fun i out => out.set i.toNat (dnx n s t i))
    (I := fun i out => out.length = s.length ∧ (∀ j : Int, 0 ≤ j → j < i → ix out j = dnx n s t j) ∧ ∀ j : Int, i ≤ j → j < s.length → ix out j = ix s j) (s := s) (by omega)
    ⟨rfl, fun j a b => by omega, fun j a b => rfl⟩ (fun i out h0 h1 ⟨g1, g2, g3⟩ => by
      have e := g3 i (by omega) h1
      have c0 := h.b0 i h0 (by omega)
      have c1 := h.b1 i h0 (by omega)
      have c2 := h.b2 i h0 (by omega)
      refine ⟨?_, by rw [List.length_set]; exact g1, fun j j0 j1 => ?_, fun j j0 j1 => ?_⟩
      · conv => lhs; rw [cover_done_L3_eq]; unfold cover_done_L3_B
        rw [e]
        (try dsimp only); (repeat' first | (with_reducible refine G_to ?_ ?_; focus (first | omega | (unfold fits; omega) | (unfold room; (try simp only [List.length_append, List.length_cons, List.length_nil]); omega))) | (with_reducible refine both_to ?_ ?_) | (with_reducible refine itet_to ?_) | (with_reducible refine itef_to ?_) | (with_reducible refine ite_to (fun _ => ?_) (fun _ => ?_))) <;> try (exfalso; omega)
        all_goals rfl
      · by_cases hj : i = j
        · subst hj; rw [ix_set_same h0 (by omega)]
        · rw [ix_set_ne h0 j0 hj]; exact g2 j j0 (by omega)
      · rw [ix_set_ne h0 (by omega) (by omega)]; exact g3 j (by omega) j1)
  refine ⟨o, ?_, o1, o2⟩
  unfold cover_done
  refine bind_to (slices_Clone_spec (by omega)) ?_
  refine he.trans ?_
  show cover_done_L3 n t s (s.length : Int) o = some o
  rw [cover_done_L3_eq]; unfold cover_done_L3_B
  rw [if_neg (by simp)]
theorem r19_Done_spec {n : Hps} {s : List Int} {t : Int} (h : SOk n s t) : ∃ o, r19_Done n s t = some o ∧ o.length = s.length ∧ ∀ i : Int, 0 ≤ i → i < s.length → ix o i = dnx n s t i := by
  have hp := h.p
  have hsl := h.sl
  have ht0 := h.t0
  have ht1 := h.t1
  have hg := h.g
  have hl1 := h.l1
  have hl2 := h.l2
  obtain ⟨o, ⟨o1, o2⟩, he⟩ := fold_to (R := List Int) (S := List Int) (len := (s.length : Int)) (lo := 0) (L := fun i out => r19_Done_L3 n s t i out) (f := fun i out => out ++ [ix s i + ix (ix n.2.2.1 t) i - ix (ix n.2.1 t) i])
    (I := fun i out => (out.length : Int) = i ∧ (∀ j : Int, 0 ≤ j → j < i → ix out j = dnx n s t j)) (s := []) (by omega)
    ⟨rfl, fun j a b => by omega⟩ (fun i out h0 h1 ⟨g1, g2⟩ => by
      have c0 := h.b0 i h0 (by omega)
      have c1 := h.b1 i h0 (by omega)
      have c2 := h.b2 i h0 (by omega)
      refine ⟨?_, by rw [List.length_append, List.length_singleton]; omega, fun j j0 j1 => ?_⟩
      · conv => lhs; rw [r19_Done_L3_eq]; unfold r19_Done_L3_B
        (try dsimp only); (repeat' first | (with_reducible refine G_to ?_ ?_; focus (first | omega | (unfold fits; omega) | (unfold room; (try simp only [List.length_append, List.length_cons, List.length_nil]); omega))) | (with_reducible refine both_to ?_ ?_) | (with_reducible refine itet_to ?_) | (with_reducible refine itef_to ?_) | (with_reducible refine ite_to (fun _ => ?_) (fun _ => ?_))) <;> try (exfalso; omega)
        all_goals rfl
      · by_cases hj : j = i
        · subst hj
          rw [show j = (out.length : Int) from g1.symm, ix_append_last]
          unfold dnx
          omega
        · rw [ix_append_left j0 (by omega)]; exact g2 j j0 (by omega))
  refine ⟨o, ?_, by omega, fun i a b => o2 i a b⟩
  unfold r19_Done
  refine he.trans ?_
  show r19_Done_L3 n s t (s.length : Int) o = some o
  rw [r19_Done_L3_eq]; unfold r19_Done_L3_B
  rw [if_neg (by simp)]
open Classical in
noncomputable def fireE (n : Hps) (s : List Int) (t : Int) : Int := if stE n s = 0 then (if t < 0 ∨ (n.2.1.length : Int) ≤ t then 5 else if cvr s (ix n.2.1 t) then 0 else 6) else stE n s
theorem st_ok {n : Hps} {s : List Int} {t : Int} (h : stE n s = 0) (t0 : 0 ≤ t) (t1 : t < n.2.1.length) : SOk n s t := by
  unfold stE at h
  by_cases c0 : heapE n = 0
  · rw [if_pos c0] at h
    rcases rowE_cases (r := s) (p := n.1) (most := 10) with ⟨e1, s1⟩ | ⟨e1, s1, b1⟩ | ⟨e1, s1, b1⟩
    · omega
    · omega
    unfold heapE at c0
    by_cases c1 : HSize n
    · rw [if_pos c1] at c0; omega
    rw [if_neg c1] at c0
    by_cases c2 : HShape n
    · rw [if_pos c2] at c0; omega
    rw [if_neg c2] at c0
    by_cases c3 : HOut n
    · rw [if_pos c3] at c0; omega
    unfold HSize at c1
    have hg : n.2.2.1.length = n.2.1.length := Decidable.not_not.1 fun e => c2 (.inl e)
    have m1 : ix n.2.1 t ∈ n.2.1 ++ n.2.2.1 := List.mem_append_left _ (ix_mem t0 t1)
    have m2 : ix n.2.2.1 t ∈ n.2.1 ++ n.2.2.1 := List.mem_append_right _ (ix_mem t0 (by omega))
    have l1 : ((ix n.2.1 t).length : Int) = n.1 := Decidable.not_not.1 fun e => c2 (.inr ⟨_, m1, e⟩)
    have l2 : ((ix n.2.2.1 t).length : Int) = n.1 := Decidable.not_not.1 fun e => c2 (.inr ⟨_, m2, e⟩)
    refine ⟨t0, t1, hg, by omega, s1, l1, l2, fun i i0 i1 => ?_, fun i i0 i1 => ?_, fun i i0 i1 => ?_⟩
    · have : ¬ outB 10 (ix s i) := fun e => b1 (ex_ix.2 ⟨i, i0, by omega, e⟩)
      unfold outB at this; omega
    · have : ¬ outB 2 (ix (ix n.2.1 t) i) := fun e => c3 ⟨_, m1, ex_ix.2 ⟨i, i0, by omega, e⟩⟩
      unfold outB at this; omega
    · have : ¬ outB 2 (ix (ix n.2.2.1 t) i) := fun e => c3 ⟨_, m2, ex_ix.2 ⟨i, i0, by omega, e⟩⟩
      unfold outB at this; omega
  · rw [if_neg c0] at h; exact absurd h c0
theorem cover_Fire_bad {n : Hps} {s : List Int} {t : Int} (hf : Fine n) (hs : s.length ≤ 1000000000000000) (h : ¬ fireE n s t = 0) : cover_Fire n s t = some (fireE n s t, []) := by
  unfold cover_Fire
  refine bind_to (cover_checked_spec (n := (n.1, (n.2.1, (n.2.2.1, ())))) hf hs) ?_
  rw [show stE (n.1, (n.2.1, (n.2.2.1, ()))) s = stE n s from rfl]
  unfold fireE at h ⊢
  by_cases c1 : stE n s = 0
  · rw [if_pos c1] at h ⊢
    by_cases c2 : t < 0 ∨ (n.2.1.length : Int) ≤ t
    · rw [if_pos c2, c1]
      (try dsimp only); (repeat' first | (with_reducible refine G_to ?_ ?_; focus (first | omega | (unfold fits; omega) | (unfold room; (try simp only [List.length_append, List.length_cons, List.length_nil]); omega))) | (with_reducible refine both_to ?_ ?_) | (with_reducible refine itet_to ?_) | (with_reducible refine itef_to ?_) | (with_reducible refine ite_to (fun _ => ?_) (fun _ => ?_))) <;> try (exfalso; omega)
      all_goals rfl
    · rw [if_neg c2] at h ⊢
      by_cases c3 : cvr s (ix n.2.1 t)
      · rw [if_pos c3] at h; exact absurd rfl h
      · rw [if_neg c3, c1]
        have ok := st_ok c1 (t := t) (by omega) (by omega)
        have e1 := ok.sl; have e2 := ok.l1; have e3 := ok.p
        (try dsimp only); (repeat' first | (with_reducible refine G_to ?_ ?_; focus (first | omega | (unfold fits; omega) | (unfold room; (try simp only [List.length_append, List.length_cons, List.length_nil]); omega))) | (with_reducible refine both_to ?_ ?_) | (with_reducible refine itet_to ?_) | (with_reducible refine itef_to ?_) | (with_reducible refine ite_to (fun _ => ?_) (fun _ => ?_))) <;> try (exfalso; omega)
        obtain ⟨b, hb, hb2⟩ := cover_covers_tells (a := s) (b := ix n.2.1 t) (by omega) (by omega)
        rw [hb]
        have : b = false := by cases b; rfl; exact absurd (hb2.1 rfl) c3
        subst this
        rfl
  · rw [if_neg c1, if_pos (by simpa using c1)]
theorem cover_Fire_good {n : Hps} {s : List Int} {t : Int} (hf : Fine n) (hs : s.length ≤ 1000000000000000) (h : fireE n s t = 0) : (stE n s = 0 ∧ 0 ≤ t ∧ t < n.2.1.length ∧ cvr s (ix n.2.1 t)) ∧ ∃ o, cover_Fire n s t = some (0, o) ∧ r19_Done n s t = some o ∧ o.length ≤ 1000 := by
  unfold fireE at h
  by_cases c1 : stE n s = 0
  · rw [if_pos c1] at h
    by_cases c2 : t < 0 ∨ (n.2.1.length : Int) ≤ t
    · rw [if_pos c2] at h; omega
    rw [if_neg c2] at h
    by_cases c3 : cvr s (ix n.2.1 t)
    · refine ⟨⟨c1, by omega, by omega, c3⟩, ?_⟩
      have ok := st_ok c1 (t := t) (by omega) (by omega)
      have e1 := ok.sl; have e2 := ok.l1; have e3 := ok.p
      obtain ⟨o, d1, d2, d3⟩ := cover_done_spec ok
      obtain ⟨o', d1', d2', d3'⟩ := r19_Done_spec ok
      have : o' = o := ix_ext (by omega) (fun j a b => by rw [d3' j a (by omega), d3 j a (by omega)])
      subst this
      refine ⟨o', ?_, d1', by omega⟩
      unfold cover_Fire
      refine bind_to (cover_checked_spec (n := (n.1, (n.2.1, (n.2.2.1, ())))) hf hs) ?_
      rw [show stE (n.1, (n.2.1, (n.2.2.1, ()))) s = stE n s from rfl, c1]
      (try dsimp only); (repeat' first | (with_reducible refine G_to ?_ ?_; focus (first | omega | (unfold fits; omega) | (unfold room; (try simp only [List.length_append, List.length_cons, List.length_nil]); omega))) | (with_reducible refine both_to ?_ ?_) | (with_reducible refine itet_to ?_) | (with_reducible refine itef_to ?_) | (with_reducible refine ite_to (fun _ => ?_) (fun _ => ?_))) <;> try (exfalso; omega)
      obtain ⟨b, hb, hb2⟩ := cover_covers_tells (a := s) (b := ix n.2.1 t) (by omega) (by omega)
      rw [hb]
      have : b = true := hb2.2 c3
      subst this
      refine bind_to rfl ?_
      (try dsimp only); (repeat' first | (with_reducible refine G_to ?_ ?_; focus (first | omega | (unfold fits; omega) | (unfold room; (try simp only [List.length_append, List.length_cons, List.length_nil]); omega))) | (with_reducible refine both_to ?_ ?_) | (with_reducible refine itet_to ?_) | (with_reducible refine itef_to ?_) | (with_reducible refine ite_to (fun _ => ?_) (fun _ => ?_))) <;> try (exfalso; omega)
      exact bind_to d1 rfl
    · rw [if_neg c3] at h; omega
  · rw [if_neg c1] at h; exact absurd h c1
theorem law_true (n : Hps) (s : List Int) (t : Int) (sn : Sml (.pair (.int .i64) (.pair (.list (.list (.int .i64))) (.pair (.list (.list (.int .i64))) .unit))) n) (ss : Sml (.list (.int .i64)) s) (st : Sml (.int .i64) t) : law_CoverFires n s t = some true := by
  have hs : s.length ≤ 1000000000000000 := by
    have h : s.length * 8 ≤ 140737488351232 := ss.1
    omega
  have hf : Fine n := by
    intro r hr
    rcases List.mem_append.1 hr with hr | hr
    · have h : r.length * 8 ≤ 140737488351232 := (sn.2.1.2 r hr).1
      omega
    · have h : r.length * 8 ≤ 140737488351232 := (sn.2.2.1.2 r hr).1
      omega
  unfold law_CoverFires
  refine bind_to (cover_Check_spec (n := (n.1, (n.2.1, (n.2.2.1, ())))) hf) ?_
  refine bind_to (r19_Check_spec (n := (n.1, (n.2.1, (n.2.2.1, ())))) hf) ?_
  have en : ((n.1, (n.2.1, (n.2.2.1, ()))) : Hps) = n := rfl
  have fin : ∀ e : Int, ¬ e = 0 → law_CoverFires_J12 n s t e [] e = some true := by
    intro e he
    unfold law_CoverFires_J12
    rw [if_pos (decide_eq_true he), if_pos (decide_eq_true rfl)]; rfl
  by_cases h0 : fireE n s t = 0
  · obtain ⟨⟨c1, t0, t1, c3⟩, o, f1, f2, f3⟩ := cover_Fire_good hf hs h0
    refine bind_to f1 ?_
    rw [if_neg (by simp)]
    refine bind_to (law_heaps_spec hf hs) ?_
    rw [show stE (n.1, (n.2.1, (n.2.2.1, ()))) s = stE n s from rfl, c1]
    have ok := st_ok c1 t0 t1
    have e1 := ok.sl; have e2 := ok.l1; have e3 := ok.p
    obtain ⟨b, hb, hb2⟩ := r19_Covers_tells (a := s) (b := ix n.2.1 t) (by omega) (by omega)
    have hbt : b = true := hb2.2 c3
    subst hbt
    unfold law_CoverFires_J7 law_CoverFires_J8
    (try dsimp only); (repeat' first | (with_reducible refine G_to ?_ ?_; focus (first | omega | (unfold fits; omega) | (unfold room; (try simp only [List.length_append, List.length_cons, List.length_nil]); omega))) | (with_reducible refine both_to ?_ ?_) | (with_reducible refine itet_to ?_) | (with_reducible refine itef_to ?_) | (with_reducible refine ite_to (fun _ => ?_) (fun _ => ?_))) <;> try (exfalso; omega)
    rw [hb]
    show law_CoverFires_J12 n s t 0 o 0 = some true
    unfold law_CoverFires_J12
    rw [if_neg (by simp)]
    refine bind_to f2 ?_
    refine bind_to (r1_Words_spec (by omega)) ?_
    rw [if_pos (by simp)]
    simp
  · refine bind_to (cover_Fire_bad hf hs h0) ?_
    rw [if_neg (by simp)]
    refine bind_to (law_heaps_spec hf hs) ?_
    rw [show stE (n.1, (n.2.1, (n.2.2.1, ()))) s = stE n s from rfl]
    have f := fin _ h0
    revert f
    unfold fireE at h0 ⊢
    by_cases c1 : stE n s = 0
    · rw [if_pos c1] at h0 ⊢
      by_cases c2 : t < 0 ∨ (n.2.1.length : Int) ≤ t
      · rw [if_pos c2]
        intro f
        unfold law_CoverFires_J7 law_CoverFires_J8
        rw [c1]
        (try dsimp only); (repeat' first | (with_reducible refine G_to ?_ ?_; focus (first | omega | (unfold fits; omega) | (unfold room; (try simp only [List.length_append, List.length_cons, List.length_nil]); omega))) | (with_reducible refine both_to ?_ ?_) | (with_reducible refine itet_to ?_) | (with_reducible refine itef_to ?_) | (with_reducible refine ite_to (fun _ => ?_) (fun _ => ?_))) <;> try (exfalso; omega)
        all_goals first | exact f | (exfalso; omega)
      · rw [if_neg c2] at h0 ⊢
        by_cases c3 : cvr s (ix n.2.1 t)
        · rw [if_pos c3] at h0; exact absurd rfl h0
        · rw [if_neg c3]
          intro f
          have ok := st_ok c1 (t := t) (by omega) (by omega)
          have e1 := ok.sl; have e2 := ok.l1; have e3 := ok.p
          obtain ⟨b, hb, hb2⟩ := r19_Covers_tells (a := s) (b := ix n.2.1 t) (by omega) (by omega)
          have hbt : b = false := by cases b; rfl; exact absurd (hb2.1 rfl) c3
          subst hbt
          unfold law_CoverFires_J7 law_CoverFires_J8
          rw [c1]
          (try dsimp only); (repeat' first | (with_reducible refine G_to ?_ ?_; focus (first | omega | (unfold fits; omega) | (unfold room; (try simp only [List.length_append, List.length_cons, List.length_nil]); omega))) | (with_reducible refine both_to ?_ ?_) | (with_reducible refine itet_to ?_) | (with_reducible refine itef_to ?_) | (with_reducible refine ite_to (fun _ => ?_) (fun _ => ?_))) <;> try (exfalso; omega)
          rw [hb]
          exact f
    · rw [if_neg c1]
      intro f
      unfold law_CoverFires_J7 law_CoverFires_J8
      (try dsimp only); (repeat' first | (with_reducible refine G_to ?_ ?_; focus (first | omega | (unfold fits; omega) | (unfold room; (try simp only [List.length_append, List.length_cons, List.length_nil]); omega))) | (with_reducible refine both_to ?_ ?_) | (with_reducible refine itet_to ?_) | (with_reducible refine itef_to ?_) | (with_reducible refine ite_to (fun _ => ?_) (fun _ => ?_))) <;> try (exfalso; omega)
      all_goals first | exact f | (exfalso; exact c1 ‹_›)

end Go.Proofs.Ytiamohlhhcafdaa.coverFiresW
