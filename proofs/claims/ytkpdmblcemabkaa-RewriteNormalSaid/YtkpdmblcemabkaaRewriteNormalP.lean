/- The law 'RewriteNormal' of the plain functions. -/
import Derived.Test.YtkpdmblcemabkaaRewriteNormalD
set_option maxHeartbeats 1000000
set_option maxRecDepth 20000
set_option linter.unusedSimpArgs false
set_option linter.unusedVariables false
namespace Go.Proofs.Ytkpdmblcemabkaa.rewriteNormalW
open Go Go.Ab
/-- The answer is yes just if P. -/
def Tells (o : Option Bool) (P : Prop) : Prop := ∃ b, o = some b ∧ (b = true ↔ P)
theorem Tells.of {b : Bool} {P : Prop} (h : b = true ↔ P) : Tells (some b) P := ⟨b, rfl, h⟩
theorem Tells.dec {P Q : Prop} [Decidable P] (h : P ↔ Q) : Tells (some (decide P)) Q := ⟨_, rfl, by simpa using h⟩
theorem Tells.iff {o : Option Bool} {P Q : Prop} (h : Tells o P) (k : P ↔ Q) : Tells o Q := let ⟨b, h1, h2⟩ := h; ⟨b, h1, h2.trans k⟩
theorem Tells.eq {o : Option Bool} {P : Prop} [Decidable P] (h : Tells o P) : o = some (decide P) := by
  obtain ⟨b, rfl, hb⟩ := h
  by_cases hp : P
  · simp [hp, hb.2 hp]
  · have : b = false := by cases b; rfl; exact absurd (hb.1 rfl) hp
    simp [hp, this]
theorem Tells.to {R : Type} {o : Option Bool} {P : Prop} {k1 k2 x : Option R} (h : Tells o P) (h1 : P → k1 = x) (h2 : ¬ P → k2 = x) : (o.bind fun y => if y = true then k1 else k2) = x := by
  obtain ⟨b, rfl, hb⟩ := h
  refine bind_to rfl ?_
  cases b
  · exact h2 fun hp => by simpa using hb.2 hp
  · exact h1 (hb.1 rfl)
theorem Tells.bind {R : Type} {o : Option Bool} {P : Prop} {k : Bool → Option R} {x : Option R} (h : Tells o P) (h1 : ∀ b, (b = true ↔ P) → k b = x) : o.bind k = x := by
  obtain ⟨b, rfl, hb⟩ := h
  exact h1 b hb
section
variable {α C : Type} [Inhabited α]
theorem ex_ix {l : List α} {P : α → Prop} : (∃ x ∈ l, P x) ↔ ∃ i : Int, 0 ≤ i ∧ i < l.length ∧ P (ix l i) := by
  constructor
  · rintro ⟨x, hx, hp⟩
    obtain ⟨i, hi, rfl⟩ := List.mem_iff_getElem.1 hx
    refine ⟨i, by omega, by omega, ?_⟩
    rwa [ix_eq (by omega) (by omega)]
  · rintro ⟨i, h0, h1, hp⟩
    exact ⟨_, ix_mem h0 h1, hp⟩
theorem index_loop {s : List α} {f : α → Option Bool} {L : Int → Option Int} {P : α → Prop} (hs : s.length ≤ 4611686018427387904)
    (hL : ∀ t, L t = if decide (t < (s.length : Int)) = true then G (0 ≤ t ∧ t < (s.length : Int)) ((f (ix s t)).bind fun y => if y = true then some t else G (fits (t + 1)) (L (t + 1))) else some (-1))
    (hf : ∀ x ∈ s, Tells (f x) (P x)) : ∀ (n : Nat) (t : Int), 0 ≤ t → t ≤ s.length → (s.length - t).toNat = n →
      ∃ i, L t = some i ∧ ((i = -1 ∧ ∀ j : Int, t ≤ j → j < s.length → ¬ P (ix s j)) ∨ (t ≤ i ∧ i < s.length ∧ P (ix s i) ∧ ∀ j : Int, t ≤ j → j < i → ¬ P (ix s j))) := by
  intro n
  induction n with
  | zero =>
    intro t h0 h1 hn
    refine ⟨-1, ?_, .inl ⟨rfl, fun j a b => by omega⟩⟩
    rw [hL, if_neg (by simp; omega)]
  | succ n ih =>
    intro t h0 h1 hn
    rw [hL, if_pos (by simp; omega), G_pos (by omega)]
    obtain ⟨b, hb, hbp⟩ := hf _ (ix_mem h0 (by omega : t < s.length))
    rw [hb]
    cases b with
    | true => exact ⟨t, rfl, .inr ⟨by omega, by omega, hbp.1 rfl, fun j a b => by omega⟩⟩
    | false =>
      have hnp : ¬ P (ix s t) := fun hp => by simpa using hbp.2 hp
      obtain ⟨i, hi, hc⟩ := ih (t + 1) (by omega) (by omega) (by omega)
      refine ⟨i, ?_, ?_⟩
      · refine (if_neg (by simp) : (if false = true then some t else G (fits (t + 1)) (L (t + 1))) = _).trans ?_
        rw [G_pos (by unfold fits; omega), hi]
      · rcases hc with ⟨h2, h3⟩ | ⟨h2, h3, h4, h5⟩
        · refine .inl ⟨h2, fun j a b => ?_⟩
          by_cases e : j = t
          · rw [e]; exact hnp
          · exact h3 j (by omega) b
        · refine .inr ⟨by omega, h3, h4, fun j a b => ?_⟩
          by_cases e : j = t
          · rw [e]; exact hnp
          · exact h5 j (by omega) b
theorem contains_tells {s : List α} {f : α → Option Bool} {L : Int → Option Int} {P : α → Prop}
    (hL : ∀ t, L t = if decide (t < (s.length : Int)) = true then G (0 ≤ t ∧ t < (s.length : Int)) ((f (ix s t)).bind fun y => if y = true then some t else G (fits (t + 1)) (L (t + 1))) else some (-1))
    (hs : s.length ≤ 4611686018427387904) (hf : ∀ x ∈ s, Tells (f x) (P x)) : Tells ((L 0).bind fun y => some (decide ((0 : Int) ≤ y))) (∃ x ∈ s, P x) := by
  obtain ⟨i, hi, hc⟩ := index_loop hs hL hf _ 0 (by omega) (by omega) rfl
  rw [hi]
  refine ⟨decide (0 ≤ i), rfl, ?_⟩
  rw [decide_eq_true_iff, ex_ix]
  rcases hc with ⟨h2, h3⟩ | ⟨h2, h3, h4, h5⟩
  · constructor
    · intro h; omega
    · rintro ⟨j, h0, h1, hp⟩; exact absurd hp (h3 j h0 h1)
  · exact ⟨fun _ => ⟨i, by omega, h3, h4⟩, fun _ => by omega⟩
/-- .. of what carries along what it reads. -/
theorem contains_tells2 {s : List α} {c : C} {f : α → C → Option (Bool × C)} {L : Int → C → Option (Int × C)} {P : α → Prop}
    (hL : ∀ t c, L t c = if decide (t < (s.length : Int)) = true then G (0 ≤ t ∧ t < (s.length : Int)) ((f (ix s t) c).bind fun y => if y.1 = true then some (t, y.2) else G (fits (t + 1)) (L (t + 1) y.2)) else some (-1, c))
    (hs : s.length ≤ 4611686018427387904) (hf : ∀ x ∈ s, ∃ b, f x c = some (b, c) ∧ (b = true ↔ P x)) : ∃ b, ((L 0 c).bind fun y => some (decide ((0 : Int) ≤ y.1), y.2)) = some (b, c) ∧ (b = true ↔ ∃ x ∈ s, P x) := by
  have key : ∀ (n : Nat) (t : Int), 0 ≤ t → t ≤ s.length → (s.length - t).toNat = n →
      ∃ i, L t c = some (i, c) ∧ ((i = -1 ∧ ∀ j : Int, t ≤ j → j < s.length → ¬ P (ix s j)) ∨ (t ≤ i ∧ i < s.length ∧ P (ix s i))) := by
    intro n
    induction n with
    | zero =>
      intro t h0 h1 hn
      refine ⟨-1, ?_, .inl ⟨rfl, fun j a b => by omega⟩⟩
      rw [hL, if_neg (by simp; omega)]
    | succ n ih =>
      intro t h0 h1 hn
      rw [hL, if_pos (by simp; omega), G_pos (by omega)]
      obtain ⟨b, hb, hbp⟩ := hf _ (ix_mem h0 (by omega : t < s.length))
      rw [hb]
      cases b with
      | true => exact ⟨t, rfl, .inr ⟨by omega, by omega, hbp.1 rfl⟩⟩
      | false =>
        have hnp : ¬ P (ix s t) := fun hp => by simpa using hbp.2 hp
        obtain ⟨i, hi, hc⟩ := ih (t + 1) (by omega) (by omega) (by omega)
        refine ⟨i, ?_, ?_⟩
        · refine (if_neg (by simp) : (if false = true then some (t, c) else G (fits (t + 1)) (L (t + 1) c)) = _).trans ?_
          rw [G_pos (by unfold fits; omega), hi]
        · rcases hc with ⟨h2, h3⟩ | ⟨h2, h3, h4⟩
          · refine .inl ⟨h2, fun j a b => ?_⟩
            by_cases e : j = t
            · rw [e]; exact hnp
            · exact h3 j (by omega) b
          · exact .inr ⟨by omega, h3, h4⟩
  obtain ⟨i, hi, hc⟩ := key _ 0 (by omega) (by omega) rfl
  rw [hi]
  refine ⟨decide (0 ≤ i), rfl, ?_⟩
  rw [decide_eq_true_iff, ex_ix]
  rcases hc with ⟨h2, h3⟩ | ⟨h2, h3, h4⟩
  · constructor
    · intro h; omega
    · rintro ⟨j, h0, h1, hp⟩; exact absurd hp (h3 j h0 h1)
  · exact ⟨fun _ => ⟨i, by omega, h3, h4⟩, fun _ => by omega⟩
end
/-- A loop that looks for the first fault. -/
theorem scan_to {R : Type} {len : Int} {L : Int → Option R} {bad : Int → Prop} {x : Option R} {lo : Int} (h0 : lo ≤ len)
    (hs : ∀ t, lo ≤ t → t < len → (bad t → L t = x) ∧ (¬ bad t → L t = L (t + 1))) (hf : (∀ t, lo ≤ t → t < len → ¬ bad t) → L len = x) : L lo = x := by
  have key : ∀ (n : Nat) (t : Int), lo ≤ t → t ≤ len → (len - t).toNat = n → (∀ j, lo ≤ j → j < t → ¬ bad j) → L t = x := by
    intro n
    induction n with
    | zero =>
      intro t h1 h2 hn h
      obtain rfl : t = len := by omega
      exact hf h
    | succ n ih =>
      intro t h1 h2 hn h
      by_cases hb : bad t
      · exact (hs t h1 (by omega)).1 hb
      · rw [(hs t h1 (by omega)).2 hb]
        refine ih (t + 1) (by omega) (by omega) (by omega) fun j a b => ?_
        by_cases e : j = t
        · rw [e]; exact hb
        · exact h j a (by omega)
  exact key _ lo (Int.le_refl _) h0 rfl (fun j a b => by omega)
/-- A loop that counts, with a state. -/
theorem fold_to {R S : Type} {len : Int} {L : Int → S → Option R} {f : Int → S → S} {lo : Int} {I : Int → S → Prop} {s : S} (h0 : lo ≤ len) (hI : I lo s)
    (hs : ∀ t s, lo ≤ t → t < len → I t s → L t s = L (t + 1) (f t s) ∧ I (t + 1) (f t s)) : ∃ s', I len s' ∧ L lo s = L len s' := by
  have key : ∀ (n : Nat) (t : Int) (s : S), lo ≤ t → t ≤ len → (len - t).toNat = n → I t s → ∃ s', I len s' ∧ L t s = L len s' := by
    intro n
    induction n with
    | zero =>
      intro t s h1 h2 hn h
      obtain rfl : t = len := by omega
      exact ⟨s, h, rfl⟩
    | succ n ih =>
      intro t s h1 h2 hn h
      obtain ⟨e, h3⟩ := hs t s h1 (by omega) h
      obtain ⟨s', h4, h5⟩ := ih (t + 1) _ (by omega) (by omega) (by omega) h3
      exact ⟨s', h4, e.trans h5⟩
  exact key _ lo s (Int.le_refl _) h0 rfl hI

theorem r1_Words_L4_spec {a b : List Int} (hl : a.length = b.length) : ∀ (n : Nat) (i : Int), 0 ≤ i → i ≤ a.length → (a.length - i).toNat = n → a.length ≤ 2305843009213693951 → (∀ j : Int, 0 ≤ j → j < i → ix a j = ix b j) → r1_Words_L4 a b i = some (decide (a = b)) := by
  intro n
  induction n with
  | zero =>
    intro i h0 h1 hn hs h
    rw [r1_Words_L4_eq]; unfold r1_Words_L4_B
    (try dsimp only); (repeat' first | (with_reducible refine G_to ?_ ?_; focus (first | omega | (unfold fits; omega) | (unfold room; (try simp only [List.length_append, List.length_cons, List.length_nil]); omega))) | (with_reducible refine both_to ?_ ?_) | (with_reducible refine itet_to ?_) | (with_reducible refine itef_to ?_) | (with_reducible refine ite_to (fun _ => ?_) (fun _ => ?_))) <;> try (exfalso; omega)
    · rw [Option.some_inj, eq_comm, decide_eq_true_iff]; exact ix_ext hl (fun j a b => h j a (by omega))
  | succ n ih =>
    intro i h0 h1 hn hs h
    rw [r1_Words_L4_eq]; unfold r1_Words_L4_B
    (try dsimp only); (repeat' first | (with_reducible refine G_to ?_ ?_; focus (first | omega | (unfold fits; omega) | (unfold room; (try simp only [List.length_append, List.length_cons, List.length_nil]); omega))) | (with_reducible refine both_to ?_ ?_) | (with_reducible refine itet_to ?_) | (with_reducible refine itef_to ?_) | (with_reducible refine ite_to (fun _ => ?_) (fun _ => ?_))) <;> try (exfalso; omega)
    · rw [Option.some_inj, eq_comm, decide_eq_false_iff_not]; rintro rfl; contradiction
    · rename_i hx; exact ih _ (by omega) (by omega) (by omega) hs (below_succ h (Decidable.not_not.1 hx))
theorem r1_Words_spec {a b : List Int} (hs : a.length ≤ 2305843009213693951) : r1_Words a b = some (decide (a = b)) := by
  unfold r1_Words
  (try dsimp only); (repeat' first | (with_reducible refine G_to ?_ ?_; focus (first | omega | (unfold fits; omega) | (unfold room; (try simp only [List.length_append, List.length_cons, List.length_nil]); omega))) | (with_reducible refine both_to ?_ ?_) | (with_reducible refine itet_to ?_) | (with_reducible refine itef_to ?_) | (with_reducible refine ite_to (fun _ => ?_) (fun _ => ?_))) <;> try (exfalso; omega)
  · rw [Option.some_inj, eq_comm, decide_eq_false_iff_not]; rintro rfl; contradiction
  · exact r1_Words_L4_spec (by omega) _ 0 (by omega) (by omega) rfl hs (fun j a b => by omega)

theorem slices_Clone_spec {s : List Int} (hs : s.length * 8 ≤ 140737488355328) : slices_Clone s = some s := by
  have hr : G (room ([] : List Int) s 8) (some (([] : List Int) ++ s)) = some s := by
    rw [G_pos (room_of (by simpa using hs))]; rfl
  unfold slices_Clone
  refine itep_to (fun h => ?_) (fun h => hr)
  obtain rfl : s = [] := List.length_eq_zero_iff.1 h
  rw [hr]; exact both_self (ts := [(.list (.int .i64))]) (some ([] : List Int))

theorem slices_Grow_spec {n : Int} (h0 : 0 ≤ n) (h : n * 8 ≤ 140737488355328) : slices_Grow n = some [] := by
  unfold slices_Grow
  (try dsimp only); (repeat' first | (with_reducible refine G_to ?_ ?_; focus (first | omega | (unfold fits; omega) | (unfold room; (try simp only [List.length_append, List.length_cons, List.length_nil]); omega))) | (with_reducible refine both_to ?_ ?_) | (with_reducible refine itet_to ?_) | (with_reducible refine itef_to ?_) | (with_reducible refine ite_to (fun _ => ?_) (fun _ => ?_))) <;> try (exfalso; omega)
  all_goals first | rfl | (rw [show ((0 : Int)).toNat = 0 from rfl, List.take_zero])
theorem slices_Concat_spec {ls : List (List Int)} (h : ls.length ≤ 1000) (hl : (ls.flatten.length : Int) * 8 ≤ 140737488355328) : slices_Concat ls = some ls.flatten := by
  have sum : ∀ (k : Nat), ((ls.take k).flatten.length : Int) ≤ ls.flatten.length := by
    intro k
    have : ls.flatten = (ls.take k).flatten ++ (ls.drop k).flatten := by rw [← List.flatten_append, List.take_append_drop]
    rw [this, List.length_append]; omega
  have tk : ∀ t : Int, 0 ≤ t → t < ls.length → (ls.take (t + 1).toNat).flatten = (ls.take t.toNat).flatten ++ ix ls t := fun t h0 h1 => by
    rw [ix_take h0 h1, List.flatten_append]; simp
  unfold slices_Concat
  have k2 : ∀ (n : Nat) (t : Int), (ls.length - t).toNat = n → 0 ≤ t → t ≤ ls.length → slices_Concat_L11 ls t (ls.take t.toNat).flatten = some ls.flatten := by
    intro n
    induction n with
    | zero =>
      intro t hn h0 h1
      rw [slices_Concat_L11_eq]; unfold slices_Concat_L11_B
      rw [List.take_of_length_le (by omega), if_neg (by simp only [decide_eq_true_eq]; omega)]
    | succ n ih =>
      intro t hn h0 h1
      have e := tk t h0 (by omega)
      have s := sum (t + 1).toNat
      rw [e, List.length_append] at s
      rw [slices_Concat_L11_eq]; unfold slices_Concat_L11_B
      (try dsimp only); (repeat' first | (with_reducible refine G_to ?_ ?_; focus (first | omega | (unfold fits; omega) | (unfold room; (try simp only [List.length_append, List.length_cons, List.length_nil]); omega))) | (with_reducible refine both_to ?_ ?_) | (with_reducible refine itet_to ?_) | (with_reducible refine itef_to ?_) | (with_reducible refine ite_to (fun _ => ?_) (fun _ => ?_))) <;> try (exfalso; omega)
      rw [← e]
      exact ih (t + 1) (by omega) (by omega) (by omega)
  have k1 : ∀ (n : Nat) (t : Int), (ls.length - t).toNat = n → 0 ≤ t → t ≤ ls.length → slices_Concat_L3 ls ((ls.take t.toNat).flatten.length : Int) t = some ls.flatten := by
    intro n
    induction n with
    | zero =>
      intro t hn h0 h1
      rw [slices_Concat_L3_eq]; unfold slices_Concat_L3_B
      rw [List.take_of_length_le (by omega), if_neg (by simp only [decide_eq_true_eq]; omega)]
      refine bind_to (slices_Grow_spec (by omega) hl) ?_
      have := k2 _ 0 rfl (by omega) (by omega)
      simpa using this
    | succ n ih =>
      intro t hn h0 h1
      have e := tk t h0 (by omega)
      have s := sum (t + 1).toNat
      have ih' := ih (t + 1) (by omega) (by omega) (by omega)
      rw [e, List.length_append] at s ih'
      rw [slices_Concat_L3_eq]; unfold slices_Concat_L3_B
      (try dsimp only); (repeat' first | (with_reducible refine G_to ?_ ?_; focus (first | omega | (unfold fits; omega) | (unfold room; (try simp only [List.length_append, List.length_cons, List.length_nil]); omega))) | (with_reducible refine both_to ?_ ?_) | (with_reducible refine itet_to ?_) | (with_reducible refine itef_to ?_) | (with_reducible refine ite_to (fun _ => ?_) (fun _ => ?_))) <;> try (exfalso; omega)
      rw [← ih']; congr 1
  have := k1 _ 0 rfl (by omega) (by omega)
  simpa using this

abbrev Sw := (List Int) × (List Int) × Unit
/- words in their order -/
def lexB : List Int → List Int → Bool
  | [], _ => false
  | _, [] => false
  | x :: a, y :: b => if x = y then lexB a b else decide (x < y)
def bef (a b : List Int) : Bool := if (a.length : Int) = b.length then lexB a b else decide ((a.length : Int) < b.length)
theorem cmp_spec (x y : Int) : ∃ o, cmp_Compare x y = some o ∧ (o = 0 ↔ x = y) ∧ (o < 0 ↔ x < y) := by
  unfold cmp_Compare cmp_isNaN
  simp only [Option.bind_some, not_true, decide_false, Bool.false_eq_true, if_false, decide_eq_true_eq]
  by_cases h : x < y
  · exact ⟨-1, by simp [h], by omega, by omega⟩
  · by_cases h2 : y < x
    · exact ⟨1, by simp [h, h2], by omega, by omega⟩
    · exact ⟨0, by simp [h, h2], by omega, by omega⟩
theorem before_spec {a b : List Int} (ha : a.length ≤ 1000) : rewrite_before a b = some (bef a b) := by
  unfold rewrite_before bef
  by_cases hl : (a.length : Int) = b.length
  · rw [if_neg (by simpa using hl), if_pos hl]
    have key : ∀ (n : Nat) (t : Int), (a.length - t).toNat = n → 0 ≤ t → t ≤ a.length → ∃ o, slices_Compare_L2 a b t = some o ∧ decide (o < 0) = lexB (a.drop t.toNat) (b.drop t.toNat) := by
      intro n
      induction n with
      | zero =>
        intro t hn t0 t1
        refine ⟨0, ?_, ?_⟩
        · rw [slices_Compare_L2_eq]; unfold slices_Compare_L2_B
          rw [if_neg (by simp; omega), if_neg (by simp; omega)]
        · rw [List.drop_of_length_le (by omega)]; rfl
      | succ n ih =>
        intro t hn t0 t1
        obtain ⟨o, o1, o2, o3⟩ := cmp_spec (ix a t) (ix b t)
        rw [ix_drop t0 (by omega : t < a.length), ix_drop t0 (by omega : t < b.length)]
        unfold lexB
        by_cases e : ix a t = ix b t
        · obtain ⟨o', z1, z2⟩ := ih (t + 1) (by omega) (by omega) (by omega)
          refine ⟨o', ?_, ?_⟩
          · rw [slices_Compare_L2_eq]; unfold slices_Compare_L2_B
            rw [if_pos (by simp; omega)]
            refine G_to (by omega) ?_
            rw [if_neg (by simp; omega)]
            refine G_to (by omega) (bind_to o1 ?_)
            rw [if_neg (by simpa using o2.2 e)]
            exact G_to (by unfold fits; omega) z1
          · rw [if_pos e]; exact z2
        · refine ⟨o, ?_, ?_⟩
          · rw [slices_Compare_L2_eq]; unfold slices_Compare_L2_B
            rw [if_pos (by simp; omega)]
            refine G_to (by omega) ?_
            rw [if_neg (by simp; omega)]
            refine G_to (by omega) (bind_to o1 ?_)
            rw [if_pos (by simpa using fun h => e (o2.1 h))]
          · rw [if_neg e, decide_eq_decide]; exact o3
    obtain ⟨o, z1, z2⟩ := key _ 0 rfl (by omega) (by omega)
    unfold slices_Compare
    refine bind_to z1 ?_
    rw [z2]; rfl
  · rw [if_pos (by simpa using hl), if_neg hl]
theorem Before_spec {a b : List Int} (ha : a.length ≤ 1000) : r1_Before a b = some (bef a b) := by
  unfold r1_Before bef
  by_cases hl : (a.length : Int) = b.length
  · rw [if_neg (by simpa using hl), if_pos hl]
    have key : ∀ (n : Nat) (t : Int), (a.length - t).toNat = n → 0 ≤ t → t ≤ a.length → r1_Before_L4 a b t = some (lexB (a.drop t.toNat) (b.drop t.toNat)) := by
      intro n
      induction n with
      | zero =>
        intro t hn t0 t1
        rw [r1_Before_L4_eq]; unfold r1_Before_L4_B
        rw [if_neg (by simp; omega), List.drop_of_length_le (by omega)]; rfl
      | succ n ih =>
        intro t hn t0 t1
        rw [ix_drop t0 (by omega : t < a.length), ix_drop t0 (by omega : t < b.length)]
        unfold lexB
        rw [r1_Before_L4_eq]; unfold r1_Before_L4_B
        rw [if_pos (by simp; omega)]
        refine G_to (by omega) (G_to (by omega) ?_)
        by_cases e : ix a t = ix b t
        · rw [if_neg (by simpa using e), if_pos e]
          exact G_to (by unfold fits; omega) (ih (t + 1) (by omega) (by omega) (by omega))
        · rw [if_pos (by simpa using e), if_neg e]
          exact G_to (by omega) (G_to (by omega) rfl)
    exact key _ 0 rfl (by omega) (by omega)
  · rw [if_pos (by simpa using hl), if_neg hl]
theorem Equal_spec {a b : List Int} (ha : a.length ≤ 1000) : slices_Equal a b = some (decide (a = b)) := by
  unfold slices_Equal
  by_cases hl : (a.length : Int) = b.length
  · rw [if_neg (by simpa using hl)]
    refine scan_to (len := (a.length : Int)) (bad := fun t => ix a t ≠ ix b t) (lo := 0) (by omega) (fun t t0 t1 => ⟨fun hb => ?_, fun hb => ?_⟩) (fun hh => ?_)
    · rw [slices_Equal_L4_eq]; unfold slices_Equal_L4_B
      rw [if_pos (by simp; omega)]
      refine G_to (by omega) (G_to (by omega) ?_)
      rw [if_pos (by simpa using hb), decide_eq_false (fun e => hb (by rw [e]))]
    · conv => lhs; rw [slices_Equal_L4_eq]; unfold slices_Equal_L4_B
      rw [if_pos (by simp; omega)]
      refine G_to (by omega) (G_to (by omega) ?_)
      rw [if_neg (by simpa using hb)]
      exact G_to (by unfold fits; omega) rfl
    · rw [slices_Equal_L4_eq]; unfold slices_Equal_L4_B
      rw [if_neg (by simp), decide_eq_true (ix_ext (by omega) fun t t0 t1 => Decidable.not_not.1 (hh t t0 t1))]
  · rw [if_pos (by simpa using hl), decide_eq_false (fun e => hl (by rw [e]))]
/- rules -/
def NoL (n : Int) (w : List Int) : Prop := ∃ a ∈ w, a < 0 ∨ n ≤ a
open Classical in
noncomputable def swE (n : Int) (s : Sw) : Int := if (s.1.length : Int) < 1 ∨ (5 : Int) < s.1.length ∨ (5 : Int) < s.2.1.length then 1 else if NoL n s.1 ∨ NoL n s.2.1 then 2 else if bef s.2.1 s.1 = true then 0 else 3
noncomputable def chk (n : Int) : List Sw → Int
  | [] => 0
  | s :: l => if swE n s = 0 then chk n l else swE n s
noncomputable def rwE (n : Int) (l : List Sw) : Int := if n < 1 ∨ 4 < n then 2 else if (8 : Int) < l.length then 1 else chk n l
theorem no_tells {n a : Int} : Tells (rewrite_Check_1 a n) (a < 0 ∨ n ≤ a) := by
  unfold rewrite_Check_1
  by_cases h : a < 0
  · rw [if_pos (decide_eq_true h)]; exact Tells.of (by simp [h])
  · rw [if_neg (by simpa using h)]; exact Tells.dec (by omega)
theorem no_tells2 {n a : Int} : Tells (rewrite_Normal_1 a n) (a < 0 ∨ n ≤ a) := by
  unfold rewrite_Normal_1
  by_cases h : a < 0
  · rw [if_pos (decide_eq_true h)]; exact Tells.of (by simp [h])
  · rw [if_neg (by simpa using h)]; exact Tells.dec (by omega)
theorem letters_tells {n : Int} {w : List Int} (hw : w.length ≤ 1000) : Tells (r29_letters w n) (¬ NoL n w) := by
  unfold r29_letters
  have sc : ∀ x : Option Bool, (∀ t : Int, 0 ≤ t → t < w.length → (ix w t < 0 ∨ n ≤ ix w t) → some false = x) → ((∀ t : Int, 0 ≤ t → t < w.length → ¬ (ix w t < 0 ∨ n ≤ ix w t)) → some true = x) → r29_letters_L2 w n 0 = x := fun x h1 h2 => by
    refine scan_to (len := (w.length : Int)) (bad := fun t => ix w t < 0 ∨ n ≤ ix w t) (lo := 0) (by omega) (fun t t0 t1 => ⟨fun hb => ?_, fun hb => ?_⟩) (fun hh => ?_)
    · rw [r29_letters_L2_eq]; unfold r29_letters_L2_B
      rw [if_pos (by simp; omega), ← h1 t t0 t1 hb]
      refine G_to (by omega) ?_
      by_cases c : ix w t < 0
      · rw [if_pos (decide_eq_true c)]
      · rw [if_neg (by simpa using c)]
        refine G_to (by omega) ?_
        rw [if_pos (by simp; omega)]
    · conv => lhs; rw [r29_letters_L2_eq]; unfold r29_letters_L2_B
      rw [if_pos (by simp; omega)]
      refine G_to (by omega) ?_
      rw [if_neg (by simp; omega)]
      refine G_to (by omega) ?_
      rw [if_neg (by simp; omega)]
      exact G_to (by unfold fits; omega) rfl
    · rw [r29_letters_L2_eq]; unfold r29_letters_L2_B
      rw [if_neg (by simp)]; exact h2 hh
  by_cases hN : NoL n w
  · refine ⟨false, sc _ (fun _ _ _ _ => rfl) (fun h => ?_), by simp [hN]⟩
    obtain ⟨i, i0, i1, hi⟩ := ex_ix.1 hN
    exact absurd hi (h i i0 i1)
  · exact ⟨true, sc _ (fun t t0 t1 hb => absurd (ex_ix.2 ⟨t, t0, t1, hb⟩) hN) (fun _ => rfl), by simp [hN]⟩
open Classical in
theorem swE_b {n : Int} {s : Sw} (h : ¬ ((s.1.length : Int) < 1 ∨ (5 : Int) < s.1.length ∨ (5 : Int) < s.2.1.length)) : swE n s = if NoL n s.1 ∨ NoL n s.2.1 then 2 else if bef s.2.1 s.1 = true then 0 else 3 := by unfold swE; rw [if_neg h]
theorem contains_no {n : Int} {w : List Int} (hw : w.length ≤ 1000) : Tells (slices_ContainsFunc w n) (NoL n w) :=
  contains_tells (f := fun a => rewrite_Check_1 a n) (slices_IndexFunc_L2_eq w n) (by omega) (fun _ _ => no_tells)
theorem contains_no1 {n : Int} {w : List Int} (hw : w.length ≤ 1000) : Tells (slices_ContainsFunc_1 w n) (NoL n w) :=
  contains_tells (f := fun a => rewrite_Normal_1 a n) (slices_IndexFunc_1_L2_eq w n) (by omega) (fun _ _ => no_tells2)
theorem Check_L7 {n : Int} {l : List Sw} (hl : l.length ≤ 8) : ∀ (m : Nat) (t : Int), (l.length - t).toNat = m → 0 ≤ t → t ≤ l.length → rewrite_Check_L7 n l t = some (chk n (l.drop t.toNat)) := by
  intro m
  induction m with
  | zero =>
    intro t hm t0 t1
    rw [rewrite_Check_L7_eq]; unfold rewrite_Check_L7_B
    rw [if_neg (by simp; omega), List.drop_of_length_le (by omega)]; rfl
  | succ m ih =>
    intro t hm t0 t1
    rw [ix_drop t0 (by omega : t < l.length), rewrite_Check_L7_eq]; unfold rewrite_Check_L7_B chk
    rw [if_pos (by simp; omega)]
    refine G_to (by omega) ?_
    generalize hs : ix l t = s
    by_cases c : (s.1.length : Int) < 1 ∨ (5 : Int) < s.1.length ∨ (5 : Int) < s.2.1.length
    · have e : swE n s = 1 := by unfold swE; rw [if_pos c]
      rw [show (if swE n s = 0 then chk n (l.drop (t + 1).toNat) else swE n s) = 1 by rw [e, if_neg (by omega)]]
      by_cases c1 : (s.1.length : Int) < 1
      · rw [if_pos (decide_eq_true c1)]
      rw [if_neg (by simpa using c1)]
      by_cases c2 : (5 : Int) < s.1.length
      · rw [if_pos (decide_eq_true c2)]
      rw [if_neg (by simpa using c2), if_pos (by simp; omega)]
    · rw [if_neg (by simp; omega), if_neg (by simp; omega), if_neg (by simp; omega)]
      have sw := swE_b (n := n) c
      refine (contains_no (by omega)).to (fun h => ?_) (fun h1 => ?_)
      · rw [if_pos (.inl h)] at sw
        rw [sw, if_neg (by omega)]
      refine (contains_no (by omega)).to (fun h => ?_) (fun h2 => ?_)
      · rw [if_pos (.inr h)] at sw
        rw [sw, if_neg (by omega)]
      rw [if_neg (fun hh => hh.elim h1 h2)] at sw
      refine bind_to (before_spec (by omega)) ?_
      by_cases c3 : bef s.2.1 s.1 = true
      · rw [if_pos c3] at sw
        rw [if_neg (by simpa using c3), sw, if_pos rfl]
        exact G_to (by unfold fits; omega) (ih (t + 1) (by omega) (by omega) (by omega))
      · rw [if_neg c3] at sw
        rw [if_pos (by simpa using c3), sw, if_neg (by omega)]
theorem Check_spec {n : Int} {l : List Sw} : rewrite_Check n l = some (rwE n l) := by
  unfold rewrite_Check rwE
  by_cases c : n < 1 ∨ 4 < n
  · rw [if_pos c]
    by_cases c1 : n < 1
    · rw [if_pos (decide_eq_true c1)]
    · rw [if_neg (by simpa using c1), if_pos (by simp; omega)]
  · rw [if_neg c, if_neg (by simp; omega), if_neg (by simp; omega)]
    by_cases c2 : (8 : Int) < l.length
    · rw [if_pos (decide_eq_true c2), if_pos c2]
    · rw [if_neg (by simpa using c2), if_neg c2]
      exact Check_L7 (by omega) _ 0 rfl (by omega) (by omega)
theorem rCheck_L6 {n : Int} {l : List Sw} (hl : l.length ≤ 8) : ∀ (m : Nat) (t : Int), (l.length - t).toNat = m → 0 ≤ t → t ≤ l.length → r29_Check_L6 n l t = some (chk n (l.drop t.toNat)) := by
  intro m
  induction m with
  | zero =>
    intro t hm t0 t1
    rw [r29_Check_L6_eq]; unfold r29_Check_L6_B
    rw [if_neg (by simp; omega), List.drop_of_length_le (by omega)]; rfl
  | succ m ih =>
    intro t hm t0 t1
    rw [ix_drop t0 (by omega : t < l.length), r29_Check_L6_eq]; unfold r29_Check_L6_B chk
    rw [if_pos (by simp; omega)]
    refine G_to (by omega) ?_
    generalize hs : ix l t = s
    by_cases c : (s.1.length : Int) < 1 ∨ (5 : Int) < s.1.length ∨ (5 : Int) < s.2.1.length
    · have e : swE n s = 1 := by unfold swE; rw [if_pos c]
      rw [show (if swE n s = 0 then chk n (l.drop (t + 1).toNat) else swE n s) = 1 by rw [e, if_neg (by omega)]]
      by_cases c1 : (s.1.length : Int) < 1
      · rw [if_pos (decide_eq_true c1)]
      rw [if_neg (by simpa using c1)]
      by_cases c2 : (5 : Int) < s.1.length
      · rw [if_pos (decide_eq_true c2)]
      rw [if_neg (by simpa using c2), if_pos (by simp; omega)]
    · rw [if_neg (by simp; omega), if_neg (by simp; omega), if_neg (by simp; omega)]
      have sw := swE_b (n := n) c
      refine (letters_tells (by omega)).bind (fun b1 h1 => ?_)
      refine (letters_tells (by omega)).bind (fun b2 h2 => ?_)
      by_cases d1 : NoL n s.1
      · have : b1 = false := by simpa [d1] using h1
        rw [if_pos (.inl d1)] at sw
        rw [this, sw, if_neg (by omega : ¬ (2 : Int) = 0), if_pos (by simp)]
      have e1 : b1 = true := by simpa [d1] using h1
      by_cases d2 : NoL n s.2.1
      · have : b2 = false := by simpa [d2] using h2
        rw [if_pos (.inr d2)] at sw
        rw [this, e1, sw, if_neg (by omega : ¬ (2 : Int) = 0), if_neg (by simp), if_pos (by simp)]
      have e2 : b2 = true := by simpa [d2] using h2
      rw [if_neg (fun hh => hh.elim d1 d2)] at sw
      rw [e1, e2, if_neg (by simp), if_neg (by simp)]
      refine bind_to (Before_spec (by omega)) ?_
      by_cases c3 : bef s.2.1 s.1 = true
      · rw [if_pos c3] at sw
        rw [if_neg (by simpa using c3), sw, if_pos rfl]
        exact G_to (by unfold fits; omega) (ih (t + 1) (by omega) (by omega) (by omega))
      · rw [if_neg c3] at sw
        rw [if_pos (by simpa using c3), sw, if_neg (by omega)]
theorem rCheck_spec {n : Int} {l : List Sw} : r29_Check n l = some (rwE n l) := by
  unfold r29_Check rwE
  by_cases c : n < 1 ∨ 4 < n
  · rw [if_pos c]
    by_cases c1 : n < 1
    · rw [if_pos (decide_eq_true c1)]
    · rw [if_neg (by simpa using c1), if_pos (by simp; omega)]
  · rw [if_neg c, if_neg (by simp; omega), if_neg (by simp; omega)]
    by_cases c2 : (8 : Int) < l.length
    · rw [if_pos (decide_eq_true c2), if_pos c2]
    · rw [if_neg (by simpa using c2), if_neg c2]
      exact rCheck_L6 (by omega) _ 0 rfl (by omega) (by omega)
/- what words weigh -/
def val (w : List Int) : Int := w.foldl (fun r a => r * 5 + (a + 1)) 0
theorem val_fold (X : List Int) : ∀ r : Int, X.foldl (fun r a => r * 5 + (a + 1)) r = r * 5 ^ X.length + val X := by
  induction X with
  | nil => intro r; simp [val]
  | cons a X ih =>
    intro r
    unfold val
    rw [List.foldl_cons, List.foldl_cons, ih, ih, List.length_cons, Int.pow_succ, Int.zero_mul, Int.zero_add, Int.add_mul]
    have : r * 5 * 5 ^ X.length = r * (5 ^ X.length * 5) := by rw [Int.mul_assoc, Int.mul_comm 5]
    rw [this]; omega
theorem val_app (P X : List Int) : val (P ++ X) = val P * 5 ^ X.length + val X := by
  conv => lhs; unfold val
  rw [List.foldl_append, val_fold]; rfl
theorem val_cons (a : Int) (X : List Int) : val (a :: X) = (a + 1) * 5 ^ X.length + val X := by
  have := val_app [a] X
  simpa [val] using this
def Dg (w : List Int) : Prop := ∀ a ∈ w, 0 ≤ a ∧ a < 4
theorem pow5 (k : Nat) : (1 : Int) ≤ 5 ^ k := by
  induction k with
  | zero => simp
  | succ k ih => rw [Int.pow_succ]; omega
theorem val_b : ∀ {w : List Int}, Dg w → 5 ^ w.length ≤ 4 * val w + 1 ∧ val w + 1 ≤ 5 ^ w.length
  | [], _ => by simp [val]
  | a :: w, h => by
    have h1 := h a (by simp)
    have h2 := val_b (w := w) (fun b hb => h b (by simp [hb]))
    rw [val_cons, List.length_cons, Int.pow_succ]
    generalize (5 : Int) ^ w.length = p at *
    have hp : 1 ≤ p := by omega
    have e : a = 0 ∨ a = 1 ∨ a = 2 ∨ a = 3 := by omega
    rcases e with rfl | rfl | rfl | rfl <;> constructor <;> omega
theorem lexB_val : ∀ {a b : List Int}, a.length = b.length → Dg a → Dg b → lexB a b = true → val a < val b
  | [], [], _, _, _, h => by cases h
  | x :: a, y :: b, hl, ha, hb, h => by
    have hl' : a.length = b.length := by simpa using hl
    have h1 := ha x (by simp)
    have h2 := hb y (by simp)
    have ha' : Dg a := fun z hz => ha z (by simp [hz])
    have hb' : Dg b := fun z hz => hb z (by simp [hz])
    have va := val_b ha'
    have vb := val_b hb'
    rw [val_cons, val_cons, hl']
    unfold lexB at h
    by_cases e : x = y
    · rw [if_pos e] at h
      have := lexB_val hl' ha' hb' h
      rw [e]; omega
    · rw [if_neg e] at h
      have hlt : x < y := by simpa using h
      rw [hl'] at va
      generalize (5 : Int) ^ b.length = p at *
      have : (x + 1) * p + p ≤ (y + 1) * p := by
        have : (x + 1 + 1) * p ≤ (y + 1) * p := Int.mul_le_mul_of_nonneg_right (by omega) (by omega)
        rw [Int.add_mul (x + 1) 1 p] at this
        omega
      omega
theorem pow5_lt {a b : Nat} (h : a < b) : (5 : Int) ^ a * 5 ≤ 5 ^ b := by
  obtain ⟨k, rfl⟩ : ∃ k, b = a + 1 + k := ⟨b - a - 1, by omega⟩
  rw [Int.pow_add, Int.pow_succ]
  have h1 := pow5 k
  have h2 := pow5 a
  have : 5 ^ a * 5 * 1 ≤ (5 : Int) ^ a * 5 * 5 ^ k := Int.mul_le_mul_of_nonneg_left h1 (by omega)
  omega
theorem val_short {a b : List Int} (ha : Dg a) (hb : Dg b) (h : a.length < b.length) : val a < val b := by
  have va := val_b ha
  have vb := val_b hb
  have := pow5_lt h
  omega
theorem dg_app {a b : List Int} : Dg (a ++ b) ↔ Dg a ∧ Dg b := by
  unfold Dg
  constructor
  · intro h; exact ⟨fun x hx => h x (by simp [hx]), fun x hx => h x (by simp [hx])⟩
  · rintro ⟨h1, h2⟩ x hx
    rcases List.mem_append.1 hx with hx | hx
    · exact h1 x hx
    · exact h2 x hx
theorem swap_val {P F T S : List Int} (hP : Dg P) (hF : Dg F) (hT : Dg T) (hS : Dg S) (h : bef T F = true) : val (P ++ T ++ S) < val (P ++ F ++ S) ∧ T.length ≤ F.length := by
  unfold bef at h
  by_cases hl : (T.length : Int) = F.length
  · rw [if_pos hl] at h
    have := lexB_val (by omega) hT hF h
    refine ⟨?_, by omega⟩
    rw [val_app (P ++ T), val_app P T, val_app (P ++ F), val_app P F]
    have e : T.length = F.length := by omega
    rw [e]
    have : (val P * 5 ^ F.length + val T) * 5 ^ S.length < (val P * 5 ^ F.length + val F) * 5 ^ S.length := Int.mul_lt_mul_of_pos_right (by omega) (by have := pow5 S.length; omega)
    omega
  · rw [if_neg hl] at h
    have hlt : (T.length : Int) < F.length := by simpa using h
    refine ⟨val_short (dg_app.2 ⟨dg_app.2 ⟨hP, hT⟩, hS⟩) (dg_app.2 ⟨dg_app.2 ⟨hP, hF⟩, hS⟩) (by simp; omega), by omega⟩

/- one step -/
structure LOk (l : List Sw) : Prop where
  n : l.length ≤ 8
  s : ∀ s ∈ l, 1 ≤ s.1.length ∧ s.1.length ≤ 5 ∧ s.2.1.length ≤ 5 ∧ Dg s.1 ∧ Dg s.2.1 ∧ bef s.2.1 s.1 = true
theorem chk_zero {n : Int} (hn : n ≤ 4) : ∀ {l : List Sw}, chk n l = 0 → ∀ s ∈ l, 1 ≤ s.1.length ∧ s.1.length ≤ 5 ∧ s.2.1.length ≤ 5 ∧ Dg s.1 ∧ Dg s.2.1 ∧ bef s.2.1 s.1 = true
  | [], _, s, hs => by cases hs
  | x :: l, h, s, hs => by
    unfold chk at h
    by_cases c : swE n x = 0
    · rw [if_pos c] at h
      rcases List.mem_cons.1 hs with rfl | hs
      · by_cases d : (s.1.length : Int) < 1 ∨ (5 : Int) < s.1.length ∨ (5 : Int) < s.2.1.length
        · unfold swE at c; rw [if_pos d] at c; omega
        · rw [swE_b d] at c
          by_cases d2 : NoL n s.1 ∨ NoL n s.2.1
          · rw [if_pos d2] at c; omega
          · rw [if_neg d2] at c
            by_cases d3 : bef s.2.1 s.1 = true
            · have dg : ∀ w : List Int, ¬ NoL n w → Dg w := fun w hw a ha => by
                have : ¬ (a < 0 ∨ n ≤ a) := fun hh => hw ⟨a, ha, hh⟩
                omega
              exact ⟨by omega, by omega, by omega, dg _ (fun hh => d2 (.inl hh)), dg _ (fun hh => d2 (.inr hh)), d3⟩
            · rw [if_neg d3] at c; omega
      · exact chk_zero hn h s hs
    · rw [if_neg c] at h; exact absurd h c
structure WOk (w : List Int) : Prop where
  n : w.length ≤ 8
  d : Dg w
def Std (w v : List Int) (a : Int) : Prop := a + v.length ≤ w.length ∧ cut w a (a + v.length) = v
theorem stands_spec {w v : List Int} (hw : w.length ≤ 8) (hv : v.length ≤ 5) {a : Int} (a0 : 0 ≤ a) (a1 : a ≤ 8) : Tells (rewrite_stands w v a) (Std w v a) := by
  unfold rewrite_stands Std
  rw [G_pos (by unfold fits; omega)]
  by_cases c : a + (v.length : Int) ≤ w.length
  · rw [if_pos (decide_eq_true c), G_pos (by unfold fits; omega), G_pos (by omega)]
    have hl : (cut w a (a + v.length)).length ≤ 1000 := by
      have := cut_len (l := w) a0 (by omega : a ≤ a + (v.length : Int)) c
      omega
    rw [Equal_spec hl]
    exact ⟨_, rfl, by rw [decide_eq_true_iff]; exact ⟨fun h => ⟨c, h⟩, fun h => h.2⟩⟩
  · rw [if_neg (by simpa using c)]
    exact ⟨false, rfl, ⟨fun h => (by cases h), fun h => absurd h.1 c⟩⟩
theorem Stands_spec {w v : List Int} (hw : w.length ≤ 8) (hv : v.length ≤ 5) {a : Int} (a0 : 0 ≤ a) (a1 : a ≤ 8) : Tells (r29_Stands w v a) (Std w v a) := by
  unfold r29_Stands Std
  rw [G_pos (by unfold fits; omega)]
  by_cases c : (w.length : Int) < a + (v.length : Int)
  · rw [if_pos (decide_eq_true c)]
    exact ⟨false, rfl, ⟨fun h => (by cases h), fun h => absurd h.1 (by omega)⟩⟩
  · rw [if_neg (by simpa using c), G_pos (by unfold fits; omega), G_pos (by omega)]
    have hl : (cut w a (a + v.length)).length ≤ 2305843009213693951 := by
      have := cut_len (l := w) a0 (by omega : a ≤ a + (v.length : Int)) (by omega)
      omega
    rw [r1_Words_spec hl]
    exact ⟨_, rfl, by rw [decide_eq_true_iff]; exact ⟨fun h => ⟨by omega, h⟩, fun h => h.2⟩⟩
def swd (w : List Int) (s : Sw) (a : Int) : List Int := w.take a.toNat ++ s.2.1 ++ w.drop (a + s.1.length).toNat
theorem cut_drop {w : List Int} {a : Int} : cut w a w.length = w.drop a.toNat := by unfold cut; simp
theorem swapped_spec {w : List Int} {s : Sw} (hw : w.length ≤ 8) (h2 : s.2.1.length ≤ 5) {a : Int} (a0 : 0 ≤ a) (a1 : a + s.1.length ≤ w.length) : rewrite_swapped w (s.1, s.2.1, ()) a = some (swd w s a) := by
  unfold rewrite_swapped swd
  show G _ (G (fits (a + (s.1.length : Int))) (G (0 ≤ a + (s.1.length : Int) ∧ a + (s.1.length : Int) ≤ (w.length : Int) ∧ (w.length : Int) ≤ (w.length : Int)) _)) = _
  refine G_to (by omega) (G_to (by unfold fits; omega) (G_to (by omega) ?_))
  rw [cut_zero, cut_drop]
  refine bind_to (slices_Concat_spec (by simp) (by simp; omega)) ?_
  simp
theorem Swapped_spec {w : List Int} {s : Sw} (hw : w.length ≤ 8) (h2 : s.2.1.length ≤ 5) {a : Int} (a0 : 0 ≤ a) (a1 : a + s.1.length ≤ w.length) : r29_Swapped w s a = some (swd w s a) := by
  unfold r29_Swapped swd
  rw [cut_zero, cut_drop]
  refine G_to (by omega) (G_to (by unfold room; simp; omega) (G_to (by unfold room; simp; omega) (G_to (by unfold fits; omega) (G_to (by omega) (G_to (by unfold room; simp; omega) rfl)))))
theorem swd_ok {w : List Int} {s : Sw} (hw : WOk w) (hs : 1 ≤ s.1.length ∧ s.1.length ≤ 5 ∧ s.2.1.length ≤ 5 ∧ Dg s.1 ∧ Dg s.2.1 ∧ bef s.2.1 s.1 = true) {a : Int} (a0 : 0 ≤ a) (h : Std w s.1 a) : WOk (swd w s a) ∧ val (swd w s a) < val w := by
  obtain ⟨h1, h2⟩ := h
  have e : w = w.take a.toNat ++ s.1 ++ w.drop (a + s.1.length).toNat := by
    have e1 : (w.take (a + s.1.length).toNat).drop a.toNat = s.1 := h2
    have e2 : w.take (a + s.1.length).toNat = w.take a.toNat ++ s.1 := by
      conv => lhs; rw [← List.take_append_drop a.toNat (w.take (a + s.1.length).toNat), e1, List.take_take, Nat.min_eq_left (by omega)]
    rw [← e2, List.take_append_drop]
  have hd := hw.d
  rw [e] at hd
  obtain ⟨hd1, hd2⟩ := dg_app.1 hd
  obtain ⟨hd3, hd4⟩ := dg_app.1 hd1
  obtain ⟨v1, v2⟩ := swap_val hd3 hs.2.2.2.1 hs.2.2.2.2.1 hd2 hs.2.2.2.2.2
  refine ⟨⟨?_, dg_app.2 ⟨dg_app.2 ⟨hd3, hs.2.2.2.2.1⟩, hd2⟩⟩, ?_⟩
  · have hl := congrArg List.length e
    have hw8 := hw.n
    unfold swd
    simp only [List.length_append] at hl ⊢
    omega
  · conv => rhs; rw [e]
    exact v1
theorem both_L5 {l : List Sw} (hl : LOk l) {w : List Int} (hw : WOk w) {a : Int} (a0 : 0 ≤ a) (a1 : a ≤ 8) {r2 : Int → Option (List Int × Bool)} : ∀ (m : Nat) (t : Int), (l.length - t).toNat = m → 0 ≤ t → t ≤ l.length →
    (∃ w', WOk w' ∧ val w' < val w ∧ r29_Step_L5 l w a r2 t = some (w', true) ∧ rewrite_normal_L5 l (rewrite_normal_L2 l) w a t = rewrite_normal_L2 l w' 0) ∨
    (r29_Step_L5 l w a r2 t = r2 (a + 1) ∧ rewrite_normal_L5 l (rewrite_normal_L2 l) w a t = rewrite_normal_L2 l w (a + 1)) := by
  have hn := hl.n
  have h8 := hw.n
  intro m
  induction m with
  | zero =>
    intro t hm t0 t1
    refine .inr ⟨?_, ?_⟩
    · rw [r29_Step_L5_eq]; unfold r29_Step_L5_B
      rw [if_neg (by simp; omega)]
      exact G_to (by unfold fits; omega) rfl
    · rw [rewrite_normal_L5_eq]; unfold rewrite_normal_L5_B
      rw [if_neg (by simp; omega)]
      exact G_to (by unfold fits; omega) rfl
  | succ m ih =>
    intro t hm t0 t1
    have hs := hl.s _ (ix_mem t0 (by omega : t < l.length))
    by_cases c : Std w (ix l t).1 a
    · obtain ⟨z1, z2⟩ := swd_ok hw hs a0 c
      refine .inl ⟨_, z1, z2, ?_, ?_⟩
      · rw [r29_Step_L5_eq]; unfold r29_Step_L5_B
        rw [if_pos (by simp; omega)]
        refine G_to (by omega) ((Stands_spec h8 hs.2.1 a0 a1).to (fun _ => ?_) (fun h => absurd c h))
        exact G_to (by omega) (bind_to (Swapped_spec h8 hs.2.2.1 a0 c.1) rfl)
      · rw [rewrite_normal_L5_eq]; unfold rewrite_normal_L5_B
        rw [if_pos (by simp; omega)]
        refine G_to (by omega) ((stands_spec h8 hs.2.1 a0 a1).to (fun _ => ?_) (fun h => absurd c h))
        refine bind_to (swapped_spec h8 hs.2.2.1 a0 c.1) ?_
        exact G_to (by decide) rfl
    · have e1 : r29_Step_L5 l w a r2 t = r29_Step_L5 l w a r2 (t + 1) := by
        conv => lhs; rw [r29_Step_L5_eq]; unfold r29_Step_L5_B
        rw [if_pos (by simp; omega)]
        refine G_to (by omega) ((Stands_spec h8 hs.2.1 a0 a1).to (fun h => absurd h c) (fun _ => ?_))
        exact G_to (by unfold fits; omega) rfl
      have e2 : rewrite_normal_L5 l (rewrite_normal_L2 l) w a t = rewrite_normal_L5 l (rewrite_normal_L2 l) w a (t + 1) := by
        conv => lhs; rw [rewrite_normal_L5_eq]; unfold rewrite_normal_L5_B
        rw [if_pos (by simp; omega)]
        refine G_to (by omega) ((stands_spec h8 hs.2.1 a0 a1).to (fun h => absurd h c) (fun _ => ?_))
        exact G_to (by unfold fits; omega) rfl
      rw [e1, e2]
      exact ih (t + 1) (by omega) (by omega) (by omega)
theorem both_L2 {l : List Sw} (hl : LOk l) {w : List Int} (hw : WOk w) : ∀ (m : Nat) (a : Int), (w.length - a).toNat = m → 0 ≤ a → a ≤ w.length →
    (∃ w', WOk w' ∧ val w' < val w ∧ r29_Step_L2 l w a = some (w', true) ∧ rewrite_normal_L2 l w a = rewrite_normal_L2 l w' 0) ∨
    (r29_Step_L2 l w a = some (w, false) ∧ rewrite_normal_L2 l w a = some w) := by
  have h8 := hw.n
  intro m
  induction m with
  | zero =>
    intro a hm a0 a1
    refine .inr ⟨?_, ?_⟩
    · rw [r29_Step_L2_eq]; unfold r29_Step_L2_B
      rw [if_neg (by simp; omega)]
    · rw [rewrite_normal_L2_eq]; unfold rewrite_normal_L2_B
      rw [if_neg (by simp; omega)]
  | succ m ih =>
    intro a hm a0 a1
    have e1 : r29_Step_L2 l w a = r29_Step_L5 l w a (r29_Step_L2 l w) 0 := by
      conv => lhs; rw [r29_Step_L2_eq]; unfold r29_Step_L2_B
      rw [if_pos (by simp; omega)]
    have e2 : rewrite_normal_L2 l w a = rewrite_normal_L5 l (rewrite_normal_L2 l) w a 0 := by
      conv => lhs; rw [rewrite_normal_L2_eq]; unfold rewrite_normal_L2_B
      rw [if_pos (by simp; omega)]
    rw [e1, e2]
    rcases both_L5 hl hw a0 (by omega) (r2 := r29_Step_L2 l w) _ 0 rfl (by omega) (by omega) with h | ⟨z1, z2⟩
    · exact .inl h
    · rw [z1, z2]
      exact ih (a + 1) (by omega) (by omega) (by omega)
theorem both_Normal {l : List Sw} (hl : LOk l) : ∀ (m : Nat) (w : List Int), WOk w → val w < m → ∃ x, x.length ≤ 8 ∧ rewrite_normal_L2 l w 0 = some x ∧ r29_Normal_L2 l w true = some x := by
  intro m
  induction m with
  | zero =>
    intro w hw hm
    have h1 := (val_b hw.d).1
    have := pow5 w.length
    omega
  | succ m ih =>
    intro w hw hm
    have e : ∀ w' b, r29_Step l w = some (w', b) → r29_Normal_L2 l w true = r29_Normal_L2 l w' b := fun w' b h => by
      conv => lhs; rw [r29_Normal_L2_eq]; unfold r29_Normal_L2_B
      rw [if_pos rfl]
      exact bind_to h rfl
    rcases both_L2 hl hw _ 0 rfl (by omega) (by omega) with ⟨w', z1, z2, z3, z4⟩ | ⟨z1, z2⟩
    · obtain ⟨x, y1, y2, y3⟩ := ih w' z1 (by omega)
      exact ⟨x, y1, z4.trans y2, (e _ _ z3).trans y3⟩
    · refine ⟨w, hw.n, z2, (e _ _ z1).trans ?_⟩
      rw [r29_Normal_L2_eq]; unfold r29_Normal_L2_B
      rw [if_neg (by simp)]
theorem J11_bad {l : List Sw} {w : List Int} {e : Int} (he : ¬ e = 0) : law_RewriteNormal_J11 l w e [] e = some true := by
  unfold law_RewriteNormal_J11
  rw [if_pos (decide_eq_true he), if_pos (by simp)]; simp
theorem law_true (letters : Int) (l : List Sw) (w : List Int) : law_RewriteNormal letters l w = some true := by
  unfold law_RewriteNormal
  refine bind_to Check_spec (bind_to rCheck_spec ?_)
  by_cases h0 : rwE letters l = 0
  · by_cases c1 : (8 : Int) < w.length
    · have p : rewrite_Normal letters l w = some (1, []) := by
        unfold rewrite_Normal
        refine bind_to Check_spec ?_
        rw [if_neg (by simpa using h0), if_pos (decide_eq_true c1)]
      refine bind_to p ?_
      rw [if_neg (by simp), if_pos (decide_eq_true h0)]
      unfold law_RewriteNormal_J6 law_RewriteNormal_J7
      rw [if_pos (decide_eq_true c1), if_neg (by simp)]
      exact J11_bad (by omega)
    · by_cases c2 : NoL letters w
      · have p : rewrite_Normal letters l w = some (2, []) := by
          unfold rewrite_Normal
          refine bind_to Check_spec ?_
          rw [if_neg (by simpa using h0), if_neg (by simpa using c1)]
          refine (contains_no1 (by omega)).to (fun _ => rfl) (fun h => absurd c2 h)
        refine bind_to p ?_
        rw [if_neg (by simp), if_pos (decide_eq_true h0)]
        unfold law_RewriteNormal_J6 law_RewriteNormal_J7
        rw [if_neg (by simpa using c1), if_pos (decide_eq_true h0)]
        unfold r29_Letters
        refine bind_to (show _ = some false from ?_) ?_
        · obtain ⟨b, hb1, hb2⟩ := letters_tells (n := letters) (w := w) (by omega)
          rw [hb1]
          have : b = false := by simpa [c2] using hb2
          rw [this]; rfl
        · rw [if_pos (by simp)]
          exact J11_bad (by omega)
      · have h4 : letters ≤ 4 ∧ chk letters l = 0 ∧ l.length ≤ 8 := by
          unfold rwE at h0
          by_cases d : letters < 1 ∨ 4 < letters
          · rw [if_pos d] at h0; omega
          · rw [if_neg d] at h0
            by_cases d2 : (8 : Int) < l.length
            · rw [if_pos d2] at h0; omega
            · rw [if_neg d2] at h0; exact ⟨by omega, h0, by omega⟩
        have hl : LOk l := ⟨h4.2.2, chk_zero h4.1 h4.2.1⟩
        have hw : WOk w := ⟨by omega, fun a ha => by
          have : ¬ (a < 0 ∨ letters ≤ a) := fun hh => c2 ⟨a, ha, hh⟩
          omega⟩
        obtain ⟨x, y1, y2, y3⟩ := both_Normal hl (val w).toNat.succ w hw (by omega)
        have p : rewrite_Normal letters l w = some (0, x) := by
          unfold rewrite_Normal
          refine bind_to Check_spec ?_
          rw [if_neg (by simpa using h0), if_neg (by simpa using c1)]
          refine (contains_no1 (by omega)).to (fun h => absurd h c2) (fun _ => ?_)
          unfold rewrite_normal
          refine bind_to y2 (bind_to (slices_Clone_spec (by omega)) rfl)
        refine bind_to p ?_
        rw [if_neg (by simp), if_pos (decide_eq_true h0)]
        unfold law_RewriteNormal_J6 law_RewriteNormal_J7
        rw [if_neg (by simpa using c1), if_pos (decide_eq_true h0)]
        unfold r29_Letters
        refine bind_to (show _ = some true from ?_) ?_
        · obtain ⟨b, hb1, hb2⟩ := letters_tells (n := letters) (w := w) (by omega)
          rw [hb1]
          have : b = true := by simpa [c2] using hb2
          rw [this]; rfl
        · rw [if_neg (by simp)]
          unfold law_RewriteNormal_J11
          rw [if_neg (by simpa using h0)]
          unfold r29_Normal
          refine bind_to y3 (bind_to (r1_Words_spec (by show x.length ≤ _; omega)) ?_)
          rw [if_pos (by simp)]; simp
  · have p : rewrite_Normal letters l w = some (rwE letters l, []) := by
      unfold rewrite_Normal
      refine bind_to Check_spec ?_
      rw [if_pos (by simpa using h0)]
    refine bind_to p ?_
    rw [if_neg (by simp), if_neg (by simpa using h0)]
    unfold law_RewriteNormal_J6 law_RewriteNormal_J7
    rw [if_neg (by simp), if_neg (by simpa using h0)]
    exact J11_bad h0

end Go.Proofs.Ytkpdmblcemabkaa.rewriteNormalW
