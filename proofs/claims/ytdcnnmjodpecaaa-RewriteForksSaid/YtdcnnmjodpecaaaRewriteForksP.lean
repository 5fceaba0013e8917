/- The law 'RewriteForks' of the plain functions. -/
import Derived.Test.YtdcnnmjodpecaaaRewriteForksD
set_option maxHeartbeats 1000000
set_option maxRecDepth 20000
set_option linter.unusedSimpArgs false
set_option linter.unusedVariables false
set_option linter.unusedSectionVars false
namespace Go.Proofs.Ytdcnnmjodpecaaa.rewriteForksW
open Go Go.Ab
/-- The answer is yes just if P. -/
def Tells (o : Option Bool) (P : Prop) : Prop := ∃ b, o = some b ∧ (b = true ↔ P)
theorem Tells.of {b : Bool} {P : Prop} (h : b = true ↔ P) : Tells (some b) P := ⟨b, rfl, h⟩
theorem Tells.dec {P Q : Prop} [Decidable P] (h : P ↔ Q) : Tells (some (decide P)) Q := ⟨_, rfl, by simpa using h⟩
theorem Tells.iff {o : Option Bool} {P Q : Prop} (h : Tells o P) (k : P ↔ Q) : Tells o Q := let ⟨b, h1, h2⟩ := h; ⟨b, h1, h2.trans k⟩
theorem Tells.eq {o : Option Bool} {P : Prop} [Decidable P] (h : Tells o P) : o = some (decide P) := by
  obtain ⟨b, rfl, hb⟩ := h
  by_cases hp : P
  · simp [hp, hb.2 hp]
  · have : b = false := by cases b; rfl; exact absurd (hb.1 rfl) hp
    simp [hp, this]
theorem Tells.to {R : Type} {o : Option Bool} {P : Prop} {k1 k2 x : Option R} (h : Tells o P) (h1 : P → k1 = x) (h2 : ¬ P → k2 = x) : (o.bind fun y => if y = true then k1 else k2) = x := by
  obtain ⟨b, rfl, hb⟩ := h
  refine bind_to rfl ?_
  cases b
  · exact h2 fun hp => by simpa using hb.2 hp
  · exact h1 (hb.1 rfl)
theorem Tells.bind {R : Type} {o : Option Bool} {P : Prop} {k : Bool → Option R} {x : Option R} (h : Tells o P) (h1 : ∀ b, (b = true ↔ P) → k b = x) : o.bind k = x := by
  obtain ⟨b, rfl, hb⟩ := h
  exact h1 b hb
section
variable {α C : Type} [Inhabited α]
theorem ex_ix {l : List α} {P : α → Prop} : (∃ x ∈ l, P x) ↔ ∃ i : Int, 0 ≤ i ∧ i < l.length ∧ P (ix l i) := by
  constructor
  · rintro ⟨x, hx, hp⟩
    obtain ⟨i, hi, rfl⟩ := List.mem_iff_getElem.1 hx
    refine ⟨i, by omega, by omega, ?_⟩
    rwa [ix_eq (by omega) (by omega)]
  · rintro ⟨i, h0, h1, hp⟩
    exact ⟨_, ix_mem h0 h1, hp⟩
theorem index_loop {s : List α} {f : α → Option Bool} {L : Int → Option Int} {P : α → Prop} (hs : s.length ≤ 4611686018427387904)
    (hL : ∀ t, L t = if decide (t < (s.length : Int)) = true then G (0 ≤ t ∧ t < (s.length : Int)) ((f (ix s t)).bind fun y => if y = true then some t else G (fits (t + 1)) (L (t + 1))) else some (-1))
    (hf : ∀ x ∈ s, Tells (f x) (P x)) : ∀ (n : Nat) (t : Int), 0 ≤ t → t ≤ s.length → (s.length - t).toNat = n →
      ∃ i, L t = some i ∧ ((i = -1 ∧ ∀ j : Int, t ≤ j → j < s.length → ¬ P (ix s j)) ∨ (t ≤ i ∧ i < s.length ∧ P (ix s i) ∧ ∀ j : Int, t ≤ j → j < i → ¬ P (ix s j))) := by
  intro n
  induction n with
  | zero =>
    intro t h0 h1 hn
    refine ⟨-1, ?_, .inl ⟨rfl, fun j a b => by omega⟩⟩
    rw [hL, if_neg (by simp; omega)]
  | succ n ih =>
    intro t h0 h1 hn
    rw [hL, if_pos (by simp; omega), G_pos (by omega)]
    obtain ⟨b, hb, hbp⟩ := hf _ (ix_mem h0 (by omega : t < s.length))
    rw [hb]
    cases b with
    | true => exact ⟨t, rfl, .inr ⟨by omega, by omega, hbp.1 rfl, fun j a b => by omega⟩⟩
    | false =>
      have hnp : ¬ P (ix s t) := fun hp => by simpa using hbp.2 hp
      obtain ⟨i, hi, hc⟩ := ih (t + 1) (by omega) (by omega) (by omega)
      refine ⟨i, ?_, ?_⟩
      · refine (if_neg (by simp) : (if false = true then some t else G (fits (t + 1)) (L (t + 1))) = _).trans ?_
        rw [G_pos (by unfold fits; omega), hi]
      · rcases hc with ⟨h2, h3⟩ | ⟨h2, h3, h4, h5⟩
        · refine .inl ⟨h2, fun j a b => ?_⟩
          by_cases e : j = t
          · rw [e]; exact hnp
          · exact h3 j (by omega) b
        · refine .inr ⟨by omega, h3, h4, fun j a b => ?_⟩
          by_cases e : j = t
          · rw [e]; exact hnp
          · exact h5 j (by omega) b
theorem contains_tells {s : List α} {f : α → Option Bool} {L : Int → Option Int} {P : α → Prop}
    (hL : ∀ t, L t = if decide (t < (s.length : Int)) = true then G (0 ≤ t ∧ t < (s.length : Int)) ((f (ix s t)).bind fun y => if y = true then some t else G (fits (t + 1)) (L (t + 1))) else some (-1))
    (hs : s.length ≤ 4611686018427387904) (hf : ∀ x ∈ s, Tells (f x) (P x)) : Tells ((L 0).bind fun y => some (decide ((0 : Int) ≤ y))) (∃ x ∈ s, P x) := by
  obtain ⟨i, hi, hc⟩ := index_loop hs hL hf _ 0 (by omega) (by omega) rfl
  rw [hi]
  refine ⟨decide (0 ≤ i), rfl, ?_⟩
  rw [decide_eq_true_iff, ex_ix]
  rcases hc with ⟨h2, h3⟩ | ⟨h2, h3, h4, h5⟩
  · constructor
    · intro h; omega
    · rintro ⟨j, h0, h1, hp⟩; exact absurd hp (h3 j h0 h1)
  · exact ⟨fun _ => ⟨i, by omega, h3, h4⟩, fun _ => by omega⟩
/-- .. of what carries along what it reads. -/
theorem contains_tells2 {s : List α} {c : C} {f : α → C → Option (Bool × C)} {L : Int → C → Option (Int × C)} {P : α → Prop}
    (hL : ∀ t c, L t c = if decide (t < (s.length : Int)) = true then G (0 ≤ t ∧ t < (s.length : Int)) ((f (ix s t) c).bind fun y => if y.1 = true then some (t, y.2) else G (fits (t + 1)) (L (t + 1) y.2)) else some (-1, c))
    (hs : s.length ≤ 4611686018427387904) (hf : ∀ x ∈ s, ∃ b, f x c = some (b, c) ∧ (b = true ↔ P x)) : ∃ b, ((L 0 c).bind fun y => some (decide ((0 : Int) ≤ y.1), y.2)) = some (b, c) ∧ (b = true ↔ ∃ x ∈ s, P x) := by
  have key : ∀ (n : Nat) (t : Int), 0 ≤ t → t ≤ s.length → (s.length - t).toNat = n →
      ∃ i, L t c = some (i, c) ∧ ((i = -1 ∧ ∀ j : Int, t ≤ j → j < s.length → ¬ P (ix s j)) ∨ (t ≤ i ∧ i < s.length ∧ P (ix s i))) := by
    intro n
    induction n with
    | zero =>
      intro t h0 h1 hn
      refine ⟨-1, ?_, .inl ⟨rfl, fun j a b => by omega⟩⟩
      rw [hL, if_neg (by simp; omega)]
    | succ n ih =>
      intro t h0 h1 hn
      rw [hL, if_pos (by simp; omega), G_pos (by omega)]
      obtain ⟨b, hb, hbp⟩ := hf _ (ix_mem h0 (by omega : t < s.length))
      rw [hb]
      cases b with
      | true => exact ⟨t, rfl, .inr ⟨by omega, by omega, hbp.1 rfl⟩⟩
      | false =>
        have hnp : ¬ P (ix s t) := fun hp => by simpa using hbp.2 hp
        obtain ⟨i, hi, hc⟩ := ih (t + 1) (by omega) (by omega) (by omega)
        refine ⟨i, ?_, ?_⟩
        · refine (if_neg (by simp) : (if false = true then some (t, c) else G (fits (t + 1)) (L (t + 1) c)) = _).trans ?_
          rw [G_pos (by unfold fits; omega), hi]
        · rcases hc with ⟨h2, h3⟩ | ⟨h2, h3, h4⟩
          · refine .inl ⟨h2, fun j a b => ?_⟩
            by_cases e : j = t
            · rw [e]; exact hnp
            · exact h3 j (by omega) b
          · exact .inr ⟨by omega, h3, h4⟩
  obtain ⟨i, hi, hc⟩ := key _ 0 (by omega) (by omega) rfl
  rw [hi]
  refine ⟨decide (0 ≤ i), rfl, ?_⟩
  rw [decide_eq_true_iff, ex_ix]
  rcases hc with ⟨h2, h3⟩ | ⟨h2, h3, h4⟩
  · constructor
    · intro h; omega
    · rintro ⟨j, h0, h1, hp⟩; exact absurd hp (h3 j h0 h1)
  · exact ⟨fun _ => ⟨i, by omega, h3, h4⟩, fun _ => by omega⟩
end
/-- A loop that looks for the first fault. -/
theorem scan_to {R : Type} {len : Int} {L : Int → Option R} {bad : Int → Prop} {x : Option R} {lo : Int} (h0 : lo ≤ len)
    (hs : ∀ t, lo ≤ t → t < len → (bad t → L t = x) ∧ (¬ bad t → L t = L (t + 1))) (hf : (∀ t, lo ≤ t → t < len → ¬ bad t) → L len = x) : L lo = x := by
  have key : ∀ (n : Nat) (t : Int), lo ≤ t → t ≤ len → (len - t).toNat = n → (∀ j, lo ≤ j → j < t → ¬ bad j) → L t = x := by
    intro n
    induction n with
    | zero =>
      intro t h1 h2 hn h
      obtain rfl : t = len := by omega
      exact hf h
    | succ n ih =>
      intro t h1 h2 hn h
      by_cases hb : bad t
      · exact (hs t h1 (by omega)).1 hb
      · rw [(hs t h1 (by omega)).2 hb]
        refine ih (t + 1) (by omega) (by omega) (by omega) fun j a b => ?_
        by_cases e : j = t
        · rw [e]; exact hb
        · exact h j a (by omega)
  exact key _ lo (Int.le_refl _) h0 rfl (fun j a b => by omega)
/-- A loop that counts, with a state. -/
theorem fold_to {R S : Type} {len : Int} {L : Int → S → Option R} {f : Int → S → S} {lo : Int} {I : Int → S → Prop} {s : S} (h0 : lo ≤ len) (hI : I lo s)
    (hs : ∀ t s, lo ≤ t → t < len → I t s → L t s = L (t + 1) (f t s) ∧ I (t + 1) (f t s)) : ∃ s', I len s' ∧ L lo s = L len s' := by
  have key : ∀ (n : Nat) (t : Int) (s : S), lo ≤ t → t ≤ len → (len - t).toNat = n → I t s → ∃ s', I len s' ∧ L t s = L len s' := by
    intro n
    induction n with
    | zero =>
      intro t s h1 h2 hn h
      obtain rfl : t = len := by omega
      exact ⟨s, h, rfl⟩
    | succ n ih =>
      intro t s h1 h2 hn h
      obtain ⟨e, h3⟩ := hs t s h1 (by omega) h
      obtain ⟨s', h4, h5⟩ := ih (t + 1) _ (by omega) (by omega) (by omega) h3
      exact ⟨s', h4, e.trans h5⟩
  exact key _ lo s (Int.le_refl _) h0 rfl hI

theorem r1_Words_L4_spec {a b : List Int} (hl : a.length = b.length) : ∀ (n : Nat) (i : Int), 0 ≤ i → i ≤ a.length → (a.length - i).toNat = n → a.length ≤ 2305843009213693951 → (∀ j : Int, 0 ≤ j → j < i → ix a j = ix b j) → r1_Words_L4 a b i = some (decide (a = b)) := by
  intro n
  induction n with
  | zero =>
    intro i h0 h1 hn hs h
    rw [r1_Words_L4_eq]; unfold r1_Words_L4_B
    (try dsimp only); (repeat' first | (with_reducible refine G_to ?_ ?_; focus (first | omega | (unfold fits; omega) | (unfold room; (try simp only [List.length_append, List.length_cons, List.length_nil]); omega))) | (with_reducible refine both_to ?_ ?_) | (with_reducible refine itet_to ?_) | (with_reducible refine itef_to ?_) | (with_reducible refine ite_to (fun _ => ?_) (fun _ => ?_))) <;> try (exfalso; omega)
    · rw [Option.some_inj, eq_comm, decide_eq_true_iff]; exact ix_ext hl (fun j a b => h j a (by omega))
  | succ n ih =>
    intro i h0 h1 hn hs h
    rw [r1_Words_L4_eq]; unfold r1_Words_L4_B
    (try dsimp only); (repeat' first | (with_reducible refine G_to ?_ ?_; focus (first | omega | (unfold fits; omega) | (unfold room; (try simp only [List.length_append, List.length_cons, List.length_nil]); omega))) | (with_reducible refine both_to ?_ ?_) | (with_reducible refine itet_to ?_) | (with_reducible refine itef_to ?_) | (with_reducible refine ite_to (fun _ => ?_) (fun _ => ?_))) <;> try (exfalso; omega)
    · rw [Option.some_inj, eq_comm, decide_eq_false_iff_not]; rintro rfl; contradiction
    · rename_i hx; exact ih _ (by omega) (by omega) (by omega) hs (below_succ h (Decidable.not_not.1 hx))
theorem r1_Words_spec {a b : List Int} (hs : a.length ≤ 2305843009213693951) : r1_Words a b = some (decide (a = b)) := by
  unfold r1_Words
  (try dsimp only); (repeat' first | (with_reducible refine G_to ?_ ?_; focus (first | omega | (unfold fits; omega) | (unfold room; (try simp only [List.length_append, List.length_cons, List.length_nil]); omega))) | (with_reducible refine both_to ?_ ?_) | (with_reducible refine itet_to ?_) | (with_reducible refine itef_to ?_) | (with_reducible refine ite_to (fun _ => ?_) (fun _ => ?_))) <;> try (exfalso; omega)
  · rw [Option.some_inj, eq_comm, decide_eq_false_iff_not]; rintro rfl; contradiction
  · exact r1_Words_L4_spec (by omega) _ 0 (by omega) (by omega) rfl hs (fun j a b => by omega)

theorem slices_Clone_spec {s : List Int} (hs : s.length * 8 ≤ 140737488355328) : slices_Clone s = some s := by
  have hr : G (room ([] : List Int) s 8) (some (([] : List Int) ++ s)) = some s := by
    rw [G_pos (room_of (by simpa using hs))]; rfl
  unfold slices_Clone
  refine itep_to (fun h => ?_) (fun h => hr)
  obtain rfl : s = [] := List.length_eq_zero_iff.1 h
  rw [hr]; exact both_self (ts := [(.list (.int .i64))]) (some ([] : List Int))

theorem slices_Grow_spec {n : Int} (h0 : 0 ≤ n) (h : n * 8 ≤ 140737488355328) : slices_Grow n = some [] := by
  unfold slices_Grow
  (try dsimp only); (repeat' first | (with_reducible refine G_to ?_ ?_; focus (first | omega | (unfold fits; omega) | (unfold room; (try simp only [List.length_append, List.length_cons, List.length_nil]); omega))) | (with_reducible refine both_to ?_ ?_) | (with_reducible refine itet_to ?_) | (with_reducible refine itef_to ?_) | (with_reducible refine ite_to (fun _ => ?_) (fun _ => ?_))) <;> try (exfalso; omega)
  all_goals first | rfl | (rw [show ((0 : Int)).toNat = 0 from rfl, List.take_zero])
theorem slices_Concat_spec {ls : List (List Int)} (h : ls.length ≤ 1000) (hl : (ls.flatten.length : Int) * 8 ≤ 140737488355328) : slices_Concat ls = some ls.flatten := by
  have sum : ∀ (k : Nat), ((ls.take k).flatten.length : Int) ≤ ls.flatten.length := by
    intro k
    have : ls.flatten = (ls.take k).flatten ++ (ls.drop k).flatten := by rw [← List.flatten_append, List.take_append_drop]
    rw [this, List.length_append]; omega
  have tk : ∀ t : Int, 0 ≤ t → t < ls.length → (ls.take (t + 1).toNat).flatten = (ls.take t.toNat).flatten ++ ix ls t := fun t h0 h1 => by
    rw [ix_take h0 h1, List.flatten_append]; simp
  unfold slices_Concat
  have k2 : ∀ (n : Nat) (t : Int), (ls.length - t).toNat = n → 0 ≤ t → t ≤ ls.length → slices_Concat_L11 ls t (ls.take t.toNat).flatten = some ls.flatten := by
    intro n
    induction n with
    | zero =>
      intro t hn h0 h1
      rw [slices_Concat_L11_eq]; unfold slices_Concat_L11_B
      rw [List.take_of_length_le (by omega), if_neg (by simp only [decide_eq_true_eq]; omega)]
    | succ n ih =>
      intro t hn h0 h1
      have e := tk t h0 (by omega)
      have s := sum (t + 1).toNat
      rw [e, List.length_append] at s
      rw [slices_Concat_L11_eq]; unfold slices_Concat_L11_B
      (try dsimp only); (repeat' first | (with_reducible refine G_to ?_ ?_; focus (first | omega | (unfold fits; omega) | (unfold room; (try simp only [List.length_append, List.length_cons, List.length_nil]); omega))) | (with_reducible refine both_to ?_ ?_) | (with_reducible refine itet_to ?_) | (with_reducible refine itef_to ?_) | (with_reducible refine ite_to (fun _ => ?_) (fun _ => ?_))) <;> try (exfalso; omega)
      rw [← e]
      exact ih (t + 1) (by omega) (by omega) (by omega)
  have k1 : ∀ (n : Nat) (t : Int), (ls.length - t).toNat = n → 0 ≤ t → t ≤ ls.length → slices_Concat_L3 ls ((ls.take t.toNat).flatten.length : Int) t = some ls.flatten := by
    intro n
    induction n with
    | zero =>
      intro t hn h0 h1
      rw [slices_Concat_L3_eq]; unfold slices_Concat_L3_B
      rw [List.take_of_length_le (by omega), if_neg (by simp only [decide_eq_true_eq]; omega)]
      refine bind_to (slices_Grow_spec (by omega) hl) ?_
      have := k2 _ 0 rfl (by omega) (by omega)
      simpa using this
    | succ n ih =>
      intro t hn h0 h1
      have e := tk t h0 (by omega)
      have s := sum (t + 1).toNat
      have ih' := ih (t + 1) (by omega) (by omega) (by omega)
      rw [e, List.length_append] at s ih'
      rw [slices_Concat_L3_eq]; unfold slices_Concat_L3_B
      (try dsimp only); (repeat' first | (with_reducible refine G_to ?_ ?_; focus (first | omega | (unfold fits; omega) | (unfold room; (try simp only [List.length_append, List.length_cons, List.length_nil]); omega))) | (with_reducible refine both_to ?_ ?_) | (with_reducible refine itet_to ?_) | (with_reducible refine itef_to ?_) | (with_reducible refine ite_to (fun _ => ?_) (fun _ => ?_))) <;> try (exfalso; omega)
      rw [← ih']; congr 1
  have := k1 _ 0 rfl (by omega) (by omega)
  simpa using this

abbrev Sw := (List Int) × (List Int) × Unit
/- words in their order -/
def lexB : List Int → List Int → Bool
  | [], _ => false
  | _, [] => false
  | x :: a, y :: b => if x = y then lexB a b else decide (x < y)
def bef (a b : List Int) : Bool := if (a.length : Int) = b.length then lexB a b else decide ((a.length : Int) < b.length)
theorem cmp_spec (x y : Int) : ∃ o, cmp_Compare x y = some o ∧ (o = 0 ↔ x = y) ∧ (o < 0 ↔ x < y) := by
  unfold cmp_Compare cmp_isNaN
  simp only [Option.bind_some, not_true, decide_false, Bool.false_eq_true, if_false, decide_eq_true_eq]
  by_cases h : x < y
  · exact ⟨-1, by simp [h], by omega, by omega⟩
  · by_cases h2 : y < x
    · exact ⟨1, by simp [h, h2], by omega, by omega⟩
    · exact ⟨0, by simp [h, h2], by omega, by omega⟩
theorem before_spec {a b : List Int} (ha : a.length ≤ 1000) : rewrite_before a b = some (bef a b) := by
  unfold rewrite_before bef
  by_cases hl : (a.length : Int) = b.length
  · rw [if_neg (by simpa using hl), if_pos hl]
    have key : ∀ (n : Nat) (t : Int), (a.length - t).toNat = n → 0 ≤ t → t ≤ a.length → ∃ o, slices_Compare_L2 a b t = some o ∧ decide (o < 0) = lexB (a.drop t.toNat) (b.drop t.toNat) := by
      intro n
      induction n with
      | zero =>
        intro t hn t0 t1
        refine ⟨0, ?_, ?_⟩
        · rw [slices_Compare_L2_eq]; unfold slices_Compare_L2_B
          rw [if_neg (by simp; omega), if_neg (by simp; omega)]
        · rw [List.drop_of_length_le (by omega)]; rfl
      | succ n ih =>
        intro t hn t0 t1
        obtain ⟨o, o1, o2, o3⟩ := cmp_spec (ix a t) (ix b t)
        rw [ix_drop t0 (by omega : t < a.length), ix_drop t0 (by omega : t < b.length)]
        unfold lexB
        by_cases e : ix a t = ix b t
        · obtain ⟨o', z1, z2⟩ := ih (t + 1) (by omega) (by omega) (by omega)
          refine ⟨o', ?_, ?_⟩
          · rw [slices_Compare_L2_eq]; unfold slices_Compare_L2_B
            rw [if_pos (by simp; omega)]
            refine G_to (by omega) ?_
            rw [if_neg (by simp; omega)]
            refine G_to (by omega) (bind_to o1 ?_)
            rw [if_neg (by simpa using o2.2 e)]
            exact G_to (by unfold fits; omega) z1
          · rw [if_pos e]; exact z2
        · refine ⟨o, ?_, ?_⟩
          · rw [slices_Compare_L2_eq]; unfold slices_Compare_L2_B
            rw [if_pos (by simp; omega)]
            refine G_to (by omega) ?_
            rw [if_neg (by simp; omega)]
            refine G_to (by omega) (bind_to o1 ?_)
            rw [if_pos (by simpa using fun h => e (o2.1 h))]
          · rw [if_neg e, decide_eq_decide]; exact o3
    obtain ⟨o, z1, z2⟩ := key _ 0 rfl (by omega) (by omega)
    unfold slices_Compare
    refine bind_to z1 ?_
    rw [z2]; rfl
  · rw [if_pos (by simpa using hl), if_neg hl]
theorem Before_spec {a b : List Int} (ha : a.length ≤ 1000) : r1_Before a b = some (bef a b) := by
  unfold r1_Before bef
  by_cases hl : (a.length : Int) = b.length
  · rw [if_neg (by simpa using hl), if_pos hl]
    have key : ∀ (n : Nat) (t : Int), (a.length - t).toNat = n → 0 ≤ t → t ≤ a.length → r1_Before_L4 a b t = some (lexB (a.drop t.toNat) (b.drop t.toNat)) := by
      intro n
      induction n with
      | zero =>
        intro t hn t0 t1
        rw [r1_Before_L4_eq]; unfold r1_Before_L4_B
        rw [if_neg (by simp; omega), List.drop_of_length_le (by omega)]; rfl
      | succ n ih =>
        intro t hn t0 t1
        rw [ix_drop t0 (by omega : t < a.length), ix_drop t0 (by omega : t < b.length)]
        unfold lexB
        rw [r1_Before_L4_eq]; unfold r1_Before_L4_B
        rw [if_pos (by simp; omega)]
        refine G_to (by omega) (G_to (by omega) ?_)
        by_cases e : ix a t = ix b t
        · rw [if_neg (by simpa using e), if_pos e]
          exact G_to (by unfold fits; omega) (ih (t + 1) (by omega) (by omega) (by omega))
        · rw [if_pos (by simpa using e), if_neg e]
          exact G_to (by omega) (G_to (by omega) rfl)
    exact key _ 0 rfl (by omega) (by omega)
  · rw [if_pos (by simpa using hl), if_neg hl]
theorem Equal_spec {a b : List Int} (ha : a.length ≤ 1000) : slices_Equal a b = some (decide (a = b)) := by
  unfold slices_Equal
  by_cases hl : (a.length : Int) = b.length
  · rw [if_neg (by simpa using hl)]
    refine scan_to (len := (a.length : Int)) (bad := fun t => ix a t ≠ ix b t) (lo := 0) (by omega) (fun t t0 t1 => ⟨fun hb => ?_, fun hb => ?_⟩) (fun hh => ?_)
    · rw [slices_Equal_L4_eq]; unfold slices_Equal_L4_B
      rw [if_pos (by simp; omega)]
      refine G_to (by omega) (G_to (by omega) ?_)
      rw [if_pos (by simpa using hb), decide_eq_false (fun e => hb (by rw [e]))]
    · conv => lhs; rw [slices_Equal_L4_eq]; unfold slices_Equal_L4_B
      rw [if_pos (by simp; omega)]
      refine G_to (by omega) (G_to (by omega) ?_)
      rw [if_neg (by simpa using hb)]
      exact G_to (by unfold fits; omega) rfl
    · rw [slices_Equal_L4_eq]; unfold slices_Equal_L4_B
      rw [if_neg (by simp), decide_eq_true (ix_ext (by omega) fun t t0 t1 => Decidable.not_not.1 (hh t t0 t1))]
  · rw [if_pos (by simpa using hl), decide_eq_false (fun e => hl (by rw [e]))]
/- rules -/
def NoL (n : Int) (w : List Int) : Prop := ∃ a ∈ w, a < 0 ∨ n ≤ a
open Classical in
noncomputable def swE (n : Int) (s : Sw) : Int := if (s.1.length : Int) < 1 ∨ (5 : Int) < s.1.length ∨ (5 : Int) < s.2.1.length then 1 else if NoL n s.1 ∨ NoL n s.2.1 then 2 else if bef s.2.1 s.1 = true then 0 else 3
noncomputable def chk (n : Int) : List Sw → Int
  | [] => 0
  | s :: l => if swE n s = 0 then chk n l else swE n s
noncomputable def rwE (n : Int) (l : List Sw) : Int := if n < 1 ∨ 4 < n then 2 else if (8 : Int) < l.length then 1 else chk n l
theorem no_tells {n a : Int} : Tells (rewrite_Check_1 a n) (a < 0 ∨ n ≤ a) := by
  unfold rewrite_Check_1
  by_cases h : a < 0
  · rw [if_pos (decide_eq_true h)]; exact Tells.of (by simp [h])
  · rw [if_neg (by simpa using h)]; exact Tells.dec (by omega)
theorem letters_tells {n : Int} {w : List Int} (hw : w.length ≤ 1000) : Tells (r29_letters w n) (¬ NoL n w) := by
  unfold r29_letters
  have sc : ∀ x : Option Bool, (∀ t : Int, 0 ≤ t → t < w.length → (ix w t < 0 ∨ n ≤ ix w t) → some false = x) → ((∀ t : Int, 0 ≤ t → t < w.length → ¬ (ix w t < 0 ∨ n ≤ ix w t)) → some true = x) → r29_letters_L2 w n 0 = x := fun x h1 h2 => by
    refine scan_to (len := (w.length : Int)) (bad := fun t => ix w t < 0 ∨ n ≤ ix w t) (lo := 0) (by omega) (fun t t0 t1 => ⟨fun hb => ?_, fun hb => ?_⟩) (fun hh => ?_)
    · rw [r29_letters_L2_eq]; unfold r29_letters_L2_B
      rw [if_pos (by simp; omega), ← h1 t t0 t1 hb]
      refine G_to (by omega) ?_
      by_cases c : ix w t < 0
      · rw [if_pos (decide_eq_true c)]
      · rw [if_neg (by simpa using c)]
        refine G_to (by omega) ?_
        rw [if_pos (by simp; omega)]
    · conv => lhs; rw [r29_letters_L2_eq]; unfold r29_letters_L2_B
      rw [if_pos (by simp; omega)]
      refine G_to (by omega) ?_
      rw [if_neg (by simp; omega)]
      refine G_to (by omega) ?_
      rw [if_neg (by simp; omega)]
      exact G_to (by unfold fits; omega) rfl
    · rw [r29_letters_L2_eq]; unfold r29_letters_L2_B
      rw [if_neg (by simp)]; exact h2 hh
  by_cases hN : NoL n w
  · refine ⟨false, sc _ (fun _ _ _ _ => rfl) (fun h => ?_), by simp [hN]⟩
    obtain ⟨i, i0, i1, hi⟩ := ex_ix.1 hN
    exact absurd hi (h i i0 i1)
  · exact ⟨true, sc _ (fun t t0 t1 hb => absurd (ex_ix.2 ⟨t, t0, t1, hb⟩) hN) (fun _ => rfl), by simp [hN]⟩
open Classical in
theorem swE_b {n : Int} {s : Sw} (h : ¬ ((s.1.length : Int) < 1 ∨ (5 : Int) < s.1.length ∨ (5 : Int) < s.2.1.length)) : swE n s = if NoL n s.1 ∨ NoL n s.2.1 then 2 else if bef s.2.1 s.1 = true then 0 else 3 := by unfold swE; rw [if_neg h]
theorem contains_no {n : Int} {w : List Int} (hw : w.length ≤ 1000) : Tells (slices_ContainsFunc w n) (NoL n w) :=
  contains_tells (f := fun a => rewrite_Check_1 a n) (slices_IndexFunc_L2_eq w n) (by omega) (fun _ _ => no_tells)
theorem Check_L7 {n : Int} {l : List Sw} (hl : l.length ≤ 8) : ∀ (m : Nat) (t : Int), (l.length - t).toNat = m → 0 ≤ t → t ≤ l.length → rewrite_Check_L7 n l t = some (chk n (l.drop t.toNat)) := by
  intro m
  induction m with
  | zero =>
    intro t hm t0 t1
    rw [rewrite_Check_L7_eq]; unfold rewrite_Check_L7_B
    rw [if_neg (by simp; omega), List.drop_of_length_le (by omega)]; rfl
  | succ m ih =>
    intro t hm t0 t1
    rw [ix_drop t0 (by omega : t < l.length), rewrite_Check_L7_eq]; unfold rewrite_Check_L7_B chk
    rw [if_pos (by simp; omega)]
    refine G_to (by omega) ?_
    generalize hs : ix l t = s
    by_cases c : (s.1.length : Int) < 1 ∨ (5 : Int) < s.1.length ∨ (5 : Int) < s.2.1.length
    · have e : swE n s = 1 := by unfold swE; rw [if_pos c]
      rw [show (if swE n s = 0 then chk n (l.drop (t + 1).toNat) else swE n s) = 1 by rw [e, if_neg (by omega)]]
      by_cases c1 : (s.1.length : Int) < 1
      · rw [if_pos (decide_eq_true c1)]
      rw [if_neg (by simpa using c1)]
      by_cases c2 : (5 : Int) < s.1.length
      · rw [if_pos (decide_eq_true c2)]
      rw [if_neg (by simpa using c2), if_pos (by simp; omega)]
    · rw [if_neg (by simp; omega), if_neg (by simp; omega), if_neg (by simp; omega)]
      have sw := swE_b (n := n) c
      refine (contains_no (by omega)).to (fun h => ?_) (fun h1 => ?_)
      · rw [if_pos (.inl h)] at sw
        rw [sw, if_neg (by omega)]
      refine (contains_no (by omega)).to (fun h => ?_) (fun h2 => ?_)
      · rw [if_pos (.inr h)] at sw
        rw [sw, if_neg (by omega)]
      rw [if_neg (fun hh => hh.elim h1 h2)] at sw
      refine bind_to (before_spec (by omega)) ?_
      by_cases c3 : bef s.2.1 s.1 = true
      · rw [if_pos c3] at sw
        rw [if_neg (by simpa using c3), sw, if_pos rfl]
        exact G_to (by unfold fits; omega) (ih (t + 1) (by omega) (by omega) (by omega))
      · rw [if_neg c3] at sw
        rw [if_pos (by simpa using c3), sw, if_neg (by omega)]
theorem Check_spec {n : Int} {l : List Sw} : rewrite_Check n l = some (rwE n l) := by
  unfold rewrite_Check rwE
  by_cases c : n < 1 ∨ 4 < n
  · rw [if_pos c]
    by_cases c1 : n < 1
    · rw [if_pos (decide_eq_true c1)]
    · rw [if_neg (by simpa using c1), if_pos (by simp; omega)]
  · rw [if_neg c, if_neg (by simp; omega), if_neg (by simp; omega)]
    by_cases c2 : (8 : Int) < l.length
    · rw [if_pos (decide_eq_true c2), if_pos c2]
    · rw [if_neg (by simpa using c2), if_neg c2]
      exact Check_L7 (by omega) _ 0 rfl (by omega) (by omega)
theorem rCheck_L6 {n : Int} {l : List Sw} (hl : l.length ≤ 8) : ∀ (m : Nat) (t : Int), (l.length - t).toNat = m → 0 ≤ t → t ≤ l.length → r29_Check_L6 n l t = some (chk n (l.drop t.toNat)) := by
  intro m
  induction m with
  | zero =>
    intro t hm t0 t1
    rw [r29_Check_L6_eq]; unfold r29_Check_L6_B
    rw [if_neg (by simp; omega), List.drop_of_length_le (by omega)]; rfl
  | succ m ih =>
    intro t hm t0 t1
    rw [ix_drop t0 (by omega : t < l.length), r29_Check_L6_eq]; unfold r29_Check_L6_B chk
    rw [if_pos (by simp; omega)]
    refine G_to (by omega) ?_
    generalize hs : ix l t = s
    by_cases c : (s.1.length : Int) < 1 ∨ (5 : Int) < s.1.length ∨ (5 : Int) < s.2.1.length
    · have e : swE n s = 1 := by unfold swE; rw [if_pos c]
      rw [show (if swE n s = 0 then chk n (l.drop (t + 1).toNat) else swE n s) = 1 by rw [e, if_neg (by omega)]]
      by_cases c1 : (s.1.length : Int) < 1
      · rw [if_pos (decide_eq_true c1)]
      rw [if_neg (by simpa using c1)]
      by_cases c2 : (5 : Int) < s.1.length
      · rw [if_pos (decide_eq_true c2)]
      rw [if_neg (by simpa using c2), if_pos (by simp; omega)]
    · rw [if_neg (by simp; omega), if_neg (by simp; omega), if_neg (by simp; omega)]
      have sw := swE_b (n := n) c
      refine (letters_tells (by omega)).bind (fun b1 h1 => ?_)
      refine (letters_tells (by omega)).bind (fun b2 h2 => ?_)
      by_cases d1 : NoL n s.1
      · have : b1 = false := by simpa [d1] using h1
        rw [if_pos (.inl d1)] at sw
        rw [this, sw, if_neg (by omega : ¬ (2 : Int) = 0), if_pos (by simp)]
      have e1 : b1 = true := by simpa [d1] using h1
      by_cases d2 : NoL n s.2.1
      · have : b2 = false := by simpa [d2] using h2
        rw [if_pos (.inr d2)] at sw
        rw [this, e1, sw, if_neg (by omega : ¬ (2 : Int) = 0), if_neg (by simp), if_pos (by simp)]
      have e2 : b2 = true := by simpa [d2] using h2
      rw [if_neg (fun hh => hh.elim d1 d2)] at sw
      rw [e1, e2, if_neg (by simp), if_neg (by simp)]
      refine bind_to (Before_spec (by omega)) ?_
      by_cases c3 : bef s.2.1 s.1 = true
      · rw [if_pos c3] at sw
        rw [if_neg (by simpa using c3), sw, if_pos rfl]
        exact G_to (by unfold fits; omega) (ih (t + 1) (by omega) (by omega) (by omega))
      · rw [if_neg c3] at sw
        rw [if_pos (by simpa using c3), sw, if_neg (by omega)]
theorem rCheck_spec {n : Int} {l : List Sw} : r29_Check n l = some (rwE n l) := by
  unfold r29_Check rwE
  by_cases c : n < 1 ∨ 4 < n
  · rw [if_pos c]
    by_cases c1 : n < 1
    · rw [if_pos (decide_eq_true c1)]
    · rw [if_neg (by simpa using c1), if_pos (by simp; omega)]
  · rw [if_neg c, if_neg (by simp; omega), if_neg (by simp; omega)]
    by_cases c2 : (8 : Int) < l.length
    · rw [if_pos (decide_eq_true c2), if_pos c2]
    · rw [if_neg (by simpa using c2), if_neg c2]
      exact rCheck_L6 (by omega) _ 0 rfl (by omega) (by omega)
/- what words weigh -/
def val (w : List Int) : Int := w.foldl (fun r a => r * 5 + (a + 1)) 0
theorem val_fold (X : List Int) : ∀ r : Int, X.foldl (fun r a => r * 5 + (a + 1)) r = r * 5 ^ X.length + val X := by
  induction X with
  | nil => intro r; simp [val]
  | cons a X ih =>
    intro r
    unfold val
    rw [List.foldl_cons, List.foldl_cons, ih, ih, List.length_cons, Int.pow_succ, Int.zero_mul, Int.zero_add, Int.add_mul]
    have : r * 5 * 5 ^ X.length = r * (5 ^ X.length * 5) := by rw [Int.mul_assoc, Int.mul_comm 5]
    rw [this]; omega
theorem val_app (P X : List Int) : val (P ++ X) = val P * 5 ^ X.length + val X := by
  conv => lhs; unfold val
  rw [List.foldl_append, val_fold]; rfl
theorem val_cons (a : Int) (X : List Int) : val (a :: X) = (a + 1) * 5 ^ X.length + val X := by
  have := val_app [a] X
  simpa [val] using this
def Dg (w : List Int) : Prop := ∀ a ∈ w, 0 ≤ a ∧ a < 4
theorem pow5 (k : Nat) : (1 : Int) ≤ 5 ^ k := by
  induction k with
  | zero => simp
  | succ k ih => rw [Int.pow_succ]; omega
theorem val_b : ∀ {w : List Int}, Dg w → 5 ^ w.length ≤ 4 * val w + 1 ∧ val w + 1 ≤ 5 ^ w.length
  | [], _ => by simp [val]
  | a :: w, h => by
    have h1 := h a (by simp)
    have h2 := val_b (w := w) (fun b hb => h b (by simp [hb]))
    rw [val_cons, List.length_cons, Int.pow_succ]
    generalize (5 : Int) ^ w.length = p at *
    have hp : 1 ≤ p := by omega
    have e : a = 0 ∨ a = 1 ∨ a = 2 ∨ a = 3 := by omega
    rcases e with rfl | rfl | rfl | rfl <;> constructor <;> omega
theorem lexB_val : ∀ {a b : List Int}, a.length = b.length → Dg a → Dg b → lexB a b = true → val a < val b
  | [], [], _, _, _, h => by cases h
  | x :: a, y :: b, hl, ha, hb, h => by
    have hl' : a.length = b.length := by simpa using hl
    have h1 := ha x (by simp)
    have h2 := hb y (by simp)
    have ha' : Dg a := fun z hz => ha z (by simp [hz])
    have hb' : Dg b := fun z hz => hb z (by simp [hz])
    have va := val_b ha'
    have vb := val_b hb'
    rw [val_cons, val_cons, hl']
    unfold lexB at h
    by_cases e : x = y
    · rw [if_pos e] at h
      have := lexB_val hl' ha' hb' h
      rw [e]; omega
    · rw [if_neg e] at h
      have hlt : x < y := by simpa using h
      rw [hl'] at va
      generalize (5 : Int) ^ b.length = p at *
      have : (x + 1) * p + p ≤ (y + 1) * p := by
        have : (x + 1 + 1) * p ≤ (y + 1) * p := Int.mul_le_mul_of_nonneg_right (by omega) (by omega)
        rw [Int.add_mul (x + 1) 1 p] at this
        omega
      omega
theorem pow5_lt {a b : Nat} (h : a < b) : (5 : Int) ^ a * 5 ≤ 5 ^ b := by
  obtain ⟨k, rfl⟩ : ∃ k, b = a + 1 + k := ⟨b - a - 1, by omega⟩
  rw [Int.pow_add, Int.pow_succ]
  have h1 := pow5 k
  have h2 := pow5 a
  have : 5 ^ a * 5 * 1 ≤ (5 : Int) ^ a * 5 * 5 ^ k := Int.mul_le_mul_of_nonneg_left h1 (by omega)
  omega
theorem val_short {a b : List Int} (ha : Dg a) (hb : Dg b) (h : a.length < b.length) : val a < val b := by
  have va := val_b ha
  have vb := val_b hb
  have := pow5_lt h
  omega
theorem dg_app {a b : List Int} : Dg (a ++ b) ↔ Dg a ∧ Dg b := by
  unfold Dg
  constructor
  · intro h; exact ⟨fun x hx => h x (by simp [hx]), fun x hx => h x (by simp [hx])⟩
  · rintro ⟨h1, h2⟩ x hx
    rcases List.mem_append.1 hx with hx | hx
    · exact h1 x hx
    · exact h2 x hx
theorem swap_val {P F T S : List Int} (hP : Dg P) (hF : Dg F) (hT : Dg T) (hS : Dg S) (h : bef T F = true) : val (P ++ T ++ S) < val (P ++ F ++ S) ∧ T.length ≤ F.length := by
  unfold bef at h
  by_cases hl : (T.length : Int) = F.length
  · rw [if_pos hl] at h
    have := lexB_val (by omega) hT hF h
    refine ⟨?_, by omega⟩
    rw [val_app (P ++ T), val_app P T, val_app (P ++ F), val_app P F]
    have e : T.length = F.length := by omega
    rw [e]
    have : (val P * 5 ^ F.length + val T) * 5 ^ S.length < (val P * 5 ^ F.length + val F) * 5 ^ S.length := Int.mul_lt_mul_of_pos_right (by omega) (by have := pow5 S.length; omega)
    omega
  · rw [if_neg hl] at h
    have hlt : (T.length : Int) < F.length := by simpa using h
    refine ⟨val_short (dg_app.2 ⟨dg_app.2 ⟨hP, hT⟩, hS⟩) (dg_app.2 ⟨dg_app.2 ⟨hP, hF⟩, hS⟩) (by simp; omega), by omega⟩

/- one step -/
structure LOk (l : List Sw) : Prop where
  n : l.length ≤ 8
  s : ∀ s ∈ l, 1 ≤ s.1.length ∧ s.1.length ≤ 5 ∧ s.2.1.length ≤ 5 ∧ Dg s.1 ∧ Dg s.2.1 ∧ bef s.2.1 s.1 = true
theorem chk_let {n : Int} : ∀ {l : List Sw}, chk n l = 0 → ∀ s ∈ l, ¬ NoL n s.1
  | [], _, s, hs => by cases hs
  | x :: l, h, s, hs => by
    unfold chk at h
    by_cases c : swE n x = 0
    · rw [if_pos c] at h
      rcases List.mem_cons.1 hs with rfl | hs
      · by_cases d : (s.1.length : Int) < 1 ∨ (5 : Int) < s.1.length ∨ (5 : Int) < s.2.1.length
        · unfold swE at c; rw [if_pos d] at c; omega
        · rw [swE_b d] at c
          by_cases d2 : NoL n s.1 ∨ NoL n s.2.1
          · rw [if_pos d2] at c; omega
          · exact fun hh => d2 (.inl hh)
      · exact chk_let h s hs
    · rw [if_neg c] at h; exact absurd h c
theorem chk_zero {n : Int} (hn : n ≤ 4) : ∀ {l : List Sw}, chk n l = 0 → ∀ s ∈ l, 1 ≤ s.1.length ∧ s.1.length ≤ 5 ∧ s.2.1.length ≤ 5 ∧ Dg s.1 ∧ Dg s.2.1 ∧ bef s.2.1 s.1 = true
  | [], _, s, hs => by cases hs
  | x :: l, h, s, hs => by
    unfold chk at h
    by_cases c : swE n x = 0
    · rw [if_pos c] at h
      rcases List.mem_cons.1 hs with rfl | hs
      · by_cases d : (s.1.length : Int) < 1 ∨ (5 : Int) < s.1.length ∨ (5 : Int) < s.2.1.length
        · unfold swE at c; rw [if_pos d] at c; omega
        · rw [swE_b d] at c
          by_cases d2 : NoL n s.1 ∨ NoL n s.2.1
          · rw [if_pos d2] at c; omega
          · rw [if_neg d2] at c
            by_cases d3 : bef s.2.1 s.1 = true
            · have dg : ∀ w : List Int, ¬ NoL n w → Dg w := fun w hw a ha => by
                have : ¬ (a < 0 ∨ n ≤ a) := fun hh => hw ⟨a, ha, hh⟩
                omega
              exact ⟨by omega, by omega, by omega, dg _ (fun hh => d2 (.inl hh)), dg _ (fun hh => d2 (.inr hh)), d3⟩
            · rw [if_neg d3] at c; omega
      · exact chk_zero hn h s hs
    · rw [if_neg c] at h; exact absurd h c
structure WOk (w : List Int) : Prop where
  n : w.length ≤ 16
  d : Dg w
def Std (w v : List Int) (a : Int) : Prop := a + v.length ≤ w.length ∧ cut w a (a + v.length) = v
theorem stands_spec {w v : List Int} (hw : w.length ≤ 16) (hv : v.length ≤ 5) {a : Int} (a0 : 0 ≤ a) (a1 : a ≤ 16) : Tells (rewrite_stands w v a) (Std w v a) := by
  unfold rewrite_stands Std
  rw [G_pos (by unfold fits; omega)]
  by_cases c : a + (v.length : Int) ≤ w.length
  · rw [if_pos (decide_eq_true c), G_pos (by unfold fits; omega), G_pos (by omega)]
    have hl : (cut w a (a + v.length)).length ≤ 1000 := by
      have := cut_len (l := w) a0 (by omega : a ≤ a + (v.length : Int)) c
      omega
    rw [Equal_spec hl]
    exact ⟨_, rfl, by rw [decide_eq_true_iff]; exact ⟨fun h => ⟨c, h⟩, fun h => h.2⟩⟩
  · rw [if_neg (by simpa using c)]
    exact ⟨false, rfl, ⟨fun h => (by cases h), fun h => absurd h.1 c⟩⟩
theorem Stands_spec {w v : List Int} (hw : w.length ≤ 16) (hv : v.length ≤ 5) {a : Int} (a0 : 0 ≤ a) (a1 : a ≤ 16) : Tells (r29_Stands w v a) (Std w v a) := by
  unfold r29_Stands Std
  rw [G_pos (by unfold fits; omega)]
  by_cases c : (w.length : Int) < a + (v.length : Int)
  · rw [if_pos (decide_eq_true c)]
    exact ⟨false, rfl, ⟨fun h => (by cases h), fun h => absurd h.1 (by omega)⟩⟩
  · rw [if_neg (by simpa using c), G_pos (by unfold fits; omega), G_pos (by omega)]
    have hl : (cut w a (a + v.length)).length ≤ 2305843009213693951 := by
      have := cut_len (l := w) a0 (by omega : a ≤ a + (v.length : Int)) (by omega)
      omega
    rw [r1_Words_spec hl]
    exact ⟨_, rfl, by rw [decide_eq_true_iff]; exact ⟨fun h => ⟨by omega, h⟩, fun h => h.2⟩⟩
def swd (w : List Int) (s : Sw) (a : Int) : List Int := w.take a.toNat ++ s.2.1 ++ w.drop (a + s.1.length).toNat
theorem cut_drop {w : List Int} {a : Int} : cut w a w.length = w.drop a.toNat := by unfold cut; simp
theorem swapped_spec {w : List Int} {s : Sw} (hw : w.length ≤ 16) (h2 : s.2.1.length ≤ 5) {a : Int} (a0 : 0 ≤ a) (a1 : a + s.1.length ≤ w.length) : rewrite_swapped w (s.1, s.2.1, ()) a = some (swd w s a) := by
  unfold rewrite_swapped swd
  show G _ (G (fits (a + (s.1.length : Int))) (G (0 ≤ a + (s.1.length : Int) ∧ a + (s.1.length : Int) ≤ (w.length : Int) ∧ (w.length : Int) ≤ (w.length : Int)) _)) = _
  refine G_to (by omega) (G_to (by unfold fits; omega) (G_to (by omega) ?_))
  rw [cut_zero, cut_drop]
  refine bind_to (slices_Concat_spec (by simp) (by simp; omega)) ?_
  simp
theorem Swapped_spec {w : List Int} {s : Sw} (hw : w.length ≤ 16) (h2 : s.2.1.length ≤ 5) {a : Int} (a0 : 0 ≤ a) (a1 : a + s.1.length ≤ w.length) : r29_Swapped w s a = some (swd w s a) := by
  unfold r29_Swapped swd
  rw [cut_zero, cut_drop]
  refine G_to (by omega) (G_to (by unfold room; simp; omega) (G_to (by unfold room; simp; omega) (G_to (by unfold fits; omega) (G_to (by omega) (G_to (by unfold room; simp; omega) rfl)))))
theorem swd_ok {w : List Int} {s : Sw} (hw : WOk w) (hs : 1 ≤ s.1.length ∧ s.1.length ≤ 5 ∧ s.2.1.length ≤ 5 ∧ Dg s.1 ∧ Dg s.2.1 ∧ bef s.2.1 s.1 = true) {a : Int} (a0 : 0 ≤ a) (h : Std w s.1 a) : WOk (swd w s a) ∧ val (swd w s a) < val w := by
  obtain ⟨h1, h2⟩ := h
  have e : w = w.take a.toNat ++ s.1 ++ w.drop (a + s.1.length).toNat := by
    have e1 : (w.take (a + s.1.length).toNat).drop a.toNat = s.1 := h2
    have e2 : w.take (a + s.1.length).toNat = w.take a.toNat ++ s.1 := by
      conv => lhs; rw [← List.take_append_drop a.toNat (w.take (a + s.1.length).toNat), e1, List.take_take, Nat.min_eq_left (by omega)]
    rw [← e2, List.take_append_drop]
  have hd := hw.d
  rw [e] at hd
  obtain ⟨hd1, hd2⟩ := dg_app.1 hd
  obtain ⟨hd3, hd4⟩ := dg_app.1 hd1
  obtain ⟨v1, v2⟩ := swap_val hd3 hs.2.2.2.1 hs.2.2.2.2.1 hd2 hs.2.2.2.2.2
  refine ⟨⟨?_, dg_app.2 ⟨dg_app.2 ⟨hd3, hs.2.2.2.2.1⟩, hd2⟩⟩, ?_⟩
  · have hl := congrArg List.length e
    have hw8 := hw.n
    unfold swd
    simp only [List.length_append] at hl ⊢
    omega
  · conv => rhs; rw [e]
    exact v1

theorem wrap_nat {n : Nat} (h : n < 9223372036854775808) : IntKind.wrap .i64 (n : Int) = n := by
  unfold IntKind.wrap
  simp [IntKind.bits, IntKind.signed]
  omega
theorem ofInt_nat (m : Nat) : BitVec.ofInt 64 (m : Int) = BitVec.ofNat 64 m := by
  apply BitVec.eq_of_toNat_eq; simp
theorem iand_nat {m n : Nat} (hm : m < 9223372036854775808) (hn : n < 9223372036854775808) : iand .i64 (m : Int) (n : Int) = ((m &&& n : Nat) : Int) := by
  unfold iand
  have h : (BitVec.ofInt IntKind.i64.bits (m : Int) &&& BitVec.ofInt IntKind.i64.bits (n : Int)).toNat = m &&& n := by
    show (BitVec.ofInt 64 (m : Int) &&& BitVec.ofInt 64 (n : Int)).toNat = m &&& n
    rw [ofInt_nat, ofInt_nat, BitVec.toNat_and, BitVec.toNat_ofNat, BitVec.toNat_ofNat, Nat.mod_eq_of_lt (by omega), Nat.mod_eq_of_lt (by omega)]
  rw [h, wrap_nat (Nat.lt_of_le_of_lt Nat.and_le_left hm)]
theorem ior_nat {m n : Nat} (hm : m < 9223372036854775808) (hn : n < 9223372036854775808) : ior .i64 (m : Int) (n : Int) = ((m ||| n : Nat) : Int) := by
  unfold ior
  have h : (BitVec.ofInt IntKind.i64.bits (m : Int) ||| BitVec.ofInt IntKind.i64.bits (n : Int)).toNat = m ||| n := by
    show (BitVec.ofInt 64 (m : Int) ||| BitVec.ofInt 64 (n : Int)).toNat = m ||| n
    rw [ofInt_nat, ofInt_nat, BitVec.toNat_or, BitVec.toNat_ofNat, BitVec.toNat_ofNat, Nat.mod_eq_of_lt (by omega), Nat.mod_eq_of_lt (by omega)]
  rw [h, wrap_nat (Nat.or_lt_two_pow (n := 63) hm hn)]
theorem ishl_nat {m k : Nat} (hk : k < 63) (h : m * 2 ^ k < 9223372036854775808) : ishl .i64 (m : Int) (k : Int) = ((m <<< k : Nat) : Int) := by
  unfold ishl
  have e : min ((k : Int).toNat) IntKind.i64.bits = k := by
    show min ((k : Int).toNat) 64 = k
    omega
  rw [e, Nat.shiftLeft_eq]
  have : (m : Int) * 2 ^ k = ((m * 2 ^ k : Nat) : Int) := by push_cast; rfl
  rw [this, wrap_nat h]
theorem ishr_nat {m k : Nat} (hk : k ≤ 64) : ishr .i64 (m : Int) (k : Int) = ((m >>> k : Nat) : Int) := by
  unfold ishr
  have e : min ((k : Int).toNat) IntKind.i64.bits = k := by
    show min ((k : Int).toNat) 64 = k
    omega
  rw [e, Nat.shiftRight_eq_div_pow, Int.fdiv_eq_ediv_of_nonneg _ (by exact_mod_cast Nat.zero_le _)]
  push_cast; rfl
/-- Bits: the q-th one is put. -/
theorem ior_bit {m q : Nat} (hm : m < 4611686018427387904) (hq : q < 62) : ior .i64 (m : Int) (ishl .i64 1 (q : Int)) = ((m ||| 2 ^ q : Nat) : Int) ∧ m ||| 2 ^ q < 4611686018427387904 := by
  have h2 : 2 ^ q < 4611686018427387904 := Nat.pow_lt_pow_right (a := 2) (n := 62) (by omega) hq
  have h1 : ishl .i64 1 (q : Int) = ((2 ^ q : Nat) : Int) := by
    have := ishl_nat (m := 1) (k := q) (by omega) (by omega)
    rw [Nat.shiftLeft_eq, Nat.one_mul] at this
    exact this
  rw [h1, ior_nat (by omega) (by omega)]
  exact ⟨rfl, Nat.or_lt_two_pow (n := 62) hm h2⟩

theorem mfind_none {α : Type} : ∀ {ks : List α} {x : α}, mfind ks x = none ↔ x ∉ ks
  | [], x => by simp [mfind]
  | y :: ys, x => by
    unfold mfind
    by_cases h : y = x
    · rw [if_pos h]; simp [h]
    · rw [if_neg h, Option.map_eq_none_iff, mfind_none]
      simp [Ne.symm h]
/-- A map that only marks: all its elements are one. -/
abbrev ones {α : Type} (ks : List α) : List Int := List.replicate ks.length 1
theorem mget_ones {α : Type} {ks : List α} {x : α} : (mget ks (ones ks) x 0 = 0) ↔ x ∉ ks := by
  unfold mget
  cases h : mfind ks x with
  | none => simp [mfind_none.1 h]
  | some j =>
    have hx : x ∈ ks := by
      refine Classical.byContradiction fun hn => ?_
      rw [mfind_none.2 hn] at h; cases h
    have := mfind_lt h
    simp [hx, this]
theorem mputK_new {α : Type} {ks : List α} {x : α} (h : x ∉ ks) : mputK ks x = ks ++ [x] := by
  unfold mputK; rw [mfind_none.2 h]
theorem mputV_new {α : Type} {ks : List α} {x : α} (h : x ∉ ks) : mputV ks (ones ks) x 1 = ones (ks ++ [x]) := by
  unfold mputV; rw [mfind_none.2 h]
  show List.replicate ks.length 1 ++ [1] = List.replicate (ks ++ [x]).length 1
  rw [List.length_append, List.length_singleton, List.replicate_succ']

theorem pigeon {α : Type} [DecidableEq α] : ∀ {l U : List α}, l.Nodup → (∀ x ∈ l, x ∈ U) → l.length ≤ U.length
  | [], _, _, _ => Nat.zero_le _
  | a :: l, U, hn, hs => by
    have ha := hs a (by simp)
    obtain ⟨h1, h2⟩ := List.nodup_cons.1 hn
    have := pigeon (U := U.erase a) h2 (fun x hx => (List.mem_erase_of_ne (by rintro rfl; exact h1 hx)).2 (hs x (by simp [hx])))
    rw [List.length_erase_of_mem ha] at this
    have hp : 0 < U.length := List.length_pos_of_mem ha
    rw [List.length_cons]; omega
theorem pigeon_int {l : List Int} {n : Nat} (h : l.Nodup) (hb : ∀ x ∈ l, 0 ≤ x ∧ x < n) : l.length ≤ n := by
  have := pigeon (U := (List.range n).map Int.ofNat) h (fun x hx => by
    have := hb x hx
    exact List.mem_map.2 ⟨x.toNat, List.mem_range.2 (by omega), by show ((x.toNat : Nat) : Int) = x; omega⟩)
  simpa using this

theorem mfind_mem {α : Type} {ks : List α} {x : α} (h : x ∈ ks) : ∃ j, mfind ks x = some j := by
  cases e : mfind ks x with
  | none => exact absurd h (mfind_none.1 e)
  | some j => exact ⟨j, rfl⟩
theorem mfind_hd {α : Type} (ks : List α) (x : α) : mfind (x :: ks) x = some 0 := by unfold mfind; rw [if_pos rfl]
theorem mfind_tl {α : Type} {ks : List α} {x y : α} (h : y ≠ x) : mfind (y :: ks) x = (mfind ks x).map (· + 1) := by
  rw [mfind, if_neg h]
theorem mfind_app {α : Type} : ∀ {ks : List α} {x : α} {j : Nat} (l : List α), mfind ks x = some j → mfind (ks ++ l) x = some j
  | [], _, _, _, h => by cases h
  | y :: ks, x, j, l, h => by
    rw [List.cons_append]
    by_cases e : y = x
    · subst e; rw [mfind_hd] at h ⊢; exact h
    · rw [mfind_tl e] at h ⊢
      cases hm : mfind ks x with
      | none => rw [hm] at h; cases h
      | some i => rw [hm] at h; rw [mfind_app l hm]; exact h
theorem mfind_new {α : Type} : ∀ {ks : List α} {x : α}, x ∉ ks → mfind (ks ++ [x]) x = some ks.length
  | [], x, _ => mfind_hd _ _
  | y :: ks, x, h => by
    have hy : y ≠ x := by rintro rfl; exact h (by simp)
    rw [List.cons_append, mfind_tl hy, mfind_new (fun hh => h (by simp [hh]))]; rfl
theorem mfind_at {α : Type} : ∀ {ks : List α} {x : α} {k : Nat}, ks[k]? = some x → (∀ j, j < k → ks[j]? ≠ some x) → mfind ks x = some k
  | [], _, _, h, _ => by simp at h
  | y :: ks, x, k, h, hf => by
    cases k with
    | zero =>
      have : y = x := by simpa using h
      subst this; exact mfind_hd _ _
    | succ k =>
      have hy : y ≠ x := by have := hf 0 (by omega); simpa using this
      rw [mfind_tl hy, mfind_at (k := k) (by simpa using h) (fun j hj => by have := hf (j + 1) (by omega); simpa using this)]; rfl
theorem mfind_inj {α : Type} {ks : List α} {x y : α} {j : Nat} (h : mfind ks x = some j) (k : mfind ks y = some j) : x = y := by
  have := mfind_get h; rw [mfind_get k] at this; injection this with this; exact this.symm
theorem mfind_nodup {α : Type} {ks : List α} (hn : ks.Nodup) {j : Nat} (hj : j < ks.length) : mfind ks ks[j] = some j :=
  mfind_at (by simp) fun i hi e => by
    have hi' : i < ks.length := by omega
    rw [List.getElem?_eq_getElem hi'] at e
    exact List.pairwise_iff_getElem.1 hn i j hi' hj hi (Option.some.inj e)
theorem mfind_map {α β : Type} (f : α → β) : ∀ {ks : List α} {x : α}, (∀ y ∈ ks, f y = f x → y = x) → mfind (ks.map f) (f x) = mfind ks x
  | [], _, _ => rfl
  | y :: ks, x, h => by
    have ih := mfind_map f (ks := ks) (x := x) (fun z hz => h z (by simp [hz]))
    rw [List.map_cons]
    by_cases e : y = x
    · subst e; rw [mfind_hd, mfind_hd]
    · rw [mfind_tl e, mfind_tl (fun hh => e (h y (by simp) hh)), ih]
/-- 0, 1, 2, .. -/
def iota (n : Nat) : List Int := (List.range n).map fun j : Nat => (j : Int)
theorem iota_len (n : Nat) : (iota n).length = n := by simp [iota]
theorem iota_succ (n : Nat) : iota (n + 1) = iota n ++ [(n : Int)] := by simp [iota, List.range_succ]
theorem mget_iota {α : Type} {ks : List α} {x : α} {j : Nat} (h : mfind ks x = some j) : mget ks (iota ks.length) x 0 = j := by
  have := mfind_lt h
  unfold mget; rw [h]
  simp [iota, this]
theorem mhas_iff {α : Type} {ks : List α} {x : α} : mhas ks x = true ↔ x ∈ ks := by
  unfold mhas
  cases e : mfind ks x with
  | none => simp [mfind_none.1 e]
  | some j =>
    have := mfind_get e
    simp [List.mem_of_getElem? this]
theorem mputV_iota {α : Type} {ks : List α} {x : α} (h : x ∉ ks) : mputV ks (iota ks.length) x ks.length = iota (ks ++ [x]).length := by
  unfold mputV; rw [mfind_none.2 h, List.length_append, List.length_singleton, iota_succ]
theorem cover_nodup {α : Type} [DecidableEq α] : ∀ {l U : List α}, U.Nodup → (∀ x ∈ U, x ∈ l) → l.length ≤ U.length → l.Nodup
  | [], _, _, _, _ => List.nodup_nil
  | a :: l, U, hU, hs, hl => by
    have ha : a ∉ l := fun ha => by
      have := pigeon (l := U) (U := l) hU (fun x hx => by
        rcases List.mem_cons.1 (hs x hx) with rfl | h
        · exact ha
        · exact h)
      rw [List.length_cons] at hl; omega
    refine List.nodup_cons.2 ⟨ha, ?_⟩
    refine cover_nodup (U := U.erase a) (hU.erase a) (fun x hx => ?_) ?_
    · have hne : x ≠ a := ((List.Nodup.mem_erase_iff hU).1 hx).1
      rcases List.mem_cons.1 (hs x (List.mem_of_mem_erase hx)) with h | h
      · exact absurd h hne
      · exact h
    · have : U.length - 1 ≤ (U.erase a).length := by
        by_cases h : a ∈ U
        · rw [List.length_erase_of_mem h]; omega
        · rw [List.erase_of_not_mem h]; omega
      rw [List.length_cons] at hl; omega

/-- The bytes of a list of small numbers. -/
def keyL (l : List Int) : List Int := l.flatMap fun x => [IntKind.wrap .u8 x, IntKind.wrap .u8 (ishr .i64 x 8)]
def keyB (l : List Int) : List UInt8 := bstr (keyL l)
theorem wrap_u8 (x : Int) : IntKind.wrap .u8 x = x % 256 := by
  unfold IntKind.wrap
  simp [IntKind.bits, IntKind.signed]
theorem keyB_cons (x : Int) (l : List Int) : keyB (x :: l) = UInt8.ofNat (x % 256).toNat :: UInt8.ofNat (ishr .i64 x 8 % 256).toNat :: keyB l := by
  unfold keyB keyL bstr
  simp [wrap_u8]
theorem u8_inj {a b : Int} (h : UInt8.ofNat (a % 256).toNat = UInt8.ofNat (b % 256).toNat) : a % 256 = b % 256 := by
  have := congrArg UInt8.toNat h
  simp only [UInt8.toNat_ofNat'] at this
  omega
theorem keyB_inj : ∀ {l k : List Int}, (∀ x ∈ l, 0 ≤ x ∧ x < 65536) → (∀ x ∈ k, 0 ≤ x ∧ x < 65536) → keyB l = keyB k → l = k
  | [], [], _, _, _ => rfl
  | [], y :: k, _, _, h => by rw [keyB_cons] at h; cases h
  | x :: l, [], _, _, h => by rw [keyB_cons] at h; cases h
  | x :: l, y :: k, hl, hk, h => by
    rw [keyB_cons, keyB_cons] at h
    injection h with h1 h
    injection h with h2 h
    have hx := hl x (by simp)
    have hy := hk y (by simp)
    have e1 := u8_inj h1
    have e2 := u8_inj h2
    obtain ⟨a, rfl⟩ : ∃ a : Nat, x = a := ⟨x.toNat, by omega⟩
    obtain ⟨b, rfl⟩ : ∃ b : Nat, y = b := ⟨y.toNat, by omega⟩
    rw [show (8 : Int) = ((8 : Nat) : Int) from rfl, ishr_nat (by omega), ishr_nat (by omega), Nat.shiftRight_eq_div_pow, Nat.shiftRight_eq_div_pow] at e2
    have : a = b := by omega
    rw [this, keyB_inj (fun z hz => hl z (by simp [hz])) (fun z hz => hk z (by simp [hz])) h]
theorem keyL_len (l : List Int) : (keyL l).length = 2 * l.length := by
  induction l with
  | nil => rfl
  | cons x l ih => unfold keyL at *; rw [List.flatMap_cons, List.length_append, ih]; simp; omega
/-- A row of so many numbers. -/
def mkR (n : Nat) (g : Int → Int) : List Int := (List.range n).map fun a : Nat => g a
theorem mkR_len (n : Nat) (g : Int → Int) : (mkR n g).length = n := by simp [mkR]
theorem mkR_ix {n : Nat} {g : Int → Int} {a : Int} (h0 : 0 ≤ a) (h1 : a < n) : ix (mkR n g) a = g a := by
  rw [ix_eq h0 (by rw [mkR_len]; exact h1)]
  simp [mkR, Int.toNat_of_nonneg h0]
theorem mkR_of {n : Nat} {g : Int → Int} {l : List Int} (hl : l.length = n) (h : ∀ a : Int, 0 ≤ a → a < n → ix l a = g a) : l = mkR n g :=
  ix_ext (by rw [mkR_len, hl]) fun j j0 j1 => by rw [mkR_ix j0 (by omega), h j j0 (by omega)]

theorem det_Key_spec {l : List Int} (hl : l.length ≤ 1000000) : det_Key l = some (keyB l) := by
  have key : ∀ (n : Nat) (t : Int), (l.length - t).toNat = n → 0 ≤ t → t ≤ l.length → det_Key_L3 l t (keyL (l.take t.toNat)) = some (keyB l) := by
    intro n
    induction n with
    | zero =>
      intro t hn h0 h1
      rw [det_Key_L3_eq]; unfold det_Key_L3_B
      rw [if_neg (by simp; omega), List.take_of_length_le (by omega)]; rfl
    | succ n ih =>
      intro t hn h0 h1
      rw [det_Key_L3_eq]; unfold det_Key_L3_B
      have hk := keyL_len (l.take t.toNat)
      rw [List.length_take] at hk
      rw [if_pos (by simp; omega)]
      refine G_to (by omega) (G_to (by omega) (G_to (by unfold room; simp; omega) (G_to (by unfold fits; omega) ?_)))
      rw [← ih (t + 1) (by omega) (by omega) (by omega), ix_take h0 (by omega)]
      unfold keyL
      rw [List.flatMap_append]
      rfl
  unfold det_Key
  exact key _ 0 rfl (by omega) (by omega)
theorem mget_nz {α : Type} {ks : List α} {vs : List Int} {x : α} (hl : vs.length = ks.length) (hv : ∀ v ∈ vs, v ≠ 0) : mget ks vs x 0 = 0 ↔ x ∉ ks := by
  unfold mget
  cases e : mfind ks x with
  | none => simp [mfind_none.1 e]
  | some j =>
    have hj := mfind_lt e
    have hx := List.mem_of_getElem? (mfind_get e)
    have h1 : vs.getD j 0 = vs[j] := by simp [List.getD_eq_getElem?_getD, show j < vs.length by omega]
    have := hv _ (List.getElem_mem (show j < vs.length by omega))
    show vs.getD j 0 = 0 ↔ _
    rw [h1]
    exact ⟨fun e2 => absurd e2 this, fun e2 => absurd hx e2⟩
/-- All rows of so many numbers below b. -/
def allV (b : Nat) : Nat → List (List Int)
  | 0 => [[]]
  | n + 1 => (allV b n).flatMap fun l => (List.range b).map fun x : Nat => (x : Int) :: l
theorem allV_len (b : Nat) : ∀ n, (allV b n).length = b ^ n
  | 0 => rfl
  | n + 1 => by
    unfold allV
    have key : ∀ u : List (List Int), (u.flatMap fun l => (List.range b).map fun x : Nat => (x : Int) :: l).length = u.length * b := by
      intro u
      induction u with
      | nil => simp
      | cons x u ih => rw [List.flatMap_cons, List.length_append, ih, List.length_map, List.length_range, List.length_cons, Nat.succ_mul, Nat.add_comm]
    rw [key, allV_len b n, Nat.pow_succ]
theorem allV_mem {b : Nat} : ∀ {l : List Int}, (∀ x ∈ l, 0 ≤ x ∧ x < b) → l ∈ allV b l.length
  | [], _ => by simp [allV]
  | x :: l, h => by
    have hx := h x (by simp)
    rw [List.length_cons, allV, List.mem_flatMap]
    exact ⟨l, allV_mem (fun y hy => h y (by simp [hy])), List.mem_map.2 ⟨x.toNat, List.mem_range.2 (by omega), by rw [Int.toNat_of_nonneg hx.1]⟩⟩

/-- One step. -/
def R1 (l : List Sw) (w w' : List Int) : Prop := ∃ a k : Int, 0 ≤ a ∧ a < w.length ∧ 0 ≤ k ∧ k < l.length ∧ Std w (ix l k).1 a ∧ w' = swd w (ix l k) a
inductive Rs (l : List Sw) : List Int → List Int → Prop where
  | refl (w : List Int) : Rs l w w
  | step {w v x : List Int} : R1 l w v → Rs l v x → Rs l w x
theorem both_L5 {l : List Sw} (hl : LOk l) {w : List Int} (hw : WOk w) {a : Int} (a0 : 0 ≤ a) (a1 : a < w.length) {r2 : Int → Option (List Int × Bool)} : ∀ (m : Nat) (t : Int), (l.length - t).toNat = m → 0 ≤ t → t ≤ l.length →
    (∃ w', WOk w' ∧ val w' < val w ∧ R1 l w w' ∧ r29_Step_L5 l w a r2 t = some (w', true) ∧ rewrite_normal_L5 l (rewrite_normal_L2 l) w a t = rewrite_normal_L2 l w' 0) ∨
    (r29_Step_L5 l w a r2 t = r2 (a + 1) ∧ rewrite_normal_L5 l (rewrite_normal_L2 l) w a t = rewrite_normal_L2 l w (a + 1)) := by
  have hn := hl.n
  have h8 := hw.n
  intro m
  induction m with
  | zero =>
    intro t hm t0 t1
    refine .inr ⟨?_, ?_⟩
    · rw [r29_Step_L5_eq]; unfold r29_Step_L5_B
      rw [if_neg (by simp; omega)]
      exact G_to (by unfold fits; omega) rfl
    · rw [rewrite_normal_L5_eq]; unfold rewrite_normal_L5_B
      rw [if_neg (by simp; omega)]
      exact G_to (by unfold fits; omega) rfl
  | succ m ih =>
    intro t hm t0 t1
    have hs := hl.s _ (ix_mem t0 (by omega : t < l.length))
    by_cases c : Std w (ix l t).1 a
    · obtain ⟨z1, z2⟩ := swd_ok hw hs a0 c
      refine .inl ⟨_, z1, z2, ⟨a, t, a0, a1, t0, by omega, c, rfl⟩, ?_, ?_⟩
      · rw [r29_Step_L5_eq]; unfold r29_Step_L5_B
        rw [if_pos (by simp; omega)]
        refine G_to (by omega) ((Stands_spec h8 hs.2.1 a0 (by omega)).to (fun _ => ?_) (fun h => absurd c h))
        exact G_to (by omega) (bind_to (Swapped_spec h8 hs.2.2.1 a0 c.1) rfl)
      · rw [rewrite_normal_L5_eq]; unfold rewrite_normal_L5_B
        rw [if_pos (by simp; omega)]
        refine G_to (by omega) ((stands_spec h8 hs.2.1 a0 (by omega)).to (fun _ => ?_) (fun h => absurd c h))
        refine bind_to (swapped_spec h8 hs.2.2.1 a0 c.1) ?_
        exact G_to (by decide) rfl
    · have e1 : r29_Step_L5 l w a r2 t = r29_Step_L5 l w a r2 (t + 1) := by
        conv => lhs; rw [r29_Step_L5_eq]; unfold r29_Step_L5_B
        rw [if_pos (by simp; omega)]
        refine G_to (by omega) ((Stands_spec h8 hs.2.1 a0 (by omega)).to (fun h => absurd h c) (fun _ => ?_))
        exact G_to (by unfold fits; omega) rfl
      have e2 : rewrite_normal_L5 l (rewrite_normal_L2 l) w a t = rewrite_normal_L5 l (rewrite_normal_L2 l) w a (t + 1) := by
        conv => lhs; rw [rewrite_normal_L5_eq]; unfold rewrite_normal_L5_B
        rw [if_pos (by simp; omega)]
        refine G_to (by omega) ((stands_spec h8 hs.2.1 a0 (by omega)).to (fun h => absurd h c) (fun _ => ?_))
        exact G_to (by unfold fits; omega) rfl
      rw [e1, e2]
      exact ih (t + 1) (by omega) (by omega) (by omega)
theorem both_L2 {l : List Sw} (hl : LOk l) {w : List Int} (hw : WOk w) : ∀ (m : Nat) (a : Int), (w.length - a).toNat = m → 0 ≤ a → a ≤ w.length →
    (∃ w', WOk w' ∧ val w' < val w ∧ R1 l w w' ∧ r29_Step_L2 l w a = some (w', true) ∧ rewrite_normal_L2 l w a = rewrite_normal_L2 l w' 0) ∨
    (r29_Step_L2 l w a = some (w, false) ∧ rewrite_normal_L2 l w a = some w) := by
  have h8 := hw.n
  intro m
  induction m with
  | zero =>
    intro a hm a0 a1
    refine .inr ⟨?_, ?_⟩
    · rw [r29_Step_L2_eq]; unfold r29_Step_L2_B
      rw [if_neg (by simp; omega)]
    · rw [rewrite_normal_L2_eq]; unfold rewrite_normal_L2_B
      rw [if_neg (by simp; omega)]
  | succ m ih =>
    intro a hm a0 a1
    have e1 : r29_Step_L2 l w a = r29_Step_L5 l w a (r29_Step_L2 l w) 0 := by
      conv => lhs; rw [r29_Step_L2_eq]; unfold r29_Step_L2_B
      rw [if_pos (by simp; omega)]
    have e2 : rewrite_normal_L2 l w a = rewrite_normal_L5 l (rewrite_normal_L2 l) w a 0 := by
      conv => lhs; rw [rewrite_normal_L2_eq]; unfold rewrite_normal_L2_B
      rw [if_pos (by simp; omega)]
    rw [e1, e2]
    rcases both_L5 hl hw a0 (by omega) (r2 := r29_Step_L2 l w) _ 0 rfl (by omega) (by omega) with h | ⟨z1, z2⟩
    · exact .inl h
    · rw [z1, z2]
      exact ih (a + 1) (by omega) (by omega) (by omega)
theorem both_Normal {l : List Sw} (hl : LOk l) : ∀ (m : Nat) (w : List Int), WOk w → val w < m → ∃ x, WOk x ∧ rewrite_normal_L2 l w 0 = some x ∧ r29_Normal_L2 l w true = some x ∧ r29_Step l x = some (x, false) ∧ Rs l w x := by
  intro m
  induction m with
  | zero =>
    intro w hw hm
    have h1 := (val_b hw.d).1
    have := pow5 w.length
    omega
  | succ m ih =>
    intro w hw hm
    have e : ∀ w' b, r29_Step l w = some (w', b) → r29_Normal_L2 l w true = r29_Normal_L2 l w' b := fun w' b h => by
      conv => lhs; rw [r29_Normal_L2_eq]; unfold r29_Normal_L2_B
      rw [if_pos rfl]
      exact bind_to h rfl
    rcases both_L2 hl hw _ 0 rfl (by omega) (by omega) with ⟨w', z1, z2, z5, z3, z4⟩ | ⟨z1, z2⟩
    · obtain ⟨x, y1, y2, y3, y4, y5⟩ := ih w' z1 (by omega)
      exact ⟨x, y1, z4.trans y2, (e _ _ z3).trans y3, y4, .step z5 y5⟩
    · refine ⟨w, hw, z2, (e _ _ z1).trans ?_, z1, .refl w⟩
      rw [r29_Normal_L2_eq]; unfold r29_Normal_L2_B
      rw [if_neg (by simp)]
/-- What comes of a word. -/
theorem nf_both {l : List Sw} (hl : LOk l) {w : List Int} (hw : WOk w) : ∃ x, WOk x ∧ rewrite_normal l w = some x ∧ r29_Normal l w = some x ∧ r29_Step l x = some (x, false) ∧ Rs l w x := both_Normal hl (val w).toNat.succ w hw (by omega)
theorem key_iff {x y : List Int} (hx : WOk x) (hy : WOk y) : keyB x = keyB y ↔ x = y := by
  constructor
  · intro e
    exact keyB_inj (fun a ha => by have := hx.d a ha; omega) (fun a ha => by have := hy.d a ha; omega) e
  · intro e; rw [e]
/- pairs -/
structure Good (l : List Sw) (n : Int) (w x y : List Int) : Prop where
  ow : WOk w
  lt : ¬ NoL n w
  ox : WOk x
  oy : WOk y
  ne : x ≠ y
  sx : r29_Step l x = some (x, false)
  sy : r29_Step l y = some (y, false)
  rx : Rs l w x
  ry : Rs l w y
abbrev PR := (List Int) × (List Int) × (List Int) × Bool × Int
def Out (l : List Sw) (n : Int) (p p' : Option PR) (r r' : Option Bool) : Prop :=
  (∃ w x y, Good l n w x y ∧ p = some (w, x, y, true, 0) ∧ r = some false) ∨ (p = p' ∧ r = r')
theorem Out.trans {l : List Sw} {n : Int} {p q s : Option PR} {r t u : Option Bool} (h : Out l n p q r t) (k : Out l n q s t u) : Out l n p s r u := by
  rcases h with ⟨w, x, y, h1, h2, h3⟩ | ⟨h1, h2⟩
  · exact .inl ⟨w, x, y, h1, h2, h3⟩
  · rw [h1, h2]; exact k
section
variable {l : List Sw} {n : Int}
/-- Where two Froms meet. -/
noncomputable def ov (a b : Sw) (k : Int) : Int := imin (b.1.length : Int) ((a.1.length : Int) - k)
theorem ov_b {a b : Sw} {k : Int} (hk : k < a.1.length) (k0 : 0 ≤ k) : 0 ≤ ov a b k ∧ ov a b k ≤ b.1.length ∧ k + ov a b k ≤ a.1.length ∧ (ov a b k = b.1.length ∨ k + ov a b k = a.1.length) := by
  unfold ov imin
  split <;> omega
noncomputable def wov (a b : Sw) (k : Int) : List Int := a.1 ++ b.1.drop (ov a b k).toNat
noncomputable def meetP (a b : Sw) (k : Int) : Prop := cut a.1 k (k + ov a b k) = cut b.1 0 (ov a b k)
theorem cut_take {w : List Int} {j : Int} : cut w 0 j = w.take j.toNat := cut_zero
theorem stand_a {a b : Sw} {k : Int} : Std (wov a b k) a.1 0 := by
  refine ⟨by unfold wov; rw [List.length_append]; omega, ?_⟩
  unfold wov
  rw [Int.zero_add, cut_zero, Int.toNat_natCast, List.take_left']
  rfl
theorem stand_b {a b : Sw} {k : Int} (k0 : 0 ≤ k) (hk : k < a.1.length) (h : meetP a b k) : Std (wov a b k) b.1 k := by
  obtain ⟨o1, o2, o3, o4⟩ := ov_b (b := b) hk k0
  unfold meetP at h
  rw [cut_zero] at h
  obtain ⟨kn, rfl⟩ : ∃ m : Nat, k = m := ⟨k.toNat, by omega⟩
  obtain ⟨o, ho⟩ : ∃ m : Nat, ov a b kn = m := ⟨(ov a b kn).toNat, by omega⟩
  unfold cut at h
  rw [ho] at h o2 o3 o4
  rw [show ((kn : Int) + (o : Int)).toNat = kn + o by omega, Int.toNat_natCast, Int.toNat_natCast] at h
  have hw : wov a b kn = a.1 ++ b.1.drop o := by unfold wov; rw [ho]; rfl
  rw [hw]
  have hl : (a.1 ++ b.1.drop o).length = a.1.length + (b.1.length - o) := by rw [List.length_append, List.length_drop]
  refine ⟨by rw [hl]; omega, ?_⟩
  unfold cut
  rw [show ((kn : Int) + (b.1.length : Int)).toNat = kn + b.1.length by omega, Int.toNat_natCast]
  -- what stands there
  have e1 : ((a.1 ++ b.1.drop o).take (kn + b.1.length)).drop kn = ((a.1 ++ b.1.drop o).drop kn).take b.1.length := by
    rw [List.drop_take]; congr 1; omega
  rw [e1, List.drop_append_of_le_length (by omega)]
  have e2 : (a.1.take (kn + o)).drop kn = (a.1.drop kn).take o := by rw [List.drop_take]; congr 1; omega
  rw [e2] at h
  rcases o4 with o4 | o4
  · have : o = b.1.length := by omega
    subst this
    rw [List.take_append_of_le_length (by rw [List.length_drop]; omega), h, List.take_length]
  · have hd : (a.1.drop kn).length = o := by rw [List.length_drop]; omega
    have : a.1.drop kn = b.1.take o := by rw [← h, List.take_of_length_le (by omega)]
    rw [this, List.take_append_drop, List.take_length]
theorem wov_ok {a b : Sw} {k : Int} (ha : Dg a.1) (hb : Dg b.1) (la : a.1.length ≤ 5) (lb : b.1.length ≤ 5) : WOk (wov a b k) := by
  refine ⟨?_, ?_⟩
  · unfold wov; rw [List.length_append, List.length_drop]; omega
  · unfold wov
    exact dg_app.2 ⟨ha, fun x hx => hb x (List.mem_of_mem_drop hx)⟩
theorem wov_let {a b : Sw} {k : Int} (ha : ¬ NoL n a.1) (hb : ¬ NoL n b.1) : ¬ NoL n (wov a b k) := by
  rintro ⟨x, hx, h⟩
  unfold wov at hx
  rcases List.mem_append.1 hx with hx | hx
  · exact ha ⟨x, hx, h⟩
  · exact hb ⟨x, List.mem_of_mem_drop hx, h⟩
theorem concat2 {a b : List Int} (h : a.length + b.length ≤ 1000) : slices_Concat [a, b] = some (a ++ b) := by
  rw [slices_Concat_spec (by simp) (by simp; omega)]; simp
noncomputable def LL (l : List Sw) (i k : Int) (r9 : List Sw → List Sw → Int → List Int → List Int → List Int → List Int → List Int → Option PR) (a : Int) : Option PR := rewrite_Fork_L12 k (ix l i).1 r9 l l a [] [] [] (ix l i).1 (ix l i).2.1 (ix l k).1 (ix l k).2.1
/-- One pair. -/
theorem pair_both (hl : LOk l) (hn : ∀ s ∈ l, ¬ NoL n s.1) {i k : Int} (i0 : 0 ≤ i) (i1 : i < l.length) (k0 : 0 ≤ k) (k1 : k < l.length) {r9 : List Sw → List Sw → Int → List Int → List Int → List Int → List Int → List Int → Option PR} {r5 : Int → Option Bool} {a : Int} (a0 : 0 ≤ a) (a1 : a < (ix l i).1.length) :
    Out l n (LL l i k r9 a) (LL l i k r9 (a + 1)) (r29_Meet_L8 l i k r5 a) (r29_Meet_L8 l i k r5 (a + 1)) := by
  have hi := hl.s _ (ix_mem i0 i1)
  have hk := hl.s _ (ix_mem k0 k1)
  have hni := hn _ (ix_mem i0 i1)
  have hnk := hn _ (ix_mem k0 k1)
  obtain ⟨o1, o2, o3, o4⟩ := ov_b (b := ix l k) a1 a0
  have eo : imin ((ix l k).1.length : Int) (((ix l i).1.length : Int) - a) = ov (ix l i) (ix l k) a := rfl
  have lc1 := cut_len (l := (ix l i).1) a0 (by omega : a ≤ a + ov (ix l i) (ix l k) a) o3
  -- the document's
  have er : ∀ X, (r29_Meet_J12 l i k a (r29_Meet_L8 l i k r5) (ov (ix l i) (ix l k) a) = X) → r29_Meet_L8 l i k r5 a = X := fun X hX => by
    rw [r29_Meet_L8_eq]; unfold r29_Meet_L8_B
    refine G_to (by omega) ?_
    rw [if_pos (by simp; omega)]
    refine G_to (by omega) (G_to (by unfold fits; omega) (G_to (by omega) ?_))
    by_cases c : ((ix l k).1.length : Int) < ((ix l i).1.length : Int) - a
    · rw [if_pos (decide_eq_true c)]
      have : ov (ix l i) (ix l k) a = ((ix l k).1.length : Int) := by unfold ov imin; split <;> omega
      rw [this] at hX
      exact G_to (by omega) hX
    · rw [if_neg (by simpa using c)]
      have : ov (ix l i) (ix l k) a = ((ix l i).1.length : Int) - a := by unfold ov imin; split <;> omega
      rw [this] at hX
      exact hX
  have ep : ∀ X, ((slices_Equal (cut (ix l i).1 a (a + ov (ix l i) (ix l k) a)) (cut (ix l k).1 0 (ov (ix l i) (ix l k) a))).bind (fun y => if (!y) = true then rewrite_Fork_J17 a (ix l i).1 (ix l i).2.1 (rewrite_Fork_L12 k (ix l i).1 r9) l l [] [] [] (ix l k).1 (ix l k).2.1 else (slices_Concat [(ix l i).1, cut (ix l k).1 (ov (ix l i) (ix l k) a) ((ix l k).1.length : Int)]).bind (fun y'_2 => (rewrite_Fork_1_6 y'_2 ((ix l i).1, (ix l i).2.1, ()) 0 ((ix l k).1, (ix l k).2.1, ()) a l [] [] []).bind (fun z => if z.1 = true then some (z.2.1, z.2.2.1, z.2.2.2, true, 0) else rewrite_Fork_J17 a (ix l i).1 (ix l i).2.1 (rewrite_Fork_L12 k (ix l i).1 r9) l l z.2.1 z.2.2.1 z.2.2.2 (ix l k).1 (ix l k).2.1))) = X) → LL l i k r9 a = X := fun X hX => by
    unfold LL; rw [rewrite_Fork_L12_eq]; unfold rewrite_Fork_L12_B
    rw [if_pos (by simp; omega), eo]
    refine G_to (by unfold fits; omega) (G_to (by unfold fits; omega) (G_to (by omega) (G_to (by omega) ?_)))
    rw [← hX]
    cases slices_Equal (cut (ix l i).1 a (a + ov (ix l i) (ix l k) a)) (cut (ix l k).1 0 (ov (ix l i) (ix l k) a)) with
    | none => rfl
    | some b =>
      show (if (!b) = true then _ else _) = (if (!b) = true then _ else _)
      cases b with
      | false => rfl
      | true =>
        rw [if_neg (by simp), if_neg (by simp)]
        refine G_to (by omega) ?_
        cases slices_Concat [(ix l i).1, cut (ix l k).1 (ov (ix l i) (ix l k) a) ((ix l k).1.length : Int)] with
        | none => rfl
        | some y =>
          show (rewrite_Fork_1_6 y _ _ _ _ _ _ _ _).bind _ = (rewrite_Fork_1_6 y _ _ _ _ _ _ _ _).bind _
          cases rewrite_Fork_1_6 y ((ix l i).1, (ix l i).2.1, ()) 0 ((ix l k).1, (ix l k).2.1, ()) a l [] [] [] with
          | none => rfl
          | some z =>
            show (if z.1 = true then _ else _) = (if z.1 = true then _ else _)
            by_cases c : z.1 = true
            · rw [if_pos c, if_pos c]
              exact both_to (both_to rfl (both_to rfl rfl)) (both_to (both_to rfl rfl) (both_to rfl rfl))
            · rw [if_neg c, if_neg c]
  have hJ : rewrite_Fork_J17 a (ix l i).1 (ix l i).2.1 (rewrite_Fork_L12 k (ix l i).1 r9) l l [] [] [] (ix l k).1 (ix l k).2.1 = LL l i k r9 (a + 1) := by
    unfold rewrite_Fork_J17; exact G_to (by unfold fits; omega) rfl
  by_cases hm : meetP (ix l i) (ix l k) a
  · have hwo := wov_ok (k := a) hi.2.2.2.1 hk.2.2.2.1 hi.2.1 hk.2.1
    have sa := stand_a (a := ix l i) (b := ix l k) (k := a)
    have sb := stand_b a0 a1 hm
    obtain ⟨x1, _⟩ := swd_ok hwo hi (Int.le_refl 0) sa
    obtain ⟨y1, _⟩ := swd_ok hwo hk a0 sb
    have lw : (wov (ix l i) (ix l k) a).length = (ix l i).1.length + ((ix l k).1.length - (ov (ix l i) (ix l k) a).toNat) := by unfold wov; rw [List.length_append, List.length_drop]
    have rx : R1 l (wov (ix l i) (ix l k) a) (swd (wov (ix l i) (ix l k) a) (ix l i) 0) := ⟨0, i, by omega, by omega, i0, i1, sa, rfl⟩
    have ry : R1 l (wov (ix l i) (ix l k) a) (swd (wov (ix l i) (ix l k) a) (ix l k) a) := ⟨a, k, a0, by omega, k0, k1, sb, rfl⟩
    obtain ⟨x, nx1, nx2, nx3, nx4, nx5⟩ := nf_both hl x1
    obtain ⟨y, ny1, ny2, ny3, ny4, ny5⟩ := nf_both hl y1
    have ew : (ix l i).1 ++ cut (ix l k).1 (ov (ix l i) (ix l k) a) ((ix l k).1.length : Int) = wov (ix l i) (ix l k) a := by unfold wov; rw [cut_drop]
    have hcat : slices_Concat [(ix l i).1, cut (ix l k).1 (ov (ix l i) (ix l k) a) ((ix l k).1.length : Int)] = some (wov (ix l i) (ix l k) a) := by
      rw [concat2 (by rw [cut_drop, List.length_drop]; omega), ew]
    have hx16 := nx1.n
    have hy16 := ny1.n
    have hcl : rewrite_Fork_1_6 (wov (ix l i) (ix l k) a) ((ix l i).1, (ix l i).2.1, ()) 0 ((ix l k).1, (ix l k).2.1, ()) a l [] [] [] = if x = y then some (false, [], [], []) else some (true, wov (ix l i) (ix l k) a, x, y) := by
      unfold rewrite_Fork_1_6
      refine bind_to (swapped_spec hwo.n hi.2.2.1 (Int.le_refl 0) sa.1) (bind_to nx2 (bind_to (swapped_spec hwo.n hk.2.2.1 a0 sb.1) (bind_to ny2 (bind_to (det_Key_spec (by omega)) (bind_to (det_Key_spec (by omega)) ?_)))))
      by_cases c : x = y
      · rw [if_pos (decide_eq_true ((key_iff nx1 ny1).2 c)), if_pos c]
      · rw [if_neg (by simpa using fun h => c ((key_iff nx1 ny1).1 h)), if_neg c]
        exact bind_to (slices_Clone_spec (by have := hwo.n; omega)) (bind_to (slices_Clone_spec (by omega)) (bind_to (slices_Clone_spec (by omega)) rfl))
    have hdoc : r29_Meet_L8 l i k r5 a = if x = y then r29_Meet_L8 l i k r5 (a + 1) else some false := by
      refine er _ ?_
      unfold r29_Meet_J12
      refine G_to (by omega) (G_to (by unfold fits; omega) (G_to (by omega) (G_to (by omega) (G_to (by omega) (bind_to (r1_Words_spec (by omega)) ?_)))))
      rw [if_neg (by unfold meetP at hm; simp [hm])]
      refine G_to (by omega) (G_to (by unfold room; simp; omega) (G_to (by omega) (G_to (by omega) (G_to (by rw [cut_drop]; unfold room; simp; omega) (G_to (by omega) ?_)))))
      rw [List.nil_append, ew]
      refine bind_to (Swapped_spec hwo.n hi.2.2.1 (Int.le_refl 0) sa.1) (G_to (by omega) (bind_to (Swapped_spec hwo.n hk.2.2.1 a0 sb.1) (bind_to nx3 (bind_to ny3 (bind_to (r1_Words_spec (by omega)) ?_)))))
      by_cases c : x = y
      · rw [if_neg (by simp [c]), if_pos c]
        exact G_to (by unfold fits; omega) rfl
      · rw [if_pos (by simp [c]), if_neg c]
    by_cases c : x = y
    · refine .inr ⟨ep _ ?_, by rw [hdoc, if_pos c]⟩
      refine bind_to (Equal_spec (by omega)) ?_
      rw [if_neg (by unfold meetP at hm; simp [hm])]
      refine bind_to hcat ?_
      rw [hcl, if_pos c]
      exact hJ
    · refine .inl ⟨wov (ix l i) (ix l k) a, x, y, ⟨hwo, wov_let hni hnk, nx1, ny1, c, nx4, ny4, .step rx nx5, .step ry ny5⟩, ep _ ?_, by rw [hdoc, if_neg c]⟩
      refine bind_to (Equal_spec (by omega)) ?_
      rw [if_neg (by unfold meetP at hm; simp [hm])]
      refine bind_to hcat ?_
      rw [hcl, if_neg c]
      rfl
  · refine .inr ⟨ep _ ?_, er _ ?_⟩
    · refine bind_to (Equal_spec (by omega)) ?_
      rw [if_pos (by unfold meetP at hm; simpa using hm)]
      exact hJ
    · unfold r29_Meet_J12
      refine G_to (by omega) (G_to (by unfold fits; omega) (G_to (by omega) (G_to (by omega) (G_to (by omega) (bind_to (r1_Words_spec (by omega)) ?_)))))
      rw [if_pos (by unfold meetP at hm; simpa using hm)]
      exact G_to (by unfold fits; omega) rfl
abbrev C9 := List Sw → List Sw → Int → List Int → List Int → List Int → List Int → List Int → Option PR
theorem LL_end {i k : Int} {r9 : C9} {r5 : Int → Option Bool} (k0 : 0 ≤ k) (k1 : k < l.length) (h8 : l.length ≤ 8) (i0 : 0 ≤ i) (i1 : i < l.length) : LL l i k r9 (ix l i).1.length = r9 l l (k + 1) [] [] [] (ix l i).1 (ix l i).2.1 ∧ r29_Meet_L8 l i k r5 (ix l i).1.length = r5 (k + 1) := by
  refine ⟨?_, ?_⟩
  · unfold LL; rw [rewrite_Fork_L12_eq]; unfold rewrite_Fork_L12_B
    rw [if_neg (by simp)]
    exact G_to (by unfold fits; omega) rfl
  · rw [r29_Meet_L8_eq]; unfold r29_Meet_L8_B
    refine G_to (by omega) ?_
    rw [if_neg (by simp)]
    exact G_to (by unfold fits; omega) rfl
theorem a_both (hl : LOk l) (hn : ∀ s ∈ l, ¬ NoL n s.1) {i k : Int} (i0 : 0 ≤ i) (i1 : i < l.length) (k0 : 0 ≤ k) (k1 : k < l.length) {r9 : C9} {r5 : Int → Option Bool} : ∀ (m : Nat) (a : Int), ((ix l i).1.length - a).toNat = m → 0 ≤ a → a ≤ (ix l i).1.length →
    Out l n (LL l i k r9 a) (r9 l l (k + 1) [] [] [] (ix l i).1 (ix l i).2.1) (r29_Meet_L8 l i k r5 a) (r5 (k + 1)) := by
  intro m
  induction m with
  | zero =>
    intro a hm a0 a1
    have : a = ((ix l i).1.length : Int) := by omega
    subst this
    obtain ⟨e1, e2⟩ := LL_end (r9 := r9) (r5 := r5) k0 k1 hl.n i0 i1
    exact .inr ⟨e1, e2⟩
  | succ m ih =>
    intro a hm a0 a1
    exact (pair_both hl hn i0 i1 k0 k1 a0 (by omega)).trans (ih (a + 1) (by omega) (by omega) (by omega))
theorem k_both (hl : LOk l) (hn : ∀ s ∈ l, ¬ NoL n s.1) {i : Int} (i0 : 0 ≤ i) (i1 : i < l.length) {r6 : List Sw → List Sw → Int → List Int → List Int → List Int → Option PR} {r2 : Int → Option Bool} : ∀ (m : Nat) (k : Int), (l.length - k).toNat = m → 0 ≤ k → k ≤ l.length →
    Out l n (rewrite_Fork_L9 l i r6 l l k [] [] [] (ix l i).1 (ix l i).2.1) (r6 l l (i + 1) [] [] []) (r29_Meet_L5 l i r2 k) (r2 (i + 1)) := by
  have h8 := hl.n
  intro m
  induction m with
  | zero =>
    intro k hm k0 k1
    refine .inr ⟨?_, ?_⟩
    · rw [rewrite_Fork_L9_eq]; unfold rewrite_Fork_L9_B
      rw [if_neg (by simp; omega)]
      exact G_to (by unfold fits; omega) rfl
    · rw [r29_Meet_L5_eq]; unfold r29_Meet_L5_B
      rw [if_neg (by simp; omega)]
      exact G_to (by unfold fits; omega) rfl
  | succ m ih =>
    intro k hm k0 k1
    have e1 : rewrite_Fork_L9 l i r6 l l k [] [] [] (ix l i).1 (ix l i).2.1 = LL l i k (rewrite_Fork_L9 l i r6) 0 := by
      conv => lhs; rw [rewrite_Fork_L9_eq]; unfold rewrite_Fork_L9_B
      rw [if_pos (by simp; omega)]
      exact G_to (by omega) rfl
    have e2 : r29_Meet_L5 l i r2 k = r29_Meet_L8 l i k (r29_Meet_L5 l i r2) 0 := by
      conv => lhs; rw [r29_Meet_L5_eq]; unfold r29_Meet_L5_B
      rw [if_pos (by simp; omega)]
    rw [e1, e2]
    exact (a_both hl hn i0 i1 k0 (by omega) _ 0 rfl (by omega) (by omega)).trans (ih (k + 1) (by omega) (by omega) (by omega))
theorem i_both (hl : LOk l) (hn : ∀ s ∈ l, ¬ NoL n s.1) : ∀ (m : Nat) (i : Int), (l.length - i).toNat = m → 0 ≤ i → i ≤ l.length →
    Out l n (rewrite_Fork_L6 l l l i [] [] []) (some ([], [], [], false, 0)) (r29_Meet_L2 l i) (some true) := by
  intro m
  induction m with
  | zero =>
    intro i hm i0 i1
    refine .inr ⟨?_, ?_⟩
    · rw [rewrite_Fork_L6_eq]; unfold rewrite_Fork_L6_B
      rw [if_neg (by simp; omega)]
    · rw [r29_Meet_L2_eq]; unfold r29_Meet_L2_B
      rw [if_neg (by simp; omega)]
  | succ m ih =>
    intro i hm i0 i1
    have e1 : rewrite_Fork_L6 l l l i [] [] [] = rewrite_Fork_L9 l i (rewrite_Fork_L6 l) l l 0 [] [] [] (ix l i).1 (ix l i).2.1 := by
      conv => lhs; rw [rewrite_Fork_L6_eq]; unfold rewrite_Fork_L6_B
      rw [if_pos (by simp; omega)]
      exact G_to (by omega) rfl
    have e2 : r29_Meet_L2 l i = r29_Meet_L5 l i (r29_Meet_L2 l) 0 := by
      conv => lhs; rw [r29_Meet_L2_eq]; unfold r29_Meet_L2_B
      rw [if_pos (by simp; omega)]
    rw [e1, e2]
    exact (k_both hl hn i0 (by omega) _ 0 rfl (by omega) (by omega)).trans (ih (i + 1) (by omega) (by omega) (by omega))
end
/- what can come of a word -/
def NZ (o : Option Int) : Prop := ∃ r, o = some r ∧ r ≠ 0
structure AOk (all : List (List Int)) : Prop where
  n : all.length ≤ 2000
  w : ∀ v ∈ all, WOk v
section
variable {l : List Sw}
theorem known_spec {k : Int} {all : List (List Int)} (ha : AOk all) {r12 : Int → List (List Int) → Option Int} {x : List Int} : ∀ (m : Nat) (j : Int) (b : Bool), (all.length - j).toNat = m → 0 ≤ j → j ≤ all.length →
    ∃ c : Bool, r29_Comes_L19 k all r12 x b j = r29_Comes_J20 k all r12 x c ∧ (c = true ↔ b = true ∨ ∃ j' : Int, j ≤ j' ∧ j' < all.length ∧ ix all j' = x) := by
  have h2 := ha.n
  intro m
  induction m with
  | zero =>
    intro j b hm j0 j1
    refine ⟨b, ?_, ?_⟩
    · rw [r29_Comes_L19_eq]; unfold r29_Comes_L19_B
      rw [if_neg (by simp; omega)]
    · constructor
      · exact .inl
      · rintro (h | ⟨j', h1, h2, _⟩)
        · exact h
        · omega
  | succ m ih =>
    intro j b hm j0 j1
    rw [r29_Comes_L19_eq]; unfold r29_Comes_L19_B
    rw [if_pos (by simp; omega)]
    cases b with
    | true =>
      rw [if_neg (by simp)]
      exact ⟨true, rfl, by simp⟩
    | false =>
      rw [if_pos (by simp), G_pos (by omega), G_pos (by omega)]
      have hw := ha.w _ (ix_mem j0 (by omega : j < all.length))
      have := hw.n
      rw [r1_Words_spec (by omega)]
      show ∃ c : Bool, (G _ (r29_Comes_L19 k all r12 x (decide (ix all j = x)) (j + 1))) = _ ∧ _
      rw [G_pos (by unfold fits; omega)]
      obtain ⟨c, h1, h3⟩ := ih (j + 1) (decide (ix all j = x)) (by omega) (by omega) (by omega)
      refine ⟨c, h1, h3.trans ?_⟩
      constructor
      · rintro (h | ⟨j', y1, y2, y3⟩)
        · exact .inr ⟨j, by omega, by omega, of_decide_eq_true h⟩
        · exact .inr ⟨j', by omega, y2, y3⟩
      · rintro (h | ⟨j', y1, y2, y3⟩)
        · cases h
        · by_cases e : j' = j
          · subst e; exact .inl (decide_eq_true y3)
          · exact .inr ⟨j', by omega, y2, y3⟩
theorem ix_pre {all all' : List (List Int)} (h : all <+: all') {i : Int} (i0 : 0 ≤ i) (i1 : i < all.length) : ix all' i = ix all i := by
  obtain ⟨t, rfl⟩ := h
  unfold ix
  rw [List.getD_eq_getElem?_getD, List.getD_eq_getElem?_getD, List.getElem?_append_left (by omega)]
theorem k_comes (hl : LOk l) {i at' : Int} {v : List Int} (hv : WOk v) (i0 : 0 ≤ i) (a0 : 0 ≤ at') (a1 : at' < v.length) {r9 : Int → List (List Int) → Option Int} : ∀ (m : Nat) (k : Int) (all : List (List Int)), (l.length - k).toNat = m → 0 ≤ k → k ≤ l.length → AOk all → i < all.length → ix all i = v →
    (∀ all', AOk all' → all <+: all' → (∀ k', k ≤ k' → k' < l.length → Std v (ix l k').1 at' → swd v (ix l k') at' ∈ all') → NZ (r9 (at' + 1) all')) → NZ (r29_Comes_L12 l i at' r9 k all) := by
  have h8 := hl.n
  have h16 := hv.n
  intro m
  induction m with
  | zero =>
    intro k all hm k0 k1 ha hi hiv hr
    rw [r29_Comes_L12_eq]; unfold r29_Comes_L12_B
    rw [if_neg (by simp; omega), G_pos (by unfold fits; omega)]
    exact hr all ha (List.prefix_refl _) (fun k' y1 y2 => by omega)
  | succ m ih =>
    intro k all hm k0 k1 ha hi hiv hr
    have hs := hl.s _ (ix_mem k0 (by omega : k < l.length))
    have h2 := ha.n
    rw [r29_Comes_L12_eq]; unfold r29_Comes_L12_B
    rw [if_pos (by simp; omega), G_pos (by omega), G_pos (by omega), G_pos (by omega), hiv]
    obtain ⟨b, hb1, hb2⟩ := Stands_spec (w := v) (v := (ix l k).1) hv.n hs.2.1 a0 (by omega)
    rw [hb1]
    show NZ (if (!b) = true then _ else _)
    cases b with
    | false =>
      rw [if_pos (by simp), G_pos (by unfold fits; omega)]
      refine ih (k + 1) all (by omega) (by omega) (by omega) ha hi hiv (fun all' z1 z2 z3 => hr all' z1 z2 (fun k' y1 y2 y3 => ?_))
      by_cases e : k' = k
      · subst e; exact absurd (hb2.2 y3) (by simp)
      · exact z3 k' (by omega) y2 y3
    | true =>
      have hstd := hb2.1 rfl
      obtain ⟨x1, _⟩ := swd_ok hv hs a0 hstd
      rw [if_neg (by simp), G_pos (by omega), G_pos (by omega), G_pos (by omega), Swapped_spec hv.n hs.2.2.1 a0 hstd.1]
      show NZ (r29_Comes_L19 k all (r29_Comes_L12 l i at' r9) (swd v (ix l k) at') false 0)
      obtain ⟨c, hc1, hc2⟩ := known_spec (k := k) ha (r12 := r29_Comes_L12 l i at' r9) (x := swd v (ix l k) at') _ 0 false rfl (by omega) (by omega)
      rw [hc1]; unfold r29_Comes_J20
      cases c with
      | true =>
        rw [if_neg (by simp), G_pos (by unfold fits; omega)]
        have hm' : swd v (ix l k) at' ∈ all := by
          rcases hc2.1 rfl with h | ⟨j', y1, y2, y3⟩
          · cases h
          · rw [← y3]; exact ix_mem y1 y2
        refine ih (k + 1) all (by omega) (by omega) (by omega) ha hi hiv (fun all' z1 z2 z3 => hr all' z1 z2 (fun k' y1 y2 y3 => ?_))
        by_cases e : k' = k
        · subst e; exact z2.subset hm'
        · exact z3 k' (by omega) y2 y3
      | false =>
        rw [if_pos (by simp)]
        by_cases e : (all.length : Int) = 2000
        · rw [if_pos (decide_eq_true e)]
          exact ⟨-1, rfl, by decide⟩
        · rw [if_neg (by simpa using e), G_pos (by unfold room; simp; omega), G_pos (by unfold fits; omega)]
          refine ih (k + 1) (all ++ [swd v (ix l k) at']) (by omega) (by omega) (by omega) ⟨by simp; omega, fun y hy => ?_⟩ (by simp; omega) ?_ (fun all' z1 z2 z3 => hr all' z1 ((List.prefix_append _ _).trans z2) (fun k' y1 y2 y3 => ?_))
          · rcases List.mem_append.1 hy with hy | hy
            · exact ha.w _ hy
            · rw [List.mem_singleton.1 hy]; exact x1
          · rw [← hiv]; exact ix_pre (List.prefix_append _ _) i0 hi
          · by_cases e2 : k' = k
            · subst e2; exact z2.subset (by simp)
            · exact z3 k' (by omega) y2 y3
theorem at_comes (hl : LOk l) {i : Int} {v : List Int} (hv : WOk v) (i0 : 0 ≤ i) {r3 : Int → List (List Int) → Option Int} : ∀ (m : Nat) (a : Int) (all : List (List Int)), (v.length - a).toNat = m → 0 ≤ a → a ≤ v.length → AOk all → i < all.length → ix all i = v →
    (∀ all', AOk all' → all <+: all' → (∀ a' k' : Int, a ≤ a' → a' < v.length → 0 ≤ k' → k' < l.length → Std v (ix l k').1 a' → swd v (ix l k') a' ∈ all') → NZ (r3 (i + 1) all')) → NZ (r29_Comes_L9 l i r3 a all) := by
  have h16 := hv.n
  intro m
  induction m with
  | zero =>
    intro a all hm a0 a1 ha hi hiv hr
    have h2 := ha.n
    rw [r29_Comes_L9_eq]; unfold r29_Comes_L9_B
    rw [G_pos (by omega), G_pos (by omega), hiv, if_neg (by simp; omega), G_pos (by unfold fits; omega)]
    exact hr all ha (List.prefix_refl _) (fun a' k' y1 y2 => by omega)
  | succ m ih =>
    intro a all hm a0 a1 ha hi hiv hr
    rw [r29_Comes_L9_eq]; unfold r29_Comes_L9_B
    rw [G_pos (by omega), G_pos (by omega), hiv, if_pos (by simp; omega)]
    refine k_comes hl hv i0 a0 (by omega) _ 0 all rfl (by omega) (by omega) ha hi hiv (fun all1 z1 z2 z3 => ?_)
    have hi1 : i < all1.length := by have := z2.length_le; omega
    refine ih (a + 1) all1 (by omega) (by omega) (by omega) z1 hi1 (by rw [ix_pre z2 i0 hi, hiv]) (fun all' w1 w2 w3 => hr all' w1 (z2.trans w2) (fun a' k' y1 y2 y3 y4 y5 => ?_))
    by_cases e : a' = a
    · subst e; exact w2.subset (z3 k' y3 y4 y5)
    · exact w3 a' k' (by omega) y2 y3 y4 y5
theorem closed_no {w goal : List Int} (hr : Rs l w goal) {all : List (List Int)} (hw : w ∈ all) (this : ∀ v, v ∈ all → v ≠ goal ∧ ∀ u, R1 l v u → u ∈ all) : False := by
  induction hr with
  | refl w => exact (this w hw).1 rfl
  | step h _ ih => exact ih ((this _ hw).2 _ h) this
theorem comes_all (hl : LOk l) {w goal : List Int} (hr : Rs l w goal) : ∀ (m : Nat) (i : Int) (all : List (List Int)), (2000 - i).toNat = m → 0 ≤ i → i ≤ all.length → AOk all → w ∈ all →
    (∀ j : Int, 0 ≤ j → j < i → ix all j ≠ goal ∧ ∀ v, R1 l (ix all j) v → v ∈ all) → NZ (r29_Comes_L3 l goal i all) := by
  intro m
  induction m with
  | zero =>
    intro i all hm i0 i1 ha hw hc
    exfalso
    have h2 := ha.n
    have : ∀ v, v ∈ all → v ≠ goal ∧ ∀ u, R1 l v u → u ∈ all := fun v hv => by
      obtain ⟨j, j1, rfl⟩ := List.mem_iff_getElem.1 hv
      have := hc j (by omega) (by omega)
      rwa [show ix all (j : Int) = all[j] by unfold ix; simp [j1]] at this
    exact closed_no hr hw this
  | succ m ih =>
    intro i all hm i0 i1 ha hw hc
    have h2 := ha.n
    by_cases e : i < all.length
    · have hv := ha.w _ (ix_mem i0 e)
      have h16 := hv.n
      rw [r29_Comes_L3_eq]; unfold r29_Comes_L3_B
      rw [if_pos (by simpa using e), G_pos (by omega), G_pos (by omega), r1_Words_spec (by omega)]
      show NZ (if decide (ix all i = goal) = true then _ else _)
      by_cases c : ix all i = goal
      · rw [if_pos (decide_eq_true c)]; exact ⟨1, rfl, by decide⟩
      · rw [if_neg (by simpa using c)]
        refine at_comes hl hv i0 _ 0 all rfl (by omega) (by omega) ha e rfl (fun all' z1 z2 z3 => ?_)
        have := z2.length_le
        refine ih (i + 1) all' (by omega) (by omega) (by omega) z1 (z2.subset hw) (fun j j0 j1 => ?_)
        rw [ix_pre z2 j0 (by omega)]
        by_cases e2 : j = i
        · subst e2
          refine ⟨c, ?_⟩
          rintro v ⟨a, k, q1, q2, q3, q4, q5, rfl⟩
          exact z3 a k q1 q2 q3 q4 q5
        · obtain ⟨y1, y2⟩ := hc j j0 (by omega)
          exact ⟨y1, fun v hv => z2.subset (y2 v hv)⟩
    · exfalso
      have : ∀ v, v ∈ all → v ≠ goal ∧ ∀ u, R1 l v u → u ∈ all := fun v hv => by
        obtain ⟨j, j1, rfl⟩ := List.mem_iff_getElem.1 hv
        have := hc j (by omega) (by omega)
        rwa [show ix all (j : Int) = all[j] by unfold ix; simp [j1]] at this
      exact closed_no hr hw this
theorem comes_spec (hl : LOk l) {w goal : List Int} (hw : WOk w) (hr : Rs l w goal) : NZ (r29_Comes l w goal) := by
  unfold r29_Comes
  exact comes_all hl hr _ 0 [w] rfl (by omega) (by simp) ⟨by simp, fun v hv => by rw [List.mem_singleton.1 hv]; exact hw⟩ (by simp) (fun j j0 j1 => by omega)
end
theorem law_true (letters : Int) (l : List Sw) : law_RewriteForks letters l = some true := by
  unfold law_RewriteForks
  by_cases h0 : rwE letters l = 0
  · have h4 : letters ≤ 4 ∧ chk letters l = 0 ∧ l.length ≤ 8 := by
      unfold rwE at h0
      by_cases d : letters < 1 ∨ 4 < letters
      · rw [if_pos d] at h0; omega
      · rw [if_neg d] at h0
        by_cases d2 : (8 : Int) < l.length
        · rw [if_pos d2] at h0; omega
        · rw [if_neg d2] at h0; exact ⟨by omega, h0, by omega⟩
    have hl : LOk l := ⟨h4.2.2, chk_zero h4.1 h4.2.1⟩
    have e : rewrite_Fork letters l = rewrite_Fork_L6 l l l 0 [] [] [] := by
      unfold rewrite_Fork
      refine bind_to Check_spec ?_
      rw [if_neg (by simpa using h0)]
    have em : r29_Meet l = r29_Meet_L2 l 0 := rfl
    rcases i_both (n := letters) hl (chk_let h4.2.1) _ 0 rfl (by omega) (by omega) with ⟨w, x, y, hg, h1, h2⟩ | ⟨h1, h2⟩
    · rw [← e] at h1; rw [← em] at h2
      refine bind_to h1 (bind_to rCheck_spec ?_)
      rw [if_neg (by simpa using h0)]
      refine bind_to h2 ?_
      rw [if_neg (by simp), if_neg (by simp), if_neg (by simp)]
      have hw16 := hg.ow.n
      have hx16 := hg.ox.n
      have hlet : r29_Letters w letters = some true := by
        unfold r29_Letters
        obtain ⟨b, hb1, hb2⟩ := letters_tells (n := letters) (w := w) (by omega)
        rw [hb1]
        have : b = true := by simpa [hg.lt] using hb2
        rw [this]; rfl
      refine bind_to hlet (bind_to (r1_Words_spec (by show x.length ≤ _; omega)) (bind_to hg.sx (bind_to hg.sy ?_)))
      rw [if_neg (by simp), if_neg (by simpa using hg.ne), if_neg (by simp), if_neg (by simp), if_neg (by simp; omega)]
      obtain ⟨r, hr1, hr2⟩ := comes_spec hl hg.ow hg.rx
      obtain ⟨t, ht1, ht2⟩ := comes_spec hl hg.ow hg.ry
      refine bind_to hr1 (bind_to ht1 ?_)
      rw [if_pos (by simpa using hr2)]
      simp [ht2]
    · rw [← e] at h1; rw [← em] at h2
      refine bind_to h1 (bind_to rCheck_spec ?_)
      rw [if_neg (by simpa using h0)]
      refine bind_to h2 ?_
      rw [if_neg (by simp), if_neg (by simp), if_pos (by simp)]
      exact G_to (by decide) (G_to (by decide) rfl)
  · have p : rewrite_Fork letters l = some ([], [], [], false, rwE letters l) := by
      unfold rewrite_Fork
      refine bind_to Check_spec ?_
      rw [if_pos (by simpa using h0)]
    refine bind_to p (bind_to rCheck_spec ?_)
    rw [if_pos (by simpa using h0), if_pos (by simp), if_pos (by simp)]
    exact G_to (by unfold fits; simp) (G_to (by unfold fits; simp) rfl)

end Go.Proofs.Ytdcnnmjodpecaaa.rewriteForksW
