/- The law 'WeighJoins' of the plain functions. -/
import Derived.Test.YtgojjheadndbiaaWeighJoinsD
set_option maxHeartbeats 1000000
set_option maxRecDepth 20000
set_option linter.unusedSimpArgs false
set_option linter.unusedVariables false
set_option linter.unusedSectionVars false
namespace Go.Proofs.Ytgojjheadndbiaa.weighJoinsW
open Go Go.Ab
/-- The answer is yes just if P. -/
def Tells (o : Option Bool) (P : Prop) : Prop := ∃ b, o = some b ∧ (b = true ↔ P)
theorem Tells.of {b : Bool} {P : Prop} (h : b = true ↔ P) : Tells (some b) P := ⟨b, rfl, h⟩
theorem Tells.dec {P Q : Prop} [Decidable P] (h : P ↔ Q) : Tells (some (decide P)) Q := ⟨_, rfl, by simpa using h⟩
theorem Tells.iff {o : Option Bool} {P Q : Prop} (h : Tells o P) (k : P ↔ Q) : Tells o Q := let ⟨b, h1, h2⟩ := h; ⟨b, h1, h2.trans k⟩
theorem Tells.eq {o : Option Bool} {P : Prop} [Decidable P] (h : Tells o P) : o = some (decide P) := by
  obtain ⟨b, rfl, hb⟩ := h
  by_cases hp : P
  · simp [hp, hb.2 hp]
  · have : b = false := by cases b; rfl; exact absurd (hb.1 rfl) hp
    simp [hp, this]
theorem Tells.to {R : Type} {o : Option Bool} {P : Prop} {k1 k2 x : Option R} (h : Tells o P) (h1 : P → k1 = x) (h2 : ¬ P → k2 = x) : (o.bind fun y => if y = true then k1 else k2) = x := by
  obtain ⟨b, rfl, hb⟩ := h
  refine bind_to rfl ?_
  cases b
  · exact h2 fun hp => by simpa using hb.2 hp
  · exact h1 (hb.1 rfl)
theorem Tells.bind {R : Type} {o : Option Bool} {P : Prop} {k : Bool → Option R} {x : Option R} (h : Tells o P) (h1 : ∀ b, (b = true ↔ P) → k b = x) : o.bind k = x := by
  obtain ⟨b, rfl, hb⟩ := h
  exact h1 b hb
section
variable {α C : Type} [Inhabited α]
theorem ex_ix {l : List α} {P : α → Prop} : (∃ x ∈ l, P x) ↔ ∃ i : Int, 0 ≤ i ∧ i < l.length ∧ P (ix l i) := by
  constructor
  · rintro ⟨x, hx, hp⟩
    obtain ⟨i, hi, rfl⟩ := List.mem_iff_getElem.1 hx
    refine ⟨i, by omega, by omega, ?_⟩
    rwa [ix_eq (by omega) (by omega)]
  · rintro ⟨i, h0, h1, hp⟩
    exact ⟨_, ix_mem h0 h1, hp⟩
theorem index_loop {s : List α} {f : α → Option Bool} {L : Int → Option Int} {P : α → Prop} (hs : s.length ≤ 4611686018427387904)
    (hL : ∀ t, L t = if decide (t < (s.length : Int)) = true then G (0 ≤ t ∧ t < (s.length : Int)) ((f (ix s t)).bind fun y => if y = true then some t else G (fits (t + 1)) (L (t + 1))) else some (-1))
    (hf : ∀ x ∈ s, Tells (f x) (P x)) : ∀ (n : Nat) (t : Int), 0 ≤ t → t ≤ s.length → (s.length - t).toNat = n →
      ∃ i, L t = some i ∧ ((i = -1 ∧ ∀ j : Int, t ≤ j → j < s.length → ¬ P (ix s j)) ∨ (t ≤ i ∧ i < s.length ∧ P (ix s i) ∧ ∀ j : Int, t ≤ j → j < i → ¬ P (ix s j))) := by
  intro n
  induction n with
  | zero =>
    intro t h0 h1 hn
    refine ⟨-1, ?_, .inl ⟨rfl, fun j a b => by omega⟩⟩
    rw [hL, if_neg (by simp; omega)]
  | succ n ih =>
    intro t h0 h1 hn
    rw [hL, if_pos (by simp; omega), G_pos (by omega)]
    obtain ⟨b, hb, hbp⟩ := hf _ (ix_mem h0 (by omega : t < s.length))
    rw [hb]
    cases b with
    | true => exact ⟨t, rfl, .inr ⟨by omega, by omega, hbp.1 rfl, fun j a b => by omega⟩⟩
    | false =>
      have hnp : ¬ P (ix s t) := fun hp => by simpa using hbp.2 hp
      obtain ⟨i, hi, hc⟩ := ih (t + 1) (by omega) (by omega) (by omega)
      refine ⟨i, ?_, ?_⟩
      · refine (if_neg (by simp) : (if false = true then some t else G (fits (t + 1)) (L (t + 1))) = _).trans ?_
        rw [G_pos (by unfold fits; omega), hi]
      · rcases hc with ⟨h2, h3⟩ | ⟨h2, h3, h4, h5⟩
        · refine .inl ⟨h2, fun j a b => ?_⟩
          by_cases e : j = t
          · rw [e]; exact hnp
          · exact h3 j (by omega) b
        · refine .inr ⟨by omega, h3, h4, fun j a b => ?_⟩
          by_cases e : j = t
          · rw [e]; exact hnp
          · exact h5 j (by omega) b
theorem contains_tells {s : List α} {f : α → Option Bool} {L : Int → Option Int} {P : α → Prop}
    (hL : ∀ t, L t = if decide (t < (s.length : Int)) = true then G (0 ≤ t ∧ t < (s.length : Int)) ((f (ix s t)).bind fun y => if y = true then some t else G (fits (t + 1)) (L (t + 1))) else some (-1))
    (hs : s.length ≤ 4611686018427387904) (hf : ∀ x ∈ s, Tells (f x) (P x)) : Tells ((L 0).bind fun y => some (decide ((0 : Int) ≤ y))) (∃ x ∈ s, P x) := by
  obtain ⟨i, hi, hc⟩ := index_loop hs hL hf _ 0 (by omega) (by omega) rfl
  rw [hi]
  refine ⟨decide (0 ≤ i), rfl, ?_⟩
  rw [decide_eq_true_iff, ex_ix]
  rcases hc with ⟨h2, h3⟩ | ⟨h2, h3, h4, h5⟩
  · constructor
    · intro h; omega
    · rintro ⟨j, h0, h1, hp⟩; exact absurd hp (h3 j h0 h1)
  · exact ⟨fun _ => ⟨i, by omega, h3, h4⟩, fun _ => by omega⟩
/-- .. of what carries along what it reads. -/
theorem contains_tells2 {s : List α} {c : C} {f : α → C → Option (Bool × C)} {L : Int → C → Option (Int × C)} {P : α → Prop}
    (hL : ∀ t c, L t c = if decide (t < (s.length : Int)) = true then G (0 ≤ t ∧ t < (s.length : Int)) ((f (ix s t) c).bind fun y => if y.1 = true then some (t, y.2) else G (fits (t + 1)) (L (t + 1) y.2)) else some (-1, c))
    (hs : s.length ≤ 4611686018427387904) (hf : ∀ x ∈ s, ∃ b, f x c = some (b, c) ∧ (b = true ↔ P x)) : ∃ b, ((L 0 c).bind fun y => some (decide ((0 : Int) ≤ y.1), y.2)) = some (b, c) ∧ (b = true ↔ ∃ x ∈ s, P x) := by
  have key : ∀ (n : Nat) (t : Int), 0 ≤ t → t ≤ s.length → (s.length - t).toNat = n →
      ∃ i, L t c = some (i, c) ∧ ((i = -1 ∧ ∀ j : Int, t ≤ j → j < s.length → ¬ P (ix s j)) ∨ (t ≤ i ∧ i < s.length ∧ P (ix s i))) := by
    intro n
    induction n with
    | zero =>
      intro t h0 h1 hn
      refine ⟨-1, ?_, .inl ⟨rfl, fun j a b => by omega⟩⟩
      rw [hL, if_neg (by simp; omega)]
    | succ n ih =>
      intro t h0 h1 hn
      rw [hL, if_pos (by simp; omega), G_pos (by omega)]
      obtain ⟨b, hb, hbp⟩ := hf _ (ix_mem h0 (by omega : t < s.length))
      rw [hb]
      cases b with
      | true => exact ⟨t, rfl, .inr ⟨by omega, by omega, hbp.1 rfl⟩⟩
      | false =>
        have hnp : ¬ P (ix s t) := fun hp => by simpa using hbp.2 hp
        obtain ⟨i, hi, hc⟩ := ih (t + 1) (by omega) (by omega) (by omega)
        refine ⟨i, ?_, ?_⟩
        · refine (if_neg (by simp) : (if false = true then some (t, c) else G (fits (t + 1)) (L (t + 1) c)) = _).trans ?_
          rw [G_pos (by unfold fits; omega), hi]
        · rcases hc with ⟨h2, h3⟩ | ⟨h2, h3, h4⟩
          · refine .inl ⟨h2, fun j a b => ?_⟩
            by_cases e : j = t
            · rw [e]; exact hnp
            · exact h3 j (by omega) b
          · exact .inr ⟨by omega, h3, h4⟩
  obtain ⟨i, hi, hc⟩ := key _ 0 (by omega) (by omega) rfl
  rw [hi]
  refine ⟨decide (0 ≤ i), rfl, ?_⟩
  rw [decide_eq_true_iff, ex_ix]
  rcases hc with ⟨h2, h3⟩ | ⟨h2, h3, h4⟩
  · constructor
    · intro h; omega
    · rintro ⟨j, h0, h1, hp⟩; exact absurd hp (h3 j h0 h1)
  · exact ⟨fun _ => ⟨i, by omega, h3, h4⟩, fun _ => by omega⟩
end
/-- A loop that looks for the first fault. -/
theorem scan_to {R : Type} {len : Int} {L : Int → Option R} {bad : Int → Prop} {x : Option R} {lo : Int} (h0 : lo ≤ len)
    (hs : ∀ t, lo ≤ t → t < len → (bad t → L t = x) ∧ (¬ bad t → L t = L (t + 1))) (hf : (∀ t, lo ≤ t → t < len → ¬ bad t) → L len = x) : L lo = x := by
  have key : ∀ (n : Nat) (t : Int), lo ≤ t → t ≤ len → (len - t).toNat = n → (∀ j, lo ≤ j → j < t → ¬ bad j) → L t = x := by
    intro n
    induction n with
    | zero =>
      intro t h1 h2 hn h
      obtain rfl : t = len := by omega
      exact hf h
    | succ n ih =>
      intro t h1 h2 hn h
      by_cases hb : bad t
      · exact (hs t h1 (by omega)).1 hb
      · rw [(hs t h1 (by omega)).2 hb]
        refine ih (t + 1) (by omega) (by omega) (by omega) fun j a b => ?_
        by_cases e : j = t
        · rw [e]; exact hb
        · exact h j a (by omega)
  exact key _ lo (Int.le_refl _) h0 rfl (fun j a b => by omega)
/-- A loop that counts, with a state. -/
theorem fold_to {R S : Type} {len : Int} {L : Int → S → Option R} {f : Int → S → S} {lo : Int} {I : Int → S → Prop} {s : S} (h0 : lo ≤ len) (hI : I lo s)
    (hs : ∀ t s, lo ≤ t → t < len → I t s → L t s = L (t + 1) (f t s) ∧ I (t + 1) (f t s)) : ∃ s', I len s' ∧ L lo s = L len s' := by
  have key : ∀ (n : Nat) (t : Int) (s : S), lo ≤ t → t ≤ len → (len - t).toNat = n → I t s → ∃ s', I len s' ∧ L t s = L len s' := by
    intro n
    induction n with
    | zero =>
      intro t s h1 h2 hn h
      obtain rfl : t = len := by omega
      exact ⟨s, h, rfl⟩
    | succ n ih =>
      intro t s h1 h2 hn h
      obtain ⟨e, h3⟩ := hs t s h1 (by omega) h
      obtain ⟨s', h4, h5⟩ := ih (t + 1) _ (by omega) (by omega) (by omega) h3
      exact ⟨s', h4, e.trans h5⟩
  exact key _ lo s (Int.le_refl _) h0 rfl hI

theorem slices_Clone_spec {s : List Int} (hs : s.length * 8 ≤ 140737488355328) : slices_Clone s = some s := by
  have hr : G (room ([] : List Int) s 8) (some (([] : List Int) ++ s)) = some s := by
    rw [G_pos (room_of (by simpa using hs))]; rfl
  unfold slices_Clone
  refine itep_to (fun h => ?_) (fun h => hr)
  obtain rfl : s = [] := List.length_eq_zero_iff.1 h
  rw [hr]; exact both_self (ts := [(.list (.int .i64))]) (some ([] : List Int))

theorem slices_Grow_spec {n : Int} (h0 : 0 ≤ n) (h : n * 8 ≤ 140737488355328) : slices_Grow n = some [] := by
  unfold slices_Grow
  (try dsimp only); (repeat' first | (with_reducible refine G_to ?_ ?_; focus (first | omega | (unfold fits; omega) | (unfold room; (try simp only [List.length_append, List.length_cons, List.length_nil]); omega))) | (with_reducible refine both_to ?_ ?_) | (with_reducible refine itet_to ?_) | (with_reducible refine itef_to ?_) | (with_reducible refine ite_to (fun _ => ?_) (fun _ => ?_))) <;> try (exfalso; omega)
  all_goals first | rfl | (rw [show ((0 : Int)).toNat = 0 from rfl, List.take_zero])
theorem slices_Concat_spec {ls : List (List Int)} (h : ls.length ≤ 1000) (hl : (ls.flatten.length : Int) * 8 ≤ 140737488355328) : slices_Concat ls = some ls.flatten := by
  have sum : ∀ (k : Nat), ((ls.take k).flatten.length : Int) ≤ ls.flatten.length := by
    intro k
    have : ls.flatten = (ls.take k).flatten ++ (ls.drop k).flatten := by rw [← List.flatten_append, List.take_append_drop]
    rw [this, List.length_append]; omega
  have tk : ∀ t : Int, 0 ≤ t → t < ls.length → (ls.take (t + 1).toNat).flatten = (ls.take t.toNat).flatten ++ ix ls t := fun t h0 h1 => by
    rw [ix_take h0 h1, List.flatten_append]; simp
  unfold slices_Concat
  have k2 : ∀ (n : Nat) (t : Int), (ls.length - t).toNat = n → 0 ≤ t → t ≤ ls.length → slices_Concat_L11 ls t (ls.take t.toNat).flatten = some ls.flatten := by
    intro n
    induction n with
    | zero =>
      intro t hn h0 h1
      rw [slices_Concat_L11_eq]; unfold slices_Concat_L11_B
      rw [List.take_of_length_le (by omega), if_neg (by simp only [decide_eq_true_eq]; omega)]
    | succ n ih =>
      intro t hn h0 h1
      have e := tk t h0 (by omega)
      have s := sum (t + 1).toNat
      rw [e, List.length_append] at s
      rw [slices_Concat_L11_eq]; unfold slices_Concat_L11_B
      (try dsimp only); (repeat' first | (with_reducible refine G_to ?_ ?_; focus (first | omega | (unfold fits; omega) | (unfold room; (try simp only [List.length_append, List.length_cons, List.length_nil]); omega))) | (with_reducible refine both_to ?_ ?_) | (with_reducible refine itet_to ?_) | (with_reducible refine itef_to ?_) | (with_reducible refine ite_to (fun _ => ?_) (fun _ => ?_))) <;> try (exfalso; omega)
      rw [← e]
      exact ih (t + 1) (by omega) (by omega) (by omega)
  have k1 : ∀ (n : Nat) (t : Int), (ls.length - t).toNat = n → 0 ≤ t → t ≤ ls.length → slices_Concat_L3 ls ((ls.take t.toNat).flatten.length : Int) t = some ls.flatten := by
    intro n
    induction n with
    | zero =>
      intro t hn h0 h1
      rw [slices_Concat_L3_eq]; unfold slices_Concat_L3_B
      rw [List.take_of_length_le (by omega), if_neg (by simp only [decide_eq_true_eq]; omega)]
      refine bind_to (slices_Grow_spec (by omega) hl) ?_
      have := k2 _ 0 rfl (by omega) (by omega)
      simpa using this
    | succ n ih =>
      intro t hn h0 h1
      have e := tk t h0 (by omega)
      have s := sum (t + 1).toNat
      have ih' := ih (t + 1) (by omega) (by omega) (by omega)
      rw [e, List.length_append] at s ih'
      rw [slices_Concat_L3_eq]; unfold slices_Concat_L3_B
      (try dsimp only); (repeat' first | (with_reducible refine G_to ?_ ?_; focus (first | omega | (unfold fits; omega) | (unfold room; (try simp only [List.length_append, List.length_cons, List.length_nil]); omega))) | (with_reducible refine both_to ?_ ?_) | (with_reducible refine itet_to ?_) | (with_reducible refine itef_to ?_) | (with_reducible refine ite_to (fun _ => ?_) (fun _ => ?_))) <;> try (exfalso; omega)
      rw [← ih']; congr 1
  have := k1 _ 0 rfl (by omega) (by omega)
  simpa using this

theorem r1_May_L6_spec {letters : Int} {w : List Int} (hL : 1 ≤ letters ∧ letters ≤ 4) (hw : w.length ≤ (60 : Int)) : ∀ (n : Nat) (i : Int), 0 ≤ i → i ≤ w.length → (w.length - i).toNat = n → (∀ j : Int, 0 ≤ j → j < i → 0 ≤ ix w j ∧ ix w j < letters) → r1_May_L6 letters w i = some (mayE letters w) := by
  intro n
  induction n with
  | zero =>
    intro i h0 h1 hn h
    rw [r1_May_L6_eq]; unfold r1_May_L6_B
    (try dsimp only); (repeat' first | (with_reducible refine G_to ?_ ?_; focus (first | omega | (unfold fits; omega) | (unfold room; (try simp only [List.length_append, List.length_cons, List.length_nil]); omega))) | (with_reducible refine both_to ?_ ?_) | (with_reducible refine itet_to ?_) | (with_reducible refine itef_to ?_) | (with_reducible refine ite_to (fun _ => ?_) (fun _ => ?_))) <;> try (exfalso; omega)
    · rw [mayE_ok hL hw (fun j a b => h j a (by omega))]
  | succ n ih =>
    intro i h0 h1 hn h
    rw [r1_May_L6_eq]; unfold r1_May_L6_B
    (try dsimp only); (repeat' first | (with_reducible refine G_to ?_ ?_; focus (first | omega | (unfold fits; omega) | (unfold room; (try simp only [List.length_append, List.length_cons, List.length_nil]); omega))) | (with_reducible refine both_to ?_ ?_) | (with_reducible refine itet_to ?_) | (with_reducible refine itef_to ?_) | (with_reducible refine ite_to (fun _ => ?_) (fun _ => ?_))) <;> try (exfalso; omega)
    · rw [mayE_bad hL hw (i := i) (by omega) (by omega)]
    · rw [mayE_bad hL hw (i := i) (by omega) (by omega)]
    · exact ih _ (by omega) (by omega) (by omega) (below_succ h (by omega))
theorem r1_May_spec {letters : Int} {w : List Int} : r1_May letters w = some (mayE letters w) := by
  unfold r1_May
  (try dsimp only); (repeat' first | (with_reducible refine G_to ?_ ?_; focus (first | omega | (unfold fits; omega) | (unfold room; (try simp only [List.length_append, List.length_cons, List.length_nil]); omega))) | (with_reducible refine both_to ?_ ?_) | (with_reducible refine itet_to ?_) | (with_reducible refine itef_to ?_) | (with_reducible refine ite_to (fun _ => ?_) (fun _ => ?_))) <;> try (exfalso; omega)
  · rw [mayE_range (by omega)]
  · rw [mayE_range (by omega)]
  · rw [mayE_size (by omega) (by omega)]
  · exact r1_May_L6_spec (by omega) (by omega) _ 0 (by omega) (by omega) rfl (fun j a b => by omega)

/- Whole numbers of any length, by figures of 10000. -/
abbrev Wh := Bool × List Int × Unit
def nv : List Int → Int
  | [] => 0
  | d :: l => d + 10000 * nv l
def Dig (l : List Int) : Prop := ∀ d ∈ l, 0 ≤ d ∧ d < 10000
def Top : List Int → Prop
  | [] => True
  | [d] => ¬ d = 0
  | _ :: e :: l => Top (e :: l)
theorem nv_cons (d : Int) (l : List Int) : nv (d :: l) = d + 10000 * nv l := rfl
theorem nv_nonneg : ∀ {l : List Int}, Dig l → 0 ≤ nv l
  | [], _ => by show (0 : Int) ≤ 0; omega
  | d :: l, h => by
    have h1 := h d (by simp)
    have h2 := nv_nonneg (l := l) fun x hx => h x (by simp [hx])
    rw [nv_cons]; omega
theorem nv_pos : ∀ {l : List Int}, Dig l → Top l → l ≠ [] → 0 < nv l
  | [], _, _, h => absurd rfl h
  | [d], h, ht, _ => by
    have h1 := h d (by simp)
    have : ¬ d = 0 := ht
    show 0 < d + 10000 * 0
    omega
  | d :: e :: l, h, ht, _ => by
    have h1 := h d (by simp)
    have h2 := nv_pos (l := e :: l) (fun x hx => h x (by simp only [List.mem_cons] at hx ⊢; exact .inr hx)) ht (by simp)
    rw [nv_cons]; omega
theorem nv_len : ∀ {a b : List Int}, Dig a → Dig b → Top b → a.length < b.length → nv a < nv b
  | [], b, _, hb, ht, hl => nv_pos hb ht (by intro e; subst e; simp at hl)
  | d :: a, [], _, _, _, hl => by simp at hl
  | d :: a, [e], _, _, _, hl => by simp at hl
  | d :: a, e :: f :: b, ha, hb, ht, hl => by
    have h1 := ha d (by simp)
    have h2 := hb e (by simp)
    have h3 := nv_len (a := a) (b := f :: b) (fun x hx => ha x (by simp [hx])) (fun x hx => hb x (by simp only [List.mem_cons] at hx ⊢; exact .inr hx)) ht (by simp at hl ⊢; omega)
    rw [nv_cons, nv_cons]; omega
theorem nv_snoc : ∀ (l : List Int), nv (l ++ [0]) = nv l
  | [] => rfl
  | d :: l => by rw [List.cons_append, nv_cons, nv_cons, nv_snoc]
theorem top_snoc : ∀ (l : List Int) {x : Int}, ¬ x = 0 → Top (l ++ [x])
  | [], x, h => h
  | [d], x, h => h
  | d :: e :: l, x, h => top_snoc (e :: l) h
theorem nv_drop {l : List Int} {i : Nat} (h : i < l.length) : nv (l.drop i) = ix l (i : Int) + 10000 * nv (l.drop (i + 1)) := by
  have := ix_drop (l := l) (i := (i : Int)) (by omega) (by omega)
  rw [Int.toNat_natCast, show ((i : Int) + 1).toNat = i + 1 from by omega] at this
  rw [this, nv_cons]
theorem nv_drop_ge {l : List Int} {i : Nat} (h : l.length ≤ i) : nv (l.drop i) = 0 := by rw [List.drop_eq_nil_of_le h]; rfl
theorem Dig.ix {l : List Int} (h : Dig l) {i : Int} (h0 : 0 ≤ i) (h1 : i < l.length) : 0 ≤ ix l i ∧ ix l i < 10000 := h _ (ix_mem h0 h1)
theorem Dig.drop {l : List Int} (h : Dig l) (i : Nat) : Dig (l.drop i) := fun x hx => h x (List.mem_of_mem_drop hx)
theorem Dig.snoc {l : List Int} (h : Dig l) {d : Int} (h0 : 0 ≤ d ∧ d < 10000) : Dig (l ++ [d]) := fun x hx => (List.mem_append.1 hx).elim (h x) fun e => by rw [List.mem_singleton.1 e]; exact h0
def val (x : Wh) : Int := if x.1 = true then - nv x.2.1 else nv x.2.1
structure Wok (x : Wh) : Prop where
  dig : Dig x.2.1
  top : Top x.2.1
theorem trim_spec {below : Bool} {l : List Int} (h : Dig l) (hl : l.length ≤ 100000) : ∃ x, evermorenum_trim below l = some x ∧ Wok x ∧ val x = (if below = true then - nv l else nv l) ∧ x.2.1.length ≤ l.length := by
  have key : ∀ n : Nat, n ≤ l.length → nv (l.take n) = nv l → ∃ x, evermorenum_trim_L2 below l n = some x ∧ Wok x ∧ val x = (if below = true then - nv l else nv l) ∧ x.2.1.length ≤ l.length := by
    have fin : ∀ n : Nat, n ≤ l.length → nv (l.take n) = nv l → Top (l.take n) → ∃ x, evermorenum_trim_J3 below l n = some x ∧ Wok x ∧ val x = (if below = true then - nv l else nv l) ∧ x.2.1.length ≤ l.length := by
      intro n hn e ht
      have ec : cut l 0 (n : Int) = l.take n := by unfold cut; simp
      have hd : Dig (l.take n) := fun x hx => h x (List.mem_of_mem_take hx)
      unfold evermorenum_trim_J3
      cases below with
      | true =>
        rw [if_pos rfl, G_pos (by omega), ec]
        refine ⟨_, rfl, ⟨hd, ht⟩, ?_, by show (l.take n).length ≤ _; rw [List.length_take]; omega⟩
        unfold val
        rw [if_pos rfl]
        by_cases c : 0 < n
        · rw [if_pos (by simpa using c)]; show - nv (l.take n) = _; rw [e]
        · obtain rfl : n = 0 := by omega
          rw [if_neg (by simp), ← e]; rfl
      | false =>
        rw [if_neg (by simp), G_pos (by omega), ec]
        refine ⟨_, rfl, ⟨hd, ht⟩, ?_, by show (l.take n).length ≤ _; rw [List.length_take]; omega⟩
        unfold val
        rw [if_neg (by simp), if_neg (by simp)]; exact e
    intro n
    induction n with
    | zero =>
      intro hn e
      rw [evermorenum_trim_L2_eq]; unfold evermorenum_trim_L2_B
      rw [if_neg (by simp)]
      exact fin 0 hn e trivial
    | succ n ih =>
      intro hn e
      have et := ix_take (l := l) (i := (n : Int)) (by omega) (by omega)
      rw [Int.toNat_natCast, show ((n : Int) + 1).toNat = n + 1 from by omega] at et
      have hi : ((n + 1 : Nat) : Int) - 1 = n := by omega
      rw [evermorenum_trim_L2_eq]; unfold evermorenum_trim_L2_B
      rw [if_pos (by rw [decide_eq_true_iff]; omega), hi, G_pos (by unfold fits; omega), G_pos (by omega)]
      by_cases c : ix l (n : Int) = 0
      · rw [if_pos (decide_eq_true c), G_pos (by unfold fits; omega)]
        exact ih (by omega) (by rw [← e, et, c, nv_snoc])
      · rw [if_neg (by simpa using c)]
        exact fin (n + 1) hn e (by rw [et]; exact top_snoc _ c)
  unfold evermorenum_trim
  exact key l.length (Nat.le_refl _) (by rw [List.take_length])
theorem Of_spec {n : Int} (h : -10000 < n ∧ n < 10000) : ∃ x, evermorenum_Of n = some x ∧ Wok x ∧ val x = n ∧ x.2.1.length ≤ 1 := by
  have main : ∀ m : Int, 0 ≤ m → m < 10000 → (n < 0 → m = -n) → (0 ≤ n → m = n) → ∃ x, evermorenum_Of_L5 n m [] = some x ∧ Wok x ∧ val x = n ∧ x.2.1.length ≤ 1 := by
    intro m m0 m1 h1 h2
    by_cases c : m = 0
    · have hn : n = 0 := by omega
      subst hn; subst c
      rw [evermorenum_Of_L5_eq]; unfold evermorenum_Of_L5_B
      rw [if_neg (by simp)]
      obtain ⟨x, e1, e2, e3, e4⟩ := trim_spec (below := decide ((0 : Int) < 0)) (l := []) (fun _ h => by cases h) (by simp)
      exact ⟨x, bind_to e1 rfl, e2, by rw [e3]; simp [nv], by simp at e4; simp [e4]⟩
    · have hm : Int.tmod m 10000 = m := Int.tmod_eq_of_lt m0 m1
      have hd : Int.tdiv m 10000 = 0 := Int.tdiv_eq_zero_of_lt m0 m1
      rw [evermorenum_Of_L5_eq]; unfold evermorenum_Of_L5_B
      rw [if_pos (by simp; omega), hm, hd, G_pos (by omega), G_pos (by unfold room; simp), G_pos (by omega), G_pos (by unfold fits; omega)]
      rw [evermorenum_Of_L5_eq]; unfold evermorenum_Of_L5_B
      rw [if_neg (by simp)]
      obtain ⟨x, e1, e2, e3, e4⟩ := trim_spec (below := decide (n < 0)) (l := [] ++ [m]) (fun d hd => by rw [List.nil_append, List.mem_singleton] at hd; omega) (by simp)
      refine ⟨x, bind_to e1 rfl, e2, ?_, by simpa using e4⟩
      rw [e3]
      show (if decide (n < 0) = true then - (m + 10000 * 0) else m + 10000 * 0) = n
      by_cases c2 : n < 0
      · rw [if_pos (decide_eq_true c2)]; have := h1 c2; omega
      · rw [if_neg (by simpa using c2)]; have := h2 (by omega); omega
  unfold evermorenum_Of evermorenum_Of_J3
  by_cases c : n < 0
  · rw [if_pos (decide_eq_true c), G_pos (by unfold fits; omega)]
    exact main _ (by omega) (by omega) (fun _ => by omega) (fun _ => by omega)
  · rw [if_neg (by simpa using c)]
    exact main _ (by omega) (by omega) (fun _ => by omega) (fun _ => by omega)
theorem plus_spec {a b : List Int} (ha : Dig a) (hb : Dig b) (la : a.length ≤ 10000) (lb : b.length ≤ 10000) : ∃ o, evermorenum_plus a b = some o ∧ Dig o ∧ nv o = nv a + nv b ∧ (o.length ≤ a.length + 1 ∨ o.length ≤ b.length + 1) := by
  have key : ∀ (f i : Nat) (carry : Int) (out : List Int), 10001 - i = f → out.length = i → Dig out → (carry = 0 ∨ carry = 1) → (i ≤ a.length ∨ i ≤ b.length ∨ ((i ≤ a.length + 1 ∨ i ≤ b.length + 1) ∧ carry = 0)) →
      ∃ r, evermorenum_plus_L4 a b carry i out = some (out ++ r) ∧ Dig (out ++ r) ∧ nv r = carry + nv (a.drop i) + nv (b.drop i) ∧ ((out ++ r).length ≤ a.length + 1 ∨ (out ++ r).length ≤ b.length + 1) := by
    intro f
    induction f with
    | zero =>
      intro i carry out hf ho hd hc hi
      have ea := nv_drop_ge (l := a) (i := i) (by omega)
      have eb := nv_drop_ge (l := b) (i := i) (by omega)
      have hc0 : carry = 0 := by omega
      rw [evermorenum_plus_L4_eq]; unfold evermorenum_plus_L4_B
      rw [if_neg (by simp; omega), if_neg (by simp; omega), if_neg (by simp; omega)]
      refine ⟨[], by simp, by simpa using hd, by rw [ea, eb, hc0]; rfl, by rw [List.append_nil]; omega⟩
    | succ f ih =>
      intro i carry out hf ho hd hc hi
      have step : ∀ (A B n : Int), nv (a.drop i) = A + 10000 * nv (a.drop (i + 1)) → nv (b.drop i) = B + 10000 * nv (b.drop (i + 1)) → n = carry + A + B → 0 ≤ A → A < 10000 → 0 ≤ B → B < 10000 → ((i < a.length ∨ i < b.length) ∨ (A = 0 ∧ B = 0 ∧ (i ≤ a.length ∨ i ≤ b.length))) →
          ∃ r, evermorenum_plus_J10 i out (evermorenum_plus_L4 a b) n = some (out ++ r) ∧ Dig (out ++ r) ∧ nv r = carry + nv (a.drop i) + nv (b.drop i) ∧ ((out ++ r).length ≤ a.length + 1 ∨ (out ++ r).length ≤ b.length + 1) := by
        intro A B n eA eB en A0 A1 B0 B1 hx
        have n0 : 0 ≤ n := by omega
        have em : Int.tmod n 10000 = n % 10000 := Int.tmod_eq_emod_of_nonneg n0
        have ed : Int.tdiv n 10000 = n / 10000 := Int.tdiv_eq_ediv_of_nonneg n0
        unfold evermorenum_plus_J10
        rw [em, ed, G_pos (by omega), G_pos (by unfold room; simp; omega), G_pos (by omega), G_pos (by unfold fits; omega), G_pos (by unfold fits; omega)]
        obtain ⟨r, r1, r2, r3, r4⟩ := ih (i + 1) (n / 10000) (out ++ [n % 10000]) (by omega) (by simp; omega) (hd.snoc (by omega)) (by omega) (by omega)
        refine ⟨n % 10000 :: r, ?_, ?_, ?_, ?_⟩
        · rw [show out ++ n % 10000 :: r = out ++ [n % 10000] ++ r from by simp]; exact r1
        · rw [show out ++ n % 10000 :: r = out ++ [n % 10000] ++ r from by simp]; exact r2
        · rw [nv_cons, r3, eA, eB]; omega
        · rw [show out ++ n % 10000 :: r = out ++ [n % 10000] ++ r from by simp]; exact r4
      have j4 : ((i < a.length ∨ i < b.length) ∨ (i ≤ a.length ∨ i ≤ b.length)) → ∃ r, evermorenum_plus_J4 a b carry i out (evermorenum_plus_L4 a b) = some (out ++ r) ∧ Dig (out ++ r) ∧ nv r = carry + nv (a.drop i) + nv (b.drop i) ∧ ((out ++ r).length ≤ a.length + 1 ∨ (out ++ r).length ≤ b.length + 1) := by
        intro hx
        unfold evermorenum_plus_J4 evermorenum_plus_J8
        by_cases c1 : i < a.length
        · have hA := ha.ix (i := (i : Int)) (by omega) (by omega)
          have eA := nv_drop c1
          rw [if_pos (by simpa using c1), G_pos (by omega), G_pos (by unfold fits; omega)]
          by_cases c2 : i < b.length
          · have hB := hb.ix (i := (i : Int)) (by omega) (by omega)
            have eB := nv_drop c2
            rw [if_pos (by simpa using c2), G_pos (by omega), G_pos (by unfold fits; omega)]
            exact step _ _ _ eA eB rfl hA.1 hA.2 hB.1 hB.2 (.inl (.inl c1))
          · rw [if_neg (by simpa using c2)]
            exact step _ 0 _ eA (by rw [nv_drop_ge (by omega), nv_drop_ge (by omega)]; rfl) (by omega) hA.1 hA.2 (by omega) (by omega) (.inl (.inl c1))
        · rw [if_neg (by simpa using c1)]
          by_cases c2 : i < b.length
          · have hB := hb.ix (i := (i : Int)) (by omega) (by omega)
            have eB := nv_drop c2
            rw [if_pos (by simpa using c2), G_pos (by omega), G_pos (by unfold fits; omega)]
            exact step 0 _ _ (by rw [nv_drop_ge (by omega), nv_drop_ge (by omega)]; rfl) eB (by omega) (by omega) (by omega) hB.1 hB.2 (.inl (.inr c2))
          · rw [if_neg (by simpa using c2)]
            exact step 0 0 _ (by rw [nv_drop_ge (by omega), nv_drop_ge (by omega)]; rfl) (by rw [nv_drop_ge (by omega), nv_drop_ge (by omega)]; rfl) (by omega) (by omega) (by omega) (by omega) (by omega) (.inr ⟨rfl, rfl, by omega⟩)
      rw [evermorenum_plus_L4_eq]; unfold evermorenum_plus_L4_B
      by_cases c1 : i < a.length
      · rw [if_pos (by simpa using c1)]; exact j4 (.inl (.inl c1))
      · rw [if_neg (by simpa using c1)]
        by_cases c2 : i < b.length
        · rw [if_pos (by simpa using c2)]; exact j4 (.inl (.inr c2))
        · rw [if_neg (by simpa using c2)]
          by_cases c3 : 0 < carry
          · rw [if_pos (by simpa using c3)]; exact j4 (.inr (by omega))
          · rw [if_neg (by simpa using c3)]
            refine ⟨[], by simp, by simpa using hd, ?_, by rw [List.append_nil]; omega⟩
            rw [nv_drop_ge (l := a) (by omega), nv_drop_ge (l := b) (by omega)]; show (0 : Int) = _; omega
  obtain ⟨r, r1, r2, r3, r4⟩ := key _ 0 0 [] rfl rfl (fun _ h => by cases h) (.inl rfl) (.inl (Nat.zero_le _))
  exact ⟨r, r1, r2, by rw [r3]; simp, r4⟩
theorem minus_spec {a b : List Int} (ha : Dig a) (hb : Dig b) (la : a.length ≤ 10000) (hab : nv b ≤ nv a) : ∃ o, evermorenum_minus a b = some o ∧ Dig o ∧ nv o = nv a - nv b ∧ o.length ≤ a.length := by
  have key : ∀ (f i : Nat) (carry : Int) (out : List Int), a.length - i = f → i ≤ a.length → out.length = i → Dig out → (carry = 0 ∨ carry = 1) → nv (b.drop i) + carry ≤ nv (a.drop i) →
      ∃ r, evermorenum_minus_L4 a b carry i out = some (out ++ r) ∧ Dig (out ++ r) ∧ nv r = nv (a.drop i) - nv (b.drop i) - carry ∧ (out ++ r).length ≤ a.length := by
    intro f
    induction f with
    | zero =>
      intro i carry out hf hi ho hd hc hle
      have ea := nv_drop_ge (l := a) (i := i) (by omega)
      have eb := nv_nonneg (hb.drop i)
      rw [evermorenum_minus_L4_eq]; unfold evermorenum_minus_L4_B
      rw [if_neg (by simp; omega)]
      exact ⟨[], by simp, by simpa using hd, by show (0 : Int) = _; omega, by rw [List.append_nil]; omega⟩
    | succ f ih =>
      intro i carry out hf hi ho hd hc hle
      have hA := ha.ix (i := (i : Int)) (by omega) (by omega)
      have eA := nv_drop (l := a) (i := i) (by omega)
      have step : ∀ (B n : Int), nv (b.drop i) = B + 10000 * nv (b.drop (i + 1)) → n = ix a (i : Int) - carry - B → 0 ≤ B → B < 10000 →
          ∃ r, evermorenum_minus_J8 i out (evermorenum_minus_L4 a b) n = some (out ++ r) ∧ Dig (out ++ r) ∧ nv r = nv (a.drop i) - nv (b.drop i) - carry ∧ (out ++ r).length ≤ a.length := by
        intro B n eB en B0 B1
        unfold evermorenum_minus_J8 evermorenum_minus_J12
        by_cases c : n < 0
        · rw [if_pos (decide_eq_true c), G_pos (by unfold fits; omega), G_pos (by unfold room; simp; omega), G_pos (by unfold fits; omega)]
          obtain ⟨r, r1, r2, r3, r4⟩ := ih (i + 1) 1 (out ++ [n + 10000]) (by omega) (by omega) (by simp; omega) (hd.snoc (by omega)) (by omega) (by omega)
          refine ⟨(n + 10000) :: r, ?_, ?_, ?_, ?_⟩
          · rw [show out ++ (n + 10000) :: r = out ++ [n + 10000] ++ r from by simp]; exact r1
          · rw [show out ++ (n + 10000) :: r = out ++ [n + 10000] ++ r from by simp]; exact r2
          · rw [nv_cons, r3, eA, eB]; omega
          · rw [show out ++ (n + 10000) :: r = out ++ [n + 10000] ++ r from by simp]; exact r4
        · rw [if_neg (by simpa using c), G_pos (by unfold room; simp; omega), G_pos (by unfold fits; omega)]
          obtain ⟨r, r1, r2, r3, r4⟩ := ih (i + 1) 0 (out ++ [n]) (by omega) (by omega) (by simp; omega) (hd.snoc (by omega)) (by omega) (by omega)
          refine ⟨n :: r, ?_, ?_, ?_, ?_⟩
          · rw [show out ++ n :: r = out ++ [n] ++ r from by simp]; exact r1
          · rw [show out ++ n :: r = out ++ [n] ++ r from by simp]; exact r2
          · rw [nv_cons, r3, eA, eB]; omega
          · rw [show out ++ n :: r = out ++ [n] ++ r from by simp]; exact r4
      rw [evermorenum_minus_L4_eq]; unfold evermorenum_minus_L4_B
      rw [if_pos (by simp; omega), G_pos (by omega), G_pos (by unfold fits; omega)]
      by_cases c2 : i < b.length
      · have hB := hb.ix (i := (i : Int)) (by omega) (by omega)
        have eB := nv_drop c2
        rw [if_pos (by simpa using c2), G_pos (by omega), G_pos (by unfold fits; omega)]
        exact step _ _ eB rfl hB.1 hB.2
      · rw [if_neg (by simpa using c2)]
        exact step 0 _ (by rw [nv_drop_ge (by omega), nv_drop_ge (by omega)]; rfl) (by omega) (by omega) (by omega)
  obtain ⟨r, r1, r2, r3, r4⟩ := key _ 0 0 [] rfl (Nat.zero_le _) rfl (fun _ h => by cases h) (.inl rfl) (by simpa using hab)
  exact ⟨r, r1, r2, by rw [r3]; simp, r4⟩
theorem nv_up {a b : List Int} (ha : Dig a) (hb : Dig b) : ∀ i : Nat, i ≤ a.length → i ≤ b.length → nv (a.drop i) < nv (b.drop i) → nv a < nv b
  | 0, _, _, h => h
  | i + 1, h1, h2, h => by
    have hA := ha.ix (i := (i : Int)) (by omega) (by omega)
    have hB := hb.ix (i := (i : Int)) (by omega) (by omega)
    refine nv_up ha hb i (by omega) (by omega) ?_
    rw [nv_drop (l := a) (by omega), nv_drop (l := b) (by omega)]
    omega
theorem size_spec {a b : List Int} (ha : Dig a) (hb : Dig b) (ta : Top a) (tb : Top b) (la : a.length ≤ 10000) (lb : b.length ≤ 10000) : ∃ s, evermorenum_size a b = some s ∧ (s < 0 → nv a ≤ nv b) ∧ (0 ≤ s → nv b ≤ nv a) := by
  unfold evermorenum_size
  by_cases c : a.length = b.length
  · rw [if_neg (by simp; omega), G_pos (by unfold fits; omega)]
    have key : ∀ i : Nat, i ≤ a.length → nv (a.drop i) = nv (b.drop i) → ∃ s, evermorenum_size_L6 a b ((i : Int) - 1) = some s ∧ (s < 0 → nv a ≤ nv b) ∧ (0 ≤ s → nv b ≤ nv a) := by
      intro i
      induction i with
      | zero =>
        intro _ e
        have e' : nv a = nv b := e
        rw [evermorenum_size_L6_eq]; unfold evermorenum_size_L6_B
        rw [if_neg (by simp)]
        exact ⟨0, rfl, fun h => by omega, fun _ => by omega⟩
      | succ i ih =>
        intro hi e
        have ei : ((i + 1 : Nat) : Int) - 1 = (i : Int) := by omega
        rw [ei, evermorenum_size_L6_eq]; unfold evermorenum_size_L6_B
        rw [if_pos (by simp), G_pos (by omega), G_pos (by omega)]
        by_cases c2 : ix a (i : Int) = ix b (i : Int)
        · rw [if_neg (by simpa using c2), G_pos (by unfold fits; omega)]
          exact ih (by omega) (by rw [nv_drop (l := a) (by omega), nv_drop (l := b) (by omega), c2, e])
        · rw [if_pos (by simpa using c2), G_pos (by omega), G_pos (by omega)]
          by_cases c3 : ix a (i : Int) < ix b (i : Int)
          · rw [if_pos (decide_eq_true c3)]
            have := nv_up ha hb i (by omega) (by omega) (by rw [nv_drop (l := a) (by omega), nv_drop (l := b) (by omega)]; omega)
            exact ⟨-1, rfl, fun _ => by omega, fun h => by omega⟩
          · rw [if_neg (by simpa using c3)]
            have := nv_up hb ha i (by omega) (by omega) (by rw [nv_drop (l := a) (by omega), nv_drop (l := b) (by omega)]; omega)
            exact ⟨1, rfl, fun h => by omega, fun _ => by omega⟩
    exact key a.length (Nat.le_refl _) (by rw [nv_drop_ge (Nat.le_refl _), nv_drop_ge (by omega)])
  · rw [if_pos (by simp; omega)]
    by_cases c2 : a.length < b.length
    · rw [if_pos (by simpa using c2)]
      have := nv_len ha hb tb c2
      exact ⟨-1, rfl, fun _ => by omega, fun h => by omega⟩
    · rw [if_neg (by simpa using c2)]
      have := nv_len hb ha ta (by omega)
      exact ⟨1, rfl, fun h => by omega, fun _ => by omega⟩
theorem Add_spec {a b : Wh} (ha : Wok a) (hb : Wok b) (la : a.2.1.length ≤ 10000) (lb : b.2.1.length ≤ 10000) : ∃ x, evermorenum_Add a b = some x ∧ Wok x ∧ val x = val a + val b ∧ (x.2.1.length ≤ a.2.1.length + 1 ∨ x.2.1.length ≤ b.2.1.length + 1) := by
  unfold evermorenum_Add
  by_cases c : a.1 = b.1
  · rw [if_pos (decide_eq_true c)]
    obtain ⟨o, o1, o2, o3, o4⟩ := plus_spec ha.dig hb.dig la lb
    obtain ⟨x, x1, x2, x3, x4⟩ := trim_spec (below := a.1) o2 (by omega)
    refine ⟨x, bind_to o1 (bind_to x1 rfl), x2, ?_, by omega⟩
    rw [x3, o3]
    unfold val
    rw [← c]
    split <;> omega
  · rw [if_neg (by simpa using c)]
    obtain ⟨s, s1, s2, s3⟩ := size_spec ha.dig hb.dig ha.top hb.top la lb
    by_cases cs : s < 0
    · obtain ⟨o, o1, o2, o3, o4⟩ := minus_spec hb.dig ha.dig lb (s2 cs)
      obtain ⟨x, x1, x2, x3, x4⟩ := trim_spec (below := b.1) o2 (by omega)
      refine ⟨x, bind_to s1 ?_, x2, ?_, by omega⟩
      · rw [if_pos (decide_eq_true cs)]; exact bind_to o1 (bind_to x1 rfl)
      · rw [x3, o3]
        unfold val
        cases e1 : a.1 <;> cases e2 : b.1 <;> rw [e1, e2] at c <;> simp at c ⊢ <;> omega
    · obtain ⟨o, o1, o2, o3, o4⟩ := minus_spec ha.dig hb.dig la (s3 (by omega))
      obtain ⟨x, x1, x2, x3, x4⟩ := trim_spec (below := a.1) o2 (by omega)
      refine ⟨x, bind_to s1 ?_, x2, ?_, by omega⟩
      · rw [if_neg (by simpa using cs)]; exact bind_to o1 (bind_to x1 rfl)
      · rw [x3, o3]
        unfold val
        cases e1 : a.1 <;> cases e2 : b.1 <;> rw [e1, e2] at c <;> simp at c ⊢ <;> omega
theorem Neg_spec {a : Wh} (ha : Wok a) (la : a.2.1.length ≤ 10000) : ∃ x, evermorenum_Neg a = some x ∧ Wok x ∧ val x = - val a ∧ x.2.1.length ≤ a.2.1.length := by
  obtain ⟨x, x1, x2, x3, x4⟩ := trim_spec (below := !a.1) ha.dig (by omega)
  refine ⟨x, bind_to x1 rfl, x2, ?_, x4⟩
  rw [x3]
  unfold val
  cases a.1 <;> simp
theorem Cmp_spec {a b : Wh} (ha : Wok a) (hb : Wok b) (la : a.2.1.length ≤ 9999) (lb : b.2.1.length ≤ 9999) (h : val a = val b) : evermorenum_Cmp a b = some 0 := by
  obtain ⟨n, n1, n2, n3, n4⟩ := Neg_spec hb (by omega)
  obtain ⟨x, x1, x2, x3, x4⟩ := Add_spec ha n2 (by omega) (by omega)
  have e0 : x.2.1 = [] := by
    refine Classical.byContradiction fun hn => ?_
    have hp := nv_pos x2.dig x2.top hn
    have : val x = 0 := by omega
    unfold val at this
    split at this <;> omega
  unfold evermorenum_Cmp
  refine bind_to (y := x) ?_ (bind_to (y := 0) ?_ rfl)
  · unfold evermorenum_Sub
    exact bind_to n1 (bind_to x1 rfl)
  · unfold evermorenum_Sign
    rw [if_pos (by simp [e0])]
theorem ix_of_take {l m : List Int} {p : Nat} (h : l.take p = m.take p) {k : Int} (k0 : 0 ≤ k) (k1 : k < p) : ix l k = ix m k := by
  rw [← ix_take' (l := l) (n := p) k0 k1, h, ix_take' k0 k1]
theorem mul_row {a b : List Int} {ab bb : Bool} (ha : Dig a) (hb : Dig b) (la : a.length ≤ 4000) (lb : b.length ≤ 4000) {i : Nat} (hi : i < a.length) {r3} : ∀ (f j : Nat) (carry : Int) (out : List Int), b.length + 1 - j = f → (j ≤ b.length ∨ (j = b.length + 1 ∧ carry = 0)) → 0 ≤ carry → carry < 10000 → Dig out → out.length = a.length + b.length + 1 →
    (∀ k : Int, (i : Int) + b.length ≤ k → (i : Int) + j ≤ k → k < out.length → ix out k = 0) →
    ∃ F : List Int, evermorenum_Mul_L7 (ab, a, ()) (bb, b, ()) i r3 carry j out = r3 (i + 1) F ∧ F.length = out.length ∧ F.take (i + j) = out.take (i + j) ∧ Dig F ∧ nv (F.drop (i + j)) = nv (out.drop (i + j)) + carry + ix a (i : Int) * nv (b.drop j) ∧ (∀ k : Int, (i : Int) + 1 + b.length ≤ k → k < F.length → ix F k = 0) := by
  intro f
  induction f with
  | zero =>
    intro j carry out hf hj c0 c1 hd hl hz
    obtain ⟨rfl, rfl⟩ : j = b.length + 1 ∧ carry = 0 := by omega
    rw [evermorenum_Mul_L7_eq]; unfold evermorenum_Mul_L7_B
    rw [if_neg (by simp; omega), if_neg (by simp), G_pos (by unfold fits; omega)]
    refine ⟨out, rfl, rfl, rfl, hd, ?_, fun k k0 k1 => hz k (by omega) (by omega) k1⟩
    rw [nv_drop_ge (l := b) (by omega)]; omega
  | succ f ih =>
    intro j carry out hf hj c0 c1 hd hl hz
    have hA := ha.ix (i := (i : Int)) (by omega) (by omega)
    have j7 : j ≤ b.length → ∃ F : List Int, evermorenum_Mul_J7 (ab, a, ()) (bb, b, ()) i carry j (fun x y z => evermorenum_Mul_L7 (ab, a, ()) (bb, b, ()) i r3 x y z) out = r3 (i + 1) F ∧ F.length = out.length ∧ F.take (i + j) = out.take (i + j) ∧ Dig F ∧ nv (F.drop (i + j)) = nv (out.drop (i + j)) + carry + ix a (i : Int) * nv (b.drop j) ∧ (∀ k : Int, (i : Int) + 1 + b.length ≤ k → k < F.length → ix F k = 0) := by
      intro hjb
      have hO := hd.ix (i := (i : Int) + j) (by omega) (by omega)
      have eO := nv_drop (l := out) (i := i + j) (by omega)
      rw [show ((i + j : Nat) : Int) = (i : Int) + j from by omega] at eO
      have step : ∀ (n m : Int), n = ix out ((i : Int) + j) + carry + m → 0 ≤ m → m ≤ 99980001 → (j < b.length ∨ (j = b.length ∧ m = 0)) → m + 10000 * (ix a (i : Int) * nv (b.drop (j + 1))) = ix a (i : Int) * nv (b.drop j) →
          ∃ F : List Int, evermorenum_Mul_J11 i j (fun x y z => evermorenum_Mul_L7 (ab, a, ()) (bb, b, ()) i r3 x y z) out n = r3 (i + 1) F ∧ F.length = out.length ∧ F.take (i + j) = out.take (i + j) ∧ Dig F ∧ nv (F.drop (i + j)) = nv (out.drop (i + j)) + carry + ix a (i : Int) * nv (b.drop j) ∧ (∀ k : Int, (i : Int) + 1 + b.length ≤ k → k < F.length → ix F k = 0) := by
        intro n m en m0 m1 hjm hm
        have n0 : 0 ≤ n := by omega
        have em : Int.tmod n 10000 = n % 10000 := Int.tmod_eq_emod_of_nonneg n0
        have ed : Int.tdiv n 10000 = n / 10000 := Int.tdiv_eq_ediv_of_nonneg n0
        have hz0 : j = b.length → ix out ((i : Int) + j) = 0 := fun e => hz _ (by omega) (by omega) (by omega)
        unfold evermorenum_Mul_J11
        rw [em, ed, G_pos (by unfold fits; omega), G_pos (by omega), G_pos (by omega), G_pos (by omega), G_pos (by omega), G_pos (by unfold fits; omega), G_pos (by unfold fits; omega)]
        have ep : ((i : Int) + j).toNat = i + j := by omega
        have hset : ∀ d : Int, ((out.set ((i : Int) + j).toNat d).drop (i + (j + 1))) = out.drop (i + (j + 1)) := fun d => by
          rw [List.drop_set]; rw [if_pos (by omega)]
        have hsett : ∀ d : Int, ((out.set ((i : Int) + j).toNat d).take (i + j)) = out.take (i + j) := fun d => by
          rw [List.take_set, List.set_eq_of_length_le (by rw [List.length_take]; omega)]
        obtain ⟨F, f1, f2, f3, f4, f5, f6⟩ := ih (j + 1) (n / 10000) (out.set ((i : Int) + j).toNat (n % 10000)) (by omega) (by omega) (by omega) (by omega) (fun x hx => by
            rcases List.mem_or_eq_of_mem_set hx with h | h
            · exact hd x h
            · omega) (by rw [List.length_set]; exact hl) (fun k k0 k1 k2 => by
            rw [List.length_set] at k2
            rw [ix_set_ne (by omega) (by omega) (by omega)]; exact hz k k0 (by omega) k2)
        have fp : ix F ((i : Int) + j) = n % 10000 := by
          rw [ix_of_take f3 (by omega) (by omega), ix_set_same (by omega) (by omega)]
        rw [List.length_set] at f2
        refine ⟨F, f1, f2, ?_, f4, ?_, f6⟩
        · have := congrArg (List.take (i + j)) f3
          rw [List.take_take, List.take_take, Nat.min_eq_left (by omega), hsett] at this
          exact this
        · rw [hset] at f5
          have eF := nv_drop (l := F) (i := i + j) (by omega)
          rw [show ((i + j : Nat) : Int) = (i : Int) + j from by omega, fp] at eF
          rw [show i + j + 1 = i + (j + 1) from by omega] at eF eO
          rw [eF, f5, eO, ← hm]
          generalize ix a (i : Int) * nv (b.drop (j + 1)) = z
          omega
      unfold evermorenum_Mul_J7
      rw [G_pos (by unfold fits; omega), G_pos (by omega), G_pos (by omega), G_pos (by unfold fits; omega)]
      by_cases c : j < b.length
      · have hB := hb.ix (i := (j : Int)) (by omega) (by omega)
        have eB := nv_drop c
        have m0 : 0 ≤ ix a (i : Int) * ix b (j : Int) := Int.mul_nonneg hA.1 hB.1
        have m1 : ix a (i : Int) * ix b (j : Int) ≤ 9999 * 9999 := Int.mul_le_mul (by omega) (by omega) hB.1 (by omega)
        rw [if_pos (by simpa using c), G_pos (by show (0 : Int) ≤ i ∧ (i : Int) < a.length; omega), G_pos (by show (0 : Int) ≤ j ∧ (j : Int) < b.length; omega), G_pos (by show fits (ix a (i : Int) * ix b (j : Int)); unfold fits; omega), G_pos (by show fits (ix out ((i : Int) + j) + carry + ix a (i : Int) * ix b (j : Int)); unfold fits; omega)]
        exact step _ (ix a (i : Int) * ix b (j : Int)) rfl m0 (by omega) (.inl c) (by
          rw [eB, Int.mul_add]
          rw [show ix a (i : Int) * (10000 * nv (b.drop (j + 1))) = 10000 * (ix a (i : Int) * nv (b.drop (j + 1))) from by rw [← Int.mul_assoc, Int.mul_comm (ix a (i : Int)) 10000, Int.mul_assoc]])
      · rw [if_neg (by simpa using c)]
        exact step _ 0 (by omega) (by omega) (by omega) (.inr ⟨by omega, rfl⟩) (by rw [nv_drop_ge (l := b) (by omega), nv_drop_ge (l := b) (by omega)]; simp)
    rw [evermorenum_Mul_L7_eq]; unfold evermorenum_Mul_L7_B
    by_cases c : j < b.length
    · rw [if_pos (by simpa using c)]; exact j7 (by omega)
    · rw [if_neg (by simpa using c)]
      by_cases c2 : 0 < carry
      · rw [if_pos (by simpa using c2)]; exact j7 (by omega)
      · rw [if_neg (by simpa using c2), G_pos (by unfold fits; omega)]
        refine ⟨out, rfl, rfl, rfl, hd, ?_, fun k k0 k1 => hz k (by omega) (by omega) k1⟩
        rw [nv_drop_ge (l := b) (by omega)]; omega
theorem Mul_spec {a b : Wh} (ha : Wok a) (hb : Wok b) (la : a.2.1.length ≤ 4000) (lb : b.2.1.length ≤ 4000) : ∃ x, evermorenum_Mul a b = some x ∧ Wok x ∧ val x = val a * val b ∧ x.2.1.length ≤ a.2.1.length + b.2.1.length + 1 := by
  obtain ⟨ab, a, ⟨⟩⟩ := a
  obtain ⟨bb, b, ⟨⟩⟩ := b
  have hda : Dig a := ha.dig
  have hdb : Dig b := hb.dig
  simp only at la lb
  have key : ∀ (f i : Nat) (out : List Int), a.length - i = f → i ≤ a.length → Dig out → out.length = a.length + b.length + 1 → (∀ k : Int, (i : Int) + b.length ≤ k → k < out.length → ix out k = 0) →
      ∃ F : List Int, evermorenum_Mul_L3 (ab, a, ()) (bb, b, ()) i out = (evermorenum_trim (decide (¬ ab = bb)) F).bind (fun y' => some (y'.1, (y'.2.1, ()))) ∧ F.length = out.length ∧ F.take i = out.take i ∧ Dig F ∧ nv (F.drop i) = nv (out.drop i) + nv (a.drop i) * nv b := by
    intro f
    induction f with
    | zero =>
      intro i out hf hi hd hl hz
      rw [evermorenum_Mul_L3_eq]; unfold evermorenum_Mul_L3_B
      rw [if_neg (by simp; omega)]
      exact ⟨out, rfl, rfl, rfl, hd, by rw [nv_drop_ge (l := a) (by omega)]; simp⟩
    | succ f ih =>
      intro i out hf hi hd hl hz
      rw [evermorenum_Mul_L3_eq]; unfold evermorenum_Mul_L3_B
      rw [if_pos (by simp; omega)]
      obtain ⟨F, f1, f2, f3, f4, f5, f6⟩ := mul_row (ab := ab) (bb := bb) hda hdb la lb (i := i) (by omega) (r3 := fun i_1 out_1 => evermorenum_Mul_L3 (ab, a, ()) (bb, b, ()) i_1 out_1) _ 0 0 out rfl (.inl (Nat.zero_le _)) (by omega) (by omega) hd hl (fun k k0 k1 k2 => hz k k0 k2)
      obtain ⟨E, e1, e2, e3, e4, e5⟩ := ih (i + 1) F (by omega) (by omega) f4 (by omega) (fun k k0 k1 => f6 k (by omega) k1)
      refine ⟨E, ?_, by omega, ?_, e4, ?_⟩
      · exact f1.trans e1
      · have := congrArg (List.take i) e3
        rw [List.take_take, List.take_take, Nat.min_eq_left (by omega)] at this
        rw [this]; exact f3
      · have eE := nv_drop (l := E) (i := i) (by omega)
        have eF := nv_drop (l := F) (i := i) (by omega)
        have ea := nv_drop (l := a) (i := i) (by omega)
        have hx : ix E (i : Int) = ix F (i : Int) := ix_of_take e3 (by omega) (by omega)
        have f5' : nv (F.drop i) = nv (out.drop i) + 0 + ix a (i : Int) * nv b := f5
        rw [eE, e5, ea, Int.add_mul, hx]
        rw [show 10000 * nv (a.drop (i + 1)) * nv b = 10000 * (nv (a.drop (i + 1)) * nv b) from Int.mul_assoc _ _ _]
        generalize nv (a.drop (i + 1)) * nv b = z at *
        generalize ix a (i : Int) * nv b = y at *
        omega
  have hnr : ∀ n : Nat, nv (List.replicate n 0) = 0 := fun n => by
    induction n with
    | zero => rfl
    | succ n ih => rw [List.replicate_succ, nv_cons, ih]; rfl
  have el : ((a.length : Int) + (b.length : Int) + 1).toNat = a.length + b.length + 1 := by omega
  obtain ⟨F, f1, f2, f3, f4, f5⟩ := key _ 0 (List.replicate (a.length + b.length + 1) 0) rfl (Nat.zero_le _) (fun d hd => by rw [(List.mem_replicate.1 hd).2]; omega) (by rw [List.length_replicate]) (fun k k0 k1 => by rw [List.length_replicate] at k1; exact ix_replicate (by omega) (by omega))
  rw [List.length_replicate] at f2
  obtain ⟨x, x1, x2, x3, x4⟩ := trim_spec (below := decide (¬ ab = bb)) f4 (by omega)
  refine ⟨x, ?_, x2, ?_, by show x.2.1.length ≤ a.length + b.length + 1; omega⟩
  · unfold evermorenum_Mul
    refine G_to (by show fits ((a.length : Int) + b.length); unfold fits; omega) (G_to (by show fits ((a.length : Int) + b.length + 1); unfold fits; omega) (G_to (by show mkOK ((a.length : Int) + b.length + 1) ((a.length : Int) + b.length + 1) 8; unfold mkOK; omega) ?_))
    show evermorenum_Mul_L3 (ab, a, ()) (bb, b, ()) 0 (List.replicate ((a.length : Int) + (b.length : Int) + 1).toNat 0) = _
    rw [el]
    exact f1.trans (bind_to x1 rfl)
  · rw [x3]
    have f5' : nv F = nv a * nv b := by
      have : nv (F.drop 0) = nv ((List.replicate (a.length + b.length + 1) (0 : Int)).drop 0) + nv (a.drop 0) * nv b := f5
      rw [List.drop_zero, List.drop_zero, List.drop_zero, hnr] at this
      omega
    rw [f5']
    unfold val
    cases ab <;> cases bb <;> simp [Int.neg_mul, Int.mul_neg]

abbrev Wg := Int × List Int × List (List (List Int)) × List Int × Unit
def outM (m x : Int) : Prop := x < 0 - m ∨ m < x
def RAb (m : Int) (r : List Int) : Prop := ∃ x ∈ r, outM m x
def WAb (m : Int) (a : Wg) : Prop := RAb m a.2.1 ∨ RAb m a.2.2.2.1 ∨ ∃ t ∈ a.2.2.1, ∃ r ∈ t, RAb m r
def TRg (n : Nat) (t : List (List Int)) : Prop := ¬ t.length = n ∨ ∃ r ∈ t, ¬ r.length = n
def WRag (a : Wg) : Prop := ¬ a.2.2.2.1.length = a.2.1.length ∨ ¬ (a.2.2.1.length : Int) = a.1 ∨ ∃ t ∈ a.2.2.1, TRg a.2.1.length t
open Classical in
noncomputable def wgE (a : Wg) : Int := if a.1 < 1 ∨ 4 < a.1 then 2 else if a.2.1.length < 1 ∨ 8 < a.2.1.length then 1 else if WRag a then 3 else if WAb 9 a then 2 else 0
structure WOk (a : Wg) : Prop where
  let1 : 1 ≤ a.1 ∧ a.1 ≤ 4
  n1 : 1 ≤ a.2.1.length ∧ a.2.1.length ≤ 8
  last : a.2.2.2.1.length = a.2.1.length
  steps : (a.2.2.1.length : Int) = a.1
  tab : ∀ t ∈ a.2.2.1, t.length = a.2.1.length ∧ ∀ r ∈ t, r.length = a.2.1.length
  small : ¬ WAb 9 a
theorem WOk.of {a : Wg} (h : ¬ (a.1 < 1 ∨ 4 < a.1)) (h2 : ¬ (a.2.1.length < 1 ∨ 8 < a.2.1.length)) (h3 : ¬ WRag a) (h4 : ¬ WAb 9 a) : WOk a := by
  have g1 : a.2.2.2.1.length = a.2.1.length := Decidable.not_not.1 fun hh => h3 (.inl hh)
  have g2 : (a.2.2.1.length : Int) = a.1 := Decidable.not_not.1 fun hh => h3 (.inr (.inl hh))
  have g3 : ∀ t ∈ a.2.2.1, ¬ TRg a.2.1.length t := fun t ht hh => h3 (.inr (.inr ⟨t, ht, hh⟩))
  exact ⟨by omega, by omega, g1, g2, fun t ht => ⟨Decidable.not_not.1 fun hh => g3 t ht (.inl hh), fun r hr => Decidable.not_not.1 fun hh => g3 t ht (.inr ⟨r, hr, hh⟩)⟩, h4⟩
theorem wgE_zero {a : Wg} (h : wgE a = 0) : WOk a := by
  unfold wgE at h
  by_cases c1 : a.1 < 1 ∨ 4 < a.1
  · rw [if_pos c1] at h; omega
  rw [if_neg c1] at h
  by_cases c2 : a.2.1.length < 1 ∨ 8 < a.2.1.length
  · rw [if_pos c2] at h; omega
  rw [if_neg c2] at h
  by_cases c3 : WRag a
  · rw [if_pos c3] at h; omega
  rw [if_neg c3] at h
  by_cases c4 : WAb 9 a
  · rw [if_pos c4] at h; omega
  exact WOk.of c1 c2 c3 c4
theorem wgE_of {a : Wg} (h : WOk a) : wgE a = 0 := by
  have h1 := h.let1
  have h2 := h.n1
  unfold wgE
  rw [if_neg (by omega), if_neg (by omega), if_neg (fun hh => ?_), if_neg h.small]
  rcases hh with hh | hh | ⟨t, ht, hh⟩
  · exact hh h.last
  · exact hh h.steps
  · rcases hh with hh | ⟨r, hr, hh⟩
    · exact hh (h.tab t ht).1
    · exact hh ((h.tab t ht).2 r hr)
theorem weigh_above_spec {rows : List (List Int)} {m : Int} (hm : 0 ≤ m ∧ m ≤ 100) (h1 : rows.length ≤ 1000) (h2 : ∀ r ∈ rows, r.length ≤ 1000) : Tells (weigh_above rows m) (∃ r ∈ rows, RAb m r) := by
  have k1 : ∀ x : Int, Tells (weigh_above_1_1 x m) (outM m x) := fun x => by
    unfold weigh_above_1_1 outM
    rw [G_pos (by unfold fits; omega)]
    by_cases c : x < 0 - m
    · rw [if_pos (decide_eq_true c)]; exact Tells.of ⟨fun _ => .inl c, fun _ => rfl⟩
    · rw [if_neg (by simpa using c)]; exact Tells.dec (by omega)
  have k2 : ∀ r ∈ rows, Tells (weigh_above_1 r m) (RAb m r) := fun r hr => by
    have := h2 r hr
    obtain ⟨b, hb, hb2⟩ := contains_tells (f := fun x => weigh_above_1_1 x m) (P := outM m) (slices_IndexFunc_2_L2_eq r m) (by omega) (fun x _ => k1 x)
    unfold weigh_above_1
    exact ⟨b, bind_to hb rfl, hb2⟩
  obtain ⟨b, hb, hb2⟩ := contains_tells (f := fun r => weigh_above_1 r m) (P := RAb m) (slices_IndexFunc_1_L2_eq rows m) (by omega) k2
  unfold weigh_above
  exact ⟨b, bind_to hb rfl, hb2⟩
theorem rows_ab {m : Int} {a : Wg} : (∃ r ∈ [a.2.1, a.2.2.2.1] ++ a.2.2.1.flatten, RAb m r) ↔ WAb m a := by
  constructor
  · rintro ⟨r, hr, hb⟩
    rcases List.mem_append.1 hr with hr | hr
    · simp only [List.mem_cons, List.not_mem_nil, or_false] at hr
      rcases hr with rfl | rfl
      · exact .inl hb
      · exact .inr (.inl hb)
    · obtain ⟨t, ht, hrt⟩ := List.mem_flatten.1 hr
      exact .inr (.inr ⟨t, ht, r, hrt, hb⟩)
  · rintro (hb | hb | ⟨t, ht, r, hr, hb⟩)
    · exact ⟨_, by simp, hb⟩
    · exact ⟨_, by simp, hb⟩
    · exact ⟨r, List.mem_append_right _ (List.mem_flatten.2 ⟨t, ht, hr⟩), hb⟩
theorem flat_len {n : Nat} : ∀ {l : List (List (List Int))}, (∀ t ∈ l, t.length ≤ n) → l.flatten.length ≤ l.length * n
  | [], _ => by simp
  | t :: l, h => by
    have h1 := h t (by simp)
    have h2 := flat_len (l := l) fun x hx => h x (by simp [hx])
    rw [List.flatten_cons, List.length_append, List.length_cons, Nat.succ_mul]; omega
theorem take_flat {l : List (List (List Int))} {t : Nat} (h : t < l.length) : (l.take (t + 1)).flatten = (l.take t).flatten ++ ix l (t : Int) := by
  have := ix_take (l := l) (i := (t : Int)) (by omega) (by omega)
  rw [Int.toNat_natCast, show ((t : Int) + 1).toNat = t + 1 from by omega] at this
  rw [this, List.flatten_append]; simp
open Classical in
theorem weigh_Check_spec {a : Wg} : weigh_Check a = some (wgE a) := by
  unfold weigh_Check wgE
  by_cases c1 : a.1 < 1 ∨ 4 < a.1
  · rw [if_pos c1]
    (try dsimp only); (repeat' first | (with_reducible refine G_to ?_ ?_; focus (first | omega | (unfold fits; omega) | (unfold room; (try simp only [List.length_append, List.length_cons, List.length_nil]); omega))) | (with_reducible refine both_to ?_ ?_) | (with_reducible refine itet_to ?_) | (with_reducible refine itef_to ?_) | (with_reducible refine ite_to (fun _ => ?_) (fun _ => ?_))) <;> try (exfalso; omega)
    all_goals rfl
  rw [if_neg c1]
  by_cases c2 : a.2.1.length < 1 ∨ 8 < a.2.1.length
  · rw [if_pos c2]
    (try dsimp only); (repeat' first | (with_reducible refine G_to ?_ ?_; focus (first | omega | (unfold fits; omega) | (unfold room; (try simp only [List.length_append, List.length_cons, List.length_nil]); omega))) | (with_reducible refine both_to ?_ ?_) | (with_reducible refine itet_to ?_) | (with_reducible refine itef_to ?_) | (with_reducible refine ite_to (fun _ => ?_) (fun _ => ?_))) <;> try (exfalso; omega)
    all_goals rfl
  rw [if_neg c2, if_neg (by simp; omega), if_neg (by simp; omega), if_neg (by simp; omega), if_neg (by simp; omega)]
  by_cases c3 : a.2.2.2.1.length = a.2.1.length
  case neg => rw [if_pos (show WRag a from .inl c3), if_pos (by simp; omega)]
  rw [if_neg (by simp; omega)]
  by_cases c4 : (a.2.2.1.length : Int) = a.1
  case neg => rw [if_pos (show WRag a from .inr (.inl c4)), if_pos (by simpa using c4)]
  rw [if_neg (by simpa using c4)]
  have key : ∀ (f t : Nat), a.2.2.1.length - t = f → t ≤ a.2.2.1.length → (∀ x ∈ a.2.2.1.take t, ¬ TRg a.2.1.length x) → weigh_Check_L10 a t ([a.2.1, a.2.2.2.1] ++ (a.2.2.1.take t).flatten) = some (if WRag a then 3 else if WAb 9 a then 2 else 0) := by
    intro f
    induction f with
    | zero =>
      intro t hf ht hb
      obtain rfl : t = a.2.2.1.length := by omega
      rw [List.take_length] at hb ⊢
      have hn : ¬ WRag a := by
        rintro (hh | hh | ⟨x, hx, hh⟩)
        · exact hh c3
        · exact hh c4
        · exact hb x hx hh
      have hlen : ∀ x ∈ a.2.2.1, x.length ≤ 8 := fun x hx => by
        have : x.length = a.2.1.length := Decidable.not_not.1 fun hh => hb x hx (.inl hh)
        omega
      have := flat_len hlen
      rw [weigh_Check_L10_eq]; unfold weigh_Check_L10_B
      rw [if_neg (by simp), if_neg hn]
      refine (weigh_above_spec (m := 9) (by omega) (by rw [List.length_append]; simp only [List.length_cons, List.length_nil]; omega) (fun r hr => ?_)).to (fun h => by rw [if_pos (rows_ab.1 h)]) (fun h => by rw [if_neg (fun hh => h (rows_ab.2 hh))])
      rcases List.mem_append.1 hr with hr | hr
      · simp only [List.mem_cons, List.not_mem_nil, or_false] at hr
        rcases hr with rfl | rfl <;> omega
      · obtain ⟨x, hx, hrx⟩ := List.mem_flatten.1 hr
        have : r.length = a.2.1.length := Decidable.not_not.1 fun hh => hb x hx (.inr ⟨r, hrx, hh⟩)
        omega
    | succ f ih =>
      intro t hf ht hb
      have hm := ix_mem (l := a.2.2.1) (i := (t : Int)) (by omega) (by omega)
      have hlen : ∀ x ∈ a.2.2.1.take t, x.length ≤ 8 := fun x hx => by
        have : x.length = a.2.1.length := Decidable.not_not.1 fun hh => hb x hx (.inl hh)
        omega
      have hfl := flat_len hlen
      rw [List.length_take] at hfl
      rw [weigh_Check_L10_eq]; unfold weigh_Check_L10_B
      rw [if_pos (by simp; omega), G_pos (by omega)]
      by_cases c5 : (ix a.2.2.1 (t : Int)).length = a.2.1.length
      case neg => rw [if_pos (by rw [decide_eq_true_iff]; omega), if_pos (show WRag a from .inr (.inr ⟨_, hm, .inl c5⟩))]
      rw [if_neg (by rw [decide_eq_true_iff]; omega)]
      refine (contains_tells (f := fun r => weigh_Check_1 r (a.2.1.length : Int)) (P := fun r => ¬ r.length = a.2.1.length) (slices_IndexFunc_L2_eq (ix a.2.2.1 (t : Int)) (a.2.1.length : Int)) (by omega) (fun x _ => by unfold weigh_Check_1; exact Tells.dec (by omega))).to (fun h => by rw [if_pos (show WRag a from .inr (.inr ⟨_, hm, .inr h⟩))]) (fun h => ?_)
      have hr : room ([a.2.1, a.2.2.2.1] ++ (a.2.2.1.take t).flatten) (ix a.2.2.1 (t : Int)) 24 := by
        unfold room
        rw [List.length_append]
        simp only [List.length_cons, List.length_nil]
        omega
      rw [G_pos hr, G_pos (by unfold fits; omega)]
      have := ih (t + 1) (by omega) (by omega) (fun x hx => by
        have et := ix_take (l := a.2.2.1) (i := (t : Int)) (by omega) (by omega)
        rw [Int.toNat_natCast, show ((t : Int) + 1).toNat = t + 1 from by omega] at et
        rw [et] at hx
        rcases List.mem_append.1 hx with hx | hx
        · exact hb x hx
        · rw [List.mem_singleton.1 hx]
          rintro (hh | hh)
          · exact hh c5
          · exact h hh)
      rw [take_flat (by omega), ← List.append_assoc] at this
      exact this
  exact key _ 0 rfl (by omega) (fun x hx => by simp at hx)
theorem weigh_all_spec {a : Wg} (h : WOk a) : weigh_all a = some ([a.2.1, a.2.2.2.1] ++ a.2.2.1.flatten) := by
  have h1 := h.let1
  have h2 := h.n1
  have h3 := h.steps
  have key : ∀ (f t : Nat), a.2.2.1.length - t = f → t ≤ a.2.2.1.length → weigh_all_L3 a t ([a.2.1, a.2.2.2.1] ++ (a.2.2.1.take t).flatten) = some ([a.2.1, a.2.2.2.1] ++ a.2.2.1.flatten) := by
    intro f
    induction f with
    | zero =>
      intro t hf ht
      obtain rfl : t = a.2.2.1.length := by omega
      rw [List.take_length, weigh_all_L3_eq]; unfold weigh_all_L3_B
      rw [if_neg (by simp)]
    | succ f ih =>
      intro t hf ht
      have hm := ix_mem (l := a.2.2.1) (i := (t : Int)) (by omega) (by omega)
      have hfl := flat_len (l := a.2.2.1.take t) (n := 8) (fun x hx => by have := (h.tab x (List.mem_of_mem_take hx)).1; omega)
      rw [List.length_take] at hfl
      have hml := (h.tab _ hm).1
      have hr : room ([a.2.1, a.2.2.2.1] ++ (a.2.2.1.take t).flatten) (ix a.2.2.1 (t : Int)) 24 := by
        unfold room
        rw [List.length_append]
        simp only [List.length_cons, List.length_nil]
        omega
      rw [weigh_all_L3_eq]; unfold weigh_all_L3_B
      rw [if_pos (by simp; omega), G_pos (by omega), G_pos hr, G_pos (by unfold fits; omega)]
      have := ih (t + 1) (by omega) (by omega)
      rw [take_flat (by omega), ← List.append_assoc] at this
      exact this
  unfold weigh_all
  exact key _ 0 rfl (by omega)
theorem all_above {a : Wg} (h : WOk a) : Tells (weigh_above ([a.2.1, a.2.2.2.1] ++ a.2.2.1.flatten) 3) (WAb 3 a) := by
  have h1 := h.let1
  have h2 := h.n1
  have h3 := h.steps
  have hfl := flat_len (l := a.2.2.1) (n := 8) (fun x hx => by have := (h.tab x hx).1; omega)
  refine (weigh_above_spec (m := 3) (by omega) (by rw [List.length_append]; simp only [List.length_cons, List.length_nil]; omega) (fun r hr => ?_)).iff rows_ab
  have hla := h.last
  rcases List.mem_append.1 hr with hr | hr
  · simp only [List.mem_cons, List.not_mem_nil, or_false] at hr
    rcases hr with rfl | rfl <;> omega
  · obtain ⟨x, hx, hrx⟩ := List.mem_flatten.1 hr
    have := (h.tab x hx).2 r hrx
    omega
open Classical in
theorem r18_above_spec {l : List Int} {m : Int} (hm : 0 ≤ m ∧ m ≤ 100) (hl : l.length ≤ 1000) : r18_above l m = some (decide (RAb m l)) := by
  unfold r18_above
  refine scan_to (len := (l.length : Int)) (bad := fun i => outM m (ix l i)) (by omega) (fun i i0 i1 => ⟨fun hb => ?_, fun hb => ?_⟩) (fun hh => ?_)
  · rw [decide_eq_true (show RAb m l from ⟨_, ix_mem i0 i1, hb⟩)]
    unfold outM at hb
    rw [r18_above_L2_eq]; unfold r18_above_L2_B
    (try dsimp only); (repeat' first | (with_reducible refine G_to ?_ ?_; focus (first | omega | (unfold fits; omega) | (unfold room; (try simp only [List.length_append, List.length_cons, List.length_nil]); omega))) | (with_reducible refine both_to ?_ ?_) | (with_reducible refine itet_to ?_) | (with_reducible refine itef_to ?_) | (with_reducible refine ite_to (fun _ => ?_) (fun _ => ?_))) <;> try (exfalso; omega)
    all_goals rfl
  · unfold outM at hb
    conv => lhs; rw [r18_above_L2_eq]; unfold r18_above_L2_B
    (try dsimp only); (repeat' first | (with_reducible refine G_to ?_ ?_; focus (first | omega | (unfold fits; omega) | (unfold room; (try simp only [List.length_append, List.length_cons, List.length_nil]); omega))) | (with_reducible refine both_to ?_ ?_) | (with_reducible refine itet_to ?_) | (with_reducible refine itef_to ?_) | (with_reducible refine ite_to (fun _ => ?_) (fun _ => ?_))) <;> try (exfalso; omega)
    all_goals rfl
  · rw [decide_eq_false (show ¬ RAb m l from fun hb => by obtain ⟨i, i0, i1, hb⟩ := ex_ix.1 hb; exact hh i i0 i1 hb)]
    rw [r18_above_L2_eq]; unfold r18_above_L2_B
    (try dsimp only); (repeat' first | (with_reducible refine G_to ?_ ?_; focus (first | omega | (unfold fits; omega) | (unfold room; (try simp only [List.length_append, List.length_cons, List.length_nil]); omega))) | (with_reducible refine both_to ?_ ?_) | (with_reducible refine itet_to ?_) | (with_reducible refine itef_to ?_) | (with_reducible refine ite_to (fun _ => ?_) (fun _ => ?_))) <;> try (exfalso; omega)
    all_goals rfl
def RowsAb (m : Int) (l : List (List Int)) : Prop := ∃ r ∈ l, RAb m r
def TabsAb (m : Int) (l : List (List (List Int))) : Prop := ∃ t ∈ l, RowsAb m t
theorem RowsAb.cons {m : Int} {r : List Int} {l : List (List Int)} : RowsAb m (r :: l) ↔ RAb m r ∨ RowsAb m l := by unfold RowsAb; simp only [List.mem_cons, exists_eq_or_imp]
theorem TabsAb.cons {m : Int} {r : List (List Int)} {l : List (List (List Int))} : TabsAb m (r :: l) ↔ RowsAb m r ∨ TabsAb m l := by unfold TabsAb; simp only [List.mem_cons, exists_eq_or_imp]
theorem RowsAb.nil {m : Int} : ¬ RowsAb m [] := fun ⟨_, h, _⟩ => by cases h
theorem TabsAb.nil {m : Int} : ¬ TabsAb m [] := fun ⟨_, h, _⟩ => by cases h
open Classical in
theorem r18_Above_spec {a : Wg} {m : Int} (hm : 0 ≤ m ∧ m ≤ 100) (h1 : a.2.1.length ≤ 1000) (h2 : a.2.2.2.1.length ≤ 1000) (h3 : a.2.2.1.length ≤ 1000) (h4 : ∀ t ∈ a.2.2.1, t.length ≤ 1000 ∧ ∀ r ∈ t, r.length ≤ 1000) : r18_Above a m = some (decide (WAb m a)) := by
  have k7 : ∀ (k : Nat) (r4 : Bool → Int → Option Bool), k < a.2.2.1.length → ∀ (f i : Nat) (one : Bool), (ix a.2.2.1 (k : Int)).length - i = f → i ≤ (ix a.2.2.1 (k : Int)).length → r18_Above_L7 a m k r4 one i = r4 (one || decide (RowsAb m ((ix a.2.2.1 (k : Int)).drop i))) (k + 1) := by
    intro k r4 hk f
    have hmem := ix_mem (l := a.2.2.1) (i := (k : Int)) (by omega) (by omega)
    obtain ⟨g1, g2⟩ := h4 _ hmem
    induction f with
    | zero =>
      intro i one hf hi
      obtain rfl : i = (ix a.2.2.1 (k : Int)).length := by omega
      rw [r18_Above_L7_eq]; unfold r18_Above_L7_B
      rw [G_pos (by omega), if_neg (by simp), G_pos (by unfold fits; omega), List.drop_length, decide_eq_false RowsAb.nil, Bool.or_false]
    | succ f ih =>
      intro i one hf hi
      have hm2 := ix_mem (l := ix a.2.2.1 (k : Int)) (i := (i : Int)) (by omega) (by omega)
      have ed := ix_drop (l := ix a.2.2.1 (k : Int)) (i := (i : Int)) (by omega) (by omega)
      rw [Int.toNat_natCast, show ((i : Int) + 1).toNat = i + 1 from by omega] at ed
      rw [r18_Above_L7_eq]; unfold r18_Above_L7_B
      rw [G_pos (by omega), if_pos (by simp; omega), G_pos (by omega), G_pos (by omega)]
      refine bind_to (r18_above_spec hm (g2 _ hm2)) ?_
      have e2 : decide (RowsAb m ((ix a.2.2.1 (k : Int)).drop i)) = (decide (RAb m (ix (ix a.2.2.1 (k : Int)) (i : Int))) || decide (RowsAb m ((ix a.2.2.1 (k : Int)).drop (i + 1)))) := by
        rw [ed, ← Bool.decide_or]
        exact decide_eq_decide.2 RowsAb.cons
      rw [e2]
      cases one with
      | true =>
        rw [if_pos rfl, G_pos (by unfold fits; omega)]
        have := ih (i + 1) true (by omega) (by omega)
        simp only [Bool.true_or] at this ⊢
        exact this
      | false =>
        rw [if_neg (by simp), G_pos (by unfold fits; omega)]
        have := ih (i + 1) (decide (RAb m (ix (ix a.2.2.1 (k : Int)) (i : Int)))) (by omega) (by omega)
        rw [Bool.false_or]
        exact this
  have k4 : ∀ (f k : Nat) (one y : Bool), a.2.2.1.length - k = f → k ≤ a.2.2.1.length → r18_Above_L4 a m y one k = some ((one || decide (TabsAb m (a.2.2.1.drop k))) || y) := by
    intro f
    induction f with
    | zero =>
      intro k one y hf hk
      obtain rfl : k = a.2.2.1.length := by omega
      rw [r18_Above_L4_eq]; unfold r18_Above_L4_B
      rw [if_neg (by simp), List.drop_length, decide_eq_false TabsAb.nil, Bool.or_false]
      cases one <;> simp
    | succ f ih =>
      intro k one y hf hk
      have ed := ix_drop (l := a.2.2.1) (i := (k : Int)) (by omega) (by omega)
      rw [Int.toNat_natCast, show ((k : Int) + 1).toNat = k + 1 from by omega] at ed
      have e2 : decide (TabsAb m (a.2.2.1.drop k)) = (decide (RowsAb m (ix a.2.2.1 (k : Int))) || decide (TabsAb m (a.2.2.1.drop (k + 1)))) := by
        rw [ed, ← Bool.decide_or]
        exact decide_eq_decide.2 TabsAb.cons
      rw [r18_Above_L4_eq]; unfold r18_Above_L4_B
      rw [if_pos (by simp; omega)]
      have := k7 k (fun x1 x2 => r18_Above_L4 a m y x1 x2) (by omega) _ 0 one rfl (Nat.zero_le _)
      rw [List.drop_zero] at this
      refine this.trans ?_
      have := ih (k + 1) (one || decide (RowsAb m (ix a.2.2.1 (k : Int)))) y (by omega) (by omega)
      refine this.trans ?_
      rw [e2, Bool.or_assoc one]
  unfold r18_Above
  refine bind_to (r18_above_spec hm h1) (bind_to (r18_above_spec hm h2) ?_)
  have := k4 _ 0 (decide (RAb m a.2.1)) (decide (RAb m a.2.2.2.1)) rfl (Nat.zero_le _)
  refine this.trans ?_
  rw [List.drop_zero, ← Bool.decide_or, ← Bool.decide_or]
  congr 1
  unfold WAb
  exact decide_eq_decide.2 ⟨fun h => h.elim (fun h => h.elim .inl (fun h => .inr (.inr h))) (fun h => .inr (.inl h)), fun h => h.elim (fun h => .inl (.inl h)) (fun h => h.elim .inr (fun h => .inl (.inr h)))⟩
open Classical in
theorem r18_Check_spec {a : Wg} : r18_Check a = some (wgE a) := by
  unfold r18_Check wgE
  by_cases c1 : a.1 < 1 ∨ 4 < a.1
  · rw [if_pos c1]
    (try dsimp only); (repeat' first | (with_reducible refine G_to ?_ ?_; focus (first | omega | (unfold fits; omega) | (unfold room; (try simp only [List.length_append, List.length_cons, List.length_nil]); omega))) | (with_reducible refine both_to ?_ ?_) | (with_reducible refine itet_to ?_) | (with_reducible refine itef_to ?_) | (with_reducible refine ite_to (fun _ => ?_) (fun _ => ?_))) <;> try (exfalso; omega)
    all_goals rfl
  rw [if_neg c1]
  by_cases c2 : a.2.1.length < 1 ∨ 8 < a.2.1.length
  · rw [if_pos c2]
    (try dsimp only); (repeat' first | (with_reducible refine G_to ?_ ?_; focus (first | omega | (unfold fits; omega) | (unfold room; (try simp only [List.length_append, List.length_cons, List.length_nil]); omega))) | (with_reducible refine both_to ?_ ?_) | (with_reducible refine itet_to ?_) | (with_reducible refine itef_to ?_) | (with_reducible refine ite_to (fun _ => ?_) (fun _ => ?_))) <;> try (exfalso; omega)
    all_goals rfl
  rw [if_neg c2, if_neg (by simp; omega), if_neg (by simp; omega), if_neg (by simp; omega), if_neg (by simp; omega)]
  by_cases c3 : a.2.2.2.1.length = a.2.1.length
  case neg => rw [if_pos (show WRag a from .inl c3), if_pos (by simp; omega)]
  rw [if_neg (by simp; omega)]
  by_cases c4 : (a.2.2.1.length : Int) = a.1
  case neg => rw [if_pos (show WRag a from .inr (.inl c4)), if_pos (by simpa using c4)]
  rw [if_neg (by simpa using c4)]
  refine scan_to (len := (a.2.2.1.length : Int)) (bad := fun k => TRg a.2.1.length (ix a.2.2.1 k)) (by omega) (fun k k0 k1 => ⟨fun hb => ?_, fun hb => ?_⟩) (fun hh => ?_)
  · rw [if_pos (show WRag a from .inr (.inr ⟨_, ix_mem k0 k1, hb⟩))]
    rw [r18_Check_L9_eq]; unfold r18_Check_L9_B
    rw [if_pos (by simpa using k1), G_pos (by omega)]
    by_cases c5 : (ix a.2.2.1 k).length = a.2.1.length
    case neg => rw [if_pos (by rw [decide_eq_true_iff]; omega)]
    rw [if_neg (by rw [decide_eq_true_iff]; omega)]
    have hb2 : ∃ r ∈ ix a.2.2.1 k, ¬ r.length = a.2.1.length := hb.resolve_left (fun h => h c5)
    refine scan_to (len := (a.2.1.length : Int)) (bad := fun i => ¬ (ix (ix a.2.2.1 k) i).length = a.2.1.length) (by omega) (fun i i0 i1 => ⟨fun hb => ?_, fun hb => ?_⟩) (fun hh => ?_)
    · rw [r18_Check_L14_eq]; unfold r18_Check_L14_B
      rw [if_pos (by simpa using i1), G_pos (by omega), G_pos (by omega), if_pos (by rw [decide_eq_true_iff]; omega)]
    · conv => lhs; rw [r18_Check_L14_eq]; unfold r18_Check_L14_B
      rw [if_pos (by simpa using i1), G_pos (by omega), G_pos (by omega), if_neg (by rw [decide_eq_true_iff]; omega), G_pos (by unfold fits; omega)]
    · obtain ⟨i, i0, i1, hi⟩ := ex_ix.1 hb2
      exact absurd hi (hh i i0 (by omega))
  · have c5 : (ix a.2.2.1 k).length = a.2.1.length := Decidable.not_not.1 fun h => hb (.inl h)
    have hb2 : ∀ r ∈ ix a.2.2.1 k, r.length = a.2.1.length := fun r hr => Decidable.not_not.1 fun h => hb (.inr ⟨r, hr, h⟩)
    conv => lhs; rw [r18_Check_L9_eq]; unfold r18_Check_L9_B
    rw [if_pos (by simpa using k1), G_pos (by omega), if_neg (by rw [decide_eq_true_iff]; omega)]
    refine scan_to (len := (a.2.1.length : Int)) (bad := fun i => ¬ (ix (ix a.2.2.1 k) i).length = a.2.1.length) (by omega) (fun i i0 i1 => ⟨fun hb => absurd (hb2 _ (ix_mem i0 (by omega))) hb, fun hb => ?_⟩) (fun hh => ?_)
    · conv => lhs; rw [r18_Check_L14_eq]; unfold r18_Check_L14_B
      rw [if_pos (by simpa using i1), G_pos (by omega), G_pos (by omega), if_neg (by rw [decide_eq_true_iff]; omega), G_pos (by unfold fits; omega)]
    · rw [r18_Check_L14_eq]; unfold r18_Check_L14_B
      rw [if_neg (by simp), G_pos (by unfold fits; omega)]
  · have hn : ¬ WRag a := by
      rintro (h | h | ⟨x, hx, h⟩)
      · exact h c3
      · exact h c4
      · obtain ⟨k, k0, k1, rfl⟩ := (ex_ix (P := fun y => y = x)).1 ⟨x, hx, rfl⟩
        exact hh k k0 k1 h
    rw [if_neg hn]
    have hx : ∀ x ∈ a.2.2.1, x.length ≤ 1000 ∧ ∀ r ∈ x, r.length ≤ 1000 := fun x hx => by
      have g : ¬ TRg a.2.1.length x := fun h => hn (.inr (.inr ⟨x, hx, h⟩))
      have g1 : x.length = a.2.1.length := Decidable.not_not.1 fun h => g (.inl h)
      refine ⟨by omega, fun r hr => ?_⟩
      have g2 : r.length = a.2.1.length := Decidable.not_not.1 fun h => g (.inr ⟨r, hr, h⟩)
      omega
    rw [r18_Check_L9_eq]; unfold r18_Check_L9_B
    rw [if_neg (by simp)]
    refine bind_to (r18_Above_spec (a := a) (m := 9) (by omega) (by omega) (by omega) (by omega) hx) ?_
    by_cases c : WAb 9 a
    · rw [if_pos (decide_eq_true c), if_pos c]
    · rw [if_neg (by simpa using c), if_neg c]
/-! ### what words weigh -/
def dotI : List Int → List Int → Int
  | x :: r, y :: c => x * y + dotI r c
  | _, _ => 0
def colI (t : List (List Int)) (k : Int) : List Int := t.map fun r => ix r k
def byI (v : List Int) (t : List (List Int)) : List Int := (List.range t.length).map fun k : Nat => dotI v (colI t (k : Int))
def vals (r : List Wh) : List Int := r.map val
def Wn (B : Nat) (r : List Wh) : Prop := ∀ x ∈ r, Wok x ∧ x.2.1.length ≤ B
theorem drop_ix {α : Type} [Inhabited α] {l : List α} {i : Nat} (h : i < l.length) : l.drop i = ix l (i : Int) :: l.drop (i + 1) := by
  have := ix_drop (l := l) (i := (i : Int)) (by omega) (by omega)
  rw [Int.toNat_natCast, show ((i : Int) + 1).toNat = i + 1 from by omega] at this
  exact this
theorem Wide_spec {l : List Int} (h : ∀ x ∈ l, -10000 < x ∧ x < 10000) (hl : l.length ≤ 1000) : ∃ r, r18_Wide l = some r ∧ vals r = l ∧ Wn 1 r := by
  have key : ∀ (f i : Nat) (out : List Wh), l.length - i = f → i ≤ l.length → out.length = i → ∃ r, r18_Wide_L3 l i out = some (out ++ r) ∧ vals r = l.drop i ∧ Wn 1 r := by
    intro f
    induction f with
    | zero =>
      intro i out hf hi ho
      rw [r18_Wide_L3_eq]; unfold r18_Wide_L3_B
      rw [if_neg (by simp; omega)]
      exact ⟨[], by simp, by rw [List.drop_eq_nil_of_le (by omega)]; rfl, fun x hx => by cases hx⟩
    | succ f ih =>
      intro i out hf hi ho
      obtain ⟨x, x1, x2, x3, x4⟩ := Of_spec (h _ (ix_mem (l := l) (i := (i : Int)) (by omega) (by omega)))
      obtain ⟨r, r1, r2, r3⟩ := ih (i + 1) (out ++ [x]) (by omega) (by omega) (by simp; omega)
      refine ⟨x :: r, ?_, ?_, fun y hy => ?_⟩
      · rw [r18_Wide_L3_eq]; unfold r18_Wide_L3_B
        rw [if_pos (by simp; omega), G_pos (by omega)]
        refine bind_to x1 (G_to (by unfold room; simp; omega) (G_to (by unfold fits; omega) ?_))
        rw [show out ++ x :: r = out ++ [x] ++ r from by simp]
        exact r1
      · rw [drop_ix (i := i) (by omega), ← r2, ← x3]; rfl
      · rcases List.mem_cons.1 hy with rfl | hy
        · exact ⟨x2, x4⟩
        · exact r3 y hy
  obtain ⟨r, r1, r2, r3⟩ := key _ 0 [] rfl (Nat.zero_le _) rfl
  exact ⟨r, r1, by rw [r2, List.drop_zero], r3⟩
theorem Dot_spec {r c : List Wh} {B : Nat} (hr : Wn B r) (hc : Wn 1 c) (hl : r.length = c.length) (hn : r.length ≤ 100) (hB : B ≤ 3000) : ∃ x, r18_Dot r c = some x ∧ Wok x ∧ val x = dotI (vals r) (vals c) ∧ x.2.1.length ≤ B + 2 + r.length := by
  have key : ∀ (f i : Nat) (s : Wh), r.length - i = f → i ≤ r.length → Wok s → s.2.1.length ≤ B + 2 + i → ∃ x, r18_Dot_L3 r c i s.1 s.2.1 = some x ∧ Wok x ∧ val x = val s + dotI (vals (r.drop i)) (vals (c.drop i)) ∧ x.2.1.length ≤ B + 2 + r.length := by
    intro f
    induction f with
    | zero =>
      intro i s hf hi hs hls
      rw [r18_Dot_L3_eq]; unfold r18_Dot_L3_B
      rw [if_neg (by simp; omega)]
      refine ⟨s, rfl, hs, ?_, by omega⟩
      rw [List.drop_eq_nil_of_le (by omega)]
      show val s = val s + 0
      omega
    | succ f ih =>
      intro i s hf hi hs hls
      have m1 := hr _ (ix_mem (l := r) (i := (i : Int)) (by omega) (by omega))
      have m2 := hc _ (ix_mem (l := c) (i := (i : Int)) (by omega) (by omega))
      obtain ⟨p, p1, p2, p3, p4⟩ := Mul_spec m1.1 m2.1 (by omega) (by omega)
      obtain ⟨q, q1, q2, q3, q4⟩ := Add_spec hs p2 (by omega) (by omega)
      obtain ⟨x, x1, x2, x3, x4⟩ := ih (i + 1) q (by omega) (by omega) q2 (by omega)
      refine ⟨x, ?_, x2, ?_, x4⟩
      · rw [r18_Dot_L3_eq]; unfold r18_Dot_L3_B r18_Dot_J5
        rw [if_pos (by simp; omega), G_pos (by omega), G_pos (by omega)]
        refine both_to ?_ ?_
        · exact bind_to p1 (bind_to q1 (G_to (by unfold fits; omega) x1))
        · exact bind_to p1 (bind_to q1 (G_to (by unfold fits; omega) x1))
      · rw [x3, q3, p3, drop_ix (l := r) (i := i) (by omega), drop_ix (l := c) (i := i) (by omega)]
        show _ = val s + (val (ix r (i : Int)) * val (ix c (i : Int)) + dotI (vals (r.drop (i + 1))) (vals (c.drop (i + 1))))
        omega
  obtain ⟨x, x1, x2, x3, x4⟩ := key _ 0 (false, [], ()) rfl (Nat.zero_le _) ⟨fun _ h => (by cases h), trivial⟩ (Nat.zero_le _)
  refine ⟨x, x1, x2, ?_, x4⟩
  rw [x3, List.drop_zero, List.drop_zero]
  show 0 + _ = _
  omega
theorem By_spec {r : List Wh} {t : List (List Int)} {B : Nat} (hr : Wn B r) (hB : B ≤ 3000) (hl : t.length = r.length) (hn : r.length ≤ 8) (ht : ∀ x ∈ t, x.length = t.length ∧ ∀ y ∈ x, -10000 < y ∧ y < 10000) : ∃ o, r18_By r t = some o ∧ vals o = byI (vals r) t ∧ Wn (B + 10) o ∧ o.length = t.length := by
  have k7 : ∀ (k : Nat) (out : List Wh) {r3}, k < t.length → ∀ (f i : Nat) (c : List Int), t.length - i = f → i ≤ t.length → c = colI (t.take i) k → r18_By_L7 r t k out r3 i c = r18_By_L7 r t k out r3 t.length (colI t k) := by
    intro k out r3 hk f
    induction f with
    | zero =>
      intro i c hf hi hc
      obtain rfl : i = t.length := by omega
      rw [hc, List.take_length]
    | succ f ih =>
      intro i c hf hi hc
      have hm := ix_mem (l := t) (i := (i : Int)) (by omega) (by omega)
      have hrow := (ht _ hm).1
      have hcl : c.length = i := by rw [hc]; unfold colI; rw [List.length_map, List.length_take]; omega
      have et := ix_take (l := t) (i := (i : Int)) (by omega) (by omega)
      rw [Int.toNat_natCast, show ((i : Int) + 1).toNat = i + 1 from by omega] at et
      rw [← ih (i + 1) (c ++ [ix (ix t (i : Int)) (k : Int)]) (by omega) (by omega) (by rw [et, hc]; unfold colI; rw [List.map_append]; rfl)]
      conv => lhs; rw [r18_By_L7_eq]; unfold r18_By_L7_B
      rw [if_pos (by simp; omega), G_pos (by omega), G_pos (by omega), G_pos (by unfold room; simp; omega), G_pos (by unfold fits; omega)]
      rfl
  have key : ∀ (f k : Nat) (out : List Wh), t.length - k = f → k ≤ t.length → out.length = k → vals out = (List.range k).map (fun k : Nat => dotI (vals r) (colI t (k : Int))) → Wn (B + 10) out → ∃ o, r18_By_L3 r t k out = some o ∧ vals o = byI (vals r) t ∧ Wn (B + 10) o ∧ o.length = t.length := by
    intro f
    induction f with
    | zero =>
      intro k out hf hk hol ho hw
      obtain rfl : k = t.length := by omega
      rw [r18_By_L3_eq]; unfold r18_By_L3_B
      rw [if_neg (by simp)]
      exact ⟨out, rfl, ho, hw, hol⟩
    | succ f ih =>
      intro k out hf hk hol ho hw
      have hcol : ∀ x ∈ colI t (k : Int), -10000 < x ∧ x < 10000 := fun x hx => by
        obtain ⟨y, hy, rfl⟩ := List.mem_map.1 hx
        obtain ⟨g1, g2⟩ := ht y hy
        exact g2 _ (ix_mem (by omega) (by omega))
      have hcl : (colI t (k : Int)).length = t.length := by unfold colI; rw [List.length_map]
      obtain ⟨c, c1, c2, c3⟩ := Wide_spec hcol (by omega)
      have hc4 : c.length = t.length := by have := congrArg List.length c2; unfold vals at this; rw [List.length_map] at this; omega
      obtain ⟨x, x1, x2, x3, x4⟩ := Dot_spec hr c3 (by omega) (by omega) hB
      obtain ⟨o, o1, o2, o3, o4⟩ := ih (k + 1) (out ++ [x]) (by omega) (by omega) (by simp; omega) (by
          unfold vals at ho ⊢
          rw [List.map_append, ho, List.range_succ, List.map_append]
          congr 1
          show [val x] = [dotI (vals r) (colI t (k : Int))]
          rw [x3, c2]) (fun y hy => by
          rcases List.mem_append.1 hy with hy | hy
          · exact hw y hy
          · rw [List.mem_singleton.1 hy]; exact ⟨x2, by omega⟩)
      refine ⟨o, ?_, o2, o3, o4⟩
      rw [r18_By_L3_eq]; unfold r18_By_L3_B
      rw [if_pos (by simp; omega)]
      refine (k7 k out (by omega) _ 0 [] rfl (Nat.zero_le _) rfl).trans ?_
      rw [r18_By_L7_eq]; unfold r18_By_L7_B
      rw [if_neg (by simp)]
      exact bind_to c1 (bind_to x1 (G_to (by unfold room; simp; omega) (G_to (by unfold fits; omega) o1)))
  exact key _ 0 [] rfl (Nat.zero_le _) rfl rfl (fun _ h => by cases h)
def rowI (a : Wg) (w : List Int) : List Int := w.foldl (fun v l => byI v (ix a.2.2.1 l)) a.2.1
def valI (a : Wg) (w : List Int) : Int := dotI (rowI a w) a.2.2.2.1
theorem WOk.bd {a : Wg} (h : WOk a) : (∀ x ∈ a.2.1, -9 ≤ x ∧ x ≤ 9) ∧ (∀ x ∈ a.2.2.2.1, -9 ≤ x ∧ x ≤ 9) ∧ ∀ t ∈ a.2.2.1, ∀ r ∈ t, ∀ x ∈ r, -9 ≤ x ∧ x ≤ 9 := by
  have hs := h.small
  refine ⟨fun x hx => ?_, fun x hx => ?_, fun t ht r hr x hx => ?_⟩
  · have : ¬ outM 9 x := fun hh => hs (.inl ⟨x, hx, hh⟩)
    unfold outM at this; omega
  · have : ¬ outM 9 x := fun hh => hs (.inr (.inl ⟨x, hx, hh⟩))
    unfold outM at this; omega
  · have : ¬ outM 9 x := fun hh => hs (.inr (.inr ⟨t, ht, r, hr, x, hx, hh⟩))
    unfold outM at this; omega
theorem Value_spec {a : Wg} (h : WOk a) {w : List Int} (hw : ∀ l ∈ w, 0 ≤ l ∧ l < a.1) (hl : w.length ≤ 60) : ∃ x, r18_Value a w = some x ∧ Wok x ∧ val x = valI a w ∧ x.2.1.length ≤ 1000 := by
  have h2 := h.n1
  have hs := h.steps
  have hb := h.bd
  obtain ⟨f, f1, f2, f3⟩ := Wide_spec (l := a.2.1) (fun x hx => by have := hb.1 x hx; omega) (by omega)
  have f4 : f.length = a.2.1.length := by have := congrArg List.length f2; unfold vals at this; rw [List.length_map] at this; omega
  have key : ∀ (g i : Nat) (r : List Wh), w.length - i = g → i ≤ w.length → Wn (1 + 10 * i) r → r.length = a.2.1.length → ∃ o, r18_Row_L3 a w i r = some o ∧ vals o = (w.drop i).foldl (fun v l => byI v (ix a.2.2.1 l)) (vals r) ∧ Wn (1 + 10 * w.length) o ∧ o.length = a.2.1.length := by
    intro g
    induction g with
    | zero =>
      intro i r hf hi hr hrl
      obtain rfl : i = w.length := by omega
      rw [r18_Row_L3_eq]; unfold r18_Row_L3_B
      rw [if_neg (by simp)]
      exact ⟨r, rfl, by rw [List.drop_length]; rfl, hr, hrl⟩
    | succ g ih =>
      intro i r hf hi hr hrl
      have hm := hw _ (ix_mem (l := w) (i := (i : Int)) (by omega) (by omega))
      have hm2 := ix_mem (l := a.2.2.1) (i := ix w (i : Int)) hm.1 (by omega)
      obtain ⟨t1, t2⟩ := h.tab _ hm2
      obtain ⟨o, o1, o2, o3, o4⟩ := By_spec (r := r) (t := ix a.2.2.1 (ix w (i : Int))) hr (by omega) (by omega) (by omega) (fun x hx => ⟨by rw [t2 x hx, t1], fun y hy => by have := hb.2.2 _ hm2 x hx y hy; omega⟩)
      obtain ⟨q, q1, q2, q3, q4⟩ := ih (i + 1) o (by omega) (by omega) (by rw [show 1 + 10 * (i + 1) = 1 + 10 * i + 10 from by omega]; exact o3) (by omega)
      refine ⟨q, ?_, ?_, q3, q4⟩
      · rw [r18_Row_L3_eq]; unfold r18_Row_L3_B
        rw [if_pos (by simp; omega), G_pos (by omega), G_pos (by omega)]
        exact bind_to o1 (G_to (by unfold fits; omega) q1)
      · rw [q2, drop_ix (l := w) (i := i) (by omega), List.foldl_cons, o2]
  obtain ⟨o, o1, o2, o3, o4⟩ := key _ 0 f rfl (Nat.zero_le _) f3 f4
  obtain ⟨c, c1, c2, c3⟩ := Wide_spec (l := a.2.2.2.1) (fun x hx => by have := hb.2.1 x hx; omega) (by have := h.last; omega)
  have c4 : c.length = a.2.2.2.1.length := by have := congrArg List.length c2; unfold vals at this; rw [List.length_map] at this; omega
  have hla := h.last
  obtain ⟨x, x1, x2, x3, x4⟩ := Dot_spec o3 c3 (by omega) (by omega) (by omega)
  refine ⟨x, ?_, x2, ?_, by omega⟩
  · unfold r18_Value r18_Row
    exact bind_to (bind_to f1 o1) (bind_to c1 (bind_to x1 rfl))
  · rw [x3, c2, o2, List.drop_zero, f2]; rfl
/-! ### sums -/
def blk (n m : Nat) (A B : List (List Int)) : List (List Int) := A.map (fun r => r ++ List.replicate m 0) ++ B.map (fun r => List.replicate n 0 ++ r)
def sumW (a b : Wg) : Wg := (a.1, a.2.1 ++ b.2.1, (List.range a.1.toNat).map (fun t : Nat => blk a.2.1.length b.2.1.length (ix a.2.2.1 (t : Int)) (ix b.2.2.1 (t : Int))), a.2.2.2.1 ++ b.2.2.2.1, ())
theorem cat2 {x y : List Int} (hx : x.length ≤ 1000) (hy : y.length ≤ 1000) : slices_Concat [x, y] = some (x ++ y) := by
  rw [slices_Concat_spec (ls := [x, y]) (by simp) (by simp; omega)]; simp
theorem range_snoc {α : Type} (f : Nat → α) (k : Nat) : (List.range (k + 1)).map f = (List.range k).map f ++ [f k] := by
  rw [List.range_succ, List.map_append]; rfl
theorem take_map_snoc {α β : Type} [Inhabited α] (f : α → β) {l : List α} {i : Nat} (h : i < l.length) : (l.take (i + 1)).map f = (l.take i).map f ++ [f (ix l (i : Int))] := by
  have et := ix_take (l := l) (i := (i : Int)) (by omega) (by omega)
  rw [Int.toNat_natCast, show ((i : Int) + 1).toNat = i + 1 from by omega] at et
  rw [et, List.map_append]; rfl
theorem sum_spec {a b : Wg} (ha : WOk a) (hb : WOk b) (hL : a.1 = b.1) : weigh_sum a b 1 = some (sumW a b) := by
  have a1 := ha.let1
  have a2 := ha.n1
  have b2 := hb.n1
  have a3 := ha.last
  have b3 := hb.last
  have a4 := ha.steps
  have b4 := hb.steps
  have bb := hb.bd.1
  have k18 : ∀ (t : Nat) (o : Int) (l4 l5 : List Int) (out : List (List (List Int))) {r9}, t < b.2.2.1.length → out.length = t → ∀ (f i : Nat) (T : List (List Int)), (ix b.2.2.1 (t : Int)).length - i = f → i ≤ (ix b.2.2.1 (t : Int)).length → T = (ix a.2.2.1 (t : Int)).map (fun r => r ++ List.replicate b.2.1.length 0) ++ ((ix b.2.2.1 (t : Int)).take i).map (fun r => List.replicate a.2.1.length 0 ++ r) →
      weigh_sum_L18 a b t o l4 l5 out r9 i T = r9 (t + 1) o l4 l5 (out ++ [blk a.2.1.length b.2.1.length (ix a.2.2.1 (t : Int)) (ix b.2.2.1 (t : Int))]) := by
    intro t o l4 l5 out r9 ht hol f
    have hm := ix_mem (l := b.2.2.1) (i := (t : Int)) (by omega) (by omega)
    have hma := ix_mem (l := a.2.2.1) (i := (t : Int)) (by omega) (by omega)
    obtain ⟨g1, g2⟩ := hb.tab _ hm
    obtain ⟨g3, g4⟩ := ha.tab _ hma
    induction f with
    | zero =>
      intro i T hf hi hT
      obtain rfl : i = (ix b.2.2.1 (t : Int)).length := by omega
      rw [List.take_length] at hT
      rw [weigh_sum_L18_eq]; unfold weigh_sum_L18_B
      rw [if_neg (by simp), G_pos (by unfold room; simp; omega), G_pos (by unfold fits; omega), hT]; rfl
    | succ f ih =>
      intro i T hf hi hT
      have hr := g2 _ (ix_mem (l := ix b.2.2.1 (t : Int)) (i := (i : Int)) (by omega) (by omega))
      have hTl : T.length = a.2.1.length + i := by rw [hT]; simp; omega
      rw [weigh_sum_L18_eq]; unfold weigh_sum_L18_B
      rw [if_pos (by simp; omega), G_pos (by omega), G_pos (by unfold mkOK; omega), Int.toNat_natCast]
      refine bind_to (cat2 (by rw [List.length_replicate]; omega) (by omega)) (G_to (by unfold room; simp; omega) (G_to (by unfold fits; omega) ?_))
      exact ih (i + 1) _ (by omega) (by omega) (by rw [take_map_snoc _ (by omega), ← List.append_assoc, ← hT])
  have k13 : ∀ (t : Nat) (o : Int) (l4 l5 : List Int) (out : List (List (List Int))) {r9}, t < b.2.2.1.length → out.length = t → ∀ (f i : Nat) (T : List (List Int)), (ix a.2.2.1 (t : Int)).length - i = f → i ≤ (ix a.2.2.1 (t : Int)).length → T = ((ix a.2.2.1 (t : Int)).take i).map (fun r => r ++ List.replicate b.2.1.length 0) →
      weigh_sum_L13 a b t o l4 l5 out r9 i T = r9 (t + 1) o l4 l5 (out ++ [blk a.2.1.length b.2.1.length (ix a.2.2.1 (t : Int)) (ix b.2.2.1 (t : Int))]) := by
    intro t o l4 l5 out r9 ht hol f
    have hma := ix_mem (l := a.2.2.1) (i := (t : Int)) (by omega) (by omega)
    obtain ⟨g3, g4⟩ := ha.tab _ hma
    induction f with
    | zero =>
      intro i T hf hi hT
      obtain rfl : i = (ix a.2.2.1 (t : Int)).length := by omega
      rw [List.take_length] at hT
      rw [weigh_sum_L13_eq]; unfold weigh_sum_L13_B
      rw [if_neg (by simp), G_pos (by omega)]
      exact k18 t o l4 l5 out ht hol _ 0 T rfl (Nat.zero_le _) (by rw [hT]; simp)
    | succ f ih =>
      intro i T hf hi hT
      have hr := g4 _ (ix_mem (l := ix a.2.2.1 (t : Int)) (i := (i : Int)) (by omega) (by omega))
      have hTl : T.length = i := by rw [hT]; simp; omega
      rw [weigh_sum_L13_eq]; unfold weigh_sum_L13_B
      rw [if_pos (by simp; omega), G_pos (by omega), G_pos (by unfold mkOK; omega), Int.toNat_natCast]
      refine bind_to (cat2 (by omega) (by rw [List.length_replicate]; omega)) (G_to (by unfold room; simp; omega) (G_to (by unfold fits; omega) ?_))
      exact ih (i + 1) _ (by omega) (by omega) (by rw [take_map_snoc _ (by omega), ← hT])
  have k9 : ∀ (f t : Nat) (o : Int) (l4 l5 : List Int) (out : List (List (List Int))), a.1.toNat - t = f → t ≤ a.1.toNat → out = (List.range t).map (fun t : Nat => blk a.2.1.length b.2.1.length (ix a.2.2.1 (t : Int)) (ix b.2.2.1 (t : Int))) →
      weigh_sum_L9 a b t o l4 l5 out = some (o, l4, (List.range a.1.toNat).map (fun t : Nat => blk a.2.1.length b.2.1.length (ix a.2.2.1 (t : Int)) (ix b.2.2.1 (t : Int))), l5, ()) := by
    intro f
    induction f with
    | zero =>
      intro t o l4 l5 out hf ht ho
      obtain rfl : t = a.1.toNat := by omega
      rw [weigh_sum_L9_eq]; unfold weigh_sum_L9_B
      rw [if_neg (by rw [decide_eq_true_iff]; omega), ho]
    | succ f ih =>
      intro t o l4 l5 out hf ht ho
      have hol : out.length = t := by rw [ho]; simp
      rw [weigh_sum_L9_eq]; unfold weigh_sum_L9_B
      rw [if_pos (by rw [decide_eq_true_iff]; omega), G_pos (by omega)]
      refine (k13 t o l4 l5 out (r9 := fun x1 x2 x3 x4 x5 => weigh_sum_L9 a b x1 x2 x3 x4 x5) (by omega) hol _ 0 [] rfl (Nat.zero_le _) (by simp)).trans ?_
      exact ih (t + 1) o l4 l5 _ (by omega) (by omega) (by rw [range_snoc, ← ho])
  have k4 : ∀ (f t : Nat) (o : Int) (l2 l3 : List Int), b.2.1.length - t = f → t ≤ b.2.1.length → l2 = a.2.1 ++ b.2.1.take t → weigh_sum_L4 a b 1 t o l2 l3 = weigh_sum_L9 a b 0 o (a.2.1 ++ b.2.1) l3 [] := by
    intro f
    induction f with
    | zero =>
      intro t o l2 l3 hf ht hl
      obtain rfl : t = b.2.1.length := by omega
      rw [weigh_sum_L4_eq]; unfold weigh_sum_L4_B
      rw [if_neg (by simp), hl, List.take_length]
    | succ f ih =>
      intro t o l2 l3 hf ht hl
      have hx := bb _ (ix_mem (l := b.2.1) (i := (t : Int)) (by omega) (by omega))
      have hll : l2.length = a.2.1.length + t := by rw [hl]; simp; omega
      have et := ix_take (l := b.2.1) (i := (t : Int)) (by omega) (by omega)
      rw [Int.toNat_natCast, show ((t : Int) + 1).toNat = t + 1 from by omega] at et
      rw [← ih (t + 1) o (l2 ++ [ix b.2.1 (t : Int)]) l3 (by omega) (by omega) (by rw [et, hl, List.append_assoc])]
      conv => lhs; rw [weigh_sum_L4_eq]; unfold weigh_sum_L4_B
      rw [Int.one_mul, if_pos (by simp; omega), G_pos (by omega), G_pos (by unfold fits; omega), G_pos (by unfold room; simp; omega), G_pos (by unfold fits; omega)]
      rfl
  have main : weigh_sum_J2 a b 1 a.1 a.2.1 (a.2.2.2.1 ++ b.2.2.2.1) = some (sumW a b) := by
    unfold weigh_sum_J2
    refine (k4 _ 0 a.1 a.2.1 (a.2.2.2.1 ++ b.2.2.2.1) rfl (Nat.zero_le _) (by simp)).trans ?_
    exact k9 _ 0 _ _ _ [] rfl (Nat.zero_le _) rfl
  have c1 : slices_Clone a.2.1 = some a.2.1 := slices_Clone_spec (by omega)
  have c2 : slices_Concat [a.2.2.2.1, b.2.2.2.1] = some (a.2.2.2.1 ++ b.2.2.2.1) := cat2 (by omega) (by omega)
  unfold weigh_sum
  rw [c1, c2]
  repeat' first | exact main | refine both_to ?_ ?_ | refine bind_to rfl ?_
/-! ### products -/
def kron (u v : List Int) : List Int := (u.map fun x => v.map fun y => x * y).flatten
def kt (A B : List (List Int)) : List (List Int) := (A.map fun r => B.map fun s => kron r s).flatten
def prodW (a b : Wg) : Wg := (a.1, kron a.2.1 b.2.1, (List.range a.1.toNat).map (fun t : Nat => kt (ix a.2.2.1 (t : Int)) (ix b.2.2.1 (t : Int))), kron a.2.2.2.1 b.2.2.2.1, ())
theorem kron_len (u v : List Int) : (kron u v).length = u.length * v.length := by
  unfold kron
  induction u with
  | nil => simp
  | cons x u ih => rw [List.map_cons, List.flatten_cons, List.length_append, ih, List.length_map, List.length_cons, Nat.succ_mul]; omega
theorem kt_len (A B : List (List Int)) : (kt A B).length = A.length * B.length := by
  unfold kt
  induction A with
  | nil => simp
  | cons x u ih => rw [List.map_cons, List.flatten_cons, List.length_append, ih, List.length_map, List.length_cons, Nat.succ_mul]; omega
theorem times_spec {u v : List Int} (hu : u.length ≤ 8) (hv : v.length ≤ 8) (bu : ∀ x ∈ u, -9 ≤ x ∧ x ≤ 9) (bv : ∀ x ∈ v, -9 ≤ x ∧ x ≤ 9) : weigh_times u v = some (kron u v) := by
  have k6 : ∀ (t : Nat) {r3}, t < u.length → ∀ (f i : Nat) (l l0 : List Int), v.length - i = f → i ≤ v.length → l0.length ≤ 100 → l = l0 ++ (v.take i).map (fun y => ix u (t : Int) * y) → weigh_times_L6 u v t r3 i l = r3 (t + 1) (l0 ++ v.map (fun y => ix u (t : Int) * y)) := by
    intro t r3 ht f
    have hx := bu _ (ix_mem (l := u) (i := (t : Int)) (by omega) (by omega))
    induction f with
    | zero =>
      intro i l l0 hf hi hl0 hl
      obtain rfl : i = v.length := by omega
      rw [weigh_times_L6_eq]; unfold weigh_times_L6_B
      rw [if_neg (by simp), G_pos (by unfold fits; omega), hl, List.take_length]
    | succ f ih =>
      intro i l l0 hf hi hl0 hl
      have hy := bv _ (ix_mem (l := v) (i := (i : Int)) (by omega) (by omega))
      have hll : l.length ≤ 108 := by rw [hl]; simp; omega
      have hm : -81 ≤ ix u (t : Int) * ix v (i : Int) ∧ ix u (t : Int) * ix v (i : Int) ≤ 81 := by
        generalize ix u (t : Int) = x at hx
        generalize ix v (i : Int) = y at hy
        have e1 : 0 ≤ (9 - x) * (9 + y) := Int.mul_nonneg (by omega) (by omega)
        have e2 : 0 ≤ (9 + x) * (9 - y) := Int.mul_nonneg (by omega) (by omega)
        have e3 : 0 ≤ (9 - x) * (9 - y) := Int.mul_nonneg (by omega) (by omega)
        have e4 : 0 ≤ (9 + x) * (9 + y) := Int.mul_nonneg (by omega) (by omega)
        simp only [Int.sub_mul, Int.add_mul, Int.mul_sub, Int.mul_add] at e1 e2 e3 e4
        omega
      rw [weigh_times_L6_eq]; unfold weigh_times_L6_B
      rw [if_pos (by simp; omega), G_pos (by omega), G_pos (by unfold fits; omega), G_pos (by unfold room; simp; omega), G_pos (by unfold fits; omega)]
      exact ih (i + 1) _ l0 (by omega) (by omega) hl0 (by rw [take_map_snoc _ (by omega), ← List.append_assoc, ← hl])
  have k3 : ∀ (f t : Nat) (l : List Int), u.length - t = f → t ≤ u.length → l = kron (u.take t) v → weigh_times_L3 u v t l = some (kron u v) := by
    intro f
    induction f with
    | zero =>
      intro t l hf ht hl
      obtain rfl : t = u.length := by omega
      rw [weigh_times_L3_eq]; unfold weigh_times_L3_B
      rw [if_neg (by simp), hl, List.take_length]
    | succ f ih =>
      intro t l hf ht hl
      have hll : l.length ≤ 64 := by
        rw [hl, kron_len, List.length_take]
        exact Nat.le_trans (Nat.mul_le_mul (show min t u.length ≤ 8 by omega) hv) (by omega)
      rw [weigh_times_L3_eq]; unfold weigh_times_L3_B
      rw [if_pos (by simp; omega), G_pos (by omega)]
      refine (k6 t (by omega) _ 0 l l rfl (Nat.zero_le _) (by omega) (by simp)).trans ?_
      refine ih (t + 1) _ (by omega) (by omega) ?_
      unfold kron at hl ⊢
      rw [take_map_snoc _ (by omega), List.flatten_append, ← hl]
      simp
  unfold weigh_times
  exact k3 _ 0 [] rfl (Nat.zero_le _) rfl
theorem prod_spec {a b : Wg} (ha : WOk a) (hb : WOk b) (hL : a.1 = b.1) : weigh_Product_J8 a b a.1 (kron a.2.1 b.2.1) (kron a.2.2.2.1 b.2.2.2.1) = some (prodW a b, 0) := by
  have a1 := ha.let1
  have a2 := ha.n1
  have b2 := hb.n1
  have a4 := ha.steps
  have b4 := hb.steps
  have k17 : ∀ (t i : Nat) {r14}, t < a.2.2.1.length → i < (ix a.2.2.1 (t : Int)).length → ∀ (f j : Nat) (T T0 : List (List Int)), (ix b.2.2.1 (t : Int)).length - j = f → j ≤ (ix b.2.2.1 (t : Int)).length → T0.length ≤ 100 → T = T0 ++ ((ix b.2.2.1 (t : Int)).take j).map (fun s => kron (ix (ix a.2.2.1 (t : Int)) (i : Int)) s) →
      weigh_Product_L17 a b t i r14 j T = r14 (i + 1) (T0 ++ (ix b.2.2.1 (t : Int)).map (fun s => kron (ix (ix a.2.2.1 (t : Int)) (i : Int)) s)) := by
    intro t i r14 ht hi f
    have hm := ix_mem (l := b.2.2.1) (i := (t : Int)) (by omega) (by omega)
    have hma := ix_mem (l := a.2.2.1) (i := (t : Int)) (by omega) (by omega)
    obtain ⟨g1, g2⟩ := hb.tab _ hm
    obtain ⟨g3, g4⟩ := ha.tab _ hma
    have hmi := ix_mem (l := ix a.2.2.1 (t : Int)) (i := (i : Int)) (by omega) (by omega)
    have hri := g4 _ hmi
    induction f with
    | zero =>
      intro j T T0 hf hj hT0 hT
      obtain rfl : j = (ix b.2.2.1 (t : Int)).length := by omega
      rw [weigh_Product_L17_eq]; unfold weigh_Product_L17_B
      rw [if_neg (by simp), G_pos (by unfold fits; omega), hT, List.take_length]
    | succ f ih =>
      intro j T T0 hf hj hT0 hT
      have hmj := ix_mem (l := ix b.2.2.1 (t : Int)) (i := (j : Int)) (by omega) (by omega)
      have hrj := g2 _ hmj
      have hTl : T.length ≤ 108 := by rw [hT]; simp; omega
      rw [weigh_Product_L17_eq]; unfold weigh_Product_L17_B
      rw [if_pos (by simp; omega), G_pos (by omega)]
      refine bind_to (times_spec (by omega) (by omega) (ha.bd.2.2 _ hma _ hmi) (hb.bd.2.2 _ hm _ hmj)) (G_to (by unfold room; simp; omega) (G_to (by unfold fits; omega) ?_))
      exact ih (j + 1) _ T0 (by omega) (by omega) hT0 (by rw [take_map_snoc _ (by omega), ← List.append_assoc, ← hT])
  have k14 : ∀ (t : Nat) (o : Int) (l4 l5 : List Int) (out : List (List (List Int))) {r10}, t < a.2.2.1.length → out.length = t → ∀ (f i : Nat) (T : List (List Int)), (ix a.2.2.1 (t : Int)).length - i = f → i ≤ (ix a.2.2.1 (t : Int)).length → T = kt ((ix a.2.2.1 (t : Int)).take i) (ix b.2.2.1 (t : Int)) →
      weigh_Product_L14 a b t o l4 l5 out r10 i T = r10 (t + 1) o l4 l5 (out ++ [kt (ix a.2.2.1 (t : Int)) (ix b.2.2.1 (t : Int))]) := by
    intro t o l4 l5 out r10 ht hol f
    have hm := ix_mem (l := b.2.2.1) (i := (t : Int)) (by omega) (by omega)
    have hma := ix_mem (l := a.2.2.1) (i := (t : Int)) (by omega) (by omega)
    obtain ⟨g1, g2⟩ := hb.tab _ hm
    obtain ⟨g3, g4⟩ := ha.tab _ hma
    induction f with
    | zero =>
      intro i T hf hi hT
      obtain rfl : i = (ix a.2.2.1 (t : Int)).length := by omega
      rw [weigh_Product_L14_eq]; unfold weigh_Product_L14_B
      rw [if_neg (by simp), G_pos (by unfold room; simp; omega), G_pos (by unfold fits; omega), hT, List.take_length]
    | succ f ih =>
      intro i T hf hi hT
      have hTl : T.length ≤ 64 := by
        rw [hT, kt_len, List.length_take]
        exact Nat.le_trans (Nat.mul_le_mul (show min i _ ≤ 8 by omega) (show (ix b.2.2.1 (t : Int)).length ≤ 8 by omega)) (by omega)
      rw [weigh_Product_L14_eq]; unfold weigh_Product_L14_B
      rw [if_pos (by simp; omega), G_pos (by omega), G_pos (by omega)]
      refine (k17 t i (by omega) (by omega) _ 0 T T rfl (Nat.zero_le _) (by omega) (by simp)).trans ?_
      refine ih (i + 1) _ (by omega) (by omega) ?_
      unfold kt at hT ⊢
      rw [take_map_snoc _ (by omega), List.flatten_append, ← hT]
      simp
  have k10 : ∀ (f t : Nat) (o : Int) (l4 l5 : List Int) (out : List (List (List Int))), a.1.toNat - t = f → t ≤ a.1.toNat → out = (List.range t).map (fun t : Nat => kt (ix a.2.2.1 (t : Int)) (ix b.2.2.1 (t : Int))) →
      weigh_Product_L10 a b t o l4 l5 out = some ((o, l4, (List.range a.1.toNat).map (fun t : Nat => kt (ix a.2.2.1 (t : Int)) (ix b.2.2.1 (t : Int))), l5, ()), 0) := by
    intro f
    induction f with
    | zero =>
      intro t o l4 l5 out hf ht ho
      obtain rfl : t = a.1.toNat := by omega
      rw [weigh_Product_L10_eq]; unfold weigh_Product_L10_B
      rw [if_neg (by rw [decide_eq_true_iff]; omega), ho]
    | succ f ih =>
      intro t o l4 l5 out hf ht ho
      have hol : out.length = t := by rw [ho]; simp
      rw [weigh_Product_L10_eq]; unfold weigh_Product_L10_B
      rw [if_pos (by rw [decide_eq_true_iff]; omega), G_pos (by omega)]
      refine (k14 t o l4 l5 out (r10 := fun x1 x2 x3 x4 x5 => weigh_Product_L10 a b x1 x2 x3 x4 x5) (by omega) hol _ 0 [] rfl (Nat.zero_le _) rfl).trans ?_
      exact ih (t + 1) o l4 l5 _ (by omega) (by omega) (by rw [range_snoc, ← ho])
  unfold weigh_Product_J8
  exact k10 _ 0 _ _ _ [] rfl (Nat.zero_le _) rfl
/-! ### what they weigh -/
theorem dotI_append : ∀ {u x v y : List Int}, u.length = x.length → dotI (u ++ v) (x ++ y) = dotI u x + dotI v y
  | [], [], v, y, _ => by show dotI v y = 0 + dotI v y; omega
  | [], _ :: _, _, _, h => by simp at h
  | _ :: _, [], _, _, h => by simp at h
  | p :: u, q :: x, v, y, h => by
    show p * q + dotI (u ++ v) (x ++ y) = p * q + dotI u x + dotI v y
    rw [dotI_append (u := u) (x := x) (by simpa using h)]; omega
theorem dotI_zero : ∀ (v : List Int) (k : Nat), dotI v (List.replicate k 0) = 0
  | [], _ => by unfold dotI; rfl
  | _ :: _, 0 => rfl
  | p :: v, k + 1 => by
    show p * 0 + dotI v (List.replicate k 0) = 0
    rw [dotI_zero v k]; omega
theorem byI_len (v : List Int) (t : List (List Int)) : (byI v t).length = t.length := by unfold byI; simp
theorem range_ix {α : Type} [Inhabited α] (f : Nat → α) {n : Nat} {j : Int} (j0 : 0 ≤ j) (j1 : j < n) : ix ((List.range n).map f) j = f j.toNat := by
  rw [ix_eq j0 (by simp; omega)]; simp
theorem byI_ix {v : List Int} {t : List (List Int)} {j : Int} (j0 : 0 ≤ j) (j1 : j < t.length) : ix (byI v t) j = dotI v (colI t j) := by
  unfold byI
  rw [range_ix _ j0 j1, show ((j.toNat : Nat) : Int) = j from by omega]
theorem map_const {α : Type} (l : List α) {f : α → Int} (h : ∀ x ∈ l, f x = 0) : l.map f = List.replicate l.length 0 := by
  rw [List.map_congr_left h]; exact List.map_const' ..
theorem byI_sum {u v : List Int} {A B : List (List Int)} {n m : Nat} (hu : u.length = n) (hv : v.length = m) (hA : A.length = n) (hB : B.length = m) (rA : ∀ r ∈ A, r.length = n) (rB : ∀ r ∈ B, r.length = m) : byI (u ++ v) (blk n m A B) = byI u A ++ byI v B := by
  have hl : (blk n m A B).length = n + m := by unfold blk; simp; omega
  refine ix_ext (by rw [byI_len, List.length_append, byI_len, byI_len]; omega) fun j j0 j1 => ?_
  rw [byI_len, hl] at j1
  rw [byI_ix j0 (by omega)]
  unfold blk colI
  rw [List.map_append, List.map_map, List.map_map, dotI_append (by simp; omega)]
  by_cases c : j < n
  · rw [ix_append_left j0 (by rw [byI_len]; omega), byI_ix j0 (by omega)]
    rw [map_const B (f := (fun r => ix r j) ∘ fun r => List.replicate n 0 ++ r) (fun r hr => by
      show ix (List.replicate n 0 ++ r) j = 0
      rw [ix_append_left j0 (by rw [List.length_replicate]; omega), ix_replicate j0 (by omega)]), dotI_zero]
    rw [List.map_congr_left (g := fun r => ix r j) (fun r hr => by
      show ix (r ++ List.replicate m 0) j = ix r j
      rw [ix_append_left j0 (by rw [rA r hr]; omega)])]
    unfold colI
    omega
  · rw [ix_append_right (by rw [byI_len]; omega), byI_len, hA, byI_ix (by omega) (by omega)]
    rw [map_const A (f := (fun r => ix r j) ∘ fun r => r ++ List.replicate m 0) (fun r hr => by
      show ix (r ++ List.replicate m 0) j = 0
      rw [ix_append_right (by rw [rA r hr]; omega), rA r hr, ix_replicate (by omega) (by omega)]), dotI_zero]
    rw [List.map_congr_left (l := B) (g := fun r => ix r (j - n)) (fun r hr => by
      show ix (List.replicate n 0 ++ r) j = ix r (j - n)
      rw [ix_append_right (by rw [List.length_replicate]; omega), List.length_replicate])]
    unfold colI
    omega
theorem kron_cons (p : Int) (u v : List Int) : kron (p :: u) v = v.map (fun y => p * y) ++ kron u v := rfl
theorem dotI_map : ∀ {v y : List Int} {p q : Int}, v.length = y.length → dotI (v.map fun z => p * z) (y.map fun z => q * z) = p * q * dotI v y
  | [], [], p, q, _ => by show (0 : Int) = p * q * 0; rw [Int.mul_zero]
  | [], _ :: _, _, _, h => by simp at h
  | _ :: _, [], _, _, h => by simp at h
  | a :: v, b :: y, p, q, h => by
    show p * a * (q * b) + dotI (v.map fun z => p * z) (y.map fun z => q * z) = p * q * (a * b + dotI v y)
    rw [dotI_map (by simpa using h), Int.mul_add]
    congr 1
    rw [Int.mul_assoc, Int.mul_assoc, ← Int.mul_assoc a, Int.mul_comm a q, Int.mul_assoc q]
theorem dotI_kron : ∀ {u x : List Int} {v y : List Int}, u.length = x.length → v.length = y.length → dotI (kron u v) (kron x y) = dotI u x * dotI v y
  | [], [], v, y, _, _ => by show dotI [] [] = 0 * dotI v y; rw [Int.zero_mul]; rfl
  | [], _ :: _, _, _, h, _ => by simp at h
  | _ :: _, [], _, _, h, _ => by simp at h
  | p :: u, q :: x, v, y, h, h2 => by
    rw [kron_cons, kron_cons, dotI_append (by simp [h2]), dotI_map h2, dotI_kron (by simpa using h) h2]
    show _ = (p * q + dotI u x) * dotI v y
    rw [Int.add_mul]
theorem kron_ix : ∀ {x y : List Int} {k l : Nat}, k < x.length → l < y.length → ix (kron x y) ((k * y.length + l : Nat) : Int) = ix x (k : Int) * ix y (l : Int)
  | [], _, _, _, h, _ => by simp at h
  | p :: x, y, 0, l, _, hl => by
    rw [kron_cons, Nat.zero_mul, Nat.zero_add, ix_append_left (by omega) (by simp; omega), ix_map _ (by omega) (by omega)]
    rfl
  | p :: x, y, k + 1, l, hk, hl => by
    have e : (((k + 1) * y.length + l : Nat) : Int) - ((y.map fun z => p * z).length : Int) = ((k * y.length + l : Nat) : Int) := by
      rw [List.length_map, Nat.succ_mul]; omega
    rw [kron_cons, ix_append_right (by rw [List.length_map, Nat.succ_mul]; omega), e, kron_ix (by simpa using hk) hl]
    congr 1
theorem colI_kt {A B : List (List Int)} {n m k l : Nat} (rA : ∀ r ∈ A, r.length = n) (rB : ∀ r ∈ B, r.length = m) (hk : k < n) (hl : l < m) : colI (kt A B) ((k * m + l : Nat) : Int) = kron (colI A k) (colI B l) := by
  unfold colI kt kron
  rw [List.map_flatten, List.map_map, List.map_map]
  congr 1
  refine List.map_congr_left fun r hr => ?_
  show (B.map fun s => kron r s).map (fun r => ix r ((k * m + l : Nat) : Int)) = (B.map fun r => ix r (l : Int)).map fun y => ix r (k : Int) * y
  rw [List.map_map, List.map_map]
  refine List.map_congr_left fun s hs => ?_
  show ix (kron r s) ((k * m + l : Nat) : Int) = ix r (k : Int) * ix s (l : Int)
  have := kron_ix (x := r) (y := s) (k := k) (l := l) (by rw [rA r hr]; exact hk) (by rw [rB s hs]; exact hl)
  rw [rB s hs] at this
  exact this
theorem byI_prod {u v : List Int} {A B : List (List Int)} {n m : Nat} (hu : u.length = n) (hv : v.length = m) (hA : A.length = n) (hB : B.length = m) (rA : ∀ r ∈ A, r.length = n) (rB : ∀ r ∈ B, r.length = m) (hm : 0 < m) : byI (kron u v) (kt A B) = kron (byI u A) (byI v B) := by
  have hl : (kt A B).length = n * m := by rw [kt_len, hA, hB]
  refine ix_ext (by rw [byI_len, kron_len, byI_len, byI_len, hl, hA, hB]) fun j j0 j1 => ?_
  rw [byI_len] at j1
  rw [byI_ix j0 j1]
  rw [hl] at j1
  obtain ⟨i, rfl⟩ : ∃ i : Nat, j = (i : Int) := ⟨j.toNat, by omega⟩
  have hi : i < n * m := by omega
  obtain ⟨k, l, hk, hlt, ei⟩ : ∃ k l : Nat, k < n ∧ l < m ∧ i = k * m + l := ⟨i / m, i % m, (Nat.div_lt_iff_lt_mul hm).2 hi, Nat.mod_lt _ hm, by rw [Nat.mul_comm]; exact (Nat.div_add_mod i m).symm⟩
  have e2 := kron_ix (x := byI u A) (y := byI v B) (k := k) (l := l) (by rw [byI_len]; omega) (by rw [byI_len]; omega)
  rw [byI_len, hB, ← ei, byI_ix (by omega) (by rw [hA]; omega), byI_ix (by omega) (by rw [hB]; omega)] at e2
  rw [e2]
  have e3 := colI_kt (k := k) (l := l) rA rB hk hlt
  rw [← ei] at e3
  rw [e3, dotI_kron (by unfold colI; rw [List.length_map]; omega) (by unfold colI; rw [List.length_map]; omega)]
theorem WOk.step {a : Wg} (h : WOk a) {l : Int} (l0 : 0 ≤ l) (l1 : l < a.1) : (ix a.2.2.1 l).length = a.2.1.length ∧ ∀ r ∈ ix a.2.2.1 l, r.length = a.2.1.length := by
  have := h.steps
  exact h.tab _ (ix_mem l0 (by omega))
theorem sum_row {a b : Wg} (ha : WOk a) (hb : WOk b) (hL : a.1 = b.1) : ∀ (w : List Int) (u v : List Int), u.length = a.2.1.length → v.length = b.2.1.length → (∀ l ∈ w, 0 ≤ l ∧ l < a.1) →
    w.foldl (fun v l => byI v (ix (sumW a b).2.2.1 l)) (u ++ v) = w.foldl (fun v l => byI v (ix a.2.2.1 l)) u ++ w.foldl (fun v l => byI v (ix b.2.2.1 l)) v ∧ (w.foldl (fun v l => byI v (ix a.2.2.1 l)) u).length = a.2.1.length
  | [], u, v, hu, hv, _ => ⟨rfl, hu⟩
  | l :: w, u, v, hu, hv, hw => by
    have hl := hw l (by simp)
    have sa := ha.step hl.1 hl.2
    have sb := hb.step hl.1 (by omega)
    have e : ix (sumW a b).2.2.1 l = blk a.2.1.length b.2.1.length (ix a.2.2.1 l) (ix b.2.2.1 l) := by
      show ix ((List.range a.1.toNat).map _) l = _
      rw [range_ix _ hl.1 (by omega), show ((l.toNat : Nat) : Int) = l from by omega]
    rw [List.foldl_cons, List.foldl_cons, List.foldl_cons, e, byI_sum hu hv sa.1 sb.1 sa.2 sb.2]
    exact sum_row ha hb hL w _ _ (by rw [byI_len]; exact sa.1) (by rw [byI_len]; exact sb.1) (fun x hx => hw x (by simp [hx]))
theorem prod_row {a b : Wg} (ha : WOk a) (hb : WOk b) (hL : a.1 = b.1) : ∀ (w : List Int) (u v : List Int), u.length = a.2.1.length → v.length = b.2.1.length → (∀ l ∈ w, 0 ≤ l ∧ l < a.1) →
    w.foldl (fun v l => byI v (ix (prodW a b).2.2.1 l)) (kron u v) = kron (w.foldl (fun v l => byI v (ix a.2.2.1 l)) u) (w.foldl (fun v l => byI v (ix b.2.2.1 l)) v) ∧ (w.foldl (fun v l => byI v (ix a.2.2.1 l)) u).length = a.2.1.length ∧ (w.foldl (fun v l => byI v (ix b.2.2.1 l)) v).length = b.2.1.length
  | [], u, v, hu, hv, _ => ⟨rfl, hu, hv⟩
  | l :: w, u, v, hu, hv, hw => by
    have hl := hw l (by simp)
    have sa := ha.step hl.1 hl.2
    have sb := hb.step hl.1 (by omega)
    have hb1 := hb.n1
    have e : ix (prodW a b).2.2.1 l = kt (ix a.2.2.1 l) (ix b.2.2.1 l) := by
      show ix ((List.range a.1.toNat).map _) l = _
      rw [range_ix _ hl.1 (by omega), show ((l.toNat : Nat) : Int) = l from by omega]
    rw [List.foldl_cons, List.foldl_cons, List.foldl_cons, e, byI_prod hu hv sa.1 sb.1 sa.2 sb.2 (by omega)]
    exact prod_row ha hb hL w _ _ (by rw [byI_len]; exact sa.1) (by rw [byI_len]; exact sb.1) (fun x hx => hw x (by simp [hx]))
theorem sum_val {a b : Wg} (ha : WOk a) (hb : WOk b) (hL : a.1 = b.1) {w : List Int} (hw : ∀ l ∈ w, 0 ≤ l ∧ l < a.1) : valI (sumW a b) w = valI a w + valI b w := by
  obtain ⟨h1, h2⟩ := sum_row ha hb hL w a.2.1 b.2.1 rfl rfl hw
  unfold valI rowI
  show dotI (w.foldl (fun v l => byI v (ix (sumW a b).2.2.1 l)) (a.2.1 ++ b.2.1)) (a.2.2.2.1 ++ b.2.2.2.1) = _
  rw [h1, dotI_append (by rw [h2, ha.last])]
theorem prod_val {a b : Wg} (ha : WOk a) (hb : WOk b) (hL : a.1 = b.1) {w : List Int} (hw : ∀ l ∈ w, 0 ≤ l ∧ l < a.1) : valI (prodW a b) w = valI a w * valI b w := by
  obtain ⟨h1, h2, h3⟩ := prod_row ha hb hL w a.2.1 b.2.1 rfl rfl hw
  unfold valI rowI
  show dotI (w.foldl (fun v l => byI v (ix (prodW a b).2.2.1 l)) (kron a.2.1 b.2.1)) (kron a.2.2.2.1 b.2.2.2.1) = _
  rw [h1, dotI_kron (by rw [h2, ha.last]) (by rw [h3, hb.last])]
theorem not_ab {a : Wg} (h1 : ∀ x ∈ a.2.1, -9 ≤ x ∧ x ≤ 9) (h2 : ∀ x ∈ a.2.2.2.1, -9 ≤ x ∧ x ≤ 9) (h3 : ∀ t ∈ a.2.2.1, ∀ r ∈ t, ∀ x ∈ r, -9 ≤ x ∧ x ≤ 9) : ¬ WAb 9 a := by
  rintro (⟨x, hx, hb⟩ | ⟨x, hx, hb⟩ | ⟨t, ht, r, hr, x, hx, hb⟩)
  · have := h1 x hx; unfold outM at hb; omega
  · have := h2 x hx; unfold outM at hb; omega
  · have := h3 t ht r hr x hx; unfold outM at hb; omega
theorem sum_ok {a b : Wg} (ha : WOk a) (hb : WOk b) (hL : a.1 = b.1) (hn : a.2.1.length + b.2.1.length ≤ 8) : WOk (sumW a b) := by
  have a1 := ha.let1
  have a2 := ha.n1
  have hla := ha.last
  have hlb := hb.last
  obtain ⟨p1, p2, p3⟩ := ha.bd
  obtain ⟨q1, q2, q3⟩ := hb.bd
  have hs : ∀ t ∈ (sumW a b).2.2.1, ∃ l : Int, 0 ≤ l ∧ l < a.1 ∧ t = blk a.2.1.length b.2.1.length (ix a.2.2.1 l) (ix b.2.2.1 l) := fun t ht => by
    obtain ⟨k, hk, rfl⟩ := List.mem_map.1 ht
    rw [List.mem_range] at hk
    exact ⟨k, by omega, by omega, rfl⟩
  refine ⟨a1, ⟨by show 1 ≤ (a.2.1 ++ b.2.1).length; rw [List.length_append]; omega, by show (a.2.1 ++ b.2.1).length ≤ 8; rw [List.length_append]; exact hn⟩, ?_, ?_, fun t ht => ?_, not_ab (fun x hx => ?_) (fun x hx => ?_) (fun t ht r hr x hx => ?_)⟩
  · show (a.2.2.2.1 ++ b.2.2.2.1).length = (a.2.1 ++ b.2.1).length
    rw [List.length_append, List.length_append]; omega
  · show (((List.range a.1.toNat).map _).length : Int) = a.1
    rw [List.length_map, List.length_range]; omega
  · obtain ⟨l, l0, l1, rfl⟩ := hs t ht
    have sa := ha.step l0 l1
    have sb := hb.step l0 (by omega)
    have hlen : (sumW a b).2.1.length = a.2.1.length + b.2.1.length := by show (a.2.1 ++ b.2.1).length = _; rw [List.length_append]
    rw [hlen]
    unfold blk
    refine ⟨by simp; omega, fun r hr => ?_⟩
    rcases List.mem_append.1 hr with hr | hr
    · obtain ⟨s, hs, rfl⟩ := List.mem_map.1 hr
      have := sa.2 s hs
      simp; omega
    · obtain ⟨s, hs, rfl⟩ := List.mem_map.1 hr
      have := sb.2 s hs
      simp; omega
  · exact (List.mem_append.1 hx).elim (p1 x) (q1 x)
  · exact (List.mem_append.1 hx).elim (p2 x) (q2 x)
  · obtain ⟨l, l0, l1, rfl⟩ := hs t ht
    have ms := ha.steps
    have mb := hb.steps
    unfold blk at hr
    rcases List.mem_append.1 hr with hr | hr
    · obtain ⟨s, hs, rfl⟩ := List.mem_map.1 hr
      rcases List.mem_append.1 hx with hx | hx
      · exact p3 _ (ix_mem l0 (by omega)) s hs x hx
      · rw [(List.mem_replicate.1 hx).2]; omega
    · obtain ⟨s, hs, rfl⟩ := List.mem_map.1 hr
      rcases List.mem_append.1 hx with hx | hx
      · rw [(List.mem_replicate.1 hx).2]; omega
      · exact q3 _ (ix_mem l0 (by omega)) s hs x hx
theorem bd3 {a : Wg} (h : ¬ WAb 3 a) : (∀ x ∈ a.2.1, -3 ≤ x ∧ x ≤ 3) ∧ (∀ x ∈ a.2.2.2.1, -3 ≤ x ∧ x ≤ 3) ∧ ∀ t ∈ a.2.2.1, ∀ r ∈ t, ∀ x ∈ r, -3 ≤ x ∧ x ≤ 3 := by
  refine ⟨fun x hx => ?_, fun x hx => ?_, fun t ht r hr x hx => ?_⟩
  · have : ¬ outM 3 x := fun hh => h (.inl ⟨x, hx, hh⟩)
    unfold outM at this; omega
  · have : ¬ outM 3 x := fun hh => h (.inr (.inl ⟨x, hx, hh⟩))
    unfold outM at this; omega
  · have : ¬ outM 3 x := fun hh => h (.inr (.inr ⟨t, ht, r, hr, x, hx, hh⟩))
    unfold outM at this; omega
theorem kron_bd {u v : List Int} (hu : ∀ x ∈ u, -3 ≤ x ∧ x ≤ 3) (hv : ∀ x ∈ v, -3 ≤ x ∧ x ≤ 3) : ∀ x ∈ kron u v, -9 ≤ x ∧ x ≤ 9 := by
  intro z hz
  unfold kron at hz
  obtain ⟨l, hl, hz⟩ := List.mem_flatten.1 hz
  obtain ⟨x, hx, rfl⟩ := List.mem_map.1 hl
  obtain ⟨y, hy, rfl⟩ := List.mem_map.1 hz
  have := hu x hx
  have := hv y hy
  have e1 : 0 ≤ (3 - x) * (3 + y) := Int.mul_nonneg (by omega) (by omega)
  have e2 : 0 ≤ (3 + x) * (3 - y) := Int.mul_nonneg (by omega) (by omega)
  have e3 : 0 ≤ (3 - x) * (3 - y) := Int.mul_nonneg (by omega) (by omega)
  have e4 : 0 ≤ (3 + x) * (3 + y) := Int.mul_nonneg (by omega) (by omega)
  simp only [Int.sub_mul, Int.add_mul, Int.mul_sub, Int.mul_add] at e1 e2 e3 e4
  omega
theorem prod_ok {a b : Wg} (ha : WOk a) (hb : WOk b) (hL : a.1 = b.1) (hn : a.2.1.length * b.2.1.length ≤ 8) (h3a : ¬ WAb 3 a) (h3b : ¬ WAb 3 b) : WOk (prodW a b) := by
  have a1 := ha.let1
  have a2 := ha.n1
  have b2 := hb.n1
  have hla := ha.last
  have hlb := hb.last
  obtain ⟨p1, p2, p3⟩ := bd3 h3a
  obtain ⟨q1, q2, q3⟩ := bd3 h3b
  have hs : ∀ t ∈ (prodW a b).2.2.1, ∃ l : Int, 0 ≤ l ∧ l < a.1 ∧ t = kt (ix a.2.2.1 l) (ix b.2.2.1 l) := fun t ht => by
    obtain ⟨k, hk, rfl⟩ := List.mem_map.1 ht
    rw [List.mem_range] at hk
    exact ⟨k, by omega, by omega, rfl⟩
  have hpos : 1 * 1 ≤ a.2.1.length * b.2.1.length := Nat.mul_le_mul a2.1 b2.1
  have hlen : (prodW a b).2.1.length = a.2.1.length * b.2.1.length := kron_len _ _
  refine ⟨a1, ⟨by omega, by omega⟩, ?_, ?_, fun t ht => ?_, not_ab (kron_bd p1 q1) (kron_bd p2 q2) (fun t ht r hr => ?_)⟩
  · show (kron a.2.2.2.1 b.2.2.2.1).length = _
    rw [hlen, kron_len, hla, hlb]
  · show (((List.range a.1.toNat).map _).length : Int) = a.1
    rw [List.length_map, List.length_range]; omega
  · obtain ⟨l, l0, l1, rfl⟩ := hs t ht
    have sa := ha.step l0 l1
    have sb := hb.step l0 (by omega)
    refine ⟨by rw [kt_len, hlen, sa.1, sb.1], fun r hr => ?_⟩
    unfold kt at hr
    obtain ⟨L, hL2, hr⟩ := List.mem_flatten.1 hr
    obtain ⟨x, hx, rfl⟩ := List.mem_map.1 hL2
    obtain ⟨y, hy, rfl⟩ := List.mem_map.1 hr
    rw [kron_len, hlen, sa.2 x hx, sb.2 y hy]
  · obtain ⟨l, l0, l1, rfl⟩ := hs t ht
    have ms := ha.steps
    have mb := hb.steps
    unfold kt at hr
    obtain ⟨L, hL2, hr⟩ := List.mem_flatten.1 hr
    obtain ⟨x, hx, rfl⟩ := List.mem_map.1 hL2
    obtain ⟨y, hy, rfl⟩ := List.mem_map.1 hr
    exact kron_bd (p3 _ (ix_mem l0 (by omega)) x hx) (q3 _ (ix_mem l0 (by omega)) y hy)
/-! ### the law -/
theorem weighs_true {c a b : Wg} (ha : WOk a) (hb : WOk b) (hc : WOk c) {w : List Int} (hL : a.1 = b.1) (hL2 : c.1 = a.1) (hw : ∀ l ∈ w, 0 ≤ l ∧ l < a.1) (hl : w.length ≤ 60) {p : Bool} (hp : valI c w = if p = true then valI a w * valI b w else valI a w + valI b w) : law_weighs c a b w p = some true := by
  obtain ⟨x, x1, x2, x3, x4⟩ := Value_spec ha hw hl
  obtain ⟨y, y1, y2, y3, y4⟩ := Value_spec hb (by rw [← hL]; exact hw) hl
  obtain ⟨z, z1, z2, z3, z4⟩ := Value_spec hc (by rw [hL2]; exact hw) hl
  obtain ⟨s, s1, s2, s3, s4⟩ := Add_spec x2 y2 (by omega) (by omega)
  obtain ⟨q, q1, q2, q3, q4⟩ := Mul_spec x2 y2 (by omega) (by omega)
  unfold law_weighs
  refine bind_to x1 (bind_to y1 (bind_to z1 (bind_to s1 ?_)))
  cases p with
  | true =>
    rw [if_pos rfl]
    rw [if_pos rfl] at hp
    exact bind_to q1 (bind_to (Cmp_spec (a := z) (b := q) z2 q2 (by omega) (by omega) (by rw [z3, q3, x3, y3, hp])) rfl)
  | false =>
    rw [if_neg (by simp)]
    rw [if_neg (by simp)] at hp
    exact bind_to (Cmp_spec (a := z) (b := s) z2 s2 (by omega) (by omega) (by rw [z3, s3, x3, y3, hp])) rfl
def twE (x y L M : Int) : Int := if ¬ x = 0 then x else if ¬ y = 0 then y else if ¬ L = M then 3 else 0
theorem two_spec {a b : Wg} : weigh_two a b = some (twE (wgE a) (wgE b) a.1 b.1) := by
  unfold weigh_two twE
  rw [weigh_two_L2_eq]; unfold weigh_two_L2_B
  rw [if_pos (by simp), G_pos (by simp), G_pos (by simp)]
  refine bind_to (weigh_Check_spec (a := a)) ?_
  by_cases c1 : wgE a = 0
  case neg => rw [if_pos (by simpa using c1), if_pos c1]
  rw [if_neg (by simpa using c1), if_neg (by simpa using c1), G_pos (by unfold fits; omega)]
  rw [weigh_two_L2_eq]; unfold weigh_two_L2_B
  rw [if_pos (by simp), G_pos (by simp), G_pos (by simp)]
  refine bind_to (weigh_Check_spec (a := b)) ?_
  by_cases c2 : wgE b = 0
  case neg => rw [if_pos (by simpa using c2), if_pos c2]
  rw [if_neg (by simpa using c2), if_neg (by simpa using c2), G_pos (by unfold fits; omega)]
  rw [weigh_two_L2_eq]; unfold weigh_two_L2_B
  rw [if_neg (by simp)]
  by_cases c3 : a.1 = b.1
  · rw [if_neg (by simpa using c3), if_neg (by simpa using c3)]
  · rw [if_pos (by simpa using c3), if_pos c3]
abbrev zeroW : Wg := (0, [], [], [], ())
theorem noW_zero : law_noWeigh zeroW = some true := by
  unfold law_noWeigh
  rw [if_pos (by simp), G_pos (by unfold fits; simp), G_pos (by unfold fits; simp)]
  rfl
theorem noW_some {c : Wg} (h : WOk c) : ∃ v, law_noWeigh c = some v := by
  have h1 := h.let1
  have h2 := h.n1
  have h3 := h.last
  have h4 := h.steps
  unfold law_noWeigh
  split
  · rw [G_pos (by unfold fits; omega), G_pos (by unfold fits; omega)]; exact ⟨_, rfl⟩
  · exact ⟨_, rfl⟩
theorem j35 {a b : Wg} {w : List Int} {y3 : Wg} {two may : Int} (h : two = 0 → WOk y3 ∧ y3.1 = a.1 ∧ (may = 0 → law_weighs y3 a b w true = some true)) : law_WeighJoins_J35 a b w y3 two may = some true := by
  unfold law_WeighJoins_J35
  by_cases c : two = 0
  · obtain ⟨h1, h2, h3⟩ := h c
    rw [if_pos (decide_eq_true c)]
    refine bind_to (r18_Check_spec (a := y3)) ?_
    rw [wgE_of h1, if_neg (by simp), if_neg (by simpa using h2)]
    by_cases c2 : may = 0
    · rw [if_pos (decide_eq_true c2)]; exact bind_to (h3 c2) rfl
    · rw [if_neg (by simpa using c2)]
  · rw [if_neg (by simpa using c)]
theorem j27 {a b : Wg} {w : List Int} {y y3 : Wg} {one two may : Int} (h : one = 0 → WOk y ∧ y.1 = a.1 ∧ (may = 0 → law_weighs y a b w false = some true)) (h2 : two = 0 → WOk y3 ∧ y3.1 = a.1 ∧ (may = 0 → law_weighs y3 a b w true = some true)) : law_WeighJoins_J27 a b w y y3 one two may = some true := by
  unfold law_WeighJoins_J27
  rw [j35 h2]
  by_cases c : one = 0
  · obtain ⟨g1, g2, g3⟩ := h c
    rw [if_pos (decide_eq_true c)]
    refine bind_to (r18_Check_spec (a := y)) ?_
    rw [wgE_of g1, if_neg (by simp), if_neg (by simpa using g2)]
    by_cases c2 : may = 0
    · rw [if_pos (decide_eq_true c2)]; refine bind_to (g3 c2) ?_; rw [if_neg (by simp)]
    · rw [if_neg (by simpa using c2)]
  · rw [if_neg (by simpa using c)]
theorem j18 {a b : Wg} {w : List Int} {y y3 : Wg} {no one two : Int} {v v3 : Bool} (e1 : law_noWeigh y = some v) (e3 : law_noWeigh y3 = some v3) (hv : ¬ one = 0 → v = true) (hv3 : ¬ two = 0 → v3 = true) (h : law_WeighJoins_J24 a b w y y3 no one two = some true) : law_WeighJoins_J18 a b w y one y3 two no one two = some true := by
  unfold law_WeighJoins_J18
  rw [if_neg (by simp), if_neg (by simp)]
  refine bind_to e1 (bind_to e3 ?_)
  rw [h]
  by_cases c : one = 0
  · rw [if_neg (by simpa using c)]
    by_cases c2 : two = 0
    · rw [if_neg (by simpa using c2)]
    · rw [if_pos (by simpa using c2), hv3 c2, if_neg (by simp)]
  · rw [if_pos (by simpa using c), hv c, if_neg (by simp)]
    by_cases c2 : two = 0
    · rw [if_neg (by simpa using c2)]
    · rw [if_pos (by simpa using c2), hv3 c2, if_neg (by simp)]
open Classical in
theorem law_true (a b : Wg) (w : List Int) : law_WeighJoins a b w = some true := by
  have tt : ∀ x : Int, ¬ x = 0 → twE x (wgE b) a.1 b.1 = x := fun x hx => by unfold twE; rw [if_pos hx]
  unfold law_WeighJoins
  by_cases c : twE (wgE a) (wgE b) a.1 b.1 = 0
  case neg =>
    have hs : weigh_Sum a b = some (zeroW, twE (wgE a) (wgE b) a.1 b.1) := by
      unfold weigh_Sum
      refine bind_to (two_spec (a := a) (b := b)) ?_
      rw [if_pos (by simpa using c)]
    have hp : weigh_Product a b = some (zeroW, twE (wgE a) (wgE b) a.1 b.1) := by
      unfold weigh_Product
      refine bind_to (two_spec (a := a) (b := b)) ?_
      rw [if_pos (by simpa using c)]
    have fin : law_WeighJoins_J7 a b w zeroW (twE (wgE a) (wgE b) a.1 b.1) zeroW (twE (wgE a) (wgE b) a.1 b.1) (twE (wgE a) (wgE b) a.1 b.1) = some true := by
      unfold law_WeighJoins_J7
      rw [if_neg (by simpa using c)]
      refine j18 noW_zero noW_zero (fun _ => rfl) (fun _ => rfl) ?_
      unfold law_WeighJoins_J24
      rw [if_neg (by simpa using c)]
      exact j27 (fun h => absurd h c) (fun h => absurd h c)
    have e := tt
    generalize hno : twE (wgE a) (wgE b) a.1 b.1 = no at hs hp fin
    have fin' : ∀ x : Int, x = no → law_WeighJoins_J7 a b w zeroW no zeroW no x = some true := by
      rintro x rfl; exact fin
    refine bind_to hs (bind_to hp (bind_to (r18_Check_spec (a := a)) ?_))
    show (if decide (wgE a = 0) = true then (r18_Check b).bind (fun y => law_WeighJoins_J5 a b w zeroW no zeroW no y) else law_WeighJoins_J5 a b w zeroW no zeroW no (wgE a)) = some true
    unfold law_WeighJoins_J5 law_WeighJoins_J6
    unfold twE at hno
    by_cases c1 : wgE a = 0
    · rw [if_pos (decide_eq_true c1)]
      refine bind_to (r18_Check_spec (a := b)) ?_
      rw [if_neg (fun h => h c1)] at hno
      by_cases c2 : wgE b = 0
      · rw [if_neg (fun h => h c2)] at hno
        rw [if_pos (decide_eq_true c2)]
        by_cases c3 : a.1 = b.1
        · exact absurd (show twE (wgE a) (wgE b) a.1 b.1 = 0 from by unfold twE; rw [if_neg (fun h => h c1), if_neg (fun h => h c2), if_neg (fun h => h c3)]) c
        · rw [if_pos c3] at hno
          rw [if_pos (decide_eq_true c3)]
          exact fin' _ hno
      · rw [if_pos c2] at hno
        rw [if_neg (by rw [decide_eq_true_iff]; exact c2), if_neg (by simp)]
        exact fin' _ hno
    · rw [if_pos c1] at hno
      rw [if_neg (by rw [decide_eq_true_iff]; exact c1), if_neg (by rw [decide_eq_true_iff]; exact c1), if_neg (by simp)]
      exact fin' _ hno
  · have c1 : wgE a = 0 := by
      by_cases h : wgE a = 0
      · exact h
      · unfold twE at c; rw [if_pos h] at c; exact c
    have c2 : wgE b = 0 := by
      by_cases h : wgE b = 0
      · exact h
      · unfold twE at c; rw [if_neg (by simpa using c1), if_pos h] at c; exact c
    have hL : a.1 = b.1 := by
      by_cases h : a.1 = b.1
      · exact h
      · unfold twE at c; rw [if_neg (by simpa using c1), if_neg (by simpa using c2), if_pos h] at c; omega
    have ha := wgE_zero c1
    have hb := wgE_zero c2
    have a2 := ha.n1
    have b2 := hb.n1
    have a3 := ha.last
    have b3 := hb.last
    have hmul : a.2.1.length * b.2.1.length ≤ 8 * 8 := Nat.mul_le_mul a2.2 b2.2
    have hmc : (a.2.1.length : Int) * (b.2.1.length : Int) = ((a.2.1.length * b.2.1.length : Nat) : Int) := by simp
    have hs : weigh_Sum a b = some (if 8 < a.2.1.length + b.2.1.length then (zeroW, 1) else (sumW a b, 0)) := by
      unfold weigh_Sum
      refine bind_to (two_spec (a := a) (b := b)) ?_
      rw [c, if_neg (by simp), G_pos (by unfold fits; omega)]
      by_cases h : 8 < a.2.1.length + b.2.1.length
      · rw [if_pos (by rw [decide_eq_true_iff]; omega), if_pos h]
      · rw [if_neg (by rw [decide_eq_true_iff]; omega), if_neg h]
        exact bind_to (sum_spec ha hb hL) rfl
    have hp : weigh_Product a b = some (if 8 < a.2.1.length * b.2.1.length then (zeroW, 1) else if WAb 3 a ∨ WAb 3 b then (zeroW, 2) else (prodW a b, 0)) := by
      unfold weigh_Product
      refine bind_to (two_spec (a := a) (b := b)) ?_
      rw [c, if_neg (by simp), hmc, G_pos (by unfold fits; omega)]
      by_cases h : 8 < a.2.1.length * b.2.1.length
      · rw [if_pos (by rw [decide_eq_true_iff]; omega), if_pos h]
      · rw [if_neg (by rw [decide_eq_true_iff]; omega), if_neg h]
        refine bind_to (weigh_all_spec ha) ?_
        refine (all_above ha).to (fun h1 => by rw [if_pos (.inl h1)]) (fun h1 => ?_)
        refine bind_to (weigh_all_spec hb) ?_
        refine (all_above hb).to (fun h2 => by rw [if_pos (.inr h2)]) (fun h2 => ?_)
        rw [if_neg (fun hh => hh.elim h1 h2)]
        have t1 := times_spec (u := a.2.1) (v := b.2.1) (by omega) (by omega) ha.bd.1 hb.bd.1
        have t2 := times_spec (u := a.2.2.2.1) (v := b.2.2.2.1) (by omega) (by omega) ha.bd.2.1 hb.bd.2.1
        have t3 := prod_spec ha hb hL
        rw [t1, t2]
        repeat' first | exact t3 | refine both_to ?_ ?_ | refine bind_to rfl ?_
    refine bind_to hs (bind_to hp (bind_to (r18_Check_spec (a := a)) ?_))
    rw [if_pos (by simpa using c1)]
    refine bind_to (r18_Check_spec (a := b)) ?_
    unfold law_WeighJoins_J5 law_WeighJoins_J6
    rw [c2, if_pos (by simp), if_neg (by simpa using hL)]
    have hx : ∀ x ∈ a.2.2.1, x.length ≤ 1000 ∧ ∀ r ∈ x, r.length ≤ 1000 := fun x hx => ⟨by have := (ha.tab x hx).1; omega, fun r hr => by have := (ha.tab x hx).2 r hr; omega⟩
    have hy : ∀ x ∈ b.2.2.1, x.length ≤ 1000 ∧ ∀ r ∈ x, r.length ≤ 1000 := fun x hx => ⟨by have := (hb.tab x hx).1; omega, fun r hr => by have := (hb.tab x hx).2 r hr; omega⟩
    have a4 := ha.steps
    have b4 := hb.steps
    have a5 := ha.let1
    have ab1 := r18_Above_spec (a := a) (m := 3) (by omega) (by omega) (by omega) (by omega) hx
    have ab2 := r18_Above_spec (a := b) (m := 3) (by omega) (by omega) (by omega) (by omega) hy
    generalize hone : (if 8 < a.2.1.length + b.2.1.length then (1 : Int) else 0) = one
    generalize htwo : (if 8 < a.2.1.length * b.2.1.length then (1 : Int) else if WAb 3 a ∨ WAb 3 b then 2 else 0) = two
    have hone0 : one = 0 → ¬ 8 < a.2.1.length + b.2.1.length := fun h hh => by rw [← hone, if_pos hh] at h; omega
    have htwo0 : two = 0 → ¬ 8 < a.2.1.length * b.2.1.length ∧ ¬ (WAb 3 a ∨ WAb 3 b) := fun h => by
      by_cases h1 : 8 < a.2.1.length * b.2.1.length
      · rw [← htwo, if_pos h1] at h; omega
      by_cases h2 : WAb 3 a ∨ WAb 3 b
      · rw [← htwo, if_neg h1, if_pos h2] at h; omega
      exact ⟨h1, h2⟩
    have hS : (if 8 < a.2.1.length + b.2.1.length then (zeroW, (1 : Int)) else (sumW a b, 0)) = (if 8 < a.2.1.length + b.2.1.length then zeroW else sumW a b, one) := by
      rw [← hone]; split <;> rfl
    have hP : (if 8 < a.2.1.length * b.2.1.length then (zeroW, (1 : Int)) else if WAb 3 a ∨ WAb 3 b then (zeroW, 2) else (prodW a b, 0)) = (if 8 < a.2.1.length * b.2.1.length ∨ WAb 3 a ∨ WAb 3 b then zeroW else prodW a b, two) := by
      rw [← htwo]
      by_cases h : 8 < a.2.1.length * b.2.1.length
      · rw [if_pos h, if_pos h, if_pos (.inl h)]
      · rw [if_neg h, if_neg h]
        by_cases h2 : WAb 3 a ∨ WAb 3 b
        · rw [if_pos h2, if_pos h2, if_pos (.inr h2)]
        · rw [if_neg h2, if_neg h2, if_neg (fun hh => hh.elim h h2)]
    rw [hS, hP]
    have key : law_WeighJoins_J18 a b w (if 8 < a.2.1.length + b.2.1.length then zeroW else sumW a b) one (if 8 < a.2.1.length * b.2.1.length ∨ WAb 3 a ∨ WAb 3 b then zeroW else prodW a b) two 0 one two = some true := by
      have v1 : ∃ v, law_noWeigh (if 8 < a.2.1.length + b.2.1.length then zeroW else sumW a b) = some v ∧ (¬ one = 0 → v = true) := by
        by_cases h : 8 < a.2.1.length + b.2.1.length
        · rw [if_pos h]; exact ⟨_, noW_zero, fun _ => rfl⟩
        · rw [if_neg h]
          obtain ⟨v, hv⟩ := noW_some (sum_ok ha hb hL (by omega))
          exact ⟨v, hv, fun hh => absurd (by rw [← hone, if_neg h]) hh⟩
      have v2 : ∃ v, law_noWeigh (if 8 < a.2.1.length * b.2.1.length ∨ WAb 3 a ∨ WAb 3 b then zeroW else prodW a b) = some v ∧ (¬ two = 0 → v = true) := by
        by_cases h : 8 < a.2.1.length * b.2.1.length ∨ WAb 3 a ∨ WAb 3 b
        · rw [if_pos h]; exact ⟨_, noW_zero, fun _ => rfl⟩
        · rw [if_neg h]
          obtain ⟨v, hv⟩ := noW_some (prod_ok ha hb hL (by omega) (fun hh => h (.inr (.inl hh))) (fun hh => h (.inr (.inr hh))))
          exact ⟨v, hv, fun hh => absurd (by rw [← htwo, if_neg (fun hh => h (.inl hh)), if_neg (fun hh => h (.inr hh))]) hh⟩
      obtain ⟨v, e1, e2⟩ := v1
      obtain ⟨v', e3, e4⟩ := v2
      refine j18 e1 e3 e2 e4 ?_
      unfold law_WeighJoins_J24
      rw [if_pos (by simp)]
      refine bind_to r1_May_spec ?_
      refine j27 (fun h => ?_) (fun h => ?_)
      · have h' := hone0 h
        rw [if_neg h']
        have ok := sum_ok ha hb hL (by omega)
        refine ⟨ok, rfl, fun hm => ?_⟩
        obtain ⟨_, m2, m3⟩ := mayE_zero hm
        exact weighs_true ha hb ok hL rfl m3 (by omega) (by rw [if_neg (by simp)]; exact sum_val ha hb hL m3)
      · obtain ⟨h1, h2⟩ := htwo0 h
        rw [if_neg (fun hh => hh.elim h1 h2)]
        have ok := prod_ok ha hb hL (by omega) (fun hh => h2 (.inl hh)) (fun hh => h2 (.inr hh))
        refine ⟨ok, rfl, fun hm => ?_⟩
        obtain ⟨_, m2, m3⟩ := mayE_zero hm
        exact weighs_true ha hb ok hL rfl m3 (by omega) (by rw [if_pos rfl]; exact prod_val ha hb hL m3)
    generalize (if 8 < a.2.1.length + b.2.1.length then zeroW else sumW a b) = y at key ⊢
    generalize (if 8 < a.2.1.length * b.2.1.length ∨ WAb 3 a ∨ WAb 3 b then zeroW else prodW a b) = y3 at key ⊢
    have k16 : ∀ o : Int, o = one → ∀ x : Int, x = (if WAb 3 a ∨ WAb 3 b then 2 else 0) → law_WeighJoins_J16 a b w y one y3 two 0 o x = some true := by
      rintro o rfl x hx
      unfold law_WeighJoins_J16
      rw [hmc, G_pos (by unfold fits; omega)]
      by_cases h : 8 < a.2.1.length * b.2.1.length
      · rw [if_pos (by rw [decide_eq_true_iff]; omega)]
        rw [if_pos h] at htwo
        subst htwo; exact key
      · rw [if_neg (by rw [decide_eq_true_iff]; omega)]
        rw [if_neg h, ← hx] at htwo
        subst htwo; exact key
    have k12 : ∀ o : Int, o = one → law_WeighJoins_J12 a b w y one y3 two 0 o = some true := by
      intro o ho
      unfold law_WeighJoins_J12 law_WeighJoins_J15
      refine bind_to ab1 (bind_to ab2 ?_)
      by_cases h1 : WAb 3 a
      · rw [if_pos (decide_eq_true h1), if_pos rfl]
        exact k16 o ho 2 (by rw [if_pos (.inl h1)])
      · rw [if_neg (by simpa using h1)]
        by_cases h2 : WAb 3 b
        · rw [if_pos (decide_eq_true h2)]
          exact k16 o ho 2 (by rw [if_pos (.inr h2)])
        · rw [if_neg (by simpa using h2)]
          exact k16 o ho 0 (by rw [if_neg (fun hh => hh.elim h1 h2)])
    show law_WeighJoins_J7 a b w y one y3 two 0 = some true
    unfold law_WeighJoins_J7
    rw [if_pos (by simp), G_pos (by unfold fits; omega)]
    by_cases h : 8 < a.2.1.length + b.2.1.length
    · rw [if_pos (by rw [decide_eq_true_iff]; omega)]
      exact k12 1 (by rw [← hone, if_pos h])
    · rw [if_neg (by rw [decide_eq_true_iff]; omega)]
      exact k12 0 (by rw [← hone, if_neg h])

end Go.Proofs.Ytgojjheadndbiaa.weighJoinsW
