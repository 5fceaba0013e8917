/- The law 'CodeKraft' of the plain functions. -/
import Derived.Test.YtnijfahigmajjaaCodeKraftD
set_option maxHeartbeats 1000000
set_option maxRecDepth 20000
set_option linter.unusedSimpArgs false
set_option linter.unusedVariables false
namespace Go.Proofs.Ytnijfahigmajjaa.codeKraftW
open Go Go.Ab
/-- The answer is yes just if P. -/
def Tells (o : Option Bool) (P : Prop) : Prop := ∃ b, o = some b ∧ (b = true ↔ P)
theorem Tells.of {b : Bool} {P : Prop} (h : b = true ↔ P) : Tells (some b) P := ⟨b, rfl, h⟩
theorem Tells.dec {P Q : Prop} [Decidable P] (h : P ↔ Q) : Tells (some (decide P)) Q := ⟨_, rfl, by simpa using h⟩
theorem Tells.iff {o : Option Bool} {P Q : Prop} (h : Tells o P) (k : P ↔ Q) : Tells o Q := let ⟨b, h1, h2⟩ := h; ⟨b, h1, h2.trans k⟩
theorem Tells.eq {o : Option Bool} {P : Prop} [Decidable P] (h : Tells o P) : o = some (decide P) := by
  obtain ⟨b, rfl, hb⟩ := h
  by_cases hp : P
  · simp [hp, hb.2 hp]
  · have : b = false := by cases b; rfl; exact absurd (hb.1 rfl) hp
    simp [hp, this]
theorem Tells.to {R : Type} {o : Option Bool} {P : Prop} {k1 k2 x : Option R} (h : Tells o P) (h1 : P → k1 = x) (h2 : ¬ P → k2 = x) : (o.bind fun y => if y = true then k1 else k2) = x := by
  obtain ⟨b, rfl, hb⟩ := h
  refine bind_to rfl ?_
  cases b
  · exact h2 fun hp => by simpa using hb.2 hp
  · exact h1 (hb.1 rfl)
theorem Tells.bind {R : Type} {o : Option Bool} {P : Prop} {k : Bool → Option R} {x : Option R} (h : Tells o P) (h1 : ∀ b, (b = true ↔ P) → k b = x) : o.bind k = x := by
  obtain ⟨b, rfl, hb⟩ := h
  exact h1 b hb
section
variable {α C : Type} [Inhabited α]
theorem ex_ix {l : List α} {P : α → Prop} : (∃ x ∈ l, P x) ↔ ∃ i : Int, 0 ≤ i ∧ i < l.length ∧ P (ix l i) := by
  constructor
  · rintro ⟨x, hx, hp⟩
    obtain ⟨i, hi, rfl⟩ := List.mem_iff_getElem.1 hx
    refine ⟨i, by omega, by omega, ?_⟩
    rwa [ix_eq (by omega) (by omega)]
  · rintro ⟨i, h0, h1, hp⟩
    exact ⟨_, ix_mem h0 h1, hp⟩
theorem index_loop {s : List α} {f : α → Option Bool} {L : Int → Option Int} {P : α → Prop} (hs : s.length ≤ 4611686018427387904)
    (hL : ∀ t, L t = if decide (t < (s.length : Int)) = true then G (0 ≤ t ∧ t < (s.length : Int)) ((f (ix s t)).bind fun y => if y = true then some t else G (fits (t + 1)) (L (t + 1))) else some (-1))
    (hf : ∀ x ∈ s, Tells (f x) (P x)) : ∀ (n : Nat) (t : Int), 0 ≤ t → t ≤ s.length → (s.length - t).toNat = n →
      ∃ i, L t = some i ∧ ((i = -1 ∧ ∀ j : Int, t ≤ j → j < s.length → ¬ P (ix s j)) ∨ (t ≤ i ∧ i < s.length ∧ P (ix s i) ∧ ∀ j : Int, t ≤ j → j < i → ¬ P (ix s j))) := by
  intro n
  induction n with
  | zero =>
    intro t h0 h1 hn
    refine ⟨-1, ?_, .inl ⟨rfl, fun j a b => by omega⟩⟩
    rw [hL, if_neg (by simp; omega)]
  | succ n ih =>
    intro t h0 h1 hn
    rw [hL, if_pos (by simp; omega), G_pos (by omega)]
    obtain ⟨b, hb, hbp⟩ := hf _ (ix_mem h0 (by omega : t < s.length))
    rw [hb]
    cases b with
    | true => exact ⟨t, rfl, .inr ⟨by omega, by omega, hbp.1 rfl, fun j a b => by omega⟩⟩
    | false =>
      have hnp : ¬ P (ix s t) := fun hp => by simpa using hbp.2 hp
      obtain ⟨i, hi, hc⟩ := ih (t + 1) (by omega) (by omega) (by omega)
      refine ⟨i, ?_, ?_⟩
      · refine (if_neg (by simp) : (if false = true then some t else G (fits (t + 1)) (L (t + 1))) = _).trans ?_
        rw [G_pos (by unfold fits; omega), hi]
      · rcases hc with ⟨h2, h3⟩ | ⟨h2, h3, h4, h5⟩
        · refine .inl ⟨h2, fun j a b => ?_⟩
          by_cases e : j = t
          · rw [e]; exact hnp
          · exact h3 j (by omega) b
        · refine .inr ⟨by omega, h3, h4, fun j a b => ?_⟩
          by_cases e : j = t
          · rw [e]; exact hnp
          · exact h5 j (by omega) b
theorem contains_tells {s : List α} {f : α → Option Bool} {L : Int → Option Int} {P : α → Prop}
    (hL : ∀ t, L t = if decide (t < (s.length : Int)) = true then G (0 ≤ t ∧ t < (s.length : Int)) ((f (ix s t)).bind fun y => if y = true then some t else G (fits (t + 1)) (L (t + 1))) else some (-1))
    (hs : s.length ≤ 4611686018427387904) (hf : ∀ x ∈ s, Tells (f x) (P x)) : Tells ((L 0).bind fun y => some (decide ((0 : Int) ≤ y))) (∃ x ∈ s, P x) := by
  obtain ⟨i, hi, hc⟩ := index_loop hs hL hf _ 0 (by omega) (by omega) rfl
  rw [hi]
  refine ⟨decide (0 ≤ i), rfl, ?_⟩
  rw [decide_eq_true_iff, ex_ix]
  rcases hc with ⟨h2, h3⟩ | ⟨h2, h3, h4, h5⟩
  · constructor
    · intro h; omega
    · rintro ⟨j, h0, h1, hp⟩; exact absurd hp (h3 j h0 h1)
  · exact ⟨fun _ => ⟨i, by omega, h3, h4⟩, fun _ => by omega⟩
/-- .. of what carries along what it reads. -/
theorem contains_tells2 {s : List α} {c : C} {f : α → C → Option (Bool × C)} {L : Int → C → Option (Int × C)} {P : α → Prop}
    (hL : ∀ t c, L t c = if decide (t < (s.length : Int)) = true then G (0 ≤ t ∧ t < (s.length : Int)) ((f (ix s t) c).bind fun y => if y.1 = true then some (t, y.2) else G (fits (t + 1)) (L (t + 1) y.2)) else some (-1, c))
    (hs : s.length ≤ 4611686018427387904) (hf : ∀ x ∈ s, ∃ b, f x c = some (b, c) ∧ (b = true ↔ P x)) : ∃ b, ((L 0 c).bind fun y => some (decide ((0 : Int) ≤ y.1), y.2)) = some (b, c) ∧ (b = true ↔ ∃ x ∈ s, P x) := by
  have key : ∀ (n : Nat) (t : Int), 0 ≤ t → t ≤ s.length → (s.length - t).toNat = n →
      ∃ i, L t c = some (i, c) ∧ ((i = -1 ∧ ∀ j : Int, t ≤ j → j < s.length → ¬ P (ix s j)) ∨ (t ≤ i ∧ i < s.length ∧ P (ix s i))) := by
    intro n
    induction n with
    | zero =>
      intro t h0 h1 hn
      refine ⟨-1, ?_, .inl ⟨rfl, fun j a b => by omega⟩⟩
      rw [hL, if_neg (by simp; omega)]
    | succ n ih =>
      intro t h0 h1 hn
      rw [hL, if_pos (by simp; omega), G_pos (by omega)]
      obtain ⟨b, hb, hbp⟩ := hf _ (ix_mem h0 (by omega : t < s.length))
      rw [hb]
      cases b with
      | true => exact ⟨t, rfl, .inr ⟨by omega, by omega, hbp.1 rfl⟩⟩
      | false =>
        have hnp : ¬ P (ix s t) := fun hp => by simpa using hbp.2 hp
        obtain ⟨i, hi, hc⟩ := ih (t + 1) (by omega) (by omega) (by omega)
        refine ⟨i, ?_, ?_⟩
        · refine (if_neg (by simp) : (if false = true then some (t, c) else G (fits (t + 1)) (L (t + 1) c)) = _).trans ?_
          rw [G_pos (by unfold fits; omega), hi]
        · rcases hc with ⟨h2, h3⟩ | ⟨h2, h3, h4⟩
          · refine .inl ⟨h2, fun j a b => ?_⟩
            by_cases e : j = t
            · rw [e]; exact hnp
            · exact h3 j (by omega) b
          · exact .inr ⟨by omega, h3, h4⟩
  obtain ⟨i, hi, hc⟩ := key _ 0 (by omega) (by omega) rfl
  rw [hi]
  refine ⟨decide (0 ≤ i), rfl, ?_⟩
  rw [decide_eq_true_iff, ex_ix]
  rcases hc with ⟨h2, h3⟩ | ⟨h2, h3, h4⟩
  · constructor
    · intro h; omega
    · rintro ⟨j, h0, h1, hp⟩; exact absurd hp (h3 j h0 h1)
  · exact ⟨fun _ => ⟨i, by omega, h3, h4⟩, fun _ => by omega⟩
end
/-- A loop that looks for the first fault. -/
theorem scan_to {R : Type} {len : Int} {L : Int → Option R} {bad : Int → Prop} {x : Option R} {lo : Int} (h0 : lo ≤ len)
    (hs : ∀ t, lo ≤ t → t < len → (bad t → L t = x) ∧ (¬ bad t → L t = L (t + 1))) (hf : (∀ t, lo ≤ t → t < len → ¬ bad t) → L len = x) : L lo = x := by
  have key : ∀ (n : Nat) (t : Int), lo ≤ t → t ≤ len → (len - t).toNat = n → (∀ j, lo ≤ j → j < t → ¬ bad j) → L t = x := by
    intro n
    induction n with
    | zero =>
      intro t h1 h2 hn h
      obtain rfl : t = len := by omega
      exact hf h
    | succ n ih =>
      intro t h1 h2 hn h
      by_cases hb : bad t
      · exact (hs t h1 (by omega)).1 hb
      · rw [(hs t h1 (by omega)).2 hb]
        refine ih (t + 1) (by omega) (by omega) (by omega) fun j a b => ?_
        by_cases e : j = t
        · rw [e]; exact hb
        · exact h j a (by omega)
  exact key _ lo (Int.le_refl _) h0 rfl (fun j a b => by omega)
/-- A loop that counts, with a state. -/
theorem fold_to {R S : Type} {len : Int} {L : Int → S → Option R} {f : Int → S → S} {lo : Int} {I : Int → S → Prop} {s : S} (h0 : lo ≤ len) (hI : I lo s)
    (hs : ∀ t s, lo ≤ t → t < len → I t s → L t s = L (t + 1) (f t s) ∧ I (t + 1) (f t s)) : ∃ s', I len s' ∧ L lo s = L len s' := by
  have key : ∀ (n : Nat) (t : Int) (s : S), lo ≤ t → t ≤ len → (len - t).toNat = n → I t s → ∃ s', I len s' ∧ L t s = L len s' := by
    intro n
    induction n with
    | zero =>
      intro t s h1 h2 hn h
      obtain rfl : t = len := by omega
      exact ⟨s, h, rfl⟩
    | succ n ih =>
      intro t s h1 h2 hn h
      obtain ⟨e, h3⟩ := hs t s h1 (by omega) h
      obtain ⟨s', h4, h5⟩ := ih (t + 1) _ (by omega) (by omega) (by omega) h3
      exact ⟨s', h4, e.trans h5⟩
  exact key _ lo s (Int.le_refl _) h0 rfl hI

theorem r1_Words_L4_spec {a b : List Int} (hl : a.length = b.length) : ∀ (n : Nat) (i : Int), 0 ≤ i → i ≤ a.length → (a.length - i).toNat = n → a.length ≤ 2305843009213693951 → (∀ j : Int, 0 ≤ j → j < i → ix a j = ix b j) → r1_Words_L4 a b i = some (decide (a = b)) := by
  intro n
  induction n with
  | zero =>
    intro i h0 h1 hn hs h
    rw [r1_Words_L4_eq]; unfold r1_Words_L4_B
    (try dsimp only); (repeat' first | (with_reducible refine G_to ?_ ?_; focus (first | omega | (unfold fits; omega) | (unfold room; (try simp only [List.length_append, List.length_cons, List.length_nil]); omega))) | (with_reducible refine both_to ?_ ?_) | (with_reducible refine itet_to ?_) | (with_reducible refine itef_to ?_) | (with_reducible refine ite_to (fun _ => ?_) (fun _ => ?_))) <;> try (exfalso; omega)
    · rw [Option.some_inj, eq_comm, decide_eq_true_iff]; exact ix_ext hl (fun j a b => h j a (by omega))
  | succ n ih =>
    intro i h0 h1 hn hs h
    rw [r1_Words_L4_eq]; unfold r1_Words_L4_B
    (try dsimp only); (repeat' first | (with_reducible refine G_to ?_ ?_; focus (first | omega | (unfold fits; omega) | (unfold room; (try simp only [List.length_append, List.length_cons, List.length_nil]); omega))) | (with_reducible refine both_to ?_ ?_) | (with_reducible refine itet_to ?_) | (with_reducible refine itef_to ?_) | (with_reducible refine ite_to (fun _ => ?_) (fun _ => ?_))) <;> try (exfalso; omega)
    · rw [Option.some_inj, eq_comm, decide_eq_false_iff_not]; rintro rfl; contradiction
    · rename_i hx; exact ih _ (by omega) (by omega) (by omega) hs (below_succ h (Decidable.not_not.1 hx))
theorem r1_Words_spec {a b : List Int} (hs : a.length ≤ 2305843009213693951) : r1_Words a b = some (decide (a = b)) := by
  unfold r1_Words
  (try dsimp only); (repeat' first | (with_reducible refine G_to ?_ ?_; focus (first | omega | (unfold fits; omega) | (unfold room; (try simp only [List.length_append, List.length_cons, List.length_nil]); omega))) | (with_reducible refine both_to ?_ ?_) | (with_reducible refine itet_to ?_) | (with_reducible refine itef_to ?_) | (with_reducible refine ite_to (fun _ => ?_) (fun _ => ?_))) <;> try (exfalso; omega)
  · rw [Option.some_inj, eq_comm, decide_eq_false_iff_not]; rintro rfl; contradiction
  · exact r1_Words_L4_spec (by omega) _ 0 (by omega) (by omega) rfl hs (fun j a b => by omega)

theorem r1_May_L6_spec {letters : Int} {w : List Int} (hL : 1 ≤ letters ∧ letters ≤ 4) (hw : w.length ≤ (60 : Int)) : ∀ (n : Nat) (i : Int), 0 ≤ i → i ≤ w.length → (w.length - i).toNat = n → (∀ j : Int, 0 ≤ j → j < i → 0 ≤ ix w j ∧ ix w j < letters) → r1_May_L6 letters w i = some (mayE letters w) := by
  intro n
  induction n with
  | zero =>
    intro i h0 h1 hn h
    rw [r1_May_L6_eq]; unfold r1_May_L6_B
    (try dsimp only); (repeat' first | (with_reducible refine G_to ?_ ?_; focus (first | omega | (unfold fits; omega) | (unfold room; (try simp only [List.length_append, List.length_cons, List.length_nil]); omega))) | (with_reducible refine both_to ?_ ?_) | (with_reducible refine itet_to ?_) | (with_reducible refine itef_to ?_) | (with_reducible refine ite_to (fun _ => ?_) (fun _ => ?_))) <;> try (exfalso; omega)
    · rw [mayE_ok hL hw (fun j a b => h j a (by omega))]
  | succ n ih =>
    intro i h0 h1 hn h
    rw [r1_May_L6_eq]; unfold r1_May_L6_B
    (try dsimp only); (repeat' first | (with_reducible refine G_to ?_ ?_; focus (first | omega | (unfold fits; omega) | (unfold room; (try simp only [List.length_append, List.length_cons, List.length_nil]); omega))) | (with_reducible refine both_to ?_ ?_) | (with_reducible refine itet_to ?_) | (with_reducible refine itef_to ?_) | (with_reducible refine ite_to (fun _ => ?_) (fun _ => ?_))) <;> try (exfalso; omega)
    · rw [mayE_bad hL hw (i := i) (by omega) (by omega)]
    · rw [mayE_bad hL hw (i := i) (by omega) (by omega)]
    · exact ih _ (by omega) (by omega) (by omega) (below_succ h (by omega))
theorem r1_May_spec {letters : Int} {w : List Int} : r1_May letters w = some (mayE letters w) := by
  unfold r1_May
  (try dsimp only); (repeat' first | (with_reducible refine G_to ?_ ?_; focus (first | omega | (unfold fits; omega) | (unfold room; (try simp only [List.length_append, List.length_cons, List.length_nil]); omega))) | (with_reducible refine both_to ?_ ?_) | (with_reducible refine itet_to ?_) | (with_reducible refine itef_to ?_) | (with_reducible refine ite_to (fun _ => ?_) (fun _ => ?_))) <;> try (exfalso; omega)
  · rw [mayE_range (by omega)]
  · rw [mayE_range (by omega)]
  · rw [mayE_size (by omega) (by omega)]
  · exact r1_May_L6_spec (by omega) (by omega) _ 0 (by omega) (by omega) rfl (fun j a b => by omega)

theorem slices_Clone_spec {s : List Int} (hs : s.length * 8 ≤ 140737488355328) : slices_Clone s = some s := by
  have hr : G (room ([] : List Int) s 8) (some (([] : List Int) ++ s)) = some s := by
    rw [G_pos (room_of (by simpa using hs))]; rfl
  unfold slices_Clone
  refine itep_to (fun h => ?_) (fun h => hr)
  obtain rfl : s = [] := List.length_eq_zero_iff.1 h
  rw [hr]; exact both_self (ts := [(.list (.int .i64))]) (some ([] : List Int))

/- the order -/
def sz (c data : List Int) (p : Int) : Int := ix c (ix data p)
def Dom (c data : List Int) : Prop := ∀ x ∈ data, 0 ≤ x ∧ x < c.length
def Srt (c : List Int) (i : Int) (data : List Int) : Prop := ∀ p q : Int, 0 ≤ p → p < q → q < i → sz c data p ≤ sz c data q
theorem swp : ∀ (k : Nat) (l : List Int), k + 1 < l.length → ((l.set (k + 1) (l.getD k default)).set k (l.getD (k + 1) default)).Perm l
  | 0, x :: y :: r, _ => by simpa using List.Perm.swap x y r
  | 0, [_], h => by simp at h
  | k + 1, x :: l, h => by
    simp only [List.set_cons_succ, List.getD_cons_succ]
    exact (swp k l (by simpa using h)).cons x
theorem swap_perm {l : List Int} {j : Int} (h0 : 0 < j) (h1 : j < l.length) : ((l.set j.toNat (ix l (j - 1))).set (j - 1).toNat (ix l j)).Perm l := by
  obtain ⟨k, rfl⟩ : ∃ k : Nat, j = (k : Int) + 1 := ⟨(j - 1).toNat, by omega⟩
  have e1 : ((k : Int) + 1).toNat = k + 1 := by omega
  have e2 : ((k : Int) + 1 - 1) = k := by omega
  have e3 : ix l ((k : Int) + 1) = l.getD (k + 1) default := ix_nat (k + 1)
  rw [e1, e2, e3, ix_nat]
  exact swp k l (by omega)
section
variable {c : List Int}
theorem cmpk {i k : Int} {data : List Int} (h : Dom c data) (hi : i ∈ data) (hk : k ∈ data) : ∃ o, code_Kraft_2 i k c = some o ∧ (o < 0 ↔ ix c i < ix c k) := by
  unfold code_Kraft_2 cmp_Compare cmp_isNaN
  rw [G_pos (h i hi), G_pos (h k hk)]
  simp only [Option.bind_some, not_true, decide_false, Bool.false_eq_true, if_false, decide_eq_true_eq]
  by_cases h : ix c i < ix c k
  · exact ⟨-1, by simp [h], by omega⟩
  · by_cases h2 : ix c k < ix c i
    · exact ⟨1, by simp [h, h2], by omega⟩
    · exact ⟨0, by simp [h, h2], by omega⟩
theorem ins_L4 {r1 : Int → List Int → Option (List Int)} {i : Int} : ∀ (n : Nat) (j : Int) (data : List Int), j.toNat = n → 0 ≤ j → j ≤ i → i < data.length → data.length ≤ 20 → Dom c data →
    (∀ p q : Int, 0 ≤ p → p < q → q ≤ i → p ≠ j → q ≠ j → sz c data p ≤ sz c data q) → (∀ q : Int, j < q → q ≤ i → sz c data j ≤ sz c data q) →
    ∃ data', slices_insertionSortCmpFunc_L4 0 c i r1 j data = r1 (i + 1) data' ∧ data'.Perm data ∧ Srt c (i + 1) data' := by
  intro n
  induction n with
  | zero =>
    intro j data hn j0 ji hi hl hd h1 h2
    obtain rfl : j = 0 := by omega
    refine ⟨data, ?_, List.Perm.refl _, fun p q p0 pq qi => ?_⟩
    · rw [slices_insertionSortCmpFunc_L4_eq]; unfold slices_insertionSortCmpFunc_L4_B slices_insertionSortCmpFunc_J4
      rw [if_neg (by simp), if_neg (by simp), G_pos (by unfold fits; omega)]
    · by_cases e : p = 0
      · subst e; exact h2 q pq (by omega)
      · exact h1 p q p0 pq (by omega) e (by omega)
  | succ n ih =>
    intro j data hn j0 ji hi hl hd h1 h2
    obtain ⟨o, ho, ho2⟩ := cmpk hd (ix_mem j0 (by omega : j < data.length)) (ix_mem (by omega : 0 ≤ j - 1) (by omega : j - 1 < data.length))
    by_cases hlt : o < 0
    · have e1 := swap_perm (l := data) (j := j) (by omega) (by omega)
      have sj : ix ((data.set j.toNat (ix data (j - 1))).set (j - 1).toNat (ix data j)) j = ix data (j - 1) := by
        rw [ix_set_ne (by omega) (by omega) (by omega), ix_set_same (by omega) (by omega)]
      have sj1 : ix ((data.set j.toNat (ix data (j - 1))).set (j - 1).toNat (ix data j)) (j - 1) = ix data j := by
        rw [ix_set_same (by omega) (by rw [List.length_set]; omega)]
      have so : ∀ q : Int, 0 ≤ q → q ≠ j → q ≠ j - 1 → ix ((data.set j.toNat (ix data (j - 1))).set (j - 1).toNat (ix data j)) q = ix data q := fun q q0 a b => by
        rw [ix_set_ne (by omega) q0 (by omega), ix_set_ne (by omega) q0 (by omega)]
      have lt := ho2.1 hlt
      obtain ⟨d', e, hp, hs⟩ := ih (j - 1) _ (by omega) (by omega) (by omega) (by rw [List.length_set, List.length_set]; exact hi) (by rw [List.length_set, List.length_set]; exact hl) (fun x hx => hd x (e1.mem_iff.1 hx)) (fun p q p0 pq qi pj qj => by
        unfold sz
        by_cases a : p = j
        · subst a; rw [sj, so q (by omega) (by omega) (by omega)]; exact h1 (p - 1) q (by omega) (by omega) qi (by omega) (by omega)
        · by_cases b : q = j
          · subst b; rw [sj, so p (by omega) a (by omega)]; exact h1 p (q - 1) (by omega) (by omega) (by omega) (by omega) (by omega)
          · rw [so p p0 a pj, so q (by omega) b qj]; exact h1 p q p0 pq qi a b) (fun q qj qi => by
        unfold sz
        rw [sj1]
        by_cases b : q = j
        · subst b; rw [sj]; omega
        · rw [so q (by omega) b (by omega)]; exact h2 q (by omega) qi)
      refine ⟨d', ?_, hp.trans e1, hs⟩
      rw [← e, slices_insertionSortCmpFunc_L4_eq]; unfold slices_insertionSortCmpFunc_L4_B
      (try dsimp only); (repeat' first | (with_reducible refine G_to ?_ ?_; focus (first | omega | (unfold fits; omega) | (unfold room; (try simp only [List.length_append, List.length_cons, List.length_nil]); omega))) | (with_reducible refine both_to ?_ ?_) | (with_reducible refine itet_to ?_) | (with_reducible refine itef_to ?_) | (with_reducible refine ite_to (fun _ => ?_) (fun _ => ?_))) <;> try (exfalso; omega)
      refine bind_to ho ?_
      unfold slices_insertionSortCmpFunc_J4 slices_insertionSortCmpFunc_J4_1
      rw [if_pos (decide_eq_true hlt)]
      (try dsimp only); (repeat' first | (with_reducible refine G_to ?_ ?_; focus (first | omega | (unfold fits; omega) | (unfold room; (try simp only [List.length_append, List.length_cons, List.length_nil]); omega))) | (with_reducible refine both_to ?_ ?_) | (with_reducible refine itet_to ?_) | (with_reducible refine itef_to ?_) | (with_reducible refine ite_to (fun _ => ?_) (fun _ => ?_))) <;> try (exfalso; omega)
      refine G_to (by rw [List.length_set]; omega) ?_
      refine G_to (by rw [List.length_set]; omega) ?_
      (try dsimp only); (repeat' first | (with_reducible refine G_to ?_ ?_; focus (first | omega | (unfold fits; omega) | (unfold room; (try simp only [List.length_append, List.length_cons, List.length_nil]); omega))) | (with_reducible refine both_to ?_ ?_) | (with_reducible refine itet_to ?_) | (with_reducible refine itef_to ?_) | (with_reducible refine ite_to (fun _ => ?_) (fun _ => ?_))) <;> try (exfalso; omega)
      rfl
    · refine ⟨data, ?_, List.Perm.refl _, fun p q p0 pq qi => ?_⟩
      · rw [slices_insertionSortCmpFunc_L4_eq]; unfold slices_insertionSortCmpFunc_L4_B
        (try dsimp only); (repeat' first | (with_reducible refine G_to ?_ ?_; focus (first | omega | (unfold fits; omega) | (unfold room; (try simp only [List.length_append, List.length_cons, List.length_nil]); omega))) | (with_reducible refine both_to ?_ ?_) | (with_reducible refine itet_to ?_) | (with_reducible refine itef_to ?_) | (with_reducible refine ite_to (fun _ => ?_) (fun _ => ?_))) <;> try (exfalso; omega)
        refine bind_to ho ?_
        unfold slices_insertionSortCmpFunc_J4
        rw [if_neg (by simpa using hlt), G_pos (by unfold fits; omega)]
      · have nlt : ¬ sz c data j < sz c data (j - 1) := fun h => hlt (ho2.2 h)
        by_cases a : p = j
        · subst a; exact h2 q (by omega) (by omega)
        · by_cases b : q = j
          · subst b
            by_cases e : p = q - 1
            · subst e; omega
            · have := h1 p (q - 1) p0 (by omega) (by omega) a (by omega); omega
          · exact h1 p q p0 pq (by omega) a b
theorem ins_L1 : ∀ (n : Nat) (i : Int) (data : List Int), (data.length - i).toNat = n → 1 ≤ i → i ≤ data.length → data.length ≤ 20 → Dom c data → Srt c i data →
    ∃ data', slices_insertionSortCmpFunc_L1 0 data.length c i data = some data' ∧ data'.Perm data ∧ Srt c data.length data' := by
  intro n
  induction n with
  | zero =>
    intro i data hn i1 il hl hd hs
    refine ⟨data, ?_, List.Perm.refl _, by rw [show (data.length : Int) = i by omega]; exact hs⟩
    rw [slices_insertionSortCmpFunc_L1_eq]; unfold slices_insertionSortCmpFunc_L1_B
    rw [if_neg (by simp only [decide_eq_true_eq]; omega)]
  | succ n ih =>
    intro i data hn i1 il hl hd hs
    obtain ⟨d, e, hp, hs'⟩ := ins_L4 (c := c) (r1 := slices_insertionSortCmpFunc_L1 0 data.length c) (i := i) _ i data rfl (by omega) (by omega) (by omega) hl hd (fun p q p0 pq qi a b => hs p q p0 pq (by omega)) (fun q a b => by omega)
    have len := hp.length_eq
    obtain ⟨d2, e2, hp2, hs2⟩ := ih (i + 1) d (by omega) (by omega) (by omega) (by omega) (fun x hx => hd x (hp.mem_iff.1 hx)) hs'
    rw [len] at e2 hs2
    refine ⟨d2, ?_, hp2.trans hp, hs2⟩
    rw [slices_insertionSortCmpFunc_L1_eq]; unfold slices_insertionSortCmpFunc_L1_B
    rw [if_pos (by simp only [decide_eq_true_eq]; omega), e, e2]
theorem sort_spec {data : List Int} (h1 : 1 ≤ data.length) (hl : data.length ≤ 20) (hd : Dom c data) : ∃ data', slices_SortStableFunc c data = some data' ∧ data'.Perm data ∧ Srt c data.length data' := by
  obtain ⟨d, e, hp, hs⟩ := ins_L1 (c := c) _ 1 data rfl (by omega) (by omega) hl hd (fun p q p0 pq qi => by omega)
  refine ⟨d, ?_, hp, hs⟩
  have ins : slices_insertionSortCmpFunc 0 data.length c data = some d := by
    unfold slices_insertionSortCmpFunc
    rw [G_pos (by decide)]
    exact e
  have L7 : slices_stableCmpFunc_L7 data.length c 20 d = some d := by
    rw [slices_stableCmpFunc_L7_eq]; unfold slices_stableCmpFunc_L7_B
    rw [if_neg (by simp only [decide_eq_true_eq]; omega)]
  unfold slices_SortStableFunc slices_stableCmpFunc
  refine bind_to ?_ rfl
  rw [slices_stableCmpFunc_L2_eq]; unfold slices_stableCmpFunc_L2_B
  by_cases h : data.length = 20
  · rw [if_pos (by simp only [decide_eq_true_eq]; omega)]
    refine bind_to (by rw [show (20 : Int) = data.length by omega]; exact ins) ?_
    rw [G_pos (by decide), slices_stableCmpFunc_L2_eq]; unfold slices_stableCmpFunc_L2_B
    rw [if_neg (by simp only [decide_eq_true_eq]; omega)]
    have i2 : slices_insertionSortCmpFunc 20 data.length c d = some d := by
      unfold slices_insertionSortCmpFunc
      rw [G_pos (by decide), slices_insertionSortCmpFunc_L1_eq]; unfold slices_insertionSortCmpFunc_L1_B
      rw [if_neg (by simp only [decide_eq_true_eq]; omega)]
    rw [i2]
    exact L7
  · rw [if_neg (by simp only [decide_eq_true_eq]; omega)]
    rw [ins]
    exact L7
end
def iota (n : Nat) : List Int := (List.range n).map (fun (k : Nat) => (k : Int))
theorem iota_len {n : Nat} : (iota n).length = n := by unfold iota; rw [List.length_map, List.length_range]
theorem iota_ix {n : Nat} {p : Int} (h0 : 0 ≤ p) (h : p < n) : ix (iota n) p = p := by
  unfold iota
  rw [ix_map _ h0 (by rw [List.length_range]; omega), ix_eq h0 (by rw [List.length_range]; omega), List.getElem_range, Int.toNat_of_nonneg h0]
/- words -/
def Dig (L : Int) (w : List Int) : Prop := ∀ a ∈ w, 0 ≤ a ∧ a < L
def Less (a b : List Int) : Prop := ∃ A d e B C, a = A ++ d :: B ∧ b = A ++ e :: C ∧ d < e
theorem Less.app {a b x : List Int} (h : Less a b) : Less a (b ++ x) := by
  obtain ⟨A, d, e, B, C, h1, h2, h3⟩ := h
  exact ⟨A, d, e, B, C ++ x, h1, by rw [h2]; simp, h3⟩
theorem Less.step {a P T T' : List Int} {d d' : Int} (h : Less a (P ++ d :: T)) (hd : d < d') : Less a (P ++ d' :: T') := by
  obtain ⟨A, f, e, B, C, h1, h2, h3⟩ := h
  rcases List.append_eq_append_iff.1 h2 with ⟨X, e1, e2⟩ | ⟨X, e1, e2⟩
  · cases X with
    | nil =>
      simp only [List.nil_append, List.cons.injEq] at e2
      rw [List.append_nil] at e1
      exact ⟨P, f, d', B, T', by rw [h1, e1], rfl, by omega⟩
    | cons x X =>
      simp only [List.cons_append, List.cons.injEq] at e2
      refine ⟨P, d, d', X ++ f :: B, T', ?_, rfl, hd⟩
      rw [h1, e1, e2.1]; simp
  · cases X with
    | nil =>
      simp only [List.nil_append, List.cons.injEq] at e2
      rw [List.append_nil] at e1
      exact ⟨P, f, d', B, T', by rw [h1, e1], rfl, by omega⟩
    | cons x X =>
      simp only [List.cons_append, List.cons.injEq] at e2
      refine ⟨A, f, e, B, X ++ d' :: T', h1, ?_, h3⟩
      rw [e1, e2.1]; simp
theorem Less.pre1 {a b T : List Int} (h : Less a b) : b ≠ a ++ T := by
  obtain ⟨A, f, e, B, C, rfl, rfl, h3⟩ := h
  intro h
  rw [List.append_assoc, List.append_cancel_left_eq] at h
  simp at h; omega
theorem Less.pre2 {a b T : List Int} (h : Less a b) : a ≠ b ++ T := by
  obtain ⟨A, f, e, B, C, rfl, rfl, h3⟩ := h
  intro h
  rw [List.append_assoc, List.append_cancel_left_eq] at h
  simp at h; omega
def Rm (L : Int) (w : List Int) : Int := w.foldl (fun r d => r * L - d) 1
theorem Rm_app {L d : Int} {w : List Int} : Rm L (w ++ [d]) = Rm L w * L - d := by simp [Rm, List.foldl_append]
theorem rep_succ {α : Type} {w : List α} {k : Nat} {x : α} : w ++ List.replicate (k + 1) x = (w ++ List.replicate k x) ++ [x] := by
  rw [List.replicate_succ', List.append_assoc]
theorem Rm_zeros {L : Int} {w : List Int} : ∀ k : Nat, Rm L (w ++ List.replicate k 0) = Rm L w * L ^ k
  | 0 => by simp
  | k + 1 => by rw [rep_succ, Rm_app, Rm_zeros k, Int.pow_succ, Int.mul_assoc]; omega
theorem Rm_tops {L : Int} {w : List Int} : ∀ k : Nat, Rm L (w ++ List.replicate k (L - 1)) = (Rm L w - 1) * L ^ k + 1
  | 0 => by simp
  | k + 1 => by
    rw [rep_succ, Rm_app, Rm_tops k, Int.pow_succ, Int.add_mul, Int.mul_assoc]; omega
theorem Rm_pos {L : Int} (hL : 1 ≤ L) {w : List Int} (h : Dig L w) : 1 ≤ Rm L w := by
  have key : ∀ (w : List Int) (r : Int), 1 ≤ r → Dig L w → 1 ≤ w.foldl (fun r d => r * L - d) r := by
    intro w
    induction w with
    | nil => intro r hr _; exact hr
    | cons d w ih =>
      intro r hr h
      have hd := h d (by simp)
      refine ih _ ?_ (fun a ha => h a (by simp [ha]))
      have := Int.mul_le_mul_of_nonneg_right hr (by omega : 0 ≤ L)
      show 1 ≤ r * L - d
      omega
  exact key w 1 (Int.le_refl _) h
theorem ix_mid {A B : List Int} {d : Int} : ix (A ++ d :: B) A.length = d := by
  rw [ix_append_right (Int.le_refl _), Int.sub_self]; rfl
theorem set_mid {A B : List Int} {d x : Int} : (A ++ d :: B).set A.length x = A ++ x :: B := by
  simp
theorem dig_app {L : Int} {a b : List Int} : Dig L (a ++ b) ↔ Dig L a ∧ Dig L b := by
  unfold Dig; simp only [List.mem_append]
  exact ⟨fun h => ⟨fun x hx => h x (.inl hx), fun x hx => h x (.inr hx)⟩, fun h x hx => hx.elim (h.1 x) (h.2 x)⟩
theorem dig_rep {L x : Int} {k : Nat} (h : 0 ≤ x ∧ x < L) : Dig L (List.replicate k x) := fun a ha => by rw [List.eq_of_mem_replicate ha]; exact h
section
variable {L : Int} {r17 : Bool → Int → (List (List Int)) → (List Int) → Option (Bool × Int × (List (List Int)))} {y1 : List Int} {t : Int} {l : List (List Int)} {w2 : List Int}
theorem inc_spec (hL : 1 ≤ L ∧ L ≤ 4) : ∀ (n : Nat) (P : List Int) (m : Nat), P.length = n → Dig L P → n + m ≤ 30 →
    (∃ P' d m', P ++ List.replicate m (L - 1) = P' ++ d :: List.replicate m' (L - 1) ∧ 0 ≤ d ∧ d + 1 < L ∧ Dig L P' ∧
      code_Kraft_L25 L y1 t l r17 w2 (n - 1) (P ++ List.replicate m 0) = code_Kraft_J30 t r17 true (l.set (ix y1 t).toNat w2) (P' ++ (d + 1) :: List.replicate m' 0)) ∨
    (P ++ List.replicate m (L - 1) = List.replicate (n + m) (L - 1) ∧
      code_Kraft_L25 L y1 t l r17 w2 (n - 1) (P ++ List.replicate m 0) = code_Kraft_J30 t r17 false (l.set (ix y1 t).toNat w2) (List.replicate (n + m) 0)) := by
  intro n
  induction n with
  | zero =>
    intro P m hn hd hm
    obtain rfl := List.length_eq_zero_iff.1 hn
    refine .inr ⟨by simp, ?_⟩
    rw [code_Kraft_L25_eq]; unfold code_Kraft_L25_B code_Kraft_J25
    rw [if_neg (by decide), if_neg (by decide), if_neg (by decide)]
    simp
  | succ n ih =>
    intro P m hn hd hm
    obtain ⟨P0, d, rfl⟩ : ∃ P0 d, P = P0 ++ [d] := by
      have h : P ≠ [] := by intro h; rw [h] at hn; cases hn
      exact ⟨P.dropLast, P.getLast h, (List.dropLast_concat_getLast h).symm⟩
    have hn0 : P0.length = n := by simpa using hn
    have hd0 := dig_app.1 hd
    have hdd := hd0.2 d (by simp)
    have e0 : P0 ++ [d] ++ List.replicate m 0 = P0 ++ d :: List.replicate m 0 := by simp
    have e1 : ((n + 1 : Nat) : Int) - 1 = P0.length := by omega
    have el : (P0 ++ d :: List.replicate m 0).length = n + 1 + m := by simp; omega
    have ei : ix (P0 ++ d :: List.replicate m 0) P0.length = d := ix_mid
    rw [e0, e1, code_Kraft_L25_eq]; unfold code_Kraft_L25_B
    rw [if_pos (by simp), G_pos (by omega), G_pos (by omega), G_pos (by unfold fits; omega), ei]
    by_cases c : d = L - 1
    · have := ih P0 (m + 1) hn0 hd0.1 (by omega)
      have e2 : P0 ++ [d] ++ List.replicate m (L - 1) = P0 ++ List.replicate (m + 1) (L - 1) := by
        rw [c, List.replicate_succ]; simp
      rw [e2, show n + 1 + m = n + (m + 1) by omega]
      have e3 : code_Kraft_J25 y1 t l r17 w2 P0.length (code_Kraft_L25 L y1 t l r17 w2) (decide (d = L - 1)) (P0 ++ d :: List.replicate m 0) = code_Kraft_L25 L y1 t l r17 w2 (n - 1) (P0 ++ List.replicate (m + 1) 0) := by
        unfold code_Kraft_J25 code_Kraft_J25_1
        rw [if_pos (decide_eq_true c), G_pos (by omega), G_pos (by omega), G_pos (by unfold fits; omega), Int.toNat_natCast, set_mid, hn0]
        rfl
      rw [e3]
      exact this
    · refine .inl ⟨P0, d, m, by simp, hdd.1, by omega, hd0.1, ?_⟩
      unfold code_Kraft_J25
      rw [if_neg (by simpa using c), if_pos (by simp), G_pos (by omega), G_pos (by omega), ei, G_pos (by unfold fits; omega), G_pos (by omega), G_pos (by omega), Int.toNat_natCast, set_mid, decide_eq_true (by omega : (0 : Int) ≤ P0.length)]
theorem pad_spec {sizes : List Int} {s : Int} (hy : 0 ≤ ix y1 t ∧ ix y1 t < sizes.length) (hl : l.length = sizes.length) (hs : ix sizes (ix y1 t) = s) (hs1 : 0 ≤ s ∧ s ≤ 30) : ∀ (n : Nat) (next : List Int), (s - next.length).toNat = n → (next.length : Int) ≤ s →
    code_Kraft_L21 L sizes y1 t l r17 next = code_Kraft_L25 L y1 t l r17 (next ++ List.replicate n 0) (s - 1) (next ++ List.replicate n 0) := by
  intro n
  induction n with
  | zero =>
    intro next hn hle
    rw [code_Kraft_L21_eq]; unfold code_Kraft_L21_B
    rw [G_pos hy, hs, if_neg (by simp only [decide_eq_true_eq]; omega)]
    refine bind_to (slices_Clone_spec (by omega)) ?_
    rw [G_pos (by omega), G_pos (by omega), G_pos (by unfold fits; omega)]
    simp only [List.replicate_zero, List.append_nil]
    rw [show (next.length : Int) = s by omega]
  | succ n ih =>
    intro next hn hle
    rw [code_Kraft_L21_eq]; unfold code_Kraft_L21_B
    rw [G_pos hy, hs, if_pos (by simp only [decide_eq_true_eq]; omega), G_pos (by unfold room; simp only [List.length_cons, List.length_nil]; omega)]
    rw [ih (next ++ [0]) (by rw [List.length_append, List.length_singleton]; omega) (by rw [List.length_append, List.length_singleton]; omega)]
    rw [List.append_assoc, List.replicate_succ]; rfl
end
def krem (L : Int) : List Int → Int → Int → Bool
  | [], _, _ => true
  | s :: rest, len, R => if R ≤ 0 then false else krem L rest s (R * L ^ (s - len).toNat - 1)
theorem krem_cons {L s len R : Int} {rest : List Int} : krem L (s :: rest) len R = if R ≤ 0 then false else krem L rest s (R * L ^ (s - len).toNat - 1) := rfl
structure Good (L : Int) (sizes : List Int) (l : List (List Int)) : Prop where
  len : l.length = sizes.length
  each : ∀ i : Int, 0 ≤ i → i < sizes.length → ((ix l i).length : Int) = ix sizes i ∧ Dig L (ix l i)
  two : ∀ i k : Int, 0 ≤ i → i < sizes.length → 0 ≤ k → k < sizes.length → i ≠ k → Less (ix l i) (ix l k) ∨ Less (ix l k) (ix l i)
theorem nodup_ix {o : List Int} (h : o.Nodup) {p q : Int} (p0 : 0 ≤ p) (pq : p < q) (q1 : q < o.length) : ix o p ≠ ix o q := by
  rw [ix_eq p0 (by omega), ix_eq (by omega) q1]
  exact List.pairwise_iff_getElem.1 h _ _ _ _ (by omega)
structure Okay (L : Int) (sizes o : List Int) : Prop where
  L1 : 1 ≤ L ∧ L ≤ 4
  n1 : 1 ≤ sizes.length ∧ sizes.length ≤ 20
  dom : ∀ i : Int, 0 ≤ i → i < sizes.length → 1 ≤ ix sizes i ∧ ix sizes i ≤ 30
  perm : o.Perm (iota sizes.length)
  srt : Srt sizes sizes.length o
section
variable {L : Int} {sizes o : List Int}
theorem Okay.len (h : Okay L sizes o) : o.length = sizes.length := by rw [h.perm.length_eq, iota_len]
theorem Okay.rng (h : Okay L sizes o) {q : Int} (q0 : 0 ≤ q) (q1 : q < o.length) : 0 ≤ ix o q ∧ ix o q < sizes.length := by
  have := h.perm.mem_iff.1 (ix_mem q0 q1)
  unfold iota at this
  rw [List.mem_map] at this
  obtain ⟨k, hk, e⟩ := this
  rw [List.mem_range] at hk
  omega
theorem Okay.nodup (h : Okay L sizes o) : o.Nodup := by
  rw [h.perm.nodup_iff]
  unfold iota
  rw [List.Nodup, List.pairwise_map]
  exact (List.nodup_range (n := sizes.length)).imp (fun h e => h (by omega))
theorem Okay.onto (h : Okay L sizes o) {i : Int} (i0 : 0 ≤ i) (i1 : i < sizes.length) : ∃ q : Int, 0 ≤ q ∧ q < o.length ∧ ix o q = i := by
  have : i ∈ o := h.perm.mem_iff.2 (by unfold iota; rw [List.mem_map]; exact ⟨i.toNat, by rw [List.mem_range]; omega, by omega⟩)
  exact (ex_ix (P := fun x => x = i)).1 ⟨i, this, rfl⟩
structure KI (L : Int) (sizes o : List Int) (t : Int) (l : List (List Int)) (next : List Int) (ok : Bool) (R : Int) : Prop where
  len : l.length = sizes.length
  dig : Dig L next
  short : ∀ q : Int, t ≤ q → q < o.length → (next.length : Int) ≤ sz sizes o q
  n30 : next.length ≤ 30
  word : ∀ q : Int, 0 ≤ q → q < t → ((ix l (ix o q)).length : Int) = sz sizes o q ∧ Dig L (ix l (ix o q))
  two : ∀ p q : Int, 0 ≤ p → p < q → q < t → Less (ix l (ix o p)) (ix l (ix o q))
  fst : ok = true → (∀ q : Int, 0 ≤ q → q < t → Less (ix l (ix o q)) next) ∧ R = Rm L next
  snd : ok = false → R = 0
theorem L17_spec (h : Okay L sizes o) : ∀ (n : Nat) (t : Int) (l : List (List Int)) (next : List Int) (ok : Bool) (R : Int), (o.length - t).toNat = n → 0 ≤ t → t ≤ o.length → KI L sizes o t l next ok R →
    (krem L ((o.drop t.toNat).map (ix sizes)) next.length R = true ∧ ∃ l', code_Kraft_L17 L sizes o ok t l next = some (true, 0, l') ∧ Good L sizes l') ∨
    (krem L ((o.drop t.toNat).map (ix sizes)) next.length R = false ∧ code_Kraft_L17 L sizes o ok t l next = some (false, 0, [])) := by
  have hlen := h.len
  have hn := h.n1
  intro n
  induction n with
  | zero =>
    intro t l next ok R hn' t0 t1 k
    refine .inl ⟨by rw [List.drop_of_length_le (by omega)]; rfl, l, ?_, ⟨k.len, fun i i0 i1 => ?_, fun i j i0 i1 j0 j1 ne => ?_⟩⟩
    · rw [code_Kraft_L17_eq]; unfold code_Kraft_L17_B
      rw [if_neg (by simp only [decide_eq_true_eq]; omega)]
    · obtain ⟨q, q0, q1, rfl⟩ := h.onto i0 i1
      exact k.word q q0 (by omega)
    · obtain ⟨p, p0, p1, rfl⟩ := h.onto i0 i1
      obtain ⟨q, q0, q1, rfl⟩ := h.onto j0 j1
      by_cases c : p < q
      · exact .inl (k.two p q p0 c (by omega))
      · have : p ≠ q := fun e => ne (by rw [e])
        exact .inr (k.two q p q0 (by omega) (by omega))
  | succ n ih =>
    intro t l next ok R hn' t0 t1 k
    have hy := h.rng t0 (by omega : t < o.length)
    have hdom := h.dom _ hy.1 hy.2
    have hsh := k.short t (Int.le_refl _) (by omega)
    have hL := h.L1
    rw [ix_drop t0 (by omega), List.map_cons]
    have ec : code_Kraft_L17 L sizes o ok t l next = if (!ok) = true then some (false, 0, []) else code_Kraft_L21 L sizes o t l (code_Kraft_L17 L sizes o) next := by
      conv => lhs; rw [code_Kraft_L17_eq]; unfold code_Kraft_L17_B
      rw [if_pos (by simp only [decide_eq_true_eq]; omega), G_pos (by omega), G_pos (by omega)]
    cases ok with
    | false =>
      refine .inr ⟨?_, ?_⟩
      · unfold krem; rw [if_pos (by rw [k.snd rfl]; omega)]
      · rw [ec, if_pos (by decide)]
    | true =>
      obtain ⟨hless, hR⟩ := k.fst rfl
      have hpos := Rm_pos hL.1 k.dig
      rw [ec, if_neg (by decide)]
      have hsz : sz sizes o t = ix sizes (ix o t) := rfl
      have e1 := pad_spec (L := L) (r17 := code_Kraft_L17 L sizes o) (y1 := o) (t := t) (l := l) hy k.len rfl (by omega) _ next rfl (by omega)
      generalize hw : next ++ List.replicate (ix sizes (ix o t) - next.length).toNat 0 = w at e1
      have hwl : (w.length : Int) = ix sizes (ix o t) := by rw [← hw, List.length_append, List.length_replicate]; omega
      have hwd : Dig L w := by rw [← hw]; exact dig_app.2 ⟨k.dig, dig_rep (by omega)⟩
      have hwR : Rm L w = R * L ^ (ix sizes (ix o t) - next.length).toNat := by rw [← hw, Rm_zeros, hR]
      have hwless : ∀ q : Int, 0 ≤ q → q < t → Less (ix l (ix o q)) w := fun q q0 q1 => by rw [← hw]; exact (hless q q0 q1).app
      have hkr : krem L (ix sizes (ix o t) :: (o.drop (t + 1).toNat).map (ix sizes)) next.length R = krem L ((o.drop (t + 1).toNat).map (ix sizes)) (ix sizes (ix o t)) (Rm L w - 1) := by
        conv => lhs; unfold krem
        rw [if_neg (by omega), hwR]
      rw [hkr, e1]
      have es : (ix sizes (ix o t) - 1) = ((w.length : Nat) : Int) - 1 := by omega
      have setl : ∀ q : Int, 0 ≤ q → q < t → ix (l.set (ix o t).toNat w) (ix o q) = ix l (ix o q) := fun q q0 q1 => by
        have hq := h.rng q0 (by omega : q < o.length)
        exact ix_set_ne hy.1 hq.1 (Ne.symm (nodup_ix h.nodup q0 q1 (by omega)))
      have sett : ix (l.set (ix o t).toNat w) (ix o t) = w := ix_set_same hy.1 (by rw [k.len]; exact hy.2)
      have nxt : ∀ (next' : List Int) (ok' : Bool), next'.length = w.length → Dig L next' → (ok' = true → (∀ a, Less a w → Less a next') ∧ Less w next' ∧ Rm L w - 1 = Rm L next') → (ok' = false → Rm L w - 1 = 0) → KI L sizes o (t + 1) (l.set (ix o t).toNat w) next' ok' (Rm L w - 1) := by
        intro next' ok' hl' hd' h1 h2
        refine ⟨by rw [List.length_set]; exact k.len, hd', fun q q0 q1 => ?_, by omega, fun q q0 q1 => ?_, fun p q p0 pq q1 => ?_, fun e => ⟨fun q q0 q1 => ?_, (h1 e).2.2⟩, h2⟩
        · have := h.srt t q t0 (by omega) (by omega)
          omega
        · by_cases c : q = t
          · subst c; rw [sett]; exact ⟨hwl, hwd⟩
          · rw [setl q q0 (by omega)]; exact k.word q q0 (by omega)
        · rw [setl p p0 (by omega)]
          by_cases c : q = t
          · subst c; rw [sett]; exact hwless p p0 pq
          · rw [setl q (by omega) (by omega)]; exact k.two p q p0 pq (by omega)
        · by_cases c : q = t
          · subst c; rw [sett]; exact (h1 e).2.1
          · rw [setl q q0 (by omega)]; exact (h1 e).1 _ (hwless q q0 (by omega))
      have fin : ∀ (next' : List Int) (ok' : Bool), next'.length = w.length → code_Kraft_L25 L o t l (code_Kraft_L17 L sizes o) w ((w.length : Nat) - 1) w = code_Kraft_J30 t (code_Kraft_L17 L sizes o) ok' (l.set (ix o t).toNat w) next' → KI L sizes o (t + 1) (l.set (ix o t).toNat w) next' ok' (Rm L w - 1) →
          (krem L ((o.drop (t + 1).toNat).map (ix sizes)) (ix sizes (ix o t)) (Rm L w - 1) = true ∧ ∃ l', code_Kraft_L25 L o t l (code_Kraft_L17 L sizes o) w (ix sizes (ix o t) - 1) w = some (true, 0, l') ∧ Good L sizes l') ∨
          (krem L ((o.drop (t + 1).toNat).map (ix sizes)) (ix sizes (ix o t)) (Rm L w - 1) = false ∧ code_Kraft_L25 L o t l (code_Kraft_L17 L sizes o) w (ix sizes (ix o t) - 1) w = some (false, 0, [])) := by
        intro next' ok' hl' e ki
        have := ih (t + 1) _ next' ok' _ (by omega) (by omega) (by omega) ki
        rw [es, e]
        unfold code_Kraft_J30
        rw [G_pos (by unfold fits; omega), ← hwl, ← hl']
        exact this
      rcases inc_spec (L := L) (r17 := code_Kraft_L17 L sizes o) (y1 := o) (t := t) (l := l) (w2 := w) hL _ w 0 rfl hwd (by omega) with ⟨P, d, m, e2, d0, d1, hP, e3⟩ | ⟨e2, e3⟩
      · simp only [List.replicate_zero, List.append_nil] at e2 e3
        refine fin _ true ?_ e3 (nxt _ true ?_ ?_ (fun _ => ⟨fun a ha => ?_, ?_, ?_⟩) (fun h => by cases h))
        · rw [e2]; simp
        · rw [e2]; simp
        · exact dig_app.2 ⟨hP, fun a ha => by
            rcases List.mem_cons.1 ha with rfl | ha
            · omega
            · rw [List.eq_of_mem_replicate ha]; omega⟩
        · rw [e2] at ha; exact ha.step (by omega)
        · exact ⟨P, d, d + 1, List.replicate m (L - 1), List.replicate m 0, e2, rfl, by omega⟩
        · rw [e2, show P ++ d :: List.replicate m (L - 1) = (P ++ [d]) ++ List.replicate m (L - 1) by simp, show P ++ (d + 1) :: List.replicate m 0 = (P ++ [d + 1]) ++ List.replicate m 0 by simp, Rm_tops, Rm_zeros, Rm_app, Rm_app, Int.add_sub_cancel]
          congr 1; omega
      · simp only [List.replicate_zero, List.append_nil, Nat.add_zero] at e2 e3
        refine fin _ false (by simp) e3 (nxt _ false (by simp) (dig_rep (by omega)) (fun h => by cases h) (fun _ => ?_))
        have := Rm_tops (L := L) (w := []) w.length
        rw [List.nil_append, ← e2] at this
        rw [this]; simp [Rm]
theorem L9_spec {data : List Int} (hn : 1 ≤ sizes.length ∧ sizes.length ≤ 20) : ∀ (n : Nat) (t : Int) (order : List Int), (sizes.length - t).toNat = n → 0 ≤ t → t ≤ sizes.length → order.length = sizes.length → (∀ p : Int, 0 ≤ p → p < t → ix order p = p) →
    code_Kraft_L9 L sizes t order = code_Kraft_L9 L sizes sizes.length (iota sizes.length) := by
  intro n
  induction n with
  | zero =>
    intro t order hn' t0 t1 hl hp
    obtain rfl : t = sizes.length := by omega
    rw [ix_ext (l := order) (m := iota sizes.length) (by rw [iota_len, hl]) (fun j j0 j1 => by rw [hp j j0 (by omega), iota_ix j0 (by omega)])]
  | succ n ih =>
    intro t order hn' t0 t1 hl hp
    conv => lhs; rw [code_Kraft_L9_eq]; unfold code_Kraft_L9_B
    rw [List.length_replicate]
    (try dsimp only); (repeat' first | (with_reducible refine G_to ?_ ?_; focus (first | omega | (unfold fits; omega) | (unfold room; (try simp only [List.length_append, List.length_cons, List.length_nil]); omega))) | (with_reducible refine both_to ?_ ?_) | (with_reducible refine itet_to ?_) | (with_reducible refine itef_to ?_) | (with_reducible refine ite_to (fun _ => ?_) (fun _ => ?_))) <;> try (exfalso; omega)
    refine ih (t + 1) _ (by omega) (by omega) (by omega) (by rw [List.length_set]; exact hl) (fun p p0 p1 => ?_)
    by_cases c : p = t
    · subst c; exact ix_set_same p0 (by omega)
    · rw [ix_set_ne t0 p0 (by omega)]; exact hp p p0 (by omega)
end
/- room -/
def kex (L : Int) (cnt : Int → Int) : Nat → Int → Int → Bool
  | 0, _, _ => true
  | n + 1, s, R => if R - cnt s < 0 then false else kex L cnt n (s + 1) ((R - cnt s) * L)
theorem kex_congr {L : Int} {cnt cnt' : Int → Int} : ∀ (n : Nat) (s R : Int), (∀ x, s ≤ x → cnt x = cnt' x) → kex L cnt n s R = kex L cnt' n s R
  | 0, _, _, _ => rfl
  | n + 1, s, R, h => by
    unfold kex
    rw [h s (Int.le_refl _), kex_congr n (s + 1) _ (fun x hx => h x (by omega))]
theorem splits {s : Int} : ∀ (S : List Int), S.Pairwise (· ≤ ·) → (∀ x ∈ S, s ≤ x) → ∃ (c : Nat) (rest : List Int), S = List.replicate c s ++ rest ∧ (∀ x ∈ rest, s + 1 ≤ x)
  | [], _, _ => ⟨0, [], rfl, fun x hx => by cases hx⟩
  | x :: S, hp, hs => by
    have hp := List.pairwise_cons.1 hp
    by_cases e : x = s
    · obtain ⟨c, rest, h1, h2⟩ := splits S hp.2 (fun y hy => hs y (by simp [hy]))
      exact ⟨c + 1, rest, by rw [h1, e, List.replicate_succ]; rfl, h2⟩
    · have := hs x (by simp)
      refine ⟨0, x :: S, rfl, fun y hy => ?_⟩
      rcases List.mem_cons.1 hy with rfl | hy
      · omega
      · have := hp.1 y hy; omega
theorem krem_rep {L s : Int} {rest : List Int} : ∀ (c : Nat) (R : Int), 0 ≤ R → krem L (List.replicate c s ++ rest) s R = if (c : Int) ≤ R then krem L rest s (R - c) else false
  | 0, R, h => by rw [if_pos (by omega)]; simp
  | c + 1, R, h => by
    rw [List.replicate_succ, List.cons_append, krem_cons]
    by_cases e : R ≤ 0
    · rw [if_pos e, if_neg (by omega)]
    · rw [if_neg e, Int.sub_self, show (0 : Int).toNat = 0 from rfl, Int.pow_zero, Int.mul_one, krem_rep c (R - 1) (by omega)]
      by_cases e2 : (c : Int) ≤ R - 1
      · rw [if_pos e2, if_pos (by omega), show R - 1 - c = R - ((c + 1 : Nat) : Int) by omega]
      · rw [if_neg e2, if_neg (by omega)]
theorem pow1 {L : Int} (h : 1 ≤ L) : ∀ k : Nat, 1 ≤ L ^ k
  | 0 => by simp
  | k + 1 => by
    have a := pow1 h k
    have := Int.mul_le_mul_of_nonneg_left h (by omega : 0 ≤ L ^ k)
    rw [Int.pow_succ]; omega
theorem krem_len {L s len R : Int} (hL : 1 ≤ L) (hl : len ≤ s) (hR : 0 ≤ R) : ∀ (S : List Int), (∀ x ∈ S, s ≤ x) → krem L S len R = krem L S s (R * L ^ (s - len).toNat)
  | [], _ => rfl
  | x :: S, h => by
    have hx := h x (by simp)
    have p := pow1 hL (s - len).toNat
    unfold krem
    have e : R ≤ 0 ↔ R * L ^ (s - len).toNat ≤ 0 := by
      have := Int.mul_le_mul_of_nonneg_left p hR
      constructor
      · intro h
        obtain rfl : R = 0 := by omega
        simp
      · intro h; omega
    by_cases c : R ≤ 0
    · rw [if_pos c, if_pos (e.1 c)]
    · rw [if_neg c, if_neg (fun h => c (e.2 h)), Int.mul_assoc, ← Int.pow_add, show (s - len).toNat + (x - s).toNat = (x - len).toNat by omega]
theorem krem_kex {L : Int} (hL : 1 ≤ L) : ∀ (n : Nat) (s len R : Int) (S : List Int), S.Pairwise (· ≤ ·) → (∀ x ∈ S, s ≤ x ∧ x < s + n) → len ≤ s → 0 ≤ R →
    krem L S len R = kex L (fun x => (S.count x : Int)) n s (R * L ^ (s - len).toNat)
  | 0, s, len, R, S, _, hs, _, _ => by
    cases S with
    | nil => rfl
    | cons x S => have := hs x (by simp); omega
  | n + 1, s, len, R, S, hp, hs, hl, hR => by
    rw [krem_len hL hl hR S (fun x hx => (hs x hx).1)]
    have hR' : 0 ≤ R * L ^ (s - len).toNat := Int.mul_nonneg hR (by have := pow1 hL (s - len).toNat; omega)
    generalize R * L ^ (s - len).toNat = Q at hR'
    obtain ⟨c, rest, rfl, hr⟩ := splits S hp (fun x hx => (hs x hx).1)
    rw [krem_rep c Q hR']
    unfold kex
    have z : rest.count s = 0 := List.count_eq_zero.2 (fun h => by have := hr s h; omega)
    have ec : ((List.replicate c s ++ rest).count s : Int) = c := by
      rw [List.count_append, List.count_replicate_self, z]; omega
    rw [ec]
    by_cases e : (c : Int) ≤ Q
    · rw [if_pos e, if_neg (by omega), krem_kex hL n (s + 1) s (Q - c) rest (List.pairwise_append.1 hp).2.1 (fun x hx => ⟨hr x hx, by have := (hs x (List.mem_append_right _ hx)).2; omega⟩) (by omega) (by omega)]
      rw [show (s + 1 - s).toNat = 1 by omega, Int.pow_one]
      refine kex_congr n (s + 1) _ (fun x hx => ?_)
      rw [List.count_append, List.count_replicate, if_neg (by simp; omega)]; omega
    · rw [if_neg e, if_pos (by omega)]
def clip (x : Int) : Int := if 100 < x then 100 else x
def rr (L : Int) (cnt : Int → Int) : Nat → Int → Int → Bool
  | 0, _, _ => true
  | n + 1, s, R => if R - cnt s < 0 then false else rr L cnt n (s + 1) (clip ((R - cnt s) * L))
theorem rr_kex {L : Int} (hL : 1 ≤ L) {cnt u : Int → Int} (hc : ∀ s, 0 ≤ cnt s) (hu : ∀ s, u (s + 1) = u s + cnt s) (h20 : ∀ s, 0 ≤ u s ∧ u s ≤ 20) : ∀ (n : Nat) (s R Q : Int), (Q = R ∨ (100 - u s ≤ Q ∧ Q ≤ R)) → rr L cnt n s Q = kex L cnt n s R
  | 0, _, _, _, _ => rfl
  | n + 1, s, R, Q, h => by
    unfold rr kex
    have a1 := hu s
    have a2 := h20 s
    have a3 := h20 (s + 1)
    have a4 := hc s
    rcases h with rfl | ⟨h1, h2⟩
    · by_cases e : Q - cnt s < 0
      · rw [if_pos e, if_pos e]
      · rw [if_neg e, if_neg e]
        refine rr_kex hL hc hu h20 n (s + 1) _ _ ?_
        unfold clip
        split <;> omega
    · rw [if_neg (by omega), if_neg (by omega)]
      refine rr_kex hL hc hu h20 n (s + 1) _ _ (.inr ?_)
      have b1 := Int.mul_le_mul_of_nonneg_left hL (by omega : 0 ≤ Q - cnt s)
      have b2 := Int.mul_le_mul_of_nonneg_right (by omega : Q - cnt s ≤ R - cnt s) (by omega : 0 ≤ L)
      unfold clip
      split <;> omega
section
variable {L : Int} {sizes : List Int}
theorem L6_spec {r3 : Int → Int → Option Bool} {s : Int} (hL : 1 ≤ L ∧ L ≤ 4) (hn : sizes.length ≤ 20) (hs : 0 ≤ s ∧ s ≤ 30) : ∀ (n : Nat) (i R K : Int), (sizes.length - i).toNat = n → 0 ≤ i → i ≤ sizes.length → -i ≤ R → R ≤ 100 → K = ((sizes.drop i.toNat).count s : Int) →
    r24_Kraft_L6 L sizes s r3 R i = if R - K < 0 then some false else r3 (clip ((R - K) * L)) (s + 1) := by
  intro n
  induction n with
  | zero =>
    intro i R K hn' i0 i1 h0 h1 hK
    rw [List.drop_of_length_le (by omega)] at hK
    obtain rfl : K = 0 := hK
    rw [r24_Kraft_L6_eq]; unfold r24_Kraft_L6_B
    rw [if_neg (by simp only [decide_eq_true_eq]; omega)]
    simp only [decide_eq_true_eq, Int.sub_zero]
    by_cases c : R < 0
    · rw [if_pos c, if_pos c]
    · have b1 := Int.mul_le_mul_of_nonneg_left hL.2 (by omega : 0 ≤ R)
      have b2 := Int.mul_nonneg (by omega : 0 ≤ R) (by omega : 0 ≤ L)
      rw [if_neg c, if_neg c, G_pos (by unfold fits; omega)]
      unfold clip
      by_cases e : 100 < R * L
      · rw [if_pos e, if_pos e, G_pos (by unfold fits; omega)]
      · rw [if_neg e, if_neg e, G_pos (by unfold fits; omega)]
  | succ n ih =>
    intro i R K hn' i0 i1 h0 h1 hK
    rw [ix_drop i0 (by omega), List.count_cons] at hK
    rw [r24_Kraft_L6_eq]; unfold r24_Kraft_L6_B
    rw [if_pos (by simp only [decide_eq_true_eq]; omega), G_pos (by omega)]
    by_cases c : ix sizes i = s
    · rw [if_pos (by simpa using c)] at hK
      rw [if_pos (decide_eq_true c), G_pos (by unfold fits; omega), G_pos (by unfold fits; omega), ih (i + 1) (R - 1) (K - 1) (by omega) (by omega) (by omega) (by omega) (by omega) (by omega)]
      rw [show R - 1 - (K - 1) = R - K by omega]
    · rw [if_neg (by simpa using c)] at hK
      rw [if_neg (by simpa using c), G_pos (by unfold fits; omega), ih (i + 1) R K (by omega) (by omega) (by omega) (by omega) (by omega) hK]
theorem L3_spec (hL : 1 ≤ L ∧ L ≤ 4) (hn : sizes.length ≤ 20) : ∀ (n : Nat) (s R : Int), (31 - s).toNat = n → 0 ≤ s → 0 ≤ R → R ≤ 100 → r24_Kraft_L3 L sizes R s = some (rr L (fun x => (sizes.count x : Int)) n s R) := by
  intro n
  induction n with
  | zero =>
    intro s R hn' s0 h0 h1
    rw [r24_Kraft_L3_eq]; unfold r24_Kraft_L3_B
    rw [if_neg (by simp only [decide_eq_true_eq]; omega)]; rfl
  | succ n ih =>
    intro s R hn' s0 h0 h1
    rw [r24_Kraft_L3_eq]; unfold r24_Kraft_L3_B
    rw [if_pos (by simp only [decide_eq_true_eq]; omega), L6_spec hL hn ⟨s0, by omega⟩ _ 0 R (sizes.count s) rfl (by omega) (by omega) (by omega) h1 rfl]
    unfold rr
    by_cases c : R - (sizes.count s : Int) < 0
    · rw [if_pos c, if_pos c]
    · have b2 := Int.mul_nonneg (by omega : 0 ≤ R - (sizes.count s : Int)) (by omega : 0 ≤ L)
      rw [if_neg c, if_neg c]
      refine ih (s + 1) _ (by omega) (by omega) ?_ ?_
      · unfold clip; split <;> omega
      · unfold clip; split <;> omega
theorem below (s : Int) : ∀ l : List Int, l.countP (fun x => decide (x < s + 1)) = l.countP (fun x => decide (x < s)) + l.count s
  | [] => rfl
  | x :: l => by
    rw [List.countP_cons, List.countP_cons, List.count_cons, below s l]
    by_cases a : x = s
    · rw [if_pos (by simp; omega), if_neg (by simp; omega), if_pos (by simp [a])]; omega
    · by_cases b : x < s
      · rw [if_pos (by simp; omega), if_pos (by simp; omega), if_neg (by simpa using a)]; omega
      · rw [if_neg (by simp; omega), if_neg (by simp; omega), if_neg (by simpa using a)]; omega
theorem r24_Kraft_spec (hL : 1 ≤ L ∧ L ≤ 4) (hn : sizes.length ≤ 20) {o : List Int} (h : Okay L sizes o) : r24_Kraft L sizes = some (krem L (o.map (ix sizes)) 0 1) := by
  have hperm : (o.map (ix sizes)).Perm sizes := by
    have e : (iota sizes.length).map (ix sizes) = sizes := by
      refine ix_ext (by rw [List.length_map, iota_len]) (fun j j0 j1 => ?_)
      rw [List.length_map, iota_len] at j1
      rw [ix_map _ j0 (by rw [iota_len]; exact j1), iota_ix j0 j1]
    have := h.perm.map (ix sizes)
    rwa [e] at this
  have hlen := h.len
  have srt : (o.map (ix sizes)).Pairwise (· ≤ ·) := by
    rw [List.pairwise_iff_getElem]
    intro i j hi hj ij
    rw [List.length_map] at hi hj
    have := h.srt i j (by omega) (by omega) (by omega)
    unfold sz at this
    rw [ix_nat, ix_nat] at this
    simpa [List.getD_eq_getElem?_getD, hi, hj] using this
  have e := krem_kex hL.1 31 0 0 1 (o.map (ix sizes)) srt (fun x hx => by
    obtain ⟨i, i0, i1, rfl⟩ := (ex_ix (P := fun y => y = x)).1 ⟨x, hperm.mem_iff.1 hx, rfl⟩
    have := h.dom i i0 i1
    omega) (Int.le_refl _) (by omega)
  rw [e]
  unfold r24_Kraft
  rw [L3_spec hL hn 31 0 1 rfl (by omega) (by omega) (by omega)]
  congr 1
  rw [show (1 : Int) * L ^ ((0 : Int) - 0).toNat = 1 by simp]
  rw [kex_congr (cnt := fun x => ((o.map (ix sizes)).count x : Int)) (cnt' := fun x => (sizes.count x : Int)) 31 0 1 (fun x _ => by rw [hperm.count_eq])]
  refine rr_kex hL.1 (u := fun s => (sizes.countP (fun x => decide (x < s)) : Int)) (fun s => by omega) (fun s => by rw [below]; omega) (fun s => ?_) 31 0 1 1 (.inl rfl)
  have := List.countP_le_length (p := fun x => decide (x < s)) (l := sizes)
  omega
end
/- the law -/
theorem begins_tells {w v : List Int} (hw : w.length ≤ 30) (hv : v.length ≤ 30) : Tells (r24_Begins w v) (∃ T, w = v ++ T) := by
  unfold r24_Begins
  by_cases c : (w.length : Int) < v.length
  · rw [if_pos (decide_eq_true c)]
    refine Tells.of ⟨fun h => (by cases h), fun ⟨T, h⟩ => ?_⟩
    rw [h, List.length_append] at c; omega
  · rw [if_neg (by simpa using c), G_pos (by omega)]
    have ec : cut w 0 v.length = w.take v.length := by unfold cut; simp
    refine ⟨decide (cut w 0 v.length = v), bind_to (r1_Words_spec (by rw [ec, List.length_take]; omega)) rfl, ?_⟩
    rw [decide_eq_true_iff, ec]
    constructor
    · intro h; exact ⟨w.drop v.length, by conv => lhs; rw [← List.take_append_drop v.length w, h]⟩
    · rintro ⟨T, rfl⟩; simp
section
variable {L : Int} {sizes : List Int}
theorem apart_spec {l : List (List Int)} (hl : l.length ≤ 20) (hs : ∀ i : Int, 0 ≤ i → i < l.length → (ix l i).length ≤ 30)
    (h : ∀ i k : Int, 0 ≤ i → i < l.length → 0 ≤ k → k < l.length → i ≠ k → Less (ix l i) (ix l k) ∨ Less (ix l k) (ix l i)) : r24_Apart l = some true := by
  unfold r24_Apart
  refine scan_to (len := (l.length : Int)) (bad := fun _ => False) (by omega) (fun i i0 i1 => ⟨fun hb => hb.elim, fun _ => ?_⟩) (fun _ => ?_)
  · conv => lhs; rw [r24_Apart_L2_eq]; unfold r24_Apart_L2_B
    rw [if_pos (by simp only [decide_eq_true_eq]; omega)]
    refine scan_to (len := (l.length : Int)) (bad := fun _ => False) (by omega) (fun k k0 k1 => ⟨fun hb => hb.elim, fun _ => ?_⟩) (fun _ => ?_)
    · conv => lhs; rw [r24_Apart_L5_eq]; unfold r24_Apart_L5_B
      rw [if_pos (by simp only [decide_eq_true_eq]; omega), G_pos (by omega), G_pos (by omega)]
      obtain ⟨b, e, hb⟩ := begins_tells (hs i i0 i1) (hs k k0 k1)
      refine bind_to e ?_
      by_cases c : i = k
      · rw [if_neg (by simp [c]), G_pos (by unfold fits; omega)]
      · rw [if_pos (by simp [c]), if_neg (fun hb' => ?_), G_pos (by unfold fits; omega)]
        obtain ⟨T, hT⟩ := hb.1 hb'
        rcases h i k i0 i1 k0 k1 c with x | x
        · exact x.pre2 hT
        · exact x.pre1 hT
    · rw [r24_Apart_L5_eq]; unfold r24_Apart_L5_B
      rw [if_neg (by simp), G_pos (by unfold fits; omega)]
  · rw [r24_Apart_L2_eq]; unfold r24_Apart_L2_B
    rw [if_neg (by simp)]
def KBad (sizes : List Int) : Prop := ∃ n ∈ sizes, n < 1 ∨ 30 < n
theorem k1_tells (n : Int) : Tells (code_Kraft_1 n) (n < 1 ∨ 30 < n) := by
  unfold code_Kraft_1
  by_cases h : n < 1
  · rw [if_pos (decide_eq_true h)]; exact Tells.of (by simp [h])
  · rw [if_neg (by simpa using h)]; exact Tells.dec (by omega)
/-- The end of the law's looking. -/
theorem J8_end {no i : Int} {r8 : Int → Int → Option Bool} (hno : no ≠ 0) : law_CodeKraft_J8 L sizes false no [] no i r8 false = some true := by
  unfold law_CodeKraft_J8
  rw [if_neg (by decide), if_pos (by simpa using hno), if_pos (by simp), if_pos (by decide)]
  rfl
theorem L8_end {no i : Int} (hno : no ≠ 0) : law_CodeKraft_L8 L sizes false no [] no i = some true := by
  rw [law_CodeKraft_L8_eq]; unfold law_CodeKraft_L8_B
  split
  · rw [show decide (no = 0) = false from decide_eq_false hno]; exact J8_end hno
  · exact J8_end hno
end
theorem law_true (L : Int) (sizes : List Int) : law_CodeKraft L sizes = some true := by
  unfold law_CodeKraft
  by_cases c1 : L < 1 ∨ 4 < L
  · have e : code_Kraft L sizes = some (false, 2, []) := by
      unfold code_Kraft
      (try dsimp only); (repeat' first | (with_reducible refine G_to ?_ ?_; focus (first | omega | (unfold fits; omega) | (unfold room; (try simp only [List.length_append, List.length_cons, List.length_nil]); omega))) | (with_reducible refine both_to ?_ ?_) | (with_reducible refine itet_to ?_) | (with_reducible refine itef_to ?_) | (with_reducible refine ite_to (fun _ => ?_) (fun _ => ?_))) <;> try (exfalso; omega)
      all_goals rfl
    refine bind_to e ?_
    dsimp only
    have e3 : law_CodeKraft_J3 L sizes false 2 [] true = some true := by
      unfold law_CodeKraft_J3 law_CodeKraft_J6
      rw [if_pos rfl]; exact L8_end (by decide)
    by_cases h : L < 1
    · rw [if_pos (decide_eq_true h)]; exact e3
    · rw [if_neg (by simpa using h), show decide ((4 : Int) < L) = true from decide_eq_true (by omega)]; exact e3
  have hL : 1 ≤ L ∧ L ≤ 4 := by omega
  by_cases c2 : sizes.length < 1 ∨ 20 < sizes.length
  · have e : code_Kraft L sizes = some (false, 1, []) := by
      unfold code_Kraft
      (try dsimp only); (repeat' first | (with_reducible refine G_to ?_ ?_; focus (first | omega | (unfold fits; omega) | (unfold room; (try simp only [List.length_append, List.length_cons, List.length_nil]); omega))) | (with_reducible refine both_to ?_ ?_) | (with_reducible refine itet_to ?_) | (with_reducible refine itef_to ?_) | (with_reducible refine ite_to (fun _ => ?_) (fun _ => ?_))) <;> try (exfalso; omega)
      all_goals rfl
    refine bind_to e ?_
    dsimp only
    rw [if_neg (by simp only [decide_eq_true_eq]; omega), show decide ((4 : Int) < L) = false from decide_eq_false (by omega)]
    unfold law_CodeKraft_J3 law_CodeKraft_J6
    rw [if_neg (by decide)]
    by_cases h : (sizes.length : Int) < 1
    · rw [if_pos (decide_eq_true h)]; exact L8_end (by decide)
    · rw [if_neg (by simpa using h), if_pos (by simp only [decide_eq_true_eq]; omega)]; exact L8_end (by decide)
  have hn : 1 ≤ sizes.length ∧ sizes.length ≤ 20 := by omega
  obtain ⟨b, hb, hb2⟩ : ∃ b, slices_ContainsFunc sizes = some b ∧ (b = true ↔ KBad sizes) :=
    contains_tells (f := code_Kraft_1) (slices_IndexFunc_L2_eq sizes) (by omega) (fun x _ => k1_tells x)
  -- the law, from the program's answer
  have law : ∀ (is : Bool) (e : Int) (l : List (List Int)), (∀ i : Int, law_CodeKraft_L8 L sizes is e l 0 0 = some true) → code_Kraft L sizes = some (is, e, l) → ((code_Kraft L sizes).bind fun y => if (decide (L < (1 : Int))) = true then law_CodeKraft_J3 L sizes y.1 y.2.1 y.2.2 true else law_CodeKraft_J3 L sizes y.1 y.2.1 y.2.2 (decide ((4 : Int) < L))) = some true := by
    intro is e l h1 h2
    refine bind_to h2 ?_
    dsimp only
    rw [if_neg (by simp only [decide_eq_true_eq]; omega), show decide ((4 : Int) < L) = false from decide_eq_false (by omega)]
    unfold law_CodeKraft_J3 law_CodeKraft_J6
    rw [if_neg (by decide), if_neg (by simp only [decide_eq_true_eq]; omega), if_neg (by simp only [decide_eq_true_eq]; omega)]
    exact h1 0
  have start : code_Kraft L sizes = if b = true then some (false, 2, []) else code_Kraft_L9 L sizes 0 (List.replicate sizes.length 0) := by
    have hmk : mkOK sizes.length sizes.length 8 := by unfold mkOK; omega
    unfold code_Kraft
    rw [if_neg (by simp only [decide_eq_true_eq]; omega), if_neg (by simp only [decide_eq_true_eq]; omega), if_neg (by simp only [decide_eq_true_eq]; omega), if_neg (by simp only [decide_eq_true_eq]; omega)]
    refine bind_to hb ?_
    rw [G_pos hmk, Int.toNat_natCast]
  by_cases c3 : KBad sizes
  · have e : code_Kraft L sizes = some (false, 2, []) := by rw [start, if_pos (hb2.2 c3)]
    refine law _ _ _ (fun _ => ?_) e
    refine scan_to (len := (sizes.length : Int)) (bad := fun i => ix sizes i < 1 ∨ 30 < ix sizes i) (by omega) (fun i i0 i1 => ⟨fun hb => ?_, fun hb => ?_⟩) (fun hh => ?_)
    · rw [law_CodeKraft_L8_eq]; unfold law_CodeKraft_L8_B law_CodeKraft_J8 law_CodeKraft_J8_1
      rw [if_pos (by simp only [decide_eq_true_eq]; omega), if_pos (by decide), G_pos (by omega)]
      by_cases h : ix sizes i < 1
      · rw [if_pos (decide_eq_true h), G_pos (by unfold fits; omega)]; exact L8_end (by decide)
      · rw [if_neg (by simpa using h), G_pos (by omega), if_pos (by simp only [decide_eq_true_eq]; omega), G_pos (by unfold fits; omega)]; exact L8_end (by decide)
    · conv => lhs; rw [law_CodeKraft_L8_eq]; unfold law_CodeKraft_L8_B law_CodeKraft_J8 law_CodeKraft_J8_1
      rw [if_pos (by simp only [decide_eq_true_eq]; omega), if_pos (by decide), G_pos (by omega), if_neg (by simp only [decide_eq_true_eq]; omega), G_pos (by omega), if_neg (by simp only [decide_eq_true_eq]; omega), G_pos (by unfold fits; omega)]
    · obtain ⟨i, i0, i1, i2⟩ := ex_ix.1 c3; exact absurd i2 (hh i i0 i1)
  · have hdom : ∀ i : Int, 0 ≤ i → i < sizes.length → 1 ≤ ix sizes i ∧ ix sizes i ≤ 30 := fun i i0 i1 => by
      have : ¬ (ix sizes i < 1 ∨ 30 < ix sizes i) := fun h => c3 (ex_ix.2 ⟨i, i0, i1, h⟩)
      omega
    have dom : Dom sizes (iota sizes.length) := fun x hx => by
      unfold iota at hx
      rw [List.mem_map] at hx
      obtain ⟨k, hk, e⟩ := hx
      rw [List.mem_range] at hk
      omega
    obtain ⟨o, eo, hp, hs⟩ := sort_spec (c := sizes) (data := iota sizes.length) (by rw [iota_len]; omega) (by rw [iota_len]; omega) dom
    rw [iota_len] at hs
    have ok : Okay L sizes o := ⟨hL, hn, hdom, hp, hs⟩
    have hmk : mkOK sizes.length sizes.length 24 := by unfold mkOK; omega
    have run : code_Kraft L sizes = code_Kraft_L17 L sizes o true 0 (List.replicate sizes.length []) [] := by
      rw [start, if_neg (fun h => c3 (hb2.1 h)), L9_spec (data := []) hn _ 0 _ rfl (by omega) (by omega) (by rw [List.length_replicate]) (fun p p0 p1 => by omega)]
      rw [code_Kraft_L9_eq]; unfold code_Kraft_L9_B
      rw [if_neg (by simp), eo]
      refine bind_to rfl ?_
      rw [G_pos hmk, Int.toNat_natCast]
    have hroom := r24_Kraft_spec hL hn.2 ok
    have pass : ∀ (is : Bool) (l : List (List Int)), krem L (o.map (ix sizes)) 0 1 = is → (is = false → l = []) → (is = true → Good L sizes l) → law_CodeKraft_L8 L sizes is 0 l 0 0 = some true := by
      intro is l hk h1 h2
      refine scan_to (len := (sizes.length : Int)) (bad := fun _ => False) (by omega) (fun i i0 i1 => ⟨fun hb => hb.elim, fun _ => ?_⟩) (fun _ => ?_)
      · have hd := hdom i i0 i1
        conv => lhs; rw [law_CodeKraft_L8_eq]; unfold law_CodeKraft_L8_B law_CodeKraft_J8 law_CodeKraft_J8_1
        rw [if_pos (by simp only [decide_eq_true_eq]; omega), if_pos (by decide), G_pos (by omega), if_neg (by simp only [decide_eq_true_eq]; omega), G_pos (by omega), if_neg (by simp only [decide_eq_true_eq]; omega), G_pos (by unfold fits; omega)]
      · rw [law_CodeKraft_L8_eq]; unfold law_CodeKraft_L8_B law_CodeKraft_J8
        rw [if_neg (by simp), if_neg (by decide), if_neg (by decide)]
        refine bind_to hroom ?_
        rw [if_neg (by decide), hk, if_neg (by simp)]
        cases is with
        | false => rw [if_pos (by decide), h1 rfl]; rfl
        | true =>
          have g := h2 rfl
          rw [if_neg (by decide), if_neg (by rw [g.len]; simp)]
          have hgl := g.len
          refine scan_to (len := (l.length : Int)) (bad := fun _ => False) (by omega) (fun i i0 i1 => ⟨fun hb => hb.elim, fun _ => ?_⟩) (fun _ => ?_)
          · have ge := g.each i i0 (by omega)
            have hd := hdom i i0 (by omega)
            conv => lhs; rw [law_CodeKraft_L22_eq]; unfold law_CodeKraft_L22_B
            rw [if_pos (by simp only [decide_eq_true_eq]; omega), G_pos (by omega), G_pos (by omega)]
            refine bind_to r1_May_spec ?_
            rw [mayE_ok hL (by omega) (fun j j0 j1 => ge.2 _ (ix_mem j0 j1)), if_neg (by decide), G_pos (by omega), G_pos (by omega), G_pos (by omega), if_neg (by simp [ge.1]), G_pos (by unfold fits; omega)]
          · rw [law_CodeKraft_L22_eq]; unfold law_CodeKraft_L22_B
            rw [if_neg (by simp)]
            refine bind_to (apart_spec (by omega) (fun i i0 i1 => ?_) (fun i k i0 i1 k0 k1 ne => g.two i k i0 (by omega) k0 (by omega) ne)) rfl
            have ge := (g.each i i0 (by omega)).1
            have hd := hdom i i0 (by omega)
            omega
    have len := ok.len
    rcases L17_spec ok _ 0 (List.replicate sizes.length []) [] true 1 rfl (by omega) (by omega) ⟨by rw [List.length_replicate], fun a ha => (by cases ha), fun q q0 q1 => (by
      have hq := ok.rng q0 q1
      have := hdom _ hq.1 hq.2
      unfold sz; simp only [List.length_nil]; omega), by simp, fun q q0 q1 => (by omega), fun p q p0 pq q1 => (by omega), fun _ => ⟨fun q q0 q1 => (by omega), rfl⟩, fun h => (by cases h)⟩ with ⟨k, l, e, g⟩ | ⟨k, e⟩
    · exact law true 0 l (fun _ => pass true l k (fun h => by cases h) (fun _ => g)) (run.trans e)
    · exact law false 0 [] (fun _ => pass false [] k (fun _ => rfl) (fun h => by cases h)) (run.trans e)

end Go.Proofs.Ytnijfahigmajjaa.codeKraftW
