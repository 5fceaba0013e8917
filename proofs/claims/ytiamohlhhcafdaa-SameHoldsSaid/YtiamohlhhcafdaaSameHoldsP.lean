/- The law 'SameHolds' of the plain functions. -/
import Derived.Test.YtiamohlhhcafdaaSameHoldsD
set_option maxHeartbeats 1000000
set_option maxRecDepth 20000
set_option linter.unusedSimpArgs false
set_option linter.unusedVariables false
namespace Go.Proofs.Ytiamohlhhcafdaa.sameHoldsW
open Go Go.Ab
/-- The answer is yes just if P. -/
def Tells (o : Option Bool) (P : Prop) : Prop := ∃ b, o = some b ∧ (b = true ↔ P)
theorem Tells.of {b : Bool} {P : Prop} (h : b = true ↔ P) : Tells (some b) P := ⟨b, rfl, h⟩
theorem Tells.dec {P Q : Prop} [Decidable P] (h : P ↔ Q) : Tells (some (decide P)) Q := ⟨_, rfl, by simpa using h⟩
theorem Tells.iff {o : Option Bool} {P Q : Prop} (h : Tells o P) (k : P ↔ Q) : Tells o Q := let ⟨b, h1, h2⟩ := h; ⟨b, h1, h2.trans k⟩
theorem Tells.eq {o : Option Bool} {P : Prop} [Decidable P] (h : Tells o P) : o = some (decide P) := by
  obtain ⟨b, rfl, hb⟩ := h
  by_cases hp : P
  · simp [hp, hb.2 hp]
  · have : b = false := by cases b; rfl; exact absurd (hb.1 rfl) hp
    simp [hp, this]
theorem Tells.to {R : Type} {o : Option Bool} {P : Prop} {k1 k2 x : Option R} (h : Tells o P) (h1 : P → k1 = x) (h2 : ¬ P → k2 = x) : (o.bind fun y => if y = true then k1 else k2) = x := by
  obtain ⟨b, rfl, hb⟩ := h
  refine bind_to rfl ?_
  cases b
  · exact h2 fun hp => by simpa using hb.2 hp
  · exact h1 (hb.1 rfl)
theorem Tells.bind {R : Type} {o : Option Bool} {P : Prop} {k : Bool → Option R} {x : Option R} (h : Tells o P) (h1 : ∀ b, (b = true ↔ P) → k b = x) : o.bind k = x := by
  obtain ⟨b, rfl, hb⟩ := h
  exact h1 b hb
section
variable {α C : Type} [Inhabited α]
theorem ex_ix {l : List α} {P : α → Prop} : (∃ x ∈ l, P x) ↔ ∃ i : Int, 0 ≤ i ∧ i < l.length ∧ P (ix l i) := by
  constructor
  · rintro ⟨x, hx, hp⟩
    obtain ⟨i, hi, rfl⟩ := List.mem_iff_getElem.1 hx
    refine ⟨i, by omega, by omega, ?_⟩
    rwa [ix_eq (by omega) (by omega)]
  · rintro ⟨i, h0, h1, hp⟩
    exact ⟨_, ix_mem h0 h1, hp⟩
theorem index_loop {s : List α} {f : α → Option Bool} {L : Int → Option Int} {P : α → Prop} (hs : s.length ≤ 4611686018427387904)
    (hL : ∀ t, L t = if decide (t < (s.length : Int)) = true then G (0 ≤ t ∧ t < (s.length : Int)) ((f (ix s t)).bind fun y => if y = true then some t else G (fits (t + 1)) (L (t + 1))) else some (-1))
    (hf : ∀ x ∈ s, Tells (f x) (P x)) : ∀ (n : Nat) (t : Int), 0 ≤ t → t ≤ s.length → (s.length - t).toNat = n →
      ∃ i, L t = some i ∧ ((i = -1 ∧ ∀ j : Int, t ≤ j → j < s.length → ¬ P (ix s j)) ∨ (t ≤ i ∧ i < s.length ∧ P (ix s i) ∧ ∀ j : Int, t ≤ j → j < i → ¬ P (ix s j))) := by
  intro n
  induction n with
  | zero =>
    intro t h0 h1 hn
    refine ⟨-1, ?_, .inl ⟨rfl, fun j a b => by omega⟩⟩
    rw [hL, if_neg (by simp; omega)]
  | succ n ih =>
    intro t h0 h1 hn
    rw [hL, if_pos (by simp; omega), G_pos (by omega)]
    obtain ⟨b, hb, hbp⟩ := hf _ (ix_mem h0 (by omega : t < s.length))
    rw [hb]
    cases b with
    | true => exact ⟨t, rfl, .inr ⟨by omega, by omega, hbp.1 rfl, fun j a b => by omega⟩⟩
    | false =>
      have hnp : ¬ P (ix s t) := fun hp => by simpa using hbp.2 hp
      obtain ⟨i, hi, hc⟩ := ih (t + 1) (by omega) (by omega) (by omega)
      refine ⟨i, ?_, ?_⟩
      · refine (if_neg (by simp) : (if false = true then some t else G (fits (t + 1)) (L (t + 1))) = _).trans ?_
        rw [G_pos (by unfold fits; omega), hi]
      · rcases hc with ⟨h2, h3⟩ | ⟨h2, h3, h4, h5⟩
        · refine .inl ⟨h2, fun j a b => ?_⟩
          by_cases e : j = t
          · rw [e]; exact hnp
          · exact h3 j (by omega) b
        · refine .inr ⟨by omega, h3, h4, fun j a b => ?_⟩
          by_cases e : j = t
          · rw [e]; exact hnp
          · exact h5 j (by omega) b
theorem contains_tells {s : List α} {f : α → Option Bool} {L : Int → Option Int} {P : α → Prop}
    (hL : ∀ t, L t = if decide (t < (s.length : Int)) = true then G (0 ≤ t ∧ t < (s.length : Int)) ((f (ix s t)).bind fun y => if y = true then some t else G (fits (t + 1)) (L (t + 1))) else some (-1))
    (hs : s.length ≤ 4611686018427387904) (hf : ∀ x ∈ s, Tells (f x) (P x)) : Tells ((L 0).bind fun y => some (decide ((0 : Int) ≤ y))) (∃ x ∈ s, P x) := by
  obtain ⟨i, hi, hc⟩ := index_loop hs hL hf _ 0 (by omega) (by omega) rfl
  rw [hi]
  refine ⟨decide (0 ≤ i), rfl, ?_⟩
  rw [decide_eq_true_iff, ex_ix]
  rcases hc with ⟨h2, h3⟩ | ⟨h2, h3, h4, h5⟩
  · constructor
    · intro h; omega
    · rintro ⟨j, h0, h1, hp⟩; exact absurd hp (h3 j h0 h1)
  · exact ⟨fun _ => ⟨i, by omega, h3, h4⟩, fun _ => by omega⟩
/-- .. of what carries along what it reads. -/
theorem contains_tells2 {s : List α} {c : C} {f : α → C → Option (Bool × C)} {L : Int → C → Option (Int × C)} {P : α → Prop}
    (hL : ∀ t c, L t c = if decide (t < (s.length : Int)) = true then G (0 ≤ t ∧ t < (s.length : Int)) ((f (ix s t) c).bind fun y => if y.1 = true then some (t, y.2) else G (fits (t + 1)) (L (t + 1) y.2)) else some (-1, c))
    (hs : s.length ≤ 4611686018427387904) (hf : ∀ x ∈ s, ∃ b, f x c = some (b, c) ∧ (b = true ↔ P x)) : ∃ b, ((L 0 c).bind fun y => some (decide ((0 : Int) ≤ y.1), y.2)) = some (b, c) ∧ (b = true ↔ ∃ x ∈ s, P x) := by
  have key : ∀ (n : Nat) (t : Int), 0 ≤ t → t ≤ s.length → (s.length - t).toNat = n →
      ∃ i, L t c = some (i, c) ∧ ((i = -1 ∧ ∀ j : Int, t ≤ j → j < s.length → ¬ P (ix s j)) ∨ (t ≤ i ∧ i < s.length ∧ P (ix s i))) := by
    intro n
    induction n with
    | zero =>
      intro t h0 h1 hn
      refine ⟨-1, ?_, .inl ⟨rfl, fun j a b => by omega⟩⟩
      rw [hL, if_neg (by simp; omega)]
    | succ n ih =>
      intro t h0 h1 hn
      rw [hL, if_pos (by simp; omega), G_pos (by omega)]
      obtain ⟨b, hb, hbp⟩ := hf _ (ix_mem h0 (by omega : t < s.length))
      rw [hb]
      cases b with
      | true => exact ⟨t, rfl, .inr ⟨by omega, by omega, hbp.1 rfl⟩⟩
      | false =>
        have hnp : ¬ P (ix s t) := fun hp => by simpa using hbp.2 hp
        obtain ⟨i, hi, hc⟩ := ih (t + 1) (by omega) (by omega) (by omega)
        refine ⟨i, ?_, ?_⟩
        · refine (if_neg (by simp) : (if false = true then some (t, c) else G (fits (t + 1)) (L (t + 1) c)) = _).trans ?_
          rw [G_pos (by unfold fits; omega), hi]
        · rcases hc with ⟨h2, h3⟩ | ⟨h2, h3, h4⟩
          · refine .inl ⟨h2, fun j a b => ?_⟩
            by_cases e : j = t
            · rw [e]; exact hnp
            · exact h3 j (by omega) b
          · exact .inr ⟨by omega, h3, h4⟩
  obtain ⟨i, hi, hc⟩ := key _ 0 (by omega) (by omega) rfl
  rw [hi]
  refine ⟨decide (0 ≤ i), rfl, ?_⟩
  rw [decide_eq_true_iff, ex_ix]
  rcases hc with ⟨h2, h3⟩ | ⟨h2, h3, h4⟩
  · constructor
    · intro h; omega
    · rintro ⟨j, h0, h1, hp⟩; exact absurd hp (h3 j h0 h1)
  · exact ⟨fun _ => ⟨i, by omega, h3, h4⟩, fun _ => by omega⟩
end
/-- A loop that looks for the first fault. -/
theorem scan_to {R : Type} {len : Int} {L : Int → Option R} {bad : Int → Prop} {x : Option R} {lo : Int} (h0 : lo ≤ len)
    (hs : ∀ t, lo ≤ t → t < len → (bad t → L t = x) ∧ (¬ bad t → L t = L (t + 1))) (hf : (∀ t, lo ≤ t → t < len → ¬ bad t) → L len = x) : L lo = x := by
  have key : ∀ (n : Nat) (t : Int), lo ≤ t → t ≤ len → (len - t).toNat = n → (∀ j, lo ≤ j → j < t → ¬ bad j) → L t = x := by
    intro n
    induction n with
    | zero =>
      intro t h1 h2 hn h
      obtain rfl : t = len := by omega
      exact hf h
    | succ n ih =>
      intro t h1 h2 hn h
      by_cases hb : bad t
      · exact (hs t h1 (by omega)).1 hb
      · rw [(hs t h1 (by omega)).2 hb]
        refine ih (t + 1) (by omega) (by omega) (by omega) fun j a b => ?_
        by_cases e : j = t
        · rw [e]; exact hb
        · exact h j a (by omega)
  exact key _ lo (Int.le_refl _) h0 rfl (fun j a b => by omega)
/-- A loop that counts, with a state. -/
theorem fold_to {R S : Type} {len : Int} {L : Int → S → Option R} {f : Int → S → S} {lo : Int} {I : Int → S → Prop} {s : S} (h0 : lo ≤ len) (hI : I lo s)
    (hs : ∀ t s, lo ≤ t → t < len → I t s → L t s = L (t + 1) (f t s) ∧ I (t + 1) (f t s)) : ∃ s', I len s' ∧ L lo s = L len s' := by
  have key : ∀ (n : Nat) (t : Int) (s : S), lo ≤ t → t ≤ len → (len - t).toNat = n → I t s → ∃ s', I len s' ∧ L t s = L len s' := by
    intro n
    induction n with
    | zero =>
      intro t s h1 h2 hn h
      obtain rfl : t = len := by omega
      exact ⟨s, h, rfl⟩
    | succ n ih =>
      intro t s h1 h2 hn h
      obtain ⟨e, h3⟩ := hs t s h1 (by omega) h
      obtain ⟨s', h4, h5⟩ := ih (t + 1) _ (by omega) (by omega) (by omega) h3
      exact ⟨s', h4, e.trans h5⟩
  exact key _ lo s (Int.le_refl _) h0 rfl hI

theorem r20_Bools_L4_spec {a b : List Bool} (hl : a.length = b.length) : ∀ (n : Nat) (i : Int), 0 ≤ i → i ≤ a.length → (a.length - i).toNat = n → a.length ≤ 2305843009213693951 → (∀ j : Int, 0 ≤ j → j < i → ix a j = ix b j) → r20_Bools_L4 a b i = some (decide (a = b)) := by
  intro n
  induction n with
  | zero =>
    intro i h0 h1 hn hs h
    rw [r20_Bools_L4_eq]; unfold r20_Bools_L4_B
    (try dsimp only); (repeat' first | (with_reducible refine G_to ?_ ?_; focus (first | omega | (unfold fits; omega) | (unfold room; (try simp only [List.length_append, List.length_cons, List.length_nil]); omega))) | (with_reducible refine both_to ?_ ?_) | (with_reducible refine itet_to ?_) | (with_reducible refine itef_to ?_) | (with_reducible refine ite_to (fun _ => ?_) (fun _ => ?_))) <;> try (exfalso; omega)
    · rw [Option.some_inj, eq_comm, decide_eq_true_iff]; exact ix_ext hl (fun j a b => h j a (by omega))
  | succ n ih =>
    intro i h0 h1 hn hs h
    rw [r20_Bools_L4_eq]; unfold r20_Bools_L4_B
    (try dsimp only); (repeat' first | (with_reducible refine G_to ?_ ?_; focus (first | omega | (unfold fits; omega) | (unfold room; (try simp only [List.length_append, List.length_cons, List.length_nil]); omega))) | (with_reducible refine both_to ?_ ?_) | (with_reducible refine itet_to ?_) | (with_reducible refine itef_to ?_) | (with_reducible refine ite_to (fun _ => ?_) (fun _ => ?_))) <;> try (exfalso; omega)
    · rw [Option.some_inj, eq_comm, decide_eq_false_iff_not]; rintro rfl; contradiction
    · rename_i hx; exact ih _ (by omega) (by omega) (by omega) hs (below_succ h (Decidable.not_not.1 hx))
theorem r20_Bools_spec {a b : List Bool} (hs : a.length ≤ 2305843009213693951) : r20_Bools a b = some (decide (a = b)) := by
  unfold r20_Bools
  (try dsimp only); (repeat' first | (with_reducible refine G_to ?_ ?_; focus (first | omega | (unfold fits; omega) | (unfold room; (try simp only [List.length_append, List.length_cons, List.length_nil]); omega))) | (with_reducible refine both_to ?_ ?_) | (with_reducible refine itet_to ?_) | (with_reducible refine itef_to ?_) | (with_reducible refine ite_to (fun _ => ?_) (fun _ => ?_))) <;> try (exfalso; omega)
  · rw [Option.some_inj, eq_comm, decide_eq_false_iff_not]; rintro rfl; contradiction
  · exact r20_Bools_L4_spec (by omega) _ 0 (by omega) (by omega) rfl hs (fun j a b => by omega)

abbrev Arc := Int × Int × Int × Unit
abbrev Gr := Int × Int × (List Arc) × Unit
abbrev Mv := Int × Int × Int × Int × Unit
def SLt (x y : Arc) : Prop := x.1 < y.1 ∨ x.1 = y.1 ∧ (x.2.1 < y.2.1 ∨ x.2.1 = y.2.1 ∧ x.2.2.1 < y.2.2.1)
def GLet (g : Gr) : Prop := g.1 < 1 ∨ 4 < g.1
def GSize (g : Gr) : Prop := g.2.1 < 1 ∨ 12 < g.2.1 ∨ 60 < g.2.2.1.length
def ABad (g : Gr) (x : Arc) : Prop := x.1 < 0 ∨ g.2.1 ≤ x.1 ∨ x.2.2.1 < 0 ∨ g.2.1 ≤ x.2.2.1 ∨ x.2.1 < 0 ∨ g.1 ≤ x.2.1
def GBad (g : Gr) : Prop := ∃ x ∈ g.2.2.1, ABad g x
def GOrd (g : Gr) : Prop := ∃ i : Int, 1 ≤ i ∧ i < g.2.2.1.length ∧ ¬ SLt (ix g.2.2.1 (i - 1)) (ix g.2.2.1 i)
open Classical in
noncomputable def grE (g : Gr) : Int := if GLet g then 2 else if GSize g then 1 else if GBad g then 2 else if GOrd g then 3 else 0
theorem chk1 (p : Int) (g : Gr) : Tells (same_Check_1 p g) (p < 0 ∨ g.2.1 ≤ p) := by
  unfold same_Check_1
  by_cases h : p < 0
  · rw [if_pos (decide_eq_true h)]; exact Tells.of (by simp [h])
  · rw [if_neg (by simpa using h)]; exact Tells.dec (by omega)
theorem chk2 (x : Arc) (g : Gr) : ∃ b, same_Check_2 x g g = some (b, g) ∧ (b = true ↔ ABad g x) := by
  unfold same_Check_2 ABad
  obtain ⟨b, e, hb⟩ := chk1 x.1 g
  obtain ⟨c, e2, hc⟩ := chk1 x.2.2.1 g
  rw [e, e2]
  simp only [Option.bind_some]
  cases b with
  | true => exact ⟨true, rfl, by have := hb.1 rfl; simp; omega⟩
  | false =>
    have hb : ¬ (x.1 < 0 ∨ g.2.1 ≤ x.1) := fun h => by cases hb.2 h
    cases c with
    | true => exact ⟨true, rfl, by have := hc.1 rfl; simp; omega⟩
    | false =>
      have hc : ¬ (x.2.2.1 < 0 ∨ g.2.1 ≤ x.2.2.1) := fun h => by cases hc.2 h
      by_cases h : x.2.1 < 0
      · exact ⟨true, by simp [h], by simp; omega⟩
      · exact ⟨decide (g.1 ≤ x.2.1), by simp [h], by rw [decide_eq_true_iff]; omega⟩
theorem cmp_spec (x y : Int) : cmp_Compare x y = some (if x < y then -1 else if y < x then 1 else 0) := by
  unfold cmp_Compare cmp_isNaN
  simp only [Option.bind_some, not_true, decide_false, Bool.false_eq_true, if_false, decide_eq_true_eq]
  by_cases h : x < y
  · simp [h]
  · by_cases h2 : y < x <;> simp [h, h2]
theorem or_spec (a b c : Int) : cmp_Or [a, b, c] = some (if a ≠ 0 then a else if b ≠ 0 then b else c) := by
  unfold cmp_Or
  rw [cmp_Or_L3_eq]; unfold cmp_Or_L3_B
  have e0 : ix [a, b, c] 0 = a := rfl
  have e1 : ix [a, b, c] (0 + 1) = b := rfl
  have e2 : ix [a, b, c] (0 + 1 + 1) = c := rfl
  rw [if_pos (by simp), G_pos (by simp), e0]
  by_cases h : a = 0
  · rw [if_neg (by simp [h]), G_pos (by decide), cmp_Or_L3_eq]; unfold cmp_Or_L3_B
    rw [if_pos (by simp), G_pos (by simp), e1]
    by_cases h2 : b = 0
    · rw [if_neg (by simp [h2]), G_pos (by decide), cmp_Or_L3_eq]; unfold cmp_Or_L3_B
      rw [if_pos (by simp), G_pos (by simp), e2]
      by_cases h3 : c = 0
      · rw [if_neg (by simp [h3]), G_pos (by decide), cmp_Or_L3_eq]; unfold cmp_Or_L3_B
        rw [if_neg (by simp)]
        simp [h, h2, h3]
      · rw [if_pos (by simp [h3])]; simp [h, h2]
    · rw [if_pos (by simp [h2])]; simp [h, h2]
  · rw [if_pos (by simp [h])]; simp [h]
theorem order_spec (x y : Arc) : ∃ o, same_order x y = some o ∧ (0 ≤ o ↔ ¬ SLt x y) := by
  unfold same_order SLt
  rw [cmp_spec, cmp_spec, cmp_spec]
  simp only [Option.bind_some]
  rw [or_spec]
  refine ⟨_, rfl, ?_⟩
  repeat' split
  all_goals omega
theorem ahead_tells (x y : Arc) : Tells (r20_Ahead x y) (SLt x y) := by
  unfold r20_Ahead SLt
  by_cases h : x.1 = y.1
  · rw [if_neg (by simp [h])]
    by_cases h2 : x.2.1 = y.2.1
    · rw [if_neg (by simp [h2])]; exact Tells.dec (by omega)
    · rw [if_pos (by simp [h2])]; exact Tells.dec (by omega)
  · rw [if_pos (by simp [h])]; exact Tells.dec (by omega)
section
variable {g : Gr}
theorem same_Check_spec : same_Check g = some (grE g) := by
  unfold same_Check grE
  by_cases c1 : GLet g
  · rw [if_pos c1]; unfold GLet at c1
    (try dsimp only); (repeat' first | (with_reducible refine G_to ?_ ?_; focus (first | omega | (unfold fits; omega) | (unfold room; (try simp only [List.length_append, List.length_cons, List.length_nil]); omega))) | (with_reducible refine both_to ?_ ?_) | (with_reducible refine itet_to ?_) | (with_reducible refine itef_to ?_) | (with_reducible refine ite_to (fun _ => ?_) (fun _ => ?_))) <;> try (exfalso; omega)
    all_goals rfl
  rw [if_neg c1]; unfold GLet at c1
  by_cases c2 : GSize g
  · rw [if_pos c2]; unfold GSize at c2
    (try dsimp only); (repeat' first | (with_reducible refine G_to ?_ ?_; focus (first | omega | (unfold fits; omega) | (unfold room; (try simp only [List.length_append, List.length_cons, List.length_nil]); omega))) | (with_reducible refine both_to ?_ ?_) | (with_reducible refine itet_to ?_) | (with_reducible refine itef_to ?_) | (with_reducible refine ite_to (fun _ => ?_) (fun _ => ?_))) <;> try (exfalso; omega)
    all_goals rfl
  rw [if_neg c2]; unfold GSize at c2
  (try dsimp only); (repeat' first | (with_reducible refine G_to ?_ ?_; focus (first | omega | (unfold fits; omega) | (unfold room; (try simp only [List.length_append, List.length_cons, List.length_nil]); omega))) | (with_reducible refine both_to ?_ ?_) | (with_reducible refine itet_to ?_) | (with_reducible refine itef_to ?_) | (with_reducible refine ite_to (fun _ => ?_) (fun _ => ?_))) <;> try (exfalso; omega)
  obtain ⟨b, hb, hb2⟩ : ∃ b, slices_ContainsFunc g.2.2.1 g g = some (b, g) ∧ (b = true ↔ GBad g) :=
    contains_tells2 (f := fun x c => same_Check_2 x g c) (slices_IndexFunc_L2_eq g.2.2.1 g) (by omega) (fun x _ => chk2 x g)
  refine bind_to hb ?_
  refine iteb_to (fun h => by rw [if_pos (hb2.1 h)]) (fun h2 => ?_)
  have c3 : ¬ GBad g := fun h => by rw [hb2.2 h] at h2; cases h2
  rw [if_neg c3]
  refine scan_to (len := (g.2.2.1.length : Int)) (bad := fun i => 1 ≤ i ∧ ¬ SLt (ix g.2.2.1 (i - 1)) (ix g.2.2.1 i)) (by omega) (fun i h0 h1 => ⟨fun hb => ?_, fun hb => ?_⟩) (fun hh => ?_)
  · rw [if_pos (show GOrd g from ⟨i, hb.1, h1, hb.2⟩)]
    rw [same_Check_L9_eq]; unfold same_Check_L9_B
    (try dsimp only); (repeat' first | (with_reducible refine G_to ?_ ?_; focus (first | omega | (unfold fits; omega) | (unfold room; (try simp only [List.length_append, List.length_cons, List.length_nil]); omega))) | (with_reducible refine both_to ?_ ?_) | (with_reducible refine itet_to ?_) | (with_reducible refine itef_to ?_) | (with_reducible refine ite_to (fun _ => ?_) (fun _ => ?_))) <;> try (exfalso; omega)
    obtain ⟨o, e, ho⟩ := order_spec (ix g.2.2.1 (i - 1)) (ix g.2.2.1 i)
    refine bind_to e ?_
    rw [if_pos (decide_eq_true (ho.2 hb.2))]
  · conv => lhs; rw [same_Check_L9_eq]; unfold same_Check_L9_B
    by_cases h : 0 < i
    · (try dsimp only); (repeat' first | (with_reducible refine G_to ?_ ?_; focus (first | omega | (unfold fits; omega) | (unfold room; (try simp only [List.length_append, List.length_cons, List.length_nil]); omega))) | (with_reducible refine both_to ?_ ?_) | (with_reducible refine itet_to ?_) | (with_reducible refine itef_to ?_) | (with_reducible refine ite_to (fun _ => ?_) (fun _ => ?_))) <;> try (exfalso; omega)
      obtain ⟨o, e, ho⟩ := order_spec (ix g.2.2.1 (i - 1)) (ix g.2.2.1 i)
      refine bind_to e ?_
      rw [if_neg (by rw [decide_eq_true_iff, ho]; exact fun h => hb ⟨by omega, h⟩), G_pos (by unfold fits; omega)]
    · (try dsimp only); (repeat' first | (with_reducible refine G_to ?_ ?_; focus (first | omega | (unfold fits; omega) | (unfold room; (try simp only [List.length_append, List.length_cons, List.length_nil]); omega))) | (with_reducible refine both_to ?_ ?_) | (with_reducible refine itet_to ?_) | (with_reducible refine itef_to ?_) | (with_reducible refine ite_to (fun _ => ?_) (fun _ => ?_))) <;> try (exfalso; omega)
      all_goals rfl
  · rw [if_neg (show ¬ GOrd g from fun ⟨i, i0, i1, i2⟩ => hh i (by omega) i1 ⟨i0, i2⟩)]
    rw [same_Check_L9_eq]; unfold same_Check_L9_B
    rw [if_neg (by simp)]
theorem r20_Check_spec : r20_Check g = some (grE g) := by
  unfold r20_Check grE
  by_cases c1 : GLet g
  · rw [if_pos c1]; unfold GLet at c1
    (try dsimp only); (repeat' first | (with_reducible refine G_to ?_ ?_; focus (first | omega | (unfold fits; omega) | (unfold room; (try simp only [List.length_append, List.length_cons, List.length_nil]); omega))) | (with_reducible refine both_to ?_ ?_) | (with_reducible refine itet_to ?_) | (with_reducible refine itef_to ?_) | (with_reducible refine ite_to (fun _ => ?_) (fun _ => ?_))) <;> try (exfalso; omega)
    all_goals rfl
  rw [if_neg c1]; unfold GLet at c1
  by_cases c2 : GSize g
  · rw [if_pos c2]; unfold GSize at c2
    (try dsimp only); (repeat' first | (with_reducible refine G_to ?_ ?_; focus (first | omega | (unfold fits; omega) | (unfold room; (try simp only [List.length_append, List.length_cons, List.length_nil]); omega))) | (with_reducible refine both_to ?_ ?_) | (with_reducible refine itet_to ?_) | (with_reducible refine itef_to ?_) | (with_reducible refine ite_to (fun _ => ?_) (fun _ => ?_))) <;> try (exfalso; omega)
    all_goals rfl
  rw [if_neg c2]; unfold GSize at c2
  (try dsimp only); (repeat' first | (with_reducible refine G_to ?_ ?_; focus (first | omega | (unfold fits; omega) | (unfold room; (try simp only [List.length_append, List.length_cons, List.length_nil]); omega))) | (with_reducible refine both_to ?_ ?_) | (with_reducible refine itet_to ?_) | (with_reducible refine itef_to ?_) | (with_reducible refine ite_to (fun _ => ?_) (fun _ => ?_))) <;> try (exfalso; omega)
  refine scan_to (len := (g.2.2.1.length : Int)) (bad := fun i => ABad g (ix g.2.2.1 i)) (by omega) (fun i h0 h1 => ⟨fun hb => ?_, fun hb => ?_⟩) (fun hh => ?_)
  · rw [if_pos (show GBad g from ex_ix.2 ⟨i, h0, h1, hb⟩)]
    rw [r20_Check_L6_eq]; unfold r20_Check_L6_B
    unfold ABad at hb
    (try dsimp only); (repeat' first | (with_reducible refine G_to ?_ ?_; focus (first | omega | (unfold fits; omega) | (unfold room; (try simp only [List.length_append, List.length_cons, List.length_nil]); omega))) | (with_reducible refine both_to ?_ ?_) | (with_reducible refine itet_to ?_) | (with_reducible refine itef_to ?_) | (with_reducible refine ite_to (fun _ => ?_) (fun _ => ?_))) <;> try (exfalso; omega)
    all_goals rfl
  · conv => lhs; rw [r20_Check_L6_eq]; unfold r20_Check_L6_B
    unfold ABad at hb
    (try dsimp only); (repeat' first | (with_reducible refine G_to ?_ ?_; focus (first | omega | (unfold fits; omega) | (unfold room; (try simp only [List.length_append, List.length_cons, List.length_nil]); omega))) | (with_reducible refine both_to ?_ ?_) | (with_reducible refine itet_to ?_) | (with_reducible refine itef_to ?_) | (with_reducible refine ite_to (fun _ => ?_) (fun _ => ?_))) <;> try (exfalso; omega)
    all_goals rfl
  rw [if_neg (show ¬ GBad g from fun h => by obtain ⟨i, i0, i1, i2⟩ := ex_ix.1 h; exact hh i i0 i1 i2)]
  rw [r20_Check_L6_eq]; unfold r20_Check_L6_B
  rw [if_neg (by simp)]
  by_cases c4 : g.2.2.1.length = 0
  · rw [if_neg (show ¬ GOrd g from fun ⟨i, i0, i1, i2⟩ => by omega)]
    rw [r20_Check_L12_eq]; unfold r20_Check_L12_B
    rw [if_neg (by simp; omega)]
  refine scan_to (len := (g.2.2.1.length : Int)) (bad := fun i => ¬ SLt (ix g.2.2.1 (i - 1)) (ix g.2.2.1 i)) (by omega) (fun i h0 h1 => ⟨fun hb => ?_, fun hb => ?_⟩) (fun hh => ?_)
  · rw [if_pos (show GOrd g from ⟨i, h0, h1, hb⟩)]
    rw [r20_Check_L12_eq]; unfold r20_Check_L12_B
    (try dsimp only); (repeat' first | (with_reducible refine G_to ?_ ?_; focus (first | omega | (unfold fits; omega) | (unfold room; (try simp only [List.length_append, List.length_cons, List.length_nil]); omega))) | (with_reducible refine both_to ?_ ?_) | (with_reducible refine itet_to ?_) | (with_reducible refine itef_to ?_) | (with_reducible refine ite_to (fun _ => ?_) (fun _ => ?_))) <;> try (exfalso; omega)
    obtain ⟨o, e, ho⟩ := ahead_tells (ix g.2.2.1 (i - 1)) (ix g.2.2.1 i)
    refine bind_to e ?_
    rw [if_pos (by cases o; rfl; exact absurd (ho.1 rfl) hb)]
  · conv => lhs; rw [r20_Check_L12_eq]; unfold r20_Check_L12_B
    (try dsimp only); (repeat' first | (with_reducible refine G_to ?_ ?_; focus (first | omega | (unfold fits; omega) | (unfold room; (try simp only [List.length_append, List.length_cons, List.length_nil]); omega))) | (with_reducible refine both_to ?_ ?_) | (with_reducible refine itet_to ?_) | (with_reducible refine itef_to ?_) | (with_reducible refine ite_to (fun _ => ?_) (fun _ => ?_))) <;> try (exfalso; omega)
    obtain ⟨o, e, ho⟩ := ahead_tells (ix g.2.2.1 (i - 1)) (ix g.2.2.1 i)
    refine bind_to e ?_
    rw [if_neg (by rw [ho.2 (Classical.not_not.1 hb)]; decide), G_pos (by unfold fits; omega)]
  · rw [if_neg (show ¬ GOrd g from fun ⟨i, i0, i1, i2⟩ => hh i (by omega) i1 i2)]
    rw [r20_Check_L12_eq]; unfold r20_Check_L12_B
    rw [if_neg (by simp)]
end
/- moves -/
def MOp (m : Mv) : Prop := m.1 < 0 ∨ 3 < m.1
def MBad (m : Mv) (t : Int) : Prop := m.2.2.1 < 0 ∨ (if 0 < m.1 then t else 1) ≤ m.2.2.1 ∨ m.2.2.2.1 < 0 ∨ (if m.1 = 3 then t else 1) ≤ m.2.2.2.1 ∨ m.2.1 < 0 ∨ (if m.1 = 2 then 4 else 1) ≤ m.2.1
theorem say1 (k t : Int) (b : Bool) : Tells (same_Saying_1 k b t) (0 ≤ k ∧ k < (if b = true then t else 1)) := by
  unfold same_Saying_1
  cases b with
  | true =>
    rw [if_pos rfl, if_pos rfl]
    by_cases h : 0 ≤ k
    · rw [if_pos (decide_eq_true h)]
      by_cases h2 : k < t
      · rw [if_pos (decide_eq_true h2)]; exact Tells.of (by simp [h, h2])
      · rw [if_neg (by simpa using h2), if_neg (by decide)]; exact Tells.of (by simp [h2])
    · rw [if_neg (by simpa using h), if_neg (by decide)]; exact Tells.of (by simp [h])
  | false =>
    rw [if_neg (by decide), if_pos (by decide)]; exact Tells.dec (by rw [if_neg (by decide)]; omega)
section
variable {l : List Mv}
instance (m : Mv) (t : Int) : Decidable (MBad m t) := by unfold MBad; infer_instance
instance (m : Mv) : Decidable (MOp m) := by unfold MOp; infer_instance
def sayAt (l : List Mv) : Nat → Int → Int
  | 0, _ => 0
  | n + 1, t => if MOp (ix l t) then 3 else if MBad (ix l t) t then 2 else sayAt l n (t + 1)
theorem same_Saying_L4_spec (hl : l.length ≤ 3000) : ∀ (n : Nat) (t : Int), (l.length - t).toNat = n → 0 ≤ t → t ≤ l.length → same_Saying_L4 l t = some (sayAt l n t) := by
  intro n
  induction n with
  | zero =>
    intro t hn h0 h1
    rw [same_Saying_L4_eq]; unfold same_Saying_L4_B
    rw [if_neg (by simp only [decide_eq_true_eq]; omega)]; rfl
  | succ n ih =>
    intro t hn h0 h1
    have ih := ih (t + 1) (by omega) (by omega) (by omega)
    rw [same_Saying_L4_eq]; unfold same_Saying_L4_B
    rw [if_pos (by simp only [decide_eq_true_eq]; omega), G_pos (by omega)]
    unfold sayAt
    generalize ix l t = m
    by_cases c : MOp m
    · rw [if_pos c]; unfold MOp at c
      (try dsimp only); (repeat' first | (with_reducible refine G_to ?_ ?_; focus (first | omega | (unfold fits; omega) | (unfold room; (try simp only [List.length_append, List.length_cons, List.length_nil]); omega))) | (with_reducible refine both_to ?_ ?_) | (with_reducible refine itet_to ?_) | (with_reducible refine itef_to ?_) | (with_reducible refine ite_to (fun _ => ?_) (fun _ => ?_))) <;> try (exfalso; omega)
      all_goals rfl
    rw [if_neg c]; unfold MOp at c
    (try dsimp only); (repeat' first | (with_reducible refine G_to ?_ ?_; focus (first | omega | (unfold fits; omega) | (unfold room; (try simp only [List.length_append, List.length_cons, List.length_nil]); omega))) | (with_reducible refine both_to ?_ ?_) | (with_reducible refine itet_to ?_) | (with_reducible refine itef_to ?_) | (with_reducible refine ite_to (fun _ => ?_) (fun _ => ?_))) <;> try (exfalso; omega)
    obtain ⟨b1, e1, hb1⟩ := say1 m.2.2.1 t (decide (0 < m.1))
    obtain ⟨b2, e2, hb2⟩ := say1 m.2.2.2.1 t (decide (m.1 = 3))
    simp only [decide_eq_true_eq] at hb1 hb2
    refine bind_to e1 ?_
    cases b1 with
    | false =>
      have h := mt hb1.2 (by decide : ¬ false = true)
      rw [if_pos (by decide), if_pos (by unfold MBad; revert h; generalize (if 0 < m.1 then t else 1) = z; intro h; by_cases q : 0 ≤ m.2.2.1 ∧ m.2.2.1 < z; exact (h q).elim; omega)]
    | true =>
    rw [if_neg (by decide)]
    have h1 := hb1.1 rfl
    refine bind_to e2 ?_
    cases b2 with
    | false =>
      have h := mt hb2.2 (by decide : ¬ false = true)
      rw [if_pos (by decide), if_pos (by unfold MBad; revert h; generalize (if m.1 = 3 then t else 1) = z; intro h; by_cases q : 0 ≤ m.2.2.2.1 ∧ m.2.2.2.1 < z; exact (h q).elim; omega)]
    | true =>
    rw [if_neg (by decide)]
    have h2 := hb2.1 rfl
    have e : MBad m t ↔ m.2.1 < 0 ∨ (if m.1 = 2 then 4 else 1) ≤ m.2.1 := by
      unfold MBad; omega
    by_cases c2 : MBad m t
    · rw [if_pos c2]; rw [e] at c2
      by_cases c3 : m.1 = 2
      · rw [if_pos c3] at c2
        (try dsimp only); (repeat' first | (with_reducible refine G_to ?_ ?_; focus (first | omega | (unfold fits; omega) | (unfold room; (try simp only [List.length_append, List.length_cons, List.length_nil]); omega))) | (with_reducible refine both_to ?_ ?_) | (with_reducible refine itet_to ?_) | (with_reducible refine itef_to ?_) | (with_reducible refine ite_to (fun _ => ?_) (fun _ => ?_))) <;> try (exfalso; omega)
        all_goals rfl
      · rw [if_neg c3] at c2
        (try dsimp only); (repeat' first | (with_reducible refine G_to ?_ ?_; focus (first | omega | (unfold fits; omega) | (unfold room; (try simp only [List.length_append, List.length_cons, List.length_nil]); omega))) | (with_reducible refine both_to ?_ ?_) | (with_reducible refine itet_to ?_) | (with_reducible refine itef_to ?_) | (with_reducible refine ite_to (fun _ => ?_) (fun _ => ?_))) <;> try (exfalso; omega)
        all_goals first | rfl | skip
    · rw [if_neg c2]; rw [e] at c2
      by_cases c3 : m.1 = 2
      · rw [if_pos c3] at c2
        (try dsimp only); (repeat' first | (with_reducible refine G_to ?_ ?_; focus (first | omega | (unfold fits; omega) | (unfold room; (try simp only [List.length_append, List.length_cons, List.length_nil]); omega))) | (with_reducible refine both_to ?_ ?_) | (with_reducible refine itet_to ?_) | (with_reducible refine itef_to ?_) | (with_reducible refine ite_to (fun _ => ?_) (fun _ => ?_))) <;> try (exfalso; omega)
        all_goals exact ih
      · rw [if_neg c3] at c2
        (try dsimp only); (repeat' first | (with_reducible refine G_to ?_ ?_; focus (first | omega | (unfold fits; omega) | (unfold room; (try simp only [List.length_append, List.length_cons, List.length_nil]); omega))) | (with_reducible refine both_to ?_ ?_) | (with_reducible refine itet_to ?_) | (with_reducible refine itef_to ?_) | (with_reducible refine ite_to (fun _ => ?_) (fun _ => ?_))) <;> try (exfalso; omega)
        all_goals exact ih
theorem r20_Saying_L4_spec (hl : l.length ≤ 3000) : ∀ (n : Nat) (t : Int), (l.length - t).toNat = n → 0 ≤ t → t ≤ l.length → r20_Saying_L4 l t = some (sayAt l n t) := by
  intro n
  induction n with
  | zero =>
    intro t hn h0 h1
    rw [r20_Saying_L4_eq]; unfold r20_Saying_L4_B
    rw [if_neg (by simp only [decide_eq_true_eq]; omega)]; rfl
  | succ n ih =>
    intro t hn h0 h1
    have ih := ih (t + 1) (by omega) (by omega) (by omega)
    rw [r20_Saying_L4_eq]; unfold r20_Saying_L4_B
    rw [if_pos (by simp only [decide_eq_true_eq]; omega), G_pos (by omega)]
    unfold sayAt
    by_cases c : MOp (ix l t)
    · rw [if_pos c]; unfold MOp at c
      (try dsimp only); (repeat' first | (with_reducible refine G_to ?_ ?_; focus (first | omega | (unfold fits; omega) | (unfold room; (try simp only [List.length_append, List.length_cons, List.length_nil]); omega))) | (with_reducible refine both_to ?_ ?_) | (with_reducible refine itet_to ?_) | (with_reducible refine itef_to ?_) | (with_reducible refine ite_to (fun _ => ?_) (fun _ => ?_))) <;> try (exfalso; omega)
      all_goals rfl
    rw [if_neg c]; unfold MOp at c
    have k17 : ∀ a b c : Int, (∀ h : Prop, h = ((ix l t).2.2.1 < 0 ∨ a ≤ (ix l t).2.2.1 ∨ (ix l t).2.2.2.1 < 0 ∨ b ≤ (ix l t).2.2.2.1 ∨ (ix l t).2.1 < 0 ∨ c ≤ (ix l t).2.1) → (h → r20_Saying_J17 l t (r20_Saying_L4 l) a b c = some 2) ∧ (¬ h → r20_Saying_J17 l t (r20_Saying_L4 l) a b c = some (sayAt l n (t + 1)))) := by
      rintro a b c h rfl
      constructor
      · intro h
        unfold r20_Saying_J17
        (try dsimp only); (repeat' first | (with_reducible refine G_to ?_ ?_; focus (first | omega | (unfold fits; omega) | (unfold room; (try simp only [List.length_append, List.length_cons, List.length_nil]); omega))) | (with_reducible refine both_to ?_ ?_) | (with_reducible refine itet_to ?_) | (with_reducible refine itef_to ?_) | (with_reducible refine ite_to (fun _ => ?_) (fun _ => ?_))) <;> try (exfalso; omega)
        all_goals rfl
      · intro h
        unfold r20_Saying_J17
        (try dsimp only); (repeat' first | (with_reducible refine G_to ?_ ?_; focus (first | omega | (unfold fits; omega) | (unfold room; (try simp only [List.length_append, List.length_cons, List.length_nil]); omega))) | (with_reducible refine both_to ?_ ?_) | (with_reducible refine itet_to ?_) | (with_reducible refine itef_to ?_) | (with_reducible refine ite_to (fun _ => ?_) (fun _ => ?_))) <;> try (exfalso; omega)
        all_goals exact ih
    have fin : ∀ a b c : Int, a = (if 0 < (ix l t).1 then t else 1) → b = (if (ix l t).1 = 3 then t else 1) → c = (if (ix l t).1 = 2 then 4 else 1) → r20_Saying_J17 l t (r20_Saying_L4 l) a b c = some (if MBad (ix l t) t then 2 else sayAt l n (t + 1)) := by
      rintro a b c rfl rfl rfl
      by_cases c2 : MBad (ix l t) t
      · rw [if_pos c2]; exact (k17 _ _ _ _ rfl).1 c2
      · rw [if_neg c2]; exact (k17 _ _ _ _ rfl).2 c2
    have k14 : ∀ a b : Int, a = (if 0 < (ix l t).1 then t else 1) → b = (if (ix l t).1 = 3 then t else 1) → r20_Saying_J14 l t (r20_Saying_L4 l) a b = some (if MBad (ix l t) t then 2 else sayAt l n (t + 1)) := by
      intro a b ha hb
      unfold r20_Saying_J14
      by_cases c3 : (ix l t).1 = 2
      · rw [if_pos (decide_eq_true c3)]; exact fin _ _ _ ha hb (by rw [if_pos c3])
      · rw [if_neg (by simpa using c3)]; exact fin _ _ _ ha hb (by rw [if_neg c3])
    have k11 : ∀ a : Int, a = (if 0 < (ix l t).1 then t else 1) → r20_Saying_J11 l t (r20_Saying_L4 l) a = some (if MBad (ix l t) t then 2 else sayAt l n (t + 1)) := by
      intro a ha
      unfold r20_Saying_J11
      by_cases c3 : (ix l t).1 = 3
      · rw [if_pos (decide_eq_true c3)]; exact k14 _ _ ha (by rw [if_pos c3])
      · rw [if_neg (by simpa using c3)]; exact k14 _ _ ha (by rw [if_neg c3])
    (try dsimp only); (repeat' first | (with_reducible refine G_to ?_ ?_; focus (first | omega | (unfold fits; omega) | (unfold room; (try simp only [List.length_append, List.length_cons, List.length_nil]); omega))) | (with_reducible refine both_to ?_ ?_) | (with_reducible refine itet_to ?_) | (with_reducible refine itef_to ?_) | (with_reducible refine ite_to (fun _ => ?_) (fun _ => ?_))) <;> try (exfalso; omega)
    · exact k11 _ (by rw [if_pos (by assumption)])
    · exact k11 _ (by rw [if_neg (by assumption)])
def syE (l : List Mv) : Int := if l.length < 1 ∨ 3000 < l.length then 1 else sayAt l l.length 0
theorem same_Saying_spec : same_Saying l = some (syE l) := by
  unfold same_Saying syE
  by_cases c : l.length < 1 ∨ 3000 < l.length
  · rw [if_pos c]
    (try dsimp only); (repeat' first | (with_reducible refine G_to ?_ ?_; focus (first | omega | (unfold fits; omega) | (unfold room; (try simp only [List.length_append, List.length_cons, List.length_nil]); omega))) | (with_reducible refine both_to ?_ ?_) | (with_reducible refine itet_to ?_) | (with_reducible refine itef_to ?_) | (with_reducible refine ite_to (fun _ => ?_) (fun _ => ?_))) <;> try (exfalso; omega)
    all_goals rfl
  · rw [if_neg c]
    (try dsimp only); (repeat' first | (with_reducible refine G_to ?_ ?_; focus (first | omega | (unfold fits; omega) | (unfold room; (try simp only [List.length_append, List.length_cons, List.length_nil]); omega))) | (with_reducible refine both_to ?_ ?_) | (with_reducible refine itet_to ?_) | (with_reducible refine itef_to ?_) | (with_reducible refine ite_to (fun _ => ?_) (fun _ => ?_))) <;> try (exfalso; omega)
    exact same_Saying_L4_spec (by omega) _ 0 (by omega) (by omega) (by omega)
theorem r20_Saying_spec : r20_Saying l = some (syE l) := by
  unfold r20_Saying syE
  by_cases c : l.length < 1 ∨ 3000 < l.length
  · rw [if_pos c]
    (try dsimp only); (repeat' first | (with_reducible refine G_to ?_ ?_; focus (first | omega | (unfold fits; omega) | (unfold room; (try simp only [List.length_append, List.length_cons, List.length_nil]); omega))) | (with_reducible refine both_to ?_ ?_) | (with_reducible refine itet_to ?_) | (with_reducible refine itef_to ?_) | (with_reducible refine ite_to (fun _ => ?_) (fun _ => ?_))) <;> try (exfalso; omega)
    all_goals rfl
  · rw [if_neg c]
    (try dsimp only); (repeat' first | (with_reducible refine G_to ?_ ?_; focus (first | omega | (unfold fits; omega) | (unfold room; (try simp only [List.length_append, List.length_cons, List.length_nil]); omega))) | (with_reducible refine both_to ?_ ?_) | (with_reducible refine itet_to ?_) | (with_reducible refine itef_to ?_) | (with_reducible refine ite_to (fun _ => ?_) (fun _ => ?_))) <;> try (exfalso; omega)
    exact r20_Saying_L4_spec (by omega) _ 0 (by omega) (by omega) (by omega)
theorem sayAt_zero : ∀ (n : Nat) (t : Int), (l.length - t).toNat = n → sayAt l n t = 0 → ∀ i : Int, t ≤ i → i < l.length → ¬ MOp (ix l i) ∧ ¬ MBad (ix l i) i := by
  intro n
  induction n with
  | zero => intro t hn _ i i0 i1; omega
  | succ n ih =>
    intro t hn h i i0 i1
    unfold sayAt at h
    by_cases c : MOp (ix l t)
    · rw [if_pos c] at h; omega
    rw [if_neg c] at h
    by_cases c2 : MBad (ix l t) t
    · rw [if_pos c2] at h; omega
    rw [if_neg c2] at h
    by_cases e : i = t
    · subst e; exact ⟨c, c2⟩
    · exact ih (t + 1) (by omega) h i (by omega) i1
end
/- the tables -/
def Val (g : Gr) (m : Mv) (all : List (List Bool)) (p : Int) : Prop :=
  m.1 = 0 ∨ (m.1 = 1 ∧ ¬ ix (ix all m.2.2.1) p = true) ∨ (m.1 = 3 ∧ ix (ix all m.2.2.1) p = true ∧ ix (ix all m.2.2.2.1) p = true) ∨
    (m.1 = 2 ∧ ∃ x ∈ g.2.2.1, x.1 = p ∧ x.2.1 = m.2.1 ∧ ix (ix all m.2.2.1) x.2.2.1 = true)
open Classical in
noncomputable def row (g : Gr) (m : Mv) (all : List (List Bool)) : List Bool := (List.range g.2.1.toNat).map fun (p : Nat) => decide (Val g m all (p : Int))
noncomputable def tab (g : Gr) : List (List Bool) → List Mv → List (List Bool)
  | all, [] => all
  | all, m :: ms => tab g (all ++ [row g m all]) ms
def Hit (m : Mv) (all : List (List Bool)) (p : Int) (x : Arc) : Prop := x.1 = p ∧ x.2.1 = m.2.1 ∧ ix (ix all m.2.2.1) x.2.2.1 = true
theorem val2 {g : Gr} {m : Mv} {all : List (List Bool)} {p : Int} (e : m.1 = 2) : Val g m all p ↔ ∃ x ∈ g.2.2.1, Hit m all p x := by
  constructor
  · rintro (h | ⟨h, _⟩ | ⟨h, _⟩ | ⟨_, h⟩)
    · omega
    · omega
    · omega
    · exact h
  · exact fun h => .inr (.inr (.inr ⟨e, h⟩))
theorem row_len {g : Gr} {m : Mv} {all : List (List Bool)} (h : 0 ≤ g.2.1) : ((row g m all).length : Int) = g.2.1 := by
  unfold row; rw [List.length_map, List.length_range]; omega
theorem row_ext {g : Gr} {m : Mv} {all : List (List Bool)} {R : List Bool} (h0 : 0 ≤ g.2.1) (hl : (R.length : Int) = g.2.1) (h : ∀ p : Int, 0 ≤ p → p < g.2.1 → (ix R p = true ↔ Val g m all p)) : R = row g m all := by
  have hr := row_len (m := m) (all := all) h0
  refine ix_ext (by omega) fun p p0 p1 => ?_
  have hp := h p p0 (by omega)
  have e : ix (row g m all) p = true ↔ Val g m all p := by
    classical
    unfold row
    rw [ix_map _ p0 (by rw [List.length_range]; omega), decide_eq_true_iff, ix_eq p0 (by rw [List.length_range]; omega), List.getElem_range, Int.toNat_of_nonneg p0]
  rw [Bool.eq_iff_iff, hp, e]
structure GOk (g : Gr) : Prop where
  n1 : 1 ≤ g.2.1 ∧ g.2.1 ≤ 12
  al : g.2.2.1.length ≤ 60
  arc : ∀ x ∈ g.2.2.1, ¬ ABad g x
theorem grE_zero {g : Gr} (h : grE g = 0) : GOk g := by
  unfold grE at h
  by_cases c1 : GLet g
  · rw [if_pos c1] at h; omega
  rw [if_neg c1] at h
  by_cases c2 : GSize g
  · rw [if_pos c2] at h; omega
  rw [if_neg c2] at h
  by_cases c3 : GBad g
  · rw [if_pos c3] at h; omega
  unfold GSize at c2
  exact ⟨by omega, by omega, fun x hx hb => c3 ⟨x, hx, hb⟩⟩
section
variable {g : Gr} {l : List Mv} {all : List (List Bool)} {t : Int}
theorem arc_tells {m : Mv} {p : Int} (h : GOk g) (ha : 0 ≤ m.2.2.1 ∧ m.2.2.1 < all.length) (hr : ∀ r ∈ all, (r.length : Int) = g.2.1) :
    Tells (slices_ContainsFunc_1 g.2.2.1 p m all) (∃ x ∈ g.2.2.1, x.1 = p ∧ x.2.1 = m.2.1 ∧ ix (ix all m.2.2.1) x.2.2.1 = true) :=
  contains_tells (f := fun x => same_Holds_1 x p m all) (slices_IndexFunc_1_L2_eq g.2.2.1 p m all) (by have := h.al; omega) (fun x hx => by
    have hb := h.arc x hx
    unfold ABad at hb
    have := hr _ (ix_mem ha.1 ha.2)
    unfold same_Holds_1
    by_cases c1 : x.1 = p
    · rw [if_pos (decide_eq_true c1)]
      by_cases c2 : x.2.1 = m.2.1
      · rw [if_pos (decide_eq_true c2), G_pos ha, G_pos (by omega)]
        exact Tells.of (by simp [c1, c2])
      · rw [if_neg (by simpa using c2)]; exact Tells.of (by simp [c2])
    · rw [if_neg (by simpa using c1)]; exact Tells.of (by simp [c1]))
theorem same_Holds_L13_spec {r9 : Int → (List (List Bool)) → Option ((List Bool) × Int)} (h : GOk g) (t0 : 0 ≤ t) (t1 : t < l.length) (hl : l.length ≤ 3000) (ho : ¬ MOp (ix l t)) (hm : ¬ MBad (ix l t) t) (hal : (all.length : Int) = t) (hr : ∀ r ∈ all, (r.length : Int) = g.2.1) :
    ∀ (n : Nat) (p : Int) (is' : List Bool), (g.2.1 - p).toNat = n → 0 ≤ p → p ≤ g.2.1 → (is'.length : Int) = g.2.1 → (∀ q : Int, 0 ≤ q → q < p → (ix is' q = true ↔ Val g (ix l t) all q)) →
    same_Holds_L13 g l t all r9 p is' = r9 (t + 1) (all ++ [row g (ix l t) all]) := by
  have hn := h.n1
  intro n
  induction n with
  | zero =>
    intro p is' hn' p0 p1 hi hv
    rw [same_Holds_L13_eq]; unfold same_Holds_L13_B
    rw [List.length_replicate]
    (try dsimp only); (repeat' first | (with_reducible refine G_to ?_ ?_; focus (first | omega | (unfold fits; omega) | (unfold room; (try simp only [List.length_append, List.length_cons, List.length_nil]); omega))) | (with_reducible refine both_to ?_ ?_) | (with_reducible refine itet_to ?_) | (with_reducible refine itef_to ?_) | (with_reducible refine ite_to (fun _ => ?_) (fun _ => ?_))) <;> try (exfalso; omega)
    rw [row_ext (by omega) hi (fun q q0 q1 => hv q q0 (by omega))]
  | succ n ih =>
    intro p is' hn' p0 p1 hi hv
    have nxt : ∀ v : Bool, (v = true ↔ Val g (ix l t) all p) → same_Holds_L13 g l t all r9 (p + 1) (is'.set p.toNat v) = r9 (t + 1) (all ++ [row g (ix l t) all]) := by
      intro v hv2
      refine ih (p + 1) _ (by omega) (by omega) (by omega) (by rw [List.length_set]; exact hi) (fun q q0 q1 => ?_)
      by_cases e : q = p
      · subst e; rw [ix_set_same q0 (by omega)]; exact hv2
      · rw [ix_set_ne p0 q0 (by omega)]; exact hv q q0 (by omega)
    rw [same_Holds_L13_eq]; unfold same_Holds_L13_B
    rw [List.length_replicate]
    unfold MOp at ho; unfold MBad at hm
    rcases (by omega : (ix l t).1 = 0 ∨ (ix l t).1 = 1 ∨ (ix l t).1 = 2 ∨ (ix l t).1 = 3) with e | e | e | e
    · (try dsimp only); (repeat' first | (with_reducible refine G_to ?_ ?_; focus (first | omega | (unfold fits; omega) | (unfold room; (try simp only [List.length_append, List.length_cons, List.length_nil]); omega))) | (with_reducible refine both_to ?_ ?_) | (with_reducible refine itet_to ?_) | (with_reducible refine itef_to ?_) | (with_reducible refine ite_to (fun _ => ?_) (fun _ => ?_))) <;> try (exfalso; omega)
      exact nxt _ (by simp [Val, e])
    · have ha : 0 ≤ (ix l t).2.2.1 ∧ (ix l t).2.2.1 < all.length := by
        rw [if_pos (by omega)] at hm; omega
      have hra := hr _ (ix_mem ha.1 ha.2)
      (try dsimp only); (repeat' first | (with_reducible refine G_to ?_ ?_; focus (first | omega | (unfold fits; omega) | (unfold room; (try simp only [List.length_append, List.length_cons, List.length_nil]); omega))) | (with_reducible refine both_to ?_ ?_) | (with_reducible refine itet_to ?_) | (with_reducible refine itef_to ?_) | (with_reducible refine ite_to (fun _ => ?_) (fun _ => ?_))) <;> try (exfalso; omega)
      exact nxt _ (by simp [Val, e])
    · have ha : 0 ≤ (ix l t).2.2.1 ∧ (ix l t).2.2.1 < all.length := by
        rw [if_pos (by omega)] at hm; omega
      (try dsimp only); (repeat' first | (with_reducible refine G_to ?_ ?_; focus (first | omega | (unfold fits; omega) | (unfold room; (try simp only [List.length_append, List.length_cons, List.length_nil]); omega))) | (with_reducible refine both_to ?_ ?_) | (with_reducible refine itet_to ?_) | (with_reducible refine itef_to ?_) | (with_reducible refine ite_to (fun _ => ?_) (fun _ => ?_))) <;> try (exfalso; omega)
      obtain ⟨b, e1, hb⟩ := arc_tells (p := p) (m := ix l t) h ha hr
      refine bind_to e1 ?_
      (try dsimp only); (repeat' first | (with_reducible refine G_to ?_ ?_; focus (first | omega | (unfold fits; omega) | (unfold room; (try simp only [List.length_append, List.length_cons, List.length_nil]); omega))) | (with_reducible refine both_to ?_ ?_) | (with_reducible refine itet_to ?_) | (with_reducible refine itef_to ?_) | (with_reducible refine ite_to (fun _ => ?_) (fun _ => ?_))) <;> try (exfalso; omega)
      exact nxt _ (hb.trans (val2 e).symm)
    · have ha : 0 ≤ (ix l t).2.2.1 ∧ (ix l t).2.2.1 < all.length := by
        rw [if_pos (by omega)] at hm; omega
      have hb : 0 ≤ (ix l t).2.2.2.1 ∧ (ix l t).2.2.2.1 < all.length := by
        rw [if_pos e] at hm; omega
      have hra := hr _ (ix_mem ha.1 ha.2)
      have hrb := hr _ (ix_mem hb.1 hb.2)
      (try dsimp only); (repeat' first | (with_reducible refine G_to ?_ ?_; focus (first | omega | (unfold fits; omega) | (unfold room; (try simp only [List.length_append, List.length_cons, List.length_nil]); omega))) | (with_reducible refine both_to ?_ ?_) | (with_reducible refine itet_to ?_) | (with_reducible refine itef_to ?_) | (with_reducible refine ite_to (fun _ => ?_) (fun _ => ?_))) <;> try (exfalso; omega)
      refine iteb_to (fun hx => ?_) (fun hx => ?_)
      · (try dsimp only); (repeat' first | (with_reducible refine G_to ?_ ?_; focus (first | omega | (unfold fits; omega) | (unfold room; (try simp only [List.length_append, List.length_cons, List.length_nil]); omega))) | (with_reducible refine both_to ?_ ?_) | (with_reducible refine itet_to ?_) | (with_reducible refine itef_to ?_) | (with_reducible refine ite_to (fun _ => ?_) (fun _ => ?_))) <;> try (exfalso; omega)
        exact nxt _ (by simp [Val, e, hx])
      · (try dsimp only); (repeat' first | (with_reducible refine G_to ?_ ?_; focus (first | omega | (unfold fits; omega) | (unfold room; (try simp only [List.length_append, List.length_cons, List.length_nil]); omega))) | (with_reducible refine both_to ?_ ?_) | (with_reducible refine itet_to ?_) | (with_reducible refine itef_to ?_) | (with_reducible refine ite_to (fun _ => ?_) (fun _ => ?_))) <;> try (exfalso; omega)
        exact nxt _ (by simp [Val, e, hx])
theorem r20_Holds_L18_spec {r3 : Int → (List (List Bool)) → Option (List Bool)} (h : GOk g) (t0 : 0 ≤ t) (t1 : t < l.length) (hl : l.length ≤ 3000) (ho : ¬ MOp (ix l t)) (hm : ¬ MBad (ix l t) t) (hal : (all.length : Int) = t) (hr : ∀ r ∈ all, (r.length : Int) = g.2.1) :
    ∀ (n : Nat) (k : Int) (is' : List Bool), (g.2.2.1.length - k).toNat = n → 0 ≤ k → k ≤ g.2.2.1.length → (is'.length : Int) = g.2.1 →
    (∀ q : Int, 0 ≤ q → q < g.2.1 → (ix is' q = true ↔ (¬ (ix l t).1 = 2 ∧ Val g (ix l t) all q) ∨ ((ix l t).1 = 2 ∧ ∃ j : Int, 0 ≤ j ∧ j < k ∧ Hit (ix l t) all q (ix g.2.2.1 j)))) →
    r20_Holds_L18 g l t all r3 k is' = r3 (t + 1) (all ++ [row g (ix l t) all]) := by
  have hn := h.n1
  have hla := h.al
  intro n
  induction n with
  | zero =>
    intro k is' hn' k0 k1 hi hv
    rw [r20_Holds_L18_eq]; unfold r20_Holds_L18_B
    (try dsimp only); (repeat' first | (with_reducible refine G_to ?_ ?_; focus (first | omega | (unfold fits; omega) | (unfold room; (try simp only [List.length_append, List.length_cons, List.length_nil]); omega))) | (with_reducible refine both_to ?_ ?_) | (with_reducible refine itet_to ?_) | (with_reducible refine itef_to ?_) | (with_reducible refine ite_to (fun _ => ?_) (fun _ => ?_))) <;> try (exfalso; omega)
    rw [row_ext (by omega) hi (fun q q0 q1 => ?_)]
    rw [hv q q0 q1]
    by_cases e : (ix l t).1 = 2
    · rw [val2 e, ex_ix]
      obtain rfl : k = g.2.2.1.length := by omega
      simp [e]
    · simp [e]
  | succ n ih =>
    intro k is' hn' k0 k1 hi hv
    have arc := h.arc _ (ix_mem k0 (by omega : k < g.2.2.1.length))
    unfold ABad at arc
    rw [r20_Holds_L18_eq]; unfold r20_Holds_L18_B
    rw [if_pos (by simp only [decide_eq_true_eq]; omega), G_pos (by omega)]
    have no : (¬ ∃ q : Int, (ix l t).1 = 2 ∧ Hit (ix l t) all q (ix g.2.2.1 k)) → r20_Holds_J21 g k is' (r20_Holds_L18 g l t all r3) false = r3 (t + 1) (all ++ [row g (ix l t) all]) := by
      intro hno
      unfold r20_Holds_J21
      rw [if_neg (by decide), G_pos (by unfold fits; omega)]
      refine ih (k + 1) is' (by omega) (by omega) (by omega) hi (fun q q0 q1 => ?_)
      rw [hv q q0 q1]
      refine or_congr Iff.rfl (and_congr_right fun e => ⟨fun ⟨j, j0, j1, hj⟩ => ⟨j, j0, by omega, hj⟩, fun ⟨j, j0, j1, hj⟩ => ⟨j, j0, ?_, hj⟩⟩)
      by_cases ej : j = k
      · subst ej; exact absurd ⟨q, e, hj⟩ hno
      · omega
    by_cases e : (ix l t).1 = 2
    · have ha : 0 ≤ (ix l t).2.2.1 ∧ (ix l t).2.2.1 < all.length := by
        unfold MBad at hm; rw [if_pos (by omega)] at hm; omega
      have hra := hr _ (ix_mem ha.1 ha.2)
      by_cases e2 : (ix g.2.2.1 k).2.1 = (ix l t).2.1
      · (try dsimp only); (repeat' first | (with_reducible refine G_to ?_ ?_; focus (first | omega | (unfold fits; omega) | (unfold room; (try simp only [List.length_append, List.length_cons, List.length_nil]); omega))) | (with_reducible refine both_to ?_ ?_) | (with_reducible refine itet_to ?_) | (with_reducible refine itef_to ?_) | (with_reducible refine ite_to (fun _ => ?_) (fun _ => ?_))) <;> try (exfalso; omega)
        cases hx : ix (ix all (ix l t).2.2.1) (ix g.2.2.1 k).2.2.1 with
        | false => exact no (fun ⟨q, _, hh⟩ => by rw [hh.2.2] at hx; cases hx)
        | true =>
          unfold r20_Holds_J21
          rw [if_pos rfl]
          (try dsimp only); (repeat' first | (with_reducible refine G_to ?_ ?_; focus (first | omega | (unfold fits; omega) | (unfold room; (try simp only [List.length_append, List.length_cons, List.length_nil]); omega))) | (with_reducible refine both_to ?_ ?_) | (with_reducible refine itet_to ?_) | (with_reducible refine itef_to ?_) | (with_reducible refine ite_to (fun _ => ?_) (fun _ => ?_))) <;> try (exfalso; omega)
          refine ih (k + 1) _ (by omega) (by omega) (by omega) (by rw [List.length_set]; exact hi) (fun q q0 q1 => ?_)
          by_cases eq : q = (ix g.2.2.1 k).1
          · rw [eq, ix_set_same (by omega) (by omega)]
            simp only [true_iff]
            exact .inr ⟨e, k, k0, by omega, rfl, e2, hx⟩
          · rw [ix_set_ne (by omega) q0 (by omega), hv q q0 q1]
            refine or_congr Iff.rfl (and_congr_right fun e => ⟨fun ⟨j, j0, j1, hj⟩ => ⟨j, j0, by omega, hj⟩, fun ⟨j, j0, j1, hj⟩ => ⟨j, j0, ?_, hj⟩⟩)
            by_cases ej : j = k
            · subst ej; exact absurd hj.1.symm eq
            · omega
      · (try dsimp only); (repeat' first | (with_reducible refine G_to ?_ ?_; focus (first | omega | (unfold fits; omega) | (unfold room; (try simp only [List.length_append, List.length_cons, List.length_nil]); omega))) | (with_reducible refine both_to ?_ ?_) | (with_reducible refine itet_to ?_) | (with_reducible refine itef_to ?_) | (with_reducible refine ite_to (fun _ => ?_) (fun _ => ?_))) <;> try (exfalso; omega)
        exact no (fun ⟨q, _, hh⟩ => e2 hh.2.1)
    · (try dsimp only); (repeat' first | (with_reducible refine G_to ?_ ?_; focus (first | omega | (unfold fits; omega) | (unfold room; (try simp only [List.length_append, List.length_cons, List.length_nil]); omega))) | (with_reducible refine both_to ?_ ?_) | (with_reducible refine itet_to ?_) | (with_reducible refine itef_to ?_) | (with_reducible refine ite_to (fun _ => ?_) (fun _ => ?_))) <;> try (exfalso; omega)
      exact no (fun ⟨q, hh, _⟩ => e hh)
theorem r20_Holds_L8_spec {r3 : Int → (List (List Bool)) → Option (List Bool)} (h : GOk g) (t0 : 0 ≤ t) (t1 : t < l.length) (hl : l.length ≤ 3000) (ho : ¬ MOp (ix l t)) (hm : ¬ MBad (ix l t) t) (hal : (all.length : Int) = t) (hr : ∀ r ∈ all, (r.length : Int) = g.2.1) :
    ∀ (n : Nat) (p : Int) (is' : List Bool), (g.2.1 - p).toNat = n → 0 ≤ p → p ≤ g.2.1 → (is'.length : Int) = g.2.1 → (∀ q : Int, 0 ≤ q → q < g.2.1 → (ix is' q = true ↔ q < p ∧ ¬ (ix l t).1 = 2 ∧ Val g (ix l t) all q)) →
    r20_Holds_L8 g l t all r3 p is' = r3 (t + 1) (all ++ [row g (ix l t) all]) := by
  have hn := h.n1
  intro n
  induction n with
  | zero =>
    intro p is' hn' p0 p1 hi hv
    rw [r20_Holds_L8_eq]; unfold r20_Holds_L8_B
    rw [if_neg (by simp only [decide_eq_true_eq]; omega)]
    refine r20_Holds_L18_spec h t0 t1 hl ho hm hal hr _ 0 _ rfl (by omega) (by omega) hi (fun q q0 q1 => ?_)
    rw [hv q q0 q1]
    constructor
    · exact fun h => .inl h.2
    · rintro (h | ⟨_, j, j0, j1, _⟩)
      · exact ⟨by omega, h⟩
      · omega
  | succ n ih =>
    intro p is' hn' p0 p1 hi hv
    have nxt : ∀ v : Bool, (v = true ↔ Val g (ix l t) all p) → ¬ (ix l t).1 = 2 → r20_Holds_L8 g l t all r3 (p + 1) (is'.set p.toNat v) = r3 (t + 1) (all ++ [row g (ix l t) all]) := by
      intro v hv2 e2
      refine ih (p + 1) _ (by omega) (by omega) (by omega) (by rw [List.length_set]; exact hi) (fun q q0 q1 => ?_)
      by_cases e : q = p
      · subst e; rw [ix_set_same q0 (by omega), hv2]; exact ⟨fun x => ⟨by omega, e2, x⟩, fun x => x.2.2⟩
      · rw [ix_set_ne p0 q0 (by omega), hv q q0 q1]; exact ⟨fun x => ⟨by omega, x.2⟩, fun x => ⟨by omega, x.2⟩⟩
    rw [r20_Holds_L8_eq]; unfold r20_Holds_L8_B
    unfold MOp at ho; unfold MBad at hm
    rcases (by omega : (ix l t).1 = 0 ∨ (ix l t).1 = 1 ∨ (ix l t).1 = 2 ∨ (ix l t).1 = 3) with e | e | e | e
    · (try dsimp only); (repeat' first | (with_reducible refine G_to ?_ ?_; focus (first | omega | (unfold fits; omega) | (unfold room; (try simp only [List.length_append, List.length_cons, List.length_nil]); omega))) | (with_reducible refine both_to ?_ ?_) | (with_reducible refine itet_to ?_) | (with_reducible refine itef_to ?_) | (with_reducible refine ite_to (fun _ => ?_) (fun _ => ?_))) <;> try (exfalso; omega)
      exact nxt _ (by simp [Val, e]) (by omega)
    · have ha : 0 ≤ (ix l t).2.2.1 ∧ (ix l t).2.2.1 < all.length := by
        rw [if_pos (by omega)] at hm; omega
      have hra := hr _ (ix_mem ha.1 ha.2)
      (try dsimp only); (repeat' first | (with_reducible refine G_to ?_ ?_; focus (first | omega | (unfold fits; omega) | (unfold room; (try simp only [List.length_append, List.length_cons, List.length_nil]); omega))) | (with_reducible refine both_to ?_ ?_) | (with_reducible refine itet_to ?_) | (with_reducible refine itef_to ?_) | (with_reducible refine ite_to (fun _ => ?_) (fun _ => ?_))) <;> try (exfalso; omega)
      exact nxt _ (by simp [Val, e]) (by omega)
    · (try dsimp only); (repeat' first | (with_reducible refine G_to ?_ ?_; focus (first | omega | (unfold fits; omega) | (unfold room; (try simp only [List.length_append, List.length_cons, List.length_nil]); omega))) | (with_reducible refine both_to ?_ ?_) | (with_reducible refine itet_to ?_) | (with_reducible refine itef_to ?_) | (with_reducible refine ite_to (fun _ => ?_) (fun _ => ?_))) <;> try (exfalso; omega)
      refine ih (p + 1) _ (by omega) (by omega) (by omega) hi (fun q q0 q1 => ?_)
      rw [hv q q0 q1]
      simp [e]
    · have ha : 0 ≤ (ix l t).2.2.1 ∧ (ix l t).2.2.1 < all.length := by
        rw [if_pos (by omega)] at hm; omega
      have hb : 0 ≤ (ix l t).2.2.2.1 ∧ (ix l t).2.2.2.1 < all.length := by
        rw [if_pos e] at hm; omega
      have hra := hr _ (ix_mem ha.1 ha.2)
      have hrb := hr _ (ix_mem hb.1 hb.2)
      (try dsimp only); (repeat' first | (with_reducible refine G_to ?_ ?_; focus (first | omega | (unfold fits; omega) | (unfold room; (try simp only [List.length_append, List.length_cons, List.length_nil]); omega))) | (with_reducible refine both_to ?_ ?_) | (with_reducible refine itet_to ?_) | (with_reducible refine itef_to ?_) | (with_reducible refine ite_to (fun _ => ?_) (fun _ => ?_))) <;> try (exfalso; omega)
      refine iteb_to (fun hx => ?_) (fun hx => ?_)
      · (try dsimp only); (repeat' first | (with_reducible refine G_to ?_ ?_; focus (first | omega | (unfold fits; omega) | (unfold room; (try simp only [List.length_append, List.length_cons, List.length_nil]); omega))) | (with_reducible refine both_to ?_ ?_) | (with_reducible refine itet_to ?_) | (with_reducible refine itef_to ?_) | (with_reducible refine ite_to (fun _ => ?_) (fun _ => ?_))) <;> try (exfalso; omega)
        exact nxt _ (by simp [Val, e, hx]) (by omega)
      · (try dsimp only); (repeat' first | (with_reducible refine G_to ?_ ?_; focus (first | omega | (unfold fits; omega) | (unfold room; (try simp only [List.length_append, List.length_cons, List.length_nil]); omega))) | (with_reducible refine both_to ?_ ?_) | (with_reducible refine itet_to ?_) | (with_reducible refine itef_to ?_) | (with_reducible refine ite_to (fun _ => ?_) (fun _ => ?_))) <;> try (exfalso; omega)
        exact nxt _ (by simp [Val, e, hx]) (by omega)
theorem same_Holds_L9_spec (h : GOk g) (hl : l.length ≤ 3000) (hl1 : 1 ≤ l.length) (hm : ∀ i : Int, 0 ≤ i → i < l.length → ¬ MOp (ix l i) ∧ ¬ MBad (ix l i) i) :
    ∀ (n : Nat) (t : Int) (all : List (List Bool)), (l.length - t).toNat = n → 0 ≤ t → t ≤ l.length → (all.length : Int) = t → (∀ r ∈ all, (r.length : Int) = g.2.1) →
    same_Holds_L9 g l t all = some (ix (tab g all (l.drop t.toNat)) ((tab g all (l.drop t.toNat)).length - 1), 0) ∧ r20_Holds_L3 g l t all = some (ix (tab g all (l.drop t.toNat)) ((tab g all (l.drop t.toNat)).length - 1)) ∧ ((ix (tab g all (l.drop t.toNat)) ((tab g all (l.drop t.toNat)).length - 1)).length : Int) = g.2.1 := by
  have hn := h.n1
  intro n
  induction n with
  | zero =>
    intro t all hn' t0 t1 hal hr
    rw [same_Holds_L9_eq, r20_Holds_L3_eq]; unfold same_Holds_L9_B r20_Holds_L3_B
    rw [List.drop_of_length_le (by omega)]
    refine ⟨?_, ?_, ?_⟩
    · (try dsimp only); (repeat' first | (with_reducible refine G_to ?_ ?_; focus (first | omega | (unfold fits; omega) | (unfold room; (try simp only [List.length_append, List.length_cons, List.length_nil]); omega))) | (with_reducible refine both_to ?_ ?_) | (with_reducible refine itet_to ?_) | (with_reducible refine itef_to ?_) | (with_reducible refine ite_to (fun _ => ?_) (fun _ => ?_))) <;> try (exfalso; omega)
      rfl
    · (try dsimp only); (repeat' first | (with_reducible refine G_to ?_ ?_; focus (first | omega | (unfold fits; omega) | (unfold room; (try simp only [List.length_append, List.length_cons, List.length_nil]); omega))) | (with_reducible refine both_to ?_ ?_) | (with_reducible refine itet_to ?_) | (with_reducible refine itef_to ?_) | (with_reducible refine ite_to (fun _ => ?_) (fun _ => ?_))) <;> try (exfalso; omega)
      rfl
    · exact hr _ (ix_mem (by show 0 ≤ ((all.length : Int) - 1); omega) (by show ((all.length : Int) - 1) < all.length; omega))
  | succ n ih =>
    intro t all hn' t0 t1 hal hr
    obtain ⟨ho, hmb⟩ := hm t t0 (by omega)
    have hmk : mkOK g.2.1 g.2.1 1 := by unfold mkOK; omega
    have ih := ih (t + 1) (all ++ [row g (ix l t) all]) (by omega) (by omega) (by omega) (by rw [List.length_append, List.length_singleton]; omega) (fun r hr' => by
      rcases List.mem_append.1 hr' with x | x
      · exact hr r x
      · rw [List.mem_singleton.1 x]; exact row_len (by omega))
    have e : tab g all (l.drop t.toNat) = tab g (all ++ [row g (ix l t) all]) (l.drop (t + 1).toNat) := by
      rw [ix_drop t0 (by omega)]; rfl
    rw [← e] at ih
    rw [same_Holds_L9_eq, r20_Holds_L3_eq]; unfold same_Holds_L9_B r20_Holds_L3_B
    refine ⟨?_, ?_, ih.2.2⟩
    · rw [if_pos (by simp only [decide_eq_true_eq]; omega), G_pos (by omega), G_pos hmk]
      exact (same_Holds_L13_spec h t0 (by omega) hl ho hmb hal hr _ 0 _ rfl (by omega) (by omega) (by rw [List.length_replicate]; omega) (fun q q0 q1 => by omega)).trans ih.1
    · rw [if_pos (by simp only [decide_eq_true_eq]; omega), G_pos (by omega), G_pos hmk]
      refine (r20_Holds_L8_spec h t0 (by omega) hl ho hmb hal hr _ 0 _ rfl (by omega) (by omega) (by rw [List.length_replicate]; omega) (fun q q0 q1 => ?_)).trans ih.2.1
      rw [ix_replicate q0 (by omega)]
      simp; omega
end
theorem law_true (g : Gr) (l : List Mv) : law_SameHolds g l = some true := by
  unfold law_SameHolds
  refine bind_to (same_Check_spec (g := g)) ?_
  refine bind_to (r20_Check_spec (g := g)) ?_
  refine bind_to (same_Saying_spec (l := l)) ?_
  refine bind_to (r20_Saying_spec (l := l)) ?_
  have fin : ∀ e : Int, ¬ e = 0 → law_SameHolds_J10 g l [] e e = some true := by
    intro e he
    unfold law_SameHolds_J10
    rw [if_pos (decide_eq_true he), if_pos (decide_eq_true rfl)]; rfl
  by_cases h : grE g = 0
  · by_cases h2 : syE l = 0
    · have ok := grE_zero h
      have hl : 1 ≤ l.length ∧ l.length ≤ 3000 := by
        unfold syE at h2
        by_cases c : l.length < 1 ∨ 3000 < l.length
        · rw [if_pos c] at h2; omega
        · omega
      have hm := sayAt_zero (l := l) l.length 0 (by omega) (by unfold syE at h2; rw [if_neg (by omega)] at h2; exact h2)
      obtain ⟨e1, e2, e3⟩ := same_Holds_L9_spec ok hl.2 hl.1 (fun i i0 i1 => hm i i0 i1) _ 0 [] rfl (by omega) (by omega) rfl (by simp)
      generalize ix (tab g [] (l.drop (0 : Int).toNat)) ((tab g [] (l.drop (0 : Int).toNat)).length - 1) = R at e1 e2 e3
      have es : same_Holds g l = some (R, 0) := by
        unfold same_Holds
        refine bind_to (same_Check_spec (g := g)) ?_
        rw [if_neg (by simp [h])]
        refine bind_to (same_Saying_spec (l := l)) ?_
        rw [if_neg (by simp [h2])]
        exact e1
      refine bind_to es ?_
      rw [if_neg (by simp), if_neg (by simp), if_pos (by simpa using h)]
      unfold law_SameHolds_J10
      rw [if_neg (by simp [h2])]
      refine bind_to (show r20_Holds g l = some R from e2) ?_
      have hn := ok.n1
      refine bind_to (r20_Bools_spec (show R.length ≤ 2305843009213693951 by omega)) ?_
      rw [if_pos (by simp)]
      simp
    · have es : same_Holds g l = some ([], syE l) := by
        unfold same_Holds
        refine bind_to (same_Check_spec (g := g)) ?_
        rw [if_neg (by simp [h])]
        refine bind_to (same_Saying_spec (l := l)) ?_
        rw [if_pos (decide_eq_true h2)]
      refine bind_to es ?_
      rw [if_neg (by simp), if_neg (by simp), if_pos (by simpa using h)]
      exact fin _ h2
  · have es : same_Holds g l = some ([], grE g) := by
      unfold same_Holds
      refine bind_to (same_Check_spec (g := g)) ?_
      rw [if_pos (decide_eq_true h)]
    refine bind_to es ?_
    rw [if_neg (by simp), if_neg (by simp), if_neg (by simpa using h)]
    exact fin _ h

end Go.Proofs.Ytiamohlhhcafdaa.sameHoldsW
