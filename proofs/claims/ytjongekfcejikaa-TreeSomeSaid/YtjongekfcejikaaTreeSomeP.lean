/- The law 'TreeSome' of the plain functions. -/
import Derived.Test.YtjongekfcejikaaTreeSomeD
set_option maxHeartbeats 1000000
set_option maxRecDepth 20000
set_option linter.unusedSimpArgs false
set_option linter.unusedVariables false
set_option linter.unusedSectionVars false
namespace Go.Proofs.Ytjongekfcejikaa.treeSomeW
open Go Go.Ab
/-- The answer is yes just if P. -/
def Tells (o : Option Bool) (P : Prop) : Prop := ∃ b, o = some b ∧ (b = true ↔ P)
theorem Tells.of {b : Bool} {P : Prop} (h : b = true ↔ P) : Tells (some b) P := ⟨b, rfl, h⟩
theorem Tells.dec {P Q : Prop} [Decidable P] (h : P ↔ Q) : Tells (some (decide P)) Q := ⟨_, rfl, by simpa using h⟩
theorem Tells.iff {o : Option Bool} {P Q : Prop} (h : Tells o P) (k : P ↔ Q) : Tells o Q := let ⟨b, h1, h2⟩ := h; ⟨b, h1, h2.trans k⟩
theorem Tells.eq {o : Option Bool} {P : Prop} [Decidable P] (h : Tells o P) : o = some (decide P) := by
  obtain ⟨b, rfl, hb⟩ := h
  by_cases hp : P
  · simp [hp, hb.2 hp]
  · have : b = false := by cases b; rfl; exact absurd (hb.1 rfl) hp
    simp [hp, this]
theorem Tells.to {R : Type} {o : Option Bool} {P : Prop} {k1 k2 x : Option R} (h : Tells o P) (h1 : P → k1 = x) (h2 : ¬ P → k2 = x) : (o.bind fun y => if y = true then k1 else k2) = x := by
  obtain ⟨b, rfl, hb⟩ := h
  refine bind_to rfl ?_
  cases b
  · exact h2 fun hp => by simpa using hb.2 hp
  · exact h1 (hb.1 rfl)
theorem Tells.bind {R : Type} {o : Option Bool} {P : Prop} {k : Bool → Option R} {x : Option R} (h : Tells o P) (h1 : ∀ b, (b = true ↔ P) → k b = x) : o.bind k = x := by
  obtain ⟨b, rfl, hb⟩ := h
  exact h1 b hb
section
variable {α C : Type} [Inhabited α]
theorem ex_ix {l : List α} {P : α → Prop} : (∃ x ∈ l, P x) ↔ ∃ i : Int, 0 ≤ i ∧ i < l.length ∧ P (ix l i) := by
  constructor
  · rintro ⟨x, hx, hp⟩
    obtain ⟨i, hi, rfl⟩ := List.mem_iff_getElem.1 hx
    refine ⟨i, by omega, by omega, ?_⟩
    rwa [ix_eq (by omega) (by omega)]
  · rintro ⟨i, h0, h1, hp⟩
    exact ⟨_, ix_mem h0 h1, hp⟩
theorem index_loop {s : List α} {f : α → Option Bool} {L : Int → Option Int} {P : α → Prop} (hs : s.length ≤ 4611686018427387904)
    (hL : ∀ t, L t = if decide (t < (s.length : Int)) = true then G (0 ≤ t ∧ t < (s.length : Int)) ((f (ix s t)).bind fun y => if y = true then some t else G (fits (t + 1)) (L (t + 1))) else some (-1))
    (hf : ∀ x ∈ s, Tells (f x) (P x)) : ∀ (n : Nat) (t : Int), 0 ≤ t → t ≤ s.length → (s.length - t).toNat = n →
      ∃ i, L t = some i ∧ ((i = -1 ∧ ∀ j : Int, t ≤ j → j < s.length → ¬ P (ix s j)) ∨ (t ≤ i ∧ i < s.length ∧ P (ix s i) ∧ ∀ j : Int, t ≤ j → j < i → ¬ P (ix s j))) := by
  intro n
  induction n with
  | zero =>
    intro t h0 h1 hn
    refine ⟨-1, ?_, .inl ⟨rfl, fun j a b => by omega⟩⟩
    rw [hL, if_neg (by simp; omega)]
  | succ n ih =>
    intro t h0 h1 hn
    rw [hL, if_pos (by simp; omega), G_pos (by omega)]
    obtain ⟨b, hb, hbp⟩ := hf _ (ix_mem h0 (by omega : t < s.length))
    rw [hb]
    cases b with
    | true => exact ⟨t, rfl, .inr ⟨by omega, by omega, hbp.1 rfl, fun j a b => by omega⟩⟩
    | false =>
      have hnp : ¬ P (ix s t) := fun hp => by simpa using hbp.2 hp
      obtain ⟨i, hi, hc⟩ := ih (t + 1) (by omega) (by omega) (by omega)
      refine ⟨i, ?_, ?_⟩
      · refine (if_neg (by simp) : (if false = true then some t else G (fits (t + 1)) (L (t + 1))) = _).trans ?_
        rw [G_pos (by unfold fits; omega), hi]
      · rcases hc with ⟨h2, h3⟩ | ⟨h2, h3, h4, h5⟩
        · refine .inl ⟨h2, fun j a b => ?_⟩
          by_cases e : j = t
          · rw [e]; exact hnp
          · exact h3 j (by omega) b
        · refine .inr ⟨by omega, h3, h4, fun j a b => ?_⟩
          by_cases e : j = t
          · rw [e]; exact hnp
          · exact h5 j (by omega) b
theorem contains_tells {s : List α} {f : α → Option Bool} {L : Int → Option Int} {P : α → Prop}
    (hL : ∀ t, L t = if decide (t < (s.length : Int)) = true then G (0 ≤ t ∧ t < (s.length : Int)) ((f (ix s t)).bind fun y => if y = true then some t else G (fits (t + 1)) (L (t + 1))) else some (-1))
    (hs : s.length ≤ 4611686018427387904) (hf : ∀ x ∈ s, Tells (f x) (P x)) : Tells ((L 0).bind fun y => some (decide ((0 : Int) ≤ y))) (∃ x ∈ s, P x) := by
  obtain ⟨i, hi, hc⟩ := index_loop hs hL hf _ 0 (by omega) (by omega) rfl
  rw [hi]
  refine ⟨decide (0 ≤ i), rfl, ?_⟩
  rw [decide_eq_true_iff, ex_ix]
  rcases hc with ⟨h2, h3⟩ | ⟨h2, h3, h4, h5⟩
  · constructor
    · intro h; omega
    · rintro ⟨j, h0, h1, hp⟩; exact absurd hp (h3 j h0 h1)
  · exact ⟨fun _ => ⟨i, by omega, h3, h4⟩, fun _ => by omega⟩
/-- .. of what carries along what it reads. -/
theorem contains_tells2 {s : List α} {c : C} {f : α → C → Option (Bool × C)} {L : Int → C → Option (Int × C)} {P : α → Prop}
    (hL : ∀ t c, L t c = if decide (t < (s.length : Int)) = true then G (0 ≤ t ∧ t < (s.length : Int)) ((f (ix s t) c).bind fun y => if y.1 = true then some (t, y.2) else G (fits (t + 1)) (L (t + 1) y.2)) else some (-1, c))
    (hs : s.length ≤ 4611686018427387904) (hf : ∀ x ∈ s, ∃ b, f x c = some (b, c) ∧ (b = true ↔ P x)) : ∃ b, ((L 0 c).bind fun y => some (decide ((0 : Int) ≤ y.1), y.2)) = some (b, c) ∧ (b = true ↔ ∃ x ∈ s, P x) := by
  have key : ∀ (n : Nat) (t : Int), 0 ≤ t → t ≤ s.length → (s.length - t).toNat = n →
      ∃ i, L t c = some (i, c) ∧ ((i = -1 ∧ ∀ j : Int, t ≤ j → j < s.length → ¬ P (ix s j)) ∨ (t ≤ i ∧ i < s.length ∧ P (ix s i))) := by
    intro n
    induction n with
    | zero =>
      intro t h0 h1 hn
      refine ⟨-1, ?_, .inl ⟨rfl, fun j a b => by omega⟩⟩
      rw [hL, if_neg (by simp; omega)]
    | succ n ih =>
      intro t h0 h1 hn
      rw [hL, if_pos (by simp; omega), G_pos (by omega)]
      obtain ⟨b, hb, hbp⟩ := hf _ (ix_mem h0 (by omega : t < s.length))
      rw [hb]
      cases b with
      | true => exact ⟨t, rfl, .inr ⟨by omega, by omega, hbp.1 rfl⟩⟩
      | false =>
        have hnp : ¬ P (ix s t) := fun hp => by simpa using hbp.2 hp
        obtain ⟨i, hi, hc⟩ := ih (t + 1) (by omega) (by omega) (by omega)
        refine ⟨i, ?_, ?_⟩
        · refine (if_neg (by simp) : (if false = true then some (t, c) else G (fits (t + 1)) (L (t + 1) c)) = _).trans ?_
          rw [G_pos (by unfold fits; omega), hi]
        · rcases hc with ⟨h2, h3⟩ | ⟨h2, h3, h4⟩
          · refine .inl ⟨h2, fun j a b => ?_⟩
            by_cases e : j = t
            · rw [e]; exact hnp
            · exact h3 j (by omega) b
          · exact .inr ⟨by omega, h3, h4⟩
  obtain ⟨i, hi, hc⟩ := key _ 0 (by omega) (by omega) rfl
  rw [hi]
  refine ⟨decide (0 ≤ i), rfl, ?_⟩
  rw [decide_eq_true_iff, ex_ix]
  rcases hc with ⟨h2, h3⟩ | ⟨h2, h3, h4⟩
  · constructor
    · intro h; omega
    · rintro ⟨j, h0, h1, hp⟩; exact absurd hp (h3 j h0 h1)
  · exact ⟨fun _ => ⟨i, by omega, h3, h4⟩, fun _ => by omega⟩
end
/-- A loop that looks for the first fault. -/
theorem scan_to {R : Type} {len : Int} {L : Int → Option R} {bad : Int → Prop} {x : Option R} {lo : Int} (h0 : lo ≤ len)
    (hs : ∀ t, lo ≤ t → t < len → (bad t → L t = x) ∧ (¬ bad t → L t = L (t + 1))) (hf : (∀ t, lo ≤ t → t < len → ¬ bad t) → L len = x) : L lo = x := by
  have key : ∀ (n : Nat) (t : Int), lo ≤ t → t ≤ len → (len - t).toNat = n → (∀ j, lo ≤ j → j < t → ¬ bad j) → L t = x := by
    intro n
    induction n with
    | zero =>
      intro t h1 h2 hn h
      obtain rfl : t = len := by omega
      exact hf h
    | succ n ih =>
      intro t h1 h2 hn h
      by_cases hb : bad t
      · exact (hs t h1 (by omega)).1 hb
      · rw [(hs t h1 (by omega)).2 hb]
        refine ih (t + 1) (by omega) (by omega) (by omega) fun j a b => ?_
        by_cases e : j = t
        · rw [e]; exact hb
        · exact h j a (by omega)
  exact key _ lo (Int.le_refl _) h0 rfl (fun j a b => by omega)
/-- A loop that counts, with a state. -/
theorem fold_to {R S : Type} {len : Int} {L : Int → S → Option R} {f : Int → S → S} {lo : Int} {I : Int → S → Prop} {s : S} (h0 : lo ≤ len) (hI : I lo s)
    (hs : ∀ t s, lo ≤ t → t < len → I t s → L t s = L (t + 1) (f t s) ∧ I (t + 1) (f t s)) : ∃ s', I len s' ∧ L lo s = L len s' := by
  have key : ∀ (n : Nat) (t : Int) (s : S), lo ≤ t → t ≤ len → (len - t).toNat = n → I t s → ∃ s', I len s' ∧ L t s = L len s' := by
    intro n
    induction n with
    | zero =>
      intro t s h1 h2 hn h
      obtain rfl : t = len := by omega
      exact ⟨s, h, rfl⟩
    | succ n ih =>
      intro t s h1 h2 hn h
      obtain ⟨e, h3⟩ := hs t s h1 (by omega) h
      obtain ⟨s', h4, h5⟩ := ih (t + 1) _ (by omega) (by omega) (by omega) h3
      exact ⟨s', h4, e.trans h5⟩
  exact key _ lo s (Int.le_refl _) h0 rfl hI

abbrev Rl := Int × Int × Int × Int × Unit
abbrev TA := Int × Int × (List Rl) × Int × (List Int) × Unit
abbrev Nd := Int × Int × Int × Unit
def RLt (x y : Rl) : Prop := x.1 < y.1 ∨ x.1 = y.1 ∧ (x.2.1 < y.2.1 ∨ x.2.1 = y.2.1 ∧ (x.2.2.1 < y.2.2.1 ∨ x.2.2.1 = y.2.2.1 ∧ x.2.2.2.1 < y.2.2.2.1))
def TLet (t : TA) : Prop := t.1 < 1 ∨ 4 < t.1
def TSize (t : TA) : Prop := t.2.1 < 1 ∨ 300 < t.2.1 ∨ 40000 < t.2.2.1.length ∨ ¬ (t.2.2.2.2.1.length : Int) = t.2.1
def RBad (t : TA) (r : Rl) : Prop := r.1 < 0 ∨ t.1 ≤ r.1 ∨ r.2.2.2.1 < 0 ∨ t.2.1 ≤ r.2.2.2.1 ∨ (¬ (r.2.1 = -1 ∧ r.2.2.1 = -1) ∧ (r.2.1 < 0 ∨ t.2.1 ≤ r.2.1 ∨ r.2.2.1 < 0 ∨ t.2.1 ≤ r.2.2.1))
def TRul (t : TA) : Prop := ∃ x ∈ t.2.2.1, RBad t x
def TMrk (t : TA) : Prop := ∃ x ∈ t.2.2.2.2.1, ¬ x = 0 ∧ ¬ x = 1
def TOrd (t : TA) : Prop := ∃ i : Int, 1 ≤ i ∧ i < t.2.2.1.length ∧ ¬ RLt (ix t.2.2.1 (i - 1)) (ix t.2.2.1 i)
def TEnd (t : TA) : Prop := TOrd t ∨ t.2.2.2.1 ≠ 0
open Classical in
noncomputable def taE (t : TA) : Int := if TLet t then 2 else if TSize t then 1 else if TRul t then 2 else if TMrk t then 2 else if TEnd t then 3 else 0
theorem chk1 (p : Int) (t : TA) : Tells (tree_Check_1 p t) (p < 0 ∨ t.2.1 ≤ p) := by
  unfold tree_Check_1
  by_cases h : p < 0
  · rw [if_pos (decide_eq_true h)]; exact Tells.of (by simp [h])
  · rw [if_neg (by simpa using h)]; exact Tells.dec (by omega)
theorem chk2 (m : Int) : Tells (tree_Check_2 m) (¬ m = 0 ∧ ¬ m = 1) := by
  unfold tree_Check_2
  by_cases h : m = 0
  · rw [if_neg (by simp [h])]; exact Tells.of (by simp [h])
  · rw [if_pos (by simp [h])]; exact Tells.dec (by simp [h])
theorem cmp_spec (x y : Int) : cmp_Compare x y = some (if x < y then -1 else if y < x then 1 else 0) := by
  unfold cmp_Compare cmp_isNaN
  simp only [Option.bind_some, not_true, decide_false, Bool.false_eq_true, if_false, decide_eq_true_eq]
  by_cases h : x < y
  · simp [h]
  · by_cases h2 : y < x <;> simp [h, h2]
theorem or_spec (a b c d : Int) : cmp_Or [a, b, c, d] = some (if a ≠ 0 then a else if b ≠ 0 then b else if c ≠ 0 then c else d) := by
  unfold cmp_Or
  rw [cmp_Or_L3_eq]; unfold cmp_Or_L3_B
  have e0 : ix [a, b, c, d] 0 = a := rfl
  have e1 : ix [a, b, c, d] (0 + 1) = b := rfl
  have e2 : ix [a, b, c, d] (0 + 1 + 1) = c := rfl
  have e3 : ix [a, b, c, d] (0 + 1 + 1 + 1) = d := rfl
  rw [if_pos (by simp), G_pos (by simp), e0]
  by_cases h : a = 0
  · rw [if_neg (by simp [h]), G_pos (by decide), cmp_Or_L3_eq]; unfold cmp_Or_L3_B
    rw [if_pos (by simp), G_pos (by simp), e1]
    by_cases h2 : b = 0
    · rw [if_neg (by simp [h2]), G_pos (by decide), cmp_Or_L3_eq]; unfold cmp_Or_L3_B
      rw [if_pos (by simp), G_pos (by simp), e2]
      by_cases h3 : c = 0
      · rw [if_neg (by simp [h3]), G_pos (by decide), cmp_Or_L3_eq]; unfold cmp_Or_L3_B
        rw [if_pos (by simp), G_pos (by simp), e3]
        by_cases h4 : d = 0
        · rw [if_neg (by simp [h4]), G_pos (by decide), cmp_Or_L3_eq]; unfold cmp_Or_L3_B
          rw [if_neg (by simp)]
          simp [h, h2, h3, h4]
        · rw [if_pos (by simp [h4])]; simp [h, h2, h3]
      · rw [if_pos (by simp [h3])]; simp [h, h2, h3]
    · rw [if_pos (by simp [h2])]; simp [h, h2]
  · rw [if_pos (by simp [h])]; simp [h]
theorem order_spec (x y : Rl) : ∃ o, tree_Order x y = some o ∧ (0 ≤ o ↔ ¬ RLt x y) := by
  unfold tree_Order RLt
  rw [cmp_spec, cmp_spec, cmp_spec, cmp_spec]
  simp only [Option.bind_some]
  rw [or_spec]
  refine ⟨_, rfl, ?_⟩
  repeat' split
  all_goals omega
theorem ahead_tells (x y : Rl) : Tells (r12_Ahead x y) (RLt x y) := by
  unfold r12_Ahead RLt
  by_cases h : x.1 = y.1
  · rw [if_neg (by simp [h])]
    by_cases h2 : x.2.1 = y.2.1
    · rw [if_neg (by simp [h2])]
      by_cases h3 : x.2.2.1 = y.2.2.1
      · rw [if_neg (by simp [h3])]; exact Tells.dec (by omega)
      · rw [if_pos (by simp [h3])]; exact Tells.dec (by omega)
    · rw [if_pos (by simp [h2])]; exact Tells.dec (by omega)
  · rw [if_pos (by simp [h])]; exact Tells.dec (by omega)
section
variable {t : TA}
theorem J9_bad {t1 : Int} {r7 : Int → Option Int} {leaf : Bool} (hl : leaf = true ↔ ((ix t.2.2.1 t1).2.1 = -1 ∧ (ix t.2.2.1 t1).2.2.1 = -1)) (hb : RBad t (ix t.2.2.1 t1)) : tree_Check_J9 t t1 r7 leaf = some 2 := by
  unfold tree_Check_J9
  unfold RBad at hb
  generalize ix t.2.2.1 t1 = r at *
  (try dsimp only); (repeat' first | (with_reducible refine G_to ?_ ?_; focus (first | omega | (unfold fits; omega) | (unfold room; (try simp only [List.length_append, List.length_cons, List.length_nil]); omega))) | (with_reducible refine both_to ?_ ?_) | (with_reducible refine itet_to ?_) | (with_reducible refine itef_to ?_) | (with_reducible refine ite_to (fun _ => ?_) (fun _ => ?_))) <;> try (exfalso; omega)
  all_goals first | rfl | skip
  refine Tells.to (chk1 _ _) (fun _ => rfl) (fun h1 => ?_)
  simp only at h1
  cases leaf with
  | false =>
    rw [if_pos (by decide)]
    refine Tells.to (chk1 _ _) (fun _ => rfl) (fun h2 => ?_)
    refine Tells.to (chk1 _ _) (fun _ => rfl) (fun h3 => ?_)
    exfalso
    simp only at h2 h3
    omega
  | true =>
    exfalso
    have := hl.1 rfl
    omega
theorem J9_good {t1 : Int} {r7 : Int → Option Int} {leaf : Bool} (hl : leaf = true ↔ ((ix t.2.2.1 t1).2.1 = -1 ∧ (ix t.2.2.1 t1).2.2.1 = -1)) (hb : ¬ RBad t (ix t.2.2.1 t1)) (hf : fits (t1 + 1)) : tree_Check_J9 t t1 r7 leaf = r7 (t1 + 1) := by
  unfold tree_Check_J9
  unfold RBad at hb
  generalize ix t.2.2.1 t1 = r at *
  (try dsimp only); (repeat' first | (with_reducible refine G_to ?_ ?_; focus (first | omega | (unfold fits; omega) | (unfold room; (try simp only [List.length_append, List.length_cons, List.length_nil]); omega))) | (with_reducible refine both_to ?_ ?_) | (with_reducible refine itet_to ?_) | (with_reducible refine itef_to ?_) | (with_reducible refine ite_to (fun _ => ?_) (fun _ => ?_))) <;> try (exfalso; omega)
  refine Tells.to (chk1 _ _) (fun h => ?_) (fun h1 => ?_)
  · exfalso; simp only at h; omega
  cases leaf with
  | false =>
    rw [if_pos (by decide)]
    have hnl : ¬ (r.2.1 = -1 ∧ r.2.2.1 = -1) := fun h => by cases hl.2 h
    refine Tells.to (chk1 _ _) (fun h => ?_) (fun h2 => ?_)
    · exfalso; simp only at h; omega
    refine Tells.to (chk1 _ _) (fun h => ?_) (fun h3 => ?_)
    · exfalso; simp only at h; omega
    rw [G_pos hf]
  | true =>
    rw [if_neg (by decide), G_pos hf]
theorem tree_Check_spec : tree_Check t = some (taE t) := by
  unfold tree_Check taE
  by_cases c1 : TLet t
  · rw [if_pos c1]; unfold TLet at c1
    (try dsimp only); (repeat' first | (with_reducible refine G_to ?_ ?_; focus (first | omega | (unfold fits; omega) | (unfold room; (try simp only [List.length_append, List.length_cons, List.length_nil]); omega))) | (with_reducible refine both_to ?_ ?_) | (with_reducible refine itet_to ?_) | (with_reducible refine itef_to ?_) | (with_reducible refine ite_to (fun _ => ?_) (fun _ => ?_))) <;> try (exfalso; omega)
    all_goals rfl
  rw [if_neg c1]; unfold TLet at c1
  by_cases c2 : TSize t
  · rw [if_pos c2]; unfold TSize at c2
    (try dsimp only); (repeat' first | (with_reducible refine G_to ?_ ?_; focus (first | omega | (unfold fits; omega) | (unfold room; (try simp only [List.length_append, List.length_cons, List.length_nil]); omega))) | (with_reducible refine both_to ?_ ?_) | (with_reducible refine itet_to ?_) | (with_reducible refine itef_to ?_) | (with_reducible refine ite_to (fun _ => ?_) (fun _ => ?_))) <;> try (exfalso; omega)
    all_goals rfl
  rw [if_neg c2]; unfold TSize at c2
  (try dsimp only); (repeat' first | (with_reducible refine G_to ?_ ?_; focus (first | omega | (unfold fits; omega) | (unfold room; (try simp only [List.length_append, List.length_cons, List.length_nil]); omega))) | (with_reducible refine both_to ?_ ?_) | (with_reducible refine itet_to ?_) | (with_reducible refine itef_to ?_) | (with_reducible refine ite_to (fun _ => ?_) (fun _ => ?_))) <;> try (exfalso; omega)
  refine scan_to (len := (t.2.2.1.length : Int)) (bad := fun i => RBad t (ix t.2.2.1 i)) (by omega) (fun i h0 h1 => ⟨fun hb => ?_, fun hb => ?_⟩) (fun hh => ?_)
  · rw [if_pos (show TRul t from ex_ix.2 ⟨i, h0, h1, hb⟩)]
    rw [tree_Check_L7_eq]; unfold tree_Check_L7_B
    (try dsimp only); (repeat' first | (with_reducible refine G_to ?_ ?_; focus (first | omega | (unfold fits; omega) | (unfold room; (try simp only [List.length_append, List.length_cons, List.length_nil]); omega))) | (with_reducible refine both_to ?_ ?_) | (with_reducible refine itet_to ?_) | (with_reducible refine itef_to ?_) | (with_reducible refine ite_to (fun _ => ?_) (fun _ => ?_))) <;> try (exfalso; omega)
    · rename_i h; exact J9_bad (by simp [h]) hb
    · rename_i h; exact J9_bad (by simp [h]) hb
  · conv => lhs; rw [tree_Check_L7_eq]; unfold tree_Check_L7_B
    (try dsimp only); (repeat' first | (with_reducible refine G_to ?_ ?_; focus (first | omega | (unfold fits; omega) | (unfold room; (try simp only [List.length_append, List.length_cons, List.length_nil]); omega))) | (with_reducible refine both_to ?_ ?_) | (with_reducible refine itet_to ?_) | (with_reducible refine itef_to ?_) | (with_reducible refine ite_to (fun _ => ?_) (fun _ => ?_))) <;> try (exfalso; omega)
    · rename_i h; exact J9_good (by simp [h]) hb (by unfold fits; omega)
    · rename_i h; exact J9_good (by simp [h]) hb (by unfold fits; omega)
  rw [if_neg (show ¬ TRul t from fun h => by obtain ⟨i, i0, i1, i2⟩ := ex_ix.1 h; exact hh i i0 i1 i2)]
  rw [tree_Check_L7_eq]; unfold tree_Check_L7_B
  rw [if_neg (by simp)]
  have hc : Tells (slices_ContainsFunc t.2.2.2.2.1) (TMrk t) := contains_tells (f := tree_Check_2) (slices_IndexFunc_L2_eq t.2.2.2.2.1) (by omega) (fun x _ => chk2 x)
  refine Tells.to hc (fun h => by rw [if_pos h]) (fun c4 => ?_)
  rw [if_neg c4]
  refine scan_to (len := (t.2.2.1.length : Int)) (bad := fun i => 1 ≤ i ∧ ¬ RLt (ix t.2.2.1 (i - 1)) (ix t.2.2.1 i)) (by omega) (fun i h0 h1 => ⟨fun hb => ?_, fun hb => ?_⟩) (fun hh => ?_)
  · rw [if_pos (show TEnd t from .inl ⟨i, hb.1, h1, hb.2⟩)]
    rw [tree_Check_L16_eq]; unfold tree_Check_L16_B
    (try dsimp only); (repeat' first | (with_reducible refine G_to ?_ ?_; focus (first | omega | (unfold fits; omega) | (unfold room; (try simp only [List.length_append, List.length_cons, List.length_nil]); omega))) | (with_reducible refine both_to ?_ ?_) | (with_reducible refine itet_to ?_) | (with_reducible refine itef_to ?_) | (with_reducible refine ite_to (fun _ => ?_) (fun _ => ?_))) <;> try (exfalso; omega)
    obtain ⟨o, e, ho⟩ := order_spec (ix t.2.2.1 (i - 1)) (ix t.2.2.1 i)
    refine bind_to e ?_
    rw [if_pos (decide_eq_true (ho.2 hb.2))]
  · conv => lhs; rw [tree_Check_L16_eq]; unfold tree_Check_L16_B
    by_cases h : 0 < i
    · (try dsimp only); (repeat' first | (with_reducible refine G_to ?_ ?_; focus (first | omega | (unfold fits; omega) | (unfold room; (try simp only [List.length_append, List.length_cons, List.length_nil]); omega))) | (with_reducible refine both_to ?_ ?_) | (with_reducible refine itet_to ?_) | (with_reducible refine itef_to ?_) | (with_reducible refine ite_to (fun _ => ?_) (fun _ => ?_))) <;> try (exfalso; omega)
      obtain ⟨o, e, ho⟩ := order_spec (ix t.2.2.1 (i - 1)) (ix t.2.2.1 i)
      refine bind_to e ?_
      rw [if_neg (by rw [decide_eq_true_iff, ho]; exact fun h => hb ⟨by omega, h⟩), G_pos (by unfold fits; omega)]
    · (try dsimp only); (repeat' first | (with_reducible refine G_to ?_ ?_; focus (first | omega | (unfold fits; omega) | (unfold room; (try simp only [List.length_append, List.length_cons, List.length_nil]); omega))) | (with_reducible refine both_to ?_ ?_) | (with_reducible refine itet_to ?_) | (with_reducible refine itef_to ?_) | (with_reducible refine ite_to (fun _ => ?_) (fun _ => ?_))) <;> try (exfalso; omega)
      all_goals rfl
  · have c5 : ¬ TOrd t := fun ⟨i, i0, i1, i2⟩ => hh i (by omega) i1 ⟨i0, i2⟩
    rw [tree_Check_L16_eq]; unfold tree_Check_L16_B
    rw [if_neg (by simp)]
    by_cases c6 : t.2.2.2.1 = 0
    · rw [if_neg (by simp [c6]), if_neg (show ¬ TEnd t by unfold TEnd; simp [c5, c6])]
    · rw [if_pos (by simp [c6]), if_pos (show TEnd t from .inr c6)]
theorem r12_J10 {i : Int} {r6 : Int → Option Int} {leaf both : Bool} (hl : leaf = true ↔ ((ix t.2.2.1 i).2.1 = -1 ∧ (ix t.2.2.1 i).2.2.1 = -1))
    (hb : both = true ↔ (0 ≤ (ix t.2.2.1 i).2.1 ∧ (ix t.2.2.1 i).2.1 < t.2.1 ∧ 0 ≤ (ix t.2.2.1 i).2.2.1 ∧ (ix t.2.2.1 i).2.2.1 < t.2.1)) (hf : fits (i + 1)) :
    (RBad t (ix t.2.2.1 i) → r12_Check_J10 t i r6 leaf both = some 2) ∧ (¬ RBad t (ix t.2.2.1 i) → r12_Check_J10 t i r6 leaf both = r6 (i + 1)) := by
  unfold r12_Check_J10 RBad
  generalize ix t.2.2.1 i = r at *
  constructor <;> intro h
  · (try dsimp only); (repeat' first | (with_reducible refine G_to ?_ ?_; focus (first | omega | (unfold fits; omega) | (unfold room; (try simp only [List.length_append, List.length_cons, List.length_nil]); omega))) | (with_reducible refine both_to ?_ ?_) | (with_reducible refine itet_to ?_) | (with_reducible refine itef_to ?_) | (with_reducible refine ite_to (fun _ => ?_) (fun _ => ?_))) <;> try (exfalso; omega)
    all_goals first | rfl | skip
    cases leaf with
    | true => exfalso; have := hl.1 rfl; omega
    | false =>
      rw [if_pos (by decide)]
      cases both with
      | false => rfl
      | true => exfalso; have := hb.1 rfl; omega
  · (try dsimp only); (repeat' first | (with_reducible refine G_to ?_ ?_; focus (first | omega | (unfold fits; omega) | (unfold room; (try simp only [List.length_append, List.length_cons, List.length_nil]); omega))) | (with_reducible refine both_to ?_ ?_) | (with_reducible refine itet_to ?_) | (with_reducible refine itef_to ?_) | (with_reducible refine ite_to (fun _ => ?_) (fun _ => ?_))) <;> try (exfalso; omega)
    cases leaf with
    | true => rw [if_neg (by decide), G_pos hf]
    | false =>
      have : ¬ (r.2.1 = -1 ∧ r.2.2.1 = -1) := fun h => by cases hl.2 h
      have : both = true := hb.2 (by omega)
      subst this
      rw [if_pos (by decide), if_neg (by decide), G_pos hf]
theorem r12_J9 {i : Int} {r6 : Int → Option Int} {leaf : Bool} (hl : leaf = true ↔ ((ix t.2.2.1 i).2.1 = -1 ∧ (ix t.2.2.1 i).2.2.1 = -1)) (hf : fits (i + 1)) :
    (RBad t (ix t.2.2.1 i) → r12_Check_J9 t i r6 leaf = some 2) ∧ (¬ RBad t (ix t.2.2.1 i) → r12_Check_J9 t i r6 leaf = r6 (i + 1)) := by
  have key : ∃ both, r12_Check_J9 t i r6 leaf = r12_Check_J10 t i r6 leaf both ∧ (both = true ↔ (0 ≤ (ix t.2.2.1 i).2.1 ∧ (ix t.2.2.1 i).2.1 < t.2.1 ∧ 0 ≤ (ix t.2.2.1 i).2.2.1 ∧ (ix t.2.2.1 i).2.2.1 < t.2.1)) := by
    unfold r12_Check_J9
    by_cases h1 : 0 ≤ (ix t.2.2.1 i).2.1
    · rw [if_pos (decide_eq_true h1)]
      by_cases h2 : (ix t.2.2.1 i).2.1 < t.2.1
      · rw [if_pos (decide_eq_true h2)]
        by_cases h3 : 0 ≤ (ix t.2.2.1 i).2.2.1
        · rw [if_pos (decide_eq_true h3)]; exact ⟨_, rfl, by simp [h1, h2, h3]⟩
        · rw [if_neg (by simpa using h3)]; exact ⟨false, rfl, by simp; omega⟩
      · rw [if_neg (by simpa using h2)]; exact ⟨false, rfl, by simp; omega⟩
    · rw [if_neg (by simpa using h1)]; exact ⟨false, rfl, by simp; omega⟩
  obtain ⟨both, e, hb⟩ := key
  rw [e]
  exact r12_J10 hl hb hf
theorem r12_Check_spec : r12_Check t = some (taE t) := by
  unfold r12_Check taE
  by_cases c1 : TLet t
  · rw [if_pos c1]; unfold TLet at c1
    (try dsimp only); (repeat' first | (with_reducible refine G_to ?_ ?_; focus (first | omega | (unfold fits; omega) | (unfold room; (try simp only [List.length_append, List.length_cons, List.length_nil]); omega))) | (with_reducible refine both_to ?_ ?_) | (with_reducible refine itet_to ?_) | (with_reducible refine itef_to ?_) | (with_reducible refine ite_to (fun _ => ?_) (fun _ => ?_))) <;> try (exfalso; omega)
    all_goals rfl
  rw [if_neg c1]; unfold TLet at c1
  by_cases c2 : TSize t
  · rw [if_pos c2]; unfold TSize at c2
    (try dsimp only); (repeat' first | (with_reducible refine G_to ?_ ?_; focus (first | omega | (unfold fits; omega) | (unfold room; (try simp only [List.length_append, List.length_cons, List.length_nil]); omega))) | (with_reducible refine both_to ?_ ?_) | (with_reducible refine itet_to ?_) | (with_reducible refine itef_to ?_) | (with_reducible refine ite_to (fun _ => ?_) (fun _ => ?_))) <;> try (exfalso; omega)
    all_goals rfl
  rw [if_neg c2]; unfold TSize at c2
  (try dsimp only); (repeat' first | (with_reducible refine G_to ?_ ?_; focus (first | omega | (unfold fits; omega) | (unfold room; (try simp only [List.length_append, List.length_cons, List.length_nil]); omega))) | (with_reducible refine both_to ?_ ?_) | (with_reducible refine itet_to ?_) | (with_reducible refine itef_to ?_) | (with_reducible refine ite_to (fun _ => ?_) (fun _ => ?_))) <;> try (exfalso; omega)
  refine scan_to (len := (t.2.2.1.length : Int)) (bad := fun i => RBad t (ix t.2.2.1 i)) (by omega) (fun i h0 h1 => ⟨fun hb => ?_, fun hb => ?_⟩) (fun hh => ?_)
  · rw [if_pos (show TRul t from ex_ix.2 ⟨i, h0, h1, hb⟩)]
    rw [r12_Check_L6_eq]; unfold r12_Check_L6_B
    (try dsimp only); (repeat' first | (with_reducible refine G_to ?_ ?_; focus (first | omega | (unfold fits; omega) | (unfold room; (try simp only [List.length_append, List.length_cons, List.length_nil]); omega))) | (with_reducible refine both_to ?_ ?_) | (with_reducible refine itet_to ?_) | (with_reducible refine itef_to ?_) | (with_reducible refine ite_to (fun _ => ?_) (fun _ => ?_))) <;> try (exfalso; omega)
    · rename_i h; exact (r12_J9 (by simp [h]) (by unfold fits; omega)).1 hb
    · rename_i h; exact (r12_J9 (by simp [h]) (by unfold fits; omega)).1 hb
  · conv => lhs; rw [r12_Check_L6_eq]; unfold r12_Check_L6_B
    (try dsimp only); (repeat' first | (with_reducible refine G_to ?_ ?_; focus (first | omega | (unfold fits; omega) | (unfold room; (try simp only [List.length_append, List.length_cons, List.length_nil]); omega))) | (with_reducible refine both_to ?_ ?_) | (with_reducible refine itet_to ?_) | (with_reducible refine itef_to ?_) | (with_reducible refine ite_to (fun _ => ?_) (fun _ => ?_))) <;> try (exfalso; omega)
    · rename_i h; exact (r12_J9 (by simp [h]) (by unfold fits; omega)).2 hb
    · rename_i h; exact (r12_J9 (by simp [h]) (by unfold fits; omega)).2 hb
  rw [if_neg (show ¬ TRul t from fun h => by obtain ⟨i, i0, i1, i2⟩ := ex_ix.1 h; exact hh i i0 i1 i2)]
  rw [r12_Check_L6_eq]; unfold r12_Check_L6_B
  rw [if_neg (by simp)]
  refine scan_to (len := (t.2.2.2.2.1.length : Int)) (bad := fun i => ¬ ix t.2.2.2.2.1 i = 0 ∧ ¬ ix t.2.2.2.2.1 i = 1) (by omega) (fun i h0 h1 => ⟨fun hb => ?_, fun hb => ?_⟩) (fun hh => ?_)
  · rw [if_pos (show TMrk t from ex_ix.2 ⟨i, h0, h1, hb⟩)]
    rw [r12_Check_L14_eq]; unfold r12_Check_L14_B
    (try dsimp only); (repeat' first | (with_reducible refine G_to ?_ ?_; focus (first | omega | (unfold fits; omega) | (unfold room; (try simp only [List.length_append, List.length_cons, List.length_nil]); omega))) | (with_reducible refine both_to ?_ ?_) | (with_reducible refine itet_to ?_) | (with_reducible refine itef_to ?_) | (with_reducible refine ite_to (fun _ => ?_) (fun _ => ?_))) <;> try (exfalso; omega)
    all_goals rfl
  · conv => lhs; rw [r12_Check_L14_eq]; unfold r12_Check_L14_B
    (try dsimp only); (repeat' first | (with_reducible refine G_to ?_ ?_; focus (first | omega | (unfold fits; omega) | (unfold room; (try simp only [List.length_append, List.length_cons, List.length_nil]); omega))) | (with_reducible refine both_to ?_ ?_) | (with_reducible refine itet_to ?_) | (with_reducible refine itef_to ?_) | (with_reducible refine ite_to (fun _ => ?_) (fun _ => ?_))) <;> try (exfalso; omega)
    all_goals rfl
  rw [if_neg (show ¬ TMrk t from fun h => by obtain ⟨i, i0, i1, i2⟩ := ex_ix.1 h; exact hh i i0 i1 i2)]
  rw [r12_Check_L14_eq]; unfold r12_Check_L14_B
  rw [if_neg (by simp)]
  have fin : ∀ n : Int, (t.2.2.1.length : Int) ≤ n → r12_Check_L19 t n = some (if t.2.2.2.1 = 0 then 0 else 3) := by
    intro n hn
    rw [r12_Check_L19_eq]; unfold r12_Check_L19_B
    rw [if_neg (by simp only [decide_eq_true_eq]; omega)]
    by_cases c6 : t.2.2.2.1 = 0
    · rw [if_neg (by simp [c6]), if_pos c6]
    · rw [if_pos (by simp [c6]), if_neg c6]
  have fin2 : ¬ TOrd t → ∀ n : Int, (t.2.2.1.length : Int) ≤ n → r12_Check_L19 t n = some (@ite _ (TEnd t) (Classical.propDecidable _) 3 0) := by
    intro c5 n hn
    rw [fin n hn]
    by_cases c6 : t.2.2.2.1 = 0
    · rw [if_pos c6, if_neg (show ¬ TEnd t by unfold TEnd; simp [c5, c6])]
    · rw [if_neg c6, if_pos (show TEnd t from .inr c6)]
  by_cases c4 : t.2.2.1.length = 0
  · exact fin2 (fun ⟨i, i0, i1, i2⟩ => by omega) 1 (by omega)
  refine scan_to (len := (t.2.2.1.length : Int)) (bad := fun i => ¬ RLt (ix t.2.2.1 (i - 1)) (ix t.2.2.1 i)) (by omega) (fun i h0 h1 => ⟨fun hb => ?_, fun hb => ?_⟩) (fun hh => ?_)
  · rw [if_pos (show TEnd t from .inl ⟨i, h0, h1, hb⟩)]
    rw [r12_Check_L19_eq]; unfold r12_Check_L19_B
    (try dsimp only); (repeat' first | (with_reducible refine G_to ?_ ?_; focus (first | omega | (unfold fits; omega) | (unfold room; (try simp only [List.length_append, List.length_cons, List.length_nil]); omega))) | (with_reducible refine both_to ?_ ?_) | (with_reducible refine itet_to ?_) | (with_reducible refine itef_to ?_) | (with_reducible refine ite_to (fun _ => ?_) (fun _ => ?_))) <;> try (exfalso; omega)
    obtain ⟨o, e, ho⟩ := ahead_tells (ix t.2.2.1 (i - 1)) (ix t.2.2.1 i)
    refine bind_to e ?_
    rw [if_pos (by cases o; rfl; exact absurd (ho.1 rfl) hb)]
  · conv => lhs; rw [r12_Check_L19_eq]; unfold r12_Check_L19_B
    (try dsimp only); (repeat' first | (with_reducible refine G_to ?_ ?_; focus (first | omega | (unfold fits; omega) | (unfold room; (try simp only [List.length_append, List.length_cons, List.length_nil]); omega))) | (with_reducible refine both_to ?_ ?_) | (with_reducible refine itet_to ?_) | (with_reducible refine itef_to ?_) | (with_reducible refine ite_to (fun _ => ?_) (fun _ => ?_))) <;> try (exfalso; omega)
    obtain ⟨o, e, ho⟩ := ahead_tells (ix t.2.2.1 (i - 1)) (ix t.2.2.1 i)
    refine bind_to e ?_
    rw [if_neg (by rw [ho.2 (Classical.not_not.1 hb)]; decide), G_pos (by unfold fits; omega)]
  · exact fin2 (fun ⟨i, i0, i1, i2⟩ => hh i (by omega) i1 i2) _ (Int.le_refl _)
end


/- trees -/
section
variable {l : List Nd} {le : Int}
open Classical in
/-- What is wrong with what is left of a tree. -/
noncomputable def trF (l : List Nd) (le : Int) : Nat → Int → List Bool → Int
  | 0, _, c => if ∃ j : Int, 0 ≤ j ∧ j < l.length - 1 ∧ ix c j = false then 3 else 0
  | n + 1, i, c => if (ix l i).1 < 0 ∨ le ≤ (ix l i).1 then 2 else
    if (ix l i).2.1 = -1 ∧ (ix l i).2.2.1 = -1 then trF l le n (i + 1) c else
    if (ix l i).2.1 < 0 ∨ i ≤ (ix l i).2.1 ∨ ix c (ix l i).2.1 = true ∨ (ix l i).2.2.1 < 0 ∨ i ≤ (ix l i).2.2.1 ∨ ix (c.set (ix l i).2.1.toNat true) (ix l i).2.2.1 = true then 3 else
    trF l le n (i + 1) ((c.set (ix l i).2.1.toNat true).set (ix l i).2.2.1.toNat true)
theorem r12_Tree_L21_spec {c : List Bool} (hl : c.length = l.length) (h60 : l.length ≤ 60) (h1 : 1 ≤ l.length) : r12_Tree_L21 (l, ()) c 0 = some (trF l le 0 0 c) := by
  unfold trF
  refine scan_to (len := (l.length : Int) - 1) (bad := fun i => ix c i = false) (by omega) (fun i h0 h2 => ⟨fun hb => ?_, fun hb => ?_⟩) (fun hh => ?_)
  · rw [if_pos ⟨i, h0, h2, hb⟩]
    rw [r12_Tree_L21_eq]; unfold r12_Tree_L21_B
    (try dsimp only); (repeat' first | (with_reducible refine G_to ?_ ?_; focus (first | omega | (unfold fits; omega) | (unfold room; (try simp only [List.length_append, List.length_cons, List.length_nil]); omega))) | (with_reducible refine both_to ?_ ?_) | (with_reducible refine itet_to ?_) | (with_reducible refine itef_to ?_) | (with_reducible refine ite_to (fun _ => ?_) (fun _ => ?_))) <;> try (exfalso; omega)
    rw [hb]; rfl
  · conv => lhs; rw [r12_Tree_L21_eq]; unfold r12_Tree_L21_B
    (try dsimp only); (repeat' first | (with_reducible refine G_to ?_ ?_; focus (first | omega | (unfold fits; omega) | (unfold room; (try simp only [List.length_append, List.length_cons, List.length_nil]); omega))) | (with_reducible refine both_to ?_ ?_) | (with_reducible refine itet_to ?_) | (with_reducible refine itef_to ?_) | (with_reducible refine ite_to (fun _ => ?_) (fun _ => ?_))) <;> try (exfalso; omega)
    have hb : ix c i = true := by cases h : ix c i; exact absurd h hb; rfl
    rw [hb, if_neg (by decide), G_pos (by unfold fits; omega)]
  · rw [if_neg (fun ⟨j, j0, j1, j2⟩ => hh j j0 j1 j2)]
    rw [r12_Tree_L21_eq]; unfold r12_Tree_L21_B
    (try dsimp only); (repeat' first | (with_reducible refine G_to ?_ ?_; focus (first | omega | (unfold fits; omega) | (unfold room; (try simp only [List.length_append, List.length_cons, List.length_nil]); omega))) | (with_reducible refine both_to ?_ ?_) | (with_reducible refine itet_to ?_) | (with_reducible refine itef_to ?_) | (with_reducible refine ite_to (fun _ => ?_) (fun _ => ?_))) <;> try (exfalso; omega)
    rfl
theorem nodes_ok : ∀ (n : Nat) (i : Int) (c : List Bool), trF l le n i c = 0 → ∀ j : Int, i ≤ j → j < i + n → 0 ≤ (ix l j).1 ∧ (ix l j).1 < le ∧ ((ix l j).2.1 = -1 ∧ (ix l j).2.2.1 = -1 ∨ 0 ≤ (ix l j).2.1 ∧ (ix l j).2.1 < j ∧ 0 ≤ (ix l j).2.2.1 ∧ (ix l j).2.2.1 < j) := by
  intro n
  induction n with
  | zero => intro i c _ j h1 h2; omega
  | succ n ih =>
    intro i c h j h1 h2
    unfold trF at h
    by_cases c1 : (ix l i).1 < 0 ∨ le ≤ (ix l i).1
    · rw [if_pos c1] at h; cases h
    rw [if_neg c1] at h
    by_cases c2 : (ix l i).2.1 = -1 ∧ (ix l i).2.2.1 = -1
    · rw [if_pos c2] at h
      by_cases e : j = i
      · subst e; exact ⟨by omega, by omega, .inl c2⟩
      · exact ih _ _ h j (by omega) (by omega)
    rw [if_neg c2] at h
    by_cases c3 : (ix l i).2.1 < 0 ∨ i ≤ (ix l i).2.1 ∨ ix c (ix l i).2.1 = true ∨ (ix l i).2.2.1 < 0 ∨ i ≤ (ix l i).2.2.1 ∨ ix (c.set (ix l i).2.1.toNat true) (ix l i).2.2.1 = true
    · rw [if_pos c3] at h; cases h
    rw [if_neg c3] at h
    by_cases e : j = i
    · subst e; exact ⟨by omega, by omega, .inr (by omega)⟩
    · exact ih _ _ h j (by omega) (by omega)
theorem r12_J13 {i : Int} {c : List Bool} {r8 : Int → List Bool → Option Int} (hl : c.length = l.length) (hi : i < l.length) (hf : fits (i + 1)) :
    r12_Tree_J13 (l, ()) i c r8 = if (ix l i).2.1 < 0 ∨ i ≤ (ix l i).2.1 ∨ ix c (ix l i).2.1 = true ∨ (ix l i).2.2.1 < 0 ∨ i ≤ (ix l i).2.2.1 ∨ ix (c.set (ix l i).2.1.toNat true) (ix l i).2.2.1 = true then some 3 else r8 (i + 1) ((c.set (ix l i).2.1.toNat true).set (ix l i).2.2.1.toNat true) := by
  unfold r12_Tree_J13
  generalize ix l i = x at *
  have e : (c.set x.2.1.toNat true).length = l.length := by rw [List.length_set]; exact hl
  (try dsimp only); (repeat' first | (with_reducible refine G_to ?_ ?_; focus (first | omega | (unfold fits; omega) | (unfold room; (try simp only [List.length_append, List.length_cons, List.length_nil]); omega))) | (with_reducible refine both_to ?_ ?_) | (with_reducible refine itet_to ?_) | (with_reducible refine itef_to ?_) | (with_reducible refine ite_to (fun _ => ?_) (fun _ => ?_))) <;> try (exfalso; omega)
  · rw [if_pos (.inl ‹_›)]
  · rw [if_pos (.inr (.inl ‹_›))]
  by_cases c1 : ix c x.2.1 = true
  · rw [if_pos c1, if_pos (.inr (.inr (.inl c1)))]
  rw [if_neg c1]
  (try dsimp only); (repeat' first | (with_reducible refine G_to ?_ ?_; focus (first | omega | (unfold fits; omega) | (unfold room; (try simp only [List.length_append, List.length_cons, List.length_nil]); omega))) | (with_reducible refine both_to ?_ ?_) | (with_reducible refine itet_to ?_) | (with_reducible refine itef_to ?_) | (with_reducible refine ite_to (fun _ => ?_) (fun _ => ?_))) <;> try (exfalso; omega)
  · rw [if_pos (.inr (.inr (.inr (.inl ‹_›))))]
  · rw [if_pos (.inr (.inr (.inr (.inr (.inl ‹_›)))))]
  by_cases c2 : ix (c.set x.2.1.toNat true) x.2.2.1 = true
  · rw [if_pos c2, if_pos (.inr (.inr (.inr (.inr (.inr c2)))))]
  rw [if_neg c2]
  (try dsimp only); (repeat' first | (with_reducible refine G_to ?_ ?_; focus (first | omega | (unfold fits; omega) | (unfold room; (try simp only [List.length_append, List.length_cons, List.length_nil]); omega))) | (with_reducible refine both_to ?_ ?_) | (with_reducible refine itet_to ?_) | (with_reducible refine itef_to ?_) | (with_reducible refine ite_to (fun _ => ?_) (fun _ => ?_))) <;> try (exfalso; omega)
  rw [if_neg (by rintro (h | h | h | h | h | h) <;> first | omega | exact c1 h | exact c2 h)]
theorem r12_Tree_L8_spec (h60 : l.length ≤ 60) (h1 : 1 ≤ l.length) : ∀ (n : Nat) (i : Int) (c : List Bool), 0 ≤ i → i + n = l.length → c.length = l.length → r12_Tree_L8 le (l, ()) i c = some (trF l le n i c) := by
  intro n
  induction n with
  | zero =>
    intro i c h0 hn hl
    rw [r12_Tree_L8_eq]; unfold r12_Tree_L8_B
    rw [if_neg (by simp only [decide_eq_true_eq]; omega)]
    exact r12_Tree_L21_spec (le := le) hl h60 h1
  | succ n ih =>
    intro i c h0 hn hl
    rw [r12_Tree_L8_eq]; unfold r12_Tree_L8_B trF
    have h13 : ¬ ((ix l i).2.1 = -1 ∧ (ix l i).2.2.1 = -1) → ¬ ((ix l i).1 < 0 ∨ le ≤ (ix l i).1) → r12_Tree_J13 (l, ()) i c (fun i c => r12_Tree_L8 le (l, ()) i c) = some (if (ix l i).1 < 0 ∨ le ≤ (ix l i).1 then 2 else
        if (ix l i).2.1 = -1 ∧ (ix l i).2.2.1 = -1 then trF l le n (i + 1) c else
        if (ix l i).2.1 < 0 ∨ i ≤ (ix l i).2.1 ∨ ix c (ix l i).2.1 = true ∨ (ix l i).2.2.1 < 0 ∨ i ≤ (ix l i).2.2.1 ∨ ix (c.set (ix l i).2.1.toNat true) (ix l i).2.2.1 = true then 3 else
        trF l le n (i + 1) ((c.set (ix l i).2.1.toNat true).set (ix l i).2.2.1.toNat true)) := by
      intro q1 q2
      rw [r12_J13 hl (by omega) (by unfold fits; omega), if_neg q2, if_neg q1]
      split
      · rfl
      · exact ih _ _ (by omega) (by omega) (by simp [hl])
    (try dsimp only); (repeat' first | (with_reducible refine G_to ?_ ?_; focus (first | omega | (unfold fits; omega) | (unfold room; (try simp only [List.length_append, List.length_cons, List.length_nil]); omega))) | (with_reducible refine both_to ?_ ?_) | (with_reducible refine itet_to ?_) | (with_reducible refine itef_to ?_) | (with_reducible refine ite_to (fun _ => ?_) (fun _ => ?_))) <;> try (exfalso; omega)
    · rw [if_pos (.inl ‹_›)]
    · rw [if_pos (.inr ‹_›)]
    · rw [if_neg (by omega), if_pos ⟨‹_›, ‹_›⟩]; exact ih _ _ (by omega) (by omega) hl
    · exact h13 (by omega) (by omega)
    · exact h13 (by omega) (by omega)
/-- What is wrong with a tree. -/
noncomputable def ttE (le : Int) (l : List Nd) : Int := if le < 1 then 2 else if 4 < le then 2 else if (l.length : Int) < 1 then 1 else if 60 < (l.length : Int) then 1 else trF l le l.length 0 (List.replicate l.length false)
theorem r12_Tree_spec : r12_Tree le (l, ()) = some (ttE le l) := by
  unfold r12_Tree ttE
  dsimp only
  by_cases c1 : le < 1
  · rw [if_pos (decide_eq_true c1), if_pos c1]
  rw [if_neg (by simpa using c1), if_neg c1]
  by_cases c2 : 4 < le
  · rw [if_pos (decide_eq_true c2), if_pos c2]
  rw [if_neg (by simpa using c2), if_neg c2]
  by_cases c3 : (l.length : Int) < 1
  · rw [if_pos (decide_eq_true c3), if_pos c3]
  rw [if_neg (by simpa using c3), if_neg c3]
  by_cases c4 : 60 < (l.length : Int)
  · rw [if_pos (decide_eq_true c4), if_pos c4]
  rw [if_neg (by simpa using c4), if_neg c4]
  rw [G_pos (by unfold mkOK; omega)]
  exact r12_Tree_L8_spec (by omega) (by omega) l.length 0 _ (by omega) (by omega) (by simp)
end

section
variable {a : TA} {t : List Nd}
/-- A rule at a node: may it be used? -/
def Use (x : Nd) (can : List (List Bool)) (r : Rl) : Prop := r.1 = x.1 ∧ (r.2.1 = -1 ↔ x.2.1 = -1) ∧ (r.2.1 = -1 ∨ ix (ix can x.2.1) r.2.1 = true ∧ ix (ix can x.2.2.1) r.2.2.1 = true)
structure Ok (a : TA) (t : List Nd) : Prop where
  st : 1 ≤ a.2.1 ∧ a.2.1 ≤ 300
  rl : a.2.2.1.length ≤ 40000
  mks : (a.2.2.2.2.1.length : Int) = a.2.1
  rb : ∀ k : Int, 0 ≤ k → k < a.2.2.1.length → ¬ RBad a (ix a.2.2.1 k)
  n : 1 ≤ t.length ∧ t.length ≤ 60
  nd : ∀ j : Int, 0 ≤ j → j < t.length → ((ix t j).2.1 = -1 ∧ (ix t j).2.2.1 = -1 ∨ 0 ≤ (ix t j).2.1 ∧ (ix t j).2.1 < j ∧ 0 ≤ (ix t j).2.2.1 ∧ (ix t j).2.2.1 < j)
theorem J12_step {k : Int} {own : List Bool} {r8 : Int → List Bool → Option Bool} (ok : Ok a t) (hl : (own.length : Int) = a.2.1) (h0 : 0 ≤ k) (h1 : k < a.2.2.1.length) (b : Bool) :
    r12_Accepts_J12 a k own r8 b = r8 (k + 1) (if b = true then own.set (ix a.2.2.1 k).2.2.2.1.toNat true else own) := by
  have hb := ok.rb k h0 h1
  unfold RBad at hb
  have := ok.rl
  unfold r12_Accepts_J12
  cases b with
  | false => rw [if_neg (by decide), if_neg (by decide), G_pos (by unfold fits; omega)]
  | true =>
    rw [if_pos rfl, if_pos rfl]
    rw [G_pos (by omega), G_pos (by omega), G_pos (by unfold fits; omega)]
open Classical in
theorem L8_step {i k : Int} {own : List Bool} {can : List (List Bool)} {r3 : Int → List (List Bool) → Option Bool} (ok : Ok a t) (hi : 0 ≤ i ∧ i < t.length) (hc : (can.length : Int) = i) (hrows : ∀ j : Int, 0 ≤ j → j < i → ((ix can j).length : Int) = a.2.1) (hl : (own.length : Int) = a.2.1) (h0 : 0 ≤ k) (h1 : k < a.2.2.1.length) :
    r12_Accepts_L8 a (t, ()) i can r3 k own = r12_Accepts_L8 a (t, ()) i can r3 (k + 1) (if Use (ix t i) can (ix a.2.2.1 k) then own.set (ix a.2.2.1 k).2.2.2.1.toNat true else own) := by
  have hb := ok.rb k h0 h1
  unfold RBad at hb
  have hn := ok.nd i hi.1 hi.2
  have hrl := ok.rl
  conv => lhs; rw [r12_Accepts_L8_eq]; unfold r12_Accepts_L8_B
  rw [if_pos (decide_eq_true h1), G_pos (by omega)]
  simp only [J12_step (r8 := fun k own => r12_Accepts_L8 a (t, ()) i can r3 k own) ok hl h0 h1]
  unfold Use
  by_cases c1 : (ix a.2.2.1 k).1 = (ix t i).1
  · rw [if_neg (by simp [c1])]
    by_cases c2 : (ix a.2.2.1 k).2.1 = -1
    · by_cases c3 : (ix t i).2.1 = -1
      · rw [if_neg (by simp [c2, c3]), if_pos (decide_eq_true c2), if_pos trivial, if_pos ⟨c1, by simp [c2, c3], .inl c2⟩]
      · rw [if_pos (by simp [c2, c3]), G_pos (by unfold fits; omega), if_neg (fun h => c3 (h.2.1.1 c2))]
    · by_cases c3 : (ix t i).2.1 = -1
      · rw [if_pos (by simp [c2, c3]), G_pos (by unfold fits; omega), if_neg (fun h => c2 (h.2.1.2 c3))]
      · rw [if_neg (by simp [c2, c3]), if_neg (by simpa using c2)]
        have l1 := hrows (ix t i).2.1 (by omega) (by omega)
        have l2 := hrows (ix t i).2.2.1 (by omega) (by omega)
        rw [G_pos (by omega), G_pos (by omega), G_pos (by omega)]
        by_cases c4 : ix (ix can (ix t i).2.1) (ix a.2.2.1 k).2.1 = true
        · rw [if_pos c4, G_pos (by omega), G_pos (by omega), G_pos (by omega)]
          by_cases c5 : ix (ix can (ix t i).2.2.1) (ix a.2.2.1 k).2.2.1 = true
          · rw [if_pos c5, if_pos ⟨c1, by simp [c2, c3], .inr ⟨c4, c5⟩⟩]
          · rw [if_neg c5, if_neg (fun h => by rcases h.2.2 with h | h; exact c2 h; exact c5 h.2)]
        · rw [if_neg c4, if_neg (by decide), if_neg (fun h => by rcases h.2.2 with h | h; exact c2 h; exact c4 h.1)]
  · rw [if_pos (by simp [c1]), G_pos (by unfold fits; omega), if_neg (fun h => c1 h.1)]
theorem ix_snoc {α : Type} [Inhabited α] {l : List α} {x : α} {j : Int} (h0 : 0 ≤ j) (h : j < l.length) : ix (l ++ [x]) j = ix l j := by
  simp only [ix, List.getD_eq_getElem?_getD]
  rw [List.getElem?_append_left (by omega)]
theorem ix_snoc_last {α : Type} [Inhabited α] {l : List α} {x : α} {j : Int} (h : j = l.length) : ix (l ++ [x]) j = x := by
  subst h
  simp [ix, List.getD_eq_getElem?_getD]
end

/- sizes of least trees -/
section
variable {a : TA}
structure Ok0 (a : TA) : Prop where
  st : 1 ≤ a.2.1 ∧ a.2.1 ≤ 300
  rl : a.2.2.1.length ≤ 40000
  mks : (a.2.2.2.2.1.length : Int) = a.2.1
  rb : ∀ k : Int, 0 ≤ k → k < a.2.2.1.length → ¬ RBad a (ix a.2.2.1 k)
theorem ok0_of (h1 : taE a = 0) : Ok0 a := by
  unfold taE at h1
  by_cases c1 : TLet a
  · rw [if_pos c1] at h1; cases h1
  rw [if_neg c1] at h1
  by_cases c2 : TSize a
  · rw [if_pos c2] at h1; cases h1
  rw [if_neg c2] at h1
  by_cases c3 : TRul a
  · rw [if_pos c3] at h1; cases h1
  unfold TSize at c2
  exact ⟨by omega, by omega, by omega, fun k k0 k1 hb => c3 (ex_ix.2 ⟨k, k0, k1, hb⟩)⟩
theorem Ok0.rule (ok : Ok0 a) {k : Int} (k0 : 0 ≤ k) (k1 : k < a.2.2.1.length) : 0 ≤ (ix a.2.2.1 k).2.2.2.1 ∧ (ix a.2.2.1 k).2.2.2.1 < a.2.1 ∧ 0 ≤ (ix a.2.2.1 k).1 ∧ (ix a.2.2.1 k).1 < a.1 ∧
    ((ix a.2.2.1 k).2.1 = -1 ∧ (ix a.2.2.1 k).2.2.1 = -1 ∨ 0 ≤ (ix a.2.2.1 k).2.1 ∧ (ix a.2.2.1 k).2.1 < a.2.1 ∧ 0 ≤ (ix a.2.2.1 k).2.2.1 ∧ (ix a.2.2.1 k).2.2.1 < a.2.1) := by
  have := ok.rb k k0 k1
  unfold RBad at this
  omega
/-- Trees that a state can be given, by their nodes. -/
inductive Der (a : TA) : Int → Int → Prop
  | leaf (k : Int) (k0 : 0 ≤ k) (k1 : k < a.2.2.1.length) (h : ¬ 0 ≤ (ix a.2.2.1 k).2.1) : Der a 1 (ix a.2.2.1 k).2.2.2.1
  | node (k : Int) (k0 : 0 ≤ k) (k1 : k < a.2.2.1.length) (h : 0 ≤ (ix a.2.2.1 k).2.1) (m n : Int) (hm : Der a m (ix a.2.2.1 k).2.1) (hn : Der a n (ix a.2.2.1 k).2.2.1) : Der a (1 + (m + n)) (ix a.2.2.1 k).2.2.2.1
theorem Der.pos {m q : Int} (h : Der a m q) : 1 ≤ m := by
  induction h with
  | leaf => omega
  | node => omega
def val (s : List Int) (r : Rl) : Int := if 0 ≤ r.2.1 then (if ix s r.2.1 = 0 ∨ ix s r.2.2.1 = 0 then 0 else 1 + (ix s r.2.1 + ix s r.2.2.1)) else 1
def Upd (s : List Int) (r : Rl) : Prop := 0 < val s r ∧ val s r ≤ 60 ∧ (ix s r.2.2.2.1 = 0 ∨ val s r < ix s r.2.2.2.1)
instance (s : List Int) (r : Rl) : Decidable (Upd s r) := by unfold Upd; infer_instance
structure GI (a : TA) (s b : List Int) : Prop where
  ls : (s.length : Int) = a.2.1
  lb : (b.length : Int) = a.2.1
  rng : ∀ q : Int, 0 ≤ q → q < a.2.1 → 0 ≤ ix s q ∧ ix s q ≤ 60
  by' : ∀ q : Int, 0 ≤ q → q < a.2.1 → 0 < ix s q → 0 ≤ ix b q ∧ ix b q < a.2.2.1.length ∧ (ix a.2.2.1 (ix b q)).2.2.2.1 = q ∧ 0 < val s (ix a.2.2.1 (ix b q)) ∧ val s (ix a.2.2.1 (ix b q)) ≤ ix s q
  der : ∀ q : Int, 0 ≤ q → q < a.2.1 → 0 < ix s q → Der a (ix s q) q
theorem val_nonneg (ok : Ok0 a) {s b : List Int} (g : GI a s b) {k : Int} (k0 : 0 ≤ k) (k1 : k < a.2.2.1.length) : 0 ≤ val s (ix a.2.2.1 k) ∧ val s (ix a.2.2.1 k) ≤ 121 := by
  have hr := ok.rule k0 k1
  unfold val
  split
  · have h1 := g.rng (ix a.2.2.1 k).2.1 (by omega) (by omega)
    have h2 := g.rng (ix a.2.2.1 k).2.2.1 (by omega) (by omega)
    split <;> omega
  · omega
theorem sum_set_lt : ∀ (l : List Nat) (i : Nat) (x : Nat), i < l.length → x < l.getD i 0 → (l.set i x).sum < l.sum
  | [], i, x, h, _ => by simp at h
  | y :: l, 0, x, _, h => by simp at h ⊢; omega
  | y :: l, i + 1, x, h, hx => by
    have := sum_set_lt l i x (by simpa using h) (by simpa using hx)
    simp; omega
def pt (x : Int) : Nat := if x = 0 then 61 else x.toNat
def pot (s : List Int) : Nat := (s.map pt).sum
theorem pot_set {s : List Int} {q v : Int} (h0 : 0 ≤ q) (h1 : q < s.length) (h : pt v < pt (ix s q)) : pot (s.set q.toNat v) < pot s := by
  unfold pot
  rw [List.map_set]
  refine sum_set_lt _ _ _ (by simp; omega) ?_
  have : q.toNat < s.length := by omega
  have e : (s.map pt).getD q.toNat 0 = pt (ix s q) := by simp [ix, List.getD_eq_getElem?_getD, this]
  rw [e]; exact h
/-- A smaller size, where there was one or none. -/
theorem val_mono (ok : Ok0 a) {s b : List Int} (g : GI a s b) {q v : Int} (q0 : 0 ≤ q) (q1 : q < a.2.1) (hv : 0 < v) (hlt : ix s q = 0 ∨ v < ix s q) {k : Int} (k0 : 0 ≤ k) (k1 : k < a.2.2.1.length) (hp : 0 < val s (ix a.2.2.1 k)) :
    0 < val (s.set q.toNat v) (ix a.2.2.1 k) ∧ val (s.set q.toNat v) (ix a.2.2.1 k) ≤ val s (ix a.2.2.1 k) := by
  have hr := ok.rule k0 k1
  have hls := g.ls
  have key : ∀ j : Int, 0 ≤ j → j < a.2.1 → ix s j ≠ 0 → 0 < ix (s.set q.toNat v) j ∧ ix (s.set q.toNat v) j ≤ ix s j := by
    intro j j0 j1 hj
    have := g.rng j j0 j1
    by_cases e : q = j
    · subst e; rw [ix_set_same (by omega) (by omega)]; omega
    · rw [ix_set_ne (by omega) (by omega) e]; omega
  unfold val at hp ⊢
  split at hp
  · rename_i h
    rw [if_pos h, if_pos h]
    split at hp
    · omega
    · rename_i h2
      rw [if_neg h2]
      have k2 := key (ix a.2.2.1 k).2.1 (by omega) (by omega) (fun e => h2 (.inl e))
      have k3 := key (ix a.2.2.1 k).2.2.1 (by omega) (by omega) (fun e => h2 (.inr e))
      rw [if_neg (by omega)]
      omega
  · rename_i h
    rw [if_neg h, if_neg h]; omega
theorem GI.upd (ok : Ok0 a) {s b : List Int} (g : GI a s b) {k : Int} (k0 : 0 ≤ k) (k1 : k < a.2.2.1.length) (hu : Upd s (ix a.2.2.1 k)) :
    GI a (s.set (ix a.2.2.1 k).2.2.2.1.toNat (val s (ix a.2.2.1 k))) (b.set (ix a.2.2.1 k).2.2.2.1.toNat k) := by
  have hr := ok.rule k0 k1
  obtain ⟨h1, h2, h3⟩ := hu
  have hls := g.ls; have hlb := g.lb
  have hder : Der a (val s (ix a.2.2.1 k)) (ix a.2.2.1 k).2.2.2.1 := by
    unfold val at h1 ⊢
    split at h1
    · rename_i h
      rw [if_pos h]
      split at h1
      · omega
      · rename_i h4
        rw [if_neg h4]
        have r1 := g.rng (ix a.2.2.1 k).2.1 (by omega) (by omega)
        have r2 := g.rng (ix a.2.2.1 k).2.2.1 (by omega) (by omega)
        exact .node k k0 k1 h _ _ (g.der _ (by omega) (by omega) (by omega)) (g.der _ (by omega) (by omega) (by omega))
    · rename_i h
      rw [if_neg h]
      exact .leaf k k0 k1 h
  have hne : ∀ j : Int, (ix a.2.2.1 k).2.2.2.1 ≠ j → 0 ≤ j → ix (s.set (ix a.2.2.1 k).2.2.2.1.toNat (val s (ix a.2.2.1 k))) j = ix s j := fun j e j0 => ix_set_ne (by omega) (by omega) e
  have hsm : ix (s.set (ix a.2.2.1 k).2.2.2.1.toNat (val s (ix a.2.2.1 k))) (ix a.2.2.1 k).2.2.2.1 = val s (ix a.2.2.1 k) := ix_set_same (by omega) (by omega)
  refine ⟨by simpa using hls, by simpa using hlb, fun q q0 q1 => ?_, fun q q0 q1 hq => ?_, fun q q0 q1 hq => ?_⟩
  · by_cases e : (ix a.2.2.1 k).2.2.2.1 = q
    · rw [← e, hsm]; omega
    · rw [hne q e q0]; exact g.rng q q0 q1
  · by_cases e : (ix a.2.2.1 k).2.2.2.1 = q
    · have eb : ix (b.set (ix a.2.2.1 k).2.2.2.1.toNat k) q = k := by rw [← e]; exact ix_set_same (by omega) (by omega)
      rw [eb]
      have := val_mono ok g (q := (ix a.2.2.1 k).2.2.2.1) (v := val s (ix a.2.2.1 k)) (by omega) (by omega) h1 h3 k0 k1 h1
      refine ⟨k0, k1, e, this.1, ?_⟩
      rw [← e, hsm]; exact this.2
    · have eb : ix (b.set (ix a.2.2.1 k).2.2.2.1.toNat k) q = ix b q := ix_set_ne (by omega) (by omega) e
      rw [hne q e q0] at hq ⊢
      rw [eb]
      obtain ⟨p1, p2, p3, p4, p5⟩ := g.by' q q0 q1 hq
      have := val_mono ok g (q := (ix a.2.2.1 k).2.2.2.1) (v := val s (ix a.2.2.1 k)) (by omega) (by omega) h1 h3 p1 p2 p4
      exact ⟨p1, p2, p3, this.1, by omega⟩
  · by_cases e : (ix a.2.2.1 k).2.2.2.1 = q
    · rw [← e, hsm]; exact hder
    · rw [hne q e q0] at hq ⊢
      exact g.der q q0 q1 hq
theorem Upd.pot {s b : List Int} (ok : Ok0 a) (g : GI a s b) {k : Int} (k0 : 0 ≤ k) (k1 : k < a.2.2.1.length) (hu : Upd s (ix a.2.2.1 k)) : pot (s.set (ix a.2.2.1 k).2.2.2.1.toNat (val s (ix a.2.2.1 k))) < pot s := by
  have hr := ok.rule k0 k1
  obtain ⟨h1, h2, h3⟩ := hu
  have hls := g.ls
  have := g.rng (ix a.2.2.1 k).2.2.2.1 (by omega) (by omega)
  refine pot_set (by omega) (by omega) ?_
  unfold pt
  split <;> split <;> omega
abbrev R6 := Bool → Int → List Int → List Int → Option (List Int × List Int)
theorem gJ12_step (ok : Ok0 a) {s b : List Int} (g : GI a s b) {k : Int} (k0 : 0 ≤ k) (k1 : k < a.2.2.1.length) {r6 : R6} {n : Int} {again f : Bool} :
    tree_grown_J12 a again k s b r6 n f = if f = true then r6 true (k + 1) (s.set (ix a.2.2.1 k).2.2.2.1.toNat n) (b.set (ix a.2.2.1 k).2.2.2.1.toNat k) else r6 again (k + 1) s b := by
  have hr := ok.rule k0 k1
  have hls := g.ls; have hlb := g.lb; have hrl := ok.rl
  unfold tree_grown_J12 tree_grown_J13
  cases f with
  | false => rw [if_neg (by decide), if_neg (by decide), G_pos (by unfold fits; omega)]
  | true =>
    rw [if_pos rfl, if_pos rfl, G_pos (by omega)]
    refine both_to ?_ ?_ <;> rw [G_pos (by omega), G_pos (by omega), G_pos (by omega), G_pos (by unfold fits; omega)]
theorem J11_step (ok : Ok0 a) {s b : List Int} (g : GI a s b) {k : Int} (k0 : 0 ≤ k) (k1 : k < a.2.2.1.length) {r6 : R6} {n : Int} {again : Bool} :
    tree_grown_J11 a again k s b r6 n = if n ≤ 60 ∧ (ix s (ix a.2.2.1 k).2.2.2.1 = 0 ∨ n < ix s (ix a.2.2.1 k).2.2.2.1) then r6 true (k + 1) (s.set (ix a.2.2.1 k).2.2.2.1.toNat n) (b.set (ix a.2.2.1 k).2.2.2.1.toNat k) else r6 again (k + 1) s b := by
  have hr := ok.rule k0 k1
  have hls := g.ls
  unfold tree_grown_J11
  simp only [gJ12_step ok g k0 k1]
  by_cases c1 : n ≤ 60
  · rw [if_pos (decide_eq_true c1), G_pos (by omega), G_pos (by omega)]
    by_cases c2 : ix s (ix a.2.2.1 k).2.2.2.1 = 0
    · rw [if_pos (decide_eq_true c2), if_pos trivial, if_pos ⟨c1, .inl c2⟩]
    · rw [if_neg (by simpa using c2), G_pos (by omega), G_pos (by omega)]
      by_cases c3 : n < ix s (ix a.2.2.1 k).2.2.2.1
      · rw [if_pos (decide_eq_true c3), if_pos ⟨c1, .inr c3⟩]
      · rw [if_neg (by simpa using c3), if_neg (fun h => h.2.elim c2 c3)]
  · rw [if_neg (by simpa using c1), if_neg (by simp), if_neg (fun h => c1 h.1)]
theorem L6_step (ok : Ok0 a) {s b : List Int} (g : GI a s b) {k : Int} (k0 : 0 ≤ k) (k1 : k < a.2.2.1.length) {r3 : Bool → List Int → List Int → Option (List Int × List Int)} {again : Bool} :
    tree_grown_L6 a r3 again k s b = if Upd s (ix a.2.2.1 k) then tree_grown_L6 a r3 true (k + 1) (s.set (ix a.2.2.1 k).2.2.2.1.toNat (val s (ix a.2.2.1 k))) (b.set (ix a.2.2.1 k).2.2.2.1.toNat k) else tree_grown_L6 a r3 again (k + 1) s b := by
  have hr := ok.rule k0 k1
  have hls := g.ls; have hrl := ok.rl
  conv => lhs; rw [tree_grown_L6_eq]; unfold tree_grown_L6_B
  rw [if_pos (decide_eq_true k1), G_pos (by omega)]
  simp only [J11_step (r6 := fun g t s b => tree_grown_L6 a r3 g t s b) ok g k0 k1]
  by_cases c1 : 0 ≤ (ix a.2.2.1 k).2.1
  · rw [if_pos (decide_eq_true c1), G_pos (by omega), G_pos (by omega)]
    have r1 := g.rng (ix a.2.2.1 k).2.1 (by omega) (by omega)
    have r2 := g.rng (ix a.2.2.1 k).2.2.1 (by omega) (by omega)
    by_cases c2 : ix s (ix a.2.2.1 k).2.1 = 0
    · have hv : val s (ix a.2.2.1 k) = 0 := by unfold val; rw [if_pos c1, if_pos (.inl c2)]
      rw [if_pos (decide_eq_true c2), G_pos (by unfold fits; omega), if_neg (fun h => by have := h.1; omega)]
    · rw [if_neg (by simpa using c2), G_pos (by omega), G_pos (by omega)]
      by_cases c3 : ix s (ix a.2.2.1 k).2.2.1 = 0
      · have hv : val s (ix a.2.2.1 k) = 0 := by unfold val; rw [if_pos c1, if_pos (.inr c3)]
        rw [if_pos (decide_eq_true c3), G_pos (by unfold fits; omega), if_neg (fun h => by have := h.1; omega)]
      · have hv : val s (ix a.2.2.1 k) = 1 + (ix s (ix a.2.2.1 k).2.1 + ix s (ix a.2.2.1 k).2.2.1) := by unfold val; rw [if_pos c1, if_neg (by omega)]
        rw [if_neg (by simpa using c3), G_pos (by omega), G_pos (by omega), G_pos (by omega), G_pos (by omega), G_pos (by unfold fits; omega), G_pos (by unfold fits; omega), ← hv]
        by_cases u : Upd s (ix a.2.2.1 k)
        · rw [if_pos u, if_pos u.2]
        · rw [if_neg u, if_neg (fun h => u ⟨by omega, h⟩)]
  · rw [if_neg (by simpa using c1)]
    have hv : val s (ix a.2.2.1 k) = 1 := by unfold val; rw [if_neg c1]
    rw [← hv]
    by_cases u : Upd s (ix a.2.2.1 k)
    · rw [if_pos u, if_pos u.2]
    · rw [if_neg u, if_neg (fun h => u ⟨by omega, h⟩)]
theorem pass (ok : Ok0 a) {r3 : Bool → List Int → List Int → Option (List Int × List Int)} : ∀ (n : Nat) (k : Int) (s b : List Int) (again : Bool), 0 ≤ k → k + n = a.2.2.1.length → GI a s b →
    ∃ s' b' again', tree_grown_L6 a r3 again k s b = r3 again' s' b' ∧ GI a s' b' ∧ ((again' = again ∧ s' = s ∧ b' = b ∧ ∀ j : Int, k ≤ j → j < a.2.2.1.length → ¬ Upd s (ix a.2.2.1 j)) ∨ (again' = true ∧ pot s' < pot s)) := by
  intro n
  induction n with
  | zero =>
    intro k s b again k0 hn g
    refine ⟨s, b, again, ?_, g, .inl ⟨rfl, rfl, rfl, fun j _ _ => by omega⟩⟩
    rw [tree_grown_L6_eq]; unfold tree_grown_L6_B
    rw [if_neg (by simp only [decide_eq_true_eq]; omega)]
  | succ n ih =>
    intro k s b again k0 hn g
    rw [L6_step ok g k0 (by omega)]
    by_cases u : Upd s (ix a.2.2.1 k)
    · rw [if_pos u]
      obtain ⟨s', b', again', e, g', h⟩ := ih (k + 1) _ _ true (by omega) (by omega) (g.upd ok k0 (by omega) u)
      refine ⟨s', b', again', e, g', .inr ?_⟩
      have hp := u.pot ok g k0 (by omega)
      rcases h with ⟨h1, rfl, _, _⟩ | ⟨h1, h2⟩
      · exact ⟨h1, hp⟩
      · exact ⟨h1, by omega⟩
    · rw [if_neg u]
      obtain ⟨s', b', again', e, g', h⟩ := ih (k + 1) s b again (by omega) (by omega) g
      refine ⟨s', b', again', e, g', ?_⟩
      rcases h with ⟨h1, h2, h3, h4⟩ | h
      · refine .inl ⟨h1, h2, h3, fun j j0 j1 => ?_⟩
        by_cases e : j = k
        · rw [e]; exact u
        · exact h4 j (by omega) j1
      · exact .inr h
theorem grown (ok : Ok0 a) : ∀ (n : Nat) (s b : List Int), pot s ≤ n → GI a s b → ∃ s' b', tree_grown_L3 a true s b = some (s', b') ∧ GI a s' b' ∧ ∀ j : Int, 0 ≤ j → j < a.2.2.1.length → ¬ Upd s' (ix a.2.2.1 j) := by
  intro n
  induction n with
  | zero =>
    intro s b hp g
    obtain ⟨s', b', again', e, g', h⟩ := pass (r3 := fun g s b => tree_grown_L3 a g s b) ok a.2.2.1.length 0 s b false (by omega) (by omega) g
    rcases h with ⟨rfl, rfl, rfl, h4⟩ | ⟨_, h⟩
    · refine ⟨s', b', ?_, g', h4⟩
      rw [tree_grown_L3_eq]; unfold tree_grown_L3_B
      rw [if_pos rfl, e, tree_grown_L3_eq]; unfold tree_grown_L3_B
      rw [if_neg (by decide)]
    · omega
  | succ n ih =>
    intro s b hp g
    obtain ⟨s', b', again', e, g', h⟩ := pass (r3 := fun g s b => tree_grown_L3 a g s b) ok a.2.2.1.length 0 s b false (by omega) (by omega) g
    rcases h with ⟨rfl, rfl, rfl, h4⟩ | ⟨rfl, h⟩
    · refine ⟨s', b', ?_, g', h4⟩
      rw [tree_grown_L3_eq]; unfold tree_grown_L3_B
      rw [if_pos rfl, e, tree_grown_L3_eq]; unfold tree_grown_L3_B
      rw [if_neg (by decide)]
    · obtain ⟨s2, b2, e2, g2, h2⟩ := ih s' b' (by omega) g'
      refine ⟨s2, b2, ?_, g2, h2⟩
      rw [tree_grown_L3_eq]; unfold tree_grown_L3_B
      rw [if_pos rfl, e, e2]
theorem ix_rep0 (n : Nat) (j : Int) : ix (List.replicate n (0 : Int)) j = 0 := by
  simp only [ix, List.getD_eq_getElem?_getD, List.getElem?_replicate]
  split <;> rfl
theorem tree_grown_spec (ok : Ok0 a) : ∃ s b, tree_grown a = some (s, b) ∧ GI a s b ∧ ∀ j : Int, 0 ≤ j → j < a.2.2.1.length → ¬ Upd s (ix a.2.2.1 j) := by
  have hst := ok.st
  have g0 : GI a (List.replicate a.2.1.toNat 0) (List.replicate a.2.1.toNat 0) := by
    refine ⟨by simp; omega, by simp; omega, fun q _ _ => by rw [ix_rep0]; omega, fun q _ _ h => by rw [ix_rep0] at h; omega, fun q _ _ h => by rw [ix_rep0] at h; omega⟩
  obtain ⟨s, b, e, g, h⟩ := grown ok _ _ _ (Nat.le_refl _) g0
  refine ⟨s, b, ?_, g, h⟩
  unfold tree_grown tree_grown_J1
  refine both_to ?_ ?_ <;> rw [G_pos (by unfold mkOK; omega), G_pos (by unfold mkOK; omega), e]
/-- No tree is smaller. -/
theorem least (ok : Ok0 a) {s b : List Int} (g : GI a s b) (hs : ∀ j : Int, 0 ≤ j → j < a.2.2.1.length → ¬ Upd s (ix a.2.2.1 j)) {m q : Int} (h : Der a m q) : m ≤ 60 → 0 < ix s q ∧ ix s q ≤ m := by
  induction h with
  | leaf k k0 k1 hl =>
    intro _
    have hr := ok.rule k0 k1
    have := hs k k0 k1
    have r1 := g.rng (ix a.2.2.1 k).2.2.2.1 (by omega) (by omega)
    have hv : val s (ix a.2.2.1 k) = 1 := by unfold val; rw [if_neg hl]
    unfold Upd at this
    omega
  | node k k0 k1 hl m n hm hn ih1 ih2 =>
    intro h60
    have := hm.pos; have := hn.pos
    have i1 := ih1 (by omega)
    have i2 := ih2 (by omega)
    have hr := ok.rule k0 k1
    have := hs k k0 k1
    have r1 := g.rng (ix a.2.2.1 k).2.2.2.1 (by omega) (by omega)
    have hv : val s (ix a.2.2.1 k) = 1 + (ix s (ix a.2.2.1 k).2.1 + ix s (ix a.2.2.1 k).2.2.1) := by unfold val; rw [if_pos hl, if_neg (by omega)]
    unfold Upd at this
    omega
/-- The rule by which a state's least tree begins. -/
theorem exact_by (ok : Ok0 a) {s b : List Int} (g : GI a s b) (hs : ∀ j : Int, 0 ≤ j → j < a.2.2.1.length → ¬ Upd s (ix a.2.2.1 j)) {q : Int} (q0 : 0 ≤ q) (q1 : q < a.2.1) (h : 0 < ix s q) : val s (ix a.2.2.1 (ix b q)) = ix s q := by
  obtain ⟨h1, h2, h3, h4, h5⟩ := g.by' q q0 q1 h
  have := hs _ h1 h2
  have r1 := g.rng q q0 q1
  unfold Upd at this
  rw [h3] at this
  omega
end

/- the reference's least number of nodes -/
section
variable {a : TA} {s b : List Int}
def Mk (a : TA) (s : List Int) (n : Int) : Prop := ∃ q : Int, 0 ≤ q ∧ q < a.2.1 ∧ ix s q = n ∧ ix a.2.2.2.2.1 q = 1
structure RI (a : TA) (s : List Int) (n : Int) (z : List Int) : Prop where
  ln : (z.length : Int) = a.2.1
  lo : ∀ q : Int, 0 ≤ q → q < a.2.1 → 0 < ix s q → ix s q < n → ix z q = ix s q
  hi : ∀ q : Int, 0 ≤ q → q < a.2.1 → ¬ (0 < ix s q ∧ ix s q < n) → ix z q = 0
/-- A rule makes a tree of just n nodes, for a state that had none. -/
def Now (z : List Int) (n : Int) (r : Rl) : Prop := (if 0 ≤ r.2.1 then 0 < ix z r.2.1 ∧ 0 < ix z r.2.2.1 ∧ ix z r.2.1 + ix z r.2.2.1 + 1 = n else n = 1) ∧ ix z r.2.2.2.1 = 0
instance (z : List Int) (n : Int) (r : Rl) : Decidable (Now z n r) := by unfold Now; infer_instance
theorem lJ12_step (ok : Ok0 a) {z now : List Int} {n : Int} (hz : (z.length : Int) = a.2.1) {k : Int} (k0 : 0 ≤ k) (k1 : k < a.2.2.1.length) (hnow : (now.length : Int) ≤ k) {r7 : Int → List Int → Option Int} {f : Bool} :
    r12_Least_J12 a z k now r7 f = if f = true ∧ ix z (ix a.2.2.1 k).2.2.2.1 = 0 then r7 (k + 1) (now ++ [(ix a.2.2.1 k).2.2.2.1]) else r7 (k + 1) now := by
  have hr := ok.rule k0 k1
  have hrl := ok.rl
  unfold r12_Least_J12 r12_Least_J13
  cases f with
  | false => rw [if_neg (by decide), if_neg (by decide), if_neg (by simp), G_pos (by unfold fits; omega)]
  | true =>
    rw [if_pos rfl, G_pos (by omega), G_pos (by omega)]
    by_cases c : ix z (ix a.2.2.1 k).2.2.2.1 = 0
    · rw [if_pos (decide_eq_true c), if_pos ⟨rfl, c⟩, G_pos (by unfold room; simp only [List.length_cons, List.length_nil]; omega), G_pos (by unfold fits; omega)]
    · rw [if_neg (by simpa using c), if_neg (fun h => c h.2), G_pos (by unfold fits; omega)]
theorem lL7_step (ok : Ok0 a) {z now : List Int} {n : Int} (hz : (z.length : Int) = a.2.1) (hzr : ∀ q : Int, 0 ≤ q → q < a.2.1 → 0 ≤ ix z q ∧ ix z q ≤ 60) {k : Int} (k0 : 0 ≤ k) (k1 : k < a.2.2.1.length) (hnow : (now.length : Int) ≤ k) {r3 : Int → List Int → Option Int} :
    r12_Least_L7 a n z r3 k now = if Now z n (ix a.2.2.1 k) then r12_Least_L7 a n z r3 (k + 1) (now ++ [(ix a.2.2.1 k).2.2.2.1]) else r12_Least_L7 a n z r3 (k + 1) now := by
  have hr := ok.rule k0 k1
  have hrl := ok.rl
  conv => lhs; rw [r12_Least_L7_eq]; unfold r12_Least_L7_B
  rw [if_pos (decide_eq_true k1), G_pos (by omega)]
  simp only [lJ12_step (n := n) (r7 := fun k now => r12_Least_L7 a n z r3 k now) ok hz k0 k1 hnow]
  by_cases c1 : 0 ≤ (ix a.2.2.1 k).2.1
  · rw [if_pos (decide_eq_true c1), G_pos (by omega), G_pos (by omega)]
    have r1 := hzr (ix a.2.2.1 k).2.1 (by omega) (by omega)
    have r2 := hzr (ix a.2.2.1 k).2.2.1 (by omega) (by omega)
    have hN : Now z n (ix a.2.2.1 k) ↔ (0 < ix z (ix a.2.2.1 k).2.1 ∧ 0 < ix z (ix a.2.2.1 k).2.2.1 ∧ ix z (ix a.2.2.1 k).2.1 + ix z (ix a.2.2.1 k).2.2.1 + 1 = n) ∧ ix z (ix a.2.2.1 k).2.2.2.1 = 0 := by
      unfold Now; rw [if_pos c1]
    by_cases c2 : 0 < ix z (ix a.2.2.1 k).2.1
    · rw [if_pos (decide_eq_true c2), G_pos (by omega), G_pos (by omega)]
      by_cases c3 : 0 < ix z (ix a.2.2.1 k).2.2.1
      · rw [if_pos (decide_eq_true c3), G_pos (by omega), G_pos (by omega), G_pos (by omega), G_pos (by omega), G_pos (by unfold fits; omega), G_pos (by unfold fits; omega)]
        by_cases u : Now z n (ix a.2.2.1 k)
        · rw [if_pos u, if_pos ⟨decide_eq_true (hN.1 u).1.2.2, (hN.1 u).2⟩]
        · rw [if_neg u, if_neg (fun h => u (hN.2 ⟨⟨c2, c3, of_decide_eq_true h.1⟩, h.2⟩))]
      · rw [if_neg (by simpa using c3), if_neg (by simp), if_neg (fun h => c3 (hN.1 h).1.2.1)]
    · rw [if_neg (by simpa using c2), if_neg (by simp), if_neg (fun h => c2 (hN.1 h).1.1)]
  · rw [if_neg (by simpa using c1)]
    have hN : Now z n (ix a.2.2.1 k) ↔ n = 1 ∧ ix z (ix a.2.2.1 k).2.2.2.1 = 0 := by
      unfold Now; rw [if_neg c1]
    by_cases u : Now z n (ix a.2.2.1 k)
    · rw [if_pos u, if_pos ⟨decide_eq_true (hN.1 u).1, (hN.1 u).2⟩]
    · rw [if_neg u, if_neg (fun h => u (hN.2 ⟨of_decide_eq_true h.1, h.2⟩))]
structure GS (a : TA) (s b : List Int) : Prop where
  g : GI a s b
  st : ∀ j : Int, 0 ≤ j → j < a.2.2.1.length → ¬ Upd s (ix a.2.2.1 j)
theorem RI.rng (hg : GS a s b) {n : Int} {z : List Int} (hz : RI a s n z) : ∀ q : Int, 0 ≤ q → q < a.2.1 → 0 ≤ ix z q ∧ ix z q ≤ 60 := by
  intro q q0 q1
  have := hg.g.rng q q0 q1
  by_cases c : 0 < ix s q ∧ ix s q < n
  · rw [hz.lo q q0 q1 c.1 c.2]; exact this
  · rw [hz.hi q q0 q1 c]; omega
theorem now_iff (ok : Ok0 a) (hg : GS a s b) {n : Int} {z : List Int} (hz : RI a s n z) (n1 : 1 ≤ n) (n60 : n ≤ 60) {k : Int} (k0 : 0 ≤ k) (k1 : k < a.2.2.1.length) :
    (Now z n (ix a.2.2.1 k) → ix s (ix a.2.2.1 k).2.2.2.1 = n) ∧ (ix s (ix a.2.2.1 k).2.2.2.1 = n → val s (ix a.2.2.1 k) = n → Now z n (ix a.2.2.1 k)) := by
  have hr := ok.rule k0 k1
  have hrt := hg.g.rng (ix a.2.2.1 k).2.2.2.1 (by omega) (by omega)
  have hst := hg.st k k0 k1
  constructor
  · rintro ⟨h1, h2⟩
    have hv : val s (ix a.2.2.1 k) = n := by
      unfold val
      split at h1
      · rename_i c
        rw [if_pos c]
        obtain ⟨p1, p2, p3⟩ := h1
        have q1 : ix z (ix a.2.2.1 k).2.1 = ix s (ix a.2.2.1 k).2.1 := by
          by_cases e : 0 < ix s (ix a.2.2.1 k).2.1 ∧ ix s (ix a.2.2.1 k).2.1 < n
          · exact hz.lo _ (by omega) (by omega) e.1 e.2
          · rw [hz.hi _ (by omega) (by omega) e] at p1; omega
        have q2 : ix z (ix a.2.2.1 k).2.2.1 = ix s (ix a.2.2.1 k).2.2.1 := by
          by_cases e : 0 < ix s (ix a.2.2.1 k).2.2.1 ∧ ix s (ix a.2.2.1 k).2.2.1 < n
          · exact hz.lo _ (by omega) (by omega) e.1 e.2
          · rw [hz.hi _ (by omega) (by omega) e] at p2; omega
        rw [if_neg (by omega)]; omega
      · rename_i c
        rw [if_neg c]; omega
    have hge : ¬ (0 < ix s (ix a.2.2.1 k).2.2.2.1 ∧ ix s (ix a.2.2.1 k).2.2.2.1 < n) := fun e => by
      have := hz.lo _ (by omega) (by omega) e.1 e.2
      omega
    unfold Upd at hst
    omega
  · intro h1 h2
    refine ⟨?_, hz.hi _ (by omega) (by omega) (by omega)⟩
    unfold val at h2
    split at h2
    · rename_i c
      rw [if_pos c]
      split at h2
      · omega
      · rename_i c2
        have r1 := hg.g.rng (ix a.2.2.1 k).2.1 (by omega) (by omega)
        have r2 := hg.g.rng (ix a.2.2.1 k).2.2.1 (by omega) (by omega)
        rw [hz.lo (ix a.2.2.1 k).2.1 (by omega) (by omega) (by omega) (by omega), hz.lo (ix a.2.2.1 k).2.2.1 (by omega) (by omega) (by omega) (by omega)]
        omega
    · rename_i c
      rw [if_neg c]; omega
/-- The states of size n. -/
theorem collect (ok : Ok0 a) (hg : GS a s b) {n : Int} {z : List Int} (hz : RI a s n z) (n1 : 1 ≤ n) (n60 : n ≤ 60) {r3 : Int → List Int → Option Int} : ∀ (m : Nat) (k : Int) (now : List Int), 0 ≤ k → k + m = a.2.2.1.length → (now.length : Int) ≤ k →
    (∀ x ∈ now, 0 ≤ x ∧ x < a.2.1 ∧ ix s x = n) → (∀ j : Int, 0 ≤ j → j < k → ix s (ix a.2.2.1 j).2.2.2.1 = n → val s (ix a.2.2.1 j) = n → (ix a.2.2.1 j).2.2.2.1 ∈ now) →
    ∃ now', r12_Least_L7 a n z r3 k now = r12_Least_L16 a n r3 now' 0 z ∧ (now'.length : Int) ≤ a.2.2.1.length ∧ ∀ x : Int, x ∈ now' ↔ 0 ≤ x ∧ x < a.2.1 ∧ ix s x = n := by
  intro m
  induction m with
  | zero =>
    intro k now k0 hn hl h1 h2
    refine ⟨now, ?_, by omega, fun x => ⟨h1 x, fun ⟨x0, x1, x2⟩ => ?_⟩⟩
    · rw [r12_Least_L7_eq]; unfold r12_Least_L7_B
      rw [if_neg (by simp only [decide_eq_true_eq]; omega)]
    · obtain ⟨p1, p2, p3, p4, p5⟩ := hg.g.by' x x0 x1 (by omega)
      have := exact_by ok hg.g hg.st x0 x1 (by omega)
      have := h2 _ p1 (by omega) (by rw [p3]; exact x2) (by omega)
      rw [p3] at this; exact this
  | succ m ih =>
    intro k now k0 hn hl h1 h2
    have hi := now_iff ok hg hz n1 n60 k0 (by omega)
    have hr := ok.rule k0 (by omega : k < a.2.2.1.length)
    rw [lL7_step ok hz.ln (hz.rng hg) k0 (by omega) hl]
    by_cases u : Now z n (ix a.2.2.1 k)
    · rw [if_pos u]
      refine ih (k + 1) _ (by omega) (by omega) (by simp; omega) (fun x hx => ?_) (fun j j0 j1 e1 e2 => ?_)
      · rcases List.mem_append.1 hx with hx | hx
        · exact h1 x hx
        · have : x = (ix a.2.2.1 k).2.2.2.1 := by simpa using hx
          subst this
          exact ⟨by omega, by omega, hi.1 u⟩
      · by_cases e : j = k
        · subst e; simp
        · exact List.mem_append_left _ (h2 j j0 (by omega) e1 e2)
    · rw [if_neg u]
      refine ih (k + 1) _ (by omega) (by omega) (by omega) h1 (fun j j0 j1 e1 e2 => ?_)
      by_cases e : j = k
      · subst e; exact absurd (hi.2 e1 e2) u
      · exact h2 j j0 (by omega) e1 e2
structure ZI (a : TA) (now : List Int) (n : Int) (z0 : List Int) (i : Int) (z : List Int) : Prop where
  ln : (z.length : Int) = a.2.1
  yes : ∀ j : Int, 0 ≤ j → j < i → ix z (ix now j) = n
  no : ∀ q : Int, 0 ≤ q → q < a.2.1 → (∀ j : Int, 0 ≤ j → j < i → ix now j ≠ q) → ix z q = ix z0 q
theorem L16_spec (ok : Ok0 a) {n : Int} {z0 now : List Int} (n1 : 1 ≤ n) (n60 : n ≤ 60) (hnow : ∀ x ∈ now, 0 ≤ x ∧ x < a.2.1 ∧ ix z0 x = 0) (hlen : (now.length : Int) ≤ a.2.2.1.length) {r3 : Int → List Int → Option Int} : ∀ (m : Nat) (i : Int) (z : List Int), 0 ≤ i → i + m = now.length → ZI a now n z0 i z →
    ((∃ j : Int, i ≤ j ∧ j < now.length ∧ ix a.2.2.2.2.1 (ix now j) = 1) → r12_Least_L16 a n r3 now i z = some n) ∧
    ((∀ j : Int, i ≤ j → j < now.length → ¬ ix a.2.2.2.2.1 (ix now j) = 1) → ∃ z', r12_Least_L16 a n r3 now i z = r3 (n + 1) z' ∧ ZI a now n z0 now.length z') := by
  intro m
  induction m with
  | zero =>
    intro i z i0 hn hz
    have : i = now.length := by omega
    subst this
    refine ⟨fun ⟨j, j0, j1, _⟩ => by omega, fun _ => ⟨z, ?_, hz⟩⟩
    rw [r12_Least_L16_eq]; unfold r12_Least_L16_B
    rw [if_neg (by simp), G_pos (by unfold fits; omega)]
  | succ m ih =>
    intro i z i0 hn hz
    have hx := hnow (ix now i) (ix_mem i0 (by omega))
    have hrl := ok.rl; have hmk := ok.mks; have hzl := hz.ln
    have key : ∃ z', ZI a now n z0 (i + 1) z' ∧ r12_Least_L16 a n r3 now i z = if ix a.2.2.2.2.1 (ix now i) = 1 then some n else r12_Least_L16 a n r3 now (i + 1) z' := by
      by_cases c : ix z (ix now i) = 0
      · refine ⟨z.set (ix now i).toNat n, ⟨by simpa using hzl, fun j j0 j1 => ?_, fun q q0 q1 hq => ?_⟩, ?_⟩
        · by_cases e : ix now i = ix now j
          · rw [← e, ix_set_same (by omega) (by omega)]
          · have hxj := hnow (ix now j) (ix_mem j0 (by omega))
            rw [ix_set_ne (by omega) (by omega) e]
            refine hz.yes j j0 ?_
            apply Decidable.byContradiction; intro hji
            have : j = i := by omega
            subst this; exact e rfl
        · rw [ix_set_ne (by omega) q0 (hq i i0 (by omega))]
          exact hz.no q q0 q1 (fun j j0 j1 => hq j j0 (by omega))
        · conv => lhs; rw [r12_Least_L16_eq]; unfold r12_Least_L16_B
          rw [if_pos (by simp only [decide_eq_true_eq]; omega), G_pos (by omega), G_pos (by omega), G_pos (by omega), G_pos (by omega), if_pos (decide_eq_true c), G_pos (by omega), G_pos (by omega), G_pos (by omega), G_pos (by omega)]
          unfold r12_Least_J19
          rw [G_pos (by omega), G_pos (by omega), G_pos (by omega)]
          by_cases d : ix a.2.2.2.2.1 (ix now i) = 1
          · rw [if_pos (decide_eq_true d), if_pos d]
          · rw [if_neg (by simpa using d), if_neg d, G_pos (by unfold fits; omega)]
      · refine ⟨z, ⟨hzl, fun j j0 j1 => ?_, fun q q0 q1 hq => hz.no q q0 q1 (fun j j0 j1 => hq j j0 (by omega))⟩, ?_⟩
        · by_cases e : j = i
          · subst e
            -- it was set before
            apply Decidable.byContradiction; intro hne
            by_cases hex : ∃ k : Int, 0 ≤ k ∧ k < j ∧ ix now k = ix now j
            · obtain ⟨k, k0, k1, k2⟩ := hex
              have := hz.yes k k0 k1
              rw [k2] at this; exact hne this
            · have := hz.no (ix now j) hx.1 hx.2.1 (fun k k0 k1 k2 => hex ⟨k, k0, k1, k2⟩)
              rw [this] at c; exact c hx.2.2
          · exact hz.yes j j0 (by omega)
        · conv => lhs; rw [r12_Least_L16_eq]; unfold r12_Least_L16_B
          rw [if_pos (by simp only [decide_eq_true_eq]; omega), G_pos (by omega), G_pos (by omega), G_pos (by omega), G_pos (by omega), if_neg (by simpa using c)]
          unfold r12_Least_J19
          rw [G_pos (by omega), G_pos (by omega), G_pos (by omega)]
          by_cases d : ix a.2.2.2.2.1 (ix now i) = 1
          · rw [if_pos (decide_eq_true d), if_pos d]
          · rw [if_neg (by simpa using d), if_neg d, G_pos (by unfold fits; omega)]
    obtain ⟨z', hz', e⟩ := key
    obtain ⟨h1, h2⟩ := ih (i + 1) z' (by omega) (by omega) hz'
    rw [e]
    by_cases d : ix a.2.2.2.2.1 (ix now i) = 1
    · rw [if_pos d]
      exact ⟨fun _ => rfl, fun h => absurd d (h i (by omega) (by omega))⟩
    · rw [if_neg d]
      refine ⟨fun ⟨j, j0, j1, j2⟩ => h1 ⟨j, ?_, j1, j2⟩, fun h => h2 (fun j j0 j1 => h j (by omega) j1)⟩
      apply Decidable.byContradiction; intro hji
      have : j = i := by omega
      subst this; exact d j2
theorem least_rounds (ok : Ok0 a) (hg : GS a s b) : ∀ (m : Nat) (n : Int) (z : List Int), 1 ≤ n → n + m = 61 → RI a s n z →
    ∃ r, r12_Least_L3 a n z = some r ∧ ((n ≤ r ∧ r ≤ 60 ∧ Mk a s r ∧ ∀ k : Int, n ≤ k → k < r → ¬ Mk a s k) ∨ (r = 0 ∧ ∀ k : Int, n ≤ k → k ≤ 60 → ¬ Mk a s k)) := by
  intro m
  induction m with
  | zero =>
    intro n z n1 hn hz
    refine ⟨0, ?_, .inr ⟨rfl, fun k k0 k1 => by omega⟩⟩
    rw [r12_Least_L3_eq]; unfold r12_Least_L3_B
    rw [if_neg (by simp only [decide_eq_true_eq]; omega)]
  | succ m ih =>
    intro n z n1 hn hz
    obtain ⟨now, e1, e2, e3⟩ := collect ok hg hz n1 (by omega) (r3 := fun n z => r12_Least_L3 a n z) a.2.2.1.length 0 [] (by omega) (by omega) (by simp) (by simp) (fun j j0 j1 => by omega)
    have hzz : ∀ x ∈ now, 0 ≤ x ∧ x < a.2.1 ∧ ix z x = 0 := fun x hx => by
      obtain ⟨x0, x1, x2⟩ := (e3 x).1 hx
      exact ⟨x0, x1, hz.hi x x0 x1 (by omega)⟩
    obtain ⟨h1, h2⟩ := L16_spec ok n1 (by omega) hzz e2 (r3 := fun n z => r12_Least_L3 a n z) now.length 0 z (by omega) (by omega) ⟨hz.ln, fun j j0 j1 => by omega, fun q _ _ _ => rfl⟩
    rw [r12_Least_L3_eq]; unfold r12_Least_L3_B
    rw [if_pos (by simp only [decide_eq_true_eq]; omega), e1]
    by_cases hm : Mk a s n
    · refine ⟨n, h1 ?_, .inl ⟨by omega, by omega, hm, fun k k0 k1 => by omega⟩⟩
      obtain ⟨q, q0, q1, q2, q3⟩ := hm
      obtain ⟨j, j0, j1, j2⟩ := ex_ix (P := fun x => x = q).1 ⟨q, (e3 q).2 ⟨q0, q1, q2⟩, rfl⟩
      exact ⟨j, j0, j1, by rw [j2]; exact q3⟩
    · obtain ⟨z', g1, g2⟩ := h2 (fun j j0 j1 hj => hm (by
        obtain ⟨x0, x1, x2⟩ := (e3 _).1 (ix_mem j0 j1)
        exact ⟨_, x0, x1, x2, hj⟩))
      rw [g1]
      have hz' : RI a s (n + 1) z' := by
        have hmem : ∀ q : Int, 0 ≤ q → q < a.2.1 → ix s q = n → ix z' q = n := fun q q0 q1 q2 => by
          obtain ⟨j, j0, j1, j2⟩ := ex_ix (P := fun x => x = q).1 ⟨q, (e3 q).2 ⟨q0, q1, q2⟩, rfl⟩
          have := g2.yes j j0 j1
          rw [j2] at this; exact this
        have hnot : ∀ q : Int, 0 ≤ q → q < a.2.1 → ix s q ≠ n → ix z' q = ix z q := fun q q0 q1 q2 =>
          g2.no q q0 q1 (fun j j0 j1 hj => q2 (by rw [← hj]; exact ((e3 _).1 (ix_mem j0 j1)).2.2))
        refine ⟨g2.ln, fun q q0 q1 h h' => ?_, fun q q0 q1 h => ?_⟩
        · by_cases e : ix s q = n
          · rw [hmem q q0 q1 e, e]
          · rw [hnot q q0 q1 e]; exact hz.lo q q0 q1 h (by omega)
        · rw [hnot q q0 q1 (by omega)]; exact hz.hi q q0 q1 (by omega)
      obtain ⟨r, r1, r2⟩ := ih (n + 1) z' (by omega) (by omega) hz'
      refine ⟨r, r1, ?_⟩
      rcases r2 with ⟨p1, p2, p3, p4⟩ | ⟨p1, p2⟩
      · refine .inl ⟨by omega, p2, p3, fun k k0 k1 => ?_⟩
        by_cases e : k = n
        · rw [e]; exact hm
        · exact p4 k (by omega) k1
      · refine .inr ⟨p1, fun k k0 k1 => ?_⟩
        by_cases e : k = n
        · rw [e]; exact hm
        · exact p2 k (by omega) k1
theorem r12_Least_spec (ok : Ok0 a) (hg : GS a s b) : ∃ r, r12_Least a = some r ∧ ((1 ≤ r ∧ r ≤ 60 ∧ Mk a s r ∧ ∀ k : Int, 1 ≤ k → k < r → ¬ Mk a s k) ∨ (r = 0 ∧ ∀ k : Int, 1 ≤ k → k ≤ 60 → ¬ Mk a s k)) := by
  have hst := ok.st
  obtain ⟨r, r1, r2⟩ := least_rounds ok hg 60 1 (List.replicate a.2.1.toNat 0) (by omega) (by omega) ⟨by simp; omega, fun q _ _ h h' => by omega, fun q _ _ _ => ix_rep0 _ _⟩
  refine ⟨r, ?_, r2⟩
  unfold r12_Least
  rw [G_pos (by unfold mkOK; omega), r1]
end
/- the best state -/
section
variable {a : TA} {s b : List Int}
def Bst (a : TA) (s : List Int) (t best : Int) : Prop := (best = -1 ∧ ∀ q : Int, 0 ≤ q → q < t → ix a.2.2.2.2.1 q = 1 → ¬ 0 < ix s q) ∨
  (0 ≤ best ∧ best < a.2.1 ∧ ix a.2.2.2.2.1 best = 1 ∧ 0 < ix s best ∧ ∀ q : Int, 0 ≤ q → q < t → ix a.2.2.2.2.1 q = 1 → 0 < ix s q → ix s best ≤ ix s q)
theorem some_L4 (ok : Ok0 a) (hls : (s.length : Int) = a.2.1) : ∀ (n : Nat) (t best : Int), 0 ≤ t → t + n = a.2.1 → Bst a s t best →
    ∃ best', tree_some_L4 a s b best t = (if best' < 0 then some (([], ()), false, (0 : Int)) else (tree_put a b best' []).bind fun y => some ((y.2, ()), true, (0 : Int))) ∧ Bst a s a.2.1 best' := by
  have hst := ok.st; have hmk := ok.mks
  intro n
  induction n with
  | zero =>
    intro t best t0 hn hb
    have : t = a.2.1 := by omega
    subst this
    refine ⟨best, ?_, hb⟩
    rw [tree_some_L4_eq]; unfold tree_some_L4_B
    rw [if_neg (by simp only [decide_eq_true_eq]; omega)]
    by_cases c : best < 0
    · rw [if_pos (decide_eq_true c), if_pos c]
    · rw [if_neg (by simpa using c), if_neg c]
  | succ n ih =>
    intro t best t0 hn hb
    have key : ∃ best', tree_some_L4 a s b best t = tree_some_L4 a s b best' (t + 1) ∧ Bst a s (t + 1) best' := by
      have stay : (ix a.2.2.2.2.1 t = 1 → 0 < ix s t → 0 ≤ best ∧ ix s best ≤ ix s t) → Bst a s (t + 1) best := by
        intro h
        rcases hb with ⟨h1, h2⟩ | ⟨h1, h2, h3, h4, h5⟩
        · refine .inl ⟨h1, fun q q0 q1 q2 q3 => ?_⟩
          by_cases e : q = t
          · subst e; have := h q2 q3; omega
          · exact h2 q q0 (by omega) q2 q3
        · refine .inr ⟨h1, h2, h3, h4, fun q q0 q1 q2 q3 => ?_⟩
          by_cases e : q = t
          · subst e; exact (h q2 q3).2
          · exact h5 q q0 (by omega) q2 q3
      have take : ix a.2.2.2.2.1 t = 1 → 0 < ix s t → (0 ≤ best → ix s t ≤ ix s best) → Bst a s (t + 1) t := by
        intro h1 h2 h3
        refine .inr ⟨t0, by omega, h1, h2, fun q q0 q1 q2 q3 => ?_⟩
        by_cases e : q = t
        · subst e; omega
        · rcases hb with ⟨p1, p2⟩ | ⟨p1, p2, p3, p4, p5⟩
          · exact absurd q3 (p2 q q0 (by omega) q2)
          · have := p5 q q0 (by omega) q2 q3
            have := h3 p1
            omega
      conv => arg 1; ext best'; lhs; lhs; rw [tree_some_L4_eq]; unfold tree_some_L4_B
      rw [if_pos (by simp only [decide_eq_true_eq]; omega), G_pos (by omega), G_pos (by omega)]
      by_cases c1 : 0 < ix s t
      · rw [if_pos (decide_eq_true c1), G_pos (by omega)]
        by_cases c2 : ix a.2.2.2.2.1 t = 1
        · rw [if_pos (decide_eq_true c2)]
          by_cases c3 : best < 0
          · rw [if_pos (decide_eq_true c3), G_pos (by unfold fits; omega)]
            exact ⟨t, rfl, take c2 c1 (fun h => by omega)⟩
          · have hbr : best < a.2.1 := by rcases hb with h | h; omega; exact h.2.1
            rw [if_neg (by simpa using c3), G_pos (by omega), G_pos (by omega)]
            by_cases c4 : ix s t < ix s best
            · rw [if_pos (decide_eq_true c4), G_pos (by unfold fits; omega)]
              exact ⟨t, rfl, take c2 c1 (fun h => by omega)⟩
            · rw [if_neg (by simpa using c4), G_pos (by unfold fits; omega)]
              exact ⟨best, rfl, stay (fun _ _ => by omega)⟩
        · rw [if_neg (by simpa using c2), G_pos (by unfold fits; omega)]
          exact ⟨best, rfl, stay (fun h _ => absurd h c2)⟩
      · rw [if_neg (by simpa using c1), G_pos (by unfold fits; omega)]
        exact ⟨best, rfl, stay (fun _ h => absurd h c1)⟩
    obtain ⟨best', e, hb'⟩ := key
    rw [e]
    exact ih (t + 1) best' (by omega) (by omega) hb'
end
/- the tree that is made -/
section
variable {a : TA} {s b : List Int}
/-- A state's least tree, node by node, its first node at a place. -/
def build (a : TA) (b : List Int) : Nat → Int → Int → List Nd
  | 0, _, _ => []
  | n + 1, q, off =>
    if 0 ≤ (ix a.2.2.1 (ix b q)).2.1 then
      build a b n (ix a.2.2.1 (ix b q)).2.1 off ++ build a b n (ix a.2.2.1 (ix b q)).2.2.1 (off + (build a b n (ix a.2.2.1 (ix b q)).2.1 off).length) ++
        [((ix a.2.2.1 (ix b q)).1, off + (build a b n (ix a.2.2.1 (ix b q)).2.1 off).length - 1, off + (build a b n (ix a.2.2.1 (ix b q)).2.1 off).length + (build a b n (ix a.2.2.1 (ix b q)).2.2.1 (off + (build a b n (ix a.2.2.1 (ix b q)).2.1 off).length)).length - 1, ())]
    else [((ix a.2.2.1 (ix b q)).1, -1, -1, ())]
/-- What is known of a state that has a least tree. -/
theorem at_q (ok : Ok0 a) (hg : GS a s b) {q : Int} (q0 : 0 ≤ q) (q1 : q < a.2.1) (h : 0 < ix s q) : 0 ≤ ix b q ∧ ix b q < a.2.2.1.length ∧ (ix a.2.2.1 (ix b q)).2.2.2.1 = q ∧
    (¬ 0 ≤ (ix a.2.2.1 (ix b q)).2.1 ∧ ix s q = 1 ∨ 0 ≤ (ix a.2.2.1 (ix b q)).2.1 ∧ (ix a.2.2.1 (ix b q)).2.1 < a.2.1 ∧ 0 ≤ (ix a.2.2.1 (ix b q)).2.2.1 ∧ (ix a.2.2.1 (ix b q)).2.2.1 < a.2.1 ∧
      0 < ix s (ix a.2.2.1 (ix b q)).2.1 ∧ 0 < ix s (ix a.2.2.1 (ix b q)).2.2.1 ∧ ix s q = 1 + (ix s (ix a.2.2.1 (ix b q)).2.1 + ix s (ix a.2.2.1 (ix b q)).2.2.1)) := by
  obtain ⟨p1, p2, p3, p4, p5⟩ := hg.g.by' q q0 q1 h
  have he := exact_by ok hg.g hg.st q0 q1 h
  have hr := ok.rule p1 p2
  refine ⟨p1, p2, p3, ?_⟩
  unfold val at he
  split at he
  · rename_i c
    right
    have r1 := hg.g.rng (ix a.2.2.1 (ix b q)).2.1 (by omega) (by omega)
    have r2 := hg.g.rng (ix a.2.2.1 (ix b q)).2.2.1 (by omega) (by omega)
    split at he <;> omega
  · rename_i c
    exact .inl ⟨c, by omega⟩
theorem build_len (ok : Ok0 a) (hg : GS a s b) : ∀ (n : Nat) (q off : Int), 0 ≤ q → q < a.2.1 → 0 < ix s q → ix s q ≤ n → ((build a b n q off).length : Int) = ix s q := by
  intro n
  induction n with
  | zero => intro q off q0 q1 h h'; omega
  | succ n ih =>
    intro q off q0 q1 h h'
    obtain ⟨p1, p2, p3, p4⟩ := at_q ok hg q0 q1 h
    unfold build
    rcases p4 with ⟨c, e⟩ | ⟨c, c1, c2, c3, c4, c5, e⟩
    · rw [if_neg c]; simp; omega
    · rw [if_pos c]
      have i1 := ih (ix a.2.2.1 (ix b q)).2.1 off c c1 c4 (by omega)
      have i2 := ih (ix a.2.2.1 (ix b q)).2.2.1 (off + (build a b n (ix a.2.2.1 (ix b q)).2.1 off).length) c2 c3 c5 (by omega)
      simp only [List.length_append, List.length_cons, List.length_nil]
      omega
theorem put_spec (ok : Ok0 a) (hg : GS a s b) : ∀ (n : Nat) (q : Int) (l : List Nd), 0 ≤ q → q < a.2.1 → 0 < ix s q → ix s q ≤ n → (l.length : Int) + ix s q ≤ 60 →
    tree_put a b q l = some ((l.length : Int) + ix s q - 1, l ++ build a b n q l.length) := by
  intro n
  induction n with
  | zero => intro q l q0 q1 h h'; omega
  | succ n ih =>
    intro q l q0 q1 h h' h60
    obtain ⟨p1, p2, p3, p4⟩ := at_q ok hg q0 q1 h
    have hlb := hg.g.lb
    rw [tree_put_eq]; unfold tree_put_B build
    rw [G_pos (by omega), G_pos (by omega)]
    rcases p4 with ⟨c, e⟩ | ⟨c, c1, c2, c3, c4, c5, e⟩
    · rw [if_neg (by simpa using c), if_neg c]
      unfold tree_put_J5
      rw [G_pos (by unfold room; simp only [List.length_cons, List.length_nil]; omega), G_pos (by unfold fits; simp only [List.length_append, List.length_cons, List.length_nil]; omega)]
      rw [Option.some_inj, Prod.mk.injEq]
      refine ⟨?_, rfl⟩
      simp only [List.length_append, List.length_cons, List.length_nil]; omega
    · rw [if_pos (decide_eq_true c), if_pos c]
      have i1 := ih (ix a.2.2.1 (ix b q)).2.1 l c c1 c4 (by omega) (by omega)
      have b1 := build_len ok hg n (ix a.2.2.1 (ix b q)).2.1 l.length c c1 c4 (by omega)
      refine bind_to i1 ?_
      have i2 := ih (ix a.2.2.1 (ix b q)).2.2.1 (l ++ build a b n (ix a.2.2.1 (ix b q)).2.1 l.length) c2 c3 c5 (by omega) (by simp only [List.length_append]; omega)
      refine bind_to i2 ?_
      have hoff : (((l ++ build a b n (ix a.2.2.1 (ix b q)).2.1 l.length).length : Nat) : Int) = (l.length : Int) + (build a b n (ix a.2.2.1 (ix b q)).2.1 l.length).length := by simp
      have b2 := build_len ok hg n (ix a.2.2.1 (ix b q)).2.2.1 ((l.length : Int) + (build a b n (ix a.2.2.1 (ix b q)).2.1 l.length).length) c2 c3 c5 (by omega)
      dsimp only
      rw [hoff]
      unfold tree_put_J5
      rw [G_pos (by unfold room; simp only [List.length_append, List.length_cons, List.length_nil]; omega), G_pos (by unfold fits; simp only [List.length_append, List.length_cons, List.length_nil]; omega)]
      rw [Option.some_inj, Prod.mk.injEq]
      constructor
      · simp only [List.length_append, List.length_cons, List.length_nil]; omega
      · simp only [List.append_assoc]
        rw [b2, b1]
end
/- .. it is a tree, and accepted -/
section
variable {a : TA} {s b : List Int}
theorem ix_app_l {α : Type} [Inhabited α] {x y : List α} {j : Int} (j0 : 0 ≤ j) (h : j < x.length) : ix (x ++ y) j = ix x j := by
  simp only [ix, List.getD_eq_getElem?_getD]
  rw [List.getElem?_append_left (by omega)]
theorem ix_app_r {α : Type} [Inhabited α] {x y : List α} {j k : Int} (j0 : 0 ≤ j) (h : k = x.length + j) : ix (x ++ y) k = ix y j := by
  simp only [ix, List.getD_eq_getElem?_getD]
  rw [List.getElem?_append_right (by omega)]
  congr 2
  omega
def At (L : List Nd) (off : Int) (l : List Nd) : Prop := ∀ j : Int, 0 ≤ j → j < l.length → ix L (off + j) = ix l j
theorem At.left {L : List Nd} {off : Int} {x y : List Nd} (h : At L off (x ++ y)) : At L off x := fun j j0 j1 => by
  rw [h j j0 (by simp; omega), ix_app_l j0 j1]
theorem At.right {L : List Nd} {off k : Int} {x y : List Nd} (h : At L off (x ++ y)) (hk : k = off + x.length) : At L k y := fun j j0 j1 => by
  subst hk
  rw [Int.add_assoc, h _ (by omega) (by simp; omega)]
  exact ix_app_r j0 rfl
theorem block_tr (ok : Ok0 a) (hg : GS a s b) {L : List Nd} : ∀ (n : Nat) (q off : Int), 0 ≤ q → q < a.2.1 → 0 < ix s q → ix s q ≤ n → 0 ≤ off → off + ix s q ≤ L.length → At L off (build a b n q off) →
    ∀ c : List Bool, c.length = L.length → (∀ j : Int, off ≤ j → j < off + ix s q → ix c j = false) →
      ∃ c' : List Bool, c'.length = L.length ∧ (∀ j : Int, off ≤ j → j < off + ix s q - 1 → ix c' j = true) ∧ ix c' (off + ix s q - 1) = false ∧ (∀ j : Int, 0 ≤ j → j < off ∨ off + ix s q ≤ j → ix c' j = ix c j) ∧
        ∀ m : Nat, trF L a.1 (m + (ix s q).toNat) off c = trF L a.1 m (off + ix s q) c' := by
  intro n
  induction n with
  | zero => intro q off q0 q1 h h'; omega
  | succ n ih =>
    intro q off q0 q1 h h' o0 o1 hat c hc hf
    obtain ⟨p1, p2, p3, p4⟩ := at_q ok hg q0 q1 h
    have hr := ok.rule p1 p2
    unfold build at hat
    rcases p4 with ⟨d, e⟩ | ⟨d, c1, c2, c3, c4, c5, e⟩
    · rw [if_neg d] at hat
      have hx := hat 0 (by omega) (by simp)
      rw [Int.add_zero] at hx
      have hx : ix L off = ((ix a.2.2.1 (ix b q)).1, -1, -1, ()) := hx
      refine ⟨c, hc, fun j j0 j1 => by omega, hf _ (by omega) (by omega), fun _ _ _ => rfl, fun m => ?_⟩
      rw [e, show m + (1 : Int).toNat = m + 1 from rfl]
      conv => lhs; unfold trF
      rw [hx]
      dsimp only
      rw [if_neg (by omega), if_pos ⟨rfl, rfl⟩]
    · rw [if_pos d] at hat
      have b1 := build_len ok hg n (ix a.2.2.1 (ix b q)).2.1 off d c1 c4 (by omega)
      have b2 := build_len ok hg n (ix a.2.2.1 (ix b q)).2.2.1 (off + (build a b n (ix a.2.2.1 (ix b q)).2.1 off).length) c2 c3 c5 (by omega)
      have hR : At L (off + ix s (ix a.2.2.1 (ix b q)).2.1) (build a b n (ix a.2.2.1 (ix b q)).2.2.1 (off + ix s (ix a.2.2.1 (ix b q)).2.1)) := by
        have := hat.left.right (k := off + (build a b n (ix a.2.2.1 (ix b q)).2.1 off).length) rfl
        rw [b1] at this; exact this
      have hroot := hat.right (k := off + ix s (ix a.2.2.1 (ix b q)).2.1 + ix s (ix a.2.2.1 (ix b q)).2.2.1) (by simp only [List.length_append]; omega) 0 (by omega) (by simp)
      rw [Int.add_zero] at hroot
      rw [b2, b1] at hroot
      have hroot : ix L (off + ix s (ix a.2.2.1 (ix b q)).2.1 + ix s (ix a.2.2.1 (ix b q)).2.2.1) = ((ix a.2.2.1 (ix b q)).1, off + ix s (ix a.2.2.1 (ix b q)).2.1 - 1, off + ix s (ix a.2.2.1 (ix b q)).2.1 + ix s (ix a.2.2.1 (ix b q)).2.2.1 - 1, ()) := hroot
      obtain ⟨d1, l1, t1, f1, u1, e1⟩ := ih (ix a.2.2.1 (ix b q)).2.1 off d c1 c4 (by omega) o0 (by omega) hat.left.left c hc (fun j j0 j1 => hf j j0 (by omega))
      obtain ⟨d2, l2, t2, f2, u2, e2⟩ := ih (ix a.2.2.1 (ix b q)).2.2.1 (off + ix s (ix a.2.2.1 (ix b q)).2.1) c2 c3 c5 (by omega) (by omega) (by omega) hR d1 l1 (fun j j0 j1 => by
        rw [u1 j (by omega) (.inr (by omega))]; exact hf j (by omega) (by omega))
      generalize hsl : ix s (ix a.2.2.1 (ix b q)).2.1 = sl at *
      generalize hsr : ix s (ix a.2.2.1 (ix b q)).2.2.1 = sr at *
      have g0 : ix d2 (off + sl - 1) = false := by rw [u2 _ (by omega) (.inl (by omega))]; exact f1
      have g1 : ix (d2.set (off + sl - 1).toNat true) (off + sl + sr - 1) = false := by
        rw [ix_set_ne (by omega) (by omega) (by omega)]; exact f2
      have hl3 : ((d2.set (off + sl - 1).toNat true).set (off + sl + sr - 1).toNat true).length = L.length := by simp [l2]
      have hat3 : ∀ j : Int, 0 ≤ j → ix ((d2.set (off + sl - 1).toNat true).set (off + sl + sr - 1).toNat true) j = if j = off + sl - 1 ∨ j = off + sl + sr - 1 then true else ix d2 j := by
        intro j j0
        by_cases e1 : off + sl + sr - 1 = j
        · subst e1
          rw [ix_set_same (by omega) (by simp [l2]; omega), if_pos (.inr rfl)]
        · rw [ix_set_ne (by omega) j0 e1]
          by_cases e2 : off + sl - 1 = j
          · subst e2
            rw [ix_set_same (by omega) (by omega), if_pos (.inl rfl)]
          · rw [ix_set_ne (by omega) j0 e2, if_neg (by omega)]
      refine ⟨_, hl3, fun j j0 j1 => ?_, ?_, fun j j0 j1 => ?_, fun m => ?_⟩
      · rw [hat3 j (by omega)]
        split
        · rfl
        · by_cases hj : j < off + sl
          · rw [u2 j (by omega) (.inl (by omega))]; exact t1 j j0 (by omega)
          · exact t2 j (by omega) (by omega)
      · rw [hat3 _ (by omega), if_neg (by omega), u2 _ (by omega) (.inr (by omega)), u1 _ (by omega) (.inr (by omega))]
        exact hf _ (by omega) (by omega)
      · rw [hat3 j j0, if_neg (by omega), u2 j j0 (by omega), u1 j j0 (by omega)]
      · have k1 : m + (ix s q).toNat = (m + 1 + sr.toNat) + sl.toNat := by omega
        rw [k1, e1, e2]
        conv => lhs; unfold trF
        rw [hroot]
        dsimp only
        rw [if_neg (by omega), if_neg (by omega), if_neg (by
          rintro (h | h | h | h | h | h)
          · omega
          · omega
          · rw [g0] at h; cases h
          · omega
          · omega
          · rw [g1] at h; cases h)]
        congr 1
        omega
theorem L8_all {L : List Nd} (ok : Ok a L) {i : Int} {can : List (List Bool)} (hi : 0 ≤ i ∧ i < L.length) (hc : (can.length : Int) = i) (hrows : ∀ j : Int, 0 ≤ j → j < i → ((ix can j).length : Int) = a.2.1) {r3 : Int → List (List Bool) → Option Bool} : ∀ (n : Nat) (k : Int) (own : List Bool), 0 ≤ k → k + n = a.2.2.1.length → (own.length : Int) = a.2.1 →
    ∃ own', r12_Accepts_L8 a (L, ()) i can r3 k own = r3 (i + 1) (can ++ [own']) ∧ (own'.length : Int) = a.2.1 ∧ (∀ q : Int, 0 ≤ q → ix own q = true → ix own' q = true) ∧ ∀ j : Int, k ≤ j → j < a.2.2.1.length → Use (ix L i) can (ix a.2.2.1 j) → ix own' (ix a.2.2.1 j).2.2.2.1 = true := by
  intro n
  induction n with
  | zero =>
    intro k own k0 hn hl
    have := ok.n
    refine ⟨own, ?_, hl, fun q _ h => h, fun j j0 j1 => by omega⟩
    rw [r12_Accepts_L8_eq]; unfold r12_Accepts_L8_B
    rw [if_neg (by simp only [decide_eq_true_eq]; omega), G_pos (by unfold room; simp only [List.length_cons, List.length_nil]; omega), G_pos (by unfold fits; omega)]
  | succ n ih =>
    intro k own k0 hn hl
    have hb := ok.rb k k0 (by omega)
    unfold RBad at hb
    rw [L8_step ok hi hc hrows hl k0 (by omega)]
    by_cases u : Use (ix L i) can (ix a.2.2.1 k)
    · rw [if_pos u]
      obtain ⟨own', e, h1, h2, h3⟩ := ih (k + 1) (own.set (ix a.2.2.1 k).2.2.2.1.toNat true) (by omega) (by omega) (by simpa using hl)
      refine ⟨own', e, h1, fun q q0 hq => h2 q q0 ?_, fun j j0 j1 hu => ?_⟩
      · by_cases e : (ix a.2.2.1 k).2.2.2.1 = q
        · rw [← e, ix_set_same (by omega) (by omega)]
        · rw [ix_set_ne (by omega) q0 e]; exact hq
      · by_cases e : j = k
        · subst e; exact h2 _ (by omega) (ix_set_same (by omega) (by omega))
        · exact h3 j (by omega) j1 hu
    · rw [if_neg u]
      obtain ⟨own', e, h1, h2, h3⟩ := ih (k + 1) own (by omega) (by omega) hl
      refine ⟨own', e, h1, h2, fun j j0 j1 hu => ?_⟩
      by_cases e : j = k
      · subst e; exact absurd hu u
      · exact h3 j (by omega) j1 hu
theorem node_step {L : List Nd} (ok : Ok a L) {i : Int} {can : List (List Bool)} (hi : 0 ≤ i ∧ i < L.length) (hc : (can.length : Int) = i) (hrows : ∀ j : Int, 0 ≤ j → j < i → ((ix can j).length : Int) = a.2.1) :
    ∃ own, r12_Accepts_L3 a (L, ()) i can = r12_Accepts_L3 a (L, ()) (i + 1) (can ++ [own]) ∧ (own.length : Int) = a.2.1 ∧ ∀ j : Int, 0 ≤ j → j < a.2.2.1.length → Use (ix L i) can (ix a.2.2.1 j) → ix own (ix a.2.2.1 j).2.2.2.1 = true := by
  have hst := ok.st; have hrl := ok.rl
  obtain ⟨own, e, h1, _, h3⟩ := L8_all ok hi hc hrows (r3 := fun i c => r12_Accepts_L3 a (L, ()) i c) a.2.2.1.length 0 (List.replicate a.2.1.toNat false) (by omega) (by omega) (by simp; omega)
  refine ⟨own, ?_, h1, h3⟩
  conv => lhs; rw [r12_Accepts_L3_eq]; unfold r12_Accepts_L3_B
  dsimp only
  rw [if_pos (by simp only [decide_eq_true_eq]; omega), G_pos (by omega), G_pos (by unfold mkOK; omega)]
  exact e
theorem block_acc (ok : Ok0 a) (hg : GS a s b) {L : List Nd} (okL : Ok a L) : ∀ (n : Nat) (q off : Int), 0 ≤ q → q < a.2.1 → 0 < ix s q → ix s q ≤ n → 0 ≤ off → off + ix s q ≤ L.length → At L off (build a b n q off) →
    ∀ can : List (List Bool), (can.length : Int) = off → (∀ j : Int, 0 ≤ j → j < off → ((ix can j).length : Int) = a.2.1) →
      ∃ can', (can'.length : Int) = off + ix s q ∧ (∀ j : Int, 0 ≤ j → j < off + ix s q → ((ix can' j).length : Int) = a.2.1) ∧ (∀ j : Int, 0 ≤ j → j < off → ix can' j = ix can j) ∧ ix (ix can' (off + ix s q - 1)) q = true ∧
        r12_Accepts_L3 a (L, ()) off can = r12_Accepts_L3 a (L, ()) (off + ix s q) can' := by
  intro n
  induction n with
  | zero => intro q off q0 q1 h h'; omega
  | succ n ih =>
    intro q off q0 q1 h h' o0 o1 hat can hc hrows
    obtain ⟨p1, p2, p3, p4⟩ := at_q ok hg q0 q1 h
    have hr := ok.rule p1 p2
    unfold build at hat
    rcases p4 with ⟨d, e⟩ | ⟨d, c1, c2, c3, c4, c5, e⟩
    · rw [if_neg d] at hat
      have hx := hat 0 (by omega) (by simp)
      rw [Int.add_zero] at hx
      have hx : ix L off = ((ix a.2.2.1 (ix b q)).1, -1, -1, ()) := hx
      obtain ⟨own, e1, e2, e3⟩ := node_step okL ⟨o0, by omega⟩ hc hrows
      have hu := e3 (ix b q) p1 p2 (by
        unfold Use; rw [hx]
        exact ⟨rfl, by dsimp only; omega, .inl (by omega)⟩)
      rw [p3] at hu
      refine ⟨can ++ [own], by simp; omega, fun j j0 j1 => ?_, fun j j0 j1 => ix_snoc j0 (by omega), ?_, by rw [e1, e]⟩
      · by_cases hj : j < off
        · rw [ix_snoc j0 (by omega)]; exact hrows j j0 hj
        · rw [ix_snoc_last (by omega)]; exact e2
      · rw [ix_snoc_last (by omega)]; exact hu
    · rw [if_pos d] at hat
      have b1 := build_len ok hg n (ix a.2.2.1 (ix b q)).2.1 off d c1 c4 (by omega)
      have b2 := build_len ok hg n (ix a.2.2.1 (ix b q)).2.2.1 (off + (build a b n (ix a.2.2.1 (ix b q)).2.1 off).length) c2 c3 c5 (by omega)
      have hR : At L (off + ix s (ix a.2.2.1 (ix b q)).2.1) (build a b n (ix a.2.2.1 (ix b q)).2.2.1 (off + ix s (ix a.2.2.1 (ix b q)).2.1)) := by
        have := hat.left.right (k := off + (build a b n (ix a.2.2.1 (ix b q)).2.1 off).length) rfl
        rw [b1] at this; exact this
      have hroot := hat.right (k := off + ix s (ix a.2.2.1 (ix b q)).2.1 + ix s (ix a.2.2.1 (ix b q)).2.2.1) (by simp only [List.length_append]; omega) 0 (by omega) (by simp)
      rw [Int.add_zero] at hroot
      rw [b2, b1] at hroot
      have hroot : ix L (off + ix s (ix a.2.2.1 (ix b q)).2.1 + ix s (ix a.2.2.1 (ix b q)).2.2.1) = ((ix a.2.2.1 (ix b q)).1, off + ix s (ix a.2.2.1 (ix b q)).2.1 - 1, off + ix s (ix a.2.2.1 (ix b q)).2.1 + ix s (ix a.2.2.1 (ix b q)).2.2.1 - 1, ()) := hroot
      obtain ⟨m1, l1, w1, u1, t1, e1⟩ := ih (ix a.2.2.1 (ix b q)).2.1 off d c1 c4 (by omega) o0 (by omega) hat.left.left can hc hrows
      obtain ⟨m2, l2, w2, u2, t2, e2⟩ := ih (ix a.2.2.1 (ix b q)).2.2.1 (off + ix s (ix a.2.2.1 (ix b q)).2.1) c2 c3 c5 (by omega) (by omega) (by omega) hR m1 l1 w1
      obtain ⟨own, g1, g2, g3⟩ := node_step okL (i := off + ix s (ix a.2.2.1 (ix b q)).2.1 + ix s (ix a.2.2.1 (ix b q)).2.2.1) ⟨by omega, by omega⟩ l2 w2
      have hu := g3 (ix b q) p1 p2 (by
        unfold Use; rw [hroot]
        refine ⟨rfl, by dsimp only; omega, .inr ⟨?_, t2⟩⟩
        dsimp only
        rw [u2 _ (by omega) (by omega)]; exact t1)
      rw [p3] at hu
      refine ⟨m2 ++ [own], by simp; omega, fun j j0 j1 => ?_, fun j j0 j1 => ?_, ?_, ?_⟩
      · by_cases hj : j < m2.length
        · rw [ix_snoc j0 hj]; exact w2 j j0 (by omega)
        · rw [ix_snoc_last (by omega)]; exact g2
      · rw [ix_snoc j0 (by omega), u2 j j0 (by omega), u1 j j0 j1]
      · rw [ix_snoc_last (by omega)]; exact hu
      · rw [e1, e2, g1]
        congr 1
        omega
theorem L17_yes {L : List (List Bool)} (ok : Ok0 a) (hr : ((ix L ((L.length : Int) - 1)).length : Int) = a.2.1) {q : Int} (q0 : 0 ≤ q) (q1 : q < a.2.1) (h : ix (ix L ((L.length : Int) - 1)) q = true) (hm : ix a.2.2.2.2.1 q = 1) : r12_Accepts_L17 a L 0 = some true := by
  have hst := ok.st; have hmk := ok.mks
  refine scan_to (len := a.2.1) (bad := fun j => ix (ix L ((L.length : Int) - 1)) j = true ∧ ix a.2.2.2.2.1 j = 1) (by omega) (fun j j0 j1 => ⟨fun hb => ?_, fun hb => ?_⟩) (fun hh => absurd ⟨h, hm⟩ (hh q q0 q1))
  · rw [r12_Accepts_L17_eq]; unfold r12_Accepts_L17_B
    rw [if_pos (decide_eq_true j1), G_pos (by omega), if_pos hb.1, G_pos (by omega), if_pos (decide_eq_true hb.2)]
  · conv => lhs; rw [r12_Accepts_L17_eq]; unfold r12_Accepts_L17_B
    rw [if_pos (decide_eq_true j1), G_pos (by omega)]
    by_cases c : ix (ix L ((L.length : Int) - 1)) j = true
    · rw [if_pos c, G_pos (by omega), if_neg (by simpa using fun h => hb ⟨c, h⟩), G_pos (by unfold fits; omega)]
    · rw [if_neg c, G_pos (by unfold fits; omega)]
/-- What is made for a marked state. -/
theorem made_n {N : Nat} (hN : N = 60) (ok : Ok0 a) (hl : 1 ≤ a.1 ∧ a.1 ≤ 4) (hg : GS a s b) {q : Int} (q0 : 0 ≤ q) (q1 : q < a.2.1) (h : 0 < ix s q) (hm : ix a.2.2.2.2.1 q = 1) :
    ∃ L, tree_put a b q [] = some (ix s q - 1, L) ∧ (L.length : Int) = ix s q ∧ r12_Tree a.1 (L, ()) = some 0 ∧ r12_Accepts a (L, ()) = some true := by
  have hr := hg.g.rng q q0 q1
  have hput := put_spec ok hg N q [] q0 q1 h (by omega) (by simp; omega)
  have hlen := build_len ok hg N q 0 q0 q1 h (by omega)
  have hat : At (build a b N q 0) 0 (build a b N q 0) := fun j j0 j1 => by rw [Int.zero_add]
  obtain ⟨c', h1, h2, h3, h4, h5⟩ := block_tr ok hg N q 0 q0 q1 h (by omega) (by omega) (by omega) hat (List.replicate (build a b N q 0).length false) (by simp) (fun j j0 j1 => by
    simp only [ix, List.getD_eq_getElem?_getD, List.getElem?_replicate]
    split <;> rfl)
  have htr : trF (build a b N q 0) a.1 (build a b N q 0).length 0 (List.replicate (build a b N q 0).length false) = 0 := by
    have := h5 0
    rw [show 0 + (ix s q).toNat = (build a b N q 0).length by omega] at this
    rw [this]
    unfold trF
    rw [if_neg]
    rintro ⟨j, j0, j1, j2⟩
    rw [h2 j j0 (by omega)] at j2; cases j2
  have htt : ttE a.1 (build a b N q 0) = 0 := by
    unfold ttE
    rw [if_neg (by omega), if_neg (by omega), if_neg (by omega), if_neg (by omega)]
    exact htr
  have okL : Ok a (build a b N q 0) := ⟨ok.st, ok.rl, ok.mks, ok.rb, by omega, fun j j0 j1 => (nodes_ok _ _ _ htr j j0 (by omega)).2.2⟩
  obtain ⟨can, k1, k2, k3, k4, k5⟩ := block_acc ok hg okL N q 0 q0 q1 h (by omega) (by omega) (by omega) hat [] rfl (fun j j0 j1 => by omega)
  refine ⟨build a b N q 0, ?_, hlen, by rw [r12_Tree_spec, htt], ?_⟩
  · rw [hput]; simp
  · unfold r12_Accepts
    rw [k5, r12_Accepts_L3_eq]; unfold r12_Accepts_L3_B
    dsimp only
    rw [if_neg (by simp only [decide_eq_true_eq]; omega), G_pos (by unfold fits; omega), G_pos (by omega), G_pos (by omega)]
    have e : (can.length : Int) - 1 = 0 + ix s q - 1 := by omega
    exact L17_yes ok (by rw [e]; exact k2 _ (by omega) (by omega)) q0 q1 (by rw [e]; exact k4) hm
theorem made (ok : Ok0 a) (hl : 1 ≤ a.1 ∧ a.1 ≤ 4) (hg : GS a s b) {q : Int} (q0 : 0 ≤ q) (q1 : q < a.2.1) (h : 0 < ix s q) (hm : ix a.2.2.2.2.1 q = 1) :
    ∃ L, tree_put a b q [] = some (ix s q - 1, L) ∧ (L.length : Int) = ix s q ∧ r12_Tree a.1 (L, ()) = some 0 ∧ r12_Accepts a (L, ()) = some true := by
  obtain ⟨N, hN⟩ : ∃ N : Nat, N = 60 := ⟨60, rfl⟩
  exact made_n hN ok hl hg q0 q1 h hm
end
theorem list_spec {w : List Int} (hs : w.length * 8 ≤ 140737488351232) : law_list w = some w := by
  unfold law_list
  rw [G_pos (by unfold fits; omega), G_pos (by unfold mkOK; omega)]
  simp
theorem taE_letters {a : TA} (h1 : taE a = 0) : 1 ≤ a.1 ∧ a.1 ≤ 4 := by
  unfold taE at h1
  by_cases c1 : TLet a
  · rw [if_pos c1] at h1; cases h1
  unfold TLet at c1
  omega
theorem tree_some_spec {a : TA} {s b : List Int} (h1 : taE a = 0) (hg : GS a s b) (eg : tree_grown a = some (s, b)) :
    ∃ L f, tree_some a = some ((L, ()), f, 0) ∧ ((f = false ∧ L = [] ∧ ∀ k : Int, 1 ≤ k → k ≤ 60 → ¬ Mk a s k) ∨
      (f = true ∧ 1 ≤ (L.length : Int) ∧ (L.length : Int) ≤ 60 ∧ Mk a s L.length ∧ (∀ k : Int, 1 ≤ k → k < L.length → ¬ Mk a s k) ∧ r12_Tree a.1 (L, ()) = some 0 ∧ r12_Accepts a (L, ()) = some true)) := by
  have ok := ok0_of h1
  have hst := ok.st
  obtain ⟨best, e, hb⟩ := some_L4 (b := b) ok hg.g.ls a.2.1.toNat 0 (-1) (by omega) (by omega) (.inl ⟨rfl, fun q _ _ => by omega⟩)
  have e0 : tree_some a = (if best < 0 then some (([], ()), false, (0 : Int)) else (tree_put a b best []).bind fun y => some ((y.2, ()), true, (0 : Int))) := by
    unfold tree_some
    refine (congrArg (fun x => Option.bind x _) eg).trans ?_
    exact e
  rcases hb with ⟨rfl, h⟩ | ⟨h2, h3, h4, h5, h6⟩
  · refine ⟨[], false, ?_, .inl ⟨rfl, rfl, fun k k0 k1 ⟨q, q0, q1, q2, q3⟩ => h q q0 q1 q3 (by omega)⟩⟩
    rw [e0, if_pos (by omega)]
  · obtain ⟨L, p1, p2, p3, p4⟩ := made ok (taE_letters h1) hg h2 h3 h5 h4
    have hr := hg.g.rng best h2 h3
    refine ⟨L, true, ?_, .inr ⟨rfl, by omega, by omega, ⟨best, h2, h3, by omega, h4⟩, fun k k0 k1 ⟨q, q0, q1, q2, q3⟩ => ?_, p3, p4⟩⟩
    · rw [e0, if_neg (by omega), p1]; rfl
    · have := h6 q q0 q1 q3 (by omega)
      omega
theorem law_true (a : TA) (sa : Sml (.pair (.int .i64) (.pair (.int .i64) (.pair (.list (.pair (.int .i64) (.pair (.int .i64) (.pair (.int .i64) (.pair (.int .i64) .unit))))) (.pair (.int .i64) (.pair (.list (.int .i64)) .unit))))) a) : law_TreeSome a = some true := by
  have b1 : a.2.2.1.length * 32 ≤ 140737488351232 := sa.2.2.1.1
  have b2 : a.2.2.2.2.1.length * 8 ≤ 140737488351232 := sa.2.2.2.2.1.1
  have e1 : law_trees a = some a := by
    unfold law_trees
    rw [G_pos (room_of (by simp only [List.length_nil]; omega))]
    refine bind_to (list_spec b2) ?_
    rfl
  unfold law_TreeSome
  refine bind_to e1 ?_
  by_cases h1 : taE a = 0
  · obtain ⟨s, b, eg, g1, g2⟩ := tree_grown_spec (ok0_of h1)
    obtain ⟨r, er, hr⟩ := r12_Least_spec (ok0_of h1) ⟨g1, g2⟩
    obtain ⟨L, f, e, h⟩ := tree_some_spec h1 ⟨g1, g2⟩ eg
    have e2 : tree_Some a = some ((L, ()), f, 0) := by
      unfold tree_Some
      refine bind_to tree_Check_spec ?_
      rw [if_neg (by simp [h1])]
      refine bind_to e rfl
    refine bind_to e2 (bind_to r12_Check_spec ?_)
    rw [if_neg (by simp [h1])]
    refine bind_to er ?_
    rw [if_neg (by simp)]
    rcases h with ⟨rfl, rfl, h⟩ | ⟨rfl, l1, l2, l3, l4, l5, l6⟩
    · have hr0 : r = 0 := by
        rcases hr with ⟨p1, p2, p3, p4⟩ | ⟨p1, p2⟩
        · exact absurd p3 (h r p1 p2)
        · exact p1
      subst hr0
      simp
    · have hrL : r = L.length := by
        rcases hr with ⟨p1, p2, p3, p4⟩ | ⟨p1, p2⟩
        · have q1 : ¬ r < L.length := fun h => l4 r p1 h p3
          have q2 : ¬ (L.length : Int) < r := fun h => p4 L.length l1 h l3
          omega
        · exact absurd l3 (p2 _ l1 l2)
      subst hrL
      rw [decide_eq_true (show (0 : Int) < L.length by omega), if_neg (by simp), if_neg (by simp), if_neg (by simp)]
      refine bind_to l5 ?_
      rw [if_neg (by simp)]
      refine bind_to l6 rfl
  · have e2 : tree_Some a = some (([], ()), false, taE a) := by
      unfold tree_Some
      refine bind_to tree_Check_spec ?_
      rw [if_pos (by simp [h1])]
    refine bind_to e2 (bind_to r12_Check_spec ?_)
    rw [if_pos (by simp [h1])]
    simp

end Go.Proofs.Ytjongekfcejikaa.treeSomeW
