/- The law 'StackSteps' of the plain functions. -/
import Derived.Test.YtgjpkfbaobanlaaStackStepsD
set_option maxHeartbeats 1000000
set_option maxRecDepth 20000
set_option linter.unusedSimpArgs false
set_option linter.unusedVariables false
namespace Go.Proofs.Ytgjpkfbaobanlaa.stackStepsW
open Go Go.Ab
/-- The answer is yes just if P. -/
def Tells (o : Option Bool) (P : Prop) : Prop := ∃ b, o = some b ∧ (b = true ↔ P)
theorem Tells.of {b : Bool} {P : Prop} (h : b = true ↔ P) : Tells (some b) P := ⟨b, rfl, h⟩
theorem Tells.dec {P Q : Prop} [Decidable P] (h : P ↔ Q) : Tells (some (decide P)) Q := ⟨_, rfl, by simpa using h⟩
theorem Tells.iff {o : Option Bool} {P Q : Prop} (h : Tells o P) (k : P ↔ Q) : Tells o Q := let ⟨b, h1, h2⟩ := h; ⟨b, h1, h2.trans k⟩
theorem Tells.eq {o : Option Bool} {P : Prop} [Decidable P] (h : Tells o P) : o = some (decide P) := by
  obtain ⟨b, rfl, hb⟩ := h
  by_cases hp : P
  · simp [hp, hb.2 hp]
  · have : b = false := by cases b; rfl; exact absurd (hb.1 rfl) hp
    simp [hp, this]
theorem Tells.to {R : Type} {o : Option Bool} {P : Prop} {k1 k2 x : Option R} (h : Tells o P) (h1 : P → k1 = x) (h2 : ¬ P → k2 = x) : (o.bind fun y => if y = true then k1 else k2) = x := by
  obtain ⟨b, rfl, hb⟩ := h
  refine bind_to rfl ?_
  cases b
  · exact h2 fun hp => by simpa using hb.2 hp
  · exact h1 (hb.1 rfl)
theorem Tells.bind {R : Type} {o : Option Bool} {P : Prop} {k : Bool → Option R} {x : Option R} (h : Tells o P) (h1 : ∀ b, (b = true ↔ P) → k b = x) : o.bind k = x := by
  obtain ⟨b, rfl, hb⟩ := h
  exact h1 b hb
section
variable {α C : Type} [Inhabited α]
theorem ex_ix {l : List α} {P : α → Prop} : (∃ x ∈ l, P x) ↔ ∃ i : Int, 0 ≤ i ∧ i < l.length ∧ P (ix l i) := by
  constructor
  · rintro ⟨x, hx, hp⟩
    obtain ⟨i, hi, rfl⟩ := List.mem_iff_getElem.1 hx
    refine ⟨i, by omega, by omega, ?_⟩
    rwa [ix_eq (by omega) (by omega)]
  · rintro ⟨i, h0, h1, hp⟩
    exact ⟨_, ix_mem h0 h1, hp⟩
theorem index_loop {s : List α} {f : α → Option Bool} {L : Int → Option Int} {P : α → Prop} (hs : s.length ≤ 4611686018427387904)
    (hL : ∀ t, L t = if decide (t < (s.length : Int)) = true then G (0 ≤ t ∧ t < (s.length : Int)) ((f (ix s t)).bind fun y => if y = true then some t else G (fits (t + 1)) (L (t + 1))) else some (-1))
    (hf : ∀ x ∈ s, Tells (f x) (P x)) : ∀ (n : Nat) (t : Int), 0 ≤ t → t ≤ s.length → (s.length - t).toNat = n →
      ∃ i, L t = some i ∧ ((i = -1 ∧ ∀ j : Int, t ≤ j → j < s.length → ¬ P (ix s j)) ∨ (t ≤ i ∧ i < s.length ∧ P (ix s i) ∧ ∀ j : Int, t ≤ j → j < i → ¬ P (ix s j))) := by
  intro n
  induction n with
  | zero =>
    intro t h0 h1 hn
    refine ⟨-1, ?_, .inl ⟨rfl, fun j a b => by omega⟩⟩
    rw [hL, if_neg (by simp; omega)]
  | succ n ih =>
    intro t h0 h1 hn
    rw [hL, if_pos (by simp; omega), G_pos (by omega)]
    obtain ⟨b, hb, hbp⟩ := hf _ (ix_mem h0 (by omega : t < s.length))
    rw [hb]
    cases b with
    | true => exact ⟨t, rfl, .inr ⟨by omega, by omega, hbp.1 rfl, fun j a b => by omega⟩⟩
    | false =>
      have hnp : ¬ P (ix s t) := fun hp => by simpa using hbp.2 hp
      obtain ⟨i, hi, hc⟩ := ih (t + 1) (by omega) (by omega) (by omega)
      refine ⟨i, ?_, ?_⟩
      · refine (if_neg (by simp) : (if false = true then some t else G (fits (t + 1)) (L (t + 1))) = _).trans ?_
        rw [G_pos (by unfold fits; omega), hi]
      · rcases hc with ⟨h2, h3⟩ | ⟨h2, h3, h4, h5⟩
        · refine .inl ⟨h2, fun j a b => ?_⟩
          by_cases e : j = t
          · rw [e]; exact hnp
          · exact h3 j (by omega) b
        · refine .inr ⟨by omega, h3, h4, fun j a b => ?_⟩
          by_cases e : j = t
          · rw [e]; exact hnp
          · exact h5 j (by omega) b
theorem contains_tells {s : List α} {f : α → Option Bool} {L : Int → Option Int} {P : α → Prop}
    (hL : ∀ t, L t = if decide (t < (s.length : Int)) = true then G (0 ≤ t ∧ t < (s.length : Int)) ((f (ix s t)).bind fun y => if y = true then some t else G (fits (t + 1)) (L (t + 1))) else some (-1))
    (hs : s.length ≤ 4611686018427387904) (hf : ∀ x ∈ s, Tells (f x) (P x)) : Tells ((L 0).bind fun y => some (decide ((0 : Int) ≤ y))) (∃ x ∈ s, P x) := by
  obtain ⟨i, hi, hc⟩ := index_loop hs hL hf _ 0 (by omega) (by omega) rfl
  rw [hi]
  refine ⟨decide (0 ≤ i), rfl, ?_⟩
  rw [decide_eq_true_iff, ex_ix]
  rcases hc with ⟨h2, h3⟩ | ⟨h2, h3, h4, h5⟩
  · constructor
    · intro h; omega
    · rintro ⟨j, h0, h1, hp⟩; exact absurd hp (h3 j h0 h1)
  · exact ⟨fun _ => ⟨i, by omega, h3, h4⟩, fun _ => by omega⟩
/-- .. of what carries along what it reads. -/
theorem contains_tells2 {s : List α} {c : C} {f : α → C → Option (Bool × C)} {L : Int → C → Option (Int × C)} {P : α → Prop}
    (hL : ∀ t c, L t c = if decide (t < (s.length : Int)) = true then G (0 ≤ t ∧ t < (s.length : Int)) ((f (ix s t) c).bind fun y => if y.1 = true then some (t, y.2) else G (fits (t + 1)) (L (t + 1) y.2)) else some (-1, c))
    (hs : s.length ≤ 4611686018427387904) (hf : ∀ x ∈ s, ∃ b, f x c = some (b, c) ∧ (b = true ↔ P x)) : ∃ b, ((L 0 c).bind fun y => some (decide ((0 : Int) ≤ y.1), y.2)) = some (b, c) ∧ (b = true ↔ ∃ x ∈ s, P x) := by
  have key : ∀ (n : Nat) (t : Int), 0 ≤ t → t ≤ s.length → (s.length - t).toNat = n →
      ∃ i, L t c = some (i, c) ∧ ((i = -1 ∧ ∀ j : Int, t ≤ j → j < s.length → ¬ P (ix s j)) ∨ (t ≤ i ∧ i < s.length ∧ P (ix s i))) := by
    intro n
    induction n with
    | zero =>
      intro t h0 h1 hn
      refine ⟨-1, ?_, .inl ⟨rfl, fun j a b => by omega⟩⟩
      rw [hL, if_neg (by simp; omega)]
    | succ n ih =>
      intro t h0 h1 hn
      rw [hL, if_pos (by simp; omega), G_pos (by omega)]
      obtain ⟨b, hb, hbp⟩ := hf _ (ix_mem h0 (by omega : t < s.length))
      rw [hb]
      cases b with
      | true => exact ⟨t, rfl, .inr ⟨by omega, by omega, hbp.1 rfl⟩⟩
      | false =>
        have hnp : ¬ P (ix s t) := fun hp => by simpa using hbp.2 hp
        obtain ⟨i, hi, hc⟩ := ih (t + 1) (by omega) (by omega) (by omega)
        refine ⟨i, ?_, ?_⟩
        · refine (if_neg (by simp) : (if false = true then some (t, c) else G (fits (t + 1)) (L (t + 1) c)) = _).trans ?_
          rw [G_pos (by unfold fits; omega), hi]
        · rcases hc with ⟨h2, h3⟩ | ⟨h2, h3, h4⟩
          · refine .inl ⟨h2, fun j a b => ?_⟩
            by_cases e : j = t
            · rw [e]; exact hnp
            · exact h3 j (by omega) b
          · exact .inr ⟨by omega, h3, h4⟩
  obtain ⟨i, hi, hc⟩ := key _ 0 (by omega) (by omega) rfl
  rw [hi]
  refine ⟨decide (0 ≤ i), rfl, ?_⟩
  rw [decide_eq_true_iff, ex_ix]
  rcases hc with ⟨h2, h3⟩ | ⟨h2, h3, h4⟩
  · constructor
    · intro h; omega
    · rintro ⟨j, h0, h1, hp⟩; exact absurd hp (h3 j h0 h1)
  · exact ⟨fun _ => ⟨i, by omega, h3, h4⟩, fun _ => by omega⟩
end
/-- A loop that looks for the first fault. -/
theorem scan_to {R : Type} {len : Int} {L : Int → Option R} {bad : Int → Prop} {x : Option R} {lo : Int} (h0 : lo ≤ len)
    (hs : ∀ t, lo ≤ t → t < len → (bad t → L t = x) ∧ (¬ bad t → L t = L (t + 1))) (hf : (∀ t, lo ≤ t → t < len → ¬ bad t) → L len = x) : L lo = x := by
  have key : ∀ (n : Nat) (t : Int), lo ≤ t → t ≤ len → (len - t).toNat = n → (∀ j, lo ≤ j → j < t → ¬ bad j) → L t = x := by
    intro n
    induction n with
    | zero =>
      intro t h1 h2 hn h
      obtain rfl : t = len := by omega
      exact hf h
    | succ n ih =>
      intro t h1 h2 hn h
      by_cases hb : bad t
      · exact (hs t h1 (by omega)).1 hb
      · rw [(hs t h1 (by omega)).2 hb]
        refine ih (t + 1) (by omega) (by omega) (by omega) fun j a b => ?_
        by_cases e : j = t
        · rw [e]; exact hb
        · exact h j a (by omega)
  exact key _ lo (Int.le_refl _) h0 rfl (fun j a b => by omega)
/-- A loop that counts, with a state. -/
theorem fold_to {R S : Type} {len : Int} {L : Int → S → Option R} {f : Int → S → S} {lo : Int} {I : Int → S → Prop} {s : S} (h0 : lo ≤ len) (hI : I lo s)
    (hs : ∀ t s, lo ≤ t → t < len → I t s → L t s = L (t + 1) (f t s) ∧ I (t + 1) (f t s)) : ∃ s', I len s' ∧ L lo s = L len s' := by
  have key : ∀ (n : Nat) (t : Int) (s : S), lo ≤ t → t ≤ len → (len - t).toNat = n → I t s → ∃ s', I len s' ∧ L t s = L len s' := by
    intro n
    induction n with
    | zero =>
      intro t s h1 h2 hn h
      obtain rfl : t = len := by omega
      exact ⟨s, h, rfl⟩
    | succ n ih =>
      intro t s h1 h2 hn h
      obtain ⟨e, h3⟩ := hs t s h1 (by omega) h
      obtain ⟨s', h4, h5⟩ := ih (t + 1) _ (by omega) (by omega) (by omega) h3
      exact ⟨s', h4, e.trans h5⟩
  exact key _ lo s (Int.le_refl _) h0 rfl hI

abbrev Psh := Int × Int × Int × (List Int) × Unit
abbrev Cfg := Int × (List Int) × Unit
def off3 (n : Int) : Prop := n < 0 ∨ 3 ≤ n
def PLong (l : List Psh) : Prop := 8 < l.length
def PWide (l : List Psh) : Prop := ∃ r ∈ l, 2 < r.2.2.2.1.length
def POut (l : List Psh) : Prop := ∃ r ∈ l, off3 r.1 ∨ off3 r.2.1 ∨ off3 r.2.2.1 ∨ ∃ q ∈ r.2.2.2.1, off3 q
open Classical in
noncomputable def pshE (l : List Psh) : Int := if PLong l then 1 else if PWide l then 1 else if POut l then 2 else 0
open Classical in
noncomputable def cfgE (c : Cfg) : Int := if 20 < c.2.1.length then 1 else if off3 c.1 ∨ ∃ q ∈ c.2.1, off3 q then 2 else 0
theorem no_tells (n : Int) : Tells (stack_no n) (off3 n) := by
  unfold stack_no off3
  by_cases h : n < 0
  · rw [if_pos (decide_eq_true h)]; exact Tells.of (by simp [h])
  · rw [if_neg (by simpa using h)]; exact Tells.dec (by omega)
theorem cont2_tells {s : List Int} (hs : s.length ≤ 1000000) : Tells (slices_ContainsFunc_2 s) (∃ q ∈ s, off3 q) :=
  contains_tells (f := stack_no) (slices_IndexFunc_2_L2_eq s) (by omega) (fun x _ => no_tells x)
theorem stack_Check_spec {l : List Psh} : stack_Check l = some (pshE l) := by
  unfold stack_Check pshE
  by_cases c1 : PLong l
  · rw [if_pos c1]; unfold PLong at c1
    (try dsimp only); (repeat' first | (with_reducible refine G_to ?_ ?_; focus (first | omega | (unfold fits; omega) | (unfold room; (try simp only [List.length_append, List.length_cons, List.length_nil]); omega))) | (with_reducible refine both_to ?_ ?_) | (with_reducible refine itet_to ?_) | (with_reducible refine itef_to ?_) | (with_reducible refine ite_to (fun _ => ?_) (fun _ => ?_))) <;> try (exfalso; omega)
    all_goals rfl
  rw [if_neg c1]; unfold PLong at c1
  (try dsimp only); (repeat' first | (with_reducible refine G_to ?_ ?_; focus (first | omega | (unfold fits; omega) | (unfold room; (try simp only [List.length_append, List.length_cons, List.length_nil]); omega))) | (with_reducible refine both_to ?_ ?_) | (with_reducible refine itet_to ?_) | (with_reducible refine itef_to ?_) | (with_reducible refine ite_to (fun _ => ?_) (fun _ => ?_))) <;> try (exfalso; omega)
  have k1 : Tells (slices_ContainsFunc l) (PWide l) := contains_tells (f := stack_Check_1) (slices_IndexFunc_L2_eq l) (by omega) (fun x _ => Tells.dec (by omega))
  refine k1.to (fun h => by rw [if_pos h]) (fun h => ?_)
  rw [if_neg h]
  have k2 : Tells (slices_ContainsFunc_1 l) (POut l) := contains_tells (f := stack_Check_2) (slices_IndexFunc_1_L2_eq l) (by omega) (fun x hx => by
    unfold stack_Check_2
    have hw : x.2.2.2.1.length ≤ 2 := by
      by_cases e : 2 < x.2.2.2.1.length
      · exact absurd ⟨x, hx, e⟩ h
      · omega
    obtain ⟨b1, e1, q1⟩ := no_tells x.1
    obtain ⟨b2, e2, q2⟩ := no_tells x.2.1
    obtain ⟨b3, e3, q3⟩ := no_tells x.2.2.1
    obtain ⟨b4, e4, q4⟩ := cont2_tells (s := x.2.2.2.1) (by omega)
    rw [e1, e2, e3, e4]
    cases b1 <;> cases b2 <;> cases b3 <;> cases b4 <;> first | exact Tells.of (by simp only [← q1, ← q2, ← q3, ← q4]; simp) )
  exact k2.to (fun h => by rw [if_pos h]) (fun h => by rw [if_neg h])
theorem r14_Check_spec {l : List Psh} : r14_Check l = some (pshE l) := by
  unfold r14_Check pshE
  by_cases c1 : PLong l
  · rw [if_pos c1]; unfold PLong at c1
    (try dsimp only); (repeat' first | (with_reducible refine G_to ?_ ?_; focus (first | omega | (unfold fits; omega) | (unfold room; (try simp only [List.length_append, List.length_cons, List.length_nil]); omega))) | (with_reducible refine both_to ?_ ?_) | (with_reducible refine itet_to ?_) | (with_reducible refine itef_to ?_) | (with_reducible refine ite_to (fun _ => ?_) (fun _ => ?_))) <;> try (exfalso; omega)
    all_goals rfl
  rw [if_neg c1]; unfold PLong at c1
  (try dsimp only); (repeat' first | (with_reducible refine G_to ?_ ?_; focus (first | omega | (unfold fits; omega) | (unfold room; (try simp only [List.length_append, List.length_cons, List.length_nil]); omega))) | (with_reducible refine both_to ?_ ?_) | (with_reducible refine itet_to ?_) | (with_reducible refine itef_to ?_) | (with_reducible refine ite_to (fun _ => ?_) (fun _ => ?_))) <;> try (exfalso; omega)
  refine scan_to (len := (l.length : Int)) (bad := fun t => 2 < (ix l t).2.2.2.1.length) (by omega) (fun t h0 h1 => ⟨fun hb => ?_, fun hb => ?_⟩) (fun hh => ?_)
  · rw [r14_Check_L4_eq]; unfold r14_Check_L4_B
    (try dsimp only); (repeat' first | (with_reducible refine G_to ?_ ?_; focus (first | omega | (unfold fits; omega) | (unfold room; (try simp only [List.length_append, List.length_cons, List.length_nil]); omega))) | (with_reducible refine both_to ?_ ?_) | (with_reducible refine itet_to ?_) | (with_reducible refine itef_to ?_) | (with_reducible refine ite_to (fun _ => ?_) (fun _ => ?_))) <;> try (exfalso; omega)
    rw [if_pos (show PWide l from ex_ix.2 ⟨t, h0, h1, hb⟩)]
  · conv => lhs; rw [r14_Check_L4_eq]; unfold r14_Check_L4_B
    (try dsimp only); (repeat' first | (with_reducible refine G_to ?_ ?_; focus (first | omega | (unfold fits; omega) | (unfold room; (try simp only [List.length_append, List.length_cons, List.length_nil]); omega))) | (with_reducible refine both_to ?_ ?_) | (with_reducible refine itet_to ?_) | (with_reducible refine itef_to ?_) | (with_reducible refine ite_to (fun _ => ?_) (fun _ => ?_))) <;> try (exfalso; omega)
    all_goals rfl
  have hw : ¬ PWide l := fun h => by obtain ⟨t, h0, h1, hb⟩ := ex_ix.1 h; exact hh t h0 h1 hb
  rw [if_neg hw, r14_Check_L4_eq]; unfold r14_Check_L4_B
  (try dsimp only); (repeat' first | (with_reducible refine G_to ?_ ?_; focus (first | omega | (unfold fits; omega) | (unfold room; (try simp only [List.length_append, List.length_cons, List.length_nil]); omega))) | (with_reducible refine both_to ?_ ?_) | (with_reducible refine itet_to ?_) | (with_reducible refine itef_to ?_) | (with_reducible refine ite_to (fun _ => ?_) (fun _ => ?_))) <;> try (exfalso; omega)
  refine scan_to (len := (l.length : Int)) (bad := fun t => off3 (ix l t).1 ∨ off3 (ix l t).2.1 ∨ off3 (ix l t).2.2.1 ∨ ∃ q ∈ (ix l t).2.2.2.1, off3 q) (by omega) (fun t h0 h1 => ⟨fun hb => ?_, fun hb => ?_⟩) (fun hh2 => ?_)
  · rw [if_pos (show POut l from ex_ix.2 ⟨t, h0, h1, hb⟩)]
    have hl := hh t h0 h1
    rw [r14_Check_L9_eq]; unfold r14_Check_L9_B
    (try dsimp only); (repeat' first | (with_reducible refine G_to ?_ ?_; focus (first | omega | (unfold fits; omega) | (unfold room; (try simp only [List.length_append, List.length_cons, List.length_nil]); omega))) | (with_reducible refine both_to ?_ ?_) | (with_reducible refine itet_to ?_) | (with_reducible refine itef_to ?_) | (with_reducible refine ite_to (fun _ => ?_) (fun _ => ?_))) <;> try (exfalso; omega)
    all_goals try rfl
    have hq : ∃ q ∈ (ix l t).2.2.2.1, off3 q := by
      unfold off3 at hb
      rcases hb with h | h | h | h
      · omega
      · omega
      · omega
      · exact h
    refine scan_to (len := ((ix l t).2.2.2.1.length : Int)) (bad := fun k => off3 (ix (ix l t).2.2.2.1 k)) (by omega) (fun k k0 k1 => ⟨fun hb => ?_, fun hb => ?_⟩) (fun hh3 => ?_)
    · unfold off3 at hb
      rw [r14_Check_L15_eq]; unfold r14_Check_L15_B
      (try dsimp only); (repeat' first | (with_reducible refine G_to ?_ ?_; focus (first | omega | (unfold fits; omega) | (unfold room; (try simp only [List.length_append, List.length_cons, List.length_nil]); omega))) | (with_reducible refine both_to ?_ ?_) | (with_reducible refine itet_to ?_) | (with_reducible refine itef_to ?_) | (with_reducible refine ite_to (fun _ => ?_) (fun _ => ?_))) <;> try (exfalso; omega)
      all_goals rfl
    · unfold off3 at hb
      conv => lhs; rw [r14_Check_L15_eq]; unfold r14_Check_L15_B
      (try dsimp only); (repeat' first | (with_reducible refine G_to ?_ ?_; focus (first | omega | (unfold fits; omega) | (unfold room; (try simp only [List.length_append, List.length_cons, List.length_nil]); omega))) | (with_reducible refine both_to ?_ ?_) | (with_reducible refine itet_to ?_) | (with_reducible refine itef_to ?_) | (with_reducible refine ite_to (fun _ => ?_) (fun _ => ?_))) <;> try (exfalso; omega)
      all_goals rfl
    · obtain ⟨k, k0, k1, kb⟩ := ex_ix.1 hq
      exact absurd kb (hh3 k k0 k1)
  · have hl := hh t h0 h1
    have hb1 : ¬ off3 (ix l t).1 := fun h => hb (.inl h)
    have hb2 : ¬ off3 (ix l t).2.1 := fun h => hb (.inr (.inl h))
    have hb3 : ¬ off3 (ix l t).2.2.1 := fun h => hb (.inr (.inr (.inl h)))
    have hb4 : ¬ ∃ q ∈ (ix l t).2.2.2.1, off3 q := fun h => hb (.inr (.inr (.inr h)))
    unfold off3 at hb1 hb2 hb3
    conv => lhs; rw [r14_Check_L9_eq]; unfold r14_Check_L9_B
    (try dsimp only); (repeat' first | (with_reducible refine G_to ?_ ?_; focus (first | omega | (unfold fits; omega) | (unfold room; (try simp only [List.length_append, List.length_cons, List.length_nil]); omega))) | (with_reducible refine both_to ?_ ?_) | (with_reducible refine itet_to ?_) | (with_reducible refine itef_to ?_) | (with_reducible refine ite_to (fun _ => ?_) (fun _ => ?_))) <;> try (exfalso; omega)
    refine scan_to (len := ((ix l t).2.2.2.1.length : Int)) (bad := fun k => off3 (ix (ix l t).2.2.2.1 k)) (by omega) (fun k k0 k1 => ⟨fun hb => ?_, fun hb => ?_⟩) (fun hh3 => ?_)
    · exact absurd (ex_ix.2 ⟨k, k0, k1, hb⟩) hb4
    · unfold off3 at hb
      conv => lhs; rw [r14_Check_L15_eq]; unfold r14_Check_L15_B
      (try dsimp only); (repeat' first | (with_reducible refine G_to ?_ ?_; focus (first | omega | (unfold fits; omega) | (unfold room; (try simp only [List.length_append, List.length_cons, List.length_nil]); omega))) | (with_reducible refine both_to ?_ ?_) | (with_reducible refine itet_to ?_) | (with_reducible refine itef_to ?_) | (with_reducible refine ite_to (fun _ => ?_) (fun _ => ?_))) <;> try (exfalso; omega)
      all_goals rfl
    · rw [r14_Check_L15_eq]; unfold r14_Check_L15_B
      (try dsimp only); (repeat' first | (with_reducible refine G_to ?_ ?_; focus (first | omega | (unfold fits; omega) | (unfold room; (try simp only [List.length_append, List.length_cons, List.length_nil]); omega))) | (with_reducible refine both_to ?_ ?_) | (with_reducible refine itet_to ?_) | (with_reducible refine itef_to ?_) | (with_reducible refine ite_to (fun _ => ?_) (fun _ => ?_))) <;> try (exfalso; omega)
      all_goals rfl
  · rw [if_neg (show ¬ POut l from fun h => by obtain ⟨t, h0, h1, hb⟩ := ex_ix.1 h; exact hh2 t h0 h1 hb)]
    rw [r14_Check_L9_eq]; unfold r14_Check_L9_B
    (try dsimp only); (repeat' first | (with_reducible refine G_to ?_ ?_; focus (first | omega | (unfold fits; omega) | (unfold room; (try simp only [List.length_append, List.length_cons, List.length_nil]); omega))) | (with_reducible refine both_to ?_ ?_) | (with_reducible refine itet_to ?_) | (with_reducible refine itef_to ?_) | (with_reducible refine ite_to (fun _ => ?_) (fun _ => ?_))) <;> try (exfalso; omega)
    all_goals rfl
theorem stack_config_spec {c : Cfg} : stack_config c = some (cfgE c) := by
  unfold stack_config cfgE
  by_cases c1 : 20 < c.2.1.length
  · rw [if_pos c1]
    (try dsimp only); (repeat' first | (with_reducible refine G_to ?_ ?_; focus (first | omega | (unfold fits; omega) | (unfold room; (try simp only [List.length_append, List.length_cons, List.length_nil]); omega))) | (with_reducible refine both_to ?_ ?_) | (with_reducible refine itet_to ?_) | (with_reducible refine itef_to ?_) | (with_reducible refine ite_to (fun _ => ?_) (fun _ => ?_))) <;> try (exfalso; omega)
    all_goals rfl
  rw [if_neg c1]
  (try dsimp only); (repeat' first | (with_reducible refine G_to ?_ ?_; focus (first | omega | (unfold fits; omega) | (unfold room; (try simp only [List.length_append, List.length_cons, List.length_nil]); omega))) | (with_reducible refine both_to ?_ ?_) | (with_reducible refine itet_to ?_) | (with_reducible refine itef_to ?_) | (with_reducible refine ite_to (fun _ => ?_) (fun _ => ?_))) <;> try (exfalso; omega)
  refine (no_tells c.1).to (fun h => by rw [if_pos (.inl h)]) (fun h => ?_)
  refine (cont2_tells (s := c.2.1) (by omega)).to (fun h => by rw [if_pos (.inr h)]) (fun h2 => by rw [if_neg (fun hh => hh.elim h h2)])
theorem r14_Config_spec {c : Cfg} : r14_Config c = some (cfgE c) := by
  unfold r14_Config cfgE
  by_cases c1 : 20 < c.2.1.length
  · rw [if_pos c1]
    (try dsimp only); (repeat' first | (with_reducible refine G_to ?_ ?_; focus (first | omega | (unfold fits; omega) | (unfold room; (try simp only [List.length_append, List.length_cons, List.length_nil]); omega))) | (with_reducible refine both_to ?_ ?_) | (with_reducible refine itet_to ?_) | (with_reducible refine itef_to ?_) | (with_reducible refine ite_to (fun _ => ?_) (fun _ => ?_))) <;> try (exfalso; omega)
    all_goals rfl
  rw [if_neg c1]
  by_cases c2 : off3 c.1
  · rw [if_pos (show off3 c.1 ∨ ∃ q ∈ c.2.1, off3 q from .inl c2)]; unfold off3 at c2
    (try dsimp only); (repeat' first | (with_reducible refine G_to ?_ ?_; focus (first | omega | (unfold fits; omega) | (unfold room; (try simp only [List.length_append, List.length_cons, List.length_nil]); omega))) | (with_reducible refine both_to ?_ ?_) | (with_reducible refine itet_to ?_) | (with_reducible refine itef_to ?_) | (with_reducible refine ite_to (fun _ => ?_) (fun _ => ?_))) <;> try (exfalso; omega)
    all_goals rfl
  have c2' := c2
  unfold off3 at c2'
  (try dsimp only); (repeat' first | (with_reducible refine G_to ?_ ?_; focus (first | omega | (unfold fits; omega) | (unfold room; (try simp only [List.length_append, List.length_cons, List.length_nil]); omega))) | (with_reducible refine both_to ?_ ?_) | (with_reducible refine itet_to ?_) | (with_reducible refine itef_to ?_) | (with_reducible refine ite_to (fun _ => ?_) (fun _ => ?_))) <;> try (exfalso; omega)
  refine scan_to (len := (c.2.1.length : Int)) (bad := fun k => off3 (ix c.2.1 k)) (by omega) (fun k k0 k1 => ⟨fun hb => ?_, fun hb => ?_⟩) (fun hh => ?_)
  · rw [if_pos (show off3 c.1 ∨ ∃ q ∈ c.2.1, off3 q from .inr (ex_ix.2 ⟨k, k0, k1, hb⟩))]
    unfold off3 at hb
    rw [r14_Config_L6_eq]; unfold r14_Config_L6_B
    (try dsimp only); (repeat' first | (with_reducible refine G_to ?_ ?_; focus (first | omega | (unfold fits; omega) | (unfold room; (try simp only [List.length_append, List.length_cons, List.length_nil]); omega))) | (with_reducible refine both_to ?_ ?_) | (with_reducible refine itet_to ?_) | (with_reducible refine itef_to ?_) | (with_reducible refine ite_to (fun _ => ?_) (fun _ => ?_))) <;> try (exfalso; omega)
    all_goals rfl
  · unfold off3 at hb
    conv => lhs; rw [r14_Config_L6_eq]; unfold r14_Config_L6_B
    (try dsimp only); (repeat' first | (with_reducible refine G_to ?_ ?_; focus (first | omega | (unfold fits; omega) | (unfold room; (try simp only [List.length_append, List.length_cons, List.length_nil]); omega))) | (with_reducible refine both_to ?_ ?_) | (with_reducible refine itet_to ?_) | (with_reducible refine itef_to ?_) | (with_reducible refine ite_to (fun _ => ?_) (fun _ => ?_))) <;> try (exfalso; omega)
    all_goals rfl
  · rw [if_neg (fun h => h.elim c2 (fun h => by obtain ⟨t, h0, h1, hb⟩ := ex_ix.1 h; exact hh t h0 h1 hb))]
    rw [r14_Config_L6_eq]; unfold r14_Config_L6_B
    (try dsimp only); (repeat' first | (with_reducible refine G_to ?_ ?_; focus (first | omega | (unfold fits; omega) | (unfold room; (try simp only [List.length_append, List.length_cons, List.length_nil]); omega))) | (with_reducible refine both_to ?_ ?_) | (with_reducible refine itet_to ?_) | (with_reducible refine itef_to ?_) | (with_reducible refine ite_to (fun _ => ?_) (fun _ => ?_))) <;> try (exfalso; omega)
    all_goals rfl
theorem stack_checked_spec {l : List Psh} {c : Cfg} : stack_checked l [c] = some (if pshE l = 0 then cfgE c else pshE l) := by
  unfold stack_checked
  refine bind_to stack_Check_spec ?_
  by_cases h : pshE l = 0
  · rw [if_pos h, if_neg (by simp [h]), stack_checked_L5_eq]; unfold stack_checked_L5_B
    rw [if_pos (by simp), G_pos (by simp)]
    refine bind_to stack_config_spec ?_
    have e : ix [c] 0 = c := rfl
    rw [show cfgE ((ix [c] 0).1, ((ix [c] 0).2.1, ())) = cfgE c from rfl]
    by_cases h2 : cfgE c = 0
    · rw [if_neg (by simp [h2]), G_pos (by unfold fits; omega), stack_checked_L5_eq]; unfold stack_checked_L5_B
      rw [if_neg (by simp), h2]
    · rw [if_pos (by simpa using h2)]
  · rw [if_neg h, if_pos (by simpa using h)]
theorem slices_Clone_spec {s : List Int} (hs : s.length * 8 ≤ 140737488355328) : slices_Clone s = some s := by
  have hr : G (room ([] : List Int) s 8) (some (([] : List Int) ++ s)) = some s := by
    rw [G_pos (room_of (by simpa using hs))]; rfl
  unfold slices_Clone
  refine itep_to (fun h => ?_) (fun h => hr)
  obtain rfl : s = [] := List.length_eq_zero_iff.1 h
  rw [hr]; exact both_self (ts := [(.list (.int .i64))]) (some ([] : List Int))
def pCan (r : Psh) (c : Cfg) : Prop := c.1 = r.1 ∧ 0 < c.2.1.length ∧ ix c.2.1 0 = r.2.1
theorem r14_Can_tells {r : Psh} {c : Cfg} : Tells (r14_Can r c) (pCan r c) := by
  unfold r14_Can pCan
  by_cases h1 : c.1 = r.1
  · rw [if_pos (decide_eq_true h1)]
    by_cases h2 : 0 < c.2.1.length
    · rw [if_pos (decide_eq_true (by omega)), G_pos (by omega)]; exact Tells.dec (by simp [h1, h2])
    · rw [if_neg (by simp only [decide_eq_true_eq]; omega)]; exact Tells.of (by simp; intro _ h; omega)
  · rw [if_neg (by simpa using h1)]; exact Tells.of (by simp [h1])
def pBehind (r : Psh) (c : Cfg) : Cfg := (r.2.2.1, r.2.2.2.1 ++ cut c.2.1 1 (c.2.1.length : Int), ())
theorem cut1_len {l : List Int} (h : 0 < l.length) : ((cut l 1 (l.length : Int)).length : Int) = l.length - 1 := cut_len (by omega) (by omega) (by omega)
theorem r14_Behind_spec {r : Psh} {c : Cfg} (h1 : r.2.2.2.1.length ≤ 2) (h2 : c.2.1.length ≤ 20) (h3 : 0 < c.2.1.length) : r14_Behind r c = some (pBehind r c) := by
  unfold r14_Behind pBehind
  have := cut1_len h3
  (try dsimp only); (repeat' first | (with_reducible refine G_to ?_ ?_; focus (first | omega | (unfold fits; omega) | (unfold room; (try simp only [List.length_append, List.length_cons, List.length_nil]); omega))) | (with_reducible refine both_to ?_ ?_) | (with_reducible refine itet_to ?_) | (with_reducible refine itef_to ?_) | (with_reducible refine ite_to (fun _ => ?_) (fun _ => ?_))) <;> try (exfalso; omega)
  all_goals rfl
theorem r14_Same_spec {a : Cfg} (h : a.2.1.length ≤ 1000) : r14_Same a a = some true := by
  unfold r14_Same
  (try dsimp only); (repeat' first | (with_reducible refine G_to ?_ ?_; focus (first | omega | (unfold fits; omega) | (unfold room; (try simp only [List.length_append, List.length_cons, List.length_nil]); omega))) | (with_reducible refine both_to ?_ ?_) | (with_reducible refine itet_to ?_) | (with_reducible refine itef_to ?_) | (with_reducible refine ite_to (fun _ => ?_) (fun _ => ?_))) <;> try (exfalso; omega)
  refine scan_to (len := (a.2.1.length : Int)) (bad := fun _ => False) (by omega) (fun t h0 h1 => ⟨fun hb => hb.elim, fun _ => ?_⟩) (fun _ => ?_)
  · conv => lhs; rw [r14_Same_L4_eq]; unfold r14_Same_L4_B
    (try dsimp only); (repeat' first | (with_reducible refine G_to ?_ ?_; focus (first | omega | (unfold fits; omega) | (unfold room; (try simp only [List.length_append, List.length_cons, List.length_nil]); omega))) | (with_reducible refine both_to ?_ ?_) | (with_reducible refine itet_to ?_) | (with_reducible refine itef_to ?_) | (with_reducible refine ite_to (fun _ => ?_) (fun _ => ?_))) <;> try (exfalso; omega)
    all_goals first | rfl | (exfalso; exact absurd rfl ‹_›)
  · rw [r14_Same_L4_eq]; unfold r14_Same_L4_B
    (try dsimp only); (repeat' first | (with_reducible refine G_to ?_ ?_; focus (first | omega | (unfold fits; omega) | (unfold room; (try simp only [List.length_append, List.length_cons, List.length_nil]); omega))) | (with_reducible refine both_to ?_ ?_) | (with_reducible refine itet_to ?_) | (with_reducible refine itef_to ?_) | (with_reducible refine ite_to (fun _ => ?_) (fun _ => ?_))) <;> try (exfalso; omega)
    all_goals rfl
open Classical in
noncomputable def stepE (l : List Psh) (c : Cfg) (rule : Int) : Int := if pshE l = 0 then (if cfgE c = 0 then (if rule < 0 ∨ (l.length : Int) ≤ rule then 5 else if pCan (ix l rule) c then 0 else 6) else cfgE c) else pshE l
theorem psh_ok {l : List Psh} (h : pshE l = 0) {i : Int} (h0 : 0 ≤ i) (h1 : i < l.length) : (ix l i).2.2.2.1.length ≤ 2 ∧ l.length ≤ 8 := by
  unfold pshE at h
  by_cases c1 : PLong l
  · rw [if_pos c1] at h; omega
  rw [if_neg c1] at h
  by_cases c2 : PWide l
  · rw [if_pos c2] at h; omega
  unfold PLong at c1
  refine ⟨?_, by omega⟩
  by_cases e : 2 < (ix l i).2.2.2.1.length
  · exact absurd (ex_ix.2 ⟨i, h0, h1, e⟩) c2
  · omega
theorem cfg_ok {c : Cfg} (h : cfgE c = 0) : c.2.1.length ≤ 20 := by
  unfold cfgE at h
  by_cases c1 : 20 < c.2.1.length
  · rw [if_pos c1] at h; omega
  omega
theorem psh_len {l : List Psh} (h : pshE l = 0) : l.length ≤ 8 := by
  unfold pshE at h
  by_cases c1 : PLong l
  · rw [if_pos c1] at h; omega
  unfold PLong at c1; omega
theorem stack_Step_spec {l : List Psh} {c : Cfg} {rule : Int} : stack_Step l c rule = some (if stepE l c rule = 0 then pBehind (ix l rule) c else (0, [], ()), stepE l c rule) := by
  unfold stack_Step stepE
  refine bind_to stack_checked_spec ?_
  rw [show cfgE (c.1, (c.2.1, ())) = cfgE c from rfl]
  by_cases h1 : pshE l = 0
  · rw [if_pos h1, if_pos h1]
    by_cases h2 : cfgE c = 0
    · rw [if_pos h2, if_neg (by simp [h2])]
      by_cases h3 : rule < 0 ∨ (l.length : Int) ≤ rule
      · rw [if_pos h3]
        (try dsimp only); (repeat' first | (with_reducible refine G_to ?_ ?_; focus (first | omega | (unfold fits; omega) | (unfold room; (try simp only [List.length_append, List.length_cons, List.length_nil]); omega))) | (with_reducible refine both_to ?_ ?_) | (with_reducible refine itet_to ?_) | (with_reducible refine itef_to ?_) | (with_reducible refine ite_to (fun _ => ?_) (fun _ => ?_))) <;> try (exfalso; omega)
        all_goals rfl
      · rw [if_neg h3]
        have hc := cfg_ok h2
        obtain ⟨hr, _⟩ := psh_ok h1 (i := rule) (by omega) (by omega)
        by_cases h4 : pCan (ix l rule) c
        · rw [if_pos h4, if_pos rfl]
          obtain ⟨g1, g2, g3⟩ := h4
          have := cut1_len g2
          have hcl := slices_Clone_spec (s := (ix l rule).2.2.2.1) (by omega)
          simp only [hcl, Option.bind_some]
          (try dsimp only); (repeat' first | (with_reducible refine G_to ?_ ?_; focus (first | omega | (unfold fits; omega) | (unfold room; (try simp only [List.length_append, List.length_cons, List.length_nil]); omega))) | (with_reducible refine both_to ?_ ?_) | (with_reducible refine itet_to ?_) | (with_reducible refine itef_to ?_) | (with_reducible refine ite_to (fun _ => ?_) (fun _ => ?_))) <;> try (exfalso; omega)
          all_goals first | (exfalso; exact absurd g1 ‹_›) | (exfalso; exact absurd g3 ‹_›) | rfl
        · rw [if_neg h4, if_neg (by decide : ¬ (6 : Int) = 0)]
          unfold pCan at h4
          (try dsimp only); (repeat' first | (with_reducible refine G_to ?_ ?_; focus (first | omega | (unfold fits; omega) | (unfold room; (try simp only [List.length_append, List.length_cons, List.length_nil]); omega))) | (with_reducible refine both_to ?_ ?_) | (with_reducible refine itet_to ?_) | (with_reducible refine itef_to ?_) | (with_reducible refine ite_to (fun _ => ?_) (fun _ => ?_))) <;> try (exfalso; omega)
          all_goals first | rfl | (exfalso; exact h4 ⟨Decidable.not_not.1 ‹_›, by omega, Decidable.not_not.1 ‹_›⟩) | skip
    · rw [if_neg h2, if_pos (by simpa using h2), if_neg h2]
  · rw [if_neg h1, if_neg h1, if_pos (by simpa using h1), if_neg h1]

theorem J17_ok {a : Cfg} (h : a.2.1.length ≤ 1000) : law_StackSteps_J17 a 0 a.1 a.2.1 = some true := by
  unfold law_StackSteps_J17
  refine bind_to (r14_Same_spec (a := (a.1, (a.2.1, ()))) h) ?_
  rfl
theorem law_true (l : List Psh) (c : Cfg) (rule : Int) : law_StackSteps l c rule = some true := by
  unfold law_StackSteps
  refine bind_to stack_Check_spec ?_
  refine bind_to r14_Check_spec ?_
  refine bind_to (stack_Step_spec (c := (c.1, (c.2.1, ())))) ?_
  rw [if_neg (by simp)]
  have fin : ∀ e : Int, ¬ e = 0 → law_StackSteps_J14 l c rule (0, [], ()) e e = some true := by
    intro e he
    unfold law_StackSteps_J14
    (try dsimp only); (repeat' first | (with_reducible refine G_to ?_ ?_; focus (first | omega | (unfold fits; omega) | (unfold room; (try simp only [List.length_append, List.length_cons, List.length_nil]); omega))) | (with_reducible refine both_to ?_ ?_) | (with_reducible refine itet_to ?_) | (with_reducible refine itef_to ?_) | (with_reducible refine ite_to (fun _ => ?_) (fun _ => ?_))) <;> try (exfalso; omega)
    all_goals first | rfl | (exfalso; exact he ‹_›) | (exfalso; exact absurd rfl ‹_›)
  have ec : (c.1, (c.2.1, ())) = c := rfl
  by_cases h1 : pshE l = 0
  · rw [if_pos (by simpa using h1)]
    refine bind_to r14_Config_spec ?_
    try rw [ec]
    by_cases h2 : cfgE c = 0
    · by_cases h3 : rule < 0 ∨ (l.length : Int) ≤ rule
      · have e : stepE l c rule = 5 := by unfold stepE; rw [if_pos h1, if_pos h2, if_pos h3]
        rw [e, if_neg (by decide : ¬ (5 : Int) = 0), h2]
        have f := fin 5 (by decide)
        unfold law_StackSteps_J8 law_StackSteps_J9 law_StackSteps_J10
        (try dsimp only); (repeat' first | (with_reducible refine G_to ?_ ?_; focus (first | omega | (unfold fits; omega) | (unfold room; (try simp only [List.length_append, List.length_cons, List.length_nil]); omega))) | (with_reducible refine both_to ?_ ?_) | (with_reducible refine itet_to ?_) | (with_reducible refine itef_to ?_) | (with_reducible refine ite_to (fun _ => ?_) (fun _ => ?_))) <;> try (exfalso; omega)
        all_goals first | exact f | (exfalso; omega)
      · have hc := cfg_ok h2
        obtain ⟨hr, _⟩ := psh_ok h1 (i := rule) (by omega) (by omega)
        by_cases h4 : pCan (ix l rule) c
        · have e : stepE l c rule = 0 := by unfold stepE; rw [if_pos h1, if_pos h2, if_neg h3, if_pos h4]
          rw [e, if_pos rfl, h2]
          obtain ⟨b, hb, hb2⟩ := r14_Can_tells (r := ix l rule) (c := c)
          have hbt : b = true := hb2.2 h4
          subst hbt
          have hB := r14_Behind_spec hr hc h4.2.1
          have hlen : (pBehind (ix l rule) c).2.1.length ≤ 1000 := by
            have := cut1_len h4.2.1
            show ((ix l rule).2.2.2.1 ++ cut c.2.1 1 (c.2.1.length : Int)).length ≤ 1000
            rw [List.length_append]; omega
          have hJ := J17_ok hlen
          unfold law_StackSteps_J8 law_StackSteps_J9 law_StackSteps_J10 law_StackSteps_J14
          (try dsimp only); (repeat' first | (with_reducible refine G_to ?_ ?_; focus (first | omega | (unfold fits; omega) | (unfold room; (try simp only [List.length_append, List.length_cons, List.length_nil]); omega))) | (with_reducible refine both_to ?_ ?_) | (with_reducible refine itet_to ?_) | (with_reducible refine itef_to ?_) | (with_reducible refine ite_to (fun _ => ?_) (fun _ => ?_))) <;> try (exfalso; omega)
          all_goals first | (exfalso; omega) | skip
          try rw [ec]
          rw [hb]
          simp only [Option.bind_some, Bool.not_true]
          (try dsimp only); (repeat' first | (with_reducible refine G_to ?_ ?_; focus (first | omega | (unfold fits; omega) | (unfold room; (try simp only [List.length_append, List.length_cons, List.length_nil]); omega))) | (with_reducible refine both_to ?_ ?_) | (with_reducible refine itet_to ?_) | (with_reducible refine itef_to ?_) | (with_reducible refine ite_to (fun _ => ?_) (fun _ => ?_))) <;> try (exfalso; omega)
          all_goals first | (exfalso; omega) | (exfalso; exact absurd trivial ‹¬ True›) | skip
          all_goals (try rw [ec]); all_goals (rw [hB]; exact hJ)
        · have e : stepE l c rule = 6 := by unfold stepE; rw [if_pos h1, if_pos h2, if_neg h3, if_neg h4]
          rw [e, if_neg (by decide : ¬ (6 : Int) = 0), h2]
          have f := fin 6 (by decide)
          obtain ⟨b, hb, hb2⟩ := r14_Can_tells (r := ix l rule) (c := c)
          have hbf : b = false := by cases b; rfl; exact absurd (hb2.1 rfl) h4
          subst hbf
          unfold law_StackSteps_J8 law_StackSteps_J9 law_StackSteps_J10
          (try dsimp only); (repeat' first | (with_reducible refine G_to ?_ ?_; focus (first | omega | (unfold fits; omega) | (unfold room; (try simp only [List.length_append, List.length_cons, List.length_nil]); omega))) | (with_reducible refine both_to ?_ ?_) | (with_reducible refine itet_to ?_) | (with_reducible refine itef_to ?_) | (with_reducible refine ite_to (fun _ => ?_) (fun _ => ?_))) <;> try (exfalso; omega)
          all_goals first | (exfalso; omega) | skip
          try rw [ec]
          rw [hb]
          exact f
    · have e : stepE l c rule = cfgE c := by unfold stepE; rw [if_pos h1, if_neg h2]
      rw [e, if_neg h2]
      have f := fin _ h2
      unfold law_StackSteps_J8 law_StackSteps_J9 law_StackSteps_J10
      (try dsimp only); (repeat' first | (with_reducible refine G_to ?_ ?_; focus (first | omega | (unfold fits; omega) | (unfold room; (try simp only [List.length_append, List.length_cons, List.length_nil]); omega))) | (with_reducible refine both_to ?_ ?_) | (with_reducible refine itet_to ?_) | (with_reducible refine itef_to ?_) | (with_reducible refine ite_to (fun _ => ?_) (fun _ => ?_))) <;> try (exfalso; omega)
      all_goals first | exact f | (exfalso; exact h2 ‹_›)
  · have e : stepE l c rule = pshE l := by unfold stepE; rw [if_neg h1]
    rw [if_neg (by simpa using h1), e, if_neg h1]
    have f := fin _ h1
    unfold law_StackSteps_J8 law_StackSteps_J9 law_StackSteps_J10
    (try dsimp only); (repeat' first | (with_reducible refine G_to ?_ ?_; focus (first | omega | (unfold fits; omega) | (unfold room; (try simp only [List.length_append, List.length_cons, List.length_nil]); omega))) | (with_reducible refine both_to ?_ ?_) | (with_reducible refine itet_to ?_) | (with_reducible refine itef_to ?_) | (with_reducible refine ite_to (fun _ => ?_) (fun _ => ?_))) <;> try (exfalso; omega)
    all_goals first | exact f | (exfalso; exact h1 ‹_›)

end Go.Proofs.Ytgjpkfbaobanlaa.stackStepsW
