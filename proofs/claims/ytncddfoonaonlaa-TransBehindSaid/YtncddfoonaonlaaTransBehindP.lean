/- The law 'TransBehind' of the plain functions. -/
import Derived.Test.YtncddfoonaonlaaTransBehindD
set_option maxHeartbeats 1000000
set_option maxRecDepth 20000
set_option linter.unusedSimpArgs false
set_option linter.unusedVariables false
set_option linter.unusedSectionVars false
namespace Go.Proofs.Ytncddfoonaonlaa.transBehindW
open Go Go.Ab
/-- The answer is yes just if P. -/
def Tells (o : Option Bool) (P : Prop) : Prop := ∃ b, o = some b ∧ (b = true ↔ P)
theorem Tells.of {b : Bool} {P : Prop} (h : b = true ↔ P) : Tells (some b) P := ⟨b, rfl, h⟩
theorem Tells.dec {P Q : Prop} [Decidable P] (h : P ↔ Q) : Tells (some (decide P)) Q := ⟨_, rfl, by simpa using h⟩
theorem Tells.iff {o : Option Bool} {P Q : Prop} (h : Tells o P) (k : P ↔ Q) : Tells o Q := let ⟨b, h1, h2⟩ := h; ⟨b, h1, h2.trans k⟩
theorem Tells.eq {o : Option Bool} {P : Prop} [Decidable P] (h : Tells o P) : o = some (decide P) := by
 obtain ⟨b, rfl, hb⟩ := h
 by_cases hp : P
 ·simp [hp, hb.2 hp]
 ·have : b = false := by cases b; rfl; exact absurd (hb.1 rfl) hp
  simp [hp, this]
theorem Tells.to {R : Type} {o : Option Bool} {P : Prop} {k1 k2 x : Option R} (h : Tells o P) (h1 : P → k1 = x) (h2 : ¬ P → k2 = x) : (o.bind fun y => if y = true then k1 else k2) = x := by
 obtain ⟨b, rfl, hb⟩ := h
 refine bind_to rfl ?_
 cases b
 ·exact h2 fun hp => by simpa using hb.2 hp
 ·exact h1 (hb.1 rfl)
theorem Tells.bind {R : Type} {o : Option Bool} {P : Prop} {k : Bool → Option R} {x : Option R} (h : Tells o P) (h1 : ∀ b, (b = true ↔ P) → k b = x) : o.bind k = x := by
 obtain ⟨b, rfl, hb⟩ := h
 exact h1 b hb
section
variable {α C : Type} [Inhabited α]
theorem ex_ix {l : List α} {P : α → Prop} : (∃ x ∈ l, P x) ↔ ∃ i : Int, 0 ≤ i ∧ i < l.length ∧ P (ix l i) := by
 constructor
 ·rintro ⟨x, hx, hp⟩
  obtain ⟨i, hi, rfl⟩ := List.mem_iff_getElem.1 hx
  refine ⟨i, by omega, by omega, ?_⟩
  rwa [ix_eq (by omega) (by omega)]
 ·rintro ⟨i, h0, h1, hp⟩
  exact ⟨_, ix_mem h0 h1, hp⟩
theorem index_loop {s : List α} {f : α → Option Bool} {L : Int → Option Int} {P : α → Prop} (hs : s.length ≤ 4611686018427387904)
  (hL : ∀ t, L t = if decide (t < (s.length : Int)) = true then G (0 ≤ t ∧ t < (s.length : Int)) ((f (ix s t)).bind fun y => if y = true then some t else G (fits (t + 1)) (L (t + 1))) else some (-1))
  (hf : ∀ x ∈ s, Tells (f x) (P x)) : ∀ (n : Nat) (t : Int), 0 ≤ t → t ≤ s.length → (s.length - t).toNat = n →
   ∃ i, L t = some i ∧ ((i = -1 ∧ ∀ j : Int, t ≤ j → j < s.length → ¬ P (ix s j)) ∨ (t ≤ i ∧ i < s.length ∧ P (ix s i) ∧ ∀ j : Int, t ≤ j → j < i → ¬ P (ix s j))) := by
 intro n
 induction n with
 | zero =>
  intro t h0 h1 hn
  refine ⟨-1, ?_, .inl ⟨rfl, fun j a b => by omega⟩⟩
  rw [hL, if_neg (by simp; omega)]
 | succ n ih =>
  intro t h0 h1 hn
  rw [hL, if_pos (by simp; omega), G_pos (by omega)]
  obtain ⟨b, hb, hbp⟩ := hf _ (ix_mem h0 (by omega : t < s.length))
  rw [hb]
  cases b with
  | true => exact ⟨t, rfl, .inr ⟨by omega, by omega, hbp.1 rfl, fun j a b => by omega⟩⟩
  | false =>
   have hnp : ¬ P (ix s t) := fun hp => by simpa using hbp.2 hp
   obtain ⟨i, hi, hc⟩ := ih (t + 1) (by omega) (by omega) (by omega)
   refine ⟨i, ?_, ?_⟩
   ·refine (if_neg (by simp) : (if false = true then some t else G (fits (t + 1)) (L (t + 1))) = _).trans ?_
    rw [G_pos (by unfold fits; omega), hi]
   ·rcases hc with ⟨h2, h3⟩ | ⟨h2, h3, h4, h5⟩
    ·refine .inl ⟨h2, fun j a b => ?_⟩
     by_cases e : j = t
     ·rw [e]; exact hnp
     ·exact h3 j (by omega) b
    ·refine .inr ⟨by omega, h3, h4, fun j a b => ?_⟩
     by_cases e : j = t
     ·rw [e]; exact hnp
     ·exact h5 j (by omega) b
theorem contains_tells {s : List α} {f : α → Option Bool} {L : Int → Option Int} {P : α → Prop}
  (hL : ∀ t, L t = if decide (t < (s.length : Int)) = true then G (0 ≤ t ∧ t < (s.length : Int)) ((f (ix s t)).bind fun y => if y = true then some t else G (fits (t + 1)) (L (t + 1))) else some (-1))
  (hs : s.length ≤ 4611686018427387904) (hf : ∀ x ∈ s, Tells (f x) (P x)) : Tells ((L 0).bind fun y => some (decide ((0 : Int) ≤ y))) (∃ x ∈ s, P x) := by
 obtain ⟨i, hi, hc⟩ := index_loop hs hL hf _ 0 (by omega) (by omega) rfl
 rw [hi]
 refine ⟨decide (0 ≤ i), rfl, ?_⟩
 rw [decide_eq_true_iff, ex_ix]
 rcases hc with ⟨h2, h3⟩ | ⟨h2, h3, h4, h5⟩
 ·constructor
  ·intro h; omega
  ·rintro ⟨j, h0, h1, hp⟩; exact absurd hp (h3 j h0 h1)
 ·exact ⟨fun _ => ⟨i, by omega, h3, h4⟩, fun _ => by omega⟩
/-- .. of what carries along what it reads. -/
theorem contains_tells2 {s : List α} {c : C} {f : α → C → Option (Bool × C)} {L : Int → C → Option (Int × C)} {P : α → Prop}
  (hL : ∀ t c, L t c = if decide (t < (s.length : Int)) = true then G (0 ≤ t ∧ t < (s.length : Int)) ((f (ix s t) c).bind fun y => if y.1 = true then some (t, y.2) else G (fits (t + 1)) (L (t + 1) y.2)) else some (-1, c))
  (hs : s.length ≤ 4611686018427387904) (hf : ∀ x ∈ s, ∃ b, f x c = some (b, c) ∧ (b = true ↔ P x)) : ∃ b, ((L 0 c).bind fun y => some (decide ((0 : Int) ≤ y.1), y.2)) = some (b, c) ∧ (b = true ↔ ∃ x ∈ s, P x) := by
 have key : ∀ (n : Nat) (t : Int), 0 ≤ t → t ≤ s.length → (s.length - t).toNat = n →
   ∃ i, L t c = some (i, c) ∧ ((i = -1 ∧ ∀ j : Int, t ≤ j → j < s.length → ¬ P (ix s j)) ∨ (t ≤ i ∧ i < s.length ∧ P (ix s i))) := by
  intro n
  induction n with
  | zero =>
   intro t h0 h1 hn
   refine ⟨-1, ?_, .inl ⟨rfl, fun j a b => by omega⟩⟩
   rw [hL, if_neg (by simp; omega)]
  | succ n ih =>
   intro t h0 h1 hn
   rw [hL, if_pos (by simp; omega), G_pos (by omega)]
   obtain ⟨b, hb, hbp⟩ := hf _ (ix_mem h0 (by omega : t < s.length))
   rw [hb]
   cases b with
   | true => exact ⟨t, rfl, .inr ⟨by omega, by omega, hbp.1 rfl⟩⟩
   | false =>
    have hnp : ¬ P (ix s t) := fun hp => by simpa using hbp.2 hp
    obtain ⟨i, hi, hc⟩ := ih (t + 1) (by omega) (by omega) (by omega)
    refine ⟨i, ?_, ?_⟩
    ·refine (if_neg (by simp) : (if false = true then some (t, c) else G (fits (t + 1)) (L (t + 1) c)) = _).trans ?_
     rw [G_pos (by unfold fits; omega), hi]
    ·rcases hc with ⟨h2, h3⟩ | ⟨h2, h3, h4⟩
     ·refine .inl ⟨h2, fun j a b => ?_⟩
      by_cases e : j = t
      ·rw [e]; exact hnp
      ·exact h3 j (by omega) b
     ·exact .inr ⟨by omega, h3, h4⟩
 obtain ⟨i, hi, hc⟩ := key _ 0 (by omega) (by omega) rfl
 rw [hi]
 refine ⟨decide (0 ≤ i), rfl, ?_⟩
 rw [decide_eq_true_iff, ex_ix]
 rcases hc with ⟨h2, h3⟩ | ⟨h2, h3, h4⟩
 ·constructor
  ·intro h; omega
  ·rintro ⟨j, h0, h1, hp⟩; exact absurd hp (h3 j h0 h1)
 ·exact ⟨fun _ => ⟨i, by omega, h3, h4⟩, fun _ => by omega⟩
end
/-- A loop that looks for the first fault. -/
theorem scan_to {R : Type} {len : Int} {L : Int → Option R} {bad : Int → Prop} {x : Option R} {lo : Int} (h0 : lo ≤ len)
  (hs : ∀ t, lo ≤ t → t < len → (bad t → L t = x) ∧ (¬ bad t → L t = L (t + 1))) (hf : (∀ t, lo ≤ t → t < len → ¬ bad t) → L len = x) : L lo = x := by
 have key : ∀ (n : Nat) (t : Int), lo ≤ t → t ≤ len → (len - t).toNat = n → (∀ j, lo ≤ j → j < t → ¬ bad j) → L t = x := by
  intro n
  induction n with
  | zero =>
   intro t h1 h2 hn h
   obtain rfl : t = len := by omega
   exact hf h
  | succ n ih =>
   intro t h1 h2 hn h
   by_cases hb : bad t
   ·exact (hs t h1 (by omega)).1 hb
   ·rw [(hs t h1 (by omega)).2 hb]
    refine ih (t + 1) (by omega) (by omega) (by omega) fun j a b => ?_
    by_cases e : j = t
    ·rw [e]; exact hb
    ·exact h j a (by omega)
 exact key _ lo (Int.le_refl _) h0 rfl (fun j a b => by omega)
/-- A loop that counts, with a state. -/
theorem fold_to {R S : Type} {len : Int} {L : Int → S → Option R} {f : Int → S → S} {lo : Int} {I : Int → S → Prop} {s : S} (h0 : lo ≤ len) (hI : I lo s)
  (hs : ∀ t s, lo ≤ t → t < len → I t s → L t s = L (t + 1) (f t s) ∧ I (t + 1) (f t s)) : ∃ s', I len s' ∧ L lo s = L len s' := by
 have key : ∀ (n : Nat) (t : Int) (s : S), lo ≤ t → t ≤ len → (len - t).toNat = n → I t s → ∃ s', I len s' ∧ L t s = L len s' := by
  intro n
  induction n with
  | zero =>
   intro t s h1 h2 hn h
   obtain rfl : t = len := by omega
   exact ⟨s, h, rfl⟩
  | succ n ih =>
   intro t s h1 h2 hn h
   obtain ⟨e, h3⟩ := hs t s h1 (by omega) h
   obtain ⟨s', h4, h5⟩ := ih (t + 1) _ (by omega) (by omega) (by omega) h3
   exact ⟨s', h4, e.trans h5⟩
 exact key _ lo s (Int.le_refl _) h0 rfl hI

theorem r1_May_L6_spec {letters : Int} {w : List Int} (hL : 1 ≤ letters ∧ letters ≤ 4) (hw : w.length ≤ (60 : Int)) : ∀ (n : Nat) (i : Int), 0 ≤ i → i ≤ w.length → (w.length - i).toNat = n → (∀ j : Int, 0 ≤ j → j < i → 0 ≤ ix w j ∧ ix w j < letters) → r1_May_L6 letters w i = some (mayE letters w) := by
 intro n
 induction n with
 | zero =>
  intro i h0 h1 hn h
  rw [r1_May_L6_eq]; unfold r1_May_L6_B
  (try dsimp only); (repeat' first | (with_reducible refine G_to ?_ ?_; focus (first | omega | (unfold fits; omega) | (unfold room; (try simp only [List.length_append, List.length_cons, List.length_nil]); omega))) | (with_reducible refine both_to ?_ ?_) | (with_reducible refine itet_to ?_) | (with_reducible refine itef_to ?_) | (with_reducible refine ite_to (fun _ => ?_) (fun _ => ?_))) <;> try (exfalso; omega)
  ·rw [mayE_ok hL hw (fun j a b => h j a (by omega))]
 | succ n ih =>
  intro i h0 h1 hn h
  rw [r1_May_L6_eq]; unfold r1_May_L6_B
  (try dsimp only); (repeat' first | (with_reducible refine G_to ?_ ?_; focus (first | omega | (unfold fits; omega) | (unfold room; (try simp only [List.length_append, List.length_cons, List.length_nil]); omega))) | (with_reducible refine both_to ?_ ?_) | (with_reducible refine itet_to ?_) | (with_reducible refine itef_to ?_) | (with_reducible refine ite_to (fun _ => ?_) (fun _ => ?_))) <;> try (exfalso; omega)
  ·rw [mayE_bad hL hw (i := i) (by omega) (by omega)]
  ·rw [mayE_bad hL hw (i := i) (by omega) (by omega)]
  ·exact ih _ (by omega) (by omega) (by omega) (below_succ h (by omega))
theorem r1_May_spec {letters : Int} {w : List Int} : r1_May letters w = some (mayE letters w) := by
 unfold r1_May
 (try dsimp only); (repeat' first | (with_reducible refine G_to ?_ ?_; focus (first | omega | (unfold fits; omega) | (unfold room; (try simp only [List.length_append, List.length_cons, List.length_nil]); omega))) | (with_reducible refine both_to ?_ ?_) | (with_reducible refine itet_to ?_) | (with_reducible refine itef_to ?_) | (with_reducible refine ite_to (fun _ => ?_) (fun _ => ?_))) <;> try (exfalso; omega)
 ·rw [mayE_range (by omega)]
 ·rw [mayE_range (by omega)]
 ·rw [mayE_size (by omega) (by omega)]
 ·exact r1_May_L6_spec (by omega) (by omega) _ 0 (by omega) (by omega) rfl (fun j a b => by omega)

theorem r1_Words_L4_spec {a b : List Int} (hl : a.length = b.length) : ∀ (n : Nat) (i : Int), 0 ≤ i → i ≤ a.length → (a.length - i).toNat = n → a.length ≤ 2305843009213693951 → (∀ j : Int, 0 ≤ j → j < i → ix a j = ix b j) → r1_Words_L4 a b i = some (decide (a = b)) := by
 intro n
 induction n with
 | zero =>
  intro i h0 h1 hn hs h
  rw [r1_Words_L4_eq]; unfold r1_Words_L4_B
  (try dsimp only); (repeat' first | (with_reducible refine G_to ?_ ?_; focus (first | omega | (unfold fits; omega) | (unfold room; (try simp only [List.length_append, List.length_cons, List.length_nil]); omega))) | (with_reducible refine both_to ?_ ?_) | (with_reducible refine itet_to ?_) | (with_reducible refine itef_to ?_) | (with_reducible refine ite_to (fun _ => ?_) (fun _ => ?_))) <;> try (exfalso; omega)
  ·rw [Option.some_inj, eq_comm, decide_eq_true_iff]; exact ix_ext hl (fun j a b => h j a (by omega))
 | succ n ih =>
  intro i h0 h1 hn hs h
  rw [r1_Words_L4_eq]; unfold r1_Words_L4_B
  (try dsimp only); (repeat' first | (with_reducible refine G_to ?_ ?_; focus (first | omega | (unfold fits; omega) | (unfold room; (try simp only [List.length_append, List.length_cons, List.length_nil]); omega))) | (with_reducible refine both_to ?_ ?_) | (with_reducible refine itet_to ?_) | (with_reducible refine itef_to ?_) | (with_reducible refine ite_to (fun _ => ?_) (fun _ => ?_))) <;> try (exfalso; omega)
  ·rw [Option.some_inj, eq_comm, decide_eq_false_iff_not]; rintro rfl; contradiction
  ·rename_i hx; exact ih _ (by omega) (by omega) (by omega) hs (below_succ h (Decidable.not_not.1 hx))
theorem r1_Words_spec {a b : List Int} (hs : a.length ≤ 2305843009213693951) : r1_Words a b = some (decide (a = b)) := by
 unfold r1_Words
 (try dsimp only); (repeat' first | (with_reducible refine G_to ?_ ?_; focus (first | omega | (unfold fits; omega) | (unfold room; (try simp only [List.length_append, List.length_cons, List.length_nil]); omega))) | (with_reducible refine both_to ?_ ?_) | (with_reducible refine itet_to ?_) | (with_reducible refine itef_to ?_) | (with_reducible refine ite_to (fun _ => ?_) (fun _ => ?_))) <;> try (exfalso; omega)
 ·rw [Option.some_inj, eq_comm, decide_eq_false_iff_not]; rintro rfl; contradiction
 ·exact r1_Words_L4_spec (by omega) _ 0 (by omega) (by omega) rfl hs (fun j a b => by omega)

/-- A walk over a table. -/
def stp (N : List (List Int)) (q a : Int) : Int := ix (ix N q) a
def wlk (N : List (List Int)) (q : Int) (w : List Int) : Int := w.foldl (stp N) q
/-- The places come by. -/
def trc (N : List (List Int)) : Int → List Int → List Int
 | _, [] => []
 | q, a :: w => stp N q a :: trc N (stp N q a) w
/-- A table of so many letters. -/
structure Tab (L : Int) (N : List (List Int)) : Prop where
 row : ∀ r ∈ N, (r.length : Int) = L
 to : ∀ r ∈ N, ∀ q ∈ r, 0 ≤ q ∧ q < N.length
theorem Tab.stpb {L : Int} {N : List (List Int)} (h : Tab L N) {q a : Int} (q0 : 0 ≤ q) (q1 : q < N.length) (a0 : 0 ≤ a) (a1 : a < L) : 0 ≤ stp N q a ∧ stp N q a < N.length := by
 have h1 := ix_mem q0 q1
 have h2 := h.row _ h1
 exact h.to _ h1 _ (ix_mem a0 (by omega))
theorem Tab.rowlen {L : Int} {N : List (List Int)} (h : Tab L N) {q : Int} (q0 : 0 ≤ q) (q1 : q < N.length) : ((ix N q).length : Int) = L := h.row _ (ix_mem q0 q1)
theorem Tab.wlkb {L : Int} {N : List (List Int)} (h : Tab L N) : ∀ {w : List Int} {q : Int}, 0 ≤ q → q < N.length → (∀ a ∈ w, 0 ≤ a ∧ a < L) → 0 ≤ wlk N q w ∧ wlk N q w < N.length
 | [], q, q0, q1, _ => ⟨q0, q1⟩
 | a :: w, q, q0, q1, hw => by
  have := h.stpb q0 q1 (hw a (by simp)).1 (hw a (by simp)).2
  exact Tab.wlkb h (q := stp N q a) (w := w) this.1 this.2 (fun b hb => hw b (by simp [hb]))
theorem Tab.trcb {L : Int} {N : List (List Int)} (h : Tab L N) : ∀ {w : List Int} {q : Int}, 0 ≤ q → q < N.length → (∀ a ∈ w, 0 ≤ a ∧ a < L) → ∀ p ∈ trc N q w, 0 ≤ p ∧ p < N.length
 | [], q, q0, q1, _, p, hp => by cases hp
 | a :: w, q, q0, q1, hw, p, hp => by
  have := h.stpb q0 q1 (hw a (by simp)).1 (hw a (by simp)).2
  rcases List.mem_cons.1 hp with rfl | hp
  ·exact this
  ·exact Tab.trcb h this.1 this.2 (fun b hb => hw b (by simp [hb])) p hp

theorem slices_Grow_spec {n : Int} (h0 : 0 ≤ n) (h : n * 8 ≤ 140737488355328) : slices_Grow n = some [] := by
 unfold slices_Grow
 (try dsimp only); (repeat' first | (with_reducible refine G_to ?_ ?_; focus (first | omega | (unfold fits; omega) | (unfold room; (try simp only [List.length_append, List.length_cons, List.length_nil]); omega))) | (with_reducible refine both_to ?_ ?_) | (with_reducible refine itet_to ?_) | (with_reducible refine itef_to ?_) | (with_reducible refine ite_to (fun _ => ?_) (fun _ => ?_))) <;> try (exfalso; omega)
 all_goals first | rfl | (rw [show ((0 : Int)).toNat = 0 from rfl, List.take_zero])
theorem slices_Concat_spec {ls : List (List Int)} (h : ls.length ≤ 1000) (hl : (ls.flatten.length : Int) * 8 ≤ 140737488355328) : slices_Concat ls = some ls.flatten := by
 have sum : ∀ (k : Nat), ((ls.take k).flatten.length : Int) ≤ ls.flatten.length := by
  intro k
  have : ls.flatten = (ls.take k).flatten ++ (ls.drop k).flatten := by rw [← List.flatten_append, List.take_append_drop]
  rw [this, List.length_append]; omega
 have tk : ∀ t : Int, 0 ≤ t → t < ls.length → (ls.take (t + 1).toNat).flatten = (ls.take t.toNat).flatten ++ ix ls t := fun t h0 h1 => by
  rw [ix_take h0 h1, List.flatten_append]; simp
 unfold slices_Concat
 have k2 : ∀ (n : Nat) (t : Int), (ls.length - t).toNat = n → 0 ≤ t → t ≤ ls.length → slices_Concat_L11 ls t (ls.take t.toNat).flatten = some ls.flatten := by
  intro n
  induction n with
  | zero =>
   intro t hn h0 h1
   rw [slices_Concat_L11_eq]; unfold slices_Concat_L11_B
   rw [List.take_of_length_le (by omega), if_neg (by simp only [decide_eq_true_eq]; omega)]
  | succ n ih =>
   intro t hn h0 h1
   have e := tk t h0 (by omega)
   have s := sum (t + 1).toNat
   rw [e, List.length_append] at s
   rw [slices_Concat_L11_eq]; unfold slices_Concat_L11_B
   (try dsimp only); (repeat' first | (with_reducible refine G_to ?_ ?_; focus (first | omega | (unfold fits; omega) | (unfold room; (try simp only [List.length_append, List.length_cons, List.length_nil]); omega))) | (with_reducible refine both_to ?_ ?_) | (with_reducible refine itet_to ?_) | (with_reducible refine itef_to ?_) | (with_reducible refine ite_to (fun _ => ?_) (fun _ => ?_))) <;> try (exfalso; omega)
   rw [← e]
   exact ih (t + 1) (by omega) (by omega) (by omega)
 have k1 : ∀ (n : Nat) (t : Int), (ls.length - t).toNat = n → 0 ≤ t → t ≤ ls.length → slices_Concat_L3 ls ((ls.take t.toNat).flatten.length : Int) t = some ls.flatten := by
  intro n
  induction n with
  | zero =>
   intro t hn h0 h1
   rw [slices_Concat_L3_eq]; unfold slices_Concat_L3_B
   rw [List.take_of_length_le (by omega), if_neg (by simp only [decide_eq_true_eq]; omega)]
   refine bind_to (slices_Grow_spec (by omega) hl) ?_
   have := k2 _ 0 rfl (by omega) (by omega)
   simpa using this
  | succ n ih =>
   intro t hn h0 h1
   have e := tk t h0 (by omega)
   have s := sum (t + 1).toNat
   have ih' := ih (t + 1) (by omega) (by omega) (by omega)
   rw [e, List.length_append] at s ih'
   rw [slices_Concat_L3_eq]; unfold slices_Concat_L3_B
   (try dsimp only); (repeat' first | (with_reducible refine G_to ?_ ?_; focus (first | omega | (unfold fits; omega) | (unfold room; (try simp only [List.length_append, List.length_cons, List.length_nil]); omega))) | (with_reducible refine both_to ?_ ?_) | (with_reducible refine itet_to ?_) | (with_reducible refine itef_to ?_) | (with_reducible refine ite_to (fun _ => ?_) (fun _ => ?_))) <;> try (exfalso; omega)
   rw [← ih']; congr 1
 have := k1 _ 0 rfl (by omega) (by omega)
 simpa using this

abbrev Tr := Int × Int × Int × (List Int) × (List (List Int)) × (List (List (List Int))) × (List (List Int)) × Unit
def tW (t : Tr) : List (List Int) := ([t.2.2.2.1] ++ t.2.2.2.2.2.2.1) ++ t.2.2.2.2.2.1.flatten
def TLet (t : Tr) : Prop := t.1 < 1 ∨ 4 < t.1 ∨ t.2.1 < 1 ∨ 4 < t.2.1
def TSize (t : Tr) : Prop := t.2.2.2.2.1.length < 1 ∨ 6 < t.2.2.2.2.1.length
def TNum (t : Tr) : Prop := ¬ t.2.2.2.2.2.1.length = t.2.2.2.2.1.length ∨ ¬ t.2.2.2.2.2.2.1.length = t.2.2.2.2.1.length
def TRow (t : Tr) : Prop := ∃ i : Int, 0 ≤ i ∧ i < t.2.2.2.2.1.length ∧ (¬ ((ix t.2.2.2.2.1 i).length : Int) = t.1 ∨ ¬ ((ix t.2.2.2.2.2.1 i).length : Int) = t.1)
def TTo (t : Tr) : Prop := (t.2.2.1 < 0 ∨ (t.2.2.2.2.1.length : Int) ≤ t.2.2.1) ∨ ∃ r ∈ t.2.2.2.2.1, ∃ q ∈ r, q < 0 ∨ (t.2.2.2.2.1.length : Int) ≤ q
def TLong (t : Tr) : Prop := ∃ w ∈ tW t, 8 < w.length
abbrev LBad (t : Tr) (w : List Int) : Prop := ∃ a ∈ w, a < 0 ∨ t.2.1 ≤ a
def TSay (t : Tr) : Prop := ∃ w ∈ tW t, LBad t w
open Classical in
noncomputable def trE (t : Tr) : Int := if TLet t then 2 else if TSize t then 1 else if TNum t then 3 else if TRow t then 3 else if TTo t then 2 else if TLong t then 1 else if TSay t then 2 else 0
theorem said_len {t : Tr} (h1 : t.2.2.2.2.1.length ≤ 36) (h2 : t.2.2.2.2.2.1.length = t.2.2.2.2.1.length) (h3 : t.1 ≤ 4) (hr : ∀ i : Int, 0 ≤ i → i < t.2.2.2.2.1.length → ((ix t.2.2.2.2.2.1 i).length : Int) = t.1) : ∀ k : Nat, (t.2.2.2.2.2.1.take k).flatten.length ≤ 144 := by
 intro k
 have key : ∀ (l : List (List (List Int))), (∀ r ∈ l, r.length ≤ 4) → l.flatten.length ≤ 4 * l.length := by
  intro l
  induction l with
  | nil => intro _; simp
  | cons r l ih =>
   intro h
   have a := h r (by simp)
   have b := ih (fun x hx => h x (by simp [hx]))
   rw [List.flatten_cons, List.length_append, List.length_cons]; omega
 have := key (t.2.2.2.2.2.1.take k) (fun r hr' => by
  have hr' := List.mem_of_mem_take hr'
  obtain ⟨i, i0, i1, rfl⟩ := (ex_ix (P := fun x => x = r)).1 ⟨r, hr', rfl⟩
  have := hr i i0 (by omega)
  omega)
 rw [List.length_take] at this
 omega
section
variable {t : Tr}
theorem trans_said_spec (h1 : t.2.2.2.2.1.length ≤ 36) (h2 : t.2.2.2.2.2.1.length = t.2.2.2.2.1.length) (h4 : t.2.2.2.2.2.2.1.length = t.2.2.2.2.1.length) (h3 : t.1 ≤ 4) (hr : ∀ i : Int, 0 ≤ i → i < t.2.2.2.2.1.length → ((ix t.2.2.2.2.2.1 i).length : Int) = t.1) : trans_said t = some (tW t) := by
 have hl := said_len h1 h2 h3 hr
 have tk : ∀ i : Int, 0 ≤ i → i < t.2.2.2.2.2.1.length → (t.2.2.2.2.2.1.take (i + 1).toNat).flatten = (t.2.2.2.2.2.1.take i.toNat).flatten ++ ix t.2.2.2.2.2.1 i := fun i h0 h1 => by
  rw [ix_take h0 h1, List.flatten_append]; simp
 have key : ∀ (n : Nat) (i : Int), (t.2.2.2.2.2.1.length - i).toNat = n → 0 ≤ i → i ≤ t.2.2.2.2.2.1.length → trans_said_L3 t i (([t.2.2.2.1] ++ t.2.2.2.2.2.2.1) ++ (t.2.2.2.2.2.1.take i.toNat).flatten) = some (tW t) := by
  intro n
  induction n with
  | zero =>
   intro i hn h0 h1
   rw [trans_said_L3_eq]; unfold trans_said_L3_B
   rw [List.take_of_length_le (by omega), if_neg (by simp only [decide_eq_true_eq]; omega)]; rfl
  | succ n ih =>
   intro i hn h0 h1
   have a := hl i.toNat
   have b := hr i h0 (by omega)
   rw [trans_said_L3_eq]; unfold trans_said_L3_B
   (try dsimp only); (repeat' first | (with_reducible refine G_to ?_ ?_; focus (first | omega | (unfold fits; omega) | (unfold room; (try simp only [List.length_append, List.length_cons, List.length_nil]); omega))) | (with_reducible refine both_to ?_ ?_) | (with_reducible refine itet_to ?_) | (with_reducible refine itef_to ?_) | (with_reducible refine ite_to (fun _ => ?_) (fun _ => ?_))) <;> try (exfalso; omega)
   rw [List.append_assoc, ← tk i h0 (by omega)]
   exact ih (i + 1) (by omega) (by omega) (by omega)
 have := key _ 0 rfl (by omega) (by omega)
 unfold trans_said
 (try dsimp only); (repeat' first | (with_reducible refine G_to ?_ ?_; focus (first | omega | (unfold fits; omega) | (unfold room; (try simp only [List.length_append, List.length_cons, List.length_nil]); omega))) | (with_reducible refine both_to ?_ ?_) | (with_reducible refine itet_to ?_) | (with_reducible refine itef_to ?_) | (with_reducible refine ite_to (fun _ => ?_) (fun _ => ?_))) <;> try (exfalso; omega)
 simpa using this
theorem r16_Words_spec (h1 : t.2.2.2.2.1.length ≤ 36) (h2 : t.2.2.2.2.2.1.length = t.2.2.2.2.1.length) (h4 : t.2.2.2.2.2.2.1.length = t.2.2.2.2.1.length) (h3 : t.1 ≤ 4) (hr : ∀ i : Int, 0 ≤ i → i < t.2.2.2.2.1.length → ((ix t.2.2.2.2.2.1 i).length : Int) = t.1) : r16_Words t = some (tW t) := by
 have hl := said_len h1 h2 h3 hr
 have tk : ∀ i : Int, 0 ≤ i → i < t.2.2.2.2.2.1.length → (t.2.2.2.2.2.1.take (i + 1).toNat).flatten = (t.2.2.2.2.2.1.take i.toNat).flatten ++ ix t.2.2.2.2.2.1 i := fun i h0 h1 => by
  rw [ix_take h0 h1, List.flatten_append]; simp
 have key : ∀ (n : Nat) (i : Int), (t.2.2.2.2.2.1.length - i).toNat = n → 0 ≤ i → i ≤ t.2.2.2.2.2.1.length → r16_Words_L5 t i (([t.2.2.2.1] ++ t.2.2.2.2.2.2.1) ++ (t.2.2.2.2.2.1.take i.toNat).flatten) = some (tW t) := by
  intro n
  induction n with
  | zero =>
   intro i hn h0 h1
   rw [r16_Words_L5_eq]; unfold r16_Words_L5_B
   rw [List.take_of_length_le (by omega), if_neg (by simp only [decide_eq_true_eq]; omega)]; rfl
  | succ n ih =>
   intro i hn h0 h1
   have a := hl i.toNat
   have b := hr i h0 (by omega)
   rw [r16_Words_L5_eq]; unfold r16_Words_L5_B
   (try dsimp only); (repeat' first | (with_reducible refine G_to ?_ ?_; focus (first | omega | (unfold fits; omega) | (unfold room; (try simp only [List.length_append, List.length_cons, List.length_nil]); omega))) | (with_reducible refine both_to ?_ ?_) | (with_reducible refine itet_to ?_) | (with_reducible refine itef_to ?_) | (with_reducible refine ite_to (fun _ => ?_) (fun _ => ?_))) <;> try (exfalso; omega)
   rw [List.append_assoc, ← tk i h0 (by omega)]
   exact ih (i + 1) (by omega) (by omega) (by omega)
 have := key _ 0 rfl (by omega) (by omega)
 unfold r16_Words
 (try dsimp only); (repeat' first | (with_reducible refine G_to ?_ ?_; focus (first | omega | (unfold fits; omega) | (unfold room; (try simp only [List.length_append, List.length_cons, List.length_nil]); omega))) | (with_reducible refine both_to ?_ ?_) | (with_reducible refine itet_to ?_) | (with_reducible refine itef_to ?_) | (with_reducible refine ite_to (fun _ => ?_) (fun _ => ?_))) <;> try (exfalso; omega)
 simpa using this
theorem tW_len (h1 : t.2.2.2.2.1.length ≤ 36) (h2 : t.2.2.2.2.2.1.length = t.2.2.2.2.1.length) (h4 : t.2.2.2.2.2.2.1.length = t.2.2.2.2.1.length) (h3 : t.1 ≤ 4) (hr : ∀ i : Int, 0 ≤ i → i < t.2.2.2.2.1.length → ((ix t.2.2.2.2.2.1 i).length : Int) = t.1) : (tW t).length ≤ 190 := by
 have hl := said_len h1 h2 h3 hr t.2.2.2.2.2.1.length
 rw [List.take_length] at hl
 unfold tW
 rw [List.length_append, List.length_append, List.length_singleton]; omega
theorem nn_tells (q n : Int) : Tells (trans_Check_1 q n) (q < 0 ∨ n ≤ q) := by
 unfold trans_Check_1
 by_cases h : q < 0
 ·rw [if_pos (decide_eq_true h)]; exact Tells.of (by simp [h])
 ·rw [if_neg (by simpa using h)]; exact Tells.dec (by omega)
theorem trans_Check_spec : trans_Check t = some (trE t) := by
 unfold trans_Check trE
 have e0 : ix [t.1, t.2.1] 0 = t.1 := rfl
 have e1 : ix [t.1, t.2.1] (0 + 1) = t.2.1 := rfl
 rw [trans_Check_L2_eq]; unfold trans_Check_L2_B
 rw [if_pos (by simp), G_pos (by simp), G_pos (by simp), e0]
 by_cases c1 : TLet t
 ·rw [if_pos c1]; unfold TLet at c1
  (try dsimp only); (repeat' first | (with_reducible refine G_to ?_ ?_; focus (first | omega | (unfold fits; omega) | (unfold room; (try simp only [List.length_append, List.length_cons, List.length_nil]); omega))) | (with_reducible refine both_to ?_ ?_) | (with_reducible refine itet_to ?_) | (with_reducible refine itef_to ?_) | (with_reducible refine ite_to (fun _ => ?_) (fun _ => ?_))) <;> try (exfalso; omega)
  all_goals first | rfl | skip
  rw [trans_Check_L2_eq]; unfold trans_Check_L2_B
  rw [if_pos (by simp), G_pos (by simp), G_pos (by simp), e1]
  (try dsimp only); (repeat' first | (with_reducible refine G_to ?_ ?_; focus (first | omega | (unfold fits; omega) | (unfold room; (try simp only [List.length_append, List.length_cons, List.length_nil]); omega))) | (with_reducible refine both_to ?_ ?_) | (with_reducible refine itet_to ?_) | (with_reducible refine itef_to ?_) | (with_reducible refine ite_to (fun _ => ?_) (fun _ => ?_))) <;> try (exfalso; omega)
  all_goals rfl
 rw [if_neg c1]; unfold TLet at c1
 (try dsimp only); (repeat' first | (with_reducible refine G_to ?_ ?_; focus (first | omega | (unfold fits; omega) | (unfold room; (try simp only [List.length_append, List.length_cons, List.length_nil]); omega))) | (with_reducible refine both_to ?_ ?_) | (with_reducible refine itet_to ?_) | (with_reducible refine itef_to ?_) | (with_reducible refine ite_to (fun _ => ?_) (fun _ => ?_))) <;> try (exfalso; omega)
 rw [trans_Check_L2_eq]; unfold trans_Check_L2_B
 rw [if_pos (by simp), G_pos (by simp), G_pos (by simp), e1]
 (try dsimp only); (repeat' first | (with_reducible refine G_to ?_ ?_; focus (first | omega | (unfold fits; omega) | (unfold room; (try simp only [List.length_append, List.length_cons, List.length_nil]); omega))) | (with_reducible refine both_to ?_ ?_) | (with_reducible refine itet_to ?_) | (with_reducible refine itef_to ?_) | (with_reducible refine ite_to (fun _ => ?_) (fun _ => ?_))) <;> try (exfalso; omega)
 rw [trans_Check_L2_eq]; unfold trans_Check_L2_B
 rw [if_neg (by simp)]
 by_cases c2 : TSize t
 ·rw [if_pos c2]; unfold TSize at c2
  (try dsimp only); (repeat' first | (with_reducible refine G_to ?_ ?_; focus (first | omega | (unfold fits; omega) | (unfold room; (try simp only [List.length_append, List.length_cons, List.length_nil]); omega))) | (with_reducible refine both_to ?_ ?_) | (with_reducible refine itet_to ?_) | (with_reducible refine itef_to ?_) | (with_reducible refine ite_to (fun _ => ?_) (fun _ => ?_))) <;> try (exfalso; omega)
  all_goals rfl
 rw [if_neg c2]; unfold TSize at c2
 by_cases c3 : TNum t
 ·rw [if_pos c3]; unfold TNum at c3
  (try dsimp only); (repeat' first | (with_reducible refine G_to ?_ ?_; focus (first | omega | (unfold fits; omega) | (unfold room; (try simp only [List.length_append, List.length_cons, List.length_nil]); omega))) | (with_reducible refine both_to ?_ ?_) | (with_reducible refine itet_to ?_) | (with_reducible refine itef_to ?_) | (with_reducible refine ite_to (fun _ => ?_) (fun _ => ?_))) <;> try (exfalso; omega)
  all_goals rfl
 rw [if_neg c3]
 have c3s : t.2.2.2.2.2.1.length = t.2.2.2.2.1.length := Decidable.not_not.1 fun h => c3 (.inl h)
 have c3l : t.2.2.2.2.2.2.1.length = t.2.2.2.2.1.length := Decidable.not_not.1 fun h => c3 (.inr h)
 (try dsimp only); (repeat' first | (with_reducible refine G_to ?_ ?_; focus (first | omega | (unfold fits; omega) | (unfold room; (try simp only [List.length_append, List.length_cons, List.length_nil]); omega))) | (with_reducible refine both_to ?_ ?_) | (with_reducible refine itet_to ?_) | (with_reducible refine itef_to ?_) | (with_reducible refine ite_to (fun _ => ?_) (fun _ => ?_))) <;> try (exfalso; omega)
 refine scan_to (len := (t.2.2.2.2.1.length : Int)) (bad := fun i => ¬ ((ix t.2.2.2.2.1 i).length : Int) = t.1 ∨ ¬ ((ix t.2.2.2.2.2.1 i).length : Int) = t.1) (by omega) (fun i h0 h1 => ⟨fun hb => ?_, fun hb => ?_⟩) (fun hh => ?_)
 ·rw [if_pos (show TRow t from ⟨i, h0, h1, hb⟩)]
  rw [trans_Check_L13_eq]; unfold trans_Check_L13_B
  (try dsimp only); (repeat' first | (with_reducible refine G_to ?_ ?_; focus (first | omega | (unfold fits; omega) | (unfold room; (try simp only [List.length_append, List.length_cons, List.length_nil]); omega))) | (with_reducible refine both_to ?_ ?_) | (with_reducible refine itet_to ?_) | (with_reducible refine itef_to ?_) | (with_reducible refine ite_to (fun _ => ?_) (fun _ => ?_))) <;> try (exfalso; omega)
  all_goals first | rfl | (exfalso; exact hb.elim (fun h => h (Decidable.not_not.1 ‹_›)) (fun h => h (Decidable.not_not.1 ‹_›)))
 ·have hb1 : ((ix t.2.2.2.2.1 i).length : Int) = t.1 := Decidable.not_not.1 fun h => hb (.inl h)
  have hb2 : ((ix t.2.2.2.2.2.1 i).length : Int) = t.1 := Decidable.not_not.1 fun h => hb (.inr h)
  conv => lhs; rw [trans_Check_L13_eq]; unfold trans_Check_L13_B
  (try dsimp only); (repeat' first | (with_reducible refine G_to ?_ ?_; focus (first | omega | (unfold fits; omega) | (unfold room; (try simp only [List.length_append, List.length_cons, List.length_nil]); omega))) | (with_reducible refine both_to ?_ ?_) | (with_reducible refine itet_to ?_) | (with_reducible refine itef_to ?_) | (with_reducible refine ite_to (fun _ => ?_) (fun _ => ?_))) <;> try (exfalso; omega)
  all_goals rfl
 rw [if_neg (show ¬ TRow t from fun ⟨i, i0, i1, hb⟩ => hh i i0 i1 hb)]
 have hN : ∀ i : Int, 0 ≤ i → i < t.2.2.2.2.1.length → ((ix t.2.2.2.2.1 i).length : Int) = t.1 := fun i i0 i1 => Decidable.not_not.1 fun h => hh i i0 i1 (.inl h)
 have hS : ∀ i : Int, 0 ≤ i → i < t.2.2.2.2.1.length → ((ix t.2.2.2.2.2.1 i).length : Int) = t.1 := fun i i0 i1 => Decidable.not_not.1 fun h => hh i i0 i1 (.inr h)
 rw [trans_Check_L13_eq]; unfold trans_Check_L13_B
 rw [if_neg (by simp)]
 refine (nn_tells _ _).to (fun h => by rw [if_pos (show TTo t from .inl h)]) (fun h1 => ?_)
 obtain ⟨b, hb, hb2⟩ : ∃ b, slices_ContainsFunc t.2.2.2.2.1 (t.2.2.2.2.1.length : Int) = some (b, (t.2.2.2.2.1.length : Int)) ∧ (b = true ↔ ∃ r ∈ t.2.2.2.2.1, ∃ q ∈ r, q < 0 ∨ (t.2.2.2.2.1.length : Int) ≤ q) :=
  contains_tells2 (f := trans_Check_2) (slices_IndexFunc_L2_eq t.2.2.2.2.1) (by omega) (fun r hrm => by
   obtain ⟨i, i0, i1, rfl⟩ := (ex_ix (P := fun x => x = r)).1 ⟨r, hrm, rfl⟩
   have := hN i i0 i1
   obtain ⟨b, e, e2⟩ := contains_tells (f := fun q => trans_Check_1 q (t.2.2.2.2.1.length : Int)) (P := fun q => q < 0 ∨ (t.2.2.2.2.1.length : Int) ≤ q) (slices_IndexFunc_1_L2_eq (ix t.2.2.2.2.1 i) (t.2.2.2.2.1.length : Int)) (by omega) (fun x _ => nn_tells x _)
   exact ⟨b, bind_to e rfl, e2⟩)
 rw [hb]
 refine bind_to rfl ?_
 refine iteb_to (fun h => by rw [if_pos (show TTo t from .inr (hb2.1 h))]) (fun h2 => ?_)
 rw [if_neg (show ¬ TTo t from fun h => h.elim h1 (fun h => by rw [hb2.2 h] at h2; cases h2))]
 have hsaid := trans_said_spec (by omega) c3s c3l (by omega) hS
 have hwl := tW_len (by omega) c3s c3l (by omega) hS
 have k3 : Tells (trans_long t) (TLong t) := by
  unfold trans_long
  obtain ⟨b, e, e2⟩ := contains_tells (f := trans_long_1) (P := fun w => 8 < w.length) (slices_IndexFunc_2_L2_eq (tW t)) (by omega) (fun x _ => Tells.dec (by omega))
  exact ⟨b, bind_to hsaid (bind_to e rfl), e2⟩
 refine k3.to (fun h => by rw [if_pos h]) (fun h3 => ?_)
 rw [if_neg h3]
 refine bind_to hsaid ?_
 have k4 : ∀ w ∈ tW t, Tells (slices_ContainsFunc_3 w t) (LBad t w) := fun w hw => contains_tells (f := fun a => trans_Check_3 a t) (P := fun a => a < 0 ∨ t.2.1 ≤ a) (slices_IndexFunc_3_L2_eq w t) (by
   by_cases e : 8 < w.length
   ·exact absurd ⟨w, hw, e⟩ h3
   ·omega) (fun x _ => by
  unfold trans_Check_3
  by_cases h : x < 0
  ·rw [if_pos (decide_eq_true h)]; exact Tells.of (by simp [h])
  ·rw [if_neg (by simpa using h)]; exact Tells.dec (by omega))
 refine scan_to (len := ((tW t).length : Int)) (bad := fun i => LBad t (ix (tW t) i)) (by omega) (fun i h0 h1 => ⟨fun hb => ?_, fun hb => ?_⟩) (fun hh4 => ?_)
 ·rw [if_pos (show TSay t from ex_ix.2 ⟨i, h0, h1, hb⟩)]
  rw [trans_Check_L24_eq]; unfold trans_Check_L24_B
  (try dsimp only); (repeat' first | (with_reducible refine G_to ?_ ?_; focus (first | omega | (unfold fits; omega) | (unfold room; (try simp only [List.length_append, List.length_cons, List.length_nil]); omega))) | (with_reducible refine both_to ?_ ?_) | (with_reducible refine itet_to ?_) | (with_reducible refine itef_to ?_) | (with_reducible refine ite_to (fun _ => ?_) (fun _ => ?_))) <;> try (exfalso; omega)
  exact (k4 _ (ix_mem h0 h1)).to (fun _ => rfl) (fun h => absurd hb h)
 ·conv => lhs; rw [trans_Check_L24_eq]; unfold trans_Check_L24_B
  (try dsimp only); (repeat' first | (with_reducible refine G_to ?_ ?_; focus (first | omega | (unfold fits; omega) | (unfold room; (try simp only [List.length_append, List.length_cons, List.length_nil]); omega))) | (with_reducible refine both_to ?_ ?_) | (with_reducible refine itet_to ?_) | (with_reducible refine itef_to ?_) | (with_reducible refine ite_to (fun _ => ?_) (fun _ => ?_))) <;> try (exfalso; omega)
  refine (k4 _ (ix_mem h0 h1)).to (fun h => absurd h hb) (fun _ => ?_)
  (try dsimp only); (repeat' first | (with_reducible refine G_to ?_ ?_; focus (first | omega | (unfold fits; omega) | (unfold room; (try simp only [List.length_append, List.length_cons, List.length_nil]); omega))) | (with_reducible refine both_to ?_ ?_) | (with_reducible refine itet_to ?_) | (with_reducible refine itef_to ?_) | (with_reducible refine ite_to (fun _ => ?_) (fun _ => ?_))) <;> try (exfalso; omega)
  all_goals rfl
 ·rw [if_neg (show ¬ TSay t from fun h => by obtain ⟨i, i0, i1, i2⟩ := ex_ix.1 h; exact hh4 i i0 i1 i2)]
  rw [trans_Check_L24_eq]; unfold trans_Check_L24_B
  rw [if_neg (by simp)]
theorem r16_letters_spec {w : List Int} {out : Int} (h : w.length ≤ 1000) : (∃ a ∈ w, a < 0 ∨ out ≤ a) ∧ r16_letters w out = some 2 ∨ ¬ (∃ a ∈ w, a < 0 ∨ out ≤ a) ∧ r16_letters w out = some 0 := by
 unfold r16_letters
 by_cases c : ∃ a ∈ w, a < 0 ∨ out ≤ a
 ·refine .inl ⟨c, ?_⟩
  refine scan_to (len := (w.length : Int)) (bad := fun i => ix w i < 0 ∨ out ≤ ix w i) (by omega) (fun i h0 h1 => ⟨fun hb => ?_, fun hb => ?_⟩) (fun hh => ?_)
  ·rw [r16_letters_L2_eq]; unfold r16_letters_L2_B
   (try dsimp only); (repeat' first | (with_reducible refine G_to ?_ ?_; focus (first | omega | (unfold fits; omega) | (unfold room; (try simp only [List.length_append, List.length_cons, List.length_nil]); omega))) | (with_reducible refine both_to ?_ ?_) | (with_reducible refine itet_to ?_) | (with_reducible refine itef_to ?_) | (with_reducible refine ite_to (fun _ => ?_) (fun _ => ?_))) <;> try (exfalso; omega)
   all_goals rfl
  ·conv => lhs; rw [r16_letters_L2_eq]; unfold r16_letters_L2_B
   (try dsimp only); (repeat' first | (with_reducible refine G_to ?_ ?_; focus (first | omega | (unfold fits; omega) | (unfold room; (try simp only [List.length_append, List.length_cons, List.length_nil]); omega))) | (with_reducible refine both_to ?_ ?_) | (with_reducible refine itet_to ?_) | (with_reducible refine itef_to ?_) | (with_reducible refine ite_to (fun _ => ?_) (fun _ => ?_))) <;> try (exfalso; omega)
   all_goals rfl
  ·obtain ⟨i, i0, i1, i2⟩ := ex_ix.1 c; exact absurd i2 (hh i i0 i1)
 ·refine .inr ⟨c, ?_⟩
  refine scan_to (len := (w.length : Int)) (bad := fun i => ix w i < 0 ∨ out ≤ ix w i) (by omega) (fun i h0 h1 => ⟨fun hb => absurd (ex_ix.2 ⟨i, h0, h1, hb⟩) c, fun hb => ?_⟩) (fun hh => ?_)
  ·conv => lhs; rw [r16_letters_L2_eq]; unfold r16_letters_L2_B
   (try dsimp only); (repeat' first | (with_reducible refine G_to ?_ ?_; focus (first | omega | (unfold fits; omega) | (unfold room; (try simp only [List.length_append, List.length_cons, List.length_nil]); omega))) | (with_reducible refine both_to ?_ ?_) | (with_reducible refine itet_to ?_) | (with_reducible refine itef_to ?_) | (with_reducible refine ite_to (fun _ => ?_) (fun _ => ?_))) <;> try (exfalso; omega)
   all_goals rfl
  ·rw [r16_letters_L2_eq]; unfold r16_letters_L2_B
   (try dsimp only); (repeat' first | (with_reducible refine G_to ?_ ?_; focus (first | omega | (unfold fits; omega) | (unfold room; (try simp only [List.length_append, List.length_cons, List.length_nil]); omega))) | (with_reducible refine both_to ?_ ?_) | (with_reducible refine itet_to ?_) | (with_reducible refine itef_to ?_) | (with_reducible refine ite_to (fun _ => ?_) (fun _ => ?_))) <;> try (exfalso; omega)
   all_goals rfl
theorem r16_Check_spec : r16_Check t = some (trE t) := by
 unfold r16_Check trE
 by_cases c1 : TLet t
 ·rw [if_pos c1]; unfold TLet at c1
  (try dsimp only); (repeat' first | (with_reducible refine G_to ?_ ?_; focus (first | omega | (unfold fits; omega) | (unfold room; (try simp only [List.length_append, List.length_cons, List.length_nil]); omega))) | (with_reducible refine both_to ?_ ?_) | (with_reducible refine itet_to ?_) | (with_reducible refine itef_to ?_) | (with_reducible refine ite_to (fun _ => ?_) (fun _ => ?_))) <;> try (exfalso; omega)
  all_goals rfl
 rw [if_neg c1]; unfold TLet at c1
 by_cases c2 : TSize t
 ·rw [if_pos c2]; unfold TSize at c2
  (try dsimp only); (repeat' first | (with_reducible refine G_to ?_ ?_; focus (first | omega | (unfold fits; omega) | (unfold room; (try simp only [List.length_append, List.length_cons, List.length_nil]); omega))) | (with_reducible refine both_to ?_ ?_) | (with_reducible refine itet_to ?_) | (with_reducible refine itef_to ?_) | (with_reducible refine ite_to (fun _ => ?_) (fun _ => ?_))) <;> try (exfalso; omega)
  all_goals rfl
 rw [if_neg c2]; unfold TSize at c2
 by_cases c3 : TNum t
 ·rw [if_pos c3]; unfold TNum at c3
  (try dsimp only); (repeat' first | (with_reducible refine G_to ?_ ?_; focus (first | omega | (unfold fits; omega) | (unfold room; (try simp only [List.length_append, List.length_cons, List.length_nil]); omega))) | (with_reducible refine both_to ?_ ?_) | (with_reducible refine itet_to ?_) | (with_reducible refine itef_to ?_) | (with_reducible refine ite_to (fun _ => ?_) (fun _ => ?_))) <;> try (exfalso; omega)
  all_goals rfl
 rw [if_neg c3]
 have c3s : t.2.2.2.2.2.1.length = t.2.2.2.2.1.length := Decidable.not_not.1 fun h => c3 (.inl h)
 have c3l : t.2.2.2.2.2.2.1.length = t.2.2.2.2.1.length := Decidable.not_not.1 fun h => c3 (.inr h)
 (try dsimp only); (repeat' first | (with_reducible refine G_to ?_ ?_; focus (first | omega | (unfold fits; omega) | (unfold room; (try simp only [List.length_append, List.length_cons, List.length_nil]); omega))) | (with_reducible refine both_to ?_ ?_) | (with_reducible refine itet_to ?_) | (with_reducible refine itef_to ?_) | (with_reducible refine ite_to (fun _ => ?_) (fun _ => ?_))) <;> try (exfalso; omega)
 refine scan_to (len := (t.2.2.2.2.1.length : Int)) (bad := fun i => ¬ ((ix t.2.2.2.2.1 i).length : Int) = t.1 ∨ ¬ ((ix t.2.2.2.2.2.1 i).length : Int) = t.1) (by omega) (fun i h0 h1 => ⟨fun hb => ?_, fun hb => ?_⟩) (fun hh => ?_)
 ·rw [if_pos (show TRow t from ⟨i, h0, h1, hb⟩)]
  rw [r16_Check_L9_eq]; unfold r16_Check_L9_B
  (try dsimp only); (repeat' first | (with_reducible refine G_to ?_ ?_; focus (first | omega | (unfold fits; omega) | (unfold room; (try simp only [List.length_append, List.length_cons, List.length_nil]); omega))) | (with_reducible refine both_to ?_ ?_) | (with_reducible refine itet_to ?_) | (with_reducible refine itef_to ?_) | (with_reducible refine ite_to (fun _ => ?_) (fun _ => ?_))) <;> try (exfalso; omega)
  all_goals first | rfl | (exfalso; exact hb.elim (fun h => h (Decidable.not_not.1 ‹_›)) (fun h => h (Decidable.not_not.1 ‹_›)))
 ·have hb1 : ((ix t.2.2.2.2.1 i).length : Int) = t.1 := Decidable.not_not.1 fun h => hb (.inl h)
  have hb2 : ((ix t.2.2.2.2.2.1 i).length : Int) = t.1 := Decidable.not_not.1 fun h => hb (.inr h)
  conv => lhs; rw [r16_Check_L9_eq]; unfold r16_Check_L9_B
  (try dsimp only); (repeat' first | (with_reducible refine G_to ?_ ?_; focus (first | omega | (unfold fits; omega) | (unfold room; (try simp only [List.length_append, List.length_cons, List.length_nil]); omega))) | (with_reducible refine both_to ?_ ?_) | (with_reducible refine itet_to ?_) | (with_reducible refine itef_to ?_) | (with_reducible refine ite_to (fun _ => ?_) (fun _ => ?_))) <;> try (exfalso; omega)
  all_goals rfl
 rw [if_neg (show ¬ TRow t from fun ⟨i, i0, i1, hb⟩ => hh i i0 i1 hb)]
 have hN : ∀ i : Int, 0 ≤ i → i < t.2.2.2.2.1.length → ((ix t.2.2.2.2.1 i).length : Int) = t.1 := fun i i0 i1 => Decidable.not_not.1 fun h => hh i i0 i1 (.inl h)
 have hS : ∀ i : Int, 0 ≤ i → i < t.2.2.2.2.1.length → ((ix t.2.2.2.2.2.1 i).length : Int) = t.1 := fun i i0 i1 => Decidable.not_not.1 fun h => hh i i0 i1 (.inr h)
 rw [r16_Check_L9_eq]; unfold r16_Check_L9_B
 by_cases c4 : t.2.2.1 < 0 ∨ (t.2.2.2.2.1.length : Int) ≤ t.2.2.1
 ·rw [if_pos (show TTo t from .inl c4)]
  (try dsimp only); (repeat' first | (with_reducible refine G_to ?_ ?_; focus (first | omega | (unfold fits; omega) | (unfold room; (try simp only [List.length_append, List.length_cons, List.length_nil]); omega))) | (with_reducible refine both_to ?_ ?_) | (with_reducible refine itet_to ?_) | (with_reducible refine itef_to ?_) | (with_reducible refine ite_to (fun _ => ?_) (fun _ => ?_))) <;> try (exfalso; omega)
  all_goals rfl
 (try dsimp only); (repeat' first | (with_reducible refine G_to ?_ ?_; focus (first | omega | (unfold fits; omega) | (unfold room; (try simp only [List.length_append, List.length_cons, List.length_nil]); omega))) | (with_reducible refine both_to ?_ ?_) | (with_reducible refine itet_to ?_) | (with_reducible refine itef_to ?_) | (with_reducible refine ite_to (fun _ => ?_) (fun _ => ?_))) <;> try (exfalso; omega)
 refine scan_to (len := (t.2.2.2.2.1.length : Int)) (bad := fun i => ∃ q ∈ ix t.2.2.2.2.1 i, q < 0 ∨ (t.2.2.2.2.1.length : Int) ≤ q) (by omega) (fun i h0 h1 => ⟨fun hb => ?_, fun hb => ?_⟩) (fun hh2 => ?_)
 ·rw [if_pos (show TTo t from .inr (ex_ix.2 ⟨i, h0, h1, hb⟩))]
  rw [r16_Check_L16_eq]; unfold r16_Check_L16_B
  (try dsimp only); (repeat' first | (with_reducible refine G_to ?_ ?_; focus (first | omega | (unfold fits; omega) | (unfold room; (try simp only [List.length_append, List.length_cons, List.length_nil]); omega))) | (with_reducible refine both_to ?_ ?_) | (with_reducible refine itet_to ?_) | (with_reducible refine itef_to ?_) | (with_reducible refine ite_to (fun _ => ?_) (fun _ => ?_))) <;> try (exfalso; omega)
  have hlt := hN i h0 h1
  refine scan_to (len := t.1) (bad := fun a => ix (ix t.2.2.2.2.1 i) a < 0 ∨ (t.2.2.2.2.1.length : Int) ≤ ix (ix t.2.2.2.2.1 i) a) (by omega) (fun a a0 a1 => ⟨fun hb => ?_, fun hb => ?_⟩) (fun hh3 => ?_)
  ·rw [r16_Check_L19_eq]; unfold r16_Check_L19_B
   (try dsimp only); (repeat' first | (with_reducible refine G_to ?_ ?_; focus (first | omega | (unfold fits; omega) | (unfold room; (try simp only [List.length_append, List.length_cons, List.length_nil]); omega))) | (with_reducible refine both_to ?_ ?_) | (with_reducible refine itet_to ?_) | (with_reducible refine itef_to ?_) | (with_reducible refine ite_to (fun _ => ?_) (fun _ => ?_))) <;> try (exfalso; omega)
   all_goals rfl
  ·conv => lhs; rw [r16_Check_L19_eq]; unfold r16_Check_L19_B
   (try dsimp only); (repeat' first | (with_reducible refine G_to ?_ ?_; focus (first | omega | (unfold fits; omega) | (unfold room; (try simp only [List.length_append, List.length_cons, List.length_nil]); omega))) | (with_reducible refine both_to ?_ ?_) | (with_reducible refine itet_to ?_) | (with_reducible refine itef_to ?_) | (with_reducible refine ite_to (fun _ => ?_) (fun _ => ?_))) <;> try (exfalso; omega)
   all_goals rfl
  ·exfalso
   obtain ⟨k, i0, i1, i2⟩ := ex_ix.1 hb
   exact hh3 k i0 (by omega) i2
 ·conv => lhs; rw [r16_Check_L16_eq]; unfold r16_Check_L16_B
  (try dsimp only); (repeat' first | (with_reducible refine G_to ?_ ?_; focus (first | omega | (unfold fits; omega) | (unfold room; (try simp only [List.length_append, List.length_cons, List.length_nil]); omega))) | (with_reducible refine both_to ?_ ?_) | (with_reducible refine itet_to ?_) | (with_reducible refine itef_to ?_) | (with_reducible refine ite_to (fun _ => ?_) (fun _ => ?_))) <;> try (exfalso; omega)
  have hlt := hN i h0 h1
  refine scan_to (len := t.1) (bad := fun a => ix (ix t.2.2.2.2.1 i) a < 0 ∨ (t.2.2.2.2.1.length : Int) ≤ ix (ix t.2.2.2.2.1 i) a) (by omega) (fun a a0 a1 => ⟨fun hb' => ?_, fun hb => ?_⟩) (fun hh3 => ?_)
  ·exfalso; exact hb (ex_ix.2 ⟨a, a0, by omega, hb'⟩)
  ·conv => lhs; rw [r16_Check_L19_eq]; unfold r16_Check_L19_B
   (try dsimp only); (repeat' first | (with_reducible refine G_to ?_ ?_; focus (first | omega | (unfold fits; omega) | (unfold room; (try simp only [List.length_append, List.length_cons, List.length_nil]); omega))) | (with_reducible refine both_to ?_ ?_) | (with_reducible refine itet_to ?_) | (with_reducible refine itef_to ?_) | (with_reducible refine ite_to (fun _ => ?_) (fun _ => ?_))) <;> try (exfalso; omega)
   all_goals rfl
  ·rw [r16_Check_L19_eq]; unfold r16_Check_L19_B
   (try dsimp only); (repeat' first | (with_reducible refine G_to ?_ ?_; focus (first | omega | (unfold fits; omega) | (unfold room; (try simp only [List.length_append, List.length_cons, List.length_nil]); omega))) | (with_reducible refine both_to ?_ ?_) | (with_reducible refine itet_to ?_) | (with_reducible refine itef_to ?_) | (with_reducible refine ite_to (fun _ => ?_) (fun _ => ?_))) <;> try (exfalso; omega)
   all_goals rfl
 rw [if_neg (show ¬ TTo t from fun h => h.elim c4 (fun h => by obtain ⟨i, i0, i1, i2⟩ := ex_ix.1 h; exact hh2 i i0 i1 i2))]
 rw [r16_Check_L16_eq]; unfold r16_Check_L16_B
 rw [if_neg (by simp)]
 have hsaid := r16_Words_spec (by omega) c3s c3l (by omega) hS
 have hwl := tW_len (by omega) c3s c3l (by omega) hS
 have k3 : Tells (r16_Long t) (TLong t) := by
  unfold r16_Long
  by_cases c : TLong t
  ·refine ⟨true, bind_to hsaid ?_, by simp [c]⟩
   refine scan_to (len := ((tW t).length : Int)) (bad := fun i => 8 < (ix (tW t) i).length) (by omega) (fun i h0 h1 => ⟨fun hb => ?_, fun hb => ?_⟩) (fun hh => ?_)
   ·rw [r16_Long_L3_eq]; unfold r16_Long_L3_B
    (try dsimp only); (repeat' first | (with_reducible refine G_to ?_ ?_; focus (first | omega | (unfold fits; omega) | (unfold room; (try simp only [List.length_append, List.length_cons, List.length_nil]); omega))) | (with_reducible refine both_to ?_ ?_) | (with_reducible refine itet_to ?_) | (with_reducible refine itef_to ?_) | (with_reducible refine ite_to (fun _ => ?_) (fun _ => ?_))) <;> try (exfalso; omega)
    all_goals rfl
   ·conv => lhs; rw [r16_Long_L3_eq]; unfold r16_Long_L3_B
    (try dsimp only); (repeat' first | (with_reducible refine G_to ?_ ?_; focus (first | omega | (unfold fits; omega) | (unfold room; (try simp only [List.length_append, List.length_cons, List.length_nil]); omega))) | (with_reducible refine both_to ?_ ?_) | (with_reducible refine itet_to ?_) | (with_reducible refine itef_to ?_) | (with_reducible refine ite_to (fun _ => ?_) (fun _ => ?_))) <;> try (exfalso; omega)
    all_goals rfl
   ·obtain ⟨i, i0, i1, i2⟩ := ex_ix.1 c; exact absurd i2 (hh i i0 i1)
  ·refine ⟨false, bind_to hsaid ?_, by simp [c]⟩
   refine scan_to (len := ((tW t).length : Int)) (bad := fun i => 8 < (ix (tW t) i).length) (by omega) (fun i h0 h1 => ⟨fun hb => absurd (ex_ix.2 ⟨i, h0, h1, hb⟩) c, fun hb => ?_⟩) (fun hh => ?_)
   ·conv => lhs; rw [r16_Long_L3_eq]; unfold r16_Long_L3_B
    (try dsimp only); (repeat' first | (with_reducible refine G_to ?_ ?_; focus (first | omega | (unfold fits; omega) | (unfold room; (try simp only [List.length_append, List.length_cons, List.length_nil]); omega))) | (with_reducible refine both_to ?_ ?_) | (with_reducible refine itet_to ?_) | (with_reducible refine itef_to ?_) | (with_reducible refine ite_to (fun _ => ?_) (fun _ => ?_))) <;> try (exfalso; omega)
    all_goals rfl
   ·rw [r16_Long_L3_eq]; unfold r16_Long_L3_B
    (try dsimp only); (repeat' first | (with_reducible refine G_to ?_ ?_; focus (first | omega | (unfold fits; omega) | (unfold room; (try simp only [List.length_append, List.length_cons, List.length_nil]); omega))) | (with_reducible refine both_to ?_ ?_) | (with_reducible refine itet_to ?_) | (with_reducible refine itef_to ?_) | (with_reducible refine ite_to (fun _ => ?_) (fun _ => ?_))) <;> try (exfalso; omega)
    all_goals rfl
 refine k3.to (fun h => by rw [if_pos h]) (fun h3 => ?_)
 rw [if_neg h3]
 refine bind_to hsaid ?_
 have k4 : ∀ i : Int, 0 ≤ i → i < (tW t).length → (ix (tW t) i).length ≤ 1000 := fun i i0 i1 => by
  by_cases e : 8 < (ix (tW t) i).length
  ·exact absurd (ex_ix.2 ⟨i, i0, i1, e⟩) h3
  ·omega
 refine scan_to (len := ((tW t).length : Int)) (bad := fun i => LBad t (ix (tW t) i)) (by omega) (fun i h0 h1 => ⟨fun hb => ?_, fun hb => ?_⟩) (fun hh4 => ?_)
 ·rw [if_pos (show TSay t from ex_ix.2 ⟨i, h0, h1, hb⟩)]
  rw [r16_Check_L28_eq]; unfold r16_Check_L28_B
  (try dsimp only); (repeat' first | (with_reducible refine G_to ?_ ?_; focus (first | omega | (unfold fits; omega) | (unfold room; (try simp only [List.length_append, List.length_cons, List.length_nil]); omega))) | (with_reducible refine both_to ?_ ?_) | (with_reducible refine itet_to ?_) | (with_reducible refine itef_to ?_) | (with_reducible refine ite_to (fun _ => ?_) (fun _ => ?_))) <;> try (exfalso; omega)
  rcases r16_letters_spec (out := t.2.1) (k4 i h0 h1) with ⟨_, e⟩ | ⟨e, _⟩
  ·refine bind_to e ?_
   rw [if_pos (by decide)]
  ·exact absurd hb e
 ·conv => lhs; rw [r16_Check_L28_eq]; unfold r16_Check_L28_B
  (try dsimp only); (repeat' first | (with_reducible refine G_to ?_ ?_; focus (first | omega | (unfold fits; omega) | (unfold room; (try simp only [List.length_append, List.length_cons, List.length_nil]); omega))) | (with_reducible refine both_to ?_ ?_) | (with_reducible refine itet_to ?_) | (with_reducible refine itef_to ?_) | (with_reducible refine ite_to (fun _ => ?_) (fun _ => ?_))) <;> try (exfalso; omega)
  rcases r16_letters_spec (out := t.2.1) (k4 i h0 h1) with ⟨e, _⟩ | ⟨_, e⟩
  ·exact absurd e hb
  ·refine bind_to e ?_
   (try dsimp only); (repeat' first | (with_reducible refine G_to ?_ ?_; focus (first | omega | (unfold fits; omega) | (unfold room; (try simp only [List.length_append, List.length_cons, List.length_nil]); omega))) | (with_reducible refine both_to ?_ ?_) | (with_reducible refine itet_to ?_) | (with_reducible refine itef_to ?_) | (with_reducible refine ite_to (fun _ => ?_) (fun _ => ?_))) <;> try (exfalso; omega)
   all_goals rfl
 ·rw [if_neg (show ¬ TSay t from fun h => by obtain ⟨i, i0, i1, i2⟩ := ex_ix.1 h; exact hh4 i i0 i1 i2)]
  rw [r16_Check_L28_eq]; unfold r16_Check_L28_B
  rw [if_neg (by simp)]
structure TOk (t : Tr) : Prop where
 let1 : 1 ≤ t.1 ∧ t.1 ≤ 4
 n1 : 1 ≤ t.2.2.2.2.1.length ∧ t.2.2.2.2.1.length ≤ 6
 sl : t.2.2.2.2.2.1.length = t.2.2.2.2.1.length
 ll : t.2.2.2.2.2.2.1.length = t.2.2.2.2.1.length
 st : 0 ≤ t.2.2.1 ∧ t.2.2.1 < t.2.2.2.2.1.length
 srow : ∀ i : Int, 0 ≤ i → i < t.2.2.2.2.1.length → ((ix t.2.2.2.2.2.1 i).length : Int) = t.1
 tab : Tab t.1 t.2.2.2.2.1
 short : ∀ w ∈ tW t, w.length ≤ 8
theorem trE_zero (h : trE t = 0) : TOk t := by
 unfold trE at h
 by_cases c1 : TLet t
 ·rw [if_pos c1] at h; omega
 rw [if_neg c1] at h
 by_cases c2 : TSize t
 ·rw [if_pos c2] at h; omega
 rw [if_neg c2] at h
 by_cases c3 : TNum t
 ·rw [if_pos c3] at h; omega
 rw [if_neg c3] at h
 by_cases c4 : TRow t
 ·rw [if_pos c4] at h; omega
 rw [if_neg c4] at h
 by_cases c5 : TTo t
 ·rw [if_pos c5] at h; omega
 rw [if_neg c5] at h
 by_cases c6 : TLong t
 ·rw [if_pos c6] at h; omega
 unfold TLet at c1; unfold TSize at c2
 have hN : ∀ i : Int, 0 ≤ i → i < t.2.2.2.2.1.length → ((ix t.2.2.2.2.1 i).length : Int) = t.1 := fun i i0 i1 => Decidable.not_not.1 fun h => c4 ⟨i, i0, i1, .inl h⟩
 have hS : ∀ i : Int, 0 ≤ i → i < t.2.2.2.2.1.length → ((ix t.2.2.2.2.2.1 i).length : Int) = t.1 := fun i i0 i1 => Decidable.not_not.1 fun h => c4 ⟨i, i0, i1, .inr h⟩
 refine ⟨by omega, by omega, Decidable.not_not.1 fun h => c3 (.inl h), Decidable.not_not.1 fun h => c3 (.inr h), ?_, hS, ⟨fun r hr => ?_, fun r hr q hq => ?_⟩, fun w hw => ?_⟩
 ·have : ¬ (t.2.2.1 < 0 ∨ (t.2.2.2.2.1.length : Int) ≤ t.2.2.1) := fun h => c5 (.inl h)
  omega
 ·obtain ⟨i, i0, i1, rfl⟩ := (ex_ix (P := fun x => x = r)).1 ⟨r, hr, rfl⟩
  exact hN i i0 i1
 ·have : ¬ (q < 0 ∨ (t.2.2.2.2.1.length : Int) ≤ q) := fun h => c5 (.inr ⟨r, hr, q, hq, h⟩)
  omega
 ·by_cases e : 8 < w.length
  ·exact absurd ⟨w, hw, e⟩ c6
  ·omega
/-- What is said to a word. -/
def sy (t : Tr) : Int → List Int → List Int
 | _, [] => []
 | q, a :: w => ix (ix t.2.2.2.2.2.1 q) a ++ sy t (stp t.2.2.2.2.1 q a) w
theorem sy_len (h : TOk t) : ∀ {w : List Int} {q : Int}, 0 ≤ q → q < t.2.2.2.2.1.length → (∀ a ∈ w, 0 ≤ a ∧ a < t.1) → (sy t q w).length ≤ 8 * w.length
 | [], q, _, _, _ => by simp [sy]
 | a :: w, q, q0, q1, hw => by
  have ha := hw a (by simp)
  have hs := h.tab.stpb q0 q1 ha.1 ha.2
  have hr := h.srow q q0 q1
  have hsl := h.sl
  have := sy_len h (w := w) hs.1 hs.2 (fun b hb => hw b (by simp [hb]))
  have m : ix (ix t.2.2.2.2.2.1 q) a ∈ tW t := List.mem_append_right _ (List.mem_flatten.2 ⟨_, ix_mem q0 (by omega), ix_mem ha.1 (by omega)⟩)
  have := h.short _ m
  rw [sy, List.length_append, List.length_cons]; omega
theorem r16_Run_L4_spec (h : TOk t) {w : List Int} (hw : ∀ a ∈ w, 0 ≤ a ∧ a < t.1) (hl : w.length ≤ 1000) : ∀ (n : Nat) (i q : Int) (out : List Int), (w.length - i).toNat = n → 0 ≤ i → i ≤ w.length → 0 ≤ q → q < t.2.2.2.2.1.length → (out.length : Int) ≤ 8 * i + 8 →
  r16_Run_L4 t w q i out = some (out ++ sy t q (w.drop i.toNat) ++ ix t.2.2.2.2.2.2.1 (wlk t.2.2.2.2.1 q (w.drop i.toNat))) := by
 intro n
 induction n with
 | zero =>
  intro i q out hn h0 h1 q0 q1 ho
  have hll := h.ll
  have m : ix t.2.2.2.2.2.2.1 q ∈ tW t := List.mem_append_left _ (List.mem_append_right _ (ix_mem q0 (by omega)))
  have hsh := h.short _ m
  rw [r16_Run_L4_eq]; unfold r16_Run_L4_B
  (try dsimp only); (repeat' first | (with_reducible refine G_to ?_ ?_; focus (first | omega | (unfold fits; omega) | (unfold room; (try simp only [List.length_append, List.length_cons, List.length_nil]); omega))) | (with_reducible refine both_to ?_ ?_) | (with_reducible refine itet_to ?_) | (with_reducible refine itef_to ?_) | (with_reducible refine ite_to (fun _ => ?_) (fun _ => ?_))) <;> try (exfalso; omega)
  rw [List.drop_of_length_le (by omega)]
  simp [wlk, sy]
 | succ n ih =>
  intro i q out hn h0 h1 q0 q1 ho
  have ha := hw _ (ix_mem h0 (by omega : i < w.length))
  have hr := h.tab.rowlen q0 q1
  have hsr := h.srow q q0 q1
  have hs := h.tab.stpb q0 q1 ha.1 ha.2
  have hsl := h.sl
  have m : ix (ix t.2.2.2.2.2.1 q) (ix w i) ∈ tW t := List.mem_append_right _ (List.mem_flatten.2 ⟨_, ix_mem q0 (by omega), ix_mem ha.1 (by omega)⟩)
  have hsh := h.short _ m
  rw [r16_Run_L4_eq]; unfold r16_Run_L4_B
  (try dsimp only); (repeat' first | (with_reducible refine G_to ?_ ?_; focus (first | omega | (unfold fits; omega) | (unfold room; (try simp only [List.length_append, List.length_cons, List.length_nil]); omega))) | (with_reducible refine both_to ?_ ?_) | (with_reducible refine itet_to ?_) | (with_reducible refine itef_to ?_) | (with_reducible refine ite_to (fun _ => ?_) (fun _ => ?_))) <;> try (exfalso; omega)
  rw [ix_drop h0 (by omega), show ix (ix t.2.2.2.2.1 q) (ix w i) = stp t.2.2.2.2.1 q (ix w i) from rfl]
  rw [ih (i + 1) _ _ (by omega) (by omega) (by omega) hs.1 hs.2 (by rw [List.length_append]; omega), List.append_assoc out]
  rfl
def allS (t : Tr) (w : List Int) : List Int := t.2.2.2.1 ++ sy t t.2.2.1 w ++ ix t.2.2.2.2.2.2.1 (wlk t.2.2.2.2.1 t.2.2.1 w)
theorem F_mem : t.2.2.2.1 ∈ tW t := List.mem_append_left _ (List.mem_append_left _ (by simp))
theorem r16_Run_spec (h : TOk t) {w : List Int} (hw : ∀ a ∈ w, 0 ≤ a ∧ a < t.1) (hl : w.length ≤ 1000) : r16_Run t w = some (allS t w) := by
 have h2 := h.short _ F_mem
 unfold r16_Run
 (try dsimp only); (repeat' first | (with_reducible refine G_to ?_ ?_; focus (first | omega | (unfold fits; omega) | (unfold room; (try simp only [List.length_append, List.length_cons, List.length_nil]); omega))) | (with_reducible refine both_to ?_ ?_) | (with_reducible refine itet_to ?_) | (with_reducible refine itef_to ?_) | (with_reducible refine ite_to (fun _ => ?_) (fun _ => ?_))) <;> try (exfalso; omega)
 rw [List.nil_append, r16_Run_L4_spec h hw hl _ 0 _ _ rfl (by omega) (by omega) h.st.1 h.st.2 (by omega)]
 rfl
end

/-- The letters that are said may be. -/
theorem trE_zero_say {t : Tr} (h : trE t = 0) : ∀ w ∈ tW t, ∀ a ∈ w, 0 ≤ a ∧ a < t.2.1 := by
 unfold trE at h
 by_cases c1 : TLet t
 ·rw [if_pos c1] at h; omega
 rw [if_neg c1] at h
 by_cases c2 : TSize t
 ·rw [if_pos c2] at h; omega
 rw [if_neg c2] at h
 by_cases c3 : TNum t
 ·rw [if_pos c3] at h; omega
 rw [if_neg c3] at h
 by_cases c4 : TRow t
 ·rw [if_pos c4] at h; omega
 rw [if_neg c4] at h
 by_cases c5 : TTo t
 ·rw [if_pos c5] at h; omega
 rw [if_neg c5] at h
 by_cases c6 : TLong t
 ·rw [if_pos c6] at h; omega
 rw [if_neg c6] at h
 by_cases c7 : TSay t
 ·rw [if_pos c7] at h; omega
 intro w hw a ha
 by_cases e : a < 0 ∨ t.2.1 ≤ a
 ·exact absurd ⟨w, hw, a, ha, e⟩ c7
 ·omega
structure BOk (t : Tr) : Prop where
 let1 : 1 ≤ t.1 ∧ t.1 ≤ 4
 n1 : 1 ≤ t.2.2.2.2.1.length ∧ t.2.2.2.2.1.length ≤ 36
 sl : t.2.2.2.2.2.1.length = t.2.2.2.2.1.length
 ll : t.2.2.2.2.2.2.1.length = t.2.2.2.2.1.length
 st : 0 ≤ t.2.2.1 ∧ t.2.2.1 < t.2.2.2.2.1.length
 srow : ∀ i : Int, 0 ≤ i → i < t.2.2.2.2.1.length → ((ix t.2.2.2.2.2.1 i).length : Int) = t.1
 tab : Tab t.1 t.2.2.2.2.1
 short : ∀ w ∈ tW t, w.length ≤ 80
/-- How far two words are one. -/
def cpl : List Int → List Int → Nat
 | x :: a, y :: b => if x = y then cpl a b + 1 else 0
 | _, _ => 0
theorem cpl_le : ∀ (a b : List Int), cpl a b ≤ a.length ∧ cpl a b ≤ b.length
 | [], _ => by simp [cpl]
 | _ :: _, [] => by simp [cpl]
 | x :: a, y :: b => by
  have := cpl_le a b
  unfold cpl
  split <;> simp <;> omega
theorem cpl_drop {a b : List Int} {n : Nat} (ha : n < a.length) (hb : n < b.length) : cpl (a.drop n) (b.drop n) = if ix a (n : Int) = ix b (n : Int) then cpl (a.drop (n + 1)) (b.drop (n + 1)) + 1 else 0 := by
 rw [List.drop_eq_getElem_cons ha, List.drop_eq_getElem_cons hb, cpl, ix_eq (l := a) (by omega) (by omega), ix_eq (l := b) (by omega) (by omega)]
 simp only [Int.toNat_natCast]
theorem cpl_end {a b : List Int} {n : Nat} (h : a.length ≤ n ∨ b.length ≤ n) : cpl (a.drop n) (b.drop n) = 0 := by
 rcases h with h | h
 ·rw [List.drop_of_length_le h]; simp [cpl]
 ·rw [List.drop_of_length_le h]
  cases a.drop n <;> simp [cpl]
theorem r16_begin_spec {a b : List Int} (h : a.length ≤ 1000000000000) : r16_begin a b = some (cpl a b : Int) := by
 have key : ∀ (m n : Nat), a.length - n = m → n ≤ a.length → r16_begin_L2 a b (n : Int) = some ((n + cpl (a.drop n) (b.drop n) : Nat) : Int) := by
  intro m
  induction m with
  | zero =>
   intro n hm hn
   rw [r16_begin_L2_eq]; unfold r16_begin_L2_B
   rw [if_neg (by simp only [decide_eq_true_eq]; omega), cpl_end (.inl (by omega))]; rfl
  | succ m ih =>
   intro n hm hn
   rw [r16_begin_L2_eq]; unfold r16_begin_L2_B
   rw [if_pos (decide_eq_true (by omega))]
   by_cases c : n < b.length
   ·rw [if_pos (decide_eq_true (by omega)), G_pos (by omega), G_pos (by omega), cpl_drop (by omega) c]
    by_cases c2 : ix a (n : Int) = ix b (n : Int)
    ·rw [if_pos (decide_eq_true c2), if_pos c2, G_pos (by unfold fits; omega)]
     refine (ih (n + 1) (by omega) (by omega)).trans ?_
     congr 1; omega
    ·rw [if_neg (by simpa using c2), if_neg c2]; rfl
   ·rw [if_neg (by simp only [decide_eq_true_eq]; omega), cpl_end (.inr (by omega))]; rfl
 have := key a.length 0 (by omega) (by omega)
 simpa [r16_begin] using this
theorem trans_common_spec {a b : List Int} (h : a.length ≤ 1000000000000) : trans_common a b = some (a.take (cpl a b)) := by
 have hle := (cpl_le a b).1
 have key : ∀ (m n : Nat), a.length - n = m → n ≤ a.length → trans_common_L2 a b (n : Int) = some (cut a (0 : Int) ((n + cpl (a.drop n) (b.drop n) : Nat) : Int)) := by
  intro m
  induction m with
  | zero =>
   intro n hm hn
   rw [trans_common_L2_eq]; unfold trans_common_L2_B
   rw [if_neg (by simp only [decide_eq_true_eq]; omega), cpl_end (.inl (by omega)), G_pos (by omega)]; rfl
  | succ m ih =>
   intro n hm hn
   rw [trans_common_L2_eq]; unfold trans_common_L2_B
   rw [if_pos (decide_eq_true (by omega))]
   by_cases c : n < b.length
   ·rw [if_pos (decide_eq_true (by omega)), G_pos (by omega), G_pos (by omega), cpl_drop (by omega) c]
    by_cases c2 : ix a (n : Int) = ix b (n : Int)
    ·rw [if_pos (decide_eq_true c2), if_pos c2, G_pos (by unfold fits; omega)]
     refine (ih (n + 1) (by omega) (by omega)).trans ?_
     congr 2; omega
    ·rw [if_neg (by simpa using c2), if_neg c2, G_pos (by omega)]; rfl
   ·rw [if_neg (by simp only [decide_eq_true_eq]; omega), cpl_end (.inr (by omega)), G_pos (by omega)]; rfl
 have := key a.length 0 (by omega) (by omega)
 rw [show ((0 : Nat) : Int) = 0 from rfl, List.drop_zero, List.drop_zero, Nat.zero_add] at this
 unfold trans_common
 rw [this]
 unfold cut
 simp

section
variable {t : Tr}
/-- What is said ahead, so far. -/
structure AhOk (t : Tr) (A : List (List Int)) : Prop where
 l : A.length = t.2.2.2.2.1.length
 s : ∀ i : Int, 0 ≤ i → i < A.length → (ix A i).length ≤ 80
 p : ∀ i : Int, 0 ≤ i → i < A.length → ∃ k, ix A i = (ix t.2.2.2.2.2.2.1 i).take k
def tot (A : List (List Int)) : Nat → Nat
 | 0 => 0
 | k + 1 => tot A k + (ix A (k : Int)).length
theorem tot_set {A : List (List Int)} {q : Int} {w : List Int} (q0 : 0 ≤ q) (q1 : q < A.length) (hw : w.length < (ix A q).length) : ∀ n : Nat, n ≤ A.length → (n ≤ q → tot (A.set q.toNat w) n = tot A n) ∧ (q < n → tot (A.set q.toNat w) n < tot A n)
 | 0, _ => ⟨fun _ => rfl, fun h => by omega⟩
 | n + 1, hn => by
  obtain ⟨h1, h2⟩ := tot_set q0 q1 hw n (by omega)
  unfold tot
  refine ⟨fun h => ?_, fun h => ?_⟩
  ·rw [ix_set_ne q0 (by omega) (by omega), h1 (by omega)]
  ·by_cases e : q = n
   ·rw [h1 (by omega), ← e, ix_set_same q0 q1]; omega
   ·rw [ix_set_ne q0 (by omega) e]
    have := h2 (by omega); omega
theorem says_len (h : BOk t) {q a : Int} (q0 : 0 ≤ q) (q1 : q < t.2.2.2.2.1.length) (a0 : 0 ≤ a) (a1 : a < t.1) : (ix (ix t.2.2.2.2.2.1 q) a).length ≤ 80 := by
 have h1 := h.srow q q0 q1
 have h2 := h.sl
 refine h.short _ (List.mem_append_right _ (List.mem_flatten.2 ⟨_, ix_mem q0 (by omega), ix_mem a0 (by omega)⟩))
/-- Nothing more to take off here. -/
def Stb (t : Tr) (A : List (List Int)) (q a : Int) : Prop := cpl (ix A q) (ix (ix t.2.2.2.2.2.1 q) a ++ ix A (stp t.2.2.2.2.1 q a)) = (ix A q).length
theorem push_row (h : BOk t) {q : Int} (q0 : 0 ≤ q) (q1 : q < t.2.2.2.2.1.length) {r6 : Bool → Int → List (List Int) → Option Tr} {r8 : Bool → Int → List (List Int) → Option Tr} : ∀ (m : Nat) (k : Int) (ag : Bool) (A : List (List Int)), 0 ≤ k → k + m = t.1 → AhOk t A →
  ∃ ag' A', trans_pushed_L9 t q r6 ag k A = r6 ag' (q + 1) A' ∧ r16_Pushed_L11 t q r8 ag k A = r8 ag' (q + 1) A' ∧ AhOk t A' ∧ ((ag' = ag ∧ A' = A ∧ ∀ a : Int, k ≤ a → a < t.1 → Stb t A q a) ∨ ag' = true ∧ tot A' A.length < tot A A.length) := by
 have hl := h.let1; have hn := h.n1; have hsl := h.sl
 have hrow := h.tab.rowlen q0 q1
 have hsr := h.srow q q0 q1
 intro m
 induction m with
 | zero =>
  intro k ag A k0 hk hA
  refine ⟨ag, A, ?_, ?_, hA, .inl ⟨rfl, rfl, fun a h1 h2 => by omega⟩⟩
  ·rw [trans_pushed_L9_eq]; unfold trans_pushed_L9_B
   rw [if_neg (by simp only [decide_eq_true_eq]; omega), G_pos (by unfold fits; omega)]
  ·rw [r16_Pushed_L11_eq]; unfold r16_Pushed_L11_B
   rw [if_neg (by simp only [decide_eq_true_eq]; omega), G_pos (by unfold fits; omega)]
 | succ m ih =>
  intro k ag A k0 hk hA
  have hAl := hA.l
  have hto := h.tab.stpb q0 q1 k0 (show k < t.1 by omega)
  have e0 : ix (ix t.2.2.2.2.1 q) k = stp t.2.2.2.2.1 q k := rfl
  have hs8 := says_len h q0 q1 k0 (show k < t.1 by omega)
  have ha8 := hA.s q q0 (by omega)
  have hb8 := hA.s _ hto.1 (by omega)
  obtain ⟨S, eS⟩ : ∃ S, ix (ix t.2.2.2.2.2.1 q) k = S := ⟨_, rfl⟩
  have e0' : stp t.2.2.2.2.1 q k = stp t.2.2.2.2.1 q k := rfl
  rw [eS] at hs8
  have hc := slices_Concat_spec (ls := [S, ix A (stp t.2.2.2.2.1 q k)]) (by simp) (by simp; omega)
  have hfl : [S, ix A (stp t.2.2.2.2.1 q k)].flatten = S ++ ix A (stp t.2.2.2.2.1 q k) := by simp
  rw [hfl] at hc
  have hcm := trans_common_spec (a := ix A q) (b := S ++ ix A (stp t.2.2.2.2.1 q k)) (by omega)
  have hbg := r16_begin_spec (a := ix A q) (b := S ++ ix A (stp t.2.2.2.2.1 q k)) (by omega)
  have hcl := (cpl_le (ix A q) (S ++ ix A (stp t.2.2.2.2.1 q k))).1
  have htk : ((ix A q).take (cpl (ix A q) (S ++ ix A (stp t.2.2.2.2.1 q k)))).length = cpl (ix A q) (S ++ ix A (stp t.2.2.2.2.1 q k)) := by rw [List.length_take]; omega
  have hcut : cut (ix A q) (0 : Int) ((cpl (ix A q) (S ++ ix A (stp t.2.2.2.2.1 q k)) : Nat) : Int) = (ix A q).take (cpl (ix A q) (S ++ ix A (stp t.2.2.2.2.1 q k))) := by unfold cut; simp
  by_cases c : cpl (ix A q) (S ++ ix A (stp t.2.2.2.2.1 q k)) < (ix A q).length
  ·obtain ⟨ag', A', e1, e2, h1, h2⟩ := ih (k + 1) true (A.set q.toNat ((ix A q).take (cpl (ix A q) (S ++ ix A (stp t.2.2.2.2.1 q k))))) (by omega) (by omega) ⟨by rw [List.length_set]; exact hAl, fun i i0 i1 => by
    rw [List.length_set] at i1
    by_cases e : q = i
    ·rw [← e, ix_set_same q0 (by omega)]; omega
    ·rw [ix_set_ne q0 i0 e]; exact hA.s i i0 i1, fun i i0 i1 => by
    rw [List.length_set] at i1
    by_cases e : q = i
    ·rw [← e, ix_set_same q0 (by omega)]
     obtain ⟨k', ek⟩ := hA.p q q0 (by omega)
     rw [ek, List.take_take]; exact ⟨_, rfl⟩
    ·rw [ix_set_ne q0 i0 e]; exact hA.p i i0 i1⟩
   have hlt := (tot_set q0 (show q < A.length by omega) (w := (ix A q).take (cpl (ix A q) (S ++ ix A (stp t.2.2.2.2.1 q k)))) (by omega) A.length (Nat.le_refl _)).2 (by omega)
   rw [List.length_set] at h2
   refine ⟨ag', A', ?_, ?_, h1, .inr ?_⟩
   ·rw [← e1]
    conv => lhs; rw [trans_pushed_L9_eq]; unfold trans_pushed_L9_B
    rw [e0, eS, if_pos (decide_eq_true (by omega)), G_pos (by omega), G_pos (by omega), G_pos (by omega), G_pos (by omega), G_pos (by omega), G_pos (by omega), G_pos (by omega), hc]
    dsimp only [Option.bind]
    rw [hcm]
    dsimp only [Option.bind]
    rw [G_pos (by omega), G_pos (by omega), if_pos (decide_eq_true (by omega)), G_pos (by omega), G_pos (by omega), G_pos (by unfold fits; omega)]
   ·rw [← e2]
    conv => lhs; rw [r16_Pushed_L11_eq]; unfold r16_Pushed_L11_B
    rw [e0, eS, List.nil_append, if_pos (decide_eq_true (by omega)), G_pos (by omega), G_pos (by omega), G_pos (by unfold room; simp; omega), G_pos (by omega), G_pos (by omega), G_pos (by omega), G_pos (by omega), G_pos (by unfold room; omega), G_pos (by omega), G_pos (by omega), hbg]
    dsimp only [Option.bind]
    rw [G_pos (by omega), G_pos (by omega), if_pos (decide_eq_true (by omega)), G_pos (by omega), G_pos (by omega), G_pos (by omega), G_pos (by omega), G_pos (by omega), G_pos (by unfold fits; omega), hcut]
   ·rcases h2 with ⟨h2, h3, _⟩ | ⟨h2, h3⟩
    ·exact ⟨h2, by rw [h3]; exact hlt⟩
    ·exact ⟨h2, by omega⟩
  ·obtain ⟨ag', A', e1, e2, h1, h2⟩ := ih (k + 1) ag A (by omega) (by omega) hA
   refine ⟨ag', A', ?_, ?_, h1, h2.imp (fun ⟨x, y, z⟩ => ⟨x, y, fun b b0 b1 => by
    by_cases e : b = k
    ·rw [e]; unfold Stb; rw [e0', eS]; omega
    ·exact z b (by omega) b1⟩) id⟩
   ·rw [← e1]
    conv => lhs; rw [trans_pushed_L9_eq]; unfold trans_pushed_L9_B
    rw [e0, eS, if_pos (decide_eq_true (by omega)), G_pos (by omega), G_pos (by omega), G_pos (by omega), G_pos (by omega), G_pos (by omega), G_pos (by omega), G_pos (by omega), hc]
    dsimp only [Option.bind]
    rw [hcm]
    dsimp only [Option.bind]
    rw [G_pos (by omega), G_pos (by omega), if_neg (by simp only [decide_eq_true_eq]; omega), G_pos (by unfold fits; omega)]
   ·rw [← e2]
    conv => lhs; rw [r16_Pushed_L11_eq]; unfold r16_Pushed_L11_B
    rw [e0, eS, List.nil_append, if_pos (decide_eq_true (by omega)), G_pos (by omega), G_pos (by omega), G_pos (by unfold room; simp; omega), G_pos (by omega), G_pos (by omega), G_pos (by omega), G_pos (by omega), G_pos (by unfold room; omega), G_pos (by omega), G_pos (by omega), hbg]
    dsimp only [Option.bind]
    rw [G_pos (by omega), G_pos (by omega), if_neg (by simp only [decide_eq_true_eq]; omega), G_pos (by unfold fits; omega)]
end
section
variable {t : Tr}
theorem push_pass (h : BOk t) {r3 r5 : Bool → List (List Int) → Option Tr} : ∀ (m : Nat) (q : Int) (ag : Bool) (A : List (List Int)), 0 ≤ q → q + m = t.2.2.2.2.1.length → AhOk t A →
  ∃ ag' A', trans_pushed_L6 t r3 ag q A = r3 ag' A' ∧ r16_Pushed_L8 t r5 ag q A = r5 ag' A' ∧ AhOk t A' ∧ ((ag' = ag ∧ A' = A ∧ ∀ p a : Int, q ≤ p → p < t.2.2.2.2.1.length → 0 ≤ a → a < t.1 → Stb t A p a) ∨ ag' = true ∧ tot A' A.length < tot A A.length) := by
 have hl := h.let1
 intro m
 induction m with
 | zero =>
  intro q ag A q0 hq hA
  refine ⟨ag, A, ?_, ?_, hA, .inl ⟨rfl, rfl, fun p a h1 h2 => by omega⟩⟩
  ·rw [trans_pushed_L6_eq]; unfold trans_pushed_L6_B
   rw [if_neg (by simp only [decide_eq_true_eq]; omega)]
  ·rw [r16_Pushed_L8_eq]; unfold r16_Pushed_L8_B
   rw [if_neg (by simp only [decide_eq_true_eq]; omega)]
 | succ m ih =>
  intro q ag A q0 hq hA
  obtain ⟨ag1, A1, e1, e2, h1, h2⟩ := push_row h q0 (show q < t.2.2.2.2.1.length by omega) (r6 := trans_pushed_L6 t r3) (r8 := r16_Pushed_L8 t r5) t.1.toNat 0 ag A (by omega) (by omega) hA
  obtain ⟨ag2, A2, e3, e4, h3, h4⟩ := ih (q + 1) ag1 A1 (by omega) (by omega) h1
  refine ⟨ag2, A2, ?_, ?_, h3, ?_⟩
  ·rw [← e3, ← e1]
   conv => lhs; rw [trans_pushed_L6_eq]; unfold trans_pushed_L6_B
   rw [if_pos (decide_eq_true (by omega)), G_pos (by omega)]
  ·rw [← e4, ← e2]
   conv => lhs; rw [r16_Pushed_L8_eq]; unfold r16_Pushed_L8_B
   rw [if_pos (decide_eq_true (by omega))]
  ·have hAl : A1.length = A.length := by rw [h1.l, hA.l]
   rw [hAl] at h4
   rcases h4 with ⟨h4, h5, h7⟩ | ⟨h4, h5⟩
   ·subst h4; subst h5
    refine h2.imp (fun ⟨x, y, z⟩ => ⟨x, y, fun p a p0 p1 a0 a1 => ?_⟩) id
    by_cases e : p = q
    ·rw [e]; exact z a a0 a1
    ·rw [← y]; exact h7 p a (by omega) p1 a0 a1
   ·refine .inr ⟨h4, ?_⟩
    rcases h2 with ⟨_, h6, _⟩ | ⟨_, h6⟩
    ·rw [h6] at h5; exact h5
    ·omega
theorem push_all (h : BOk t) : ∀ (f : Nat) (A : List (List Int)), tot A A.length = f → AhOk t A → ∃ A', trans_pushed_L3 t true A = trans_pushed_L3 t false A' ∧ r16_Pushed_L5 t true A = r16_Pushed_L5 t false A' ∧ AhOk t A' ∧ ∀ p a : Int, 0 ≤ p → p < t.2.2.2.2.1.length → 0 ≤ a → a < t.1 → Stb t A' p a := by
 intro f
 induction f using Nat.strongRecOn with
 | _ f ih =>
 intro A hf hA
 obtain ⟨ag, A1, e1, e2, h1, h2⟩ := push_pass h (r3 := trans_pushed_L3 t) (r5 := r16_Pushed_L5 t) t.2.2.2.2.1.length 0 false A (by omega) (by omega) hA
 have g1 : trans_pushed_L3 t true A = trans_pushed_L3 t ag A1 := by
  rw [← e1]
  conv => lhs; rw [trans_pushed_L3_eq]; unfold trans_pushed_L3_B
  rw [if_pos rfl]
 have g2 : r16_Pushed_L5 t true A = r16_Pushed_L5 t ag A1 := by
  rw [← e2]
  conv => lhs; rw [r16_Pushed_L5_eq]; unfold r16_Pushed_L5_B
  rw [if_pos rfl]
 rcases h2 with ⟨rfl, rfl, hs⟩ | ⟨rfl, hlt⟩
 ·exact ⟨A1, g1, g2, h1, fun p a p0 p1 => hs p a p0 p1⟩
 ·have hAl : A1.length = A.length := by rw [h1.l, hA.l]
  obtain ⟨A', e3, e4, h3, h4⟩ := ih _ (by rw [hAl]; omega) A1 rfl h1
  exact ⟨A', g1.trans e3, g2.trans e4, h3, h4⟩
end

/-- A list by its places. -/
def tbl {α : Type} (n : Nat) (g : Int → α) : List α := (List.range n).map fun a : Nat => g a
theorem tbl_len {α : Type} (n : Nat) (g : Int → α) : (tbl n g).length = n := by simp [tbl]
theorem tbl_succ {α : Type} (n : Nat) (g : Int → α) : tbl (n + 1) g = tbl n g ++ [g n] := by simp [tbl, List.range_succ]
theorem tbl_ix {α : Type} [Inhabited α] {n : Nat} {g : Int → α} {a : Int} (h0 : 0 ≤ a) (h1 : a < n) : ix (tbl n g) a = g a := by
 obtain ⟨k, rfl⟩ : ∃ k : Nat, a = k := ⟨a.toNat, by omega⟩
 rw [ix_eq h0 (by rw [tbl_len]; exact h1)]
 simp [tbl]
theorem tbl_of {α : Type} [Inhabited α] {n : Nat} {g : Int → α} {l : List α} (hl : l.length = n) (h : ∀ a : Int, 0 ≤ a → a < n → ix l a = g a) : l = tbl n g :=
 ix_ext (by rw [tbl_len, hl]) fun j j0 j1 => by rw [tbl_ix j0 (by omega)]; exact h j j0 (by omega)
section
variable {t : Tr}
def pSay (t : Tr) (A : List (List Int)) (q a : Int) : List Int := (ix (ix t.2.2.2.2.2.1 q) a ++ ix A (stp t.2.2.2.2.1 q a)).drop (ix A q).length
def pLast (t : Tr) (A : List (List Int)) (q : Int) : List Int := (ix t.2.2.2.2.2.2.1 q).drop (ix A q).length
/-- What says as early as can be. -/
def pT (t : Tr) (A : List (List Int)) : Tr := (t.1, t.2.1, t.2.2.1, t.2.2.2.1 ++ ix A t.2.2.1, t.2.2.2.2.1, tbl t.2.2.2.2.1.length (fun q => tbl t.1.toNat (pSay t A q)), tbl t.2.2.2.2.1.length (pLast t A), ())
theorem slices_Clone_1_spec {s : List Int} (h : s.length * 8 ≤ 140737488355328) : slices_Clone_1 s = some s := by
 unfold slices_Clone_1
 refine itep_to (fun e => ?_) (fun _ => ?_)
 ·have : s = [] := List.eq_nil_of_length_eq_zero e
  subst this
  (try dsimp only); (repeat' first | (with_reducible refine G_to ?_ ?_; focus (first | omega | (unfold fits; omega) | (unfold room; (try simp only [List.length_append, List.length_cons, List.length_nil]); omega))) | (with_reducible refine both_to ?_ ?_) | (with_reducible refine itet_to ?_) | (with_reducible refine itef_to ?_) | (with_reducible refine ite_to (fun _ => ?_) (fun _ => ?_))) <;> try (exfalso; omega)
  all_goals rfl
 ·refine G_to (by unfold room; simp; omega) ?_
  rfl
theorem AhOk.pre {A : List (List Int)} (hA : AhOk t A) {i : Int} (i0 : 0 ≤ i) (i1 : i < A.length) : (ix A i).length ≤ (ix t.2.2.2.2.2.2.1 i).length ∧ ix A i ++ pLast t A i = ix t.2.2.2.2.2.2.1 i := by
 obtain ⟨k, e⟩ := hA.p i i0 i1
 unfold pLast
 rw [e, List.length_take]
 refine ⟨by omega, ?_⟩
 by_cases c : k ≤ (ix t.2.2.2.2.2.2.1 i).length
 ·rw [Nat.min_eq_left c, List.take_append_drop]
 ·rw [Nat.min_eq_right (by omega), List.take_of_length_le (by omega), List.drop_of_length_le (by omega), List.append_nil]
theorem cpl_pre : ∀ {a b : List Int}, cpl a b = a.length → a ++ b.drop a.length = b
 | [], b, _ => by simp
 | x :: a, [], h => by simp [cpl] at h
 | x :: a, y :: b, h => by
  unfold cpl at h
  by_cases e : x = y
  ·rw [if_pos e] at h
   subst e
   have := cpl_pre (a := a) (b := b) (by simpa using h)
   simp [this]
  ·rw [if_neg e] at h; simp at h
theorem Stb.pre {A : List (List Int)} {q a : Int} (h : Stb t A q a) : ix A q ++ pSay t A q a = ix (ix t.2.2.2.2.2.1 q) a ++ ix A (stp t.2.2.2.2.1 q a) := cpl_pre h
theorem Stb.le {A : List (List Int)} {q a : Int} (h : Stb t A q a) : (ix A q).length ≤ (ix (ix t.2.2.2.2.2.1 q) a ++ ix A (stp t.2.2.2.2.1 q a)).length := by
 have := (cpl_le (ix A q) (ix (ix t.2.2.2.2.2.1 q) a ++ ix A (stp t.2.2.2.2.1 q a))).2
 unfold Stb at h
 omega
theorem pushed_L24 (h : BOk t) {A : List (List Int)} (hA : AhOk t A) {q : Int} (q0 : 0 ≤ q) (q1 : q < t.2.2.2.2.1.length) (hS : ∀ a : Int, 0 ≤ a → a < t.1 → Stb t A q a) {o4 o5 o6 : Int} {o7 : List Int} {o8 : List (List Int)} {o9 : List (List (List Int))} {o10 : List (List Int)} (ho : o9.length ≤ 100) {r18} {y4 y5 : List Int} :
  ∀ (m : Nat) (k : Int), 0 ≤ k → k + m = t.1 → trans_pushed_L24 t A q o4 o5 o6 o7 o8 o9 o10 r18 y4 y5 k (tbl k.toNat (pSay t A q)) = r18 (q + 1) o4 o5 o6 o7 (o8 ++ [y4]) (o9 ++ [tbl t.1.toNat (pSay t A q)]) (o10 ++ [y5]) := by
 have hl := h.let1; have hn := h.n1; have hsl := h.sl
 have hrow := h.tab.rowlen q0 q1
 have hsr := h.srow q q0 q1
 have hAl := hA.l
 intro m
 induction m with
 | zero =>
  intro k k0 hk
  rw [trans_pushed_L24_eq]; unfold trans_pushed_L24_B
  rw [if_neg (by simp only [decide_eq_true_eq]; omega), G_pos (by unfold room; simp; omega), G_pos (by unfold fits; omega), show k = t.1 by omega]
 | succ m ih =>
  intro k k0 hk
  have hto := h.tab.stpb q0 q1 k0 (show k < t.1 by omega)
  have hs8 := says_len h q0 q1 k0 (show k < t.1 by omega)
  have ha8 := hA.s q q0 (by omega)
  have hb8 := hA.s _ hto.1 (by omega)
  have hle := (hS k k0 (by omega)).le
  have e0 : ix (ix t.2.2.2.2.1 q) k = stp t.2.2.2.2.1 q k := rfl
  have hc := slices_Concat_spec (ls := [ix (ix t.2.2.2.2.2.1 q) k, ix A (stp t.2.2.2.2.1 q k)]) (by simp) (by simp; omega)
  have hfl : [ix (ix t.2.2.2.2.2.1 q) k, ix A (stp t.2.2.2.2.1 q k)].flatten = ix (ix t.2.2.2.2.2.1 q) k ++ ix A (stp t.2.2.2.2.1 q k) := by simp
  rw [hfl] at hc
  have hd : ((ix (ix t.2.2.2.2.2.1 q) k ++ ix A (stp t.2.2.2.2.1 q k)).drop (ix A q).length).take ((ix (ix t.2.2.2.2.2.1 q) k ++ ix A (stp t.2.2.2.2.1 q k)).length - (ix A q).length) = pSay t A q k := by
   rw [List.take_of_length_le (by rw [List.length_drop]; omega)]; rfl
  have hk1 : (k + 1).toNat = k.toNat + 1 := by omega
  have hkk : ((k.toNat : Nat) : Int) = k := by omega
  rw [trans_pushed_L24_eq]; unfold trans_pushed_L24_B
  rw [e0, if_pos (decide_eq_true (by omega)), G_pos (by omega), G_pos (by omega), G_pos (by omega), G_pos (by omega), G_pos (by omega), G_pos (by omega), G_pos (by omega)]
  refine bind_to hc ?_
  rw [Int.toNat_natCast, hd, G_pos (by omega), G_pos (by unfold room; rw [tbl_len]; simp; omega), G_pos (by unfold fits; omega)]
  have := ih (k + 1) (by omega) (by omega)
  rw [hk1, tbl_succ, hkk] at this
  exact this
theorem pushed_L18 (h : BOk t) {A : List (List Int)} (hA : AhOk t A) (hS : ∀ q a : Int, 0 ≤ q → q < t.2.2.2.2.1.length → 0 ≤ a → a < t.1 → Stb t A q a) {o4 o5 o6 : Int} {o7 : List Int} :
  ∀ (m : Nat) (q : Int), 0 ≤ q → q + m = t.2.2.2.2.1.length → trans_pushed_L18 t A q o4 o5 o6 o7 (t.2.2.2.2.1.take q.toNat) (tbl q.toNat (fun q => tbl t.1.toNat (pSay t A q))) (tbl q.toNat (pLast t A)) =
   some (o4, o5, o6, o7, t.2.2.2.2.1, tbl t.2.2.2.2.1.length (fun q => tbl t.1.toNat (pSay t A q)), tbl t.2.2.2.2.1.length (pLast t A), ()) := by
 have hl := h.let1; have hn := h.n1; have hsl := h.sl; have hll := h.ll
 have hAl := hA.l
 intro m
 induction m with
 | zero =>
  intro q q0 hq
  rw [trans_pushed_L18_eq]; unfold trans_pushed_L18_B
  rw [if_neg (by simp only [decide_eq_true_eq]; omega), List.take_of_length_le (by omega), show q.toNat = t.2.2.2.2.1.length by omega]
 | succ m ih =>
  intro q q0 hq
  have hrow := h.tab.rowlen q0 (show q < t.2.2.2.2.1.length by omega)
  have hp := (hA.pre q0 (show q < A.length by omega)).1
  have m1 : ix t.2.2.2.2.2.2.1 q ∈ tW t := List.mem_append_left _ (List.mem_append_right _ (ix_mem q0 (by omega)))
  have hsh := h.short _ m1
  have ec : cut (ix t.2.2.2.2.2.2.1 q) ((ix A q).length : Int) ((ix t.2.2.2.2.2.2.1 q).length : Int) = pLast t A q := by
   unfold cut pLast
   rw [Int.toNat_natCast, Int.toNat_natCast, List.take_length]
  have hpl : (pLast t A q).length ≤ 80 := by unfold pLast; rw [List.length_drop]; omega
  have hk1 : (q + 1).toNat = q.toNat + 1 := by omega
  have hkk : ((q.toNat : Nat) : Int) = q := by omega
  rw [trans_pushed_L18_eq]; unfold trans_pushed_L18_B
  rw [if_pos (decide_eq_true (by omega)), G_pos (by omega)]
  refine bind_to (slices_Clone_1_spec (by omega)) ?_
  rw [G_pos (by unfold room; simp; omega), G_pos (by omega), G_pos (by omega), G_pos (by omega), G_pos (by omega), ec]
  refine bind_to (slices_Clone_1_spec (by omega)) ?_
  rw [G_pos (by unfold room; rw [tbl_len]; simp; omega)]
  have := pushed_L24 h hA q0 (show q < t.2.2.2.2.1.length by omega) (fun a a0 a1 => hS q a q0 (by omega) a0 a1) (o4 := o4) (o5 := o5) (o6 := o6) (o7 := o7) (o8 := t.2.2.2.2.1.take q.toNat) (o9 := tbl q.toNat (fun q => tbl t.1.toNat (pSay t A q))) (o10 := tbl q.toNat (pLast t A)) (r18 := trans_pushed_L18 t A) (y4 := ix t.2.2.2.2.1 q) (y5 := pLast t A q) (by rw [tbl_len]; omega) t.1.toNat 0 (by omega) (by omega)
  refine this.trans ?_
  have := ih (q + 1) (by omega) (by omega)
  rw [ix_take q0 (by omega), hk1, tbl_succ, tbl_succ, hkk] at this
  exact this
theorem Pushed_L27 (h : BOk t) {A : List (List Int)} (hA : AhOk t A) {q : Int} (q0 : 0 ≤ q) (q1 : q < t.2.2.2.2.1.length) (hS : ∀ a : Int, 0 ≤ a → a < t.1 → Stb t A q a) {o o1 o2 : Int} {o3 : List (List Int)} {l : List Int} {o4 : List (List (List Int))} {o5 : List (List Int)} (ho : o4.length ≤ 100) (ho' : o5.length ≤ 100) {r23} :
  ∀ (m : Nat) (k : Int), 0 ≤ k → k + m = t.1 → r16_Pushed_L27 t A q o o1 o2 o3 l o4 o5 r23 k (tbl k.toNat (pSay t A q)) = r23 (q + 1) o o1 o2 o3 l (o4 ++ [tbl t.1.toNat (pSay t A q)]) (o5 ++ [pLast t A q]) := by
 have hl := h.let1; have hn := h.n1; have hsl := h.sl; have hll := h.ll
 have hrow := h.tab.rowlen q0 q1
 have hsr := h.srow q q0 q1
 have hAl := hA.l
 have hp := (hA.pre q0 (show q < A.length by omega)).1
 have ec : cut (ix t.2.2.2.2.2.2.1 q) ((ix A q).length : Int) ((ix t.2.2.2.2.2.2.1 q).length : Int) = pLast t A q := by
  unfold cut pLast
  rw [Int.toNat_natCast, Int.toNat_natCast, List.take_length]
 intro m
 induction m with
 | zero =>
  intro k k0 hk
  rw [r16_Pushed_L27_eq]; unfold r16_Pushed_L27_B
  rw [if_neg (by simp only [decide_eq_true_eq]; omega), G_pos (by unfold room; simp; omega), G_pos (by omega), G_pos (by omega), G_pos (by omega), G_pos (by omega), G_pos (by unfold room; simp; omega), G_pos (by unfold fits; omega), ec, show k = t.1 by omega]
 | succ m ih =>
  intro k k0 hk
  have hto := h.tab.stpb q0 q1 k0 (show k < t.1 by omega)
  have hs8 := says_len h q0 q1 k0 (show k < t.1 by omega)
  have ha8 := hA.s q q0 (by omega)
  have hb8 := hA.s _ hto.1 (by omega)
  have hle := (hS k k0 (by omega)).le
  have e0 : ix (ix t.2.2.2.2.1 q) k = stp t.2.2.2.2.1 q k := rfl
  have hd : ((ix (ix t.2.2.2.2.2.1 q) k ++ ix A (stp t.2.2.2.2.1 q k)).drop (ix A q).length).take ((ix (ix t.2.2.2.2.2.1 q) k ++ ix A (stp t.2.2.2.2.1 q k)).length - (ix A q).length) = pSay t A q k := by
   rw [List.take_of_length_le (by rw [List.length_drop]; omega)]; rfl
  have hk1 : (k + 1).toNat = k.toNat + 1 := by omega
  have hkk : ((k.toNat : Nat) : Int) = k := by omega
  rw [r16_Pushed_L27_eq]; unfold r16_Pushed_L27_B
  rw [e0, List.nil_append, if_pos (decide_eq_true (by omega)), G_pos (by omega), G_pos (by omega), G_pos (by unfold room; simp; omega), G_pos (by omega), G_pos (by omega), G_pos (by omega), G_pos (by omega), G_pos (by unfold room; omega), G_pos (by omega), G_pos (by omega)]
  rw [Int.toNat_natCast, hd, G_pos (by omega), G_pos (by unfold room; rw [tbl_len]; simp; omega), G_pos (by unfold fits; omega)]
  have := ih (k + 1) (by omega) (by omega)
  rw [hk1, tbl_succ, hkk] at this
  exact this
theorem Pushed_L23 (h : BOk t) {A : List (List Int)} (hA : AhOk t A) (hS : ∀ q a : Int, 0 ≤ q → q < t.2.2.2.2.1.length → 0 ≤ a → a < t.1 → Stb t A q a) {o o1 o2 : Int} {o3 : List (List Int)} {l : List Int} :
  ∀ (m : Nat) (q : Int), 0 ≤ q → q + m = t.2.2.2.2.1.length → r16_Pushed_L23 t A q o o1 o2 o3 l (tbl q.toNat (fun q => tbl t.1.toNat (pSay t A q))) (tbl q.toNat (pLast t A)) =
   some (o, o1, o2, l, o3, tbl t.2.2.2.2.1.length (fun q => tbl t.1.toNat (pSay t A q)), tbl t.2.2.2.2.1.length (pLast t A), ()) := by
 have hn := h.n1; have hl := h.let1
 intro m
 induction m with
 | zero =>
  intro q q0 hq
  rw [r16_Pushed_L23_eq]; unfold r16_Pushed_L23_B
  rw [if_neg (by simp only [decide_eq_true_eq]; omega), show q.toNat = t.2.2.2.2.1.length by omega]
 | succ m ih =>
  intro q q0 hq
  have hk1 : (q + 1).toNat = q.toNat + 1 := by omega
  have hkk : ((q.toNat : Nat) : Int) = q := by omega
  rw [r16_Pushed_L23_eq]; unfold r16_Pushed_L23_B
  rw [if_pos (decide_eq_true (by omega))]
  have := Pushed_L27 h hA q0 (show q < t.2.2.2.2.1.length by omega) (fun a a0 a1 => hS q a q0 (by omega) a0 a1) (o := o) (o1 := o1) (o2 := o2) (o3 := o3) (l := l) (o4 := tbl q.toNat (fun q => tbl t.1.toNat (pSay t A q))) (o5 := tbl q.toNat (pLast t A)) (r23 := r16_Pushed_L23 t A) (by rw [tbl_len]; omega) (by rw [tbl_len]; omega) t.1.toNat 0 (by omega) (by omega)
  refine this.trans ?_
  have := ih (q + 1) (by omega) (by omega)
  rw [hk1, tbl_succ, tbl_succ, hkk] at this
  exact this
theorem slices_Clone_spec {s : List (List Int)} (h : s.length * 24 ≤ 140737488355328) : slices_Clone s = some s := by
 unfold slices_Clone
 refine itep_to (fun e => ?_) (fun _ => ?_)
 ·have : s = [] := List.eq_nil_of_length_eq_zero e
  subst this
  (try dsimp only); (repeat' first | (with_reducible refine G_to ?_ ?_; focus (first | omega | (unfold fits; omega) | (unfold room; (try simp only [List.length_append, List.length_cons, List.length_nil]); omega))) | (with_reducible refine both_to ?_ ?_) | (with_reducible refine itet_to ?_) | (with_reducible refine itef_to ?_) | (with_reducible refine ite_to (fun _ => ?_) (fun _ => ?_))) <;> try (exfalso; omega)
  all_goals rfl
 ·refine G_to (by unfold room; simp; omega) ?_
  rfl
theorem push_both (h : BOk t) : ∃ A, AhOk t A ∧ (∀ q a : Int, 0 ≤ q → q < t.2.2.2.2.1.length → 0 ≤ a → a < t.1 → Stb t A q a) ∧ trans_pushed t = some (pT t A) ∧ r16_Pushed t = some (pT t A) := by
 have hn := h.n1; have hl := h.let1; have hll := h.ll; have hst := h.st
 have h0 : AhOk t t.2.2.2.2.2.2.1 := ⟨hll, fun i i0 i1 => h.short _ (List.mem_append_left _ (List.mem_append_right _ (ix_mem i0 i1))), fun i i0 i1 => ⟨_, (List.take_length ..).symm⟩⟩
 obtain ⟨A, e1, e2, hA, hS⟩ := push_all h _ _ rfl h0
 refine ⟨A, hA, hS, ?_, ?_⟩
 ·unfold trans_pushed
  refine bind_to (slices_Clone_spec (by omega)) ?_
  rw [e1, trans_pushed_L3_eq]; unfold trans_pushed_L3_B
  have hAl := hA.l
  have hF := h.short _ (F_mem (t := t))
  have h8 := hA.s t.2.2.1 hst.1 (by omega)
  rw [if_neg (by simp), G_pos (by omega), G_pos (by omega)]
  have hc := slices_Concat_spec (ls := [t.2.2.2.1, ix A t.2.2.1]) (by simp) (by simp; omega)
  have hfl : [t.2.2.2.1, ix A t.2.2.1].flatten = t.2.2.2.1 ++ ix A t.2.2.1 := by simp
  rw [hfl] at hc
  have := pushed_L18 h hA hS (o4 := t.1) (o5 := t.2.1) (o6 := t.2.2.1) (o7 := t.2.2.2.1 ++ ix A t.2.2.1) t.2.2.2.2.1.length 0 (by omega) (by omega)
  refine both_to (both_to (bind_to hc ?_) (bind_to hc ?_)) (bind_to hc ?_) <;> exact this
 ·unfold r16_Pushed
  rw [G_pos (by unfold mkOK; omega)]
  have e : t.2.2.2.2.2.2.1.take (List.replicate ((t.2.2.2.2.1.length : Int)).toNat ([] : List Int)).length ++ (List.replicate ((t.2.2.2.2.1.length : Int)).toNat ([] : List Int)).drop t.2.2.2.2.2.2.1.length = t.2.2.2.2.2.2.1 := by
   rw [List.drop_of_length_le (by simp; omega), List.append_nil, List.take_of_length_le (by simp; omega)]
  rw [e, e2, r16_Pushed_L5_eq]; unfold r16_Pushed_L5_B
  have hAl := hA.l
  have hF := h.short _ (F_mem (t := t))
  have h8 := hA.s t.2.2.1 hst.1 (by omega)
  rw [if_neg (by simp), G_pos (by unfold room; simp; omega), G_pos (by omega), G_pos (by omega), G_pos (by unfold room; omega)]
  exact Pushed_L23 h hA hS t.2.2.2.2.1.length 0 (by omega) (by omega)
end

theorem pigeon {α : Type} [DecidableEq α] : ∀ {l U : List α}, l.Nodup → (∀ x ∈ l, x ∈ U) → l.length ≤ U.length
 | [], _, _, _ => Nat.zero_le _
 | a :: l, U, hn, hs => by
  have ha := hs a (by simp)
  obtain ⟨h1, h2⟩ := List.nodup_cons.1 hn
  have := pigeon (U := U.erase a) h2 (fun x hx => (List.mem_erase_of_ne (by rintro rfl; exact h1 hx)).2 (hs x (by simp [hx])))
  rw [List.length_erase_of_mem ha] at this
  have hp : 0 < U.length := List.length_pos_of_mem ha
  rw [List.length_cons]; omega
theorem pigeon_int {l : List Int} {n : Nat} (h : l.Nodup) (hb : ∀ x ∈ l, 0 ≤ x ∧ x < n) : l.length ≤ n := by
 have := pigeon (U := (List.range n).map Int.ofNat) h (fun x hx => by
  have := hb x hx
  exact List.mem_map.2 ⟨x.toNat, List.mem_range.2 (by omega), by show ((x.toNat : Nat) : Int) = x; omega⟩)
 simpa using this

theorem mfind_none {α : Type} : ∀ {ks : List α} {x : α}, mfind ks x = none ↔ x ∉ ks
 | [], x => by simp [mfind]
 | y :: ys, x => by
  unfold mfind
  by_cases h : y = x
  ·rw [if_pos h]; simp [h]
  ·rw [if_neg h, Option.map_eq_none_iff, mfind_none]
   simp [Ne.symm h]
/-- A map that only marks: all its elements are one. -/
abbrev ones {α : Type} (ks : List α) : List Int := List.replicate ks.length 1
theorem mget_ones {α : Type} {ks : List α} {x : α} : (mget ks (ones ks) x 0 = 0) ↔ x ∉ ks := by
 unfold mget
 cases h : mfind ks x with
 | none => simp [mfind_none.1 h]
 | some j =>
  have hx : x ∈ ks := by
   refine Classical.byContradiction fun hn => ?_
   rw [mfind_none.2 hn] at h; cases h
  have := mfind_lt h
  simp [hx, this]
theorem mputK_new {α : Type} {ks : List α} {x : α} (h : x ∉ ks) : mputK ks x = ks ++ [x] := by
 unfold mputK; rw [mfind_none.2 h]
theorem mputV_new {α : Type} {ks : List α} {x : α} (h : x ∉ ks) : mputV ks (ones ks) x 1 = ones (ks ++ [x]) := by
 unfold mputV; rw [mfind_none.2 h]
 show List.replicate ks.length 1 ++ [1] = List.replicate (ks ++ [x]).length 1
 rw [List.length_append, List.length_singleton, List.replicate_succ']

theorem mfind_mem {α : Type} {ks : List α} {x : α} (h : x ∈ ks) : ∃ j, mfind ks x = some j := by
 cases e : mfind ks x with
 | none => exact absurd h (mfind_none.1 e)
 | some j => exact ⟨j, rfl⟩
theorem mfind_hd {α : Type} (ks : List α) (x : α) : mfind (x :: ks) x = some 0 := by unfold mfind; rw [if_pos rfl]
theorem mfind_tl {α : Type} {ks : List α} {x y : α} (h : y ≠ x) : mfind (y :: ks) x = (mfind ks x).map (· + 1) := by
 rw [mfind, if_neg h]
theorem mfind_app {α : Type} : ∀ {ks : List α} {x : α} {j : Nat} (l : List α), mfind ks x = some j → mfind (ks ++ l) x = some j
 | [], _, _, _, h => by cases h
 | y :: ks, x, j, l, h => by
  rw [List.cons_append]
  by_cases e : y = x
  ·subst e; rw [mfind_hd] at h ⊢; exact h
  ·rw [mfind_tl e] at h ⊢
   cases hm : mfind ks x with
   | none => rw [hm] at h; cases h
   | some i => rw [hm] at h; rw [mfind_app l hm]; exact h
theorem mfind_new {α : Type} : ∀ {ks : List α} {x : α}, x ∉ ks → mfind (ks ++ [x]) x = some ks.length
 | [], x, _ => mfind_hd _ _
 | y :: ks, x, h => by
  have hy : y ≠ x := by rintro rfl; exact h (by simp)
  rw [List.cons_append, mfind_tl hy, mfind_new (fun hh => h (by simp [hh]))]; rfl
theorem mfind_at {α : Type} : ∀ {ks : List α} {x : α} {k : Nat}, ks[k]? = some x → (∀ j, j < k → ks[j]? ≠ some x) → mfind ks x = some k
 | [], _, _, h, _ => by simp at h
 | y :: ks, x, k, h, hf => by
  cases k with
  | zero =>
   have : y = x := by simpa using h
   subst this; exact mfind_hd _ _
  | succ k =>
   have hy : y ≠ x := by have := hf 0 (by omega); simpa using this
   rw [mfind_tl hy, mfind_at (k := k) (by simpa using h) (fun j hj => by have := hf (j + 1) (by omega); simpa using this)]; rfl
theorem mfind_inj {α : Type} {ks : List α} {x y : α} {j : Nat} (h : mfind ks x = some j) (k : mfind ks y = some j) : x = y := by
 have := mfind_get h; rw [mfind_get k] at this; injection this with this; exact this.symm
theorem mfind_nodup {α : Type} {ks : List α} (hn : ks.Nodup) {j : Nat} (hj : j < ks.length) : mfind ks ks[j] = some j :=
 mfind_at (by simp) fun i hi e => by
  have hi' : i < ks.length := by omega
  rw [List.getElem?_eq_getElem hi'] at e
  exact List.pairwise_iff_getElem.1 hn i j hi' hj hi (Option.some.inj e)
theorem mfind_map {α β : Type} (f : α → β) : ∀ {ks : List α} {x : α}, (∀ y ∈ ks, f y = f x → y = x) → mfind (ks.map f) (f x) = mfind ks x
 | [], _, _ => rfl
 | y :: ks, x, h => by
  have ih := mfind_map f (ks := ks) (x := x) (fun z hz => h z (by simp [hz]))
  rw [List.map_cons]
  by_cases e : y = x
  ·subst e; rw [mfind_hd, mfind_hd]
  ·rw [mfind_tl e, mfind_tl (fun hh => e (h y (by simp) hh)), ih]
/-- 0, 1, 2, .. -/
def iota (n : Nat) : List Int := (List.range n).map fun j : Nat => (j : Int)
theorem iota_len (n : Nat) : (iota n).length = n := by simp [iota]
theorem iota_succ (n : Nat) : iota (n + 1) = iota n ++ [(n : Int)] := by simp [iota, List.range_succ]
theorem mget_iota {α : Type} {ks : List α} {x : α} {j : Nat} (h : mfind ks x = some j) : mget ks (iota ks.length) x 0 = j := by
 have := mfind_lt h
 unfold mget; rw [h]
 simp [iota, this]
theorem mhas_iff {α : Type} {ks : List α} {x : α} : mhas ks x = true ↔ x ∈ ks := by
 unfold mhas
 cases e : mfind ks x with
 | none => simp [mfind_none.1 e]
 | some j =>
  have := mfind_get e
  simp [List.mem_of_getElem? this]
theorem mputV_iota {α : Type} {ks : List α} {x : α} (h : x ∉ ks) : mputV ks (iota ks.length) x ks.length = iota (ks ++ [x]).length := by
 unfold mputV; rw [mfind_none.2 h, List.length_append, List.length_singleton, iota_succ]
theorem cover_nodup {α : Type} [DecidableEq α] : ∀ {l U : List α}, U.Nodup → (∀ x ∈ U, x ∈ l) → l.length ≤ U.length → l.Nodup
 | [], _, _, _, _ => List.nodup_nil
 | a :: l, U, hU, hs, hl => by
  have ha : a ∉ l := fun ha => by
   have := pigeon (l := U) (U := l) hU (fun x hx => by
    rcases List.mem_cons.1 (hs x hx) with rfl | h
    ·exact ha
    ·exact h)
   rw [List.length_cons] at hl; omega
  refine List.nodup_cons.2 ⟨ha, ?_⟩
  refine cover_nodup (U := U.erase a) (hU.erase a) (fun x hx => ?_) ?_
  ·have hne : x ≠ a := ((List.Nodup.mem_erase_iff hU).1 hx).1
   rcases List.mem_cons.1 (hs x (List.mem_of_mem_erase hx)) with h | h
   ·exact absurd h hne
   ·exact h
  ·have : U.length - 1 ≤ (U.erase a).length := by
    by_cases h : a ∈ U
    ·rw [List.length_erase_of_mem h]; omega
    ·rw [List.erase_of_not_mem h]; omega
   rw [List.length_cons] at hl; omega

theorem Equal_spec {a b : List Int} (ha : a.length ≤ 1000) : slices_Equal a b = some (decide (a = b)) := by
 unfold slices_Equal
 by_cases hl : (a.length : Int) = b.length
 ·rw [if_neg (by simpa using hl)]
  refine scan_to (len := (a.length : Int)) (bad := fun t => ix a t ≠ ix b t) (lo := 0) (by omega) (fun t t0 t1 => ⟨fun hb => ?_, fun hb => ?_⟩) (fun hh => ?_)
  ·rw [slices_Equal_L4_eq]; unfold slices_Equal_L4_B
   rw [if_pos (by simp; omega)]
   refine G_to (by omega) (G_to (by omega) ?_)
   rw [if_pos (by simpa using hb), decide_eq_false (fun e => hb (by rw [e]))]
  ·conv => lhs; rw [slices_Equal_L4_eq]; unfold slices_Equal_L4_B
   rw [if_pos (by simp; omega)]
   refine G_to (by omega) (G_to (by omega) ?_)
   rw [if_neg (by simpa using hb)]
   exact G_to (by unfold fits; omega) rfl
  ·rw [slices_Equal_L4_eq]; unfold slices_Equal_L4_B
   rw [if_neg (by simp), decide_eq_true (ix_ext (by omega) fun t t0 t1 => Decidable.not_not.1 (hh t t0 t1))]
 ·rw [if_pos (by simpa using hl), decide_eq_false (fun e => hl (by rw [e]))]

section
variable {σ : Type} (sg : Nat → σ)
/-- The signs that are met, each once; the places where each is met first. -/
noncomputable def ksG : Nat → List σ
 | 0 => []
 | t + 1 => open Classical in if sg t ∈ ksG t then ksG t else ksG t ++ [sg t]
noncomputable def fsG : Nat → List Int
 | 0 => []
 | t + 1 => open Classical in if sg t ∈ ksG sg t then fsG t else fsG t ++ [(t : Int)]
noncomputable def idxG (q : Nat) : Nat := (mfind (ksG sg (q + 1)) (sg q)).getD 0
theorem ksG_in {t : Nat} (h : sg t ∈ ksG sg t) : ksG sg (t + 1) = ksG sg t ∧ fsG sg (t + 1) = fsG sg t := by
 constructor
 ·rw [ksG, if_pos h]
 ·rw [fsG, if_pos h]
theorem ksG_out {t : Nat} (h : sg t ∉ ksG sg t) : ksG sg (t + 1) = ksG sg t ++ [sg t] ∧ fsG sg (t + 1) = fsG sg t ++ [(t : Int)] := by
 constructor
 ·rw [ksG, if_neg h]
 ·rw [fsG, if_neg h]
theorem ksG_pre (t : Nat) : ∃ x, ksG sg (t + 1) = ksG sg t ++ x := by
 by_cases h : sg t ∈ ksG sg t
 ·exact ⟨[], by rw [(ksG_in sg h).1, List.append_nil]⟩
 ·exact ⟨_, (ksG_out sg h).1⟩
theorem fsG_map : ∀ t, (fsG sg t).map (fun p => sg p.toNat) = ksG sg t
 | 0 => rfl
 | t + 1 => by
  have ih := fsG_map t
  by_cases h : sg t ∈ ksG sg t
  ·rw [(ksG_in sg h).1, (ksG_in sg h).2, ih]
  ·rw [(ksG_out sg h).1, (ksG_out sg h).2, List.map_append, ih]; simp
theorem fsG_len (t : Nat) : (fsG sg t).length = (ksG sg t).length := by rw [← fsG_map, List.length_map]
theorem fsG_b : ∀ t, ∀ p ∈ fsG sg t, 0 ≤ p ∧ p < (t : Int)
 | 0, p, h => by cases h
 | t + 1, p, hp => by
  have ih := fsG_b t p
  by_cases h : sg t ∈ ksG sg t
  ·rw [(ksG_in sg h).2] at hp
   have := ih hp; omega
  ·rw [(ksG_out sg h).2] at hp
   rcases List.mem_append.1 hp with hp | hp
   ·have := ih hp; omega
   ·rw [List.mem_singleton.1 hp]; omega
theorem ksG_mem : ∀ t q : Nat, q < t → sg q ∈ ksG sg t
 | t + 1, q, h => by
  by_cases e : q = t
  ·subst e
   by_cases h : sg q ∈ ksG sg q
   ·rw [(ksG_in sg h).1]; exact h
   ·rw [(ksG_out sg h).1]; simp
  ·have := ksG_mem t q (by omega)
   obtain ⟨x, hx⟩ := ksG_pre sg t
   rw [hx]; simp [this]
theorem ksG_of : ∀ (t : Nat), ∀ k ∈ ksG sg t, ∃ q : Nat, q < t ∧ k = sg q
 | 0, k, h => by cases h
 | t + 1, k, h => by
  by_cases e : sg t ∈ ksG sg t
  ·rw [(ksG_in sg e).1] at h
   obtain ⟨q, h1, h2⟩ := ksG_of t k h
   exact ⟨q, by omega, h2⟩
  ·rw [(ksG_out sg e).1] at h
   rcases List.mem_append.1 h with h | h
   ·obtain ⟨q, h1, h2⟩ := ksG_of t k h
    exact ⟨q, by omega, h2⟩
   ·exact ⟨t, by omega, List.mem_singleton.1 h⟩
theorem ksG_nodup : ∀ t, (ksG sg t).Nodup
 | 0 => List.nodup_nil
 | t + 1 => by
  by_cases h : sg t ∈ ksG sg t
  ·rw [(ksG_in sg h).1]; exact ksG_nodup t
  ·rw [(ksG_out sg h).1, List.nodup_append]
   exact ⟨ksG_nodup t, by simp, fun a ha b hb => by rw [List.mem_singleton.1 hb]; rintro rfl; exact h ha⟩
theorem ksG_le : ∀ t, (ksG sg t).length ≤ t
 | 0 => Nat.le_refl _
 | t + 1 => by
  have := ksG_le t
  by_cases h : sg t ∈ ksG sg t
  ·rw [(ksG_in sg h).1]; omega
  ·rw [(ksG_out sg h).1, List.length_append, List.length_singleton]; omega
theorem idxG_at (q : Nat) : ∀ t, q < t → mfind (ksG sg t) (sg q) = some (idxG sg q)
 | t + 1, h => by
  by_cases e : q = t
  ·subst e
   obtain ⟨j, hj⟩ := mfind_mem (ksG_mem sg (q + 1) q (by omega))
   unfold idxG; rw [hj]; rfl
  ·obtain ⟨x, hx⟩ := ksG_pre sg t
   rw [hx]; exact mfind_app x (idxG_at q t (by omega))
theorem idxG_iff {q r : Nat} : idxG sg q = idxG sg r ↔ sg q = sg r := by
 have h1 := idxG_at sg q (max q r + 1) (by omega)
 have h2 := idxG_at sg r (max q r + 1) (by omega)
 constructor
 ·intro e; rw [← e] at h2; exact mfind_inj h1 h2
 ·intro e; rw [e, h2] at h1; exact (Option.some.inj h1).symm
theorem idxG_lt {q t : Nat} (h : q < t) : idxG sg q < (ksG sg t).length := mfind_lt (idxG_at sg q t h)
theorem idxG_sur {t j : Nat} (h : j < (ksG sg t).length) : ∃ q, q < t ∧ idxG sg q = j := by
 obtain ⟨q, hq, e⟩ := ksG_of sg t _ (List.getElem_mem h)
 refine ⟨q, hq, ?_⟩
 have h1 := idxG_at sg q t hq
 rw [← e, mfind_nodup (ksG_nodup sg t) h] at h1
 exact (Option.some.inj h1).symm
/-- A sign that is met again. -/
theorem idxG_in {q : Nat} (h : sg q ∈ ksG sg q) : mfind (ksG sg q) (sg q) = some (idxG sg q) := by
 unfold idxG
 rw [(ksG_in sg h).1]
 obtain ⟨j, hj⟩ := mfind_mem h
 rw [hj]; rfl
theorem idxG_out {q : Nat} (h : sg q ∉ ksG sg q) : idxG sg q = (ksG sg q).length := by
 unfold idxG
 rw [(ksG_out sg h).1, mfind_new h]; rfl
end

/-- What is pushed is of this kind. -/
structure UOk (u : Tr) : Prop where
 let1 : 1 ≤ u.1 ∧ u.1 ≤ 4
 n1 : 1 ≤ u.2.2.2.2.1.length ∧ u.2.2.2.2.1.length ≤ 36
 sl : u.2.2.2.2.2.1.length = u.2.2.2.2.1.length
 ll : u.2.2.2.2.2.2.1.length = u.2.2.2.2.1.length
 st : 0 ≤ u.2.2.1 ∧ u.2.2.1 < u.2.2.2.2.1.length
 srow : ∀ i : Int, 0 ≤ i → i < u.2.2.2.2.1.length → ((ix u.2.2.2.2.2.1 i).length : Int) = u.1
 tab : Tab u.1 u.2.2.2.2.1
 says : ∀ q a : Int, 0 ≤ q → q < u.2.2.2.2.1.length → 0 ≤ a → a < u.1 → (ix (ix u.2.2.2.2.2.1 q) a).length ≤ 200
 lasts : ∀ q : Int, 0 ≤ q → q < u.2.2.2.2.1.length → (ix u.2.2.2.2.2.2.1 q).length ≤ 200
 fst : u.2.2.2.1.length ≤ 200
theorem pT_ok {t : Tr} (h : BOk t) {A : List (List Int)} (hA : AhOk t A) : UOk (pT t A) := by
 have hn := h.n1; have hl := h.let1; have hll := h.ll; have hst := h.st; have hAl := hA.l
 have hF := h.short _ (F_mem (t := t))
 have h8 := hA.s t.2.2.1 hst.1 (by omega)
 refine ⟨hl, hn, (tbl_len _ _ : (tbl t.2.2.2.2.1.length (fun q => tbl t.1.toNat (pSay t A q))).length = _), (tbl_len _ _ : (tbl t.2.2.2.2.1.length (pLast t A)).length = _), hst, fun i i0 i1 => ?_, h.tab, fun q a q0 q1 a0 a1 => ?_, fun q q0 q1 => ?_, ?_⟩
 ·show (((ix (tbl t.2.2.2.2.1.length (fun q => tbl t.1.toNat (pSay t A q))) i).length : Int)) = t.1
  rw [tbl_ix (n := t.2.2.2.2.1.length) i0 i1, tbl_len]; omega
 ·show (ix (ix (tbl t.2.2.2.2.1.length (fun q => tbl t.1.toNat (pSay t A q))) q) a).length ≤ 200
  rw [tbl_ix (n := t.2.2.2.2.1.length) q0 q1, tbl_ix a0 (show a < (t.1.toNat : Int) by have : a < t.1 := a1; omega)]
  have hto := h.tab.stpb q0 q1 a0 a1
  have hs8 := says_len h q0 q1 a0 a1
  have hb8 := hA.s _ hto.1 (by omega)
  unfold pSay
  rw [List.length_drop, List.length_append]; omega
 ·show (ix (tbl t.2.2.2.2.1.length (pLast t A)) q).length ≤ 200
  rw [tbl_ix (n := t.2.2.2.2.1.length) q0 q1]
  have m1 : ix t.2.2.2.2.2.2.1 q ∈ tW t := List.mem_append_left _ (List.mem_append_right _ (ix_mem q0 (by show q < _; rw [hll]; exact q1)))
  have hsh := h.short _ m1
  unfold pLast
  rw [List.length_drop]; omega
 ·show (t.2.2.2.1 ++ ix A t.2.2.1).length ≤ 200
  rw [List.length_append]; omega
section
variable {u : Tr}
abbrev Sg := Int × List Int × List (List Int) × List Int
def sgT (u : Tr) (c : List Int) (q : Nat) : Sg := (ix c q, ix u.2.2.2.2.2.2.1 q, ix u.2.2.2.2.2.1 q, (ix u.2.2.2.2.1 q).map (ix c))
/-- Alike so far. -/
def Alk (u : Tr) (c : List Int) (p q : Int) : Prop := ix c p = ix c q ∧ ix u.2.2.2.2.2.2.1 p = ix u.2.2.2.2.2.2.1 q ∧ ∀ a : Int, 0 ≤ a → a < u.1 → ix (ix u.2.2.2.2.2.1 p) a = ix (ix u.2.2.2.2.2.1 q) a ∧ ix c (ix (ix u.2.2.2.2.1 p) a) = ix c (ix (ix u.2.2.2.2.1 q) a)
theorem sgT_iff (h : UOk u) (c : List Int) {p q : Int} (p0 : 0 ≤ p) (p1 : p < u.2.2.2.2.1.length) (q0 : 0 ≤ q) (q1 : q < u.2.2.2.2.1.length) : sgT u c p.toNat = sgT u c q.toNat ↔ Alk u c p q := by
 have rp := h.tab.rowlen p0 p1
 have rq := h.tab.rowlen q0 q1
 have sp := h.srow p p0 p1
 have sq := h.srow q q0 q1
 have ep : ((p.toNat : Nat) : Int) = p := by omega
 have eq' : ((q.toNat : Nat) : Int) = q := by omega
 unfold sgT
 rw [ep, eq']
 constructor
 ·intro e
  injection e with e1 e2
  injection e2 with e2 e3
  injection e3 with e3 e4
  refine ⟨e1, e2, fun a a0 a1 => ⟨by rw [e3], ?_⟩⟩
  have : ix ((ix u.2.2.2.2.1 p).map (ix c)) a = ix ((ix u.2.2.2.2.1 q).map (ix c)) a := by rw [e4]
  rwa [ix_map _ a0 (by omega), ix_map _ a0 (by omega)] at this
 ·rintro ⟨e1, e2, e3⟩
  refine Prod.ext e1 (Prod.ext e2 (Prod.ext ?_ ?_))
  ·show ix u.2.2.2.2.2.1 p = ix u.2.2.2.2.2.1 q
   exact ix_ext (by omega) fun a a0 a1 => (e3 a a0 (by omega)).1
  ·show (ix u.2.2.2.2.1 p).map (ix c) = (ix u.2.2.2.2.1 q).map (ix c)
   refine ix_ext (by rw [List.length_map, List.length_map]; omega) fun a a0 a1 => ?_
   rw [List.length_map] at a1
   rw [ix_map _ a0 (by omega), ix_map _ a0 (by omega)]
   exact (e3 a a0 (by omega)).2
/-- Classes so far. -/
structure CSo (u : Tr) (c : List Int) : Prop where
 len : c.length = u.2.2.2.2.1.length
theorem alk_prog (h : UOk u) {c : List Int} (hc : CSo u c) {p q : Int} (p0 : 0 ≤ p) (p1 : p < u.2.2.2.2.1.length) (q0 : 0 ≤ q) (q1 : q < u.2.2.2.2.1.length) : Tells (trans_classes_1 p q c u) (Alk u c p q) := by
 have hl := h.let1; have hll := h.ll; have hsl := h.sl; have hcl := hc.len
 have rp := h.tab.rowlen p0 p1
 have rq := h.tab.rowlen q0 q1
 have sp := h.srow p p0 p1
 have sq := h.srow q q0 q1
 have key : ∀ (m : Nat) (k : Int), 0 ≤ k → k + m = u.1 → Tells (trans_classes_1_L4 p q c u k) (∀ a : Int, k ≤ a → a < u.1 → ix (ix u.2.2.2.2.2.1 p) a = ix (ix u.2.2.2.2.2.1 q) a ∧ ix c (ix (ix u.2.2.2.2.1 p) a) = ix c (ix (ix u.2.2.2.2.1 q) a)) := by
  intro m
  induction m with
  | zero =>
   intro k k0 hk
   rw [trans_classes_1_L4_eq]; unfold trans_classes_1_L4_B
   rw [if_neg (by simp only [decide_eq_true_eq]; omega)]
   exact Tells.of ⟨fun _ a h1 h2 => by omega, fun _ => rfl⟩
  | succ m ih =>
   intro k k0 hk
   have tp := h.tab.stpb p0 p1 k0 (show k < u.1 by omega)
   have tq := h.tab.stpb q0 q1 k0 (show k < u.1 by omega)
   unfold stp at tp tq
   rw [trans_classes_1_L4_eq]; unfold trans_classes_1_L4_B
   rw [if_pos (decide_eq_true (by omega)), G_pos (by omega), G_pos (by omega), G_pos (by omega), G_pos (by omega), G_pos (by omega), G_pos (by omega)]
   by_cases e : ix c (ix (ix u.2.2.2.2.1 p) k) = ix c (ix (ix u.2.2.2.2.1 q) k)
   ·rw [if_neg (by simp [e]), G_pos (by omega), G_pos (by omega), G_pos (by omega), G_pos (by omega), Equal_spec (by have := h.says p k p0 p1 k0 (by omega); omega)]
    dsimp only [Option.bind]
    by_cases e2 : ix (ix u.2.2.2.2.2.1 p) k = ix (ix u.2.2.2.2.2.1 q) k
    ·rw [if_neg (by simp [e2]), G_pos (by unfold fits; omega)]
     refine (ih (k + 1) (by omega) (by omega)).iff ⟨fun hh a a0 a1 => ?_, fun hh a a0 a1 => hh a (by omega) a1⟩
     by_cases ea : a = k
     ·rw [ea]; exact ⟨e2, e⟩
     ·exact hh a (by omega) a1
    ·rw [if_pos (by simp [e2])]
     exact Tells.of ⟨fun hh => (by cases hh), fun hh => absurd (hh k (by omega) (by omega)).1 e2⟩
   ·rw [if_pos (by simp [e])]
    exact Tells.of ⟨fun hh => (by cases hh), fun hh => absurd (hh k (by omega) (by omega)).2 e⟩
 unfold trans_classes_1
 rw [G_pos (by omega), G_pos (by omega)]
 by_cases e : ix c p = ix c q
 ·rw [if_neg (by simp [e]), G_pos (by omega), G_pos (by omega), Equal_spec (by have := h.lasts p p0 p1; omega)]
  dsimp only [Option.bind]
  by_cases e2 : ix u.2.2.2.2.2.2.1 p = ix u.2.2.2.2.2.2.1 q
  ·rw [if_neg (by simp [e2])]
   exact (key u.1.toNat 0 (by omega) (by omega)).iff ⟨fun hh => ⟨e, e2, hh⟩, fun hh => hh.2.2⟩
  ·rw [if_pos (by simp [e2])]
   exact Tells.of ⟨fun hh => (by cases hh), fun hh => absurd hh.2.1 e2⟩
 ·rw [if_pos (by simp [e])]
  exact Tells.of ⟨fun hh => (by cases hh), fun hh => absurd hh.1 e⟩
theorem alk_ref (h : UOk u) {c : List Int} (hc : CSo u c) {p q : Int} (p0 : 0 ≤ p) (p1 : p < u.2.2.2.2.1.length) (q0 : 0 ≤ q) (q1 : q < u.2.2.2.2.1.length) : Tells (r16_alike u c p q) (Alk u c p q) := by
 have hl := h.let1; have hll := h.ll; have hsl := h.sl; have hcl := hc.len
 have rp := h.tab.rowlen p0 p1
 have rq := h.tab.rowlen q0 q1
 have sp := h.srow p p0 p1
 have sq := h.srow q q0 q1
 have key : ∀ (m : Nat) (k : Int), 0 ≤ k → k + m = u.1 → Tells (r16_alike_L5 u c p q k) (∀ a : Int, k ≤ a → a < u.1 → ix (ix u.2.2.2.2.2.1 p) a = ix (ix u.2.2.2.2.2.1 q) a ∧ ix c (ix (ix u.2.2.2.2.1 p) a) = ix c (ix (ix u.2.2.2.2.1 q) a)) := by
  intro m
  induction m with
  | zero =>
   intro k k0 hk
   rw [r16_alike_L5_eq]; unfold r16_alike_L5_B
   rw [if_neg (by simp only [decide_eq_true_eq]; omega)]
   exact Tells.of ⟨fun _ a h1 h2 => by omega, fun _ => rfl⟩
  | succ m ih =>
   intro k k0 hk
   have tp := h.tab.stpb p0 p1 k0 (show k < u.1 by omega)
   have tq := h.tab.stpb q0 q1 k0 (show k < u.1 by omega)
   unfold stp at tp tq
   rw [r16_alike_L5_eq]; unfold r16_alike_L5_B
   rw [if_pos (decide_eq_true (by omega)), G_pos (by omega), G_pos (by omega), G_pos (by omega), G_pos (by omega), r1_Words_spec (by have := h.says p k p0 p1 k0 (by omega); omega)]
   dsimp only [Option.bind]
   by_cases e2 : ix (ix u.2.2.2.2.2.1 p) k = ix (ix u.2.2.2.2.2.1 q) k
   ·rw [if_neg (by simp [e2]), G_pos (by omega), G_pos (by omega), G_pos (by omega), G_pos (by omega), G_pos (by omega), G_pos (by omega)]
    by_cases e : ix c (ix (ix u.2.2.2.2.1 p) k) = ix c (ix (ix u.2.2.2.2.1 q) k)
    ·rw [if_neg (by simp [e]), G_pos (by unfold fits; omega)]
     refine (ih (k + 1) (by omega) (by omega)).iff ⟨fun hh a a0 a1 => ?_, fun hh a a0 a1 => hh a (by omega) a1⟩
     by_cases ea : a = k
     ·rw [ea]; exact ⟨e2, e⟩
     ·exact hh a (by omega) a1
    ·rw [if_pos (by simp [e])]
     exact Tells.of ⟨fun hh => (by cases hh), fun hh => absurd (hh k (by omega) (by omega)).2 e⟩
   ·rw [if_pos (by simp [e2])]
    exact Tells.of ⟨fun hh => (by cases hh), fun hh => absurd (hh k (by omega) (by omega)).1 e2⟩
 unfold r16_alike
 rw [G_pos (by omega), G_pos (by omega), r1_Words_spec (by have := h.lasts p p0 p1; omega)]
 dsimp only [Option.bind]
 rw [G_pos (by omega), G_pos (by omega)]
 by_cases e : ix c p = ix c q
 ·rw [if_neg (by simp [e])]
  by_cases e2 : ix u.2.2.2.2.2.2.1 p = ix u.2.2.2.2.2.2.1 q
  ·rw [if_neg (by simp [e2])]
   exact (key u.1.toNat 0 (by omega) (by omega)).iff ⟨fun hh => ⟨e, e2, hh⟩, fun hh => hh.2.2⟩
  ·rw [if_pos (by simp [e2])]
   exact Tells.of ⟨fun hh => (by cases hh), fun hh => absurd hh.2.1 e2⟩
 ·rw [if_pos (by simp [e])]
  exact Tells.of ⟨fun hh => (by cases hh), fun hh => absurd hh.1 e⟩
/-- Which of the first ones is alike: what both look for. -/
theorem fs_find (h : UOk u) {c : List Int} {q : Nat} (q1 : q < u.2.2.2.2.1.length) {k : Nat} (hk : k < (fsG (sgT u c) q).length) : (0 ≤ ix (fsG (sgT u c) q) (k : Int) ∧ ix (fsG (sgT u c) q) (k : Int) < u.2.2.2.2.1.length) ∧ (Alk u c (ix (fsG (sgT u c) q) (k : Int)) (q : Int) ↔ (ksG (sgT u c) q)[k]? = some (sgT u c q)) := by
 have hm := fsG_b (sgT u c) q _ (ix_mem (l := fsG (sgT u c) q) (i := (k : Int)) (by omega) (by omega))
 refine ⟨by omega, ?_⟩
 rw [← sgT_iff h c hm.1 (by omega) (by omega) (by omega), ← fsG_map, List.getElem?_map, Int.toNat_natCast]
 rw [ix_eq (by omega) (by omega)]
 simp [hk]
theorem find_prog (h : UOk u) {c : List Int} (hc : CSo u c) {q : Nat} (q1 : q < u.2.2.2.2.1.length) :
  ∀ (m k : Nat), k + m = (fsG (sgT u c) q).length → (∀ j, j < k → (ksG (sgT u c) q)[j]? ≠ some (sgT u c q)) →
  slices_IndexFunc_6_L2 (fsG (sgT u c) q) k u q c = some ((match mfind (ksG (sgT u c) q) (sgT u c q) with
   | some j => (j : Int)
   | none => -1), fsG (sgT u c) q, u, (q : Int), c) := by
 have hle := ksG_le (sgT u c) q
 have hfl := fsG_len (sgT u c) q
 have hn := h.n1
 intro m
 induction m with
 | zero =>
  intro k hk hno
  rw [slices_IndexFunc_6_L2_eq]; unfold slices_IndexFunc_6_L2_B
  rw [if_neg (by simp only [decide_eq_true_eq]; omega)]
  have : mfind (ksG (sgT u c) q) (sgT u c q) = none := mfind_none.2 fun hm => by
   obtain ⟨j, hj, e⟩ := List.mem_iff_getElem.1 hm
   exact hno j (by omega) (by rw [List.getElem?_eq_getElem hj, e])
  rw [this]
 | succ m ih =>
  intro k hk hno
  obtain ⟨⟨b0, b1⟩, hi⟩ := fs_find h (c := c) q1 (show k < _ by omega)
  obtain ⟨b, eb, hb⟩ := alk_prog h hc b0 b1 (q := (q : Int)) (by omega) (by omega)
  rw [slices_IndexFunc_6_L2_eq]; unfold slices_IndexFunc_6_L2_B
  rw [if_pos (decide_eq_true (by omega)), G_pos (by omega), G_pos (by omega)]
  unfold trans_classes_2_1
  rw [eb]
  dsimp only [Option.bind]
  cases b with
  | true =>
   rw [if_pos rfl, mfind_at (hi.1 (hb.1 rfl)) hno]
  | false =>
   rw [if_neg (by simp), G_pos (by unfold fits; omega)]
   have hnk : (ksG (sgT u c) q)[k]? ≠ some (sgT u c q) := fun e => by have := hb.2 (hi.2 e); cases this
   have := ih (k + 1) (by omega) (fun j hj => by
    by_cases ej : j = k
    ·rw [ej]; exact hnk
    ·exact hno j (by omega))
   rw [show ((k : Int) + 1) = ((k + 1 : Nat) : Int) by omega]; exact this
theorem find_ref (h : UOk u) {c : List Int} (hc : CSo u c) {q : Nat} (q1 : q < u.2.2.2.2.1.length) {nx : List Int} {r8} :
  ∀ (m k : Nat), k + m = (fsG (sgT u c) q).length → (∀ j, j < k → (ksG (sgT u c) q)[j]? ≠ some (sgT u c q)) →
  r16_Least_L11 u c q nx (fsG (sgT u c) q) r8 k = r16_Least_J14 q nx (fsG (sgT u c) q) r8 (match mfind (ksG (sgT u c) q) (sgT u c q) with
   | some j => (j : Int)
   | none => (fsG (sgT u c) q).length) := by
 have hle := ksG_le (sgT u c) q
 have hfl := fsG_len (sgT u c) q
 have hn := h.n1
 intro m
 induction m with
 | zero =>
  intro k hk hno
  rw [r16_Least_L11_eq]; unfold r16_Least_L11_B
  rw [if_neg (by simp only [decide_eq_true_eq]; omega)]
  have : mfind (ksG (sgT u c) q) (sgT u c q) = none := mfind_none.2 fun hm => by
   obtain ⟨j, hj, e⟩ := List.mem_iff_getElem.1 hm
   exact hno j (by omega) (by rw [List.getElem?_eq_getElem hj, e])
  rw [this]
  dsimp only
  rw [show (k : Int) = ((fsG (sgT u c) q).length : Int) by omega]
 | succ m ih =>
  intro k hk hno
  obtain ⟨⟨b0, b1⟩, hi⟩ := fs_find h (c := c) q1 (show k < _ by omega)
  obtain ⟨b, eb, hb⟩ := alk_ref h hc b0 b1 (q := (q : Int)) (by omega) (by omega)
  rw [r16_Least_L11_eq]; unfold r16_Least_L11_B
  rw [if_pos (decide_eq_true (by omega)), G_pos (by omega), G_pos (by omega)]
  refine (bind_to (y := b) eb ?_)
  cases b with
  | true =>
   rw [if_pos rfl, mfind_at (hi.1 (hb.1 rfl)) hno]
  | false =>
   rw [if_neg (by simp), G_pos (by unfold fits; omega)]
   have hnk : (ksG (sgT u c) q)[k]? ≠ some (sgT u c q) := fun e => by have := hb.2 (hi.2 e); cases this
   have := ih (k + 1) (by omega) (fun j hj => by
    by_cases ej : j = k
    ·rw [ej]; exact hnk
    ·exact hno j (by omega))
   rw [show ((k : Int) + 1) = ((k + 1 : Nat) : Int) by omega]; exact this
noncomputable def rfT (u : Tr) (c : List Int) : List Int := tbl u.2.2.2.2.1.length fun q => (idxG (sgT u c) q.toNat : Int)
theorem cpass_prog (h : UOk u) {c : List Int} (hc : CSo u c) {count : Int} {r3} : ∀ (m q : Nat) (nx : List Int), q + m = u.2.2.2.2.1.length → nx.length = u.2.2.2.2.1.length → (∀ j : Int, 0 ≤ j → j < q → ix nx j = idxG (sgT u c) j.toNat) →
  trans_classes_L7 u count c r3 q nx u c (fsG (sgT u c) q) = if (((ksG (sgT u c) u.2.2.2.2.1.length).length : Int)) = count then some (rfT u c) else r3 u ((ksG (sgT u c) u.2.2.2.2.1.length).length : Int) (rfT u c) := by
 have hcl := hc.len
 have hn := h.n1
 intro m
 induction m with
 | zero =>
  intro q nx hq hl hnx
  have hfl := fsG_len (sgT u c) q
  have hqn : q = u.2.2.2.2.1.length := by omega
  have en : nx = rfT u c := tbl_of hl fun a a0 a1 => hnx a a0 (by omega)
  rw [trans_classes_L7_eq]; unfold trans_classes_L7_B
  rw [if_neg (by simp only [decide_eq_true_eq]; omega), hfl, hqn, en]
  by_cases e : ((ksG (sgT u c) u.2.2.2.2.1.length).length : Int) = count
  ·rw [if_pos (decide_eq_true e), if_pos e]
  ·rw [if_neg (by simp only [decide_eq_true_eq]; exact e), if_neg e]
 | succ m ih =>
  intro q nx hq hl hnx
  have hfl := fsG_len (sgT u c) q
  have hle := ksG_le (sgT u c) q
  have hf := find_prog h hc (q := q) (by omega) (fsG (sgT u c) q).length 0 (by omega) (fun j hj => by omega)
  rw [trans_classes_L7_eq]; unfold trans_classes_L7_B
  rw [if_pos (decide_eq_true (by omega))]
  unfold slices_IndexFunc_6
  refine bind_to hf ?_
  have fin : ∀ v : Int, v = idxG (sgT u c) q → trans_classes_J12 q nx (trans_classes_L7 u count c r3) u q c v (fsG (sgT u c) (q + 1)) = if (((ksG (sgT u c) u.2.2.2.2.1.length).length : Int)) = count then some (rfT u c) else r3 u ((ksG (sgT u c) u.2.2.2.2.1.length).length : Int) (rfT u c) := by
   intro v hv
   unfold trans_classes_J12
   rw [G_pos (by omega), G_pos (by omega), G_pos (by unfold fits; omega)]
   have := ih (q + 1) (nx.set q v) (by omega) (by rw [List.length_set]; exact hl) (fun j j0 j1 => by
    by_cases e : (q : Int) = j
    ·rw [← e]
     have := ix_set_same (l := nx) (i := (q : Int)) (x := v) (by omega) (by omega)
     rw [Int.toNat_natCast] at this ⊢
     rw [this, hv]
    ·have := ix_set_ne (l := nx) (i := (q : Int)) (j := j) (x := v) (by omega) j0 e
     rw [Int.toNat_natCast] at this
     rw [this]; exact hnx j j0 (by omega))
   rw [show ((q : Int) + 1) = ((q + 1 : Nat) : Int) by omega, Int.toNat_natCast]
   exact this
  by_cases e : sgT u c q ∈ ksG (sgT u c) q
  ·rw [idxG_in _ e]
   dsimp only
   rw [if_neg (by simp only [decide_eq_true_eq]; exact Int.not_lt.2 (Int.natCast_nonneg _))]
   rw [← (ksG_in _ e).2]
   exact fin _ rfl
  ·rw [mfind_none.2 e]
   dsimp only
   rw [if_pos (by simp), G_pos (by unfold room; simp; omega)]
   rw [← (ksG_out _ e).2]
   exact fin _ (by rw [idxG_out _ e, hfl])
theorem cpass_ref (h : UOk u) {c : List Int} (hc : CSo u c) {count : Int} {r5} : ∀ (m q : Nat) (nx : List Int), q + m = u.2.2.2.2.1.length → nx.length = u.2.2.2.2.1.length → (∀ j : Int, 0 ≤ j → j < q → ix nx j = idxG (sgT u c) j.toNat) →
  r16_Least_L8 u count c r5 q nx (fsG (sgT u c) q) = if (((ksG (sgT u c) u.2.2.2.2.1.length).length : Int)) = count then r16_Least_L23 u (rfT u c) 0 (List.replicate u.2.2.2.2.1.length 0) else r5 ((ksG (sgT u c) u.2.2.2.2.1.length).length : Int) (rfT u c) := by
 have hcl := hc.len
 have hn := h.n1
 intro m
 induction m with
 | zero =>
  intro q nx hq hl hnx
  have hfl := fsG_len (sgT u c) q
  have hqn : q = u.2.2.2.2.1.length := by omega
  have en : nx = rfT u c := tbl_of hl fun a a0 a1 => hnx a a0 (by omega)
  rw [r16_Least_L8_eq]; unfold r16_Least_L8_B
  rw [if_neg (by simp only [decide_eq_true_eq]; omega), hfl, hqn, en]
  by_cases e : ((ksG (sgT u c) u.2.2.2.2.1.length).length : Int) = count
  ·rw [if_pos (decide_eq_true e), if_pos e, G_pos (by unfold mkOK; omega), Int.toNat_natCast]
  ·rw [if_neg (by simp only [decide_eq_true_eq]; exact e), if_neg e]
 | succ m ih =>
  intro q nx hq hl hnx
  have hfl := fsG_len (sgT u c) q
  have hle := ksG_le (sgT u c) q
  have hf := find_ref h hc (q := q) (by omega) (nx := nx) (r8 := r16_Least_L8 u count c r5) (fsG (sgT u c) q).length 0 (by omega) (fun j hj => by omega)
  rw [r16_Least_L8_eq]; unfold r16_Least_L8_B
  rw [if_pos (decide_eq_true (by omega))]
  refine hf.trans ?_
  have fin : ∀ v : Int, v = idxG (sgT u c) q → r16_Least_J16 q nx (r16_Least_L8 u count c r5) v (fsG (sgT u c) (q + 1)) = if (((ksG (sgT u c) u.2.2.2.2.1.length).length : Int)) = count then r16_Least_L23 u (rfT u c) 0 (List.replicate u.2.2.2.2.1.length 0) else r5 ((ksG (sgT u c) u.2.2.2.2.1.length).length : Int) (rfT u c) := by
   intro v hv
   unfold r16_Least_J16
   rw [G_pos (by omega), G_pos (by omega), G_pos (by unfold fits; omega)]
   have := ih (q + 1) (nx.set q v) (by omega) (by rw [List.length_set]; exact hl) (fun j j0 j1 => by
    by_cases e : (q : Int) = j
    ·rw [← e]
     have := ix_set_same (l := nx) (i := (q : Int)) (x := v) (by omega) (by omega)
     rw [Int.toNat_natCast] at this ⊢
     rw [this, hv]
    ·have := ix_set_ne (l := nx) (i := (q : Int)) (j := j) (x := v) (by omega) j0 e
     rw [Int.toNat_natCast] at this
     rw [this]; exact hnx j j0 (by omega))
   rw [show ((q : Int) + 1) = ((q + 1 : Nat) : Int) by omega, Int.toNat_natCast]
   exact this
  unfold r16_Least_J14
  by_cases e : sgT u c q ∈ ksG (sgT u c) q
  ·have hlt := mfind_lt (idxG_in _ e)
   rw [idxG_in _ e]
   dsimp only
   rw [if_neg (by simp only [decide_eq_true_eq]; omega)]
   rw [← (ksG_in _ e).2]
   exact fin _ rfl
  ·rw [mfind_none.2 e]
   dsimp only
   rw [if_pos (by simp), G_pos (by unfold room; simp; omega)]
   rw [← (ksG_out _ e).2]
   exact fin _ (by rw [idxG_out _ e, hfl])
/-- The classes in the end. -/
structure FinT (u : Tr) (C : List Int) (K : Nat) : Prop where
 len : C.length = u.2.2.2.2.1.length
 le : K ≤ u.2.2.2.2.1.length
 b : ∀ q : Int, 0 ≤ q → q < u.2.2.2.2.1.length → 0 ≤ ix C q ∧ ix C q < K
 alk : ∀ q r : Int, 0 ≤ q → q < u.2.2.2.2.1.length → 0 ≤ r → r < u.2.2.2.2.1.length → ix C q = ix C r → Alk u C q r
theorem rfT_same (h : UOk u) {c : List Int} {q r : Int} (q0 : 0 ≤ q) (q1 : q < u.2.2.2.2.1.length) (r0 : 0 ≤ r) (r1 : r < u.2.2.2.2.1.length) : ix (rfT u c) q = ix (rfT u c) r ↔ Alk u c q r := by
 unfold rfT
 rw [tbl_ix q0 q1, tbl_ix r0 r1, ← sgT_iff h c q0 q1 r0 r1]
 have := idxG_iff (sgT u c) (q := q.toNat) (r := r.toNat)
 exact ⟨fun e => this.1 (Int.ofNat.inj e), fun e => congrArg Int.ofNat (this.2 e)⟩
theorem iota_mem {n : Nat} {v : Int} : v ∈ iota n ↔ 0 ≤ v ∧ v < n := by
 unfold iota
 rw [List.mem_map]
 constructor
 ·rintro ⟨j, hj, rfl⟩; have := List.mem_range.1 hj; omega
 ·rintro ⟨h0, h1⟩; exact ⟨v.toNat, List.mem_range.2 (by omega), by omega⟩
theorem iota_nodup (n : Nat) : (iota n).Nodup := by
 unfold iota
 refine List.Pairwise.map _ (fun a b (h : a ≠ b) => by omega) (List.nodup_range (n := n))
theorem L3_pass (h : UOk u) {c : List Int} (hc : CSo u c) (k : Int) : trans_classes_L3 u k c = if ((ksG (sgT u c) u.2.2.2.2.1.length).length : Int) = k then some (rfT u c) else trans_classes_L3 u ((ksG (sgT u c) u.2.2.2.2.1.length).length : Int) (rfT u c) := by
 have hn := h.n1; have hcl := hc.len
 conv => lhs; rw [trans_classes_L3_eq]; unfold trans_classes_L3_B
 rw [G_pos (by unfold mkOK; omega)]
 exact cpass_prog h hc u.2.2.2.2.1.length 0 _ (by omega) (by simp; omega) (fun j j0 j1 => by omega)
theorem L5_pass (h : UOk u) {c : List Int} (hc : CSo u c) (k : Int) : r16_Least_L5 u k c = if ((ksG (sgT u c) u.2.2.2.2.1.length).length : Int) = k then r16_Least_L23 u (rfT u c) 0 (List.replicate u.2.2.2.2.1.length 0) else r16_Least_L5 u ((ksG (sgT u c) u.2.2.2.2.1.length).length : Int) (rfT u c) := by
 have hn := h.n1; have hcl := hc.len
 conv => lhs; rw [r16_Least_L5_eq]; unfold r16_Least_L5_B
 rw [G_pos (by unfold mkOK; omega)]
 exact cpass_ref h hc u.2.2.2.2.1.length 0 _ (by omega) (by simp) (fun j j0 j1 => by omega)
theorem rfT_len (c : List Int) : (rfT u c).length = u.2.2.2.2.1.length := tbl_len _ _
theorem cls_iter (h : UOk u) : ∀ (f k : Nat) (c : List Int), u.2.2.2.2.1.length - k = f → CSo u c → (∀ v : Int, 0 ≤ v → v < k → ∃ q : Int, 0 ≤ q ∧ q < u.2.2.2.2.1.length ∧ ix c q = v) →
  ∃ C K, FinT u C K ∧ trans_classes_L3 u (k : Int) c = some C ∧ r16_Least_L5 u (k : Int) c = r16_Least_L23 u C 0 (List.replicate u.2.2.2.2.1.length 0) := by
 have hn := h.n1
 intro f
 induction f using Nat.strongRecOn with
 | ind f ih =>
 intro k c hf hc hs
 have hcl := hc.len
 have hK := ksG_le (sgT u c) u.2.2.2.2.1.length
 have hcov : ∀ x ∈ iota k, x ∈ (ksG (sgT u c) u.2.2.2.2.1.length).map Prod.fst := fun x hx => by
  obtain ⟨x0, x1⟩ := iota_mem.1 hx
  obtain ⟨q, q0, q1, e⟩ := hs x x0 x1
  have := ksG_mem (sgT u c) u.2.2.2.2.1.length q.toNat (by omega)
  refine List.mem_map.2 ⟨_, this, ?_⟩
  show ix c ((q.toNat : Nat) : Int) = x
  rw [Int.toNat_of_nonneg q0, e]
 have hge : k ≤ (ksG (sgT u c) u.2.2.2.2.1.length).length := by
  have := pigeon (iota_nodup k) hcov
  rwa [iota_len, List.length_map] at this
 have b' : ∀ q : Int, 0 ≤ q → q < u.2.2.2.2.1.length → 0 ≤ ix (rfT u c) q ∧ ix (rfT u c) q < (ksG (sgT u c) u.2.2.2.2.1.length).length := fun q q0 q1 => by
  unfold rfT
  rw [tbl_ix q0 q1]
  have := idxG_lt (sgT u c) (q := q.toNat) (t := u.2.2.2.2.1.length) (by omega)
  omega
 have sur' : ∀ v : Int, 0 ≤ v → v < (ksG (sgT u c) u.2.2.2.2.1.length).length → ∃ q : Int, 0 ≤ q ∧ q < u.2.2.2.2.1.length ∧ ix (rfT u c) q = v := fun v v0 v1 => by
  obtain ⟨q, hq, e⟩ := idxG_sur (sgT u c) (t := u.2.2.2.2.1.length) (j := v.toNat) (by omega)
  refine ⟨q, by omega, by omega, ?_⟩
  unfold rfT
  rw [tbl_ix (by omega) (by omega), Int.toNat_natCast, e]; omega
 have eP := L3_pass h hc k
 have eR := L5_pass h hc k
 by_cases e : ((ksG (sgT u c) u.2.2.2.2.1.length).length : Int) = k
 ·rw [if_pos e] at eP eR
  refine ⟨rfT u c, _, ⟨rfT_len c, hK, b', fun q r q0 q1 r0 r1 he => ?_⟩, eP, eR⟩
  have hnd : ((ksG (sgT u c) u.2.2.2.2.1.length).map Prod.fst).Nodup := cover_nodup (iota_nodup k) hcov (by rw [List.length_map, iota_len]; omega)
  have tot : ∀ x y : Int, 0 ≤ x → x < u.2.2.2.2.1.length → 0 ≤ y → y < u.2.2.2.2.1.length → ix c x = ix c y → ix (rfT u c) x = ix (rfT u c) y := fun x y x0 x1 y0 y1 exy => by
   rw [rfT_same h x0 x1 y0 y1, ← sgT_iff h c x0 x1 y0 y1]
   have hx := ksG_mem (sgT u c) u.2.2.2.2.1.length x.toNat (by omega)
   have hy := ksG_mem (sgT u c) u.2.2.2.2.1.length y.toNat (by omega)
   obtain ⟨i, hi, ei⟩ := List.mem_iff_getElem.1 hx
   obtain ⟨j, hj, ej⟩ := List.mem_iff_getElem.1 hy
   have key : ∀ i j : Nat, (hi : i < (ksG (sgT u c) u.2.2.2.2.1.length).length) → (hj : j < (ksG (sgT u c) u.2.2.2.2.1.length).length) → i < j → (ksG (sgT u c) u.2.2.2.2.1.length)[i].1 ≠ (ksG (sgT u c) u.2.2.2.2.1.length)[j].1 := fun i j hi hj hlt hh => by
    have := List.pairwise_iff_getElem.1 hnd i j (by rw [List.length_map]; exact hi) (by rw [List.length_map]; exact hj) hlt
    rw [List.getElem_map, List.getElem_map] at this
    exact this hh
   have hfst : (ksG (sgT u c) u.2.2.2.2.1.length)[i].1 = (ksG (sgT u c) u.2.2.2.2.1.length)[j].1 := by
    rw [ei, ej]
    show ix c ((x.toNat : Nat) : Int) = ix c ((y.toNat : Nat) : Int)
    rw [Int.toNat_of_nonneg x0, Int.toNat_of_nonneg y0]; exact exy
   have : i = j := by
    rcases Nat.lt_trichotomy i j with hlt | rfl | hlt
    ·exact absurd hfst (key i j hi hj hlt)
    ·rfl
    ·exact absurd hfst.symm (key j i hj hi hlt)
   subst this
   rw [← ei, ej]
  obtain ⟨e1, e2, e3⟩ := (rfT_same h q0 q1 r0 r1).1 he
  refine ⟨he, e2, fun a a0 a1 => ⟨(e3 a a0 a1).1, ?_⟩⟩
  have sq := h.tab.stpb q0 q1 a0 a1
  have sr := h.tab.stpb r0 r1 a0 a1
  unfold stp at sq sr
  exact tot _ _ sq.1 sq.2 sr.1 sr.2 (e3 a a0 a1).2
 ·rw [if_neg e] at eP eR
  rw [eP, eR]
  have hlt : k < (ksG (sgT u c) u.2.2.2.2.1.length).length := by omega
  exact ih (u.2.2.2.2.1.length - (ksG (sgT u c) u.2.2.2.2.1.length).length) (by omega) _ (rfT u c) rfl ⟨rfT_len c⟩ sur'
theorem cls_both (h : UOk u) : ∃ C K, FinT u C K ∧ trans_classes u = some C ∧ r16_Least_L5 u 0 (List.replicate u.2.2.2.2.1.length 0) = r16_Least_L23 u C 0 (List.replicate u.2.2.2.2.1.length 0) := by
 have hn := h.n1
 have hz : CSo u (List.replicate u.2.2.2.2.1.length 0) := ⟨by simp⟩
 have zi : ∀ q : Int, 0 ≤ q → q < u.2.2.2.2.1.length → ix (List.replicate u.2.2.2.2.1.length (0 : Int)) q = 0 := fun q q0 q1 => by
  rw [ix_eq q0 (by simp; exact q1)]; simp
 obtain ⟨C, K, hC, e1, e2⟩ := cls_iter h _ 1 _ rfl hz (fun v v0 v1 => ⟨0, by omega, by omega, by rw [zi 0 (by omega) (by omega)]; omega⟩)
 refine ⟨C, K, hC, ?_, ?_⟩
 ·unfold trans_classes
  rw [G_pos (by unfold mkOK; omega), Int.toNat_natCast]
  exact e1
 ·rw [← e2]
  have p0 := L5_pass h hz 0
  have p1 := L5_pass h hz 1
  have hpos : 0 < (ksG (sgT u (List.replicate u.2.2.2.2.1.length 0)) u.2.2.2.2.1.length).length := List.length_pos_of_mem (ksG_mem _ _ 0 (by omega))
  rw [if_neg (by omega)] at p0
  by_cases c : ((ksG (sgT u (List.replicate u.2.2.2.2.1.length 0)) u.2.2.2.2.1.length).length : Int) = 1
  ·rw [p0, c]
   have : rfT u (List.replicate u.2.2.2.2.1.length 0) = List.replicate u.2.2.2.2.1.length 0 := by
    refine ix_ext (by rw [rfT_len]; simp) fun j j0 j1 => ?_
    rw [rfT_len] at j1
    unfold rfT
    rw [tbl_ix j0 j1, zi j j0 j1]
    have := idxG_lt (sgT u (List.replicate u.2.2.2.2.1.length 0)) (q := j.toNat) (t := u.2.2.2.2.1.length) (by omega)
    omega
   rw [this]; rfl
  ·rw [if_neg c] at p1
   rw [p0]; exact p1.symm
end

theorem ix_snoc {α : Type} [Inhabited α] {l : List α} {x : α} {j : Int} (h0 : 0 ≤ j) (h : j < l.length) : ix (l ++ [x]) j = ix l j := by
 simp only [ix, List.getD_eq_getElem?_getD]
 rw [List.getElem?_append_left (by omega)]
theorem ix_snoc_last {α : Type} [Inhabited α] {l : List α} {x : α} {j : Int} (h : j = l.length) : ix (l ++ [x]) j = x := by
 subst h
 simp [ix, List.getD_eq_getElem?_getD]

section
variable {u : Tr}
structure RowT (u : Tr) (C Q : List Int) (q : Int) (row : List Int) : Prop where
 len : (row.length : Int) = u.1
 to : ∀ a : Int, 0 ≤ a → a < u.1 → 0 ≤ ix row a ∧ ix row a < Q.length ∧ ix C (ix Q (ix row a)) = ix C (ix (ix u.2.2.2.2.1 q) a)
structure QT (u : Tr) (C Q : List Int) : Prop where
 b : ∀ q : Int, q ∈ Q → 0 ≤ q ∧ q < u.2.2.2.2.1.length
 nd : (Q.map (ix C)).Nodup
 z : 0 < Q.length ∧ ix Q 0 = u.2.2.1
structure PartT (u : Tr) (C Q : List Int) (D2 : List (List Int)) (D5 : List (List (List Int))) (D6 : List (List Int)) : Prop where
 q : QT u C Q
 l2 : D2.length ≤ Q.length
 l5 : D5.length = D2.length
 l6 : D6.length = D2.length
 row : ∀ i : Int, 0 ≤ i → i < D2.length → RowT u C Q (ix Q i) (ix D2 i)
 says : ∀ i : Int, 0 ≤ i → i < D2.length → ix D5 i = ix u.2.2.2.2.2.1 (ix Q i)
 last : ∀ i : Int, 0 ≤ i → i < D2.length → ix D6 i = ix u.2.2.2.2.2.2.1 (ix Q i)
theorem QT.le {C Q : List Int} {K : Nat} (hC : FinT u C K) (h : QT u C Q) : Q.length ≤ K := by
 have := pigeon_int (n := K) h.nd (fun v hv => by
  obtain ⟨q, hq, rfl⟩ := List.mem_map.1 hv
  have := h.b q hq
  exact hC.b q this.1 this.2)
 rwa [List.length_map] at this
theorem RowT.ext {C Q : List Int} {q : Int} {row : List Int} (h : RowT u C Q q row) (x : List Int) : RowT u C (Q ++ x) q row :=
 ⟨h.len, fun a a0 a1 => by
  obtain ⟨h1, h2, h3⟩ := h.to a a0 a1
  rw [ix_append_left h1 h2]
  exact ⟨h1, by rw [List.length_append]; omega, h3⟩⟩
/-- What numbers stand for classes. -/
def NumT (u : Tr) (C Q NA : List Int) : Prop := NA.length = u.2.2.2.2.1.length ∧ ∀ v : Int, 0 ≤ v → v < u.2.2.2.2.1.length → ix NA v = match mfind (Q.map (ix C)) v with
 | some j => (j : Int)
 | none => -1
theorem take_set_succ {row : List Int} {t : Nat} {v : Int} (h : t < row.length) : (row.set t v).take (t + 1) = row.take t ++ [v] := by
 rw [List.take_add_one, List.take_set_of_le (Nat.le_refl _), List.getElem?_set_self h]; rfl
theorem lst_row (h : UOk u) {C : List Int} {K : Nat} (hC : FinT u C K) {Q0 : List Int} {i q : Int} (i0 : 0 ≤ i) (i1 : i < 100) (hq : ix Q0 i = q) (q0 : 0 ≤ q) (q1 : q < u.2.2.2.2.1.length) {o o1 o2 : Int} {o3 : List Int} {o4 : List (List Int)} {o5 : List (List (List Int))} {o6 : List (List Int)} (l4 : o4.length ≤ 100) (l5 : o5.length ≤ 100) (l6 : o6.length ≤ 100) {r7 r30} :
  ∀ (m : Nat) (a : Int) (Q NA nx nx' : List Int), 0 ≤ a → a + m = u.1 → QT u C Q → NumT u C Q NA → (nx.length : Int) = u.1 → nx.take a.toNat = nx' →
   (∀ b : Int, 0 ≤ b → b < a → 0 ≤ ix nx' b ∧ ix nx' b < Q.length ∧ ix C (ix Q (ix nx' b)) = ix C (ix (ix u.2.2.2.2.1 q) b)) →
  ∃ x NA' row', QT u C (Q ++ x) ∧ NumT u C (Q ++ x) NA' ∧ RowT u C (Q ++ x) q row' ∧
   trans_least_L12 u C i Q0 o o1 o2 o3 o4 o5 o6 r7 a (Q.map (ix C)) (iota Q.length) Q nx = r7 (i + 1) ((Q ++ x).map (ix C)) (iota (Q ++ x).length) (Q ++ x) o o1 o2 o3 (o4 ++ [row']) (o5 ++ [ix u.2.2.2.2.2.1 q]) (o6 ++ [ix u.2.2.2.2.2.2.1 q]) ∧
   r16_Least_L35 u C i Q0 o o1 o2 o3 o4 o5 o6 r30 a NA Q nx' = r30 (i + 1) NA' (Q ++ x) o o1 o2 o3 (o4 ++ [row']) (o5 ++ [ix u.2.2.2.2.2.1 q]) (o6 ++ [ix u.2.2.2.2.2.2.1 q]) := by
 have hl := h.let1; have hn := h.n1; have hsl := h.sl; have hll := h.ll; have hcl := hC.len; have hK := hC.le
 have hrow := h.tab.rowlen q0 q1
 intro m
 induction m with
 | zero =>
  intro a Q NA nx nx' a0 ha hQ hN hnx htk hto
  have en : nx = nx' := by rw [← htk, List.take_of_length_le (by omega)]
  subst en
  refine ⟨[], NA, nx, by rw [List.append_nil]; exact hQ, by rw [List.append_nil]; exact hN, by rw [List.append_nil]; exact ⟨hnx, fun b b0 b1 => hto b b0 (by omega)⟩, ?_, ?_⟩
  ·rw [List.append_nil, trans_least_L12_eq]; unfold trans_least_L12_B
   rw [hq, if_neg (by simp only [decide_eq_true_eq]; omega), G_pos (by unfold room; simp; omega), G_pos (by omega), G_pos (by unfold room; simp; omega), G_pos (by omega), G_pos (by unfold room; simp; omega), G_pos (by unfold fits; omega)]
  ·rw [List.append_nil, r16_Least_L35_eq]; unfold r16_Least_L35_B
   rw [hq, if_neg (by simp only [decide_eq_true_eq]; omega), G_pos (by unfold room; simp; omega), G_pos (by omega), G_pos (by unfold room; simp; omega), G_pos (by omega), G_pos (by unfold room; simp; omega), G_pos (by unfold fits; omega)]
 | succ m ih =>
  intro a Q NA nx nx' a0 ha hQ hN hnx htk hto
  have ht := h.tab.stpb q0 q1 a0 (show a < u.1 by omega)
  have e0 : ix (ix u.2.2.2.2.1 q) a = stp u.2.2.2.2.1 q a := rfl
  obtain ⟨d, hd⟩ : ∃ d, stp u.2.2.2.2.1 q a = d := ⟨_, rfl⟩
  rw [hd] at ht e0
  have hcd := hC.b d ht.1 ht.2
  have hQK := hQ.le hC
  obtain ⟨hN1, hN2⟩ := hN
  have hNv := hN2 (ix C d) hcd.1 (by omega)
  have hk1 : (a + 1).toNat = a.toNat + 1 := by omega
  have hnl : nx'.length = a.toNat := by rw [← htk, List.length_take]; omega
  -- what is put down
  have fin : ∀ (v : Int) (Q1 NA1 x1 : List Int), Q1 = Q ++ x1 → QT u C Q1 → NumT u C Q1 NA1 → 0 ≤ v → v < Q1.length → ix C (ix Q1 v) = ix C d → ix NA1 (ix C d) = v →
    (trans_least_L12 u C i Q0 o o1 o2 o3 o4 o5 o6 r7 a (Q.map (ix C)) (iota Q.length) Q nx = trans_least_J18 a nx (trans_least_L12 u C i Q0 o o1 o2 o3 o4 o5 o6 r7) v (Q1.map (ix C)) (iota Q1.length) Q1) →
    (r16_Least_L35 u C i Q0 o o1 o2 o3 o4 o5 o6 r30 a NA Q nx' = r16_Least_J40 u C i Q0 a nx' (r16_Least_L35 u C i Q0 o o1 o2 o3 o4 o5 o6 r30) NA1 Q1) →
    ∃ x NA' row', QT u C (Q ++ x) ∧ NumT u C (Q ++ x) NA' ∧ RowT u C (Q ++ x) q row' ∧
     trans_least_L12 u C i Q0 o o1 o2 o3 o4 o5 o6 r7 a (Q.map (ix C)) (iota Q.length) Q nx = r7 (i + 1) ((Q ++ x).map (ix C)) (iota (Q ++ x).length) (Q ++ x) o o1 o2 o3 (o4 ++ [row']) (o5 ++ [ix u.2.2.2.2.2.1 q]) (o6 ++ [ix u.2.2.2.2.2.2.1 q]) ∧
     r16_Least_L35 u C i Q0 o o1 o2 o3 o4 o5 o6 r30 a NA Q nx' = r30 (i + 1) NA' (Q ++ x) o o1 o2 o3 (o4 ++ [row']) (o5 ++ [ix u.2.2.2.2.2.1 q]) (o6 ++ [ix u.2.2.2.2.2.2.1 q]) := by
   intro v Q1 NA1 x1 hQ1 hq1 hn1 v0 v1 hcv hnv e1 e2
   have hN1l := hn1.1
   obtain ⟨x, NA', row', g1, g2, g3, g4, g5⟩ := ih (a + 1) Q1 NA1 (nx.set a.toNat v) (nx' ++ [v]) (by omega) (by omega) hq1 hn1 (by rw [List.length_set]; exact hnx) (by rw [hk1, take_set_succ (by omega), htk]) (fun b b0 b1 => by
    by_cases e : b = a
    ·rw [e, ix_snoc_last (by omega), e0]
     exact ⟨v0, v1, hcv⟩
    ·rw [ix_snoc b0 (by omega)]
     obtain ⟨k1, k2, k3⟩ := hto b b0 (by omega)
     rw [hQ1, ix_append_left k1 k2]
     exact ⟨k1, by rw [List.length_append]; omega, k3⟩)
   refine ⟨x1 ++ x, NA', row', ?_, ?_, ?_, ?_, ?_⟩
   ·rw [← List.append_assoc, ← hQ1]; exact g1
   ·rw [← List.append_assoc, ← hQ1]; exact g2
   ·rw [← List.append_assoc, ← hQ1]; exact g3
   ·rw [← List.append_assoc, ← hQ1, ← g4, e1]
    unfold trans_least_J18
    rw [G_pos (by omega), G_pos (by omega), G_pos (by unfold fits; omega)]
   ·rw [← List.append_assoc, ← hQ1, ← g5, e2]
    unfold r16_Least_J40
    rw [hq, e0, hnv, G_pos (by omega), G_pos (by omega), G_pos (by omega), G_pos (by omega), G_pos (by unfold room; simp; omega), G_pos (by unfold fits; omega)]
  by_cases c : ix C d ∈ Q.map (ix C)
  ·obtain ⟨j, hj⟩ := mfind_mem c
   have hjl := mfind_lt hj
   rw [List.length_map] at hjl
   have hjg := mfind_get hj
   have hj0 : (0 : Int) ≤ (j : Int) := Int.natCast_nonneg j
   rw [hj] at hNv
   dsimp only at hNv
   have hg : mget (Q.map (ix C)) (iota Q.length) (ix C d) 0 = j := by
    have := mget_iota hj
    rwa [List.length_map] at this
   refine fin j Q NA [] (by simp) hQ ⟨hN1, hN2⟩ (by omega) (by omega) ?_ hNv ?_ ?_
   ·rw [List.getElem?_map, Option.map_eq_some_iff] at hjg
    obtain ⟨y, hy, ey⟩ := hjg
    rw [ix_eq (l := Q) (i := (j : Int)) (by omega) (by omega), ← ey]
    congr 1
    rw [List.getElem?_eq_getElem (by omega)] at hy
    simp only [Int.toNat_natCast]
    exact Option.some.inj hy
   ·conv => lhs; rw [trans_least_L12_eq]; unfold trans_least_L12_B
    rw [hq, e0, if_pos (decide_eq_true (by omega)), G_pos (by omega), G_pos (by omega), G_pos (by omega), mhas_iff.2 c, if_neg (by simp), hg]
   ·conv => lhs; rw [r16_Least_L35_eq]; unfold r16_Least_L35_B
    rw [hq, e0, if_pos (decide_eq_true (by omega)), G_pos (by omega), G_pos (by omega), G_pos (by omega), G_pos (by omega), G_pos (by omega), G_pos (by omega), if_neg (by simp only [decide_eq_true_eq]; omega)]
  ·have hmf := mfind_none.2 c
   rw [hmf] at hNv
   dsimp only at hNv
   have hmh : mhas (Q.map (ix C)) (ix C d) = false := by unfold mhas; rw [hmf]; rfl
   have hK1 : mputK (Q.map (ix C)) (ix C d) = (Q ++ [d]).map (ix C) := by unfold mputK; rw [hmf, List.map_append]; rfl
   have hV1 : mputV (Q.map (ix C)) (iota Q.length) (ix C d) (Q.length : Int) = iota (Q ++ [d]).length := by
    unfold mputV; rw [hmf, List.length_append, List.length_singleton, iota_succ]
   have hq1 : QT u C (Q ++ [d]) := ⟨fun p hp => by
     rcases List.mem_append.1 hp with hp | hp
     ·exact hQ.b p hp
     ·rw [List.mem_singleton.1 hp]; exact ht, by
     rw [List.map_append, List.nodup_append]
     exact ⟨hQ.nd, by simp, fun x hx y hy => by
      rw [List.map_singleton] at hy
      rw [List.mem_singleton.1 hy]; rintro rfl; exact c hx⟩, by
     have := hQ.z
     rw [List.length_append, ix_append_left (by omega) (by omega)]
     exact ⟨by omega, this.2⟩⟩
   have hNs : ix (NA.set (ix C d).toNat (Q.length : Int)) (ix C d) = Q.length := ix_set_same hcd.1 (by omega)
   refine fin Q.length (Q ++ [d]) (NA.set (ix C d).toNat (Q.length : Int)) [d] rfl hq1 ⟨by rw [List.length_set]; exact hN1, fun v v0 v1 => ?_⟩ (by omega) (by rw [List.length_append, List.length_singleton]; omega) (by rw [ix_append_last]) hNs ?_ ?_
   ·rw [List.map_append, List.map_singleton]
    by_cases ev : ix C d = v
    ·rw [← ev, hNs, mfind_new c, List.length_map]
    ·rw [ix_set_ne hcd.1 v0 ev, hN2 v v0 v1]
     cases hm : mfind (Q.map (ix C)) v with
     | some j => rw [mfind_app _ hm]
     | none =>
      have : mfind (Q.map (ix C) ++ [ix C d]) v = none := mfind_none.2 fun hh => by
       rcases List.mem_append.1 hh with hh | hh
       ·exact mfind_none.1 hm hh
       ·exact ev (List.mem_singleton.1 hh).symm
      rw [this]
   ·conv => lhs; rw [trans_least_L12_eq]; unfold trans_least_L12_B
    rw [hq, e0, if_pos (decide_eq_true (by omega)), G_pos (by omega), G_pos (by omega), G_pos (by omega), hmh, if_pos (by simp), G_pos (by omega), G_pos (by omega), G_pos (by unfold room; simp; omega), hK1, hV1]
   ·conv => lhs; rw [r16_Least_L35_eq]; unfold r16_Least_L35_B
    rw [hq, e0, if_pos (decide_eq_true (by omega)), G_pos (by omega), G_pos (by omega), G_pos (by omega), G_pos (by omega), G_pos (by omega), G_pos (by omega), if_pos (decide_eq_true (by omega)), G_pos (by omega), G_pos (by omega), G_pos (by omega), G_pos (by omega), G_pos (by unfold room; simp; omega)]
structure LstOk (u o : Tr) (C Q : List Int) : Prop where
 part : PartT u C Q o.2.2.2.2.1 o.2.2.2.2.2.1 o.2.2.2.2.2.2.1
 all : o.2.2.2.2.1.length = Q.length
 inn : o.1 = u.1
 out : o.2.1 = u.2.1
 st : o.2.2.1 = 0
 fst : o.2.2.2.1 = u.2.2.2.1
theorem lst_main (h : UOk u) {C : List Int} {K : Nat} (hC : FinT u C K) : ∀ (f : Nat) (Q NA : List Int) (D2 : List (List Int)) (D5 : List (List (List Int))) (D6 : List (List Int)), K - D2.length = f → PartT u C Q D2 D5 D6 → NumT u C Q NA →
  ∃ o Q', trans_least_L7 u C (D2.length : Int) (Q.map (ix C)) (iota Q.length) Q u.1 u.2.1 0 u.2.2.2.1 D2 D5 D6 = some o ∧ r16_Least_L30 u C (D2.length : Int) NA Q u.1 u.2.1 0 u.2.2.2.1 D2 D5 D6 = some o ∧ LstOk u o C Q' := by
 have hl := h.let1; have hn := h.n1; have hK := hC.le
 intro f
 induction f with
 | zero =>
  intro Q NA D2 D5 D6 hf hP hN
  have hQK := hP.q.le hC
  have hl2 := hP.l2
  refine ⟨(u.1, u.2.1, 0, u.2.2.2.1, D2, D5, D6, ()), Q, ?_, ?_, ⟨hP, by show D2.length = Q.length; omega, rfl, rfl, rfl, rfl⟩⟩
  ·rw [trans_least_L7_eq]; unfold trans_least_L7_B
   rw [if_neg (by simp only [decide_eq_true_eq]; omega)]
  ·rw [r16_Least_L30_eq]; unfold r16_Least_L30_B
   rw [if_neg (by simp only [decide_eq_true_eq]; omega)]
 | succ f ih =>
  intro Q NA D2 D5 D6 hf hP hN
  have hQK := hP.q.le hC
  have hl2 := hP.l2
  by_cases c : D2.length < Q.length
  ·have hqb := hP.q.b _ (ix_mem (l := Q) (i := (D2.length : Int)) (by omega) (by omega))
   obtain ⟨x, NA', row', g1, g2, g3, g4, g5⟩ := lst_row h hC (Q0 := Q) (i := (D2.length : Int)) (by omega) (by omega) rfl hqb.1 hqb.2 (o := u.1) (o1 := u.2.1) (o2 := 0) (o3 := u.2.2.2.1) (o4 := D2) (o5 := D5) (o6 := D6) (by omega) (by have := hP.l5; omega) (by have := hP.l6; omega) (r7 := trans_least_L7 u C) (r30 := r16_Least_L30 u C) u.1.toNat 0 Q NA (List.replicate u.1.toNat 0) [] (by omega) (by omega) hP.q hN (by simp; omega) (by simp) (fun b b0 b1 => by omega)
   have hP' : PartT u C (Q ++ x) (D2 ++ [row']) (D5 ++ [ix u.2.2.2.2.2.1 (ix Q D2.length)]) (D6 ++ [ix u.2.2.2.2.2.2.1 (ix Q D2.length)]) := by
    have hl5 := hP.l5; have hl6 := hP.l6
    refine ⟨g1, by rw [List.length_append, List.length_append, List.length_singleton]; omega, by rw [List.length_append, List.length_append, List.length_singleton, List.length_singleton]; omega, by rw [List.length_append, List.length_append, List.length_singleton, List.length_singleton]; omega, fun i i0 i1 => ?_, fun i i0 i1 => ?_, fun i i0 i1 => ?_⟩
    all_goals
     rw [List.length_append, List.length_singleton] at i1
     by_cases e : i = D2.length
    ·rw [e, ix_snoc_last rfl, ix_append_left (by omega) (by omega)]; exact g3
    ·rw [ix_snoc i0 (by omega), ix_append_left i0 (by omega)]; exact (hP.row i i0 (by omega)).ext x
    ·rw [e, ix_snoc_last (by omega), ix_append_left (by omega) (by omega)]
    ·rw [ix_snoc i0 (by omega), ix_append_left i0 (by omega)]; exact hP.says i i0 (by omega)
    ·rw [e, ix_snoc_last (by omega), ix_append_left (by omega) (by omega)]
    ·rw [ix_snoc i0 (by omega), ix_append_left i0 (by omega)]; exact hP.last i i0 (by omega)
   obtain ⟨o, Q', e1, e2, e3⟩ := ih (Q ++ x) NA' _ _ _ (by rw [List.length_append, List.length_singleton]; omega) hP' g2
   refine ⟨o, Q', ?_, ?_, e3⟩
   ·rw [← e1]
    conv => lhs; rw [trans_least_L7_eq]; unfold trans_least_L7_B
    rw [if_pos (decide_eq_true (by omega)), G_pos (by omega), G_pos (by omega), G_pos (by unfold mkOK; omega), G_pos (by omega), g4]
    rw [show ((D2 ++ [row']).length : Int) = (D2.length : Int) + 1 by rw [List.length_append, List.length_singleton]; omega]
   ·rw [← e2]
    conv => lhs; rw [r16_Least_L30_eq]; unfold r16_Least_L30_B
    rw [if_pos (decide_eq_true (by omega)), G_pos (by omega), G_pos (by omega), g5]
    rw [show ((D2 ++ [row']).length : Int) = (D2.length : Int) + 1 by rw [List.length_append, List.length_singleton]; omega]
  ·refine ⟨(u.1, u.2.1, 0, u.2.2.2.1, D2, D5, D6, ()), Q, ?_, ?_, ⟨hP, by show D2.length = Q.length; omega, rfl, rfl, rfl, rfl⟩⟩
   ·rw [trans_least_L7_eq]; unfold trans_least_L7_B
    rw [if_neg (by simp only [decide_eq_true_eq]; omega)]
   ·rw [r16_Least_L30_eq]; unfold r16_Least_L30_B
    rw [if_neg (by simp only [decide_eq_true_eq]; omega)]
theorem L23_spec (h : UOk u) {C : List Int} {K : Nat} (hC : FinT u C K) : ∀ (m : Nat) (i : Int) (NA : List Int), 0 ≤ i → i + m = u.2.2.2.2.1.length → NA.length = u.2.2.2.2.1.length → (∀ j : Int, 0 ≤ j → j < i → ix NA j = -1) →
  ∃ NA', NumT u C [u.2.2.1] NA' ∧ r16_Least_L23 u C i NA = r16_Least_L30 u C 0 NA' [u.2.2.1] u.1 u.2.1 0 u.2.2.2.1 [] [] [] := by
 have hn := h.n1; have hst := h.st; have hcl := hC.len; have hK := hC.le
 have hcs := hC.b _ hst.1 hst.2
 intro m
 induction m with
 | zero =>
  intro i NA i0 hi hl hj
  refine ⟨NA.set (ix C u.2.2.1).toNat 0, ⟨by rw [List.length_set]; exact hl, fun v v0 v1 => ?_⟩, ?_⟩
  ·rw [List.map_singleton]
   by_cases e : ix C u.2.2.1 = v
   ·rw [← e, ix_set_same hcs.1 (by omega), mfind_hd]; rfl
   ·rw [ix_set_ne hcs.1 v0 e, hj v v0 (by omega), mfind_tl e]; rfl
  ·rw [r16_Least_L23_eq]; unfold r16_Least_L23_B
   rw [if_neg (by simp only [decide_eq_true_eq]; omega), G_pos (by omega), G_pos (by omega), G_pos (by omega), G_pos (by omega)]
 | succ m ih =>
  intro i NA i0 hi hl hj
  obtain ⟨NA', g1, g2⟩ := ih (i + 1) (NA.set i.toNat (-1)) (by omega) (by omega) (by rw [List.length_set]; exact hl) (fun j j0 j1 => by
   by_cases e : i = j
   ·rw [← e, ix_set_same i0 (by omega)]
   ·rw [ix_set_ne i0 j0 e]; exact hj j j0 (by omega))
  refine ⟨NA', g1, ?_⟩
  rw [← g2]
  conv => lhs; rw [r16_Least_L23_eq]; unfold r16_Least_L23_B
  rw [if_pos (decide_eq_true (by omega)), G_pos (by omega), G_pos (by omega), G_pos (by unfold fits; omega)]
end
theorem least_two {t : Tr} (h : BOk t) : ∃ A o C K Q, AhOk t A ∧ (∀ q a : Int, 0 ≤ q → q < t.2.2.2.2.1.length → 0 ≤ a → a < t.1 → Stb t A q a) ∧ FinT (pT t A) C K ∧ LstOk (pT t A) o C Q ∧ trans_least t = some o ∧ r16_Least t = some o := by
 obtain ⟨A, hA, hS, e1, e2⟩ := push_both h
 have hU := pT_ok h hA
 obtain ⟨C, K, hC, e3, e4⟩ := cls_both hU
 have hn := hU.n1; have hst := hU.st; have hcl := hC.len; have hl := hU.let1
 obtain ⟨NA, hN, e5⟩ := L23_spec hU hC (pT t A).2.2.2.2.1.length 0 (List.replicate (pT t A).2.2.2.2.1.length 0) (by omega) (by omega) (by simp) (fun j j0 j1 => by omega)
 have hP : PartT (pT t A) C [(pT t A).2.2.1] [] [] [] := ⟨⟨fun q hq => by rw [List.mem_singleton.1 hq]; exact hst, by simp, by simp [ix]⟩, by simp, rfl, rfl, fun i i0 i1 => by simp at i1; omega, fun i i0 i1 => by simp at i1; omega, fun i i0 i1 => by simp at i1; omega⟩
 obtain ⟨o, Q, e6, e7, hO⟩ := lst_main hU hC _ [(pT t A).2.2.1] NA [] [] [] rfl hP hN
 refine ⟨A, o, C, K, Q, hA, hS, hC, hO, ?_, ?_⟩
 ·unfold trans_least
  refine bind_to e1 (bind_to e3 ?_)
  rw [G_pos (by omega), G_pos (by omega)]
  exact e6
 ·unfold r16_Least
  refine bind_to e2 ?_
  rw [G_pos (by unfold mkOK; omega), Int.toNat_natCast]
  refine Eq.trans ?_ (e4.trans (e5.trans e7))
  rfl

section
variable {o : Tr}
/-- The shape of a transducer, whatever it says. -/
structure ShT (o : Tr) : Prop where
 n1 : o.2.2.2.2.1.length ≤ 36
 sl : o.2.2.2.2.2.1.length = o.2.2.2.2.1.length
 ll : o.2.2.2.2.2.2.1.length = o.2.2.2.2.1.length
 let1 : o.1 ≤ 4
 srow : ∀ i : Int, 0 ≤ i → i < o.2.2.2.2.1.length → ((ix o.2.2.2.2.2.1 i).length : Int) = o.1
theorem trans_long_spec (h : ShT o) : Tells (trans_long o) (TLong o) := by
 have hsaid := trans_said_spec h.n1 h.sl h.ll h.let1 h.srow
 have hwl := tW_len h.n1 h.sl h.ll h.let1 h.srow
 unfold trans_long
 obtain ⟨b, e, e2⟩ := contains_tells (f := trans_long_1) (P := fun w => 8 < w.length) (slices_IndexFunc_2_L2_eq (tW o)) (by omega) (fun x _ => Tells.dec (by omega))
 exact ⟨b, bind_to hsaid (bind_to e rfl), e2⟩
theorem r16_Long_spec (h : ShT o) : Tells (r16_Long o) (TLong o) := by
 have hsaid := r16_Words_spec h.n1 h.sl h.ll h.let1 h.srow
 have hwl := tW_len h.n1 h.sl h.ll h.let1 h.srow
 unfold r16_Long
 by_cases c : TLong o
 ·refine ⟨true, bind_to hsaid ?_, by simp [c]⟩
  refine scan_to (len := ((tW o).length : Int)) (bad := fun i => 8 < (ix (tW o) i).length) (by omega) (fun i h0 h1 => ⟨fun hb => ?_, fun hb => ?_⟩) (fun hh => ?_)
  ·rw [r16_Long_L3_eq]; unfold r16_Long_L3_B
   (try dsimp only); (repeat' first | (with_reducible refine G_to ?_ ?_; focus (first | omega | (unfold fits; omega) | (unfold room; (try simp only [List.length_append, List.length_cons, List.length_nil]); omega))) | (with_reducible refine both_to ?_ ?_) | (with_reducible refine itet_to ?_) | (with_reducible refine itef_to ?_) | (with_reducible refine ite_to (fun _ => ?_) (fun _ => ?_))) <;> try (exfalso; omega)
   all_goals rfl
  ·conv => lhs; rw [r16_Long_L3_eq]; unfold r16_Long_L3_B
   (try dsimp only); (repeat' first | (with_reducible refine G_to ?_ ?_; focus (first | omega | (unfold fits; omega) | (unfold room; (try simp only [List.length_append, List.length_cons, List.length_nil]); omega))) | (with_reducible refine both_to ?_ ?_) | (with_reducible refine itet_to ?_) | (with_reducible refine itef_to ?_) | (with_reducible refine ite_to (fun _ => ?_) (fun _ => ?_))) <;> try (exfalso; omega)
   all_goals rfl
  ·obtain ⟨i, i0, i1, i2⟩ := ex_ix.1 c; exact absurd i2 (hh i i0 i1)
 ·refine ⟨false, bind_to hsaid ?_, by simp [c]⟩
  refine scan_to (len := ((tW o).length : Int)) (bad := fun i => 8 < (ix (tW o) i).length) (by omega) (fun i h0 h1 => ⟨fun hb => absurd (ex_ix.2 ⟨i, h0, h1, hb⟩) c, fun hb => ?_⟩) (fun hh => ?_)
  ·conv => lhs; rw [r16_Long_L3_eq]; unfold r16_Long_L3_B
   (try dsimp only); (repeat' first | (with_reducible refine G_to ?_ ?_; focus (first | omega | (unfold fits; omega) | (unfold room; (try simp only [List.length_append, List.length_cons, List.length_nil]); omega))) | (with_reducible refine both_to ?_ ?_) | (with_reducible refine itet_to ?_) | (with_reducible refine itef_to ?_) | (with_reducible refine ite_to (fun _ => ?_) (fun _ => ?_))) <;> try (exfalso; omega)
   all_goals rfl
  ·rw [r16_Long_L3_eq]; unfold r16_Long_L3_B
   (try dsimp only); (repeat' first | (with_reducible refine G_to ?_ ?_; focus (first | omega | (unfold fits; omega) | (unfold room; (try simp only [List.length_append, List.length_cons, List.length_nil]); omega))) | (with_reducible refine both_to ?_ ?_) | (with_reducible refine itet_to ?_) | (with_reducible refine itef_to ?_) | (with_reducible refine ite_to (fun _ => ?_) (fun _ => ?_))) <;> try (exfalso; omega)
   all_goals rfl
theorem r16_Same_refl (h : ShT o) (hw : ∀ w ∈ tW o, w.length ≤ 8) (hrow : ∀ q : Int, 0 ≤ q → q < o.2.2.2.2.1.length → (ix o.2.2.2.2.1 q).length ≤ 100) : r16_Same o o = some true := by
 have hsaid := r16_Words_spec h.n1 h.sl h.ll h.let1 h.srow
 have hwl := tW_len h.n1 h.sl h.ll h.let1 h.srow
 have hn := h.n1; have hsl := h.sl
 have k2 : ∀ (m : Nat) (q : Int), 0 ≤ q → q + m = o.2.2.2.2.1.length → r16_Same_L12 o o q = some true := by
  intro m
  induction m with
  | zero =>
   intro q q0 hq
   rw [r16_Same_L12_eq]; unfold r16_Same_L12_B
   rw [if_neg (by simp only [decide_eq_true_eq]; omega)]
  | succ m ih =>
   intro q q0 hq
   rw [r16_Same_L12_eq]; unfold r16_Same_L12_B
   rw [if_pos (decide_eq_true (by omega)), G_pos (by omega), G_pos (by omega), r1_Words_spec (by have := hrow q q0 (by omega); omega)]
   dsimp only [Option.bind]
   rw [if_neg (by simp), G_pos (by omega), G_pos (by omega), if_neg (by simp), G_pos (by unfold fits; omega)]
   exact ih (q + 1) (by omega) (by omega)
 have k1 : ∀ (m : Nat) (q : Int), 0 ≤ q → q + m = (tW o).length → r16_Same_L6 o o (tW o) (tW o) q = some true := by
  intro m
  induction m with
  | zero =>
   intro q q0 hq
   rw [r16_Same_L6_eq]; unfold r16_Same_L6_B
   rw [if_neg (by simp only [decide_eq_true_eq]; omega)]
   exact k2 _ 0 (by omega) (Int.zero_add _)
  | succ m ih =>
   intro q q0 hq
   rw [r16_Same_L6_eq]; unfold r16_Same_L6_B
   rw [if_pos (decide_eq_true (by omega)), G_pos (by omega), G_pos (by omega), G_pos (by omega), G_pos (by omega), r1_Words_spec (by have := hw _ (ix_mem q0 (show q < (tW o).length by omega)); omega)]
   dsimp only [Option.bind]
   rw [if_neg (by simp), G_pos (by unfold fits; omega)]
   exact ih (q + 1) (by omega) (by omega)
 unfold r16_Same
 refine bind_to hsaid (bind_to hsaid ?_)
 rw [if_neg (by simp), if_neg (by simp), if_neg (by simp), if_neg (by simp), if_neg (by simp), if_neg (by simp), if_neg (by simp)]
 exact k1 _ 0 (by omega) (Int.zero_add _)
end
section
variable {u o : Tr}
theorem LstOk.sh {C Q : List Int} {K : Nat} (hU : UOk u) (hC : FinT u C K) (h : LstOk u o C Q) : ShT o := by
 have hQ := h.part.q.le hC
 have hK := hC.le
 have hn := hU.n1; have hl := hU.let1
 have ha := h.all; have hi := h.inn
 have l5 := h.part.l5; have l6 := h.part.l6
 refine ⟨by omega, l5, l6, by omega, fun i i0 i1 => ?_⟩
 have hb := h.part.q.b _ (ix_mem (l := Q) (i := i) i0 (by omega))
 rw [h.part.says i i0 i1, hU.srow _ hb.1 hb.2, hi]
theorem LstOk.tok {C Q : List Int} {K : Nat} (hU : UOk u) (hC : FinT u C K) (h : LstOk u o C Q) (hs : ∀ w ∈ tW o, w.length ≤ 8) (h6 : o.2.2.2.2.1.length ≤ 6) : TOk o := by
 have hQ := h.part.q.le hC
 have hK := hC.le
 have hn := hU.n1; have hl := hU.let1
 have ha := h.all; have hi := h.inn
 have hz := h.part.q.z
 have sh := h.sh hU hC
 refine ⟨by omega, by omega, sh.sl, sh.ll, by rw [h.st]; omega, sh.srow, ⟨fun r hr => ?_, fun r hr q hq => ?_⟩, hs⟩
 ·obtain ⟨i, i0, i1, rfl⟩ := (ex_ix (P := fun x => x = r)).1 ⟨r, hr, rfl⟩
  rw [(h.part.row i i0 i1).len, hi]
 ·obtain ⟨i, i0, i1, rfl⟩ := (ex_ix (P := fun x => x = r)).1 ⟨r, hr, rfl⟩
  obtain ⟨a, a0, a1, rfl⟩ := (ex_ix (P := fun x => x = q)).1 ⟨q, hq, rfl⟩
  have hr := h.part.row i i0 i1
  have hrl := hr.len
  have := hr.to a a0 (by omega)
  omega
theorem push_run {t : Tr} (h : BOk t) {A : List (List Int)} (hA : AhOk t A) (hS : ∀ q a : Int, 0 ≤ q → q < t.2.2.2.2.1.length → 0 ≤ a → a < t.1 → Stb t A q a) : ∀ (w : List Int) (q : Int), 0 ≤ q → q < t.2.2.2.2.1.length → (∀ a ∈ w, 0 ≤ a ∧ a < t.1) →
  ix A q ++ (sy (pT t A) q w ++ ix (pT t A).2.2.2.2.2.2.1 (wlk t.2.2.2.2.1 q w)) = sy t q w ++ ix t.2.2.2.2.2.2.1 (wlk t.2.2.2.2.1 q w)
 | [], q, q0, q1, _ => by
  have := (hA.pre q0 (show q < A.length by rw [hA.l]; exact q1)).2
  have e : ix (pT t A).2.2.2.2.2.2.1 q = pLast t A q := tbl_ix q0 q1
  simp only [sy, wlk, List.foldl_nil, List.nil_append]
  rw [e, this]
 | a :: w, q, q0, q1, hw => by
  have ha := hw a (by simp)
  have hs := h.tab.stpb q0 q1 ha.1 ha.2
  have ih := push_run h hA hS w (stp t.2.2.2.2.1 q a) hs.1 hs.2 (fun b hb => hw b (by simp [hb]))
  have e : ix (ix (pT t A).2.2.2.2.2.1 q) a = pSay t A q a := by
   show ix (ix (tbl t.2.2.2.2.1.length (fun q => tbl t.1.toNat (pSay t A q))) q) a = _
   rw [tbl_ix q0 q1, tbl_ix ha.1 (by omega)]
  have ep := (hS q a q0 q1 ha.1 ha.2).pre
  have ew : wlk t.2.2.2.2.1 q (a :: w) = wlk t.2.2.2.2.1 (stp t.2.2.2.2.1 q a) w := rfl
  have en : stp (pT t A).2.2.2.2.1 q a = stp t.2.2.2.2.1 q a := rfl
  rw [sy, sy, e, ew, en, List.append_assoc, ← List.append_assoc (ix A q), ep, List.append_assoc, ih, List.append_assoc]
theorem cls_run (hU : UOk u) {C : List Int} {K : Nat} (hC : FinT u C K) : ∀ (w : List Int) (p q : Int), 0 ≤ p → p < u.2.2.2.2.1.length → 0 ≤ q → q < u.2.2.2.2.1.length → ix C p = ix C q → (∀ a ∈ w, 0 ≤ a ∧ a < u.1) →
  sy u p w ++ ix u.2.2.2.2.2.2.1 (wlk u.2.2.2.2.1 p w) = sy u q w ++ ix u.2.2.2.2.2.2.1 (wlk u.2.2.2.2.1 q w)
 | [], p, q, p0, p1, q0, q1, e, _ => by
  simp only [sy, wlk, List.foldl_nil, List.nil_append]
  exact (hC.alk p q p0 p1 q0 q1 e).2.1
 | a :: w, p, q, p0, p1, q0, q1, e, hw => by
  have ha := hw a (by simp)
  have sp := hU.tab.stpb p0 p1 ha.1 ha.2
  have sq := hU.tab.stpb q0 q1 ha.1 ha.2
  obtain ⟨e1, e2⟩ := (hC.alk p q p0 p1 q0 q1 e).2.2 a ha.1 ha.2
  have ih := cls_run hU hC w _ _ sp.1 sp.2 sq.1 sq.2 e2 (fun b hb => hw b (by simp [hb]))
  have ew : ∀ x, wlk u.2.2.2.2.1 x (a :: w) = wlk u.2.2.2.2.1 (stp u.2.2.2.2.1 x a) w := fun _ => rfl
  rw [sy, sy, ew, ew, e1, List.append_assoc, ih, List.append_assoc]
theorem lst_run (hU : UOk u) {C Q : List Int} {K : Nat} (hC : FinT u C K) (h : LstOk u o C Q) : ∀ (w : List Int) (v : Int), 0 ≤ v → v < Q.length → (∀ a ∈ w, 0 ≤ a ∧ a < u.1) →
  sy o v w ++ ix o.2.2.2.2.2.2.1 (wlk o.2.2.2.2.1 v w) = sy u (ix Q v) w ++ ix u.2.2.2.2.2.2.1 (wlk u.2.2.2.2.1 (ix Q v) w)
 | [], v, v0, v1, _ => by
  have ha := h.all
  simp only [sy, wlk, List.foldl_nil, List.nil_append]
  exact h.part.last v v0 (by omega)
 | a :: w, v, v0, v1, hw => by
  have hal := h.all
  have ha := hw a (by simp)
  have hb := h.part.q.b _ (ix_mem (l := Q) (i := v) v0 v1)
  obtain ⟨t0, t1, t2⟩ := (h.part.row v v0 (by omega)).to a ha.1 ha.2
  have ih := lst_run hU hC h w _ t0 t1 (fun b hb => hw b (by simp [hb]))
  have hb2 := h.part.q.b _ (ix_mem (l := Q) (i := ix (ix o.2.2.2.2.1 v) a) t0 t1)
  have sq := hU.tab.stpb hb.1 hb.2 ha.1 ha.2
  have ic := cls_run hU hC w _ _ hb2.1 hb2.2 sq.1 sq.2 t2 (fun b hb => hw b (by simp [hb]))
  have ew : ∀ (N : List (List Int)) x, wlk N x (a :: w) = wlk N (stp N x a) w := fun _ _ => rfl
  rw [sy, sy, ew, ew, h.part.says v v0 (by omega), List.append_assoc, List.append_assoc]
  congr 1
  exact ih.trans ic
theorem all_run {t : Tr} (h : BOk t) {A : List (List Int)} (hA : AhOk t A) (hS : ∀ q a : Int, 0 ≤ q → q < t.2.2.2.2.1.length → 0 ≤ a → a < t.1 → Stb t A q a) {C Q : List Int} {K : Nat} (hC : FinT (pT t A) C K) (hO : LstOk (pT t A) o C Q) {w : List Int} (hw : ∀ a ∈ w, 0 ≤ a ∧ a < t.1) : allS o w = allS t w := by
 have hU := pT_ok h hA
 have h1 := lst_run hU hC hO w 0 (by omega) (by have := hO.part.q.z.1; omega) hw
 rw [hO.part.q.z.2] at h1
 have h2 := push_run h hA hS w t.2.2.1 h.st.1 h.st.2 hw
 unfold allS
 rw [hO.fst, hO.st, List.append_assoc, h1]
 show (t.2.2.2.1 ++ ix A t.2.2.1) ++ (sy (pT t A) t.2.2.1 w ++ ix (pT t A).2.2.2.2.2.2.1 (wlk t.2.2.2.2.1 t.2.2.1 w)) = _
 rw [List.append_assoc, h2, List.append_assoc]
end

theorem sy_append (u : Tr) : ∀ (x y : List Int) (r : Int), sy u r (x ++ y) = sy u r x ++ sy u (wlk u.2.2.2.2.1 r x) y
 | [], y, r => rfl
 | a :: x, y, r => by
  rw [List.cons_append, sy, sy, sy_append u x y, List.append_assoc]; rfl
theorem wlk_append (N : List (List Int)) (x y : List Int) (r : Int) : wlk N r (x ++ y) = wlk N (wlk N r x) y := by
 unfold wlk; rw [List.foldl_append]
section
variable {t u : Tr}
theorem run_spec (h : TOk u) {w : List Int} (hw : ∀ a ∈ w, 0 ≤ a ∧ a < u.1) (hl : w.length ≤ 100) {q : Int} (q0 : 0 ≤ q) (q1 : q < u.2.2.2.2.1.length) : trans_run u q w = some (wlk u.2.2.2.2.1 q w, sy u q w) ∧ r16_from u q w = some (wlk u.2.2.2.2.1 q w, sy u q w) := by
 have hsl := h.sl
 have key : ∀ (n : Nat) (i q : Int) (out : List Int), (w.length - i).toNat = n → 0 ≤ i → i ≤ w.length → 0 ≤ q → q < u.2.2.2.2.1.length → (out.length : Int) ≤ 8 * i + 8 →
   trans_run_L3 u w q i out = some (wlk u.2.2.2.2.1 q (w.drop i.toNat), out ++ sy u q (w.drop i.toNat)) ∧ r16_from_L3 u w q i out = some (wlk u.2.2.2.2.1 q (w.drop i.toNat), out ++ sy u q (w.drop i.toNat)) := by
  intro n
  induction n with
  | zero =>
   intro i q out hn i0 i1 q0 q1 ho
   rw [List.drop_of_length_le (by omega)]
   constructor
   ·rw [trans_run_L3_eq]; unfold trans_run_L3_B
    rw [if_neg (by simp only [decide_eq_true_eq]; omega)]
    simp [wlk, sy]
   ·rw [r16_from_L3_eq]; unfold r16_from_L3_B
    rw [if_neg (by simp only [decide_eq_true_eq]; omega)]
    simp [wlk, sy]
  | succ n ih =>
   intro i q out hn i0 i1 q0 q1 ho
   have ha := hw _ (ix_mem i0 (show i < w.length by omega))
   have hr := h.tab.rowlen q0 q1
   have hsr := h.srow q q0 q1
   have hs := h.tab.stpb q0 q1 ha.1 ha.2
   have m : ix (ix u.2.2.2.2.2.1 q) (ix w i) ∈ tW u := List.mem_append_right _ (List.mem_flatten.2 ⟨_, ix_mem q0 (by omega), ix_mem ha.1 (by omega)⟩)
   have hsh := h.short _ m
   have e0 : ix (ix u.2.2.2.2.1 q) (ix w i) = stp u.2.2.2.2.1 q (ix w i) := rfl
   obtain ⟨k1, k2⟩ := ih (i + 1) (stp u.2.2.2.2.1 q (ix w i)) (out ++ ix (ix u.2.2.2.2.2.1 q) (ix w i)) (by omega) (by omega) (by omega) hs.1 hs.2 (by rw [List.length_append]; omega)
   have ed : w.drop i.toNat = ix w i :: w.drop (i + 1).toNat := ix_drop i0 (by omega)
   have e1 : wlk u.2.2.2.2.1 q (w.drop i.toNat) = wlk u.2.2.2.2.1 (stp u.2.2.2.2.1 q (ix w i)) (w.drop (i + 1).toNat) := by rw [ed]; rfl
   have e2 : out ++ sy u q (w.drop i.toNat) = out ++ ix (ix u.2.2.2.2.2.1 q) (ix w i) ++ sy u (stp u.2.2.2.2.1 q (ix w i)) (w.drop (i + 1).toNat) := by rw [ed, sy, List.append_assoc]
   rw [e1, e2]
   constructor
   ·rw [← k1]
    conv => lhs; rw [trans_run_L3_eq]; unfold trans_run_L3_B
    rw [e0, if_pos (decide_eq_true (by omega)), G_pos (by omega), G_pos (by omega), G_pos (by omega), G_pos (by unfold room; omega), G_pos (by omega), G_pos (by omega), G_pos (by unfold fits; omega)]
   ·rw [← k2]
    conv => lhs; rw [r16_from_L3_eq]; unfold r16_from_L3_B
    rw [e0, if_pos (decide_eq_true (by omega)), G_pos (by omega), G_pos (by omega), G_pos (by omega), G_pos (by unfold room; omega), G_pos (by omega), G_pos (by omega), G_pos (by omega), G_pos (by unfold fits; omega)]
 have := key _ 0 q [] rfl (by omega) (by omega) q0 q1 (by simp)
 unfold trans_run r16_from
 simpa using this
def bNx (t u : Tr) (p r a : Int) : Int := stp t.2.2.2.2.1 p a * (u.2.2.2.2.1.length : Int) + wlk u.2.2.2.2.1 r (ix (ix t.2.2.2.2.2.1 p) a)
def bSy (t u : Tr) (p r a : Int) : List Int := sy u r (ix (ix t.2.2.2.2.2.1 p) a)
def bLs (t u : Tr) (p r : Int) : List Int := sy u r (ix t.2.2.2.2.2.2.1 p) ++ ix u.2.2.2.2.2.2.1 (wlk u.2.2.2.2.1 r (ix t.2.2.2.2.2.2.1 p))
def fN (t u : Tr) (x : Int) : List Int := tbl t.1.toNat (bNx t u (x / (u.2.2.2.2.1.length : Int)) (x % (u.2.2.2.2.1.length : Int)))
def fS (t u : Tr) (x : Int) : List (List Int) := tbl t.1.toNat (bSy t u (x / (u.2.2.2.2.1.length : Int)) (x % (u.2.2.2.2.1.length : Int)))
def fL (t u : Tr) (x : Int) : List Int := bLs t u (x / (u.2.2.2.2.1.length : Int)) (x % (u.2.2.2.2.1.length : Int))
def bFs (t u : Tr) : List Int := u.2.2.2.1 ++ sy u u.2.2.1 t.2.2.2.1
def bSt (t u : Tr) : Int := t.2.2.1 * (u.2.2.2.2.1.length : Int) + wlk u.2.2.2.2.1 u.2.2.1 t.2.2.2.1
/-- One behind the other. -/
def BT (t u : Tr) : Tr := (t.1, u.2.1, bSt t u, bFs t u, tbl (t.2.2.2.2.1.length * u.2.2.2.2.1.length) (fN t u), tbl (t.2.2.2.2.1.length * u.2.2.2.2.1.length) (fS t u), tbl (t.2.2.2.2.1.length * u.2.2.2.2.1.length) (fL t u), ())
theorem divmod {p r m : Int} (r0 : 0 ≤ r) (r1 : r < m) : (p * m + r) / m = p ∧ (p * m + r) % m = r := by
 constructor
 ·rw [Int.add_comm, Int.add_mul_ediv_right _ _ (by omega), Int.ediv_eq_zero_of_lt r0 r1]; omega
 ·rw [Int.add_comm, Int.add_mul_emod_self_right, Int.emod_eq_of_lt r0 r1]
theorem mul_lt {p r m n : Int} (p0 : 0 ≤ p) (p1 : p < n) (r0 : 0 ≤ r) (r1 : r < m) : 0 ≤ p * m + r ∧ p * m + r < n * m := by
 have h1 : (p + 1) * m ≤ n * m := Int.mul_le_mul_of_nonneg_right (by omega) (by omega)
 have h2 : 0 ≤ p * m := Int.mul_nonneg p0 (by omega)
 rw [Int.add_mul] at h1
 omega
/-- Both may be, and what one says the other hears. -/
structure TwoOk (t u : Tr) : Prop where
 kt : TOk t
 ku : TOk u
 say : ∀ w ∈ tW t, ∀ a ∈ w, 0 ≤ a ∧ a < u.1
theorem TwoOk.says (h : TwoOk t u) {p a : Int} (p0 : 0 ≤ p) (p1 : p < t.2.2.2.2.1.length) (a0 : 0 ≤ a) (a1 : a < t.1) : ix (ix t.2.2.2.2.2.1 p) a ∈ tW t := by
 have hsl := h.kt.sl
 have hsr := h.kt.srow p p0 p1
 exact List.mem_append_right _ (List.mem_flatten.2 ⟨_, ix_mem p0 (by omega), ix_mem a0 (by omega)⟩)
theorem TwoOk.last (h : TwoOk t u) {p : Int} (p0 : 0 ≤ p) (p1 : p < t.2.2.2.2.1.length) : ix t.2.2.2.2.2.2.1 p ∈ tW t := by
 have hll := h.kt.ll
 exact List.mem_append_left _ (List.mem_append_right _ (ix_mem p0 (by omega)))
theorem last_le (h : TOk u) {p : Int} (p0 : 0 ≤ p) (p1 : p < u.2.2.2.2.1.length) : (ix u.2.2.2.2.2.2.1 p).length ≤ 8 := by
 have hll := h.ll
 exact h.short _ (List.mem_append_left _ (List.mem_append_right _ (ix_mem p0 (by omega))))
theorem TwoOk.nx (h : TwoOk t u) {p r a : Int} (p0 : 0 ≤ p) (p1 : p < t.2.2.2.2.1.length) (r0 : 0 ≤ r) (r1 : r < u.2.2.2.2.1.length) (a0 : 0 ≤ a) (a1 : a < t.1) : 0 ≤ bNx t u p r a ∧ bNx t u p r a < (t.2.2.2.2.1.length : Int) * (u.2.2.2.2.1.length : Int) := by
 have hs := h.kt.tab.stpb p0 p1 a0 a1
 have hm := h.says p0 p1 a0 a1
 have hw := h.ku.tab.wlkb r0 r1 (h.say _ hm)
 exact mul_lt hs.1 hs.2 hw.1 hw.2
theorem TwoOk.nm (h : TwoOk t u) : 1 ≤ t.2.2.2.2.1.length * u.2.2.2.2.1.length ∧ t.2.2.2.2.1.length * u.2.2.2.2.1.length ≤ 36 := by
 have h1 := h.kt.n1; have h2 := h.ku.n1
 exact ⟨Nat.mul_le_mul h1.1 h2.1, Nat.mul_le_mul h1.2 h2.2⟩
theorem TwoOk.dm (h : TwoOk t u) {x : Int} (x0 : 0 ≤ x) (x1 : x < ((t.2.2.2.2.1.length * u.2.2.2.2.1.length : Nat) : Int)) : (0 ≤ x / (u.2.2.2.2.1.length : Int) ∧ x / (u.2.2.2.2.1.length : Int) < t.2.2.2.2.1.length) ∧ 0 ≤ x % (u.2.2.2.2.1.length : Int) ∧ x % (u.2.2.2.2.1.length : Int) < u.2.2.2.2.1.length := by
 have h2 := h.ku.n1
 refine ⟨⟨Int.ediv_nonneg x0 (by omega), ?_⟩, Int.emod_nonneg _ (by omega), Int.emod_lt_of_pos _ (by omega)⟩
 rw [Int.natCast_mul] at x1
 exact Int.ediv_lt_of_lt_mul (by omega) x1
theorem BT_ok (h : TwoOk t u) : BOk (BT t u) := by
 have hn := h.nm
 have hl := h.kt.let1
 have hF := h.kt.short _ (F_mem (t := t))
 have hFu := h.ku.short _ (F_mem (t := u))
 have hfm := h.say _ (F_mem (t := t))
 have hst := h.ku.tab.wlkb h.ku.st.1 h.ku.st.2 hfm
 have hs0 := mul_lt h.kt.st.1 h.kt.st.2 hst.1 hst.2
 have hl1 : (BT t u).2.2.2.2.1.length = t.2.2.2.2.1.length * u.2.2.2.2.1.length := tbl_len _ _
 have eN : ∀ x : Int, 0 ≤ x → x < ((t.2.2.2.2.1.length * u.2.2.2.2.1.length : Nat) : Int) → ix (BT t u).2.2.2.2.1 x = fN t u x := fun x x0 x1 => tbl_ix x0 x1
 have eS : ∀ x : Int, 0 ≤ x → x < ((t.2.2.2.2.1.length * u.2.2.2.2.1.length : Nat) : Int) → ix (BT t u).2.2.2.2.2.1 x = fS t u x := fun x x0 x1 => tbl_ix x0 x1
 have eL : ∀ x : Int, 0 ≤ x → x < ((t.2.2.2.2.1.length * u.2.2.2.2.1.length : Nat) : Int) → ix (BT t u).2.2.2.2.2.2.1 x = fL t u x := fun x x0 x1 => tbl_ix x0 x1
 refine ⟨hl, by rw [hl1]; exact hn, ?_, ?_, ?_, fun i i0 i1 => ?_, ⟨fun r hr => ?_, fun r hr q hq => ?_⟩, fun w hw => ?_⟩
 ·rw [hl1]; exact tbl_len _ _
 ·rw [hl1]; exact tbl_len _ _
 ·rw [hl1, Int.natCast_mul]; exact hs0
 ·rw [hl1] at i1
  rw [eS i i0 i1]
  show ((tbl _ _).length : Int) = t.1
  rw [tbl_len]; omega
 ·obtain ⟨i, i0, i1, rfl⟩ := (ex_ix (P := fun x => x = r)).1 ⟨r, hr, rfl⟩
  rw [hl1] at i1
  rw [eN i i0 i1]
  show ((tbl _ _).length : Int) = t.1
  rw [tbl_len]; omega
 ·obtain ⟨i, i0, i1, rfl⟩ := (ex_ix (P := fun x => x = r)).1 ⟨r, hr, rfl⟩
  rw [hl1] at i1
  rw [eN i i0 i1] at hq
  obtain ⟨a, a0, a1, rfl⟩ := (ex_ix (P := fun x => x = q)).1 ⟨q, hq, rfl⟩
  unfold fN at a1 ⊢
  rw [tbl_len] at a1
  rw [tbl_ix a0 a1]
  obtain ⟨⟨d0, d1⟩, m0, m1⟩ := h.dm i0 i1
  have := h.nx d0 d1 m0 m1 a0 (show a < t.1 by omega)
  rw [hl1, Int.natCast_mul]; exact this
 ·unfold tW at hw
  rcases List.mem_append.1 hw with hw | hw
  ·rcases List.mem_append.1 hw with hw | hw
   ·rw [List.mem_singleton.1 hw]
    show (bFs t u).length ≤ 80
    have := sy_len h.ku (w := t.2.2.2.1) h.ku.st.1 h.ku.st.2 hfm
    unfold bFs
    rw [List.length_append]; omega
   ·obtain ⟨i, i0, i1, rfl⟩ := (ex_ix (P := fun x => x = w)).1 ⟨w, hw, rfl⟩
    have i1' : i < ((t.2.2.2.2.1.length * u.2.2.2.2.1.length : Nat) : Int) := by
     have : (BT t u).2.2.2.2.2.2.1.length = t.2.2.2.2.1.length * u.2.2.2.2.1.length := tbl_len _ _
     omega
    rw [eL i i0 i1']
    obtain ⟨⟨d0, d1⟩, m0, m1⟩ := h.dm i0 i1'
    have hm := h.last d0 d1
    have hs := sy_len h.ku m0 m1 (h.say _ hm)
    have hw := h.ku.tab.wlkb m0 m1 (h.say _ hm)
    have h8 := h.kt.short _ hm
    have := last_le h.ku hw.1 hw.2
    unfold fL bLs
    rw [List.length_append]; omega
  ·obtain ⟨r, hr, hw⟩ := List.mem_flatten.1 hw
   obtain ⟨i, i0, i1, rfl⟩ := (ex_ix (P := fun x => x = r)).1 ⟨r, hr, rfl⟩
   have i1' : i < ((t.2.2.2.2.1.length * u.2.2.2.2.1.length : Nat) : Int) := by
    have : (BT t u).2.2.2.2.2.1.length = t.2.2.2.2.1.length * u.2.2.2.2.1.length := tbl_len _ _
    omega
   rw [eS i i0 i1'] at hw
   obtain ⟨a, a0, a1, rfl⟩ := (ex_ix (P := fun x => x = w)).1 ⟨w, hw, rfl⟩
   unfold fS at a1 ⊢
   rw [tbl_len] at a1
   rw [tbl_ix a0 a1]
   obtain ⟨⟨d0, d1⟩, m0, m1⟩ := h.dm i0 i1'
   have hm := h.says d0 d1 a0 (show a < t.1 by omega)
   have hs := sy_len h.ku m0 m1 (h.say _ hm)
   have h8 := h.kt.short _ hm
   unfold bSy; omega
theorem f_at {p r : Nat} (hr : r < u.2.2.2.2.1.length) : fN t u ((p * u.2.2.2.2.1.length + r : Nat) : Int) = tbl t.1.toNat (bNx t u p r) ∧ fS t u ((p * u.2.2.2.2.1.length + r : Nat) : Int) = tbl t.1.toNat (bSy t u p r) ∧ fL t u ((p * u.2.2.2.2.1.length + r : Nat) : Int) = bLs t u p r := by
 obtain ⟨e1, e2⟩ := divmod (p := (p : Int)) (r := (r : Int)) (m := (u.2.2.2.2.1.length : Int)) (by omega) (by omega)
 have e : ((p * u.2.2.2.2.1.length + r : Nat) : Int) = (p : Int) * (u.2.2.2.2.1.length : Int) + (r : Int) := by rw [Int.natCast_add, Int.natCast_mul]
 unfold fN fS fL
 rw [e, e1, e2]
 exact ⟨rfl, rfl, rfl⟩
theorem bfits (h : TwoOk t u) {q s : Int} (q0 : 0 ≤ q) (q1 : q < t.2.2.2.2.1.length) (s0 : 0 ≤ s) (s1 : s < u.2.2.2.2.1.length) : fits (q * (u.2.2.2.2.1.length : Int)) ∧ fits (q * (u.2.2.2.2.1.length : Int) + s) := by
 have h1 := mul_lt q0 q1 s0 s1
 have h2 := mul_lt q0 q1 (Int.le_refl 0) (show (0 : Int) < u.2.2.2.2.1.length by omega)
 have h3 := h.nm.2
 have h4 : (t.2.2.2.2.1.length : Int) * (u.2.2.2.2.1.length : Int) ≤ 36 := by rw [← Int.natCast_mul]; omega
 unfold fits
 omega
theorem prog_L21 (h : TwoOk t u) {p r : Int} (p0 : 0 ≤ p) (p1 : p < t.2.2.2.2.1.length) (r0 : 0 ≤ r) (r1 : r < u.2.2.2.2.1.length) {o1 o2 o3 : Int} {o4 : List Int} {l : List (List Int)} {l1 : List (List (List Int))} {l2 : List (List Int)} (hl : l.length ≤ 36) (hl1 : l1.length ≤ 36) (hl2 : l2.length ≤ 36) {r17} :
  ∀ (k : Nat) (a : Int) (nx : List Int) (sa : List (List Int)), 0 ≤ a → a + k = t.1 → (nx.length : Int) = t.1 → (sa.length : Int) = t.1 → (∀ j : Int, 0 ≤ j → j < a → ix nx j = bNx t u p r j) → (∀ j : Int, 0 ≤ j → j < a → ix sa j = bSy t u p r j) →
   trans_Behind_L21 t u p u r o1 o2 o3 o4 l l1 l2 r17 a nx sa = r17 u (r + 1) o1 o2 o3 o4 (l ++ [tbl t.1.toNat (bNx t u p r)]) (l1 ++ [tbl t.1.toNat (bSy t u p r)]) (l2 ++ [bLs t u p r]) := by
 have hlt := h.kt.let1; have hsl := h.kt.sl; have hll := h.kt.ll; have hlu := h.ku.ll
 have hrow := h.kt.tab.rowlen p0 p1
 have hsr := h.kt.srow p p0 p1
 intro k
 induction k with
 | zero =>
  intro a nx sa a0 ha hnx hsa h1 h2
  have en : nx = tbl t.1.toNat (bNx t u p r) := tbl_of (by omega) fun j j0 j1 => h1 j j0 (by omega)
  have es : sa = tbl t.1.toNat (bSy t u p r) := tbl_of (by omega) fun j j0 j1 => h2 j j0 (by omega)
  have hm := h.last p0 p1
  have h8 := h.kt.short _ hm
  have hw := h.ku.tab.wlkb r0 r1 (h.say _ hm)
  have hs := sy_len h.ku r0 r1 (h.say _ hm)
  have hle := last_le h.ku hw.1 hw.2
  have hrun := (run_spec h.ku (h.say _ hm) (by omega) r0 r1).1
  have hc := slices_Concat_spec (ls := [sy u r (ix t.2.2.2.2.2.2.1 p), ix u.2.2.2.2.2.2.1 (wlk u.2.2.2.2.1 r (ix t.2.2.2.2.2.2.1 p))]) (by simp) (by simp; omega)
  have hfl : [sy u r (ix t.2.2.2.2.2.2.1 p), ix u.2.2.2.2.2.2.1 (wlk u.2.2.2.2.1 r (ix t.2.2.2.2.2.2.1 p))].flatten = bLs t u p r := by simp [bLs]
  rw [hfl] at hc
  have g1 : room l [nx] 24 := by unfold room; simp; omega
  have g2 : room l1 [sa] 24 := by unfold room; simp; omega
  have g3 : room l2 [bLs t u p r] 24 := by unfold room; simp; omega
  rw [trans_Behind_L21_eq]; unfold trans_Behind_L21_B
  rw [if_neg (by simp only [decide_eq_true_eq]; omega), G_pos (by omega)]
  refine bind_to hrun ?_
  dsimp only
  rw [G_pos (by omega), hc]
  dsimp only [Option.bind]
  simp only [G_pos g1, G_pos g2, G_pos g3, both_self]
  unfold trans_Behind_J27
  rw [G_pos (by unfold fits; have := h.ku.n1; omega), en, es]
 | succ k ih =>
  intro a nx sa a0 ha hnx hsa h1 h2
  have hm := h.says p0 p1 a0 (show a < t.1 by omega)
  have h8 := h.kt.short _ hm
  have hrun := (run_spec h.ku (h.say _ hm) (by omega) r0 r1).1
  have hto := h.kt.tab.stpb p0 p1 a0 (show a < t.1 by omega)
  have hw := h.ku.tab.wlkb r0 r1 (h.say _ hm)
  obtain ⟨f1, f2⟩ := bfits h hto.1 hto.2 hw.1 hw.2
  have e0 : ix (ix t.2.2.2.2.1 p) a = stp t.2.2.2.2.1 p a := rfl
  have := ih (a + 1) (nx.set a.toNat (bNx t u p r a)) (sa.set a.toNat (bSy t u p r a)) (by omega) (by omega) (by rw [List.length_set]; exact hnx) (by rw [List.length_set]; exact hsa) (fun j j0 j1 => by
    by_cases e : a = j
    ·rw [← e, ix_set_same a0 (by omega)]
    ·rw [ix_set_ne a0 j0 e]; exact h1 j j0 (by omega)) (fun j j0 j1 => by
    by_cases e : a = j
    ·rw [← e, ix_set_same a0 (by omega)]
    ·rw [ix_set_ne a0 j0 e]; exact h2 j j0 (by omega))
  rw [← this]
  conv => lhs; rw [trans_Behind_L21_eq]; unfold trans_Behind_L21_B
  rw [e0, if_pos (decide_eq_true (by omega)), G_pos (by omega), G_pos (by omega), G_pos (by omega)]
  refine bind_to hrun ?_
  dsimp only
  rw [G_pos f1, G_pos f2, G_pos (by omega), G_pos (by omega), G_pos (by omega), G_pos (by omega), G_pos (by unfold fits; omega)]
  rfl
theorem prog_L17 (h : TwoOk t u) {p : Nat} (p1 : p < t.2.2.2.2.1.length) {o1 o2 o3 : Int} {o4 : List Int} {r14} :
  ∀ (k r : Nat), r + k = u.2.2.2.2.1.length → trans_Behind_L17 t u p r14 u r o1 o2 o3 o4 (tbl (p * u.2.2.2.2.1.length + r) (fN t u)) (tbl (p * u.2.2.2.2.1.length + r) (fS t u)) (tbl (p * u.2.2.2.2.1.length + r) (fL t u)) =
   r14 u (p + 1) o1 o2 o3 o4 (tbl ((p + 1) * u.2.2.2.2.1.length) (fN t u)) (tbl ((p + 1) * u.2.2.2.2.1.length) (fS t u)) (tbl ((p + 1) * u.2.2.2.2.1.length) (fL t u)) := by
 have hlt := h.kt.let1; have hn := h.kt.n1; have hm := h.ku.n1
 intro k
 induction k with
 | zero =>
  intro r hr
  rw [trans_Behind_L17_eq]; unfold trans_Behind_L17_B
  have e : p * u.2.2.2.2.1.length + r = (p + 1) * u.2.2.2.2.1.length := by rw [Nat.add_mul]; omega
  rw [if_neg (by simp only [decide_eq_true_eq]; omega), G_pos (by unfold fits; omega), e]
 | succ k ih =>
  intro r hr
  have hx : p * u.2.2.2.2.1.length + r ≤ 36 := by
   have : p * u.2.2.2.2.1.length + r < t.2.2.2.2.1.length * u.2.2.2.2.1.length := by
    have := Nat.mul_le_mul_right u.2.2.2.2.1.length (show p + 1 ≤ t.2.2.2.2.1.length by omega)
    rw [Nat.add_mul] at this; omega
   have := h.nm.2; omega
  obtain ⟨e1, e2, e3⟩ := f_at (t := t) (u := u) (p := p) (r := r) (by omega)
  have L := prog_L21 h (p := (p : Int)) (r := (r : Int)) (by omega) (by omega) (by omega) (by omega) (o1 := o1) (o2 := o2) (o3 := o3) (o4 := o4) (l := tbl (p * u.2.2.2.2.1.length + r) (fN t u)) (l1 := tbl (p * u.2.2.2.2.1.length + r) (fS t u)) (l2 := tbl (p * u.2.2.2.2.1.length + r) (fL t u)) (by rw [tbl_len]; exact hx) (by rw [tbl_len]; exact hx) (by rw [tbl_len]; exact hx) (r17 := trans_Behind_L17 t u p r14) t.1.toNat 0 (List.replicate t.1.toNat 0) (List.replicate t.1.toNat []) (by omega) (by omega) (by simp; omega) (by simp; omega) (fun j a b => by omega) (fun j a b => by omega)
  have := ih (r + 1) (by omega)
  rw [← Nat.add_assoc, tbl_succ, tbl_succ, tbl_succ, e1, e2, e3, show (((r + 1 : Nat) : Int)) = (r : Int) + 1 by omega] at this
  rw [← this, ← L]
  conv => lhs; rw [trans_Behind_L17_eq]; unfold trans_Behind_L17_B
  have g1 : mkOK t.1 t.1 8 := by unfold mkOK; omega
  have g2 : mkOK t.1 t.1 24 := by unfold mkOK; omega
  rw [if_pos (decide_eq_true (by omega))]
  simp only [G_pos g1, G_pos g2, both_self]
  unfold trans_Behind_J19
  rw [G_pos (by omega)]
theorem prog_L14 (h : TwoOk t u) {o1 o2 o3 : Int} {o4 : List Int} {res : Tr × Int} (hres : ((trans_least (o1, o2, o3, o4, tbl (t.2.2.2.2.1.length * u.2.2.2.2.1.length) (fN t u), tbl (t.2.2.2.2.1.length * u.2.2.2.2.1.length) (fS t u), tbl (t.2.2.2.2.1.length * u.2.2.2.2.1.length) (fL t u), ())).bind trans_told) = some res) :
  ∀ (k p : Nat), p + k = t.2.2.2.2.1.length → trans_Behind_L14 t u u p o1 o2 o3 o4 (tbl (p * u.2.2.2.2.1.length) (fN t u)) (tbl (p * u.2.2.2.2.1.length) (fS t u)) (tbl (p * u.2.2.2.2.1.length) (fL t u)) = some res := by
 intro k
 induction k with
 | zero =>
  intro p hp
  rw [trans_Behind_L14_eq]; unfold trans_Behind_L14_B
  rw [if_neg (by simp only [decide_eq_true_eq]; omega), show p = t.2.2.2.2.1.length by omega]
  rw [← hres]
  cases trans_least (o1, o2, o3, o4, tbl (t.2.2.2.2.1.length * u.2.2.2.2.1.length) (fN t u), tbl (t.2.2.2.2.1.length * u.2.2.2.2.1.length) (fS t u), tbl (t.2.2.2.2.1.length * u.2.2.2.2.1.length) (fL t u), ()) with
  | none => rfl
  | some y =>
   show (trans_told y).bind _ = trans_told y
   cases trans_told y with
   | none => rfl
   | some z => rfl
 | succ k ih =>
  intro p hp
  have L := prog_L17 h (p := p) (by omega) (o1 := o1) (o2 := o2) (o3 := o3) (o4 := o4) (r14 := trans_Behind_L14 t u) u.2.2.2.2.1.length 0 (by omega)
  have := ih (p + 1) (by omega)
  rw [show (((p + 1 : Nat) : Int)) = (p : Int) + 1 by omega] at this
  rw [← this, ← L]
  conv => lhs; rw [trans_Behind_L14_eq]; unfold trans_Behind_L14_B
  rw [if_pos (decide_eq_true (by omega))]
  rfl
theorem ref_L16 (h : TwoOk t u) {p r : Int} (p0 : 0 ≤ p) (p1 : p < t.2.2.2.2.1.length) (r0 : 0 ≤ r) (r1 : r < u.2.2.2.2.1.length) {o1 o2 o3 : Int} {o4 : List Int} {l : List (List Int)} {l1 : List (List (List Int))} {l2 : List (List Int)} (hl : l.length ≤ 36) (hl1 : l1.length ≤ 36) (hl2 : l2.length ≤ 36) {r11} :
  ∀ (k : Nat) (a : Int), 0 ≤ a → a + k = t.1 →
   r16_Behind_L16 t u p r o1 o2 o3 o4 l l1 l2 r11 a (tbl a.toNat (bNx t u p r)) (tbl a.toNat (bSy t u p r)) = r11 (r + 1) o1 o2 o3 o4 (l ++ [tbl t.1.toNat (bNx t u p r)]) (l1 ++ [tbl t.1.toNat (bSy t u p r)]) (l2 ++ [bLs t u p r]) := by
 have hlt := h.kt.let1; have hsl := h.kt.sl; have hll := h.kt.ll; have hlu := h.ku.ll
 have hrow := h.kt.tab.rowlen p0 p1
 have hsr := h.kt.srow p p0 p1
 intro k
 induction k with
 | zero =>
  intro a a0 ha
  have hm := h.last p0 p1
  have h8 := h.kt.short _ hm
  have hw := h.ku.tab.wlkb r0 r1 (h.say _ hm)
  have hs := sy_len h.ku r0 r1 (h.say _ hm)
  have hle := last_le h.ku hw.1 hw.2
  have hrun := (run_spec h.ku (h.say _ hm) (by omega) r0 r1).2
  rw [r16_Behind_L16_eq]; unfold r16_Behind_L16_B
  rw [if_neg (by simp only [decide_eq_true_eq]; omega), G_pos (by omega)]
  refine bind_to hrun ?_
  dsimp only
  rw [G_pos (by omega), G_pos (by unfold room; omega), G_pos (by unfold room; simp; omega), G_pos (by unfold room; simp; omega), G_pos (by unfold room; simp; omega), G_pos (by unfold fits; have := h.ku.n1; omega), show a = t.1 by omega]
  rfl
 | succ k ih =>
  intro a a0 ha
  have hm := h.says p0 p1 a0 (show a < t.1 by omega)
  have h8 := h.kt.short _ hm
  have hrun := (run_spec h.ku (h.say _ hm) (by omega) r0 r1).2
  have hto := h.kt.tab.stpb p0 p1 a0 (show a < t.1 by omega)
  have hw := h.ku.tab.wlkb r0 r1 (h.say _ hm)
  obtain ⟨f1, f2⟩ := bfits h hto.1 hto.2 hw.1 hw.2
  have e0 : ix (ix t.2.2.2.2.1 p) a = stp t.2.2.2.2.1 p a := rfl
  have := ih (a + 1) (by omega) (by omega)
  rw [← this, show (a + 1).toNat = a.toNat + 1 by omega, tbl_succ, tbl_succ, Int.toNat_of_nonneg a0]
  conv => lhs; rw [r16_Behind_L16_eq]; unfold r16_Behind_L16_B
  rw [e0, if_pos (decide_eq_true (by omega)), G_pos (by omega), G_pos (by omega)]
  refine bind_to hrun ?_
  dsimp only
  rw [G_pos (by omega), G_pos (by omega), G_pos f1, G_pos f2, G_pos (by unfold room; rw [tbl_len]; simp; omega), G_pos (by unfold room; rw [tbl_len]; simp; omega), G_pos (by unfold fits; omega)]
  rfl
theorem ref_L11 (h : TwoOk t u) {p : Nat} (p1 : p < t.2.2.2.2.1.length) {o1 o2 o3 : Int} {o4 : List Int} {r8} :
  ∀ (k r : Nat), r + k = u.2.2.2.2.1.length → r16_Behind_L11 t u p r8 r o1 o2 o3 o4 (tbl (p * u.2.2.2.2.1.length + r) (fN t u)) (tbl (p * u.2.2.2.2.1.length + r) (fS t u)) (tbl (p * u.2.2.2.2.1.length + r) (fL t u)) =
   r8 (p + 1) o1 o2 o3 o4 (tbl ((p + 1) * u.2.2.2.2.1.length) (fN t u)) (tbl ((p + 1) * u.2.2.2.2.1.length) (fS t u)) (tbl ((p + 1) * u.2.2.2.2.1.length) (fL t u)) := by
 have hlt := h.kt.let1; have hn := h.kt.n1; have hm := h.ku.n1
 intro k
 induction k with
 | zero =>
  intro r hr
  rw [r16_Behind_L11_eq]; unfold r16_Behind_L11_B
  have e : p * u.2.2.2.2.1.length + r = (p + 1) * u.2.2.2.2.1.length := by rw [Nat.add_mul]; omega
  rw [if_neg (by simp only [decide_eq_true_eq]; omega), G_pos (by unfold fits; omega), e]
 | succ k ih =>
  intro r hr
  have hx : p * u.2.2.2.2.1.length + r ≤ 36 := by
   have : p * u.2.2.2.2.1.length + r < t.2.2.2.2.1.length * u.2.2.2.2.1.length := by
    have := Nat.mul_le_mul_right u.2.2.2.2.1.length (show p + 1 ≤ t.2.2.2.2.1.length by omega)
    rw [Nat.add_mul] at this; omega
   have := h.nm.2; omega
  obtain ⟨e1, e2, e3⟩ := f_at (t := t) (u := u) (p := p) (r := r) (by omega)
  have L := ref_L16 h (p := (p : Int)) (r := (r : Int)) (by omega) (by omega) (by omega) (by omega) (o1 := o1) (o2 := o2) (o3 := o3) (o4 := o4) (l := tbl (p * u.2.2.2.2.1.length + r) (fN t u)) (l1 := tbl (p * u.2.2.2.2.1.length + r) (fS t u)) (l2 := tbl (p * u.2.2.2.2.1.length + r) (fL t u)) (by rw [tbl_len]; exact hx) (by rw [tbl_len]; exact hx) (by rw [tbl_len]; exact hx) (r11 := r16_Behind_L11 t u p r8) t.1.toNat 0 (by omega) (by omega)
  have := ih (r + 1) (by omega)
  rw [← Nat.add_assoc, tbl_succ, tbl_succ, tbl_succ, e1, e2, e3, show (((r + 1 : Nat) : Int)) = (r : Int) + 1 by omega] at this
  rw [← this, ← L]
  conv => lhs; rw [r16_Behind_L11_eq]; unfold r16_Behind_L11_B
  rw [if_pos (decide_eq_true (by omega))]
  rfl
theorem ref_L8 (h : TwoOk t u) {o1 o2 o3 : Int} {o4 : List Int} {res : Tr} (hres : r16_Least (o1, o2, o3, o4, tbl (t.2.2.2.2.1.length * u.2.2.2.2.1.length) (fN t u), tbl (t.2.2.2.2.1.length * u.2.2.2.2.1.length) (fS t u), tbl (t.2.2.2.2.1.length * u.2.2.2.2.1.length) (fL t u), ()) = some res) :
  ∀ (k p : Nat), p + k = t.2.2.2.2.1.length → r16_Behind_L8 t u p o1 o2 o3 o4 (tbl (p * u.2.2.2.2.1.length) (fN t u)) (tbl (p * u.2.2.2.2.1.length) (fS t u)) (tbl (p * u.2.2.2.2.1.length) (fL t u)) = some res := by
 intro k
 induction k with
 | zero =>
  intro p hp
  rw [r16_Behind_L8_eq]; unfold r16_Behind_L8_B
  rw [if_neg (by simp only [decide_eq_true_eq]; omega), show p = t.2.2.2.2.1.length by omega]
  exact bind_to hres rfl
 | succ k ih =>
  intro p hp
  have L := ref_L11 h (p := p) (by omega) (o1 := o1) (o2 := o2) (o3 := o3) (o4 := o4) (r8 := r16_Behind_L8 t u) u.2.2.2.2.1.length 0 (by omega)
  have := ih (p + 1) (by omega)
  rw [show (((p + 1 : Nat) : Int)) = (p : Int) + 1 by omega] at this
  rw [← this, ← L]
  conv => lhs; rw [r16_Behind_L8_eq]; unfold r16_Behind_L8_B
  rw [if_pos (decide_eq_true (by omega))]
  rfl
theorem BT_run (h : TwoOk t u) : ∀ (w : List Int) (p r : Int), 0 ≤ p → p < t.2.2.2.2.1.length → 0 ≤ r → r < u.2.2.2.2.1.length → (∀ a ∈ w, 0 ≤ a ∧ a < t.1) →
  sy (BT t u) (p * (u.2.2.2.2.1.length : Int) + r) w ++ ix (BT t u).2.2.2.2.2.2.1 (wlk (BT t u).2.2.2.2.1 (p * (u.2.2.2.2.1.length : Int) + r) w) =
   sy u r (sy t p w ++ ix t.2.2.2.2.2.2.1 (wlk t.2.2.2.2.1 p w)) ++ ix u.2.2.2.2.2.2.1 (wlk u.2.2.2.2.1 r (sy t p w ++ ix t.2.2.2.2.2.2.1 (wlk t.2.2.2.2.1 p w)))
 | [], p, r, p0, p1, r0, r1, _ => by
  obtain ⟨e1, e2⟩ := divmod (p := p) r0 r1
  have hx := mul_lt p0 p1 r0 r1
  have : ix (BT t u).2.2.2.2.2.2.1 (p * (u.2.2.2.2.1.length : Int) + r) = fL t u (p * (u.2.2.2.2.1.length : Int) + r) := tbl_ix hx.1 (by rw [Int.natCast_mul]; exact hx.2)
  simp only [sy, wlk, List.foldl_nil, List.nil_append]
  rw [this]
  unfold fL bLs
  rw [e1, e2]; rfl
 | a :: w, p, r, p0, p1, r0, r1, hw => by
  have ha := hw a (by simp)
  have hlt := h.kt.let1
  obtain ⟨e1, e2⟩ := divmod (p := p) r0 r1
  have hx := mul_lt p0 p1 r0 r1
  have hto := h.kt.tab.stpb p0 p1 ha.1 ha.2
  have hm := h.says p0 p1 ha.1 ha.2
  have hwl := h.ku.tab.wlkb r0 r1 (h.say _ hm)
  have eS : ix (ix (BT t u).2.2.2.2.2.1 (p * (u.2.2.2.2.1.length : Int) + r)) a = bSy t u p r a := by
   have : ix (BT t u).2.2.2.2.2.1 (p * (u.2.2.2.2.1.length : Int) + r) = fS t u (p * (u.2.2.2.2.1.length : Int) + r) := tbl_ix hx.1 (by rw [Int.natCast_mul]; exact hx.2)
   rw [this]; unfold fS
   rw [tbl_ix ha.1 (by omega), e1, e2]
  have eN : stp (BT t u).2.2.2.2.1 (p * (u.2.2.2.2.1.length : Int) + r) a = bNx t u p r a := by
   have : ix (BT t u).2.2.2.2.1 (p * (u.2.2.2.2.1.length : Int) + r) = fN t u (p * (u.2.2.2.2.1.length : Int) + r) := tbl_ix hx.1 (by rw [Int.natCast_mul]; exact hx.2)
   unfold stp
   rw [this]; unfold fN
   rw [tbl_ix ha.1 (by omega), e1, e2]
  have ih := BT_run h w (stp t.2.2.2.2.1 p a) (wlk u.2.2.2.2.1 r (ix (ix t.2.2.2.2.2.1 p) a)) hto.1 hto.2 hwl.1 hwl.2 (fun b hb => hw b (by simp [hb]))
  have ew : ∀ (N : List (List Int)) x, wlk N x (a :: w) = wlk N (stp N x a) w := fun _ _ => rfl
  rw [sy, ew, eS, eN, List.append_assoc]
  unfold bNx
  rw [ih, sy, ew]
  unfold bSy
  simp only [sy_append, wlk_append, List.append_assoc]
theorem BT_all (h : TwoOk t u) {w : List Int} (hw : ∀ a ∈ w, 0 ≤ a ∧ a < t.1) : allS (BT t u) w = allS u (allS t w) := by
 have hfm := h.say _ (F_mem (t := t))
 have hst := h.ku.tab.wlkb h.ku.st.1 h.ku.st.2 hfm
 have := BT_run h w t.2.2.1 (wlk u.2.2.2.2.1 u.2.2.1 t.2.2.2.1) h.kt.st.1 h.kt.st.2 hst.1 hst.2 hw
 unfold allS
 show bFs t u ++ sy (BT t u) (bSt t u) w ++ ix (BT t u).2.2.2.2.2.2.1 (wlk (BT t u).2.2.2.2.1 (bSt t u) w) = _
 rw [List.append_assoc]
 unfold bSt
 rw [this]
 unfold bFs
 simp only [sy_append, wlk_append, List.append_assoc]
theorem all_letters (h : TwoOk t u) : ∀ (w : List Int) (p : Int), 0 ≤ p → p < t.2.2.2.2.1.length → (∀ a ∈ w, 0 ≤ a ∧ a < t.1) → ∀ a ∈ sy t p w, 0 ≤ a ∧ a < u.1
 | [], p, _, _, _, a, ha => by cases ha
 | b :: w, p, p0, p1, hw, a, ha => by
  have hb := hw b (by simp)
  have hto := h.kt.tab.stpb p0 p1 hb.1 hb.2
  rw [sy] at ha
  rcases List.mem_append.1 ha with ha | ha
  ·exact h.say _ (h.says p0 p1 hb.1 hb.2) a ha
  ·exact all_letters h w _ hto.1 hto.2 (fun c hc => hw c (by simp [hc])) a ha
theorem all_ok (h : TwoOk t u) {w : List Int} (hw : ∀ a ∈ w, 0 ≤ a ∧ a < t.1) : (∀ a ∈ allS t w, 0 ≤ a ∧ a < u.1) ∧ (allS t w).length ≤ 8 * w.length + 16 := by
 have hst := h.kt.st
 have hwl := h.kt.tab.wlkb hst.1 hst.2 hw
 have hm := h.last hwl.1 hwl.2
 constructor
 ·intro a ha
  unfold allS at ha
  rcases List.mem_append.1 ha with ha | ha
  ·rcases List.mem_append.1 ha with ha | ha
   ·exact h.say _ (F_mem (t := t)) a ha
   ·exact all_letters h w _ hst.1 hst.2 hw a ha
  ·exact h.say _ hm a ha
 ·have h1 := sy_len h.kt (w := w) hst.1 hst.2 hw
  have h2 := h.kt.short _ (F_mem (t := t))
  have h3 := h.kt.short _ hm
  unfold allS
  rw [List.length_append, List.length_append]; omega
theorem behind_both (h : TwoOk t u) {o : Tr} (e1 : trans_least (BT t u) = some o) (e2 : r16_Least (BT t u) = some o) (hE : trE t = 0 ∧ trE u = 0) (hL : t.2.1 = u.1) {res : Tr × Int} (hres : trans_told o = some res) : trans_Behind t u = some res ∧ r16_Behind t u = some o := by
 have hfm := h.say _ (F_mem (t := t))
 have hF := h.kt.short _ (F_mem (t := t))
 have hFu := h.ku.short _ (F_mem (t := u))
 have hst := h.ku.tab.wlkb h.ku.st.1 h.ku.st.2 hfm
 have hsl := sy_len h.ku (w := t.2.2.2.1) h.ku.st.1 h.ku.st.2 hfm
 obtain ⟨r1, r2⟩ := run_spec h.ku hfm (by omega) h.ku.st.1 h.ku.st.2
 obtain ⟨f1, f2⟩ := bfits h h.kt.st.1 h.kt.st.2 hst.1 hst.2
 constructor
 ·unfold trans_Behind
  rw [trans_Behind_L2_eq]; unfold trans_Behind_L2_B
  rw [if_pos (by simp), G_pos (by simp), G_pos (by simp)]
  refine bind_to (trans_Check_spec (t := t)) ?_
  rw [if_neg (by simpa using hE.1), G_pos (by unfold fits; omega), trans_Behind_L2_eq]; unfold trans_Behind_L2_B
  rw [if_pos (by simp), G_pos (by simp), G_pos (by simp)]
  refine bind_to (trans_Check_spec (t := u)) ?_
  rw [if_neg (by simpa using hE.2), G_pos (by unfold fits; omega), trans_Behind_L2_eq]; unfold trans_Behind_L2_B
  rw [if_neg (by simp), if_neg (by simpa using hL)]
  refine bind_to r1 ?_
  have hc := slices_Concat_spec (ls := [u.2.2.2.1, sy u u.2.2.1 t.2.2.2.1]) (by simp) (by simp; omega)
  have hfl : [u.2.2.2.1, sy u u.2.2.1 t.2.2.2.1].flatten = bFs t u := by simp [bFs]
  rw [hfl] at hc
  dsimp only
  rw [G_pos f1, G_pos f2, hc]
  dsimp only [Option.bind]
  simp only [both_self]
  unfold trans_Behind_J12
  have := prog_L14 h (o1 := t.1) (o2 := u.2.1) (o3 := bSt t u) (o4 := bFs t u) (res := res) (bind_to e1 hres) t.2.2.2.2.1.length 0 (by omega)
  rw [Nat.zero_mul] at this
  exact this
 ·unfold r16_Behind
  refine bind_to r2 ?_
  dsimp only
  rw [G_pos (by unfold room; simp; omega), G_pos (by unfold room; omega), G_pos f1, G_pos f2]
  have := ref_L8 h (o1 := t.1) (o2 := u.2.1) (o3 := bSt t u) (o4 := bFs t u) (res := o) e2 t.2.2.2.2.1.length 0 (by omega)
  rw [Nat.zero_mul] at this
  exact this
end
abbrev zeroT : Tr := (0, 0, 0, [], [], [], [], ())
theorem law_true (t u : Tr) (w : List Int) : law_TransBehind t u w = some true := by
 have fin : ∀ e : Int, ¬ e = 0 → law_TransBehind_J14 t u w zeroT e e = some true := by
  intro e he
  unfold law_TransBehind_J14
  rw [if_pos (decide_eq_true he)]
  have : law_noTrans zeroT = some true := by
   unfold law_noTrans
   rw [if_pos (by simp), if_pos (by simp), if_pos (by simp), G_pos (by unfold fits; simp), G_pos (by unfold fits; simp), G_pos (by unfold fits; simp)]
   rfl
  refine bind_to this ?_
  rw [if_pos (decide_eq_true rfl)]
 have e6 : ∀ e : Int, ¬ e = 0 → law_TransBehind_J6 t u w zeroT e e = some true := fun e he => by
  unfold law_TransBehind_J6
  rw [if_neg (by simpa using he)]
  exact fin e he
 unfold law_TransBehind
 by_cases h1 : trE t = 0
 ·by_cases h2 : trE u = 0
  ·by_cases hL : t.2.1 = u.1
   ·have h : TwoOk t u := ⟨trE_zero h1, trE_zero h2, fun w hw a ha => by rw [← hL]; exact trE_zero_say h1 w hw a ha⟩
    obtain ⟨A, o, C, K, Q, hA, hS, hC, hO, e1, e2⟩ := least_two (BT_ok h)
    have hU := pT_ok (BT_ok h) hA
    have sh := hO.sh hU hC
    have hck := r16_Check_spec (t := t)
    have hcu := r16_Check_spec (t := u)
    rw [h1] at hck; rw [h2] at hcu
    have j : ∀ (y : Tr) (e : Int), law_TransBehind_J4 t u w y e 0 = law_TransBehind_J6 t u w y e 0 := fun y e => by
     unfold law_TransBehind_J4
     rw [if_pos (by simp)]
     unfold law_TransBehind_J5
     rw [if_neg (by simp [hL])]
    by_cases c : TLong o ∨ 6 < o.2.2.2.2.1.length
    ·have ht : trans_told o = some (zeroT, 7) := by
      unfold trans_told
      by_cases c6 : 6 < o.2.2.2.2.1.length
      ·rw [if_pos (decide_eq_true (by omega))]
      ·rw [if_neg (by simp only [decide_eq_true_eq]; omega)]
       exact (trans_long_spec sh).to (fun _ => rfl) (fun hh => absurd (c.resolve_right c6) hh)
     obtain ⟨b1, b2⟩ := behind_both h e1 e2 ⟨h1, h2⟩ hL ht
     refine bind_to b1 (bind_to hck ?_)
     rw [if_pos (by simp)]
     refine bind_to hcu ?_
     rw [j]
     unfold law_TransBehind_J6
     rw [if_pos (by simp)]
     refine bind_to b2 ?_
     refine (r16_Long_spec sh).to (fun _ => ?_) (fun hh => ?_)
     ·unfold law_TransBehind_J10
      rw [if_pos rfl]
      exact fin 7 (by decide)
     ·unfold law_TransBehind_J10
      rw [if_pos (decide_eq_true (by have := c.resolve_left hh; omega))]
      exact fin 7 (by decide)
    ·have c1 : ¬ TLong o := fun hh => c (.inl hh)
     have c2 : o.2.2.2.2.1.length ≤ 6 := by
      by_cases c6 : 6 < o.2.2.2.2.1.length
      ·exact absurd (.inr c6) c
      ·omega
     have hsh : ∀ w ∈ tW o, w.length ≤ 8 := fun w hw => by
      by_cases e : 8 < w.length
      ·exact absurd ⟨w, hw, e⟩ c1
      ·omega
     have oko := hO.tok hU hC hsh c2
     have ht : trans_told o = some (o, 0) := by
      unfold trans_told
      rw [if_neg (by simp only [decide_eq_true_eq]; omega)]
      exact (trans_long_spec sh).to (fun hh => absurd hh c1) (fun _ => rfl)
     obtain ⟨b1, b2⟩ := behind_both h e1 e2 ⟨h1, h2⟩ hL ht
     refine bind_to b1 (bind_to hck ?_)
     rw [if_pos (by simp)]
     refine bind_to hcu ?_
     rw [j]
     unfold law_TransBehind_J6
     rw [if_pos (by simp)]
     refine bind_to b2 ?_
     refine (r16_Long_spec sh).to (fun hh => absurd hh c1) (fun _ => ?_)
     unfold law_TransBehind_J10
     rw [if_neg (by simp only [decide_eq_true_eq]; omega)]
     have hrow : ∀ q : Int, 0 ≤ q → q < o.2.2.2.2.1.length → (ix o.2.2.2.2.1 q).length ≤ 100 := fun q q0 q1 => by
      have := oko.tab.rowlen q0 q1
      have := oko.let1
      omega
     refine bind_to (r16_Same_refl sh hsh hrow) ?_
     rw [if_neg (by simp), if_neg (by simp)]
     unfold law_TransBehind_J14
     rw [if_neg (by simp)]
     refine bind_to r1_May_spec ?_
     by_cases h3 : mayE t.1 w = 0
     ·rw [if_neg (by simpa using h3)]
      have hm := mayE_zero h3
      obtain ⟨k1, k2⟩ := all_ok h hm.2.2
      refine bind_to (r16_Run_spec h.kt hm.2.2 (by omega)) ?_
      refine bind_to (r16_Run_spec h.ku k1 (by omega)) ?_
      have hi : o.1 = t.1 := hO.inn
      refine bind_to (r16_Run_spec oko (fun a ha => by rw [hi]; exact hm.2.2 a ha) (by omega)) ?_
      have hq : allS o w = allS u (allS t w) := (all_run (BT_ok h) hA hS hC hO hm.2.2).trans (BT_all h hm.2.2)
      have hl : (allS o w).length ≤ 8 * w.length + 16 := by
       have hwo : ∀ a ∈ w, 0 ≤ a ∧ a < o.1 := fun a ha => by rw [hi]; exact hm.2.2 a ha
       have g1 := sy_len oko (w := w) oko.st.1 oko.st.2 hwo
       have g2 := oko.short _ F_mem
       have hb := oko.tab.wlkb (w := w) oko.st.1 oko.st.2 hwo
       have g3 := last_le oko hb.1 hb.2
       unfold allS
       rw [List.length_append, List.length_append]
       omega
      refine bind_to (r1_Words_spec (by rw [← hq]; omega)) ?_
      rw [hq]; simp
     ·rw [if_pos (by simpa using h3)]
   ·have eB : trans_Behind t u = some (zeroT, 3) := by
     unfold trans_Behind
     rw [trans_Behind_L2_eq]; unfold trans_Behind_L2_B
     rw [if_pos (by simp), G_pos (by simp), G_pos (by simp)]
     refine bind_to (trans_Check_spec (t := t)) ?_
     rw [if_neg (by simpa using h1), G_pos (by unfold fits; omega), trans_Behind_L2_eq]; unfold trans_Behind_L2_B
     rw [if_pos (by simp), G_pos (by simp), G_pos (by simp)]
     refine bind_to (trans_Check_spec (t := u)) ?_
     rw [if_neg (by simpa using h2), G_pos (by unfold fits; omega), trans_Behind_L2_eq]; unfold trans_Behind_L2_B
     rw [if_neg (by simp), if_pos (by simpa using hL)]
    refine bind_to eB (bind_to (r16_Check_spec (t := t)) ?_)
    rw [if_pos (by simpa using h1)]
    refine bind_to (r16_Check_spec (t := u)) ?_
    rw [h2]
    unfold law_TransBehind_J4
    rw [if_pos (by simp)]
    unfold law_TransBehind_J5
    rw [if_pos (by simpa using hL)]
    exact e6 3 (by decide)
  ·have eB : trans_Behind t u = some (zeroT, trE u) := by
    unfold trans_Behind
    rw [trans_Behind_L2_eq]; unfold trans_Behind_L2_B
    rw [if_pos (by simp), G_pos (by simp), G_pos (by simp)]
    refine bind_to (trans_Check_spec (t := t)) ?_
    rw [if_neg (by simpa using h1), G_pos (by unfold fits; omega), trans_Behind_L2_eq]; unfold trans_Behind_L2_B
    rw [if_pos (by simp), G_pos (by simp), G_pos (by simp)]
    refine bind_to (trans_Check_spec (t := u)) ?_
    rw [if_pos (by simpa using h2)]
   refine bind_to eB (bind_to (r16_Check_spec (t := t)) ?_)
   rw [if_pos (by simpa using h1)]
   refine bind_to (r16_Check_spec (t := u)) ?_
   unfold law_TransBehind_J4
   rw [if_neg (by simpa using h2)]
   unfold law_TransBehind_J5
   rw [if_neg (by simp)]
   exact e6 _ h2
 ·have eB : trans_Behind t u = some (zeroT, trE t) := by
   unfold trans_Behind
   rw [trans_Behind_L2_eq]; unfold trans_Behind_L2_B
   rw [if_pos (by simp), G_pos (by simp), G_pos (by simp)]
   refine bind_to (trans_Check_spec (t := t)) ?_
   rw [if_pos (by simpa using h1)]
  refine bind_to eB (bind_to (r16_Check_spec (t := t)) ?_)
  rw [if_neg (by simpa using h1)]
  unfold law_TransBehind_J4
  rw [if_neg (by simpa using h1)]
  unfold law_TransBehind_J5
  rw [if_neg (by simp)]
  exact e6 _ h1

end Go.Proofs.Ytncddfoonaonlaa.transBehindW
