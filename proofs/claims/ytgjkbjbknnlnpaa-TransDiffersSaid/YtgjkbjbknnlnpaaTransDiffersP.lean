/- The law 'TransDiffers' of the plain functions. -/
import Derived.Test.YtgjkbjbknnlnpaaTransDiffersD
set_option maxHeartbeats 1000000
set_option maxRecDepth 20000
set_option linter.unusedSimpArgs false
set_option linter.unusedVariables false
set_option linter.unusedSectionVars false
namespace Go.Proofs.Ytgjkbjbknnlnpaa.transDiffersW
open Go Go.Ab
/-- The answer is yes just if P. -/
def Tells (o : Option Bool) (P : Prop) : Prop := ∃ b, o = some b ∧ (b = true ↔ P)
theorem Tells.of {b : Bool} {P : Prop} (h : b = true ↔ P) : Tells (some b) P := ⟨b, rfl, h⟩
theorem Tells.dec {P Q : Prop} [Decidable P] (h : P ↔ Q) : Tells (some (decide P)) Q := ⟨_, rfl, by simpa using h⟩
theorem Tells.iff {o : Option Bool} {P Q : Prop} (h : Tells o P) (k : P ↔ Q) : Tells o Q := let ⟨b, h1, h2⟩ := h; ⟨b, h1, h2.trans k⟩
theorem Tells.eq {o : Option Bool} {P : Prop} [Decidable P] (h : Tells o P) : o = some (decide P) := by
  obtain ⟨b, rfl, hb⟩ := h
  by_cases hp : P
  · simp [hp, hb.2 hp]
  · have : b = false := by cases b; rfl; exact absurd (hb.1 rfl) hp
    simp [hp, this]
theorem Tells.to {R : Type} {o : Option Bool} {P : Prop} {k1 k2 x : Option R} (h : Tells o P) (h1 : P → k1 = x) (h2 : ¬ P → k2 = x) : (o.bind fun y => if y = true then k1 else k2) = x := by
  obtain ⟨b, rfl, hb⟩ := h
  refine bind_to rfl ?_
  cases b
  · exact h2 fun hp => by simpa using hb.2 hp
  · exact h1 (hb.1 rfl)
theorem Tells.bind {R : Type} {o : Option Bool} {P : Prop} {k : Bool → Option R} {x : Option R} (h : Tells o P) (h1 : ∀ b, (b = true ↔ P) → k b = x) : o.bind k = x := by
  obtain ⟨b, rfl, hb⟩ := h
  exact h1 b hb
section
variable {α C : Type} [Inhabited α]
theorem ex_ix {l : List α} {P : α → Prop} : (∃ x ∈ l, P x) ↔ ∃ i : Int, 0 ≤ i ∧ i < l.length ∧ P (ix l i) := by
  constructor
  · rintro ⟨x, hx, hp⟩
    obtain ⟨i, hi, rfl⟩ := List.mem_iff_getElem.1 hx
    refine ⟨i, by omega, by omega, ?_⟩
    rwa [ix_eq (by omega) (by omega)]
  · rintro ⟨i, h0, h1, hp⟩
    exact ⟨_, ix_mem h0 h1, hp⟩
theorem index_loop {s : List α} {f : α → Option Bool} {L : Int → Option Int} {P : α → Prop} (hs : s.length ≤ 4611686018427387904)
    (hL : ∀ t, L t = if decide (t < (s.length : Int)) = true then G (0 ≤ t ∧ t < (s.length : Int)) ((f (ix s t)).bind fun y => if y = true then some t else G (fits (t + 1)) (L (t + 1))) else some (-1))
    (hf : ∀ x ∈ s, Tells (f x) (P x)) : ∀ (n : Nat) (t : Int), 0 ≤ t → t ≤ s.length → (s.length - t).toNat = n →
      ∃ i, L t = some i ∧ ((i = -1 ∧ ∀ j : Int, t ≤ j → j < s.length → ¬ P (ix s j)) ∨ (t ≤ i ∧ i < s.length ∧ P (ix s i) ∧ ∀ j : Int, t ≤ j → j < i → ¬ P (ix s j))) := by
  intro n
  induction n with
  | zero =>
    intro t h0 h1 hn
    refine ⟨-1, ?_, .inl ⟨rfl, fun j a b => by omega⟩⟩
    rw [hL, if_neg (by simp; omega)]
  | succ n ih =>
    intro t h0 h1 hn
    rw [hL, if_pos (by simp; omega), G_pos (by omega)]
    obtain ⟨b, hb, hbp⟩ := hf _ (ix_mem h0 (by omega : t < s.length))
    rw [hb]
    cases b with
    | true => exact ⟨t, rfl, .inr ⟨by omega, by omega, hbp.1 rfl, fun j a b => by omega⟩⟩
    | false =>
      have hnp : ¬ P (ix s t) := fun hp => by simpa using hbp.2 hp
      obtain ⟨i, hi, hc⟩ := ih (t + 1) (by omega) (by omega) (by omega)
      refine ⟨i, ?_, ?_⟩
      · refine (if_neg (by simp) : (if false = true then some t else G (fits (t + 1)) (L (t + 1))) = _).trans ?_
        rw [G_pos (by unfold fits; omega), hi]
      · rcases hc with ⟨h2, h3⟩ | ⟨h2, h3, h4, h5⟩
        · refine .inl ⟨h2, fun j a b => ?_⟩
          by_cases e : j = t
          · rw [e]; exact hnp
          · exact h3 j (by omega) b
        · refine .inr ⟨by omega, h3, h4, fun j a b => ?_⟩
          by_cases e : j = t
          · rw [e]; exact hnp
          · exact h5 j (by omega) b
theorem contains_tells {s : List α} {f : α → Option Bool} {L : Int → Option Int} {P : α → Prop}
    (hL : ∀ t, L t = if decide (t < (s.length : Int)) = true then G (0 ≤ t ∧ t < (s.length : Int)) ((f (ix s t)).bind fun y => if y = true then some t else G (fits (t + 1)) (L (t + 1))) else some (-1))
    (hs : s.length ≤ 4611686018427387904) (hf : ∀ x ∈ s, Tells (f x) (P x)) : Tells ((L 0).bind fun y => some (decide ((0 : Int) ≤ y))) (∃ x ∈ s, P x) := by
  obtain ⟨i, hi, hc⟩ := index_loop hs hL hf _ 0 (by omega) (by omega) rfl
  rw [hi]
  refine ⟨decide (0 ≤ i), rfl, ?_⟩
  rw [decide_eq_true_iff, ex_ix]
  rcases hc with ⟨h2, h3⟩ | ⟨h2, h3, h4, h5⟩
  · constructor
    · intro h; omega
    · rintro ⟨j, h0, h1, hp⟩; exact absurd hp (h3 j h0 h1)
  · exact ⟨fun _ => ⟨i, by omega, h3, h4⟩, fun _ => by omega⟩
/-- .. of what carries along what it reads. -/
theorem contains_tells2 {s : List α} {c : C} {f : α → C → Option (Bool × C)} {L : Int → C → Option (Int × C)} {P : α → Prop}
    (hL : ∀ t c, L t c = if decide (t < (s.length : Int)) = true then G (0 ≤ t ∧ t < (s.length : Int)) ((f (ix s t) c).bind fun y => if y.1 = true then some (t, y.2) else G (fits (t + 1)) (L (t + 1) y.2)) else some (-1, c))
    (hs : s.length ≤ 4611686018427387904) (hf : ∀ x ∈ s, ∃ b, f x c = some (b, c) ∧ (b = true ↔ P x)) : ∃ b, ((L 0 c).bind fun y => some (decide ((0 : Int) ≤ y.1), y.2)) = some (b, c) ∧ (b = true ↔ ∃ x ∈ s, P x) := by
  have key : ∀ (n : Nat) (t : Int), 0 ≤ t → t ≤ s.length → (s.length - t).toNat = n →
      ∃ i, L t c = some (i, c) ∧ ((i = -1 ∧ ∀ j : Int, t ≤ j → j < s.length → ¬ P (ix s j)) ∨ (t ≤ i ∧ i < s.length ∧ P (ix s i))) := by
    intro n
    induction n with
    | zero =>
      intro t h0 h1 hn
      refine ⟨-1, ?_, .inl ⟨rfl, fun j a b => by omega⟩⟩
      rw [hL, if_neg (by simp; omega)]
    | succ n ih =>
      intro t h0 h1 hn
      rw [hL, if_pos (by simp; omega), G_pos (by omega)]
      obtain ⟨b, hb, hbp⟩ := hf _ (ix_mem h0 (by omega : t < s.length))
      rw [hb]
      cases b with
      | true => exact ⟨t, rfl, .inr ⟨by omega, by omega, hbp.1 rfl⟩⟩
      | false =>
        have hnp : ¬ P (ix s t) := fun hp => by simpa using hbp.2 hp
        obtain ⟨i, hi, hc⟩ := ih (t + 1) (by omega) (by omega) (by omega)
        refine ⟨i, ?_, ?_⟩
        · refine (if_neg (by simp) : (if false = true then some (t, c) else G (fits (t + 1)) (L (t + 1) c)) = _).trans ?_
          rw [G_pos (by unfold fits; omega), hi]
        · rcases hc with ⟨h2, h3⟩ | ⟨h2, h3, h4⟩
          · refine .inl ⟨h2, fun j a b => ?_⟩
            by_cases e : j = t
            · rw [e]; exact hnp
            · exact h3 j (by omega) b
          · exact .inr ⟨by omega, h3, h4⟩
  obtain ⟨i, hi, hc⟩ := key _ 0 (by omega) (by omega) rfl
  rw [hi]
  refine ⟨decide (0 ≤ i), rfl, ?_⟩
  rw [decide_eq_true_iff, ex_ix]
  rcases hc with ⟨h2, h3⟩ | ⟨h2, h3, h4⟩
  · constructor
    · intro h; omega
    · rintro ⟨j, h0, h1, hp⟩; exact absurd hp (h3 j h0 h1)
  · exact ⟨fun _ => ⟨i, by omega, h3, h4⟩, fun _ => by omega⟩
end
/-- A loop that looks for the first fault. -/
theorem scan_to {R : Type} {len : Int} {L : Int → Option R} {bad : Int → Prop} {x : Option R} {lo : Int} (h0 : lo ≤ len)
    (hs : ∀ t, lo ≤ t → t < len → (bad t → L t = x) ∧ (¬ bad t → L t = L (t + 1))) (hf : (∀ t, lo ≤ t → t < len → ¬ bad t) → L len = x) : L lo = x := by
  have key : ∀ (n : Nat) (t : Int), lo ≤ t → t ≤ len → (len - t).toNat = n → (∀ j, lo ≤ j → j < t → ¬ bad j) → L t = x := by
    intro n
    induction n with
    | zero =>
      intro t h1 h2 hn h
      obtain rfl : t = len := by omega
      exact hf h
    | succ n ih =>
      intro t h1 h2 hn h
      by_cases hb : bad t
      · exact (hs t h1 (by omega)).1 hb
      · rw [(hs t h1 (by omega)).2 hb]
        refine ih (t + 1) (by omega) (by omega) (by omega) fun j a b => ?_
        by_cases e : j = t
        · rw [e]; exact hb
        · exact h j a (by omega)
  exact key _ lo (Int.le_refl _) h0 rfl (fun j a b => by omega)
/-- A loop that counts, with a state. -/
theorem fold_to {R S : Type} {len : Int} {L : Int → S → Option R} {f : Int → S → S} {lo : Int} {I : Int → S → Prop} {s : S} (h0 : lo ≤ len) (hI : I lo s)
    (hs : ∀ t s, lo ≤ t → t < len → I t s → L t s = L (t + 1) (f t s) ∧ I (t + 1) (f t s)) : ∃ s', I len s' ∧ L lo s = L len s' := by
  have key : ∀ (n : Nat) (t : Int) (s : S), lo ≤ t → t ≤ len → (len - t).toNat = n → I t s → ∃ s', I len s' ∧ L t s = L len s' := by
    intro n
    induction n with
    | zero =>
      intro t s h1 h2 hn h
      obtain rfl : t = len := by omega
      exact ⟨s, h, rfl⟩
    | succ n ih =>
      intro t s h1 h2 hn h
      obtain ⟨e, h3⟩ := hs t s h1 (by omega) h
      obtain ⟨s', h4, h5⟩ := ih (t + 1) _ (by omega) (by omega) (by omega) h3
      exact ⟨s', h4, e.trans h5⟩
  exact key _ lo s (Int.le_refl _) h0 rfl hI

theorem r1_May_L6_spec {letters : Int} {w : List Int} (hL : 1 ≤ letters ∧ letters ≤ 4) (hw : w.length ≤ (60 : Int)) : ∀ (n : Nat) (i : Int), 0 ≤ i → i ≤ w.length → (w.length - i).toNat = n → (∀ j : Int, 0 ≤ j → j < i → 0 ≤ ix w j ∧ ix w j < letters) → r1_May_L6 letters w i = some (mayE letters w) := by
  intro n
  induction n with
  | zero =>
    intro i h0 h1 hn h
    rw [r1_May_L6_eq]; unfold r1_May_L6_B
    (try dsimp only); (repeat' first | (with_reducible refine G_to ?_ ?_; focus (first | omega | (unfold fits; omega) | (unfold room; (try simp only [List.length_append, List.length_cons, List.length_nil]); omega))) | (with_reducible refine both_to ?_ ?_) | (with_reducible refine itet_to ?_) | (with_reducible refine itef_to ?_) | (with_reducible refine ite_to (fun _ => ?_) (fun _ => ?_))) <;> try (exfalso; omega)
    · rw [mayE_ok hL hw (fun j a b => h j a (by omega))]
  | succ n ih =>
    intro i h0 h1 hn h
    rw [r1_May_L6_eq]; unfold r1_May_L6_B
    (try dsimp only); (repeat' first | (with_reducible refine G_to ?_ ?_; focus (first | omega | (unfold fits; omega) | (unfold room; (try simp only [List.length_append, List.length_cons, List.length_nil]); omega))) | (with_reducible refine both_to ?_ ?_) | (with_reducible refine itet_to ?_) | (with_reducible refine itef_to ?_) | (with_reducible refine ite_to (fun _ => ?_) (fun _ => ?_))) <;> try (exfalso; omega)
    · rw [mayE_bad hL hw (i := i) (by omega) (by omega)]
    · rw [mayE_bad hL hw (i := i) (by omega) (by omega)]
    · exact ih _ (by omega) (by omega) (by omega) (below_succ h (by omega))
theorem r1_May_spec {letters : Int} {w : List Int} : r1_May letters w = some (mayE letters w) := by
  unfold r1_May
  (try dsimp only); (repeat' first | (with_reducible refine G_to ?_ ?_; focus (first | omega | (unfold fits; omega) | (unfold room; (try simp only [List.length_append, List.length_cons, List.length_nil]); omega))) | (with_reducible refine both_to ?_ ?_) | (with_reducible refine itet_to ?_) | (with_reducible refine itef_to ?_) | (with_reducible refine ite_to (fun _ => ?_) (fun _ => ?_))) <;> try (exfalso; omega)
  · rw [mayE_range (by omega)]
  · rw [mayE_range (by omega)]
  · rw [mayE_size (by omega) (by omega)]
  · exact r1_May_L6_spec (by omega) (by omega) _ 0 (by omega) (by omega) rfl (fun j a b => by omega)

theorem r1_Words_L4_spec {a b : List Int} (hl : a.length = b.length) : ∀ (n : Nat) (i : Int), 0 ≤ i → i ≤ a.length → (a.length - i).toNat = n → a.length ≤ 2305843009213693951 → (∀ j : Int, 0 ≤ j → j < i → ix a j = ix b j) → r1_Words_L4 a b i = some (decide (a = b)) := by
  intro n
  induction n with
  | zero =>
    intro i h0 h1 hn hs h
    rw [r1_Words_L4_eq]; unfold r1_Words_L4_B
    (try dsimp only); (repeat' first | (with_reducible refine G_to ?_ ?_; focus (first | omega | (unfold fits; omega) | (unfold room; (try simp only [List.length_append, List.length_cons, List.length_nil]); omega))) | (with_reducible refine both_to ?_ ?_) | (with_reducible refine itet_to ?_) | (with_reducible refine itef_to ?_) | (with_reducible refine ite_to (fun _ => ?_) (fun _ => ?_))) <;> try (exfalso; omega)
    · rw [Option.some_inj, eq_comm, decide_eq_true_iff]; exact ix_ext hl (fun j a b => h j a (by omega))
  | succ n ih =>
    intro i h0 h1 hn hs h
    rw [r1_Words_L4_eq]; unfold r1_Words_L4_B
    (try dsimp only); (repeat' first | (with_reducible refine G_to ?_ ?_; focus (first | omega | (unfold fits; omega) | (unfold room; (try simp only [List.length_append, List.length_cons, List.length_nil]); omega))) | (with_reducible refine both_to ?_ ?_) | (with_reducible refine itet_to ?_) | (with_reducible refine itef_to ?_) | (with_reducible refine ite_to (fun _ => ?_) (fun _ => ?_))) <;> try (exfalso; omega)
    · rw [Option.some_inj, eq_comm, decide_eq_false_iff_not]; rintro rfl; contradiction
    · rename_i hx; exact ih _ (by omega) (by omega) (by omega) hs (below_succ h (Decidable.not_not.1 hx))
theorem r1_Words_spec {a b : List Int} (hs : a.length ≤ 2305843009213693951) : r1_Words a b = some (decide (a = b)) := by
  unfold r1_Words
  (try dsimp only); (repeat' first | (with_reducible refine G_to ?_ ?_; focus (first | omega | (unfold fits; omega) | (unfold room; (try simp only [List.length_append, List.length_cons, List.length_nil]); omega))) | (with_reducible refine both_to ?_ ?_) | (with_reducible refine itet_to ?_) | (with_reducible refine itef_to ?_) | (with_reducible refine ite_to (fun _ => ?_) (fun _ => ?_))) <;> try (exfalso; omega)
  · rw [Option.some_inj, eq_comm, decide_eq_false_iff_not]; rintro rfl; contradiction
  · exact r1_Words_L4_spec (by omega) _ 0 (by omega) (by omega) rfl hs (fun j a b => by omega)

/-- A walk over a table. -/
def stp (N : List (List Int)) (q a : Int) : Int := ix (ix N q) a
def wlk (N : List (List Int)) (q : Int) (w : List Int) : Int := w.foldl (stp N) q
/-- The places come by. -/
def trc (N : List (List Int)) : Int → List Int → List Int
  | _, [] => []
  | q, a :: w => stp N q a :: trc N (stp N q a) w
/-- A table of so many letters. -/
structure Tab (L : Int) (N : List (List Int)) : Prop where
  row : ∀ r ∈ N, (r.length : Int) = L
  to : ∀ r ∈ N, ∀ q ∈ r, 0 ≤ q ∧ q < N.length
theorem Tab.stpb {L : Int} {N : List (List Int)} (h : Tab L N) {q a : Int} (q0 : 0 ≤ q) (q1 : q < N.length) (a0 : 0 ≤ a) (a1 : a < L) : 0 ≤ stp N q a ∧ stp N q a < N.length := by
  have h1 := ix_mem q0 q1
  have h2 := h.row _ h1
  exact h.to _ h1 _ (ix_mem a0 (by omega))
theorem Tab.rowlen {L : Int} {N : List (List Int)} (h : Tab L N) {q : Int} (q0 : 0 ≤ q) (q1 : q < N.length) : ((ix N q).length : Int) = L := h.row _ (ix_mem q0 q1)
theorem Tab.wlkb {L : Int} {N : List (List Int)} (h : Tab L N) : ∀ {w : List Int} {q : Int}, 0 ≤ q → q < N.length → (∀ a ∈ w, 0 ≤ a ∧ a < L) → 0 ≤ wlk N q w ∧ wlk N q w < N.length
  | [], q, q0, q1, _ => ⟨q0, q1⟩
  | a :: w, q, q0, q1, hw => by
    have := h.stpb q0 q1 (hw a (by simp)).1 (hw a (by simp)).2
    exact Tab.wlkb h (q := stp N q a) (w := w) this.1 this.2 (fun b hb => hw b (by simp [hb]))
theorem Tab.trcb {L : Int} {N : List (List Int)} (h : Tab L N) : ∀ {w : List Int} {q : Int}, 0 ≤ q → q < N.length → (∀ a ∈ w, 0 ≤ a ∧ a < L) → ∀ p ∈ trc N q w, 0 ≤ p ∧ p < N.length
  | [], q, q0, q1, _, p, hp => by cases hp
  | a :: w, q, q0, q1, hw, p, hp => by
    have := h.stpb q0 q1 (hw a (by simp)).1 (hw a (by simp)).2
    rcases List.mem_cons.1 hp with rfl | hp
    · exact this
    · exact Tab.trcb h this.1 this.2 (fun b hb => hw b (by simp [hb])) p hp

theorem slices_Grow_spec {n : Int} (h0 : 0 ≤ n) (h : n * 8 ≤ 140737488355328) : slices_Grow n = some [] := by
  unfold slices_Grow
  (try dsimp only); (repeat' first | (with_reducible refine G_to ?_ ?_; focus (first | omega | (unfold fits; omega) | (unfold room; (try simp only [List.length_append, List.length_cons, List.length_nil]); omega))) | (with_reducible refine both_to ?_ ?_) | (with_reducible refine itet_to ?_) | (with_reducible refine itef_to ?_) | (with_reducible refine ite_to (fun _ => ?_) (fun _ => ?_))) <;> try (exfalso; omega)
  all_goals first | rfl | (rw [show ((0 : Int)).toNat = 0 from rfl, List.take_zero])
theorem slices_Concat_spec {ls : List (List Int)} (h : ls.length ≤ 1000) (hl : (ls.flatten.length : Int) * 8 ≤ 140737488355328) : slices_Concat ls = some ls.flatten := by
  have sum : ∀ (k : Nat), ((ls.take k).flatten.length : Int) ≤ ls.flatten.length := by
    intro k
    have : ls.flatten = (ls.take k).flatten ++ (ls.drop k).flatten := by rw [← List.flatten_append, List.take_append_drop]
    rw [this, List.length_append]; omega
  have tk : ∀ t : Int, 0 ≤ t → t < ls.length → (ls.take (t + 1).toNat).flatten = (ls.take t.toNat).flatten ++ ix ls t := fun t h0 h1 => by
    rw [ix_take h0 h1, List.flatten_append]; simp
  unfold slices_Concat
  have k2 : ∀ (n : Nat) (t : Int), (ls.length - t).toNat = n → 0 ≤ t → t ≤ ls.length → slices_Concat_L11 ls t (ls.take t.toNat).flatten = some ls.flatten := by
    intro n
    induction n with
    | zero =>
      intro t hn h0 h1
      rw [slices_Concat_L11_eq]; unfold slices_Concat_L11_B
      rw [List.take_of_length_le (by omega), if_neg (by simp only [decide_eq_true_eq]; omega)]
    | succ n ih =>
      intro t hn h0 h1
      have e := tk t h0 (by omega)
      have s := sum (t + 1).toNat
      rw [e, List.length_append] at s
      rw [slices_Concat_L11_eq]; unfold slices_Concat_L11_B
      (try dsimp only); (repeat' first | (with_reducible refine G_to ?_ ?_; focus (first | omega | (unfold fits; omega) | (unfold room; (try simp only [List.length_append, List.length_cons, List.length_nil]); omega))) | (with_reducible refine both_to ?_ ?_) | (with_reducible refine itet_to ?_) | (with_reducible refine itef_to ?_) | (with_reducible refine ite_to (fun _ => ?_) (fun _ => ?_))) <;> try (exfalso; omega)
      rw [← e]
      exact ih (t + 1) (by omega) (by omega) (by omega)
  have k1 : ∀ (n : Nat) (t : Int), (ls.length - t).toNat = n → 0 ≤ t → t ≤ ls.length → slices_Concat_L3 ls ((ls.take t.toNat).flatten.length : Int) t = some ls.flatten := by
    intro n
    induction n with
    | zero =>
      intro t hn h0 h1
      rw [slices_Concat_L3_eq]; unfold slices_Concat_L3_B
      rw [List.take_of_length_le (by omega), if_neg (by simp only [decide_eq_true_eq]; omega)]
      refine bind_to (slices_Grow_spec (by omega) hl) ?_
      have := k2 _ 0 rfl (by omega) (by omega)
      simpa using this
    | succ n ih =>
      intro t hn h0 h1
      have e := tk t h0 (by omega)
      have s := sum (t + 1).toNat
      have ih' := ih (t + 1) (by omega) (by omega) (by omega)
      rw [e, List.length_append] at s ih'
      rw [slices_Concat_L3_eq]; unfold slices_Concat_L3_B
      (try dsimp only); (repeat' first | (with_reducible refine G_to ?_ ?_; focus (first | omega | (unfold fits; omega) | (unfold room; (try simp only [List.length_append, List.length_cons, List.length_nil]); omega))) | (with_reducible refine both_to ?_ ?_) | (with_reducible refine itet_to ?_) | (with_reducible refine itef_to ?_) | (with_reducible refine ite_to (fun _ => ?_) (fun _ => ?_))) <;> try (exfalso; omega)
      rw [← ih']; congr 1
  have := k1 _ 0 rfl (by omega) (by omega)
  simpa using this

abbrev Tr := Int × Int × Int × (List Int) × (List (List Int)) × (List (List (List Int))) × (List (List Int)) × Unit
def tW (t : Tr) : List (List Int) := ([t.2.2.2.1] ++ t.2.2.2.2.2.2.1) ++ t.2.2.2.2.2.1.flatten
def TLet (t : Tr) : Prop := t.1 < 1 ∨ 4 < t.1 ∨ t.2.1 < 1 ∨ 4 < t.2.1
def TSize (t : Tr) : Prop := t.2.2.2.2.1.length < 1 ∨ 6 < t.2.2.2.2.1.length
def TNum (t : Tr) : Prop := ¬ t.2.2.2.2.2.1.length = t.2.2.2.2.1.length ∨ ¬ t.2.2.2.2.2.2.1.length = t.2.2.2.2.1.length
def TRow (t : Tr) : Prop := ∃ i : Int, 0 ≤ i ∧ i < t.2.2.2.2.1.length ∧ (¬ ((ix t.2.2.2.2.1 i).length : Int) = t.1 ∨ ¬ ((ix t.2.2.2.2.2.1 i).length : Int) = t.1)
def TTo (t : Tr) : Prop := (t.2.2.1 < 0 ∨ (t.2.2.2.2.1.length : Int) ≤ t.2.2.1) ∨ ∃ r ∈ t.2.2.2.2.1, ∃ q ∈ r, q < 0 ∨ (t.2.2.2.2.1.length : Int) ≤ q
def TLong (t : Tr) : Prop := ∃ w ∈ tW t, 8 < w.length
abbrev LBad (t : Tr) (w : List Int) : Prop := ∃ a ∈ w, a < 0 ∨ t.2.1 ≤ a
def TSay (t : Tr) : Prop := ∃ w ∈ tW t, LBad t w
open Classical in
noncomputable def trE (t : Tr) : Int := if TLet t then 2 else if TSize t then 1 else if TNum t then 3 else if TRow t then 3 else if TTo t then 2 else if TLong t then 1 else if TSay t then 2 else 0
theorem said_len {t : Tr} (h1 : t.2.2.2.2.1.length ≤ 6) (h2 : t.2.2.2.2.2.1.length = t.2.2.2.2.1.length) (h3 : t.1 ≤ 4) (hr : ∀ i : Int, 0 ≤ i → i < t.2.2.2.2.1.length → ((ix t.2.2.2.2.2.1 i).length : Int) = t.1) : ∀ k : Nat, (t.2.2.2.2.2.1.take k).flatten.length ≤ 24 := by
  intro k
  have key : ∀ (l : List (List (List Int))), (∀ r ∈ l, r.length ≤ 4) → l.flatten.length ≤ 4 * l.length := by
    intro l
    induction l with
    | nil => intro _; simp
    | cons r l ih =>
      intro h
      have a := h r (by simp)
      have b := ih (fun x hx => h x (by simp [hx]))
      rw [List.flatten_cons, List.length_append, List.length_cons]; omega
  have := key (t.2.2.2.2.2.1.take k) (fun r hr' => by
    have hr' := List.mem_of_mem_take hr'
    obtain ⟨i, i0, i1, rfl⟩ := (ex_ix (P := fun x => x = r)).1 ⟨r, hr', rfl⟩
    have := hr i i0 (by omega)
    omega)
  rw [List.length_take] at this
  omega
section
variable {t : Tr}
theorem trans_said_spec (h1 : t.2.2.2.2.1.length ≤ 6) (h2 : t.2.2.2.2.2.1.length = t.2.2.2.2.1.length) (h4 : t.2.2.2.2.2.2.1.length = t.2.2.2.2.1.length) (h3 : t.1 ≤ 4) (hr : ∀ i : Int, 0 ≤ i → i < t.2.2.2.2.1.length → ((ix t.2.2.2.2.2.1 i).length : Int) = t.1) : trans_said t = some (tW t) := by
  have hl := said_len h1 h2 h3 hr
  have tk : ∀ i : Int, 0 ≤ i → i < t.2.2.2.2.2.1.length → (t.2.2.2.2.2.1.take (i + 1).toNat).flatten = (t.2.2.2.2.2.1.take i.toNat).flatten ++ ix t.2.2.2.2.2.1 i := fun i h0 h1 => by
    rw [ix_take h0 h1, List.flatten_append]; simp
  have key : ∀ (n : Nat) (i : Int), (t.2.2.2.2.2.1.length - i).toNat = n → 0 ≤ i → i ≤ t.2.2.2.2.2.1.length → trans_said_L3 t i (([t.2.2.2.1] ++ t.2.2.2.2.2.2.1) ++ (t.2.2.2.2.2.1.take i.toNat).flatten) = some (tW t) := by
    intro n
    induction n with
    | zero =>
      intro i hn h0 h1
      rw [trans_said_L3_eq]; unfold trans_said_L3_B
      rw [List.take_of_length_le (by omega), if_neg (by simp only [decide_eq_true_eq]; omega)]; rfl
    | succ n ih =>
      intro i hn h0 h1
      have a := hl i.toNat
      have b := hr i h0 (by omega)
      rw [trans_said_L3_eq]; unfold trans_said_L3_B
      (try dsimp only); (repeat' first | (with_reducible refine G_to ?_ ?_; focus (first | omega | (unfold fits; omega) | (unfold room; (try simp only [List.length_append, List.length_cons, List.length_nil]); omega))) | (with_reducible refine both_to ?_ ?_) | (with_reducible refine itet_to ?_) | (with_reducible refine itef_to ?_) | (with_reducible refine ite_to (fun _ => ?_) (fun _ => ?_))) <;> try (exfalso; omega)
      rw [List.append_assoc, ← tk i h0 (by omega)]
      exact ih (i + 1) (by omega) (by omega) (by omega)
  have := key _ 0 rfl (by omega) (by omega)
  unfold trans_said
  (try dsimp only); (repeat' first | (with_reducible refine G_to ?_ ?_; focus (first | omega | (unfold fits; omega) | (unfold room; (try simp only [List.length_append, List.length_cons, List.length_nil]); omega))) | (with_reducible refine both_to ?_ ?_) | (with_reducible refine itet_to ?_) | (with_reducible refine itef_to ?_) | (with_reducible refine ite_to (fun _ => ?_) (fun _ => ?_))) <;> try (exfalso; omega)
  simpa using this
theorem r16_Words_spec (h1 : t.2.2.2.2.1.length ≤ 6) (h2 : t.2.2.2.2.2.1.length = t.2.2.2.2.1.length) (h4 : t.2.2.2.2.2.2.1.length = t.2.2.2.2.1.length) (h3 : t.1 ≤ 4) (hr : ∀ i : Int, 0 ≤ i → i < t.2.2.2.2.1.length → ((ix t.2.2.2.2.2.1 i).length : Int) = t.1) : r16_Words t = some (tW t) := by
  have hl := said_len h1 h2 h3 hr
  have tk : ∀ i : Int, 0 ≤ i → i < t.2.2.2.2.2.1.length → (t.2.2.2.2.2.1.take (i + 1).toNat).flatten = (t.2.2.2.2.2.1.take i.toNat).flatten ++ ix t.2.2.2.2.2.1 i := fun i h0 h1 => by
    rw [ix_take h0 h1, List.flatten_append]; simp
  have key : ∀ (n : Nat) (i : Int), (t.2.2.2.2.2.1.length - i).toNat = n → 0 ≤ i → i ≤ t.2.2.2.2.2.1.length → r16_Words_L5 t i (([t.2.2.2.1] ++ t.2.2.2.2.2.2.1) ++ (t.2.2.2.2.2.1.take i.toNat).flatten) = some (tW t) := by
    intro n
    induction n with
    | zero =>
      intro i hn h0 h1
      rw [r16_Words_L5_eq]; unfold r16_Words_L5_B
      rw [List.take_of_length_le (by omega), if_neg (by simp only [decide_eq_true_eq]; omega)]; rfl
    | succ n ih =>
      intro i hn h0 h1
      have a := hl i.toNat
      have b := hr i h0 (by omega)
      rw [r16_Words_L5_eq]; unfold r16_Words_L5_B
      (try dsimp only); (repeat' first | (with_reducible refine G_to ?_ ?_; focus (first | omega | (unfold fits; omega) | (unfold room; (try simp only [List.length_append, List.length_cons, List.length_nil]); omega))) | (with_reducible refine both_to ?_ ?_) | (with_reducible refine itet_to ?_) | (with_reducible refine itef_to ?_) | (with_reducible refine ite_to (fun _ => ?_) (fun _ => ?_))) <;> try (exfalso; omega)
      rw [List.append_assoc, ← tk i h0 (by omega)]
      exact ih (i + 1) (by omega) (by omega) (by omega)
  have := key _ 0 rfl (by omega) (by omega)
  unfold r16_Words
  (try dsimp only); (repeat' first | (with_reducible refine G_to ?_ ?_; focus (first | omega | (unfold fits; omega) | (unfold room; (try simp only [List.length_append, List.length_cons, List.length_nil]); omega))) | (with_reducible refine both_to ?_ ?_) | (with_reducible refine itet_to ?_) | (with_reducible refine itef_to ?_) | (with_reducible refine ite_to (fun _ => ?_) (fun _ => ?_))) <;> try (exfalso; omega)
  simpa using this
theorem tW_len (h1 : t.2.2.2.2.1.length ≤ 6) (h2 : t.2.2.2.2.2.1.length = t.2.2.2.2.1.length) (h4 : t.2.2.2.2.2.2.1.length = t.2.2.2.2.1.length) (h3 : t.1 ≤ 4) (hr : ∀ i : Int, 0 ≤ i → i < t.2.2.2.2.1.length → ((ix t.2.2.2.2.2.1 i).length : Int) = t.1) : (tW t).length ≤ 40 := by
  have hl := said_len h1 h2 h3 hr t.2.2.2.2.2.1.length
  rw [List.take_length] at hl
  unfold tW
  rw [List.length_append, List.length_append, List.length_singleton]; omega
theorem nn_tells (q n : Int) : Tells (trans_Check_1 q n) (q < 0 ∨ n ≤ q) := by
  unfold trans_Check_1
  by_cases h : q < 0
  · rw [if_pos (decide_eq_true h)]; exact Tells.of (by simp [h])
  · rw [if_neg (by simpa using h)]; exact Tells.dec (by omega)
theorem trans_Check_spec : trans_Check t = some (trE t) := by
  unfold trans_Check trE
  have e0 : ix [t.1, t.2.1] 0 = t.1 := rfl
  have e1 : ix [t.1, t.2.1] (0 + 1) = t.2.1 := rfl
  rw [trans_Check_L2_eq]; unfold trans_Check_L2_B
  rw [if_pos (by simp), G_pos (by simp), G_pos (by simp), e0]
  by_cases c1 : TLet t
  · rw [if_pos c1]; unfold TLet at c1
    (try dsimp only); (repeat' first | (with_reducible refine G_to ?_ ?_; focus (first | omega | (unfold fits; omega) | (unfold room; (try simp only [List.length_append, List.length_cons, List.length_nil]); omega))) | (with_reducible refine both_to ?_ ?_) | (with_reducible refine itet_to ?_) | (with_reducible refine itef_to ?_) | (with_reducible refine ite_to (fun _ => ?_) (fun _ => ?_))) <;> try (exfalso; omega)
    all_goals first | rfl | skip
    rw [trans_Check_L2_eq]; unfold trans_Check_L2_B
    rw [if_pos (by simp), G_pos (by simp), G_pos (by simp), e1]
    (try dsimp only); (repeat' first | (with_reducible refine G_to ?_ ?_; focus (first | omega | (unfold fits; omega) | (unfold room; (try simp only [List.length_append, List.length_cons, List.length_nil]); omega))) | (with_reducible refine both_to ?_ ?_) | (with_reducible refine itet_to ?_) | (with_reducible refine itef_to ?_) | (with_reducible refine ite_to (fun _ => ?_) (fun _ => ?_))) <;> try (exfalso; omega)
    all_goals rfl
  rw [if_neg c1]; unfold TLet at c1
  (try dsimp only); (repeat' first | (with_reducible refine G_to ?_ ?_; focus (first | omega | (unfold fits; omega) | (unfold room; (try simp only [List.length_append, List.length_cons, List.length_nil]); omega))) | (with_reducible refine both_to ?_ ?_) | (with_reducible refine itet_to ?_) | (with_reducible refine itef_to ?_) | (with_reducible refine ite_to (fun _ => ?_) (fun _ => ?_))) <;> try (exfalso; omega)
  rw [trans_Check_L2_eq]; unfold trans_Check_L2_B
  rw [if_pos (by simp), G_pos (by simp), G_pos (by simp), e1]
  (try dsimp only); (repeat' first | (with_reducible refine G_to ?_ ?_; focus (first | omega | (unfold fits; omega) | (unfold room; (try simp only [List.length_append, List.length_cons, List.length_nil]); omega))) | (with_reducible refine both_to ?_ ?_) | (with_reducible refine itet_to ?_) | (with_reducible refine itef_to ?_) | (with_reducible refine ite_to (fun _ => ?_) (fun _ => ?_))) <;> try (exfalso; omega)
  rw [trans_Check_L2_eq]; unfold trans_Check_L2_B
  rw [if_neg (by simp)]
  by_cases c2 : TSize t
  · rw [if_pos c2]; unfold TSize at c2
    (try dsimp only); (repeat' first | (with_reducible refine G_to ?_ ?_; focus (first | omega | (unfold fits; omega) | (unfold room; (try simp only [List.length_append, List.length_cons, List.length_nil]); omega))) | (with_reducible refine both_to ?_ ?_) | (with_reducible refine itet_to ?_) | (with_reducible refine itef_to ?_) | (with_reducible refine ite_to (fun _ => ?_) (fun _ => ?_))) <;> try (exfalso; omega)
    all_goals rfl
  rw [if_neg c2]; unfold TSize at c2
  by_cases c3 : TNum t
  · rw [if_pos c3]; unfold TNum at c3
    (try dsimp only); (repeat' first | (with_reducible refine G_to ?_ ?_; focus (first | omega | (unfold fits; omega) | (unfold room; (try simp only [List.length_append, List.length_cons, List.length_nil]); omega))) | (with_reducible refine both_to ?_ ?_) | (with_reducible refine itet_to ?_) | (with_reducible refine itef_to ?_) | (with_reducible refine ite_to (fun _ => ?_) (fun _ => ?_))) <;> try (exfalso; omega)
    all_goals rfl
  rw [if_neg c3]
  have c3s : t.2.2.2.2.2.1.length = t.2.2.2.2.1.length := Decidable.not_not.1 fun h => c3 (.inl h)
  have c3l : t.2.2.2.2.2.2.1.length = t.2.2.2.2.1.length := Decidable.not_not.1 fun h => c3 (.inr h)
  (try dsimp only); (repeat' first | (with_reducible refine G_to ?_ ?_; focus (first | omega | (unfold fits; omega) | (unfold room; (try simp only [List.length_append, List.length_cons, List.length_nil]); omega))) | (with_reducible refine both_to ?_ ?_) | (with_reducible refine itet_to ?_) | (with_reducible refine itef_to ?_) | (with_reducible refine ite_to (fun _ => ?_) (fun _ => ?_))) <;> try (exfalso; omega)
  refine scan_to (len := (t.2.2.2.2.1.length : Int)) (bad := fun i => ¬ ((ix t.2.2.2.2.1 i).length : Int) = t.1 ∨ ¬ ((ix t.2.2.2.2.2.1 i).length : Int) = t.1) (by omega) (fun i h0 h1 => ⟨fun hb => ?_, fun hb => ?_⟩) (fun hh => ?_)
  · rw [if_pos (show TRow t from ⟨i, h0, h1, hb⟩)]
    rw [trans_Check_L13_eq]; unfold trans_Check_L13_B
    (try dsimp only); (repeat' first | (with_reducible refine G_to ?_ ?_; focus (first | omega | (unfold fits; omega) | (unfold room; (try simp only [List.length_append, List.length_cons, List.length_nil]); omega))) | (with_reducible refine both_to ?_ ?_) | (with_reducible refine itet_to ?_) | (with_reducible refine itef_to ?_) | (with_reducible refine ite_to (fun _ => ?_) (fun _ => ?_))) <;> try (exfalso; omega)
    all_goals first | rfl | (exfalso; exact hb.elim (fun h => h (Decidable.not_not.1 ‹_›)) (fun h => h (Decidable.not_not.1 ‹_›)))
  · have hb1 : ((ix t.2.2.2.2.1 i).length : Int) = t.1 := Decidable.not_not.1 fun h => hb (.inl h)
    have hb2 : ((ix t.2.2.2.2.2.1 i).length : Int) = t.1 := Decidable.not_not.1 fun h => hb (.inr h)
    conv => lhs; rw [trans_Check_L13_eq]; unfold trans_Check_L13_B
    (try dsimp only); (repeat' first | (with_reducible refine G_to ?_ ?_; focus (first | omega | (unfold fits; omega) | (unfold room; (try simp only [List.length_append, List.length_cons, List.length_nil]); omega))) | (with_reducible refine both_to ?_ ?_) | (with_reducible refine itet_to ?_) | (with_reducible refine itef_to ?_) | (with_reducible refine ite_to (fun _ => ?_) (fun _ => ?_))) <;> try (exfalso; omega)
    all_goals rfl
  rw [if_neg (show ¬ TRow t from fun ⟨i, i0, i1, hb⟩ => hh i i0 i1 hb)]
  have hN : ∀ i : Int, 0 ≤ i → i < t.2.2.2.2.1.length → ((ix t.2.2.2.2.1 i).length : Int) = t.1 := fun i i0 i1 => Decidable.not_not.1 fun h => hh i i0 i1 (.inl h)
  have hS : ∀ i : Int, 0 ≤ i → i < t.2.2.2.2.1.length → ((ix t.2.2.2.2.2.1 i).length : Int) = t.1 := fun i i0 i1 => Decidable.not_not.1 fun h => hh i i0 i1 (.inr h)
  rw [trans_Check_L13_eq]; unfold trans_Check_L13_B
  rw [if_neg (by simp)]
  refine (nn_tells _ _).to (fun h => by rw [if_pos (show TTo t from .inl h)]) (fun h1 => ?_)
  obtain ⟨b, hb, hb2⟩ : ∃ b, slices_ContainsFunc t.2.2.2.2.1 (t.2.2.2.2.1.length : Int) = some (b, (t.2.2.2.2.1.length : Int)) ∧ (b = true ↔ ∃ r ∈ t.2.2.2.2.1, ∃ q ∈ r, q < 0 ∨ (t.2.2.2.2.1.length : Int) ≤ q) :=
    contains_tells2 (f := trans_Check_2) (slices_IndexFunc_L2_eq t.2.2.2.2.1) (by omega) (fun r hrm => by
      obtain ⟨i, i0, i1, rfl⟩ := (ex_ix (P := fun x => x = r)).1 ⟨r, hrm, rfl⟩
      have := hN i i0 i1
      obtain ⟨b, e, e2⟩ := contains_tells (f := fun q => trans_Check_1 q (t.2.2.2.2.1.length : Int)) (P := fun q => q < 0 ∨ (t.2.2.2.2.1.length : Int) ≤ q) (slices_IndexFunc_1_L2_eq (ix t.2.2.2.2.1 i) (t.2.2.2.2.1.length : Int)) (by omega) (fun x _ => nn_tells x _)
      exact ⟨b, bind_to e rfl, e2⟩)
  rw [hb]
  refine bind_to rfl ?_
  refine iteb_to (fun h => by rw [if_pos (show TTo t from .inr (hb2.1 h))]) (fun h2 => ?_)
  rw [if_neg (show ¬ TTo t from fun h => h.elim h1 (fun h => by rw [hb2.2 h] at h2; cases h2))]
  have hsaid := trans_said_spec (by omega) c3s c3l (by omega) hS
  have hwl := tW_len (by omega) c3s c3l (by omega) hS
  have k3 : Tells (trans_long t) (TLong t) := by
    unfold trans_long
    obtain ⟨b, e, e2⟩ := contains_tells (f := trans_long_1) (P := fun w => 8 < w.length) (slices_IndexFunc_2_L2_eq (tW t)) (by omega) (fun x _ => Tells.dec (by omega))
    exact ⟨b, bind_to hsaid (bind_to e rfl), e2⟩
  refine k3.to (fun h => by rw [if_pos h]) (fun h3 => ?_)
  rw [if_neg h3]
  refine bind_to hsaid ?_
  have k4 : ∀ w ∈ tW t, Tells (slices_ContainsFunc_3 w t) (LBad t w) := fun w hw => contains_tells (f := fun a => trans_Check_3 a t) (P := fun a => a < 0 ∨ t.2.1 ≤ a) (slices_IndexFunc_3_L2_eq w t) (by
      by_cases e : 8 < w.length
      · exact absurd ⟨w, hw, e⟩ h3
      · omega) (fun x _ => by
    unfold trans_Check_3
    by_cases h : x < 0
    · rw [if_pos (decide_eq_true h)]; exact Tells.of (by simp [h])
    · rw [if_neg (by simpa using h)]; exact Tells.dec (by omega))
  refine scan_to (len := ((tW t).length : Int)) (bad := fun i => LBad t (ix (tW t) i)) (by omega) (fun i h0 h1 => ⟨fun hb => ?_, fun hb => ?_⟩) (fun hh4 => ?_)
  · rw [if_pos (show TSay t from ex_ix.2 ⟨i, h0, h1, hb⟩)]
    rw [trans_Check_L24_eq]; unfold trans_Check_L24_B
    (try dsimp only); (repeat' first | (with_reducible refine G_to ?_ ?_; focus (first | omega | (unfold fits; omega) | (unfold room; (try simp only [List.length_append, List.length_cons, List.length_nil]); omega))) | (with_reducible refine both_to ?_ ?_) | (with_reducible refine itet_to ?_) | (with_reducible refine itef_to ?_) | (with_reducible refine ite_to (fun _ => ?_) (fun _ => ?_))) <;> try (exfalso; omega)
    exact (k4 _ (ix_mem h0 h1)).to (fun _ => rfl) (fun h => absurd hb h)
  · conv => lhs; rw [trans_Check_L24_eq]; unfold trans_Check_L24_B
    (try dsimp only); (repeat' first | (with_reducible refine G_to ?_ ?_; focus (first | omega | (unfold fits; omega) | (unfold room; (try simp only [List.length_append, List.length_cons, List.length_nil]); omega))) | (with_reducible refine both_to ?_ ?_) | (with_reducible refine itet_to ?_) | (with_reducible refine itef_to ?_) | (with_reducible refine ite_to (fun _ => ?_) (fun _ => ?_))) <;> try (exfalso; omega)
    refine (k4 _ (ix_mem h0 h1)).to (fun h => absurd h hb) (fun _ => ?_)
    (try dsimp only); (repeat' first | (with_reducible refine G_to ?_ ?_; focus (first | omega | (unfold fits; omega) | (unfold room; (try simp only [List.length_append, List.length_cons, List.length_nil]); omega))) | (with_reducible refine both_to ?_ ?_) | (with_reducible refine itet_to ?_) | (with_reducible refine itef_to ?_) | (with_reducible refine ite_to (fun _ => ?_) (fun _ => ?_))) <;> try (exfalso; omega)
    all_goals rfl
  · rw [if_neg (show ¬ TSay t from fun h => by obtain ⟨i, i0, i1, i2⟩ := ex_ix.1 h; exact hh4 i i0 i1 i2)]
    rw [trans_Check_L24_eq]; unfold trans_Check_L24_B
    rw [if_neg (by simp)]
theorem r16_letters_spec {w : List Int} {out : Int} (h : w.length ≤ 1000) : (∃ a ∈ w, a < 0 ∨ out ≤ a) ∧ r16_letters w out = some 2 ∨ ¬ (∃ a ∈ w, a < 0 ∨ out ≤ a) ∧ r16_letters w out = some 0 := by
  unfold r16_letters
  by_cases c : ∃ a ∈ w, a < 0 ∨ out ≤ a
  · refine .inl ⟨c, ?_⟩
    refine scan_to (len := (w.length : Int)) (bad := fun i => ix w i < 0 ∨ out ≤ ix w i) (by omega) (fun i h0 h1 => ⟨fun hb => ?_, fun hb => ?_⟩) (fun hh => ?_)
    · rw [r16_letters_L2_eq]; unfold r16_letters_L2_B
      (try dsimp only); (repeat' first | (with_reducible refine G_to ?_ ?_; focus (first | omega | (unfold fits; omega) | (unfold room; (try simp only [List.length_append, List.length_cons, List.length_nil]); omega))) | (with_reducible refine both_to ?_ ?_) | (with_reducible refine itet_to ?_) | (with_reducible refine itef_to ?_) | (with_reducible refine ite_to (fun _ => ?_) (fun _ => ?_))) <;> try (exfalso; omega)
      all_goals rfl
    · conv => lhs; rw [r16_letters_L2_eq]; unfold r16_letters_L2_B
      (try dsimp only); (repeat' first | (with_reducible refine G_to ?_ ?_; focus (first | omega | (unfold fits; omega) | (unfold room; (try simp only [List.length_append, List.length_cons, List.length_nil]); omega))) | (with_reducible refine both_to ?_ ?_) | (with_reducible refine itet_to ?_) | (with_reducible refine itef_to ?_) | (with_reducible refine ite_to (fun _ => ?_) (fun _ => ?_))) <;> try (exfalso; omega)
      all_goals rfl
    · obtain ⟨i, i0, i1, i2⟩ := ex_ix.1 c; exact absurd i2 (hh i i0 i1)
  · refine .inr ⟨c, ?_⟩
    refine scan_to (len := (w.length : Int)) (bad := fun i => ix w i < 0 ∨ out ≤ ix w i) (by omega) (fun i h0 h1 => ⟨fun hb => absurd (ex_ix.2 ⟨i, h0, h1, hb⟩) c, fun hb => ?_⟩) (fun hh => ?_)
    · conv => lhs; rw [r16_letters_L2_eq]; unfold r16_letters_L2_B
      (try dsimp only); (repeat' first | (with_reducible refine G_to ?_ ?_; focus (first | omega | (unfold fits; omega) | (unfold room; (try simp only [List.length_append, List.length_cons, List.length_nil]); omega))) | (with_reducible refine both_to ?_ ?_) | (with_reducible refine itet_to ?_) | (with_reducible refine itef_to ?_) | (with_reducible refine ite_to (fun _ => ?_) (fun _ => ?_))) <;> try (exfalso; omega)
      all_goals rfl
    · rw [r16_letters_L2_eq]; unfold r16_letters_L2_B
      (try dsimp only); (repeat' first | (with_reducible refine G_to ?_ ?_; focus (first | omega | (unfold fits; omega) | (unfold room; (try simp only [List.length_append, List.length_cons, List.length_nil]); omega))) | (with_reducible refine both_to ?_ ?_) | (with_reducible refine itet_to ?_) | (with_reducible refine itef_to ?_) | (with_reducible refine ite_to (fun _ => ?_) (fun _ => ?_))) <;> try (exfalso; omega)
      all_goals rfl
theorem r16_Check_spec : r16_Check t = some (trE t) := by
  unfold r16_Check trE
  by_cases c1 : TLet t
  · rw [if_pos c1]; unfold TLet at c1
    (try dsimp only); (repeat' first | (with_reducible refine G_to ?_ ?_; focus (first | omega | (unfold fits; omega) | (unfold room; (try simp only [List.length_append, List.length_cons, List.length_nil]); omega))) | (with_reducible refine both_to ?_ ?_) | (with_reducible refine itet_to ?_) | (with_reducible refine itef_to ?_) | (with_reducible refine ite_to (fun _ => ?_) (fun _ => ?_))) <;> try (exfalso; omega)
    all_goals rfl
  rw [if_neg c1]; unfold TLet at c1
  by_cases c2 : TSize t
  · rw [if_pos c2]; unfold TSize at c2
    (try dsimp only); (repeat' first | (with_reducible refine G_to ?_ ?_; focus (first | omega | (unfold fits; omega) | (unfold room; (try simp only [List.length_append, List.length_cons, List.length_nil]); omega))) | (with_reducible refine both_to ?_ ?_) | (with_reducible refine itet_to ?_) | (with_reducible refine itef_to ?_) | (with_reducible refine ite_to (fun _ => ?_) (fun _ => ?_))) <;> try (exfalso; omega)
    all_goals rfl
  rw [if_neg c2]; unfold TSize at c2
  by_cases c3 : TNum t
  · rw [if_pos c3]; unfold TNum at c3
    (try dsimp only); (repeat' first | (with_reducible refine G_to ?_ ?_; focus (first | omega | (unfold fits; omega) | (unfold room; (try simp only [List.length_append, List.length_cons, List.length_nil]); omega))) | (with_reducible refine both_to ?_ ?_) | (with_reducible refine itet_to ?_) | (with_reducible refine itef_to ?_) | (with_reducible refine ite_to (fun _ => ?_) (fun _ => ?_))) <;> try (exfalso; omega)
    all_goals rfl
  rw [if_neg c3]
  have c3s : t.2.2.2.2.2.1.length = t.2.2.2.2.1.length := Decidable.not_not.1 fun h => c3 (.inl h)
  have c3l : t.2.2.2.2.2.2.1.length = t.2.2.2.2.1.length := Decidable.not_not.1 fun h => c3 (.inr h)
  (try dsimp only); (repeat' first | (with_reducible refine G_to ?_ ?_; focus (first | omega | (unfold fits; omega) | (unfold room; (try simp only [List.length_append, List.length_cons, List.length_nil]); omega))) | (with_reducible refine both_to ?_ ?_) | (with_reducible refine itet_to ?_) | (with_reducible refine itef_to ?_) | (with_reducible refine ite_to (fun _ => ?_) (fun _ => ?_))) <;> try (exfalso; omega)
  refine scan_to (len := (t.2.2.2.2.1.length : Int)) (bad := fun i => ¬ ((ix t.2.2.2.2.1 i).length : Int) = t.1 ∨ ¬ ((ix t.2.2.2.2.2.1 i).length : Int) = t.1) (by omega) (fun i h0 h1 => ⟨fun hb => ?_, fun hb => ?_⟩) (fun hh => ?_)
  · rw [if_pos (show TRow t from ⟨i, h0, h1, hb⟩)]
    rw [r16_Check_L9_eq]; unfold r16_Check_L9_B
    (try dsimp only); (repeat' first | (with_reducible refine G_to ?_ ?_; focus (first | omega | (unfold fits; omega) | (unfold room; (try simp only [List.length_append, List.length_cons, List.length_nil]); omega))) | (with_reducible refine both_to ?_ ?_) | (with_reducible refine itet_to ?_) | (with_reducible refine itef_to ?_) | (with_reducible refine ite_to (fun _ => ?_) (fun _ => ?_))) <;> try (exfalso; omega)
    all_goals first | rfl | (exfalso; exact hb.elim (fun h => h (Decidable.not_not.1 ‹_›)) (fun h => h (Decidable.not_not.1 ‹_›)))
  · have hb1 : ((ix t.2.2.2.2.1 i).length : Int) = t.1 := Decidable.not_not.1 fun h => hb (.inl h)
    have hb2 : ((ix t.2.2.2.2.2.1 i).length : Int) = t.1 := Decidable.not_not.1 fun h => hb (.inr h)
    conv => lhs; rw [r16_Check_L9_eq]; unfold r16_Check_L9_B
    (try dsimp only); (repeat' first | (with_reducible refine G_to ?_ ?_; focus (first | omega | (unfold fits; omega) | (unfold room; (try simp only [List.length_append, List.length_cons, List.length_nil]); omega))) | (with_reducible refine both_to ?_ ?_) | (with_reducible refine itet_to ?_) | (with_reducible refine itef_to ?_) | (with_reducible refine ite_to (fun _ => ?_) (fun _ => ?_))) <;> try (exfalso; omega)
    all_goals rfl
  rw [if_neg (show ¬ TRow t from fun ⟨i, i0, i1, hb⟩ => hh i i0 i1 hb)]
  have hN : ∀ i : Int, 0 ≤ i → i < t.2.2.2.2.1.length → ((ix t.2.2.2.2.1 i).length : Int) = t.1 := fun i i0 i1 => Decidable.not_not.1 fun h => hh i i0 i1 (.inl h)
  have hS : ∀ i : Int, 0 ≤ i → i < t.2.2.2.2.1.length → ((ix t.2.2.2.2.2.1 i).length : Int) = t.1 := fun i i0 i1 => Decidable.not_not.1 fun h => hh i i0 i1 (.inr h)
  rw [r16_Check_L9_eq]; unfold r16_Check_L9_B
  by_cases c4 : t.2.2.1 < 0 ∨ (t.2.2.2.2.1.length : Int) ≤ t.2.2.1
  · rw [if_pos (show TTo t from .inl c4)]
    (try dsimp only); (repeat' first | (with_reducible refine G_to ?_ ?_; focus (first | omega | (unfold fits; omega) | (unfold room; (try simp only [List.length_append, List.length_cons, List.length_nil]); omega))) | (with_reducible refine both_to ?_ ?_) | (with_reducible refine itet_to ?_) | (with_reducible refine itef_to ?_) | (with_reducible refine ite_to (fun _ => ?_) (fun _ => ?_))) <;> try (exfalso; omega)
    all_goals rfl
  (try dsimp only); (repeat' first | (with_reducible refine G_to ?_ ?_; focus (first | omega | (unfold fits; omega) | (unfold room; (try simp only [List.length_append, List.length_cons, List.length_nil]); omega))) | (with_reducible refine both_to ?_ ?_) | (with_reducible refine itet_to ?_) | (with_reducible refine itef_to ?_) | (with_reducible refine ite_to (fun _ => ?_) (fun _ => ?_))) <;> try (exfalso; omega)
  refine scan_to (len := (t.2.2.2.2.1.length : Int)) (bad := fun i => ∃ q ∈ ix t.2.2.2.2.1 i, q < 0 ∨ (t.2.2.2.2.1.length : Int) ≤ q) (by omega) (fun i h0 h1 => ⟨fun hb => ?_, fun hb => ?_⟩) (fun hh2 => ?_)
  · rw [if_pos (show TTo t from .inr (ex_ix.2 ⟨i, h0, h1, hb⟩))]
    rw [r16_Check_L16_eq]; unfold r16_Check_L16_B
    (try dsimp only); (repeat' first | (with_reducible refine G_to ?_ ?_; focus (first | omega | (unfold fits; omega) | (unfold room; (try simp only [List.length_append, List.length_cons, List.length_nil]); omega))) | (with_reducible refine both_to ?_ ?_) | (with_reducible refine itet_to ?_) | (with_reducible refine itef_to ?_) | (with_reducible refine ite_to (fun _ => ?_) (fun _ => ?_))) <;> try (exfalso; omega)
    have hlt := hN i h0 h1
    refine scan_to (len := t.1) (bad := fun a => ix (ix t.2.2.2.2.1 i) a < 0 ∨ (t.2.2.2.2.1.length : Int) ≤ ix (ix t.2.2.2.2.1 i) a) (by omega) (fun a a0 a1 => ⟨fun hb => ?_, fun hb => ?_⟩) (fun hh3 => ?_)
    · rw [r16_Check_L19_eq]; unfold r16_Check_L19_B
      (try dsimp only); (repeat' first | (with_reducible refine G_to ?_ ?_; focus (first | omega | (unfold fits; omega) | (unfold room; (try simp only [List.length_append, List.length_cons, List.length_nil]); omega))) | (with_reducible refine both_to ?_ ?_) | (with_reducible refine itet_to ?_) | (with_reducible refine itef_to ?_) | (with_reducible refine ite_to (fun _ => ?_) (fun _ => ?_))) <;> try (exfalso; omega)
      all_goals rfl
    · conv => lhs; rw [r16_Check_L19_eq]; unfold r16_Check_L19_B
      (try dsimp only); (repeat' first | (with_reducible refine G_to ?_ ?_; focus (first | omega | (unfold fits; omega) | (unfold room; (try simp only [List.length_append, List.length_cons, List.length_nil]); omega))) | (with_reducible refine both_to ?_ ?_) | (with_reducible refine itet_to ?_) | (with_reducible refine itef_to ?_) | (with_reducible refine ite_to (fun _ => ?_) (fun _ => ?_))) <;> try (exfalso; omega)
      all_goals rfl
    · exfalso
      obtain ⟨k, i0, i1, i2⟩ := ex_ix.1 hb
      exact hh3 k i0 (by omega) i2
  · conv => lhs; rw [r16_Check_L16_eq]; unfold r16_Check_L16_B
    (try dsimp only); (repeat' first | (with_reducible refine G_to ?_ ?_; focus (first | omega | (unfold fits; omega) | (unfold room; (try simp only [List.length_append, List.length_cons, List.length_nil]); omega))) | (with_reducible refine both_to ?_ ?_) | (with_reducible refine itet_to ?_) | (with_reducible refine itef_to ?_) | (with_reducible refine ite_to (fun _ => ?_) (fun _ => ?_))) <;> try (exfalso; omega)
    have hlt := hN i h0 h1
    refine scan_to (len := t.1) (bad := fun a => ix (ix t.2.2.2.2.1 i) a < 0 ∨ (t.2.2.2.2.1.length : Int) ≤ ix (ix t.2.2.2.2.1 i) a) (by omega) (fun a a0 a1 => ⟨fun hb' => ?_, fun hb => ?_⟩) (fun hh3 => ?_)
    · exfalso; exact hb (ex_ix.2 ⟨a, a0, by omega, hb'⟩)
    · conv => lhs; rw [r16_Check_L19_eq]; unfold r16_Check_L19_B
      (try dsimp only); (repeat' first | (with_reducible refine G_to ?_ ?_; focus (first | omega | (unfold fits; omega) | (unfold room; (try simp only [List.length_append, List.length_cons, List.length_nil]); omega))) | (with_reducible refine both_to ?_ ?_) | (with_reducible refine itet_to ?_) | (with_reducible refine itef_to ?_) | (with_reducible refine ite_to (fun _ => ?_) (fun _ => ?_))) <;> try (exfalso; omega)
      all_goals rfl
    · rw [r16_Check_L19_eq]; unfold r16_Check_L19_B
      (try dsimp only); (repeat' first | (with_reducible refine G_to ?_ ?_; focus (first | omega | (unfold fits; omega) | (unfold room; (try simp only [List.length_append, List.length_cons, List.length_nil]); omega))) | (with_reducible refine both_to ?_ ?_) | (with_reducible refine itet_to ?_) | (with_reducible refine itef_to ?_) | (with_reducible refine ite_to (fun _ => ?_) (fun _ => ?_))) <;> try (exfalso; omega)
      all_goals rfl
  rw [if_neg (show ¬ TTo t from fun h => h.elim c4 (fun h => by obtain ⟨i, i0, i1, i2⟩ := ex_ix.1 h; exact hh2 i i0 i1 i2))]
  rw [r16_Check_L16_eq]; unfold r16_Check_L16_B
  rw [if_neg (by simp)]
  have hsaid := r16_Words_spec (by omega) c3s c3l (by omega) hS
  have hwl := tW_len (by omega) c3s c3l (by omega) hS
  have k3 : Tells (r16_Long t) (TLong t) := by
    unfold r16_Long
    by_cases c : TLong t
    · refine ⟨true, bind_to hsaid ?_, by simp [c]⟩
      refine scan_to (len := ((tW t).length : Int)) (bad := fun i => 8 < (ix (tW t) i).length) (by omega) (fun i h0 h1 => ⟨fun hb => ?_, fun hb => ?_⟩) (fun hh => ?_)
      · rw [r16_Long_L3_eq]; unfold r16_Long_L3_B
        (try dsimp only); (repeat' first | (with_reducible refine G_to ?_ ?_; focus (first | omega | (unfold fits; omega) | (unfold room; (try simp only [List.length_append, List.length_cons, List.length_nil]); omega))) | (with_reducible refine both_to ?_ ?_) | (with_reducible refine itet_to ?_) | (with_reducible refine itef_to ?_) | (with_reducible refine ite_to (fun _ => ?_) (fun _ => ?_))) <;> try (exfalso; omega)
        all_goals rfl
      · conv => lhs; rw [r16_Long_L3_eq]; unfold r16_Long_L3_B
        (try dsimp only); (repeat' first | (with_reducible refine G_to ?_ ?_; focus (first | omega | (unfold fits; omega) | (unfold room; (try simp only [List.length_append, List.length_cons, List.length_nil]); omega))) | (with_reducible refine both_to ?_ ?_) | (with_reducible refine itet_to ?_) | (with_reducible refine itef_to ?_) | (with_reducible refine ite_to (fun _ => ?_) (fun _ => ?_))) <;> try (exfalso; omega)
        all_goals rfl
      · obtain ⟨i, i0, i1, i2⟩ := ex_ix.1 c; exact absurd i2 (hh i i0 i1)
    · refine ⟨false, bind_to hsaid ?_, by simp [c]⟩
      refine scan_to (len := ((tW t).length : Int)) (bad := fun i => 8 < (ix (tW t) i).length) (by omega) (fun i h0 h1 => ⟨fun hb => absurd (ex_ix.2 ⟨i, h0, h1, hb⟩) c, fun hb => ?_⟩) (fun hh => ?_)
      · conv => lhs; rw [r16_Long_L3_eq]; unfold r16_Long_L3_B
        (try dsimp only); (repeat' first | (with_reducible refine G_to ?_ ?_; focus (first | omega | (unfold fits; omega) | (unfold room; (try simp only [List.length_append, List.length_cons, List.length_nil]); omega))) | (with_reducible refine both_to ?_ ?_) | (with_reducible refine itet_to ?_) | (with_reducible refine itef_to ?_) | (with_reducible refine ite_to (fun _ => ?_) (fun _ => ?_))) <;> try (exfalso; omega)
        all_goals rfl
      · rw [r16_Long_L3_eq]; unfold r16_Long_L3_B
        (try dsimp only); (repeat' first | (with_reducible refine G_to ?_ ?_; focus (first | omega | (unfold fits; omega) | (unfold room; (try simp only [List.length_append, List.length_cons, List.length_nil]); omega))) | (with_reducible refine both_to ?_ ?_) | (with_reducible refine itet_to ?_) | (with_reducible refine itef_to ?_) | (with_reducible refine ite_to (fun _ => ?_) (fun _ => ?_))) <;> try (exfalso; omega)
        all_goals rfl
  refine k3.to (fun h => by rw [if_pos h]) (fun h3 => ?_)
  rw [if_neg h3]
  refine bind_to hsaid ?_
  have k4 : ∀ i : Int, 0 ≤ i → i < (tW t).length → (ix (tW t) i).length ≤ 1000 := fun i i0 i1 => by
    by_cases e : 8 < (ix (tW t) i).length
    · exact absurd (ex_ix.2 ⟨i, i0, i1, e⟩) h3
    · omega
  refine scan_to (len := ((tW t).length : Int)) (bad := fun i => LBad t (ix (tW t) i)) (by omega) (fun i h0 h1 => ⟨fun hb => ?_, fun hb => ?_⟩) (fun hh4 => ?_)
  · rw [if_pos (show TSay t from ex_ix.2 ⟨i, h0, h1, hb⟩)]
    rw [r16_Check_L28_eq]; unfold r16_Check_L28_B
    (try dsimp only); (repeat' first | (with_reducible refine G_to ?_ ?_; focus (first | omega | (unfold fits; omega) | (unfold room; (try simp only [List.length_append, List.length_cons, List.length_nil]); omega))) | (with_reducible refine both_to ?_ ?_) | (with_reducible refine itet_to ?_) | (with_reducible refine itef_to ?_) | (with_reducible refine ite_to (fun _ => ?_) (fun _ => ?_))) <;> try (exfalso; omega)
    rcases r16_letters_spec (out := t.2.1) (k4 i h0 h1) with ⟨_, e⟩ | ⟨e, _⟩
    · refine bind_to e ?_
      rw [if_pos (by decide)]
    · exact absurd hb e
  · conv => lhs; rw [r16_Check_L28_eq]; unfold r16_Check_L28_B
    (try dsimp only); (repeat' first | (with_reducible refine G_to ?_ ?_; focus (first | omega | (unfold fits; omega) | (unfold room; (try simp only [List.length_append, List.length_cons, List.length_nil]); omega))) | (with_reducible refine both_to ?_ ?_) | (with_reducible refine itet_to ?_) | (with_reducible refine itef_to ?_) | (with_reducible refine ite_to (fun _ => ?_) (fun _ => ?_))) <;> try (exfalso; omega)
    rcases r16_letters_spec (out := t.2.1) (k4 i h0 h1) with ⟨e, _⟩ | ⟨_, e⟩
    · exact absurd e hb
    · refine bind_to e ?_
      (try dsimp only); (repeat' first | (with_reducible refine G_to ?_ ?_; focus (first | omega | (unfold fits; omega) | (unfold room; (try simp only [List.length_append, List.length_cons, List.length_nil]); omega))) | (with_reducible refine both_to ?_ ?_) | (with_reducible refine itet_to ?_) | (with_reducible refine itef_to ?_) | (with_reducible refine ite_to (fun _ => ?_) (fun _ => ?_))) <;> try (exfalso; omega)
      all_goals rfl
  · rw [if_neg (show ¬ TSay t from fun h => by obtain ⟨i, i0, i1, i2⟩ := ex_ix.1 h; exact hh4 i i0 i1 i2)]
    rw [r16_Check_L28_eq]; unfold r16_Check_L28_B
    rw [if_neg (by simp)]
structure TOk (t : Tr) : Prop where
  let1 : 1 ≤ t.1 ∧ t.1 ≤ 4
  n1 : 1 ≤ t.2.2.2.2.1.length ∧ t.2.2.2.2.1.length ≤ 6
  sl : t.2.2.2.2.2.1.length = t.2.2.2.2.1.length
  ll : t.2.2.2.2.2.2.1.length = t.2.2.2.2.1.length
  st : 0 ≤ t.2.2.1 ∧ t.2.2.1 < t.2.2.2.2.1.length
  srow : ∀ i : Int, 0 ≤ i → i < t.2.2.2.2.1.length → ((ix t.2.2.2.2.2.1 i).length : Int) = t.1
  tab : Tab t.1 t.2.2.2.2.1
  short : ∀ w ∈ tW t, w.length ≤ 8
theorem trE_zero (h : trE t = 0) : TOk t := by
  unfold trE at h
  by_cases c1 : TLet t
  · rw [if_pos c1] at h; omega
  rw [if_neg c1] at h
  by_cases c2 : TSize t
  · rw [if_pos c2] at h; omega
  rw [if_neg c2] at h
  by_cases c3 : TNum t
  · rw [if_pos c3] at h; omega
  rw [if_neg c3] at h
  by_cases c4 : TRow t
  · rw [if_pos c4] at h; omega
  rw [if_neg c4] at h
  by_cases c5 : TTo t
  · rw [if_pos c5] at h; omega
  rw [if_neg c5] at h
  by_cases c6 : TLong t
  · rw [if_pos c6] at h; omega
  unfold TLet at c1; unfold TSize at c2
  have hN : ∀ i : Int, 0 ≤ i → i < t.2.2.2.2.1.length → ((ix t.2.2.2.2.1 i).length : Int) = t.1 := fun i i0 i1 => Decidable.not_not.1 fun h => c4 ⟨i, i0, i1, .inl h⟩
  have hS : ∀ i : Int, 0 ≤ i → i < t.2.2.2.2.1.length → ((ix t.2.2.2.2.2.1 i).length : Int) = t.1 := fun i i0 i1 => Decidable.not_not.1 fun h => c4 ⟨i, i0, i1, .inr h⟩
  refine ⟨by omega, by omega, Decidable.not_not.1 fun h => c3 (.inl h), Decidable.not_not.1 fun h => c3 (.inr h), ?_, hS, ⟨fun r hr => ?_, fun r hr q hq => ?_⟩, fun w hw => ?_⟩
  · have : ¬ (t.2.2.1 < 0 ∨ (t.2.2.2.2.1.length : Int) ≤ t.2.2.1) := fun h => c5 (.inl h)
    omega
  · obtain ⟨i, i0, i1, rfl⟩ := (ex_ix (P := fun x => x = r)).1 ⟨r, hr, rfl⟩
    exact hN i i0 i1
  · have : ¬ (q < 0 ∨ (t.2.2.2.2.1.length : Int) ≤ q) := fun h => c5 (.inr ⟨r, hr, q, hq, h⟩)
    omega
  · by_cases e : 8 < w.length
    · exact absurd ⟨w, hw, e⟩ c6
    · omega
/-- What is said to a word. -/
def sy (t : Tr) : Int → List Int → List Int
  | _, [] => []
  | q, a :: w => ix (ix t.2.2.2.2.2.1 q) a ++ sy t (stp t.2.2.2.2.1 q a) w
theorem sy_len (h : TOk t) : ∀ {w : List Int} {q : Int}, 0 ≤ q → q < t.2.2.2.2.1.length → (∀ a ∈ w, 0 ≤ a ∧ a < t.1) → (sy t q w).length ≤ 8 * w.length
  | [], q, _, _, _ => by simp [sy]
  | a :: w, q, q0, q1, hw => by
    have ha := hw a (by simp)
    have hs := h.tab.stpb q0 q1 ha.1 ha.2
    have hr := h.srow q q0 q1
    have hsl := h.sl
    have := sy_len h (w := w) hs.1 hs.2 (fun b hb => hw b (by simp [hb]))
    have m : ix (ix t.2.2.2.2.2.1 q) a ∈ tW t := List.mem_append_right _ (List.mem_flatten.2 ⟨_, ix_mem q0 (by omega), ix_mem ha.1 (by omega)⟩)
    have := h.short _ m
    rw [sy, List.length_append, List.length_cons]; omega
theorem trans_run_L3_spec (h : TOk t) {w : List Int} (hw : ∀ a ∈ w, 0 ≤ a ∧ a < t.1) (hl : w.length ≤ 60) : ∀ (n : Nat) (i q : Int) (out : List Int), (w.length - i).toNat = n → 0 ≤ i → i ≤ w.length → 0 ≤ q → q < t.2.2.2.2.1.length → (out.length : Int) ≤ 8 * i →
    trans_run_L3 t w q i out = some (wlk t.2.2.2.2.1 q (w.drop i.toNat), out ++ sy t q (w.drop i.toNat)) := by
  intro n
  induction n with
  | zero =>
    intro i q out hn h0 h1 q0 q1 ho
    rw [trans_run_L3_eq]; unfold trans_run_L3_B
    rw [List.drop_of_length_le (by omega), if_neg (by simp only [decide_eq_true_eq]; omega)]
    simp [wlk, sy]
  | succ n ih =>
    intro i q out hn h0 h1 q0 q1 ho
    have ha := hw _ (ix_mem h0 (by omega : i < w.length))
    have hr := h.tab.rowlen q0 q1
    have hsr := h.srow q q0 q1
    have hs := h.tab.stpb q0 q1 ha.1 ha.2
    have hsl := h.sl
    have m : ix (ix t.2.2.2.2.2.1 q) (ix w i) ∈ tW t := List.mem_append_right _ (List.mem_flatten.2 ⟨_, ix_mem q0 (by omega), ix_mem ha.1 (by omega)⟩)
    have hsh := h.short _ m
    rw [trans_run_L3_eq]; unfold trans_run_L3_B
    (try dsimp only); (repeat' first | (with_reducible refine G_to ?_ ?_; focus (first | omega | (unfold fits; omega) | (unfold room; (try simp only [List.length_append, List.length_cons, List.length_nil]); omega))) | (with_reducible refine both_to ?_ ?_) | (with_reducible refine itet_to ?_) | (with_reducible refine itef_to ?_) | (with_reducible refine ite_to (fun _ => ?_) (fun _ => ?_))) <;> try (exfalso; omega)
    rw [ix_drop h0 (by omega), show ix (ix t.2.2.2.2.1 q) (ix w i) = stp t.2.2.2.2.1 q (ix w i) from rfl]
    rw [ih (i + 1) _ _ (by omega) (by omega) (by omega) hs.1 hs.2 (by rw [List.length_append]; omega), List.append_assoc]
    rfl
theorem r16_Run_L4_spec (h : TOk t) {w : List Int} (hw : ∀ a ∈ w, 0 ≤ a ∧ a < t.1) (hl : w.length ≤ 60) : ∀ (n : Nat) (i q : Int) (out : List Int), (w.length - i).toNat = n → 0 ≤ i → i ≤ w.length → 0 ≤ q → q < t.2.2.2.2.1.length → (out.length : Int) ≤ 8 * i + 8 →
    r16_Run_L4 t w q i out = some (out ++ sy t q (w.drop i.toNat) ++ ix t.2.2.2.2.2.2.1 (wlk t.2.2.2.2.1 q (w.drop i.toNat))) := by
  intro n
  induction n with
  | zero =>
    intro i q out hn h0 h1 q0 q1 ho
    have hll := h.ll
    have m : ix t.2.2.2.2.2.2.1 q ∈ tW t := List.mem_append_left _ (List.mem_append_right _ (ix_mem q0 (by omega)))
    have hsh := h.short _ m
    rw [r16_Run_L4_eq]; unfold r16_Run_L4_B
    (try dsimp only); (repeat' first | (with_reducible refine G_to ?_ ?_; focus (first | omega | (unfold fits; omega) | (unfold room; (try simp only [List.length_append, List.length_cons, List.length_nil]); omega))) | (with_reducible refine both_to ?_ ?_) | (with_reducible refine itet_to ?_) | (with_reducible refine itef_to ?_) | (with_reducible refine ite_to (fun _ => ?_) (fun _ => ?_))) <;> try (exfalso; omega)
    rw [List.drop_of_length_le (by omega)]
    simp [wlk, sy]
  | succ n ih =>
    intro i q out hn h0 h1 q0 q1 ho
    have ha := hw _ (ix_mem h0 (by omega : i < w.length))
    have hr := h.tab.rowlen q0 q1
    have hsr := h.srow q q0 q1
    have hs := h.tab.stpb q0 q1 ha.1 ha.2
    have hsl := h.sl
    have m : ix (ix t.2.2.2.2.2.1 q) (ix w i) ∈ tW t := List.mem_append_right _ (List.mem_flatten.2 ⟨_, ix_mem q0 (by omega), ix_mem ha.1 (by omega)⟩)
    have hsh := h.short _ m
    rw [r16_Run_L4_eq]; unfold r16_Run_L4_B
    (try dsimp only); (repeat' first | (with_reducible refine G_to ?_ ?_; focus (first | omega | (unfold fits; omega) | (unfold room; (try simp only [List.length_append, List.length_cons, List.length_nil]); omega))) | (with_reducible refine both_to ?_ ?_) | (with_reducible refine itet_to ?_) | (with_reducible refine itef_to ?_) | (with_reducible refine ite_to (fun _ => ?_) (fun _ => ?_))) <;> try (exfalso; omega)
    rw [ix_drop h0 (by omega), show ix (ix t.2.2.2.2.1 q) (ix w i) = stp t.2.2.2.2.1 q (ix w i) from rfl]
    rw [ih (i + 1) _ _ (by omega) (by omega) (by omega) hs.1 hs.2 (by rw [List.length_append]; omega), List.append_assoc out]
    rfl
def allS (t : Tr) (w : List Int) : List Int := t.2.2.2.1 ++ sy t t.2.2.1 w ++ ix t.2.2.2.2.2.2.1 (wlk t.2.2.2.2.1 t.2.2.1 w)
theorem F_mem : t.2.2.2.1 ∈ tW t := List.mem_append_left _ (List.mem_append_left _ (by simp))
theorem trans_whole_spec (h : TOk t) {w : List Int} (hw : ∀ a ∈ w, 0 ≤ a ∧ a < t.1) (hl : w.length ≤ 60) : trans_whole t w = some (allS t w) ∧ (allS t w).length ≤ 1000 := by
  have hq := h.tab.wlkb h.st.1 h.st.2 hw
  have hll := h.ll
  have m : ix t.2.2.2.2.2.2.1 (wlk t.2.2.2.2.1 t.2.2.1 w) ∈ tW t := List.mem_append_left _ (List.mem_append_right _ (ix_mem hq.1 (by omega)))
  have h1 := h.short _ m
  have h2 := h.short _ F_mem
  have h3 := sy_len h h.st.1 h.st.2 hw
  have hlen : (allS t w).length ≤ 1000 := by
    unfold allS
    rw [List.length_append, List.length_append]; omega
  refine ⟨?_, hlen⟩
  unfold trans_whole trans_run
  have e := trans_run_L3_spec h hw hl _ 0 t.2.2.1 [] rfl (by omega) (by omega) h.st.1 h.st.2 (by simp)
  refine bind_to e ?_
  rw [show (0 : Int).toNat = 0 from rfl, List.drop_zero, List.nil_append]
  dsimp only
  rw [G_pos ⟨hq.1, by omega⟩]
  have e2 : [t.2.2.2.1, sy t t.2.2.1 w, ix t.2.2.2.2.2.2.1 (wlk t.2.2.2.2.1 t.2.2.1 w)].flatten = allS t w := by simp [allS]
  refine bind_to (slices_Concat_spec (by simp) (by rw [e2]; omega)) ?_
  rw [e2]
theorem r16_Run_spec (h : TOk t) {w : List Int} (hw : ∀ a ∈ w, 0 ≤ a ∧ a < t.1) (hl : w.length ≤ 60) : r16_Run t w = some (allS t w) := by
  have h2 := h.short _ F_mem
  unfold r16_Run
  (try dsimp only); (repeat' first | (with_reducible refine G_to ?_ ?_; focus (first | omega | (unfold fits; omega) | (unfold room; (try simp only [List.length_append, List.length_cons, List.length_nil]); omega))) | (with_reducible refine both_to ?_ ?_) | (with_reducible refine itet_to ?_) | (with_reducible refine itef_to ?_) | (with_reducible refine ite_to (fun _ => ?_) (fun _ => ?_))) <;> try (exfalso; omega)
  rw [List.nil_append, r16_Run_L4_spec h hw hl _ 0 _ _ rfl (by omega) (by omega) h.st.1 h.st.2 (by omega)]
  rfl
end

theorem slices_Clone_spec {s : List Int} (hs : s.length * 8 ≤ 140737488355328) : slices_Clone s = some s := by
  have hr : G (room ([] : List Int) s 8) (some (([] : List Int) ++ s)) = some s := by
    rw [G_pos (room_of (by simpa using hs))]; rfl
  unfold slices_Clone
  refine itep_to (fun h => ?_) (fun h => hr)
  obtain rfl : s = [] := List.length_eq_zero_iff.1 h
  rw [hr]; exact both_self (ts := [(.list (.int .i64))]) (some ([] : List Int))

theorem pigeon {α : Type} [DecidableEq α] : ∀ {l U : List α}, l.Nodup → (∀ x ∈ l, x ∈ U) → l.length ≤ U.length
  | [], _, _, _ => Nat.zero_le _
  | a :: l, U, hn, hs => by
    have ha := hs a (by simp)
    obtain ⟨h1, h2⟩ := List.nodup_cons.1 hn
    have := pigeon (U := U.erase a) h2 (fun x hx => (List.mem_erase_of_ne (by rintro rfl; exact h1 hx)).2 (hs x (by simp [hx])))
    rw [List.length_erase_of_mem ha] at this
    have hp : 0 < U.length := List.length_pos_of_mem ha
    rw [List.length_cons]; omega
theorem pigeon_int {l : List Int} {n : Nat} (h : l.Nodup) (hb : ∀ x ∈ l, 0 ≤ x ∧ x < n) : l.length ≤ n := by
  have := pigeon (U := (List.range n).map Int.ofNat) h (fun x hx => by
    have := hb x hx
    exact List.mem_map.2 ⟨x.toNat, List.mem_range.2 (by omega), by show ((x.toNat : Nat) : Int) = x; omega⟩)
  simpa using this

theorem mfind_none {α : Type} : ∀ {ks : List α} {x : α}, mfind ks x = none ↔ x ∉ ks
  | [], x => by simp [mfind]
  | y :: ys, x => by
    unfold mfind
    by_cases h : y = x
    · rw [if_pos h]; simp [h]
    · rw [if_neg h, Option.map_eq_none_iff, mfind_none]
      simp [Ne.symm h]
/-- A map that only marks: all its elements are one. -/
abbrev ones {α : Type} (ks : List α) : List Int := List.replicate ks.length 1
theorem mget_ones {α : Type} {ks : List α} {x : α} : (mget ks (ones ks) x 0 = 0) ↔ x ∉ ks := by
  unfold mget
  cases h : mfind ks x with
  | none => simp [mfind_none.1 h]
  | some j =>
    have hx : x ∈ ks := by
      refine Classical.byContradiction fun hn => ?_
      rw [mfind_none.2 hn] at h; cases h
    have := mfind_lt h
    simp [hx, this]
theorem mputK_new {α : Type} {ks : List α} {x : α} (h : x ∉ ks) : mputK ks x = ks ++ [x] := by
  unfold mputK; rw [mfind_none.2 h]
theorem mputV_new {α : Type} {ks : List α} {x : α} (h : x ∉ ks) : mputV ks (ones ks) x 1 = ones (ks ++ [x]) := by
  unfold mputV; rw [mfind_none.2 h]
  show List.replicate ks.length 1 ++ [1] = List.replicate (ks ++ [x]).length 1
  rw [List.length_append, List.length_singleton, List.replicate_succ']

theorem mfind_mem {α : Type} {ks : List α} {x : α} (h : x ∈ ks) : ∃ j, mfind ks x = some j := by
  cases e : mfind ks x with
  | none => exact absurd h (mfind_none.1 e)
  | some j => exact ⟨j, rfl⟩
theorem mfind_hd {α : Type} (ks : List α) (x : α) : mfind (x :: ks) x = some 0 := by unfold mfind; rw [if_pos rfl]
theorem mfind_tl {α : Type} {ks : List α} {x y : α} (h : y ≠ x) : mfind (y :: ks) x = (mfind ks x).map (· + 1) := by
  rw [mfind, if_neg h]
theorem mfind_app {α : Type} : ∀ {ks : List α} {x : α} {j : Nat} (l : List α), mfind ks x = some j → mfind (ks ++ l) x = some j
  | [], _, _, _, h => by cases h
  | y :: ks, x, j, l, h => by
    rw [List.cons_append]
    by_cases e : y = x
    · subst e; rw [mfind_hd] at h ⊢; exact h
    · rw [mfind_tl e] at h ⊢
      cases hm : mfind ks x with
      | none => rw [hm] at h; cases h
      | some i => rw [hm] at h; rw [mfind_app l hm]; exact h
theorem mfind_new {α : Type} : ∀ {ks : List α} {x : α}, x ∉ ks → mfind (ks ++ [x]) x = some ks.length
  | [], x, _ => mfind_hd _ _
  | y :: ks, x, h => by
    have hy : y ≠ x := by rintro rfl; exact h (by simp)
    rw [List.cons_append, mfind_tl hy, mfind_new (fun hh => h (by simp [hh]))]; rfl
theorem mfind_at {α : Type} : ∀ {ks : List α} {x : α} {k : Nat}, ks[k]? = some x → (∀ j, j < k → ks[j]? ≠ some x) → mfind ks x = some k
  | [], _, _, h, _ => by simp at h
  | y :: ks, x, k, h, hf => by
    cases k with
    | zero =>
      have : y = x := by simpa using h
      subst this; exact mfind_hd _ _
    | succ k =>
      have hy : y ≠ x := by have := hf 0 (by omega); simpa using this
      rw [mfind_tl hy, mfind_at (k := k) (by simpa using h) (fun j hj => by have := hf (j + 1) (by omega); simpa using this)]; rfl
theorem mfind_inj {α : Type} {ks : List α} {x y : α} {j : Nat} (h : mfind ks x = some j) (k : mfind ks y = some j) : x = y := by
  have := mfind_get h; rw [mfind_get k] at this; injection this with this; exact this.symm
theorem mfind_nodup {α : Type} {ks : List α} (hn : ks.Nodup) {j : Nat} (hj : j < ks.length) : mfind ks ks[j] = some j :=
  mfind_at (by simp) fun i hi e => by
    have hi' : i < ks.length := by omega
    rw [List.getElem?_eq_getElem hi'] at e
    exact List.pairwise_iff_getElem.1 hn i j hi' hj hi (Option.some.inj e)
theorem mfind_map {α β : Type} (f : α → β) : ∀ {ks : List α} {x : α}, (∀ y ∈ ks, f y = f x → y = x) → mfind (ks.map f) (f x) = mfind ks x
  | [], _, _ => rfl
  | y :: ks, x, h => by
    have ih := mfind_map f (ks := ks) (x := x) (fun z hz => h z (by simp [hz]))
    rw [List.map_cons]
    by_cases e : y = x
    · subst e; rw [mfind_hd, mfind_hd]
    · rw [mfind_tl e, mfind_tl (fun hh => e (h y (by simp) hh)), ih]
/-- 0, 1, 2, .. -/
def iota (n : Nat) : List Int := (List.range n).map fun j : Nat => (j : Int)
theorem iota_len (n : Nat) : (iota n).length = n := by simp [iota]
theorem iota_succ (n : Nat) : iota (n + 1) = iota n ++ [(n : Int)] := by simp [iota, List.range_succ]
theorem mget_iota {α : Type} {ks : List α} {x : α} {j : Nat} (h : mfind ks x = some j) : mget ks (iota ks.length) x 0 = j := by
  have := mfind_lt h
  unfold mget; rw [h]
  simp [iota, this]
theorem mhas_iff {α : Type} {ks : List α} {x : α} : mhas ks x = true ↔ x ∈ ks := by
  unfold mhas
  cases e : mfind ks x with
  | none => simp [mfind_none.1 e]
  | some j =>
    have := mfind_get e
    simp [List.mem_of_getElem? this]
theorem mputV_iota {α : Type} {ks : List α} {x : α} (h : x ∉ ks) : mputV ks (iota ks.length) x ks.length = iota (ks ++ [x]).length := by
  unfold mputV; rw [mfind_none.2 h, List.length_append, List.length_singleton, iota_succ]
theorem cover_nodup {α : Type} [DecidableEq α] : ∀ {l U : List α}, U.Nodup → (∀ x ∈ U, x ∈ l) → l.length ≤ U.length → l.Nodup
  | [], _, _, _, _ => List.nodup_nil
  | a :: l, U, hU, hs, hl => by
    have ha : a ∉ l := fun ha => by
      have := pigeon (l := U) (U := l) hU (fun x hx => by
        rcases List.mem_cons.1 (hs x hx) with rfl | h
        · exact ha
        · exact h)
      rw [List.length_cons] at hl; omega
    refine List.nodup_cons.2 ⟨ha, ?_⟩
    refine cover_nodup (U := U.erase a) (hU.erase a) (fun x hx => ?_) ?_
    · have hne : x ≠ a := ((List.Nodup.mem_erase_iff hU).1 hx).1
      rcases List.mem_cons.1 (hs x (List.mem_of_mem_erase hx)) with h | h
      · exact absurd h hne
      · exact h
    · have : U.length - 1 ≤ (U.erase a).length := by
        by_cases h : a ∈ U
        · rw [List.length_erase_of_mem h]; omega
        · rw [List.erase_of_not_mem h]; omega
      rw [List.length_cons] at hl; omega

/- Two numbers as one. -/
theorem pair_code {p q p' q' n : Int} (h : 0 ≤ q ∧ q < n) (h' : 0 ≤ q' ∧ q' < n) (e : p * n + q = p' * n + q') : p = p' ∧ q = q' := by
  have e1 : (p * n + q) / n = p := by
    rw [Int.mul_comm, Int.mul_add_ediv_left _ _ (by omega), Int.ediv_eq_zero_of_lt h.1 h.2]; omega
  have e2 : (p' * n + q') / n = p' := by
    rw [Int.mul_comm, Int.mul_add_ediv_left _ _ (by omega), Int.ediv_eq_zero_of_lt h'.1 h'.2]; omega
  have : p = p' := by rw [← e1, ← e2, e]
  subst this
  exact ⟨rfl, by omega⟩
theorem pair_lt {p q n m : Int} (h : 0 ≤ p ∧ p < m) (h' : 0 ≤ q ∧ q < n) : 0 ≤ p * n + q ∧ p * n + q < m * n := by
  have h1 : 0 ≤ p * n := Int.mul_nonneg h.1 (by omega)
  have h2 : (p + 1) * n ≤ m * n := Int.mul_le_mul_of_nonneg_right (by omega) (by omega)
  rw [Int.add_mul] at h2
  omega

theorem Equal_spec {a b : List Int} (ha : a.length ≤ 1000) : slices_Equal a b = some (decide (a = b)) := by
  unfold slices_Equal
  by_cases hl : (a.length : Int) = b.length
  · rw [if_neg (by simpa using hl)]
    refine scan_to (len := (a.length : Int)) (bad := fun t => ix a t ≠ ix b t) (lo := 0) (by omega) (fun t t0 t1 => ⟨fun hb => ?_, fun hb => ?_⟩) (fun hh => ?_)
    · rw [slices_Equal_L4_eq]; unfold slices_Equal_L4_B
      rw [if_pos (by simp; omega)]
      refine G_to (by omega) (G_to (by omega) ?_)
      rw [if_pos (by simpa using hb), decide_eq_false (fun e => hb (by rw [e]))]
    · conv => lhs; rw [slices_Equal_L4_eq]; unfold slices_Equal_L4_B
      rw [if_pos (by simp; omega)]
      refine G_to (by omega) (G_to (by omega) ?_)
      rw [if_neg (by simpa using hb)]
      exact G_to (by unfold fits; omega) rfl
    · rw [slices_Equal_L4_eq]; unfold slices_Equal_L4_B
      rw [if_neg (by simp), decide_eq_true (ix_ext (by omega) fun t t0 t1 => Decidable.not_not.1 (hh t t0 t1))]
  · rw [if_pos (by simpa using hl), decide_eq_false (fun e => hl (by rw [e]))]

abbrev Cp := Int × Int × Unit
/- counting in a map -/
theorem cnt_new {α : Type} {ks : List α} {vs : List Int} {k : α} (hl : vs.length = ks.length) (h : k ∉ ks) : mget ks vs k (0 : Int) = 0 ∧ mputK ks k = ks ++ [k] ∧ mputZ ks vs k (0 : Int) = vs ++ [0] ∧ mpos ks k = (ks.length : Int) ∧ mget (ks ++ [k]) (vs ++ [0]) k (0 : Int) = 0 ∧ (vs ++ [(0 : Int)]).set ks.length 1 = vs ++ [1] ∧ mget (ks ++ [k]) (vs ++ [1]) k (0 : Int) = 1 := by
  have e := mfind_none.2 h
  have e2 := mfind_new h
  refine ⟨by unfold mget; rw [e], mputK_new h, by unfold mputZ; rw [e], by unfold mpos; rw [e], ?_, ?_, ?_⟩
  · unfold mget; rw [e2]; simp [← hl, List.getD_eq_getElem?_getD]
  · rw [← hl, List.set_append_right _ _ (Nat.le_refl _)]; simp
  · unfold mget; rw [e2]; simp [← hl, List.getD_eq_getElem?_getD]
theorem cnt_old {α : Type} {ks : List α} {vs : List Int} {k : α} (hl : vs.length = ks.length) (h : k ∈ ks) : ∃ j : Nat, j < vs.length ∧ mget ks vs k (0 : Int) = vs.getD j 0 ∧ mputK ks k = ks ∧ mputZ ks vs k (0 : Int) = vs ∧ mpos ks k = (j : Int) ∧ ∀ x, mget ks (vs.set j x) k (0 : Int) = x := by
  obtain ⟨j, e⟩ := mfind_mem h
  have hj := mfind_lt e
  refine ⟨j, by omega, by unfold mget; rw [e], by unfold mputK; rw [e], by unfold mputZ; rw [e], by unfold mpos; rw [e], fun x => ?_⟩
  unfold mget; rw [e]
  have : j < vs.length := by omega
  simp [List.getD_eq_getElem?_getD, this]
/- what words are led to, and say -/
def stT (t : Tr) (w : List Int) : Int := wlk t.2.2.2.2.1 t.2.2.1 w
def prS (t u : Tr) (w : List Int) : Cp := (stT t w, stT u w, ())
theorem sy_snoc (t : Tr) (a : Int) : ∀ (w : List Int) (q : Int), sy t q (w ++ [a]) = sy t q w ++ ix (ix t.2.2.2.2.2.1 (wlk t.2.2.2.2.1 q w)) a
  | [], q => by simp [sy, wlk]
  | b :: w, q => by
    rw [List.cons_append, sy, sy_snoc t a w, sy, List.append_assoc]; rfl
theorem stT_snoc (t : Tr) (w : List Int) (a : Int) : stT t (w ++ [a]) = stp t.2.2.2.2.1 (stT t w) a := by
  unfold stT wlk; rw [List.foldl_append]; rfl
def TT' (t : Tr) (w : List Int) : List Int := t.2.2.2.1 ++ sy t t.2.2.1 w
theorem allS_eq (t : Tr) (w : List Int) : allS t w = TT' t w ++ ix t.2.2.2.2.2.2.1 (stT t w) := rfl
theorem allS_snoc (t : Tr) (w : List Int) (a : Int) : allS t (w ++ [a]) = TT' t w ++ (ix (ix t.2.2.2.2.2.1 (stT t w)) a ++ ix t.2.2.2.2.2.2.1 (stp t.2.2.2.2.1 (stT t w) a)) := by
  rw [allS_eq, stT_snoc]; unfold TT'
  rw [sy_snoc]
  simp only [List.append_assoc]; rfl
theorem delay {T U T' U' L M S S' : List Int} (h1 : T ++ L = U ++ M) (h2 : T' ++ L = U' ++ M) (h3 : T ++ S = U ++ S') : T' ++ S = U' ++ S' := by
  rcases List.append_eq_append_iff.1 h1 with ⟨d, rfl, rfl⟩ | ⟨d, rfl, rfl⟩
  · rcases List.append_eq_append_iff.1 h2 with ⟨d', rfl, e⟩ | ⟨d', rfl, e⟩
    · have := List.append_cancel_right e
      subst this
      rw [List.append_assoc, List.append_cancel_left_eq] at h3
      rw [h3, List.append_assoc]
    · have hl := congrArg List.length e
      simp only [List.length_append] at hl
      obtain rfl := List.length_eq_zero_iff.1 (show d.length = 0 by omega)
      obtain rfl := List.length_eq_zero_iff.1 (show d'.length = 0 by omega)
      simp only [List.append_nil, List.append_cancel_left_eq] at h3 ⊢
      exact h3
  · rcases List.append_eq_append_iff.1 h2 with ⟨d', rfl, e⟩ | ⟨d', rfl, e⟩
    · have hl := congrArg List.length e
      simp only [List.length_append] at hl
      obtain rfl := List.length_eq_zero_iff.1 (show d.length = 0 by omega)
      obtain rfl := List.length_eq_zero_iff.1 (show d'.length = 0 by omega)
      simp only [List.append_nil, List.append_cancel_left_eq] at h3 ⊢
      exact h3
    · have := List.append_cancel_right e
      subst this
      rw [List.append_assoc, List.append_cancel_left_eq] at h3
      rw [← h3, List.append_assoc]
section
variable {t u : Tr} {i : Nat} {ws : List (List Int)} {ks : List Cp}
theorem agree_snoc {v w : List Int} (hp : prS t u v = prS t u w) (hv : allS t v = allS u v) (hw : allS t w = allS u w) {a : Int} (ha : allS t (v ++ [a]) = allS u (v ++ [a])) : allS t (w ++ [a]) = allS u (w ++ [a]) := by
  have e1 : stT t v = stT t w := congrArg Prod.fst hp
  have e2 : stT u v = stT u w := congrArg (fun x : Cp => x.2.1) hp
  rw [allS_snoc, allS_snoc, e1, e2] at ha
  rw [allS_eq, allS_eq, e1, e2] at hv
  rw [allS_eq, allS_eq] at hw
  rw [allS_snoc, allS_snoc]
  exact delay hv hw ha
/-- What is met so far. -/
structure DI (t u : Tr) (i : Nat) (ws : List (List Int)) (ks : List Cp) : Prop where
  nd : ks.Nodup
  kp : ∀ k ∈ ks, (0 ≤ k.1 ∧ k.1 < t.2.2.2.2.1.length) ∧ 0 ≤ k.2.1 ∧ k.2.1 < u.2.2.2.2.1.length
  wl : ∀ w ∈ ws, (∀ a ∈ w, 0 ≤ a ∧ a < t.1) ∧ w.length ≤ ks.length
  z : [] ∈ ws
  n : ws.length ≤ 1 + 4 * ks.length
  le : i ≤ ws.length
  done : ∀ j : Int, 0 ≤ j → j < i → allS t (ix ws j) = allS u (ix ws j) ∧ prS t u (ix ws j) ∈ ks
  rep : ∀ k ∈ ks, ∃ v ∈ ws, prS t u v = k ∧ allS t v = allS u v ∧ ∀ a, 0 ≤ a → a < t.1 → v ++ [a] ∈ ws
theorem DI.kl (h : DI t u i ws ks) (ht : TOk t) (hu : TOk u) : ks.length ≤ 36 := by
  have n1 := ht.n1
  have n2 := hu.n1
  have hnd : (ks.map fun s : Cp => s.1 * (u.2.2.2.2.1.length : Int) + s.2.1).Nodup := by
    refine List.Pairwise.map _ ?_ (List.Pairwise.and_mem.1 h.nd)
    rintro ⟨p, q, x⟩ ⟨p', q', x'⟩ ⟨hx, hy, hne⟩ e
    obtain ⟨rfl, rfl⟩ := pair_code (h.kp _ hx).2 (h.kp _ hy).2 e
    exact hne rfl
  have := pigeon_int (n := t.2.2.2.2.1.length * u.2.2.2.2.1.length) hnd (fun v hv => by
    obtain ⟨s, hs, rfl⟩ := List.mem_map.1 hv
    have := pair_lt (h.kp s hs).1 (h.kp s hs).2
    push_cast
    exact this)
  rw [List.length_map] at this
  have h6 := Nat.mul_le_mul n1.2 n2.2
  omega
theorem DI.all (h : DI t u ws.length ws ks) (hL : t.1 = u.1) : ∀ w : List Int, (∀ a ∈ w, 0 ≤ a ∧ a < t.1) → allS t w = allS u w := by
  have fromws : ∀ w ∈ ws, allS t w = allS u w ∧ prS t u w ∈ ks := fun w hw => by
    obtain ⟨j, j0, j1, e⟩ := (ex_ix (P := fun y => y = w)).1 ⟨w, hw, rfl⟩
    rw [← e]; exact h.done j j0 j1
  have key : ∀ (m : Nat) (w : List Int), w.length = m → (∀ a ∈ w, 0 ≤ a ∧ a < t.1) → ∃ v ∈ ws, prS t u v = prS t u w ∧ allS t v = allS u v ∧ allS t w = allS u w ∧ ∀ a, 0 ≤ a → a < t.1 → v ++ [a] ∈ ws := by
    intro m
    induction m with
    | zero =>
      intro w hw hl
      obtain rfl := List.length_eq_zero_iff.1 hw
      obtain ⟨g1, g2⟩ := fromws [] h.z
      obtain ⟨v, v1, v2, v3, v4⟩ := h.rep _ g2
      exact ⟨v, v1, v2, v3, g1, v4⟩
    | succ m ih =>
      intro w hw hl
      have hne : w ≠ [] := by rintro rfl; simp at hw
      have ew := List.dropLast_concat_getLast hne
      have hl1 : ∀ a ∈ w.dropLast, 0 ≤ a ∧ a < t.1 := fun a ha => hl a ((List.dropLast_sublist w).subset ha)
      have hla := hl _ (List.getLast_mem hne)
      obtain ⟨v, v1, v2, v3, v4, v5⟩ := ih w.dropLast (by rw [List.length_dropLast]; omega) hl1
      generalize w.getLast hne = a at *
      generalize w.dropLast = w' at *
      subst ew
      have hm := v5 a hla.1 hla.2
      obtain ⟨g1, g2⟩ := fromws _ hm
      have hag := agree_snoc v2 v3 v4 g1
      have e : prS t u (v ++ [a]) = prS t u (w' ++ [a]) := by
        have e1 : stT t v = stT t w' := congrArg Prod.fst v2
        have e2 : stT u v = stT u w' := congrArg (fun x : Cp => x.2.1) v2
        unfold prS
        rw [stT_snoc, stT_snoc, stT_snoc, stT_snoc, e1, e2]
      rw [e] at g2
      obtain ⟨x, x1, x2, x3, x4⟩ := h.rep _ g2
      exact ⟨x, x1, x2, x3, hag, x4⟩
  intro w hw
  obtain ⟨_, _, _, _, h4, _⟩ := key _ w rfl hw
  exact h4
def KD (w : List Int) (n : Nat) : List (List Int) := (List.range n).map fun j : Nat => w ++ [(j : Int)]
theorem KD_succ (w : List Int) (n : Nat) : KD w (n + 1) = KD w n ++ [w ++ [(n : Int)]] := by unfold KD; simp [List.range_succ]
theorem KD_len (w : List Int) (n : Nat) : (KD w n).length = n := by simp [KD]
theorem KD_mem {w x : List Int} {n : Nat} (h : x ∈ KD w n) : ∃ a : Int, 0 ≤ a ∧ a < n ∧ x = w ++ [a] := by
  unfold KD at h
  obtain ⟨j, hj, rfl⟩ := List.mem_map.1 h
  have := List.mem_range.1 hj
  exact ⟨j, by omega, by omega, rfl⟩
theorem KD_has {w : List Int} {n : Nat} {a : Int} (a0 : 0 ≤ a) (a1 : a < n) : w ++ [a] ∈ KD w n := by
  unfold KD
  exact List.mem_map.2 ⟨a.toNat, List.mem_range.2 (by omega), by rw [Int.toNat_of_nonneg a0]⟩
theorem prS_in (ht : TOk t) (hu : TOk u) (hL : t.1 = u.1) {w : List Int} (hw : ∀ a ∈ w, 0 ≤ a ∧ a < t.1) : (0 ≤ (prS t u w).1 ∧ (prS t u w).1 < t.2.2.2.2.1.length) ∧ 0 ≤ (prS t u w).2.1 ∧ (prS t u w).2.1 < u.2.2.2.2.1.length :=
  ⟨ht.tab.wlkb ht.st.1 ht.st.2 hw, hu.tab.wlkb hu.st.1 hu.st.2 (fun a ha => by rw [← hL]; exact hw a ha)⟩
theorem DI.old (h : DI t u i ws ks) (hi : i < ws.length) (ha : allS t (ix ws i) = allS u (ix ws i)) (hk : prS t u (ix ws i) ∈ ks) : DI t u (i + 1) ws ks :=
  ⟨h.nd, h.kp, h.wl, h.z, h.n, hi, fun j j0 j1 => by
    by_cases e : j = i
    · rw [e]; exact ⟨ha, hk⟩
    · exact h.done j j0 (by omega), h.rep⟩
theorem DI.fresh (h : DI t u i ws ks) (ht : TOk t) (hu : TOk u) (hL : t.1 = u.1) (hi : i < ws.length) (ha : allS t (ix ws i) = allS u (ix ws i)) (hk : prS t u (ix ws i) ∉ ks) : DI t u (i + 1) (ws ++ KD (ix ws i) t.1.toNat) (ks ++ [prS t u (ix ws i)]) := by
  have hl := ht.let1
  have hm := ix_mem (l := ws) (i := (i : Int)) (by omega) (by omega)
  have hw := h.wl _ hm
  refine ⟨?_, fun k hk' => (List.mem_append.1 hk').elim (h.kp k) (fun e => by rw [List.mem_singleton.1 e]; exact prS_in ht hu hL hw.1), fun w hw' => ?_, List.mem_append_left _ h.z, ?_, ?_, fun j j0 j1 => ?_, fun k hk' => ?_⟩
  · rw [List.nodup_append]
    exact ⟨h.nd, by simp, fun x hx y hy => by rw [List.mem_singleton.1 hy]; rintro rfl; exact hk hx⟩
  · rw [List.length_append, List.length_singleton]
    rcases List.mem_append.1 hw' with hw' | hw'
    · have := h.wl w hw'; exact ⟨this.1, by omega⟩
    · obtain ⟨a, a0, a1, rfl⟩ := KD_mem hw'
      refine ⟨fun b hb => (List.mem_append.1 hb).elim (hw.1 b) (fun e => by rw [List.mem_singleton.1 e]; omega), ?_⟩
      rw [List.length_append, List.length_singleton]; have := hw.2; omega
  · rw [List.length_append, List.length_append, KD_len, List.length_singleton]
    have := h.n; omega
  · rw [List.length_append]; omega
  · by_cases e : j = i
    · rw [e, ix_append_left (by omega) (by omega)]; exact ⟨ha, by simp⟩
    · rw [ix_append_left j0 (by omega)]
      obtain ⟨g1, g2⟩ := h.done j j0 (by omega)
      exact ⟨g1, List.mem_append_left _ g2⟩
  · rcases List.mem_append.1 hk' with hk' | hk'
    · obtain ⟨v, v1, v2, v3, v4⟩ := h.rep k hk'
      exact ⟨v, List.mem_append_left _ v1, v2, v3, fun a a0 a1 => List.mem_append_left _ (v4 a a0 a1)⟩
    · rw [List.mem_singleton.1 hk']
      exact ⟨_, List.mem_append_left _ hm, rfl, ha, fun a a0 a1 => List.mem_append_right _ (KD_has a0 (by omega))⟩
/- the program -/
theorem trans_run_spec (h : TOk t) {w : List Int} (hw : ∀ a ∈ w, 0 ≤ a ∧ a < t.1) (hl : w.length ≤ 60) : trans_run t t.2.2.1 w = some (stT t w, sy t t.2.2.1 w) := by
  unfold trans_run
  have e := trans_run_L3_spec h hw hl _ 0 t.2.2.1 [] rfl (by omega) (by omega) h.st.1 h.st.2 (by simp)
  rw [show (0 : Int).toNat = 0 from rfl, List.drop_zero, List.nil_append] at e
  exact e
theorem P_kids (ht : TOk t) {l : List (List Int)} {w : List Int} (hl : l.length ≤ 1000) (hl1 : 1 ≤ l.length) (hw : ix l 0 = w) (hwl : w.length ≤ 100) {r12} {ks : List Cp} {vs : List Int} : ∀ (f n : Nat), t.1.toNat - n = f → n ≤ t.1.toNat → trans_Differ_L22 t l r12 ks vs (n : Int) (l ++ KD w n) = r12 ks vs ((l ++ KD w t.1.toNat).drop 1) := by
  have h4 := ht.let1
  intro f
  induction f with
  | zero =>
    intro n hf hn
    obtain rfl : n = t.1.toNat := by omega
    rw [trans_Differ_L22_eq]; unfold trans_Differ_L22_B
    rw [if_neg (by simp; omega)]
    exact G_to (by rw [List.length_append]; omega) rfl
  | succ f ih =>
    intro n hf hn
    have ih' := ih (n + 1) (by omega) (by omega)
    rw [KD_succ, ← List.append_assoc] at ih'
    rw [← ih', trans_Differ_L22_eq]; unfold trans_Differ_L22_B
    rw [if_pos (by simp; omega), hw]
    refine bind_to (slices_Clone_spec (by omega)) ?_
    exact G_to (by unfold room; simp; omega) (G_to (by unfold room; rw [List.length_append, KD_len]; simp; omega) (G_to (by unfold fits; omega) rfl))
/- the document -/
theorem R_state (h : TOk t) {w : List Int} (hw : ∀ a ∈ w, 0 ≤ a ∧ a < t.1) (hl : w.length ≤ 60) : r16_State t w = some (stT t w) := by
  have key : ∀ (n : Nat) (i q : Int), (w.length - i).toNat = n → 0 ≤ i → i ≤ w.length → 0 ≤ q → q < t.2.2.2.2.1.length → r16_State_L3 t w q i = some (wlk t.2.2.2.2.1 q (w.drop i.toNat)) := by
    intro n
    induction n with
    | zero =>
      intro i q hn h0 h1 q0 q1
      rw [r16_State_L3_eq]; unfold r16_State_L3_B
      rw [if_neg (by simp; omega), List.drop_of_length_le (by omega)]; rfl
    | succ n ih =>
      intro i q hn h0 h1 q0 q1
      have ha := hw _ (ix_mem h0 (by omega : i < w.length))
      have hr := h.tab.rowlen q0 q1
      have hs := h.tab.stpb q0 q1 ha.1 ha.2
      rw [r16_State_L3_eq]; unfold r16_State_L3_B
      rw [if_pos (by simp; omega), ix_drop h0 (by omega)]
      exact G_to (by omega) (G_to (by omega) (G_to (by omega) (G_to (by unfold fits; omega) (ih (i + 1) _ (by omega) (by omega) (by omega) hs.1 hs.2))))
  exact key _ 0 _ rfl (by omega) (by omega) h.st.1 h.st.2
def Seen2 (t u : Tr) (ks : List Cp) (seen : List Bool) : Prop := (seen.length : Int) = (t.2.2.2.2.1.length : Int) * u.2.2.2.2.1.length ∧ ∀ s : Cp, ((0 ≤ s.1 ∧ s.1 < t.2.2.2.2.1.length) ∧ 0 ≤ s.2.1 ∧ s.2.1 < u.2.2.2.2.1.length) → (ix seen (s.1 * (u.2.2.2.2.1.length : Int) + s.2.1) = true ↔ s ∈ ks)
theorem Seen2.put {ks : List Cp} {seen : List Bool} (h : Seen2 t u ks seen) {s : Cp} (hs : (0 ≤ s.1 ∧ s.1 < t.2.2.2.2.1.length) ∧ 0 ≤ s.2.1 ∧ s.2.1 < u.2.2.2.2.1.length) : Seen2 t u (ks ++ [s]) (seen.set (s.1 * (u.2.2.2.2.1.length : Int) + s.2.1).toNat true) := by
  refine ⟨by rw [List.length_set]; exact h.1, fun r hr => ?_⟩
  have l1 := pair_lt hs.1 hs.2
  have l2 := pair_lt hr.1 hr.2
  have hl := h.1
  by_cases e : r = s
  · subst e
    rw [ix_set_same l1.1 (by omega)]; simp
  · rw [ix_set_ne l1.1 l2.1 (fun hh => e (by
      obtain ⟨p, q, x⟩ := r
      obtain ⟨p', q', x'⟩ := s
      obtain ⟨rfl, rfl⟩ := pair_code hs.2 hr.2 hh
      rfl)), h.2 r hr, List.mem_append, List.mem_singleton]
    simp [e]
theorem R_kids (ht : TOk t) {ws : List (List Int)} {w : List Int} {i : Nat} (hi : i < ws.length) (hl : ws.length ≤ 1000) (hw : ix ws i = w) (hwl : w.length ≤ 100) {r5} {seen : List Bool} {p q : Int} : ∀ (f n : Nat), t.1.toNat - n = f → n ≤ t.1.toNat → r16_Differ_L17 t u i seen r5 p q (n : Int) (ws ++ KD w n) = r5 (i + 1) (seen.set (p * (u.2.2.2.2.1.length : Int) + q).toNat true) (ws ++ KD w t.1.toNat) := by
  have h4 := ht.let1
  intro f
  induction f with
  | zero =>
    intro n hf hn
    obtain rfl : n = t.1.toNat := by omega
    rw [r16_Differ_L17_eq]; unfold r16_Differ_L17_B
    rw [if_neg (by simp; omega)]
    exact G_to (by unfold fits; omega) rfl
  | succ f ih =>
    intro n hf hn
    have ih' := ih (n + 1) (by omega) (by omega)
    rw [KD_succ, ← List.append_assoc] at ih'
    have e : ix (ws ++ KD w n) i = w := by rw [ix_append_left (by omega) (by omega), hw]
    rw [← ih', r16_Differ_L17_eq]; unfold r16_Differ_L17_B
    rw [if_pos (by simp; omega), e, List.nil_append]
    exact G_to (by rw [List.length_append]; omega) (G_to (by rw [List.length_append]; omega) (G_to (by unfold room; simp; omega) (G_to (by unfold room; simp; omega) (G_to (by unfold room; rw [List.length_append, KD_len]; simp; omega) (G_to (by unfold fits; omega) rfl)))))
theorem main_both (ht : TOk t) (hu : TOk u) (hL : t.1 = u.1) : ∀ (f i : Nat) (ws : List (List Int)) (ks : List Cp) (vs : List Int) (seen : List Bool), 145 - i = f → DI t u i ws ks → vs.length = ks.length → (∀ v ∈ vs, 1 ≤ v ∧ v ≤ i) → Seen2 t u ks seen →
    ∃ r : List Int × Bool, trans_Differ_L12 t u ks vs (ws.drop i) = some (r.1, r.2, 0) ∧ r16_Differ_L5 t u i seen ws = some r ∧ r.1.length ≤ 1000 ∧ (r.2 = false → ∀ w : List Int, (∀ a ∈ w, 0 ≤ a ∧ a < t.1) → allS t w = allS u w) := by
  have n1 := ht.n1
  have n2 := hu.n1
  intro f
  induction f using Nat.strongRecOn with
  | ind f ih =>
  intro i ws ks vs seen hf h hvl hv hse
  have hk := h.kl ht hu
  have hwn := h.n
  have hle := h.le
  rw [trans_Differ_L12_eq, r16_Differ_L5_eq]; unfold trans_Differ_L12_B r16_Differ_L5_B
  by_cases c : i < ws.length
  · have hm := ix_mem (l := ws) (i := (i : Int)) (by omega) (by omega)
    have hw := h.wl _ hm
    have hw2 : ∀ a ∈ ix ws i, 0 ≤ a ∧ a < u.1 := fun a ha => by rw [← hL]; exact hw.1 a ha
    have e0 : ix (ws.drop i) 0 = ix ws (i : Int) := by
      have := ix_drop (l := ws) (i := (i : Int)) (by omega) (by omega)
      rw [Int.toNat_natCast] at this
      rw [this]; rfl
    have hpin := prS_in ht hu hL hw.1
    have hm36 : (t.2.2.2.2.1.length : Int) * u.2.2.2.2.1.length ≤ 36 := by
      have h6 := Int.ofNat_le.2 (Nat.mul_le_mul n1.2 n2.2)
      rw [Int.natCast_mul] at h6
      omega
    have hpin2 : 0 ≤ stT u (ix ws i) ∧ stT u (ix ws i) < u.2.2.2.2.1.length := hpin.2
    have hpl : 0 ≤ stT t (ix ws i) * (u.2.2.2.2.1.length : Int) + stT u (ix ws i) ∧ stT t (ix ws i) * (u.2.2.2.2.1.length : Int) + stT u (ix ws i) < (t.2.2.2.2.1.length : Int) * u.2.2.2.2.1.length := pair_lt hpin.1 hpin.2
    have hp0 : 0 ≤ stT t (ix ws i) * (u.2.2.2.2.1.length : Int) := Int.mul_nonneg hpin.1.1 (by omega)
    have hsl := hse.1
    have g1 : fits (stT t (ix ws i) * (u.2.2.2.2.1.length : Int)) := by unfold fits; omega
    have g2 : fits (stT t (ix ws i) * (u.2.2.2.2.1.length : Int) + stT u (ix ws i)) := by unfold fits; omega
    have g3 : 0 ≤ stT t (ix ws i) * (u.2.2.2.2.1.length : Int) + stT u (ix ws i) ∧ stT t (ix ws i) * (u.2.2.2.2.1.length : Int) + stT u (ix ws i) < (seen.length : Int) := by omega
    have g4 : (stT t (ix ws i) * (u.2.2.2.2.1.length : Int) + stT u (ix ws i)).toNat < seen.length := by omega
    obtain ⟨w1, w1l⟩ := trans_whole_spec ht hw.1 (by omega)
    obtain ⟨w2, w2l⟩ := trans_whole_spec hu hw2 (by omega)
    have s1 := trans_run_spec ht hw.1 (by omega)
    have s2 := trans_run_spec hu hw2 (by omega)
    have q1 := r16_Run_spec ht hw.1 (by omega)
    have q2 := r16_Run_spec hu hw2 (by omega)
    have z1 := R_state ht hw.1 (by omega)
    have z2 := R_state hu hw2 (by omega)
    rw [if_pos (by rw [decide_eq_true_iff, List.length_drop]; omega), G_pos (by rw [List.length_drop]; omega), G_pos (by rw [List.length_drop]; show (0 : Nat) < _; omega), e0]
    rw [if_pos (by simp; omega), G_pos (by omega), G_pos (by omega)]
    rw [show (t.1, t.2.1, t.2.2.1, t.2.2.2.1, t.2.2.2.2.1, t.2.2.2.2.2.1, t.2.2.2.2.2.2.1, ()) = t from rfl, show (u.1, u.2.1, u.2.2.1, u.2.2.2.1, u.2.2.2.2.1, u.2.2.2.2.2.1, u.2.2.2.2.2.2.1, ()) = u from rfl]
    rw [w1, w2, q1]
    simp only [Option.bind_some]
    rw [Equal_spec (by omega), G_pos (by omega), G_pos (by omega), q2]
    simp only [Option.bind_some]
    rw [r1_Words_spec (by omega)]
    simp only [Option.bind_some]
    by_cases ag : allS t (ix ws i) = allS u (ix ws i)
    · have ek : (stT t (ix ws i), stT u (ix ws i), ()) = prS t u (ix ws i) := rfl
      rw [if_neg (by simpa using ag), if_neg (by simpa using ag), s1, s2]
      simp only [Option.bind_some]
      rw [ek]
      generalize hPP : both _ _ _ = PP
      rw [G_pos (by omega), G_pos (by omega), z1]
      simp only [Option.bind_some]
      rw [G_pos (by omega), G_pos (by omega), z2]
      simp only [Option.bind_some]
      have r1 : ∀ (vs' : List Int) (ks' : List Cp), trans_Differ_J19 t (ws.drop i) (trans_Differ_L12 t u) (stT t (ix ws i)) (stT u (ix ws i)) ks' vs' = if 1 < mget ks' vs' (prS t u (ix ws i)) (0 : Int) then trans_Differ_L12 t u ks' vs' (ws.drop (i + 1)) else trans_Differ_L12 t u ks' vs' ((ws ++ KD (ix ws i) t.1.toNat).drop (i + 1)) := fun vs' ks' => by
        unfold trans_Differ_J19
        rw [ek]
        by_cases c1 : 1 < mget ks' vs' (prS t u (ix ws i)) (0 : Int)
        · rw [if_pos (decide_eq_true c1), if_pos c1, G_pos (by rw [List.length_drop]; omega)]
          rw [List.drop_drop]; rfl
        · rw [if_neg (by simpa using c1), if_neg c1]
          have := P_kids (t := t) (l := ws.drop i) (w := ix ws i) (r12 := trans_Differ_L12 t u) (ks := ks') (vs := vs') ht (by rw [List.length_drop]; omega) (by rw [List.length_drop]; omega) e0 (by omega) _ 0 rfl (by omega)
          rw [show KD (ix ws i) 0 = [] from rfl, List.append_nil] at this
          refine this.trans ?_
          rw [← List.drop_append_of_le_length (by omega), List.drop_drop]
      by_cases kk : prS t u (ix ws i) ∈ ks
      · obtain ⟨j, j1, c1, c2, c3, c4, c5⟩ := cnt_old hvl kk
        have hvj := hv (vs.getD j 0) (by rw [List.getD_eq_getElem?_getD, List.getElem?_eq_getElem j1]; exact List.getElem_mem _)
        have hsee : ix seen (stT t (ix ws i) * (u.2.2.2.2.1.length : Int) + stT u (ix ws i)) = true := (hse.2 _ hpin).2 kk
        have hP : both [(.list (.int .i64)), .bool, (.int .i64)] (G (fits ((mget ks vs (prS t u (ix ws i)) (0 : Int)) + (1 : Int))) (G (0 ≤ mpos ks (prS t u (ix ws i)) ∧ mpos ks (prS t u (ix ws i)) < ((mputZ ks vs (prS t u (ix ws i)) (0 : Int)).length : Int)) (trans_Differ_J19 t (ws.drop i) (trans_Differ_L12 t u) (stT t (ix ws i)) (stT u (ix ws i)) (mputK ks (prS t u (ix ws i))) ((mputZ ks vs (prS t u (ix ws i)) (0 : Int)).set (mpos ks (prS t u (ix ws i))).toNat ((mget ks vs (prS t u (ix ws i)) (0 : Int)) + (1 : Int)))))) (G (fits ((mget (mputK ks (prS t u (ix ws i))) (mputZ ks vs (prS t u (ix ws i)) (0 : Int)) (prS t u (ix ws i)) (0 : Int)) + (1 : Int))) (G (0 ≤ mpos ks (prS t u (ix ws i)) ∧ mpos ks (prS t u (ix ws i)) < ((mputZ ks vs (prS t u (ix ws i)) (0 : Int)).length : Int)) (trans_Differ_J19 t (ws.drop i) (trans_Differ_L12 t u) (stT t (ix ws i)) (stT u (ix ws i)) (mputK ks (prS t u (ix ws i))) ((mputZ ks vs (prS t u (ix ws i)) (0 : Int)).set (mpos ks (prS t u (ix ws i))).toNat ((mget (mputK ks (prS t u (ix ws i))) (mputZ ks vs (prS t u (ix ws i)) (0 : Int)) (prS t u (ix ws i)) (0 : Int)) + (1 : Int)))))) = trans_Differ_L12 t u ks (vs.set j (vs.getD j 0 + 1)) (ws.drop (i + 1)) := by
          rw [c2, c3, c4, c1, Int.toNat_natCast]
          have : trans_Differ_J19 t (ws.drop i) (trans_Differ_L12 t u) (stT t (ix ws i)) (stT u (ix ws i)) ks (vs.set j (vs.getD j 0 + 1)) = trans_Differ_L12 t u ks (vs.set j (vs.getD j 0 + 1)) (ws.drop (i + 1)) := by
            rw [r1, c5, if_pos (by omega)]
          exact both_to (G_to (by unfold fits; omega) (G_to (by omega) this)) (G_to (by unfold fits; omega) (G_to (by omega) this))
        rw [show PP = _ from hPP.symm.trans hP]
        rw [G_pos g1, G_pos g2, G_pos g3, G_pos g4, if_pos hsee, G_pos (by unfold fits; omega)]
        exact ih (145 - (i + 1)) (by omega) (i + 1) ws ks _ seen rfl (h.old c ag kk) (by rw [List.length_set]; exact hvl) (fun v hv' => by
          rcases List.mem_or_eq_of_mem_set hv' with hv' | rfl
          · have := hv v hv'; omega
          · omega) hse
      · obtain ⟨c1, c2, c3, c4, c5, c6, c7⟩ := cnt_new hvl kk
        have hsee : ¬ ix seen (stT t (ix ws i) * (u.2.2.2.2.1.length : Int) + stT u (ix ws i)) = true := fun hh => kk ((hse.2 _ hpin).1 hh)
        have hP : both [(.list (.int .i64)), .bool, (.int .i64)] (G (fits ((mget ks vs (prS t u (ix ws i)) (0 : Int)) + (1 : Int))) (G (0 ≤ mpos ks (prS t u (ix ws i)) ∧ mpos ks (prS t u (ix ws i)) < ((mputZ ks vs (prS t u (ix ws i)) (0 : Int)).length : Int)) (trans_Differ_J19 t (ws.drop i) (trans_Differ_L12 t u) (stT t (ix ws i)) (stT u (ix ws i)) (mputK ks (prS t u (ix ws i))) ((mputZ ks vs (prS t u (ix ws i)) (0 : Int)).set (mpos ks (prS t u (ix ws i))).toNat ((mget ks vs (prS t u (ix ws i)) (0 : Int)) + (1 : Int)))))) (G (fits ((mget (mputK ks (prS t u (ix ws i))) (mputZ ks vs (prS t u (ix ws i)) (0 : Int)) (prS t u (ix ws i)) (0 : Int)) + (1 : Int))) (G (0 ≤ mpos ks (prS t u (ix ws i)) ∧ mpos ks (prS t u (ix ws i)) < ((mputZ ks vs (prS t u (ix ws i)) (0 : Int)).length : Int)) (trans_Differ_J19 t (ws.drop i) (trans_Differ_L12 t u) (stT t (ix ws i)) (stT u (ix ws i)) (mputK ks (prS t u (ix ws i))) ((mputZ ks vs (prS t u (ix ws i)) (0 : Int)).set (mpos ks (prS t u (ix ws i))).toNat ((mget (mputK ks (prS t u (ix ws i))) (mputZ ks vs (prS t u (ix ws i)) (0 : Int)) (prS t u (ix ws i)) (0 : Int)) + (1 : Int)))))) = trans_Differ_L12 t u (ks ++ [prS t u (ix ws i)]) (vs ++ [1]) ((ws ++ KD (ix ws i) t.1.toNat).drop (i + 1)) := by
          rw [c2, c3, c4, c1, c5, Int.toNat_natCast, show (0 : Int) + 1 = 1 from rfl, c6]
          have : trans_Differ_J19 t (ws.drop i) (trans_Differ_L12 t u) (stT t (ix ws i)) (stT u (ix ws i)) (ks ++ [prS t u (ix ws i)]) (vs ++ [1]) = trans_Differ_L12 t u (ks ++ [prS t u (ix ws i)]) (vs ++ [1]) ((ws ++ KD (ix ws i) t.1.toNat).drop (i + 1)) := by
            rw [r1, c7, if_neg (by omega)]
          exact both_to (G_to (by unfold fits; omega) (G_to (by rw [List.length_append, List.length_singleton]; omega) this)) (G_to (by unfold fits; omega) (G_to (by rw [List.length_append, List.length_singleton]; omega) this))
        rw [show PP = _ from hPP.symm.trans hP]
        rw [G_pos g1, G_pos g2, G_pos g3, G_pos g4, if_neg hsee, G_pos g1, G_pos g2, G_pos g3, G_pos g4]
        have hR := R_kids (t := t) (u := u) (ws := ws) (w := ix ws i) (i := i) (r5 := r16_Differ_L5 t u) (seen := seen) (p := stT t (ix ws i)) (q := stT u (ix ws i)) ht c (by omega) rfl (by omega) _ 0 rfl (by omega)
        rw [show KD (ix ws i) 0 = [] from rfl, List.append_nil] at hR
        rw [show ((0 : Nat) : Int) = 0 from rfl] at hR
        rw [hR]
        exact ih (145 - (i + 1)) (by omega) (i + 1) (ws ++ KD (ix ws i) t.1.toNat) (ks ++ [prS t u (ix ws i)]) (vs ++ [1]) _ rfl (h.fresh ht hu hL c ag kk) (by simp [hvl]) (fun v hv' => by
          rcases List.mem_append.1 hv' with hv' | hv'
          · have := hv v hv'; omega
          · rw [List.mem_singleton.1 hv']; omega) (hse.put hpin)
    · rw [if_pos (by simpa using ag), if_pos (by simpa using ag), G_pos (by omega), G_pos (by omega)]
      exact ⟨(ix ws i, true), rfl, rfl, by show (ix ws i).length ≤ _; omega, fun e => by cases e⟩
  · rw [if_neg (by rw [decide_eq_true_iff, List.length_drop]; omega), if_neg (by simp; omega)]
    obtain rfl : i = ws.length := by omega
    exact ⟨([], false), rfl, rfl, by simp, fun _ => h.all hL⟩
end
open Classical in
noncomputable def dE (t u : Tr) : Int := if trE t = 0 then (if trE u = 0 then (if t.1 = u.1 ∧ t.2.1 = u.2.1 then 0 else 3) else trE u) else trE t
theorem two_spec {t u : Tr} : trans_Differ t u = if dE t u = 0 then trans_Differ_L12 t u [] [] [[]] else some ([], false, dE t u) := by
  unfold trans_Differ
  have e : ∀ k : Int, trans_Differ_L2 t u k = trans_Differ_L2_B t u (trans_Differ_L2 t u) k := fun k => trans_Differ_L2_eq t u k
  rw [e]; unfold trans_Differ_L2_B
  rw [if_pos (by simp), G_pos (by simp), G_pos (by simp)]
  refine bind_to (trans_Check_spec (t := t)) ?_
  by_cases c : trE t = 0
  · rw [if_neg (by simpa using c), G_pos (by unfold fits; decide), e]; unfold trans_Differ_L2_B
    rw [if_pos (by simp), G_pos (by simp), G_pos (by simp)]
    refine bind_to (trans_Check_spec (t := u)) ?_
    by_cases c2 : trE u = 0
    · rw [if_neg (by simpa using c2), G_pos (by unfold fits; decide), e]; unfold trans_Differ_L2_B
      rw [if_neg (by simp)]
      by_cases c3 : t.1 = u.1
      · by_cases c4 : t.2.1 = u.2.1
        · have hd : dE t u = 0 := by unfold dE; rw [if_pos c, if_pos c2, if_pos ⟨c3, c4⟩]
          rw [if_neg (by simpa using c3), if_neg (by simpa using c4), if_pos hd]
        · have hd : dE t u = 3 := by unfold dE; rw [if_pos c, if_pos c2, if_neg (fun h => c4 h.2)]
          rw [if_neg (by simpa using c3), if_pos (by simpa using c4), hd, if_neg (by omega)]
      · have hd : dE t u = 3 := by unfold dE; rw [if_pos c, if_pos c2, if_neg (fun h => c3 h.1)]
        rw [if_pos (by simpa using c3), hd, if_neg (by omega)]
    · have hd : dE t u = trE u := by unfold dE; rw [if_pos c, if_neg c2]
      rw [if_pos (by simpa using c2), hd, if_neg c2]
  · have hd : dE t u = trE t := by unfold dE; rw [if_neg c]
    rw [if_pos (by simpa using c), hd, if_neg c]
theorem law_true (t u : Tr) (w : List Int) : law_TransDiffers t u w = some true := by
  have main : ∀ (y : List Int × Bool × Int), trans_Differ t u = some y → law_TransDiffers_J6 t u w y.1 y.2.1 y.2.2 (dE t u) = some true → law_TransDiffers t u w = some true := by
    intro y hy hJ
    unfold law_TransDiffers
    refine bind_to hy (bind_to (r16_Check_spec (t := t)) ?_)
    unfold dE at hJ
    by_cases c1 : trE t = 0
    · rw [if_pos c1] at hJ
      rw [if_pos (by simpa using c1)]
      refine bind_to (r16_Check_spec (t := u)) ?_
      unfold law_TransDiffers_J4 law_TransDiffers_J5
      by_cases c2 : trE u = 0
      · rw [if_pos c2] at hJ
        rw [if_pos (by simpa using c2)]
        by_cases c3 : t.1 = u.1
        · rw [if_neg (by simpa using c3)]
          by_cases c4 : t.2.1 = u.2.1
          · rw [if_pos ⟨c3, c4⟩] at hJ
            rw [if_neg (by simpa using c4), c2]; exact hJ
          · rw [if_neg (fun h => c4 h.2)] at hJ
            rw [if_pos (by simpa using c4)]; exact hJ
        · rw [if_neg (fun h => c3 h.1)] at hJ
          rw [if_pos (by simpa using c3), if_pos rfl]; exact hJ
      · rw [if_neg c2] at hJ
        rw [if_neg (by simpa using c2), if_neg (by simp)]; exact hJ
    · rw [if_neg c1] at hJ
      rw [if_neg (by simpa using c1)]
      unfold law_TransDiffers_J4 law_TransDiffers_J5
      rw [if_neg (by simpa using c1), if_neg (by simp)]; exact hJ
  have hp := two_spec (t := t) (u := u)
  by_cases c : dE t u = 0
  · rw [if_pos c] at hp
    obtain ⟨c1, c2, hL, hO⟩ : trE t = 0 ∧ trE u = 0 ∧ t.1 = u.1 ∧ t.2.1 = u.2.1 := by
      unfold dE at c
      by_cases c1 : trE t = 0
      · rw [if_pos c1] at c
        by_cases c2 : trE u = 0
        · rw [if_pos c2] at c
          by_cases c3 : t.1 = u.1 ∧ t.2.1 = u.2.1
          · exact ⟨c1, c2, c3.1, c3.2⟩
          · rw [if_neg c3] at c; omega
        · rw [if_neg c2] at c; exact absurd c c2
      · rw [if_neg c1] at c; exact absurd c c1
    have ht := trE_zero c1
    have hu := trE_zero c2
    have n1 := ht.n1
    have n2 := hu.n1
    have hm0 : 0 ≤ (t.2.2.2.2.1.length : Int) * u.2.2.2.2.1.length := Int.mul_nonneg (by omega) (by omega)
    have hm36 : (t.2.2.2.2.1.length : Int) * u.2.2.2.2.1.length ≤ 36 := by
      have h6 := Int.ofNat_le.2 (Nat.mul_le_mul n1.2 n2.2)
      rw [Int.natCast_mul] at h6
      omega
    have h0 : DI t u 0 [[]] [] := ⟨List.nodup_nil, (fun k hk => by cases hk), (fun w hw => by rw [List.mem_singleton.1 hw]; exact ⟨(fun a ha => by cases ha), by simp⟩), by simp, by simp, by simp, (fun j j0 j1 => by omega), (fun k hk => by cases hk)⟩
    have hs0 : Seen2 t u [] (List.replicate ((t.2.2.2.2.1.length : Int) * u.2.2.2.2.1.length).toNat false) := ⟨by rw [List.length_replicate]; omega, fun s hs => by
      have := pair_lt hs.1 hs.2
      rw [ix_replicate this.1 (by omega)]
      simp⟩
    obtain ⟨r, r1, r2, r3, r4⟩ := main_both ht hu hL _ 0 [[]] [] [] _ rfl h0 rfl (fun v hv => by cases hv) hs0
    rw [List.drop_zero] at r1
    have hR : r16_Differ t u = some r := by
      unfold r16_Differ
      exact G_to (by unfold fits; omega) (G_to (by unfold mkOK; omega) r2)
    refine main _ (hp.trans r1) ?_
    unfold law_TransDiffers_J6
    rw [if_neg (by simpa using c)]
    refine bind_to hR (bind_to (r1_Words_spec (by show r.1.length ≤ _; omega)) ?_)
    rw [if_neg (by simp), if_neg (by simp), if_neg (by simp)]
    refine bind_to r1_May_spec ?_
    by_cases hm : mayE t.1 w = 0
    · rw [if_neg (by simpa using hm)]
      have mw := mayE_zero hm
      cases hb : r.2 with
      | true => rw [if_pos (by simp)]
      | false =>
        rw [if_neg (by simp)]
        have ha := r4 hb w mw.2.2
        obtain ⟨_, hl⟩ := trans_whole_spec ht mw.2.2 (by omega)
        refine bind_to (r16_Run_spec ht mw.2.2 (by omega)) (bind_to (r16_Run_spec hu (fun a ha => by rw [← hL]; exact mw.2.2 a ha) (by omega)) (bind_to (r1_Words_spec (by omega)) ?_))
        simp [ha]
    · rw [if_pos (by simpa using hm)]
  · rw [if_neg c] at hp
    refine main _ hp ?_
    unfold law_TransDiffers_J6
    rw [if_pos (by simpa using c), if_pos (by simp), if_pos (by simp)]
    simp

end Go.Proofs.Ytgjkbjbknnlnpaa.transDiffersW
