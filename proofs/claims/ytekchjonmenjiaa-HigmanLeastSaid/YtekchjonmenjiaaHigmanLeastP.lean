/- The law 'HigmanLeast' of the plain functions. -/
import Derived.Test.YtekchjonmenjiaaHigmanLeastD
set_option maxHeartbeats 1000000
set_option maxRecDepth 20000
set_option linter.unusedSimpArgs false
set_option linter.unusedVariables false
namespace Go.Proofs.Ytekchjonmenjiaa.higmanLeastW
open Go Go.Ab
/-- The answer is yes just if P. -/
def Tells (o : Option Bool) (P : Prop) : Prop := ∃ b, o = some b ∧ (b = true ↔ P)
theorem Tells.of {b : Bool} {P : Prop} (h : b = true ↔ P) : Tells (some b) P := ⟨b, rfl, h⟩
theorem Tells.dec {P Q : Prop} [Decidable P] (h : P ↔ Q) : Tells (some (decide P)) Q := ⟨_, rfl, by simpa using h⟩
theorem Tells.iff {o : Option Bool} {P Q : Prop} (h : Tells o P) (k : P ↔ Q) : Tells o Q := let ⟨b, h1, h2⟩ := h; ⟨b, h1, h2.trans k⟩
theorem Tells.eq {o : Option Bool} {P : Prop} [Decidable P] (h : Tells o P) : o = some (decide P) := by
  obtain ⟨b, rfl, hb⟩ := h
  by_cases hp : P
  · simp [hp, hb.2 hp]
  · have : b = false := by cases b; rfl; exact absurd (hb.1 rfl) hp
    simp [hp, this]
theorem Tells.to {R : Type} {o : Option Bool} {P : Prop} {k1 k2 x : Option R} (h : Tells o P) (h1 : P → k1 = x) (h2 : ¬ P → k2 = x) : (o.bind fun y => if y = true then k1 else k2) = x := by
  obtain ⟨b, rfl, hb⟩ := h
  refine bind_to rfl ?_
  cases b
  · exact h2 fun hp => by simpa using hb.2 hp
  · exact h1 (hb.1 rfl)
theorem Tells.bind {R : Type} {o : Option Bool} {P : Prop} {k : Bool → Option R} {x : Option R} (h : Tells o P) (h1 : ∀ b, (b = true ↔ P) → k b = x) : o.bind k = x := by
  obtain ⟨b, rfl, hb⟩ := h
  exact h1 b hb
section
variable {α C : Type} [Inhabited α]
theorem ex_ix {l : List α} {P : α → Prop} : (∃ x ∈ l, P x) ↔ ∃ i : Int, 0 ≤ i ∧ i < l.length ∧ P (ix l i) := by
  constructor
  · rintro ⟨x, hx, hp⟩
    obtain ⟨i, hi, rfl⟩ := List.mem_iff_getElem.1 hx
    refine ⟨i, by omega, by omega, ?_⟩
    rwa [ix_eq (by omega) (by omega)]
  · rintro ⟨i, h0, h1, hp⟩
    exact ⟨_, ix_mem h0 h1, hp⟩
theorem index_loop {s : List α} {f : α → Option Bool} {L : Int → Option Int} {P : α → Prop} (hs : s.length ≤ 4611686018427387904)
    (hL : ∀ t, L t = if decide (t < (s.length : Int)) = true then G (0 ≤ t ∧ t < (s.length : Int)) ((f (ix s t)).bind fun y => if y = true then some t else G (fits (t + 1)) (L (t + 1))) else some (-1))
    (hf : ∀ x ∈ s, Tells (f x) (P x)) : ∀ (n : Nat) (t : Int), 0 ≤ t → t ≤ s.length → (s.length - t).toNat = n →
      ∃ i, L t = some i ∧ ((i = -1 ∧ ∀ j : Int, t ≤ j → j < s.length → ¬ P (ix s j)) ∨ (t ≤ i ∧ i < s.length ∧ P (ix s i) ∧ ∀ j : Int, t ≤ j → j < i → ¬ P (ix s j))) := by
  intro n
  induction n with
  | zero =>
    intro t h0 h1 hn
    refine ⟨-1, ?_, .inl ⟨rfl, fun j a b => by omega⟩⟩
    rw [hL, if_neg (by simp; omega)]
  | succ n ih =>
    intro t h0 h1 hn
    rw [hL, if_pos (by simp; omega), G_pos (by omega)]
    obtain ⟨b, hb, hbp⟩ := hf _ (ix_mem h0 (by omega : t < s.length))
    rw [hb]
    cases b with
    | true => exact ⟨t, rfl, .inr ⟨by omega, by omega, hbp.1 rfl, fun j a b => by omega⟩⟩
    | false =>
      have hnp : ¬ P (ix s t) := fun hp => by simpa using hbp.2 hp
      obtain ⟨i, hi, hc⟩ := ih (t + 1) (by omega) (by omega) (by omega)
      refine ⟨i, ?_, ?_⟩
      · refine (if_neg (by simp) : (if false = true then some t else G (fits (t + 1)) (L (t + 1))) = _).trans ?_
        rw [G_pos (by unfold fits; omega), hi]
      · rcases hc with ⟨h2, h3⟩ | ⟨h2, h3, h4, h5⟩
        · refine .inl ⟨h2, fun j a b => ?_⟩
          by_cases e : j = t
          · rw [e]; exact hnp
          · exact h3 j (by omega) b
        · refine .inr ⟨by omega, h3, h4, fun j a b => ?_⟩
          by_cases e : j = t
          · rw [e]; exact hnp
          · exact h5 j (by omega) b
theorem contains_tells {s : List α} {f : α → Option Bool} {L : Int → Option Int} {P : α → Prop}
    (hL : ∀ t, L t = if decide (t < (s.length : Int)) = true then G (0 ≤ t ∧ t < (s.length : Int)) ((f (ix s t)).bind fun y => if y = true then some t else G (fits (t + 1)) (L (t + 1))) else some (-1))
    (hs : s.length ≤ 4611686018427387904) (hf : ∀ x ∈ s, Tells (f x) (P x)) : Tells ((L 0).bind fun y => some (decide ((0 : Int) ≤ y))) (∃ x ∈ s, P x) := by
  obtain ⟨i, hi, hc⟩ := index_loop hs hL hf _ 0 (by omega) (by omega) rfl
  rw [hi]
  refine ⟨decide (0 ≤ i), rfl, ?_⟩
  rw [decide_eq_true_iff, ex_ix]
  rcases hc with ⟨h2, h3⟩ | ⟨h2, h3, h4, h5⟩
  · constructor
    · intro h; omega
    · rintro ⟨j, h0, h1, hp⟩; exact absurd hp (h3 j h0 h1)
  · exact ⟨fun _ => ⟨i, by omega, h3, h4⟩, fun _ => by omega⟩
/-- .. of what carries along what it reads. -/
theorem contains_tells2 {s : List α} {c : C} {f : α → C → Option (Bool × C)} {L : Int → C → Option (Int × C)} {P : α → Prop}
    (hL : ∀ t c, L t c = if decide (t < (s.length : Int)) = true then G (0 ≤ t ∧ t < (s.length : Int)) ((f (ix s t) c).bind fun y => if y.1 = true then some (t, y.2) else G (fits (t + 1)) (L (t + 1) y.2)) else some (-1, c))
    (hs : s.length ≤ 4611686018427387904) (hf : ∀ x ∈ s, ∃ b, f x c = some (b, c) ∧ (b = true ↔ P x)) : ∃ b, ((L 0 c).bind fun y => some (decide ((0 : Int) ≤ y.1), y.2)) = some (b, c) ∧ (b = true ↔ ∃ x ∈ s, P x) := by
  have key : ∀ (n : Nat) (t : Int), 0 ≤ t → t ≤ s.length → (s.length - t).toNat = n →
      ∃ i, L t c = some (i, c) ∧ ((i = -1 ∧ ∀ j : Int, t ≤ j → j < s.length → ¬ P (ix s j)) ∨ (t ≤ i ∧ i < s.length ∧ P (ix s i))) := by
    intro n
    induction n with
    | zero =>
      intro t h0 h1 hn
      refine ⟨-1, ?_, .inl ⟨rfl, fun j a b => by omega⟩⟩
      rw [hL, if_neg (by simp; omega)]
    | succ n ih =>
      intro t h0 h1 hn
      rw [hL, if_pos (by simp; omega), G_pos (by omega)]
      obtain ⟨b, hb, hbp⟩ := hf _ (ix_mem h0 (by omega : t < s.length))
      rw [hb]
      cases b with
      | true => exact ⟨t, rfl, .inr ⟨by omega, by omega, hbp.1 rfl⟩⟩
      | false =>
        have hnp : ¬ P (ix s t) := fun hp => by simpa using hbp.2 hp
        obtain ⟨i, hi, hc⟩ := ih (t + 1) (by omega) (by omega) (by omega)
        refine ⟨i, ?_, ?_⟩
        · refine (if_neg (by simp) : (if false = true then some (t, c) else G (fits (t + 1)) (L (t + 1) c)) = _).trans ?_
          rw [G_pos (by unfold fits; omega), hi]
        · rcases hc with ⟨h2, h3⟩ | ⟨h2, h3, h4⟩
          · refine .inl ⟨h2, fun j a b => ?_⟩
            by_cases e : j = t
            · rw [e]; exact hnp
            · exact h3 j (by omega) b
          · exact .inr ⟨by omega, h3, h4⟩
  obtain ⟨i, hi, hc⟩ := key _ 0 (by omega) (by omega) rfl
  rw [hi]
  refine ⟨decide (0 ≤ i), rfl, ?_⟩
  rw [decide_eq_true_iff, ex_ix]
  rcases hc with ⟨h2, h3⟩ | ⟨h2, h3, h4⟩
  · constructor
    · intro h; omega
    · rintro ⟨j, h0, h1, hp⟩; exact absurd hp (h3 j h0 h1)
  · exact ⟨fun _ => ⟨i, by omega, h3, h4⟩, fun _ => by omega⟩
end
/-- A loop that looks for the first fault. -/
theorem scan_to {R : Type} {len : Int} {L : Int → Option R} {bad : Int → Prop} {x : Option R} {lo : Int} (h0 : lo ≤ len)
    (hs : ∀ t, lo ≤ t → t < len → (bad t → L t = x) ∧ (¬ bad t → L t = L (t + 1))) (hf : (∀ t, lo ≤ t → t < len → ¬ bad t) → L len = x) : L lo = x := by
  have key : ∀ (n : Nat) (t : Int), lo ≤ t → t ≤ len → (len - t).toNat = n → (∀ j, lo ≤ j → j < t → ¬ bad j) → L t = x := by
    intro n
    induction n with
    | zero =>
      intro t h1 h2 hn h
      obtain rfl : t = len := by omega
      exact hf h
    | succ n ih =>
      intro t h1 h2 hn h
      by_cases hb : bad t
      · exact (hs t h1 (by omega)).1 hb
      · rw [(hs t h1 (by omega)).2 hb]
        refine ih (t + 1) (by omega) (by omega) (by omega) fun j a b => ?_
        by_cases e : j = t
        · rw [e]; exact hb
        · exact h j a (by omega)
  exact key _ lo (Int.le_refl _) h0 rfl (fun j a b => by omega)
/-- A loop that counts, with a state. -/
theorem fold_to {R S : Type} {len : Int} {L : Int → S → Option R} {f : Int → S → S} {lo : Int} {I : Int → S → Prop} {s : S} (h0 : lo ≤ len) (hI : I lo s)
    (hs : ∀ t s, lo ≤ t → t < len → I t s → L t s = L (t + 1) (f t s) ∧ I (t + 1) (f t s)) : ∃ s', I len s' ∧ L lo s = L len s' := by
  have key : ∀ (n : Nat) (t : Int) (s : S), lo ≤ t → t ≤ len → (len - t).toNat = n → I t s → ∃ s', I len s' ∧ L t s = L len s' := by
    intro n
    induction n with
    | zero =>
      intro t s h1 h2 hn h
      obtain rfl : t = len := by omega
      exact ⟨s, h, rfl⟩
    | succ n ih =>
      intro t s h1 h2 hn h
      obtain ⟨e, h3⟩ := hs t s h1 (by omega) h
      obtain ⟨s', h4, h5⟩ := ih (t + 1) _ (by omega) (by omega) (by omega) h3
      exact ⟨s', h4, e.trans h5⟩
  exact key _ lo s (Int.le_refl _) h0 rfl hI

theorem r1_Words_L4_spec {a b : List Int} (hl : a.length = b.length) : ∀ (n : Nat) (i : Int), 0 ≤ i → i ≤ a.length → (a.length - i).toNat = n → a.length ≤ 2305843009213693951 → (∀ j : Int, 0 ≤ j → j < i → ix a j = ix b j) → r1_Words_L4 a b i = some (decide (a = b)) := by
  intro n
  induction n with
  | zero =>
    intro i h0 h1 hn hs h
    rw [r1_Words_L4_eq]; unfold r1_Words_L4_B
    (try dsimp only); (repeat' first | (with_reducible refine G_to ?_ ?_; focus (first | omega | (unfold fits; omega) | (unfold room; (try simp only [List.length_append, List.length_cons, List.length_nil]); omega))) | (with_reducible refine both_to ?_ ?_) | (with_reducible refine itet_to ?_) | (with_reducible refine itef_to ?_) | (with_reducible refine ite_to (fun _ => ?_) (fun _ => ?_))) <;> try (exfalso; omega)
    · rw [Option.some_inj, eq_comm, decide_eq_true_iff]; exact ix_ext hl (fun j a b => h j a (by omega))
  | succ n ih =>
    intro i h0 h1 hn hs h
    rw [r1_Words_L4_eq]; unfold r1_Words_L4_B
    (try dsimp only); (repeat' first | (with_reducible refine G_to ?_ ?_; focus (first | omega | (unfold fits; omega) | (unfold room; (try simp only [List.length_append, List.length_cons, List.length_nil]); omega))) | (with_reducible refine both_to ?_ ?_) | (with_reducible refine itet_to ?_) | (with_reducible refine itef_to ?_) | (with_reducible refine ite_to (fun _ => ?_) (fun _ => ?_))) <;> try (exfalso; omega)
    · rw [Option.some_inj, eq_comm, decide_eq_false_iff_not]; rintro rfl; contradiction
    · rename_i hx; exact ih _ (by omega) (by omega) (by omega) hs (below_succ h (Decidable.not_not.1 hx))
theorem r1_Words_spec {a b : List Int} (hs : a.length ≤ 2305843009213693951) : r1_Words a b = some (decide (a = b)) := by
  unfold r1_Words
  (try dsimp only); (repeat' first | (with_reducible refine G_to ?_ ?_; focus (first | omega | (unfold fits; omega) | (unfold room; (try simp only [List.length_append, List.length_cons, List.length_nil]); omega))) | (with_reducible refine both_to ?_ ?_) | (with_reducible refine itet_to ?_) | (with_reducible refine itef_to ?_) | (with_reducible refine ite_to (fun _ => ?_) (fun _ => ?_))) <;> try (exfalso; omega)
  · rw [Option.some_inj, eq_comm, decide_eq_false_iff_not]; rintro rfl; contradiction
  · exact r1_Words_L4_spec (by omega) _ 0 (by omega) (by omega) rfl hs (fun j a b => by omega)

theorem slices_Clone_spec {s : List Int} (hs : s.length * 8 ≤ 140737488355328) : slices_Clone s = some s := by
  have hr : G (room ([] : List Int) s 8) (some (([] : List Int) ++ s)) = some s := by
    rw [G_pos (room_of (by simpa using hs))]; rfl
  unfold slices_Clone
  refine itep_to (fun h => ?_) (fun h => hr)
  obtain rfl : s = [] := List.length_eq_zero_iff.1 h
  rw [hr]; exact both_self (ts := [(.list (.int .i64))]) (some ([] : List Int))

/-- A walk over a table. -/
def stp (N : List (List Int)) (q a : Int) : Int := ix (ix N q) a
def wlk (N : List (List Int)) (q : Int) (w : List Int) : Int := w.foldl (stp N) q
/-- The places come by. -/
def trc (N : List (List Int)) : Int → List Int → List Int
  | _, [] => []
  | q, a :: w => stp N q a :: trc N (stp N q a) w
/-- A table of so many letters. -/
structure Tab (L : Int) (N : List (List Int)) : Prop where
  row : ∀ r ∈ N, (r.length : Int) = L
  to : ∀ r ∈ N, ∀ q ∈ r, 0 ≤ q ∧ q < N.length
theorem Tab.stpb {L : Int} {N : List (List Int)} (h : Tab L N) {q a : Int} (q0 : 0 ≤ q) (q1 : q < N.length) (a0 : 0 ≤ a) (a1 : a < L) : 0 ≤ stp N q a ∧ stp N q a < N.length := by
  have h1 := ix_mem q0 q1
  have h2 := h.row _ h1
  exact h.to _ h1 _ (ix_mem a0 (by omega))
theorem Tab.rowlen {L : Int} {N : List (List Int)} (h : Tab L N) {q : Int} (q0 : 0 ≤ q) (q1 : q < N.length) : ((ix N q).length : Int) = L := h.row _ (ix_mem q0 q1)
theorem Tab.wlkb {L : Int} {N : List (List Int)} (h : Tab L N) : ∀ {w : List Int} {q : Int}, 0 ≤ q → q < N.length → (∀ a ∈ w, 0 ≤ a ∧ a < L) → 0 ≤ wlk N q w ∧ wlk N q w < N.length
  | [], q, q0, q1, _ => ⟨q0, q1⟩
  | a :: w, q, q0, q1, hw => by
    have := h.stpb q0 q1 (hw a (by simp)).1 (hw a (by simp)).2
    exact Tab.wlkb h (q := stp N q a) (w := w) this.1 this.2 (fun b hb => hw b (by simp [hb]))
theorem Tab.trcb {L : Int} {N : List (List Int)} (h : Tab L N) : ∀ {w : List Int} {q : Int}, 0 ≤ q → q < N.length → (∀ a ∈ w, 0 ≤ a ∧ a < L) → ∀ p ∈ trc N q w, 0 ≤ p ∧ p < N.length
  | [], q, q0, q1, _, p, hp => by cases hp
  | a :: w, q, q0, q1, hw, p, hp => by
    have := h.stpb q0 q1 (hw a (by simp)).1 (hw a (by simp)).2
    rcases List.mem_cons.1 hp with rfl | hp
    · exact this
    · exact Tab.trcb h this.1 this.2 (fun b hb => hw b (by simp [hb])) p hp

theorem det_After_spec {d : Int × Int × List (List Int) × List Int × Unit} {L : Int} (h : Tab L d.2.2.1) {w : List Int} (hw : ∀ a ∈ w, 0 ≤ a ∧ a < L) (hl : w.length ≤ 1000000) {q : Int} (q0 : 0 ≤ q) (q1 : q < d.2.2.1.length) : det_After d q w = some (wlk d.2.2.1 q w) := by
  have key : ∀ (n : Nat) (t q : Int), (w.length - t).toNat = n → 0 ≤ t → t ≤ w.length → 0 ≤ q → q < d.2.2.1.length → det_After_L2 d w q t = some (wlk d.2.2.1 q (w.drop t.toNat)) := by
    intro n
    induction n with
    | zero =>
      intro t q hn h0 h1 q0 q1
      rw [det_After_L2_eq]; unfold det_After_L2_B
      (try dsimp only); (repeat' first | (with_reducible refine G_to ?_ ?_; focus (first | omega | (unfold fits; omega) | (unfold room; (try simp only [List.length_append, List.length_cons, List.length_nil]); omega))) | (with_reducible refine both_to ?_ ?_) | (with_reducible refine itet_to ?_) | (with_reducible refine itef_to ?_) | (with_reducible refine ite_to (fun _ => ?_) (fun _ => ?_))) <;> try (exfalso; omega)
      rw [List.drop_of_length_le (by omega)]; rfl
    | succ n ih =>
      intro t q hn h0 h1 q0 q1
      have ha := hw _ (ix_mem h0 (by omega : t < w.length))
      have hr := h.rowlen q0 q1
      have hs := h.stpb q0 q1 ha.1 ha.2
      rw [det_After_L2_eq]; unfold det_After_L2_B
      (try dsimp only); (repeat' first | (with_reducible refine G_to ?_ ?_; focus (first | omega | (unfold fits; omega) | (unfold room; (try simp only [List.length_append, List.length_cons, List.length_nil]); omega))) | (with_reducible refine both_to ?_ ?_) | (with_reducible refine itet_to ?_) | (with_reducible refine itef_to ?_) | (with_reducible refine ite_to (fun _ => ?_) (fun _ => ?_))) <;> try (exfalso; omega)
      rw [ix_drop h0 (by omega)]
      exact ih (t + 1) _ (by omega) (by omega) (by omega) hs.1 hs.2
  exact key _ 0 q rfl (by omega) (by omega) q0 q1

theorem r3_After_spec {d : Int × Int × List (List Int) × List Int × Unit} {L : Int} (h : Tab L d.2.2.1) {w : List Int} (hw : ∀ a ∈ w, 0 ≤ a ∧ a < L) (hl : w.length ≤ 1000000) {q : Int} (q0 : 0 ≤ q) (q1 : q < d.2.2.1.length) : r3_After d q w = some (wlk d.2.2.1 q w) := by
  have key : ∀ (n : Nat) (t q : Int), (w.length - t).toNat = n → 0 ≤ t → t ≤ w.length → 0 ≤ q → q < d.2.2.1.length → r3_After_L2 d w q t = some (wlk d.2.2.1 q (w.drop t.toNat)) := by
    intro n
    induction n with
    | zero =>
      intro t q hn h0 h1 q0 q1
      rw [r3_After_L2_eq]; unfold r3_After_L2_B
      (try dsimp only); (repeat' first | (with_reducible refine G_to ?_ ?_; focus (first | omega | (unfold fits; omega) | (unfold room; (try simp only [List.length_append, List.length_cons, List.length_nil]); omega))) | (with_reducible refine both_to ?_ ?_) | (with_reducible refine itet_to ?_) | (with_reducible refine itef_to ?_) | (with_reducible refine ite_to (fun _ => ?_) (fun _ => ?_))) <;> try (exfalso; omega)
      rw [List.drop_of_length_le (by omega)]; rfl
    | succ n ih =>
      intro t q hn h0 h1 q0 q1
      have ha := hw _ (ix_mem h0 (by omega : t < w.length))
      have hr := h.rowlen q0 q1
      have hs := h.stpb q0 q1 ha.1 ha.2
      rw [r3_After_L2_eq]; unfold r3_After_L2_B
      (try dsimp only); (repeat' first | (with_reducible refine G_to ?_ ?_; focus (first | omega | (unfold fits; omega) | (unfold room; (try simp only [List.length_append, List.length_cons, List.length_nil]); omega))) | (with_reducible refine both_to ?_ ?_) | (with_reducible refine itet_to ?_) | (with_reducible refine itef_to ?_) | (with_reducible refine ite_to (fun _ => ?_) (fun _ => ?_))) <;> try (exfalso; omega)
      rw [ix_drop h0 (by omega)]
      exact ih (t + 1) _ (by omega) (by omega) (by omega) hs.1 hs.2
  exact key _ 0 q rfl (by omega) (by omega) q0 q1

theorem r1_May_L6_spec {letters : Int} {w : List Int} (hL : 1 ≤ letters ∧ letters ≤ 4) (hw : w.length ≤ (60 : Int)) : ∀ (n : Nat) (i : Int), 0 ≤ i → i ≤ w.length → (w.length - i).toNat = n → (∀ j : Int, 0 ≤ j → j < i → 0 ≤ ix w j ∧ ix w j < letters) → r1_May_L6 letters w i = some (mayE letters w) := by
  intro n
  induction n with
  | zero =>
    intro i h0 h1 hn h
    rw [r1_May_L6_eq]; unfold r1_May_L6_B
    (try dsimp only); (repeat' first | (with_reducible refine G_to ?_ ?_; focus (first | omega | (unfold fits; omega) | (unfold room; (try simp only [List.length_append, List.length_cons, List.length_nil]); omega))) | (with_reducible refine both_to ?_ ?_) | (with_reducible refine itet_to ?_) | (with_reducible refine itef_to ?_) | (with_reducible refine ite_to (fun _ => ?_) (fun _ => ?_))) <;> try (exfalso; omega)
    · rw [mayE_ok hL hw (fun j a b => h j a (by omega))]
  | succ n ih =>
    intro i h0 h1 hn h
    rw [r1_May_L6_eq]; unfold r1_May_L6_B
    (try dsimp only); (repeat' first | (with_reducible refine G_to ?_ ?_; focus (first | omega | (unfold fits; omega) | (unfold room; (try simp only [List.length_append, List.length_cons, List.length_nil]); omega))) | (with_reducible refine both_to ?_ ?_) | (with_reducible refine itet_to ?_) | (with_reducible refine itef_to ?_) | (with_reducible refine ite_to (fun _ => ?_) (fun _ => ?_))) <;> try (exfalso; omega)
    · rw [mayE_bad hL hw (i := i) (by omega) (by omega)]
    · rw [mayE_bad hL hw (i := i) (by omega) (by omega)]
    · exact ih _ (by omega) (by omega) (by omega) (below_succ h (by omega))
theorem r1_May_spec {letters : Int} {w : List Int} : r1_May letters w = some (mayE letters w) := by
  unfold r1_May
  (try dsimp only); (repeat' first | (with_reducible refine G_to ?_ ?_; focus (first | omega | (unfold fits; omega) | (unfold room; (try simp only [List.length_append, List.length_cons, List.length_nil]); omega))) | (with_reducible refine both_to ?_ ?_) | (with_reducible refine itet_to ?_) | (with_reducible refine itef_to ?_) | (with_reducible refine ite_to (fun _ => ?_) (fun _ => ?_))) <;> try (exfalso; omega)
  · rw [mayE_range (by omega)]
  · rw [mayE_range (by omega)]
  · rw [mayE_size (by omega) (by omega)]
  · exact r1_May_L6_spec (by omega) (by omega) _ 0 (by omega) (by omega) rfl (fun j a b => by omega)

theorem word_May_L6_spec {letters : Int} {w : List Int} (hL : 1 ≤ letters ∧ letters ≤ 4) (hw : w.length ≤ (60 : Int)) : ∀ (n : Nat) (i : Int), 0 ≤ i → i ≤ w.length → (w.length - i).toNat = n → (∀ j : Int, 0 ≤ j → j < i → 0 ≤ ix w j ∧ ix w j < letters) → word_May_L6 letters w i = some (mayE letters w) := by
  intro n
  induction n with
  | zero =>
    intro i h0 h1 hn h
    rw [word_May_L6_eq]; unfold word_May_L6_B
    (try dsimp only); (repeat' first | (with_reducible refine G_to ?_ ?_; focus (first | omega | (unfold fits; omega) | (unfold room; (try simp only [List.length_append, List.length_cons, List.length_nil]); omega))) | (with_reducible refine both_to ?_ ?_) | (with_reducible refine itet_to ?_) | (with_reducible refine itef_to ?_) | (with_reducible refine ite_to (fun _ => ?_) (fun _ => ?_))) <;> try (exfalso; omega)
    · rw [mayE_ok hL hw (fun j a b => h j a (by omega))]
  | succ n ih =>
    intro i h0 h1 hn h
    rw [word_May_L6_eq]; unfold word_May_L6_B
    (try dsimp only); (repeat' first | (with_reducible refine G_to ?_ ?_; focus (first | omega | (unfold fits; omega) | (unfold room; (try simp only [List.length_append, List.length_cons, List.length_nil]); omega))) | (with_reducible refine both_to ?_ ?_) | (with_reducible refine itet_to ?_) | (with_reducible refine itef_to ?_) | (with_reducible refine ite_to (fun _ => ?_) (fun _ => ?_))) <;> try (exfalso; omega)
    · rw [mayE_bad hL hw (i := i) (by omega) (by omega)]
    · rw [mayE_bad hL hw (i := i) (by omega) (by omega)]
    · exact ih _ (by omega) (by omega) (by omega) (below_succ h (by omega))
theorem word_May_spec {letters : Int} {w : List Int} : word_May letters w = some (mayE letters w) := by
  unfold word_May
  (try dsimp only); (repeat' first | (with_reducible refine G_to ?_ ?_; focus (first | omega | (unfold fits; omega) | (unfold room; (try simp only [List.length_append, List.length_cons, List.length_nil]); omega))) | (with_reducible refine both_to ?_ ?_) | (with_reducible refine itet_to ?_) | (with_reducible refine itef_to ?_) | (with_reducible refine ite_to (fun _ => ?_) (fun _ => ?_))) <;> try (exfalso; omega)
  · rw [mayE_range (by omega)]
  · rw [mayE_range (by omega)]
  · rw [mayE_size (by omega) (by omega)]
  · exact word_May_L6_spec (by omega) (by omega) _ 0 (by omega) (by omega) rfl (fun j a b => by omega)

theorem pigeon {α : Type} [DecidableEq α] : ∀ {l U : List α}, l.Nodup → (∀ x ∈ l, x ∈ U) → l.length ≤ U.length
  | [], _, _, _ => Nat.zero_le _
  | a :: l, U, hn, hs => by
    have ha := hs a (by simp)
    obtain ⟨h1, h2⟩ := List.nodup_cons.1 hn
    have := pigeon (U := U.erase a) h2 (fun x hx => (List.mem_erase_of_ne (by rintro rfl; exact h1 hx)).2 (hs x (by simp [hx])))
    rw [List.length_erase_of_mem ha] at this
    have hp : 0 < U.length := List.length_pos_of_mem ha
    rw [List.length_cons]; omega
theorem pigeon_int {l : List Int} {n : Nat} (h : l.Nodup) (hb : ∀ x ∈ l, 0 ≤ x ∧ x < n) : l.length ≤ n := by
  have := pigeon (U := (List.range n).map Int.ofNat) h (fun x hx => by
    have := hb x hx
    exact List.mem_map.2 ⟨x.toNat, List.mem_range.2 (by omega), by show ((x.toNat : Nat) : Int) = x; omega⟩)
  simpa using this

abbrev Dt := Int × Int × (List (List Int)) × (List Int) × Unit
def DBig (mx : Int) (d : Dt) : Prop := d.2.2.1.length < 1 ∨ mx < d.2.2.1.length
def DRag (d : Dt) : Prop := ¬ (d.2.2.2.1.length : Int) = d.2.2.1.length ∨ ∃ r ∈ d.2.2.1, ¬ (r.length : Int) = d.1
def DOut (mb : Int → Prop) (d : Dt) : Prop := (d.2.1 < 0 ∨ (d.2.2.1.length : Int) ≤ d.2.1) ∨ (∃ r ∈ d.2.2.1, ∃ q ∈ r, q < 0 ∨ (d.2.2.1.length : Int) ≤ q) ∨ (∃ s ∈ d.2.2.2.1, mb s)
open Classical in
/-- What is wrong with an automaton of at most so many states, with such marks. -/
noncomputable def detE (mx : Int) (mb : Int → Prop) (d : Dt) : Int := if d.1 < 1 ∨ 4 < d.1 then 2 else if DBig mx d then 1 else if DRag d then 3 else if DOut mb d then 2 else 0
structure DOk (mx : Int) (mb : Int → Prop) (d : Dt) : Prop where
  let1 : 1 ≤ d.1 ∧ d.1 ≤ 4
  n1 : 1 ≤ d.2.2.1.length ∧ (d.2.2.1.length : Int) ≤ mx
  st : 0 ≤ d.2.1 ∧ d.2.1 < d.2.2.1.length
  mkl : (d.2.2.2.1.length : Int) = d.2.2.1.length
  mok : ∀ s ∈ d.2.2.2.1, ¬ mb s
  tab : Tab d.1 d.2.2.1
theorem detE_zero {mx : Int} {mb : Int → Prop} {d : Dt} (h : detE mx mb d = 0) : DOk mx mb d := by
  unfold detE at h
  by_cases c1 : d.1 < 1 ∨ 4 < d.1
  · rw [if_pos c1] at h; omega
  rw [if_neg c1] at h
  by_cases c2 : DBig mx d
  · rw [if_pos c2] at h; omega
  rw [if_neg c2] at h
  by_cases c3 : DRag d
  · rw [if_pos c3] at h; omega
  rw [if_neg c3] at h
  by_cases c4 : DOut mb d
  · rw [if_pos c4] at h; omega
  unfold DBig at c2; unfold DRag at c3; unfold DOut at c4
  refine ⟨by omega, by omega, ?_, ?_, fun s hs hm => c4 (.inr (.inr ⟨s, hs, hm⟩)), fun r hr => ?_, fun r hr q hq => ?_⟩
  · have : ¬ (d.2.1 < 0 ∨ (d.2.2.1.length : Int) ≤ d.2.1) := fun h => c4 (.inl h)
    omega
  · exact Decidable.not_not.1 fun h => c3 (.inl h)
  · by_cases e : (r.length : Int) = d.1
    · exact e
    · exact absurd (.inr ⟨r, hr, e⟩) c3
  · have : ¬ (q < 0 ∨ (d.2.2.1.length : Int) ≤ q) := fun h => c4 (.inr (.inl ⟨r, hr, q, hq, h⟩))
    omega

abbrev badD (m : Int) : Prop := ¬ m = 0 ∧ ¬ m = 1
theorem det_mk (m : Int) : Tells (det_Check_4 m) (badD m) := by
  unfold det_Check_4
  by_cases h : m = 0
  · rw [if_neg (by simpa using h)]; exact Tells.of (by simp [h])
  · rw [if_pos (by simpa using h)]; exact Tells.dec (by simp [h])
theorem det_Check_spec {d : Dt} : det_Check d = some (detE 3000 badD d) := by
  unfold det_Check detE
  by_cases c1 : d.1 < 1 ∨ 4 < d.1
  · rw [if_pos c1]
    (try dsimp only); (repeat' first | (with_reducible refine G_to ?_ ?_; focus (first | omega | (unfold fits; omega) | (unfold room; (try simp only [List.length_append, List.length_cons, List.length_nil]); omega))) | (with_reducible refine both_to ?_ ?_) | (with_reducible refine itet_to ?_) | (with_reducible refine itef_to ?_) | (with_reducible refine ite_to (fun _ => ?_) (fun _ => ?_))) <;> try (exfalso; omega)
    all_goals rfl
  rw [if_neg c1]
  by_cases c2 : DBig 3000 d
  · rw [if_pos c2]; unfold DBig at c2
    (try dsimp only); (repeat' first | (with_reducible refine G_to ?_ ?_; focus (first | omega | (unfold fits; omega) | (unfold room; (try simp only [List.length_append, List.length_cons, List.length_nil]); omega))) | (with_reducible refine both_to ?_ ?_) | (with_reducible refine itet_to ?_) | (with_reducible refine itef_to ?_) | (with_reducible refine ite_to (fun _ => ?_) (fun _ => ?_))) <;> try (exfalso; omega)
    all_goals rfl
  rw [if_neg c2]
  unfold DBig at c2
  by_cases c3 : (d.2.2.2.1.length : Int) = d.2.2.1.length
  case neg =>
    rw [if_pos (show DRag d from .inl c3)]
    (try dsimp only); (repeat' first | (with_reducible refine G_to ?_ ?_; focus (first | omega | (unfold fits; omega) | (unfold room; (try simp only [List.length_append, List.length_cons, List.length_nil]); omega))) | (with_reducible refine both_to ?_ ?_) | (with_reducible refine itet_to ?_) | (with_reducible refine itef_to ?_) | (with_reducible refine ite_to (fun _ => ?_) (fun _ => ?_))) <;> try (exfalso; omega)
    all_goals rfl
  (try dsimp only); (repeat' first | (with_reducible refine G_to ?_ ?_; focus (first | omega | (unfold fits; omega) | (unfold room; (try simp only [List.length_append, List.length_cons, List.length_nil]); omega))) | (with_reducible refine both_to ?_ ?_) | (with_reducible refine itet_to ?_) | (with_reducible refine itef_to ?_) | (with_reducible refine ite_to (fun _ => ?_) (fun _ => ?_))) <;> try (exfalso; omega)
  have k1 : Tells (slices_ContainsFunc d.2.2.1 d) (∃ r ∈ d.2.2.1, ¬ (r.length : Int) = d.1) := contains_tells (f := fun r => det_Check_1 r d) (slices_IndexFunc_L2_eq d.2.2.1 d) (by omega) (fun x _ => Tells.dec Iff.rfl)
  have nn : ∀ q t : Int, Tells (det_Check_2 q t) (q < 0 ∨ t ≤ q) := fun q t => by
    unfold det_Check_2
    by_cases h : q < 0
    · rw [if_pos (decide_eq_true h)]; exact Tells.of (by simp [h])
    · rw [if_neg (by simpa using h)]; exact Tells.dec (by omega)
  have k2 : ∀ r ∈ d.2.2.1, r.length ≤ 1000 → Tells (slices_ContainsFunc_2 r (d.2.2.1.length : Int)) (∃ q ∈ r, q < 0 ∨ (d.2.2.1.length : Int) ≤ q) := fun r _ hr => contains_tells (f := fun q => det_Check_2 q (d.2.2.1.length : Int)) (slices_IndexFunc_2_L2_eq r (d.2.2.1.length : Int)) (by omega) (fun x _ => nn x _)
  have k4 : Tells (slices_ContainsFunc_3 d.2.2.2.1) (∃ s ∈ d.2.2.2.1, (badD) s) := contains_tells (f := fun q => det_Check_4 q) (slices_IndexFunc_3_L2_eq d.2.2.2.1) (by omega) (fun x _ => det_mk x)
  refine k1.to (fun h => by rw [if_pos (show DRag d from .inr h)]) (fun h => ?_)
  rw [if_neg (show ¬ DRag d from fun hh => hh.elim (fun e => e c3) h)]
  have hr : ∀ r ∈ d.2.2.1, r.length ≤ 1000 := fun r hr => by
    by_cases e : (r.length : Int) = d.1
    · omega
    · exact absurd ⟨r, hr, e⟩ h
  refine (nn _ _).to (fun h => by rw [if_pos (show DOut _ d from .inl h)]) (fun h1 => ?_)
  obtain ⟨b, hb, hb2⟩ : ∃ b, slices_ContainsFunc_1 d.2.2.1 (d.2.2.1.length : Int) = some (b, (d.2.2.1.length : Int)) ∧ (b = true ↔ ∃ r ∈ d.2.2.1, ∃ q ∈ r, q < 0 ∨ (d.2.2.1.length : Int) ≤ q) :=
    contains_tells2 (f := det_Check_3) (slices_IndexFunc_1_L2_eq d.2.2.1) (by omega) (fun r hrm => by
      obtain ⟨b, e, e2⟩ := k2 r hrm (hr r hrm)
      exact ⟨b, by unfold det_Check_3; rw [e]; rfl, e2⟩)
  rw [hb]
  refine bind_to rfl ?_
  refine iteb_to (fun h => by rw [if_pos (show DOut _ d from .inr (.inl (hb2.1 h)))]) (fun h2 => ?_)
  refine k4.to (fun h => by rw [if_pos (show DOut _ d from .inr (.inr h))]) (fun h3 => ?_)
  rw [if_neg (show ¬ DOut _ d from fun h => h.elim h1 (fun h => h.elim (fun h => by rw [hb2.2 h] at h2; cases h2) h3))]

theorem r3_Check_spec {d : Dt} : r3_Check d = some (detE 3000 badD d) := by
  unfold r3_Check detE
  by_cases c1 : d.1 < 1 ∨ 4 < d.1
  · rw [if_pos c1]
    (try dsimp only); (repeat' first | (with_reducible refine G_to ?_ ?_; focus (first | omega | (unfold fits; omega) | (unfold room; (try simp only [List.length_append, List.length_cons, List.length_nil]); omega))) | (with_reducible refine both_to ?_ ?_) | (with_reducible refine itet_to ?_) | (with_reducible refine itef_to ?_) | (with_reducible refine ite_to (fun _ => ?_) (fun _ => ?_))) <;> try (exfalso; omega)
    all_goals rfl
  rw [if_neg c1]
  by_cases c2 : DBig 3000 d
  · rw [if_pos c2]; unfold DBig at c2
    (try dsimp only); (repeat' first | (with_reducible refine G_to ?_ ?_; focus (first | omega | (unfold fits; omega) | (unfold room; (try simp only [List.length_append, List.length_cons, List.length_nil]); omega))) | (with_reducible refine both_to ?_ ?_) | (with_reducible refine itet_to ?_) | (with_reducible refine itef_to ?_) | (with_reducible refine ite_to (fun _ => ?_) (fun _ => ?_))) <;> try (exfalso; omega)
    all_goals rfl
  rw [if_neg c2]
  unfold DBig at c2
  by_cases c3 : (d.2.2.2.1.length : Int) = d.2.2.1.length
  case neg =>
    rw [if_pos (show DRag d from .inl c3)]
    (try dsimp only); (repeat' first | (with_reducible refine G_to ?_ ?_; focus (first | omega | (unfold fits; omega) | (unfold room; (try simp only [List.length_append, List.length_cons, List.length_nil]); omega))) | (with_reducible refine both_to ?_ ?_) | (with_reducible refine itet_to ?_) | (with_reducible refine itef_to ?_) | (with_reducible refine ite_to (fun _ => ?_) (fun _ => ?_))) <;> try (exfalso; omega)
    all_goals rfl
  (try dsimp only); (repeat' first | (with_reducible refine G_to ?_ ?_; focus (first | omega | (unfold fits; omega) | (unfold room; (try simp only [List.length_append, List.length_cons, List.length_nil]); omega))) | (with_reducible refine both_to ?_ ?_) | (with_reducible refine itet_to ?_) | (with_reducible refine itef_to ?_) | (with_reducible refine ite_to (fun _ => ?_) (fun _ => ?_))) <;> try (exfalso; omega)
  refine scan_to (len := (d.2.2.1.length : Int)) (bad := fun t => ¬ ((ix d.2.2.1 t).length : Int) = d.1) (by omega) (fun t h0 h1 => ⟨fun hb => ?_, fun hb => ?_⟩) (fun hh => ?_)
  · rw [r3_Check_L9_eq]; unfold r3_Check_L9_B
    (try dsimp only); (repeat' first | (with_reducible refine G_to ?_ ?_; focus (first | omega | (unfold fits; omega) | (unfold room; (try simp only [List.length_append, List.length_cons, List.length_nil]); omega))) | (with_reducible refine both_to ?_ ?_) | (with_reducible refine itet_to ?_) | (with_reducible refine itef_to ?_) | (with_reducible refine ite_to (fun _ => ?_) (fun _ => ?_))) <;> try (exfalso; omega)
    rw [if_pos (show DRag d from .inr (ex_ix.2 ⟨t, by omega, by omega, hb⟩))]
  · conv => lhs; rw [r3_Check_L9_eq]; unfold r3_Check_L9_B
    (try dsimp only); (repeat' first | (with_reducible refine G_to ?_ ?_; focus (first | omega | (unfold fits; omega) | (unfold room; (try simp only [List.length_append, List.length_cons, List.length_nil]); omega))) | (with_reducible refine both_to ?_ ?_) | (with_reducible refine itet_to ?_) | (with_reducible refine itef_to ?_) | (with_reducible refine ite_to (fun _ => ?_) (fun _ => ?_))) <;> try (exfalso; omega)
    all_goals first | rfl | (exfalso; exact hb ‹_›) | (exfalso; exact absurd ‹_› hb)
  rw [if_neg (show ¬ DRag d from fun h => h.elim (fun e => e c3) (fun h => by obtain ⟨i, i0, i1, i2⟩ := ex_ix.1 h; exact hh i i0 i1 i2))]
  rw [r3_Check_L9_eq]; unfold r3_Check_L9_B
  by_cases c4 : d.2.1 < 0 ∨ (d.2.2.1.length : Int) ≤ d.2.1
  · rw [if_pos (show DOut _ d from .inl c4)]
    (try dsimp only); (repeat' first | (with_reducible refine G_to ?_ ?_; focus (first | omega | (unfold fits; omega) | (unfold room; (try simp only [List.length_append, List.length_cons, List.length_nil]); omega))) | (with_reducible refine both_to ?_ ?_) | (with_reducible refine itet_to ?_) | (with_reducible refine itef_to ?_) | (with_reducible refine ite_to (fun _ => ?_) (fun _ => ?_))) <;> try (exfalso; omega)
    all_goals rfl
  (try dsimp only); (repeat' first | (with_reducible refine G_to ?_ ?_; focus (first | omega | (unfold fits; omega) | (unfold room; (try simp only [List.length_append, List.length_cons, List.length_nil]); omega))) | (with_reducible refine both_to ?_ ?_) | (with_reducible refine itet_to ?_) | (with_reducible refine itef_to ?_) | (with_reducible refine ite_to (fun _ => ?_) (fun _ => ?_))) <;> try (exfalso; omega)
  have hlen : ∀ t : Int, 0 ≤ t → t < d.2.2.1.length → ((ix d.2.2.1 t).length : Int) = d.1 := fun t a b => Decidable.not_not.1 (hh t a b)
  refine scan_to (len := (d.2.2.1.length : Int)) (bad := fun t => ∃ q ∈ ix d.2.2.1 t, q < 0 ∨ (d.2.2.1.length : Int) ≤ q) (by omega) (fun t h0 h1 => ⟨fun hb => ?_, fun hb => ?_⟩) (fun hh2 => ?_)
  · rw [r3_Check_L16_eq]; unfold r3_Check_L16_B
    (try dsimp only); (repeat' first | (with_reducible refine G_to ?_ ?_; focus (first | omega | (unfold fits; omega) | (unfold room; (try simp only [List.length_append, List.length_cons, List.length_nil]); omega))) | (with_reducible refine both_to ?_ ?_) | (with_reducible refine itet_to ?_) | (with_reducible refine itef_to ?_) | (with_reducible refine ite_to (fun _ => ?_) (fun _ => ?_))) <;> try (exfalso; omega)
    have hlt := hlen t h0 h1
    refine scan_to (len := d.1) (bad := fun a => ix (ix d.2.2.1 t) a < 0 ∨ (d.2.2.1.length : Int) ≤ ix (ix d.2.2.1 t) a) (by omega) (fun a a0 a1 => ⟨fun hb => ?_, fun hb => ?_⟩) (fun hh3 => ?_)
    · rw [r3_Check_L19_eq]; unfold r3_Check_L19_B
      (try dsimp only); (repeat' first | (with_reducible refine G_to ?_ ?_; focus (first | omega | (unfold fits; omega) | (unfold room; (try simp only [List.length_append, List.length_cons, List.length_nil]); omega))) | (with_reducible refine both_to ?_ ?_) | (with_reducible refine itet_to ?_) | (with_reducible refine itef_to ?_) | (with_reducible refine ite_to (fun _ => ?_) (fun _ => ?_))) <;> try (exfalso; omega)
      all_goals rw [if_pos (show DOut _ d from .inr (.inl (ex_ix.2 ⟨t, h0, h1, ex_ix.2 ⟨a, a0, by omega, hb⟩⟩)))]
    · conv => lhs; rw [r3_Check_L19_eq]; unfold r3_Check_L19_B
      (try dsimp only); (repeat' first | (with_reducible refine G_to ?_ ?_; focus (first | omega | (unfold fits; omega) | (unfold room; (try simp only [List.length_append, List.length_cons, List.length_nil]); omega))) | (with_reducible refine both_to ?_ ?_) | (with_reducible refine itet_to ?_) | (with_reducible refine itef_to ?_) | (with_reducible refine ite_to (fun _ => ?_) (fun _ => ?_))) <;> try (exfalso; omega)
      all_goals rfl
    · exfalso
      obtain ⟨i, i0, i1, i2⟩ := ex_ix.1 hb
      exact hh3 i i0 (by omega) i2
  · conv => lhs; rw [r3_Check_L16_eq]; unfold r3_Check_L16_B
    (try dsimp only); (repeat' first | (with_reducible refine G_to ?_ ?_; focus (first | omega | (unfold fits; omega) | (unfold room; (try simp only [List.length_append, List.length_cons, List.length_nil]); omega))) | (with_reducible refine both_to ?_ ?_) | (with_reducible refine itet_to ?_) | (with_reducible refine itef_to ?_) | (with_reducible refine ite_to (fun _ => ?_) (fun _ => ?_))) <;> try (exfalso; omega)
    have hlt := hlen t h0 h1
    refine scan_to (len := d.1) (bad := fun a => ix (ix d.2.2.1 t) a < 0 ∨ (d.2.2.1.length : Int) ≤ ix (ix d.2.2.1 t) a) (by omega) (fun a a0 a1 => ⟨fun hb' => ?_, fun hb => ?_⟩) (fun hh3 => ?_)
    · exfalso; exact hb (ex_ix.2 ⟨a, a0, by omega, hb'⟩)
    · conv => lhs; rw [r3_Check_L19_eq]; unfold r3_Check_L19_B
      (try dsimp only); (repeat' first | (with_reducible refine G_to ?_ ?_; focus (first | omega | (unfold fits; omega) | (unfold room; (try simp only [List.length_append, List.length_cons, List.length_nil]); omega))) | (with_reducible refine both_to ?_ ?_) | (with_reducible refine itet_to ?_) | (with_reducible refine itef_to ?_) | (with_reducible refine ite_to (fun _ => ?_) (fun _ => ?_))) <;> try (exfalso; omega)
      all_goals rfl
    · rw [r3_Check_L19_eq]; unfold r3_Check_L19_B
      (try dsimp only); (repeat' first | (with_reducible refine G_to ?_ ?_; focus (first | omega | (unfold fits; omega) | (unfold room; (try simp only [List.length_append, List.length_cons, List.length_nil]); omega))) | (with_reducible refine both_to ?_ ?_) | (with_reducible refine itet_to ?_) | (with_reducible refine itef_to ?_) | (with_reducible refine ite_to (fun _ => ?_) (fun _ => ?_))) <;> try (exfalso; omega)
      all_goals rfl
  have hnr : ¬ ∃ r ∈ d.2.2.1, ∃ q ∈ r, q < 0 ∨ (d.2.2.1.length : Int) ≤ q := fun h => by
    obtain ⟨t, h0, h1, hb⟩ := ex_ix.1 h
    exact hh2 t h0 h1 hb
  rw [r3_Check_L16_eq]; unfold r3_Check_L16_B
  (try dsimp only); (repeat' first | (with_reducible refine G_to ?_ ?_; focus (first | omega | (unfold fits; omega) | (unfold room; (try simp only [List.length_append, List.length_cons, List.length_nil]); omega))) | (with_reducible refine both_to ?_ ?_) | (with_reducible refine itet_to ?_) | (with_reducible refine itef_to ?_) | (with_reducible refine ite_to (fun _ => ?_) (fun _ => ?_))) <;> try (exfalso; omega)
  refine scan_to (len := (d.2.2.1.length : Int)) (bad := fun t => (badD) (ix d.2.2.2.1 t)) (by omega) (fun t h0 h1 => ⟨fun hb => ?_, fun hb => ?_⟩) (fun hh3 => ?_)
  · rw [if_pos (show DOut _ d from .inr (.inr (ex_ix.2 ⟨t, h0, by omega, hb⟩)))]
    rw [r3_Check_L24_eq]; unfold r3_Check_L24_B
    try dsimp only at hb
    (try dsimp only); (repeat' first | (with_reducible refine G_to ?_ ?_; focus (first | omega | (unfold fits; omega) | (unfold room; (try simp only [List.length_append, List.length_cons, List.length_nil]); omega))) | (with_reducible refine both_to ?_ ?_) | (with_reducible refine itet_to ?_) | (with_reducible refine itef_to ?_) | (with_reducible refine ite_to (fun _ => ?_) (fun _ => ?_))) <;> try (exfalso; omega)
    all_goals first | rfl | (exfalso; exact hb.1 ‹_›) | (exfalso; exact hb.2 ‹_›)
  · conv => lhs; rw [r3_Check_L24_eq]; unfold r3_Check_L24_B
    try dsimp only at hb
    (try dsimp only); (repeat' first | (with_reducible refine G_to ?_ ?_; focus (first | omega | (unfold fits; omega) | (unfold room; (try simp only [List.length_append, List.length_cons, List.length_nil]); omega))) | (with_reducible refine both_to ?_ ?_) | (with_reducible refine itet_to ?_) | (with_reducible refine itef_to ?_) | (with_reducible refine ite_to (fun _ => ?_) (fun _ => ?_))) <;> try (exfalso; omega)
    all_goals first | rfl | (exfalso; exact hb ⟨‹_›, ‹_›⟩)
  rw [if_neg (show ¬ DOut _ d from fun h => h.elim c4 (fun h => h.elim hnr (fun h => by
    obtain ⟨t, h0, h1, hb⟩ := ex_ix.1 h
    exact hh3 t h0 (by omega) hb)))]
  rw [r3_Check_L24_eq]; unfold r3_Check_L24_B
  (try dsimp only); (repeat' first | (with_reducible refine G_to ?_ ?_; focus (first | omega | (unfold fits; omega) | (unfold room; (try simp only [List.length_append, List.length_cons, List.length_nil]); omega))) | (with_reducible refine both_to ?_ ?_) | (with_reducible refine itet_to ?_) | (with_reducible refine itef_to ?_) | (with_reducible refine ite_to (fun _ => ?_) (fun _ => ?_))) <;> try (exfalso; omega)
  all_goals rfl

/- words within words -/
def Let (L : Int) (w : List Int) : Prop := ∀ a ∈ w, 0 ≤ a ∧ a < L
theorem nil_sub (v : List Int) : ([] : List Int).isSublist v = true := by cases v <;> rfl
theorem Stands_L9 {u v : List Int} (hv : v.length ≤ 60) (hu : u.length ≤ 60) : ∀ (n : Nat) (t : Int) (p : List Int), (v.length - t).toNat = n → 0 ≤ t → t ≤ v.length → p.length ≤ u.length → ∃ b pl, higman_Stands_L9 u v t p = some (b, 0, pl) ∧ b = (u.drop p.length).isSublist (v.drop t.toNat) := by
  intro n
  induction n with
  | zero =>
    intro t p hn t0 t1 hp
    rw [higman_Stands_L9_eq]; unfold higman_Stands_L9_B
    rw [if_neg (by simp; omega), List.drop_of_length_le (l := v) (by omega)]
    by_cases c : (p.length : Int) < u.length
    · rw [if_pos (decide_eq_true c)]
      refine ⟨_, _, rfl, ?_⟩
      have := ix_drop (l := u) (i := (p.length : Int)) (by omega) c
      rw [Int.toNat_natCast] at this
      rw [this]; rfl
    · rw [if_neg (by simpa using c), List.drop_of_length_le (l := u) (by omega)]
      exact ⟨_, _, rfl, rfl⟩
  | succ n ih =>
    intro t p hn t0 t1 hp
    rw [ix_drop t0 (by omega : t < v.length), higman_Stands_L9_eq]; unfold higman_Stands_L9_B higman_Stands_J11
    rw [if_pos (by simp; omega)]
    by_cases c : (p.length : Int) < u.length
    · have hd := ix_drop (l := u) (i := (p.length : Int)) (by omega) c
      rw [Int.toNat_natCast] at hd
      by_cases e : ix u (p.length : Int) = ix v t
      · obtain ⟨b, pl, z1, z2⟩ := ih (t + 1) (p ++ [t]) (by omega) (by omega) (by omega) (by simp; omega)
        refine ⟨b, pl, ?_, ?_⟩
        · refine G_to (by omega) ?_
          rw [if_pos (decide_eq_true c)]
          refine G_to (by omega) ?_
          rw [if_pos (decide_eq_true e)]
          exact G_to (by unfold room; simp; omega) (G_to (by unfold fits; omega) z1)
        · rw [z2, hd, List.isSublist, if_pos (by simpa using e), List.length_append, List.length_singleton, show ((p.length : Int) + 1).toNat = p.length + 1 by omega]
      · obtain ⟨b, pl, z1, z2⟩ := ih (t + 1) p (by omega) (by omega) (by omega) hp
        refine ⟨b, pl, ?_, ?_⟩
        · refine G_to (by omega) ?_
          rw [if_pos (decide_eq_true c)]
          refine G_to (by omega) ?_
          rw [if_neg (by simpa using e)]
          exact G_to (by unfold fits; omega) z1
        · rw [z2, hd, List.isSublist, if_neg (by simpa using e)]
    · obtain ⟨b, pl, z1, z2⟩ := ih (t + 1) p (by omega) (by omega) (by omega) hp
      refine ⟨b, pl, ?_, ?_⟩
      · refine G_to (by omega) ?_
        rw [if_neg (by simpa using c), if_neg (by simp)]
        exact G_to (by unfold fits; omega) z1
      · rw [z2, List.drop_of_length_le (l := u) (by omega), nil_sub, nil_sub]
theorem may_ok {w : List Int} (hw : w.length ≤ 60) (h : Let 4 w) : mayE 4 w = 0 := mayE_ok (by omega) (by omega) (fun j j0 j1 => h _ (ix_mem j0 j1))
theorem within_spec {u v : List Int} (hu : u.length ≤ 60) (hv : v.length ≤ 60) (h1 : Let 4 u) (h2 : Let 4 v) : higman_within u v = some (u.isSublist v) := by
  unfold higman_within higman_Stands
  obtain ⟨b, pl, z1, z2⟩ := Stands_L9 hv hu _ 0 [] rfl (by omega) (by omega) (by simp)
  have e : higman_Stands_L2 u v 0 [] = some (b, 0, pl) := by
    rw [higman_Stands_L2_eq]; unfold higman_Stands_L2_B
    rw [if_pos (by simp), G_pos (by simp), G_pos (by simp)]
    refine bind_to word_May_spec ?_
    rw [show ix [u, v] 0 = u from rfl, may_ok hu h1, if_neg (by simp), G_pos (by decide), show (0 : Int) + 1 = 1 from rfl, higman_Stands_L2_eq]; unfold higman_Stands_L2_B
    rw [if_pos (by simp), G_pos (by simp), G_pos (by simp)]
    refine bind_to word_May_spec ?_
    rw [show ix [u, v] 1 = v from rfl, may_ok hv h2, if_neg (by simp), G_pos (by decide), show (1 : Int) + 1 = 2 from rfl, higman_Stands_L2_eq]; unfold higman_Stands_L2_B
    rw [if_neg (by simp)]
    exact z1
  refine bind_to e ?_
  rw [z2]; rfl
theorem Within_L6 {u v : List Int} (hv : v.length ≤ 60) (hu : u.length ≤ 60) : ∀ (n : Nat) (a i : Int) (p : List Int), (v.length - a).toNat = n → 0 ≤ a → a ≤ v.length → 0 ≤ i → i < u.length → p.length = i.toNat →
    ∃ b pl, r32_Within_L6 u v i p (r32_Within_L4 u v) a = some (b, pl) ∧ b = (u.drop i.toNat).isSublist (v.drop a.toNat) := by
  intro n
  induction n with
  | zero =>
    intro a i p hn a0 a1 i0 i1 hp
    rw [r32_Within_L6_eq]; unfold r32_Within_L6_B r32_Within_J7
    rw [if_neg (by simp; omega), if_pos (by simp; omega), List.drop_of_length_le (l := v) (by omega), ix_drop i0 i1]
    exact ⟨_, _, rfl, rfl⟩
  | succ n ih =>
    intro a i p hn a0 a1 i0 i1 hp
    rw [r32_Within_L6_eq]; unfold r32_Within_L6_B r32_Within_J7
    rw [if_pos (by simp; omega), ix_drop a0 (by omega : a < v.length), ix_drop i0 i1]
    by_cases e : ix v a = ix u i
    · by_cases c : i + 1 < u.length
      · obtain ⟨b, pl, z1, z2⟩ := ih (a + 1) (i + 1) (p ++ [a]) (by omega) (by omega) (by omega) (by omega) c (by simp; omega)
        refine ⟨b, pl, ?_, ?_⟩
        · refine G_to (by omega) (G_to (by omega) ?_)
          rw [if_neg (by simpa using e), if_neg (by simp; omega)]
          refine G_to (by unfold room; simp; omega) (G_to (by unfold fits; omega) (G_to (by unfold fits; omega) ?_))
          rw [r32_Within_L4_eq]; unfold r32_Within_L4_B
          rw [if_pos (by simp; omega)]; exact z1
        · rw [z2, List.isSublist, if_pos (by simpa using e.symm)]
      · refine ⟨true, p ++ [a], ?_, ?_⟩
        · refine G_to (by omega) (G_to (by omega) ?_)
          rw [if_neg (by simpa using e), if_neg (by simp; omega)]
          refine G_to (by unfold room; simp; omega) (G_to (by unfold fits; omega) (G_to (by unfold fits; omega) ?_))
          rw [r32_Within_L4_eq]; unfold r32_Within_L4_B
          rw [if_neg (by simp; omega)]
        · rw [List.isSublist, if_pos (by simpa using e.symm), List.drop_of_length_le (l := u) (by omega), nil_sub]
    · obtain ⟨b, pl, z1, z2⟩ := ih (a + 1) i p (by omega) (by omega) (by omega) i0 i1 hp
      refine ⟨b, pl, ?_, ?_⟩
      · refine G_to (by omega) (G_to (by omega) ?_)
        rw [if_pos (by simpa using e)]
        exact G_to (by unfold fits; omega) z1
      · rw [z2, ix_drop i0 i1, List.isSublist, if_neg (by simpa using fun h => e h.symm)]
theorem Within_spec {u v : List Int} (hv : v.length ≤ 60) (hu : u.length ≤ 60) : ∃ pl, r32_Within u v = some (u.isSublist v, pl) := by
  unfold r32_Within
  rw [r32_Within_L4_eq]; unfold r32_Within_L4_B
  by_cases c : (0 : Int) < u.length
  · rw [if_pos (decide_eq_true c)]
    obtain ⟨b, pl, z1, z2⟩ := Within_L6 hv hu _ 0 0 [] rfl (by omega) (by omega) (by omega) c rfl
    exact ⟨pl, by rw [z1, z2]; rfl⟩
  · rw [if_neg (by simpa using c)]
    have : u = [] := List.length_eq_zero_iff.1 (by omega)
    exact ⟨[], by rw [this, nil_sub]⟩
/- all words -/
def wd (L : Nat) : Nat → Nat → List Int
  | 0, _ => []
  | l + 1, k => wd L l (k / L) ++ [((k % L : Nat) : Int)]
theorem wd_len (L : Nat) : ∀ l k, (wd L l k).length = l
  | 0, _ => rfl
  | l + 1, k => by rw [wd, List.length_append, wd_len L l]; rfl
theorem wd_let {L : Nat} (hL : 1 ≤ L) : ∀ l k, Let L (wd L l k)
  | 0, _, a, h => by cases h
  | l + 1, k, a, h => by
    rw [wd] at h
    rcases List.mem_append.1 h with h | h
    · exact wd_let hL l _ a h
    · rw [List.mem_singleton.1 h]
      have := Nat.mod_lt k (by omega : L > 0)
      omega
theorem wd_zero (L : Nat) : ∀ l, wd L l 0 = List.replicate l 0
  | 0 => rfl
  | l + 1 => by rw [wd, Nat.zero_div, Nat.zero_mod, wd_zero L l, List.replicate_succ']; rfl
theorem wd_sur {L : Nat} (hL : 1 ≤ L) : ∀ (n : Nat) (w : List Int), w.length = n → Let L w → ∃ k, k < L ^ n ∧ wd L n k = w
  | 0, w, hw, _ => ⟨0, by simp, (List.length_eq_zero_iff.1 hw).symm⟩
  | n + 1, w, hw, h => by
    have hne : w ≠ [] := fun e => by rw [e] at hw; cases hw
    have e := List.dropLast_concat_getLast hne
    obtain ⟨k, k1, k2⟩ := wd_sur hL n w.dropLast (by rw [List.length_dropLast, hw]; rfl) (fun a ha => h a (List.dropLast_subset w ha))
    have hl := h _ (List.getLast_mem hne)
    obtain ⟨a, ha⟩ : ∃ a : Nat, w.getLast hne = a := ⟨(w.getLast hne).toNat, by omega⟩
    have haL : a < L := by omega
    refine ⟨k * L + a, ?_, ?_⟩
    · rw [Nat.pow_succ]
      have : (k + 1) * L ≤ L ^ n * L := Nat.mul_le_mul_right L k1
      rw [Nat.add_mul] at this
      omega
    · rw [wd, show (k * L + a) / L = k by rw [Nat.mul_comm, Nat.mul_add_div (by omega), Nat.div_eq_of_lt haL]; rfl, show (k * L + a) % L = a by rw [Nat.mul_comm, Nat.mul_add_mod, Nat.mod_eq_of_lt haL], k2, ← ha]
      exact e
theorem ix_mid {A B : List Int} {d : Int} : ix (A ++ d :: B) A.length = d := by
  rw [ix_nat, List.getD_eq_getElem?_getD, List.getElem?_append_right (Nat.le_refl _)]; simp
theorem set_mid {A B : List Int} {d x : Int} : (A ++ d :: B).set A.length x = A ++ x :: B := by
  rw [List.set_append_right _ _ (Nat.le_refl _)]; simp
theorem Next_L3 {L : Nat} (hL : 1 ≤ L ∧ L ≤ 4) : ∀ (j k z : Nat), k < L ^ j → j + z ≤ 100 → r1_Next_L3 (L : Int) ((j : Int) - 1) (wd L j k ++ List.replicate z 0) = some (if k + 1 < L ^ j then wd L j (k + 1) ++ List.replicate z 0 else List.replicate (j + z + 1) 0)
  | 0, k, z, hk, hz => by
    rw [r1_Next_L3_eq]; unfold r1_Next_L3_B
    rw [if_neg (by simp), if_neg (by simp at hk ⊢)]
    refine G_to (by unfold room; simp [wd]; omega) ?_
    show some (List.replicate z 0 ++ [0]) = some (List.replicate (0 + z + 1) 0)
    rw [Nat.zero_add, List.replicate_succ']
  | j + 1, k, z, hk, hz => by
    have hm := Nat.mod_lt k (by omega : L > 0)
    have hdm := Nat.div_add_mod k L
    have hkd : k / L < L ^ j := by
      rw [Nat.pow_succ] at hk
      exact Nat.div_lt_of_lt_mul (by rw [Nat.mul_comm]; exact hk)
    have hlen := wd_len L j (k / L)
    have e : wd L (j + 1) k ++ List.replicate z 0 = wd L j (k / L) ++ ((k % L : Nat) : Int) :: List.replicate z 0 := by rw [wd, List.append_assoc]; rfl
    have ei : (((j + 1 : Nat) : Int) - 1) = ((wd L j (k / L)).length : Int) := by rw [hlen]; omega
    have ew : ∀ x, wd L (j + 1) x = wd L j (x / L) ++ [((x % L : Nat) : Int)] := fun _ => rfl
    generalize hr : k % L = r at *
    generalize hq : k / L = q at *
    rw [r1_Next_L3_eq]; unfold r1_Next_L3_B
    rw [e, ei, if_pos (by simp), ix_mid, Int.toNat_natCast, set_mid, set_mid]
    refine G_to (by simp; omega) (G_to (by simp) (G_to (by unfold fits; omega) ?_))
    by_cases c : ((r : Nat) : Int) < (L : Int) - 1
    · rw [if_pos (decide_eq_true c)]
      refine G_to (by simp; omega) (G_to (by simp) (G_to (by unfold fits; omega) (G_to (by simp; omega) (G_to (by simp) ?_))))
      have d1 : (k + 1) / L = q := by
        have : k + 1 = L * (q) + (r + 1) := by omega
        rw [this, Nat.mul_add_div (by omega), Nat.div_eq_of_lt (by omega)]; simp
      have d2 : (k + 1) % L = r + 1 := by
        have : k + 1 = L * (q) + (r + 1) := by omega
        rw [this, Nat.mul_add_mod, Nat.mod_eq_of_lt (by omega)]
      have d3 : k + 1 < L ^ (j + 1) := by
        rw [Nat.pow_succ]
        have : (q + 1) * L ≤ L ^ j * L := Nat.mul_le_mul_right L hkd
        rw [Nat.add_mul, Nat.mul_comm (q)] at this
        omega
      rw [if_pos d3, ew, d1, d2, List.append_assoc]; rfl
    · rw [if_neg (by simpa using c)]
      refine G_to (by simp; omega) (G_to (by simp) (G_to (by unfold fits; omega) ?_))
      have ez : wd L j (q) ++ (0 : Int) :: List.replicate z 0 = wd L j (q) ++ List.replicate (z + 1) 0 := rfl
      rw [ez, hlen]
      refine (Next_L3 hL j (q) (z + 1) hkd (by omega)).trans ?_
      congr 1
      have hk1 : k + 1 = L * (q + 1) := by rw [Nat.mul_add]; omega
      have d1 : (k + 1) / L = q + 1 := by rw [hk1, Nat.mul_div_cancel_left _ (by omega)]
      have d2 : (k + 1) % L = 0 := by rw [hk1, Nat.mul_mod_right]
      have d3 : k + 1 < L ^ (j + 1) ↔ q + 1 < L ^ j := by
        rw [hk1, Nat.pow_succ, Nat.mul_comm (L ^ j), Nat.mul_lt_mul_left (by omega)]
      by_cases c2 : q + 1 < L ^ j
      · rw [if_pos c2, if_pos (d3.2 c2), ew, d1, d2, List.append_assoc]; rfl
      · rw [if_neg c2, if_neg (fun h => c2 (d3.1 h)), show j + (z + 1) + 1 = j + 1 + z + 1 by omega]
theorem Next_spec {L : Nat} (hL : 1 ≤ L ∧ L ≤ 4) {l k : Nat} (hk : k < L ^ l) (hl : l ≤ 100) : r1_Next (L : Int) (wd L l k) = some (if k + 1 < L ^ l then wd L l (k + 1) else wd L (l + 1) 0) := by
  have hlen := wd_len L l k
  unfold r1_Next
  have := Next_L3 hL l k 0 hk (by omega)
  rw [List.replicate_zero, List.append_nil, List.append_nil] at this
  refine G_to (by unfold room; simp; omega) (G_to (by unfold fits; simp; omega) ?_)
  rw [List.nil_append, hlen, this, wd_zero]
/- the least ones, one by one -/
def hit (out : List (List Int)) (w : List Int) : Prop := ∃ u ∈ out, u.Sublist w
theorem hit.mono {out out' : List (List Int)} (h : ∀ u ∈ out, u ∈ out') {w : List Int} (k : hit out w) : hit out' w := let ⟨u, h1, h2⟩ := k; ⟨u, h u h1, h2⟩
theorem hit.app {out : List (List Int)} {w x : List Int} (k : hit out w) : hit out (w ++ x) := let ⟨u, h1, h2⟩ := k; ⟨u, h1, h2.trans (List.sublist_append_left _ _)⟩
def acc (d : Dt) (w : List Int) : Prop := ix d.2.2.2.1 (wlk d.2.2.1 d.2.1 w) = 1
structure HOk (d : Dt) : Prop where
  ok : DOk 3000 badD d
  n5 : d.2.2.1.length ≤ 5
def kids (L : Nat) (w : List Int) : List (List Int) := (List.range L).map fun (a : Nat) => w ++ [(a : Int)]
theorem kids_len (L : Nat) (w : List Int) : (kids L w).length = L := by simp [kids]
structure OutOk (d : Dt) (out : List (List Int)) : Prop where
  w : ∀ u ∈ out, u.length ≤ 4 ∧ Let d.1 u
section
variable {d : Dt}
theorem HOk.wk (h : HOk d) {w : List Int} (hw : Let d.1 w) : 0 ≤ wlk d.2.2.1 d.2.1 w ∧ wlk d.2.2.1 d.2.1 w < d.2.2.1.length := h.ok.tab.wlkb h.ok.st.1 h.ok.st.2 hw
theorem Let.four (h : HOk d) {w : List Int} (hw : Let d.1 w) : Let 4 w := fun a ha => by
  have := hw a ha
  have := h.ok.let1
  omega
theorem has_tells (h : HOk d) {out : List (List Int)} (ho : OutOk d out) (hl : out.length ≤ 100000) {w : List Int} (hw : Let d.1 w) (hn : w.length ≤ 60) : Tells (slices_ContainsFunc_4 out w) (hit out w) :=
  contains_tells (f := fun u => higman_Least_1 u w) (slices_IndexFunc_4_L2_eq out w) (by omega) (fun u hu => by
    have := ho.w u hu
    refine ⟨u.isSublist w, ?_, List.isSublist_iff_sublist⟩
    unfold higman_Least_1
    rw [within_spec (by omega) hn (Let.four h this.2) (Let.four h hw)]; rfl)
theorem Accepts_spec (h : HOk d) {w : List Int} (hw : Let d.1 w) (hn : w.length ≤ 60) : Tells (r3_Accepts d w) (acc d w) := by
  have hk := h.wk hw
  have hm := h.ok.mkl
  unfold r3_Accepts
  rw [show (d.1, d.2.1, d.2.2.1, d.2.2.2.1, ()) = d from rfl, r3_After_spec h.ok.tab hw (by omega) h.ok.st.1 h.ok.st.2]
  refine ⟨_, G_to (by omega) rfl, ?_⟩
  rw [decide_eq_true_iff]; rfl
/-- The document's one word. -/
theorem ref_word (h : HOk d) {out : List (List Int)} (ho : OutOk d out) (hl : out.length ≤ 100000) {w x : List Int} (hw : Let d.1 w) (hn : w.length < d.2.2.1.length) (hx : r1_Next d.1 w = some x) :
    (hit out w → r32_Least_L3 d out w = r32_Least_L3 d out x) ∧ (¬ hit out w → acc d w → r32_Least_L3 d out w = r32_Least_L3 d (out ++ [w]) x) ∧ (¬ hit out w → ¬ acc d w → r32_Least_L3 d out w = r32_Least_L3 d out x) := by
  have h5 := h.n5
  have e0 : ∀ b, r3_Accepts d w = some b → r32_Least_L3 d out w = r32_Least_L6 d out w (r32_Least_L3 d) b 0 := fun b hb => by
    conv => lhs; rw [r32_Least_L3_eq]; unfold r32_Least_L3_B
    rw [if_pos (by simp; omega)]
    exact bind_to hb rfl
  have eF : ∀ i, r32_Least_L6 d out w (r32_Least_L3 d) false i = r32_Least_L3 d out x := fun i => by
    rw [r32_Least_L6_eq]; unfold r32_Least_L6_B r32_Least_J7
    split
    · rw [if_neg (by simp), if_neg (by simp)]
      exact bind_to hx rfl
    · rw [if_neg (by simp)]
      exact bind_to hx rfl
  have step : ∀ i : Int, 0 ≤ i → i < out.length → r32_Least_L6 d out w (r32_Least_L3 d) true i = r32_Least_L6 d out w (r32_Least_L3 d) (!((ix out i).isSublist w)) (i + 1) := fun i i0 i1 => by
    have := ho.w _ (ix_mem i0 i1)
    obtain ⟨pl, hpl⟩ := Within_spec (u := ix out i) (v := w) (by omega) (by omega)
    conv => lhs; rw [r32_Least_L6_eq]; unfold r32_Least_L6_B
    rw [if_pos (by simp; omega), if_pos rfl]
    exact G_to (by omega) (G_to (by omega) (bind_to hpl (G_to (by unfold fits; omega) rfl)))
  have last : r32_Least_L6 d out w (r32_Least_L3 d) true (out.length : Int) = r32_Least_L3 d (out ++ [w]) x := by
    rw [r32_Least_L6_eq]; unfold r32_Least_L6_B r32_Least_J7
    rw [if_neg (by simp), if_pos rfl]
    exact G_to (by unfold room; simp; omega) (bind_to hx rfl)
  obtain ⟨b, hb1, hb2⟩ := Accepts_spec h hw (by omega)
  refine ⟨fun hh => ?_, fun hh ha => ?_, fun hh ha => ?_⟩
  · cases hbb : b with
    | false => rw [hbb] at hb1; rw [e0 _ hb1, eF]
    | true =>
      rw [hbb] at hb1
      rw [e0 _ hb1]
      refine scan_to (len := (out.length : Int)) (bad := fun i => (ix out i).Sublist w) (lo := 0) (by omega) (fun i i0 i1 => ⟨fun hbad => ?_, fun hbad => ?_⟩) (fun hno => ?_)
      · rw [step i i0 i1, List.isSublist_iff_sublist.2 hbad]; exact eF _
      · conv => lhs; rw [step i i0 i1]
        have : (ix out i).isSublist w = false := by
          cases c : (ix out i).isSublist w with
          | false => rfl
          | true => exact absurd (List.isSublist_iff_sublist.1 c) hbad
        rw [this]; rfl
      · obtain ⟨i, i0, i1, hi⟩ := ex_ix.1 hh
        exact absurd hi (hno i i0 i1)
  · have hbb : b = true := hb2.2 ha
    rw [hbb] at hb1
    rw [e0 _ hb1]
    refine scan_to (len := (out.length : Int)) (bad := fun _ => False) (lo := 0) (by omega) (fun i i0 i1 => ⟨fun hbad => hbad.elim, fun _ => ?_⟩) (fun _ => last)
    conv => lhs; rw [step i i0 i1]
    have : (ix out i).isSublist w = false := by
      cases c : (ix out i).isSublist w with
      | false => rfl
      | true => exact absurd ⟨_, ix_mem i0 i1, List.isSublist_iff_sublist.1 c⟩ hh
    rw [this]; rfl
  · have hbb : b = false := by
      cases hb' : b with
      | false => rfl
      | true => exact absurd (hb2.1 hb') ha
    rw [hbb] at hb1
    rw [e0 _ hb1, eF]
/-- The program's one word. -/
theorem prog_kids (h : HOk d) {out : List (List Int)} {w : List Int} {rest : List (List Int)} (hr : rest.length ≤ 100000) (hn : w.length ≤ 60) : higman_Least_L13 d (w :: rest) out (higman_Least_L6 d) 0 (w :: rest) = higman_Least_L6 d (rest ++ kids d.1.toNat w) out := by
  have h1 := h.ok.let1
  have key : ∀ (m t : Nat), d.1.toNat - t = m → t ≤ d.1.toNat → higman_Least_L13 d (w :: rest) out (higman_Least_L6 d) t (w :: rest ++ (List.range t).map (fun (a : Nat) => w ++ [(a : Int)])) = higman_Least_L6 d (rest ++ kids d.1.toNat w) out := by
    intro m
    induction m with
    | zero =>
      intro t hm ht
      obtain rfl : t = d.1.toNat := by omega
      rw [higman_Least_L13_eq]; unfold higman_Least_L13_B
      rw [if_neg (by simp; omega)]
      exact G_to (by simp; omega) rfl
    | succ m ih =>
      intro t hm ht
      rw [higman_Least_L13_eq]; unfold higman_Least_L13_B
      rw [if_pos (by simp; omega), show ix (w :: rest) 0 = w from rfl]
      refine bind_to (slices_Clone_spec (by omega)) ?_
      refine G_to (by unfold room; simp; omega) (G_to (by unfold room; simp; omega) (G_to (by unfold fits; omega) ?_))
      have := ih (t + 1) (by omega) (by omega)
      rw [List.range_succ, List.map_append, ← List.append_assoc] at this
      exact this
  have := key _ 0 rfl (by omega)
  rw [List.range_zero, List.map_nil, List.append_nil] at this
  exact this
theorem prog_word (h : HOk d) {out : List (List Int)} (ho : OutOk d out) (hl : out.length ≤ 100000) {w : List Int} (hw : Let d.1 w) (hn : w.length < d.2.2.1.length) {rest : List (List Int)} (hr : rest.length ≤ 100000) :
    (hit out w → higman_Least_L6 d (w :: rest) out = higman_Least_L6 d rest out) ∧ (¬ hit out w → acc d w → higman_Least_L6 d (w :: rest) out = higman_Least_L6 d rest (out ++ [w])) ∧ (¬ hit out w → ¬ acc d w → higman_Least_L6 d (w :: rest) out = higman_Least_L6 d (rest ++ kids d.1.toNat w) out) := by
  have h5 := h.n5
  have hk := h.wk hw
  have hm := h.ok.mkl
  have ed : (d.1, d.2.1, d.2.2.1, d.2.2.2.1, ()) = d := rfl
  refine ⟨fun hh => ?_, fun hh ha => ?_, fun hh ha => ?_⟩
  · conv => lhs; rw [higman_Least_L6_eq]; unfold higman_Least_L6_B
    rw [if_pos (by simp), G_pos (by simp), G_pos (by simp), show ix (w :: rest) 0 = w from rfl, if_pos (by simp; omega), G_pos (by simp), G_pos (by simp)]
    refine (has_tells h ho hl hw (by omega)).to (fun _ => ?_) (fun hc => absurd hh hc)
    exact G_to (by simp; omega) rfl
  · conv => lhs; rw [higman_Least_L6_eq]; unfold higman_Least_L6_B
    rw [if_pos (by simp), G_pos (by simp), G_pos (by simp), show ix (w :: rest) 0 = w from rfl, if_pos (by simp; omega), G_pos (by simp), G_pos (by simp)]
    refine (has_tells h ho hl hw (by omega)).to (fun hc => absurd hc hh) (fun _ => ?_)
    rw [ed]
    refine bind_to (det_After_spec h.ok.tab hw (by omega) h.ok.st.1 h.ok.st.2) (G_to (by omega) ?_)
    rw [if_pos (decide_eq_true (show ix d.2.2.2.1 _ = 1 from ha))]
    exact G_to (by unfold room; simp; omega) (G_to (by simp; omega) rfl)
  · conv => lhs; rw [higman_Least_L6_eq]; unfold higman_Least_L6_B
    rw [if_pos (by simp), G_pos (by simp), G_pos (by simp), show ix (w :: rest) 0 = w from rfl, if_pos (by simp; omega), G_pos (by simp), G_pos (by simp)]
    refine (has_tells h ho hl hw (by omega)).to (fun hc => absurd hc hh) (fun _ => ?_)
    rw [ed]
    refine bind_to (det_After_spec h.ok.tab hw (by omega) h.ok.st.1 h.ok.st.2) (G_to (by omega) ?_)
    rw [if_neg (by unfold acc at ha; simpa using ha)]
    exact prog_kids h hr (by omega)
/- levels -/
theorem flat_kids {L : Nat} (hL : 1 ≤ L) {l : Nat} (opn : Nat → Bool) : ∀ m : Nat, (((List.range m).filter opn).map (fun j => kids L (wd L l j))).flatten = ((List.range (m * L)).filter (fun j => opn (j / L))).map (wd L (l + 1))
  | 0 => by simp
  | m + 1 => by
    have ih := flat_kids hL (l := l) opn m
    have e : List.range ((m + 1) * L) = List.range (m * L) ++ (List.range L).map (fun a => m * L + a) := by
      rw [Nat.add_mul, Nat.one_mul, List.range_add]
    have hd : ∀ a ∈ List.range L, (m * L + a) / L = m ∧ (m * L + a) % L = a := fun a ha => by
      rw [List.mem_range] at ha
      rw [Nat.mul_comm, Nat.mul_add_div (by omega), Nat.div_eq_of_lt ha, Nat.mul_add_mod, Nat.mod_eq_of_lt ha]
      exact ⟨rfl, rfl⟩
    rw [List.range_succ, List.filter_append, List.map_append, List.flatten_append, ih, e, List.filter_append, List.map_append]
    congr 1
    rw [List.filter_map]
    cases c : opn m with
    | true =>
      have : (List.range L).filter ((fun j => opn (j / L)) ∘ fun a => m * L + a) = List.range L := List.filter_eq_self.2 (fun a ha => by show opn ((m * L + a) / L) = true; rw [(hd a ha).1, c])
      rw [this]
      have e1 : [m].filter opn = [m] := by simp [c]
      rw [e1, List.map_map]
      show (kids L (wd L l m) ++ []) = _
      rw [List.append_nil]
      unfold kids
      refine List.map_congr_left fun a ha => ?_
      show wd L l m ++ [(a : Int)] = wd L (l + 1) (m * L + a)
      rw [wd, (hd a ha).1, (hd a ha).2]
    | false =>
      have : (List.range L).filter ((fun j => opn (j / L)) ∘ fun a => m * L + a) = [] := List.filter_eq_nil_iff.2 (fun a ha => by show ¬ opn ((m * L + a) / L) = true; rw [(hd a ha).1, c]; simp)
      rw [this]
      have e1 : [m].filter opn = [] := by simp [c]
      rw [e1]; rfl
/-- After k words of a level. -/
structure Lv (d : Dt) (l k : Nat) (row out : List (List Int)) (live opn : Nat → Bool) : Prop where
  row : row = (((List.range' k (d.1.toNat ^ l - k)).filter live).map (wd d.1.toNat l)) ++ (((List.range k).filter opn).map (fun j => kids d.1.toNat (wd d.1.toNat l j))).flatten
  dead : ∀ j, k ≤ j → j < d.1.toNat ^ l → live j = false → hit out (wd d.1.toNat l j)
  shut : ∀ j, j < k → opn j = false → hit out (wd d.1.toNat l j)
  ok : OutOk d out
  ol : out.length ≤ 256 * l + k
  done : ∀ w, Let d.1 w → w.length < l → acc d w → hit out w
  now : ∀ j, j < k → acc d (wd d.1.toNat l j) → hit out (wd d.1.toNat l j)
theorem wdl (h : HOk d) (l k : Nat) : Let d.1 (wd d.1.toNat l k) := by
  have h1 := h.ok.let1
  have := wd_let (L := d.1.toNat) (by omega) l k
  rw [Int.toNat_of_nonneg (by omega)] at this
  exact this
theorem pow_b (h : HOk d) {l : Nat} (hl : l ≤ 4) : d.1.toNat ^ l ≤ 256 := by
  have h1 := h.ok.let1
  have e1 : d.1.toNat ^ l ≤ 4 ^ l := Nat.pow_le_pow_left (by omega) l
  have e2 : 4 ^ l ≤ 4 ^ 4 := Nat.pow_le_pow_right (by omega) hl
  omega
theorem flat_len (L : Nat) (f : Nat → List Int) : ∀ l : List Nat, ((l.map (fun j => kids L (f j))).flatten).length = l.length * L
  | [] => by simp
  | x :: l => by
    rw [List.map_cons, List.flatten_cons, List.length_append, kids_len, flat_len L f l, List.length_cons, Nat.add_mul]; omega
def upd (opn : Nat → Bool) (k : Nat) (b : Bool) (j : Nat) : Bool := if j = k then b else opn j
theorem upd_range (opn : Nat → Bool) (k : Nat) (b : Bool) : (List.range (k + 1)).filter (upd opn k b) = (List.range k).filter opn ++ (if b = true then [k] else []) := by
  have e1 : (List.range k).filter (upd opn k b) = (List.range k).filter opn := List.filter_congr fun j hj => by
    rw [List.mem_range] at hj
    unfold upd; rw [if_neg (by omega)]
  have e2 : [k].filter (upd opn k b) = if b = true then [k] else [] := by
    cases b <;> simp [upd]
  rw [List.range_succ, List.filter_append, e1, e2]
theorem upd_lt {opn : Nat → Bool} {k : Nat} {b : Bool} {j : Nat} (h : j < k + 1) (hf : upd opn k b j = false) : (j < k ∧ opn j = false) ∨ (j = k ∧ b = false) := by
  unfold upd at hf
  by_cases c : j = k
  · rw [if_pos c] at hf; exact .inr ⟨c, hf⟩
  · rw [if_neg c] at hf; exact .inl ⟨by omega, hf⟩
/-- One word more. -/
theorem Lv.next {l k : Nat} {row out : List (List Int)} {live opn : Nat → Bool} (H : Lv d l k row out live opn) (hk : k < d.1.toNat ^ l) {out1 : List (List Int)} {b : Bool} (hsub : ∀ u ∈ out, u ∈ out1) (hok : OutOk d out1) (hol : out1.length ≤ out.length + 1) (hsh : b = false → hit out1 (wd d.1.toNat l k)) (hnow : acc d (wd d.1.toNat l k) → hit out1 (wd d.1.toNat l k)) :
    Lv d l (k + 1) ((((List.range' (k + 1) (d.1.toNat ^ l - (k + 1))).filter live).map (wd d.1.toNat l)) ++ ((((List.range k).filter opn).map (fun j => kids d.1.toNat (wd d.1.toNat l j))).flatten ++ (if b = true then kids d.1.toNat (wd d.1.toNat l k) else []))) out1 live (upd opn k b) := by
  have h0 := H.ol
  refine ⟨?_, fun j j0 j1 hj => (H.dead j (by omega) j1 hj).mono hsub, fun j hj hf => ?_, hok, by omega, fun w hw hl ha => (H.done w hw hl ha).mono hsub, fun j hj ha => ?_⟩
  · rw [upd_range, List.map_append, List.flatten_append]
    congr 2
    cases b with
    | true => simp
    | false => simp
  · rcases upd_lt hj hf with ⟨h1, h2⟩ | ⟨h1, h2⟩
    · exact (H.shut j h1 h2).mono hsub
    · subst h1; exact hsh h2
  · by_cases c : j = k
    · subst c; exact hnow ha
    · exact (H.now j (by omega) ha).mono hsub
theorem level (h : HOk d) {l : Nat} (hl : l < d.2.2.1.length) : ∀ (m k : Nat) (row out : List (List Int)) (live opn : Nat → Bool), d.1.toNat ^ l - k = m → k ≤ d.1.toNat ^ l → Lv d l k row out live opn →
    ∃ row' out' opn', Lv d l (d.1.toNat ^ l) row' out' live opn' ∧ higman_Least_L6 d row out = higman_Least_L6 d row' out' ∧ r32_Least_L3 d out (if k < d.1.toNat ^ l then wd d.1.toNat l k else wd d.1.toNat (l + 1) 0) = r32_Least_L3 d out' (wd d.1.toNat (l + 1) 0) := by
  have h1 := h.ok.let1
  have h5 := h.n5
  have hpw := pow_b h (l := l) (by omega)
  have eL : ((d.1.toNat : Nat) : Int) = d.1 := Int.toNat_of_nonneg (by omega)
  intro m
  induction m with
  | zero =>
    intro k row out live opn hm hk H
    obtain rfl : k = d.1.toNat ^ l := by omega
    exact ⟨row, out, opn, H, rfl, by rw [if_neg (by omega)]⟩
  | succ m ih =>
    intro k row out live opn hm hk H
    have hkl : k < d.1.toNat ^ l := by omega
    have hwl := wdl h l k
    have hwn := wd_len d.1.toNat l k
    have hol := H.ol
    have hnx := Next_spec (L := d.1.toNat) (by omega) hkl (by omega : l ≤ 100)
    rw [eL] at hnx
    have hrange : List.range' k (d.1.toNat ^ l - k) = k :: List.range' (k + 1) (d.1.toNat ^ l - (k + 1)) := by
      rw [show d.1.toNat ^ l - k = (d.1.toNat ^ l - (k + 1)) + 1 by omega, List.range'_succ]
    rw [if_pos hkl]
    have go : ∀ {row1 out1 : List (List Int)} {opn1 : Nat → Bool}, Lv d l (k + 1) row1 out1 live opn1 → higman_Least_L6 d row out = higman_Least_L6 d row1 out1 → r32_Least_L3 d out (wd d.1.toNat l k) = r32_Least_L3 d out1 (if k + 1 < d.1.toNat ^ l then wd d.1.toNat l (k + 1) else wd d.1.toNat (l + 1) 0) →
        ∃ row' out' opn', Lv d l (d.1.toNat ^ l) row' out' live opn' ∧ higman_Least_L6 d row out = higman_Least_L6 d row' out' ∧ r32_Least_L3 d out (wd d.1.toNat l k) = r32_Least_L3 d out' (wd d.1.toNat (l + 1) 0) := fun H1 e1 e2 => by
      obtain ⟨row', out', opn', z1, z2, z3⟩ := ih (k + 1) _ _ live _ (by omega) (by omega) H1
      exact ⟨row', out', opn', z1, e1.trans z2, e2.trans z3⟩
    obtain ⟨f1, f2, f3⟩ := ref_word h H.ok (by omega) hwl (by omega) hnx
    have hrow := H.row
    rw [hrange] at hrow
    generalize hB : (((List.range k).filter opn).map (fun j => kids d.1.toNat (wd d.1.toNat l j))).flatten = B at *
    generalize hA : ((List.range' (k + 1) (d.1.toNat ^ l - (k + 1))).filter live).map (wd d.1.toNat l) = A at *
    have hAl : A.length ≤ 256 := by
      rw [← hA, List.length_map]
      have := List.length_filter_le live (List.range' (k + 1) (d.1.toNat ^ l - (k + 1)))
      rw [List.length_range'] at this
      omega
    have hBl : B.length ≤ 1024 := by
      rw [← hB, flat_len]
      have := List.length_filter_le opn (List.range k)
      rw [List.length_range] at this
      have : ((List.range k).filter opn).length * d.1.toNat ≤ 256 * 4 := Nat.mul_le_mul (by omega) (by omega)
      omega
    cases hlv : live k with
    | false =>
      have hh := H.dead k (Nat.le_refl _) hkl hlv
      have := H.next hkl (out1 := out) (b := false) (fun _ => id) H.ok (by omega) (fun _ => hh) (fun _ => hh)
      rw [hA, hB] at this
      refine go this ?_ (f1 hh)
      rw [hrow]
      simp [hlv, hA]
    | true =>
      have erow : row = wd d.1.toNat l k :: (A ++ B) := by
        rw [hrow]
        simp [hlv, hA]
      obtain ⟨p1, p2, p3⟩ := prog_word h H.ok (by omega) hwl (by omega) (rest := A ++ B) (by simp; omega)
      rw [erow]
      rw [erow] at go
      by_cases hh : hit out (wd d.1.toNat l k)
      · have := H.next hkl (out1 := out) (b := false) (fun _ => id) H.ok (by omega) (fun _ => hh) (fun _ => hh)
        rw [hA, hB] at this
        refine go this ?_ (f1 hh)
        rw [p1 hh]; simp
      · by_cases ha : acc d (wd d.1.toNat l k)
        · have h2 : hit (out ++ [wd d.1.toNat l k]) (wd d.1.toNat l k) := ⟨_, by simp, List.Sublist.refl _⟩
          have := H.next hkl (out1 := out ++ [wd d.1.toNat l k]) (b := false) (fun u hu => by simp [hu]) ⟨fun u hu => by
            rcases List.mem_append.1 hu with hu | hu
            · exact H.ok.w u hu
            · rw [List.mem_singleton.1 hu]; exact ⟨by omega, hwl⟩⟩ (by simp) (fun _ => h2) (fun _ => h2)
          rw [hA, hB] at this
          refine go this ?_ (f2 hh ha)
          rw [p2 hh ha]; simp
        · have := H.next hkl (out1 := out) (b := true) (fun _ => id) H.ok (by omega) (fun hf => by cases hf) (fun hc => absurd hc ha)
          rw [hA, hB] at this
          refine go this ?_ (f3 hh ha)
          rw [p3 hh ha]; simp
theorem levels (h : HOk d) : ∀ (m l : Nat) (row out : List (List Int)) (live opn : Nat → Bool), d.2.2.1.length - l = m → l ≤ d.2.2.1.length → Lv d l 0 row out live opn →
    ∃ out', higman_Least_L6 d row out = some (0, out') ∧ r32_Least_L3 d out (wd d.1.toNat l 0) = some out' ∧ OutOk d out' ∧ out'.length ≤ 100000 ∧ ∀ w, Let d.1 w → w.length < d.2.2.1.length → acc d w → hit out' w := by
  have h1 := h.ok.let1
  have h5 := h.n5
  intro m
  induction m with
  | zero =>
    intro l row out live opn hm hl H
    obtain rfl : l = d.2.2.1.length := by omega
    have hol := H.ol
    refine ⟨out, ?_, ?_, H.ok, by omega, H.done⟩
    · have hrow := H.row
      rw [List.range_zero, List.filter_nil, List.map_nil, List.flatten_nil, List.append_nil] at hrow
      rw [higman_Least_L6_eq]; unfold higman_Least_L6_B
      by_cases c : (0 : Int) < row.length
      · rw [if_pos (decide_eq_true c)]
        refine G_to (by omega) (G_to (by omega) ?_)
        have hm := ix_mem (l := row) (i := 0) (by omega) c
        rw [hrow] at hm
        obtain ⟨j, _, hj⟩ := List.mem_map.1 hm
        rw [← hrow] at hj
        rw [← hj, wd_len, if_neg (by simp)]
      · rw [if_neg (by simpa using c)]
    · rw [r32_Least_L3_eq]; unfold r32_Least_L3_B
      rw [wd_len, if_neg (by simp)]
  | succ m ih =>
    intro l row out live opn hm hl H
    obtain ⟨row', out', opn', z1, z2, z3⟩ := level h (by omega) _ 0 row out live opn rfl (by omega) H
    have hp : 0 < d.1.toNat ^ l := Nat.pow_pos (by omega)
    have hpb := pow_b h (l := l) (by omega)
    rw [if_pos hp] at z3
    have hol := z1.ol
    have hdone : ∀ w, Let d.1 w → w.length < l + 1 → acc d w → hit out' w := fun w hw hlw ha => by
      by_cases c : w.length < l
      · exact z1.done w hw c ha
      · obtain ⟨k, k1, k2⟩ := wd_sur (L := d.1.toNat) (by omega) l w (by omega) (by rw [Int.toNat_of_nonneg (by omega)]; exact hw)
        rw [← k2]; rw [← k2] at ha
        exact z1.now k k1 ha
    have hz : Lv d (l + 1) 0 row' out' (fun j => opn' (j / d.1.toNat)) (fun _ => false) := by
      refine ⟨?_, fun j _ hj hf => ?_, fun j hj => by omega, z1.ok, by omega, hdone, fun j hj => by omega⟩
      · have hr := z1.row
        rw [Nat.sub_self, show List.range' (d.1.toNat ^ l) 0 = [] from rfl, List.filter_nil, List.map_nil, List.nil_append, flat_kids (by omega)] at hr
        rw [hr, List.range_zero, List.filter_nil, List.map_nil, List.flatten_nil, List.append_nil, Nat.sub_zero, List.range_eq_range', Nat.pow_succ]
      · have hjl : j / d.1.toNat < d.1.toNat ^ l := by
          rw [Nat.pow_succ] at hj
          exact Nat.div_lt_of_lt_mul (by rw [Nat.mul_comm]; exact hj)
        rw [wd]
        exact (z1.shut _ hjl hf).app
    obtain ⟨out2, y1, y2, y3⟩ := ih (l + 1) row' out' _ _ (by omega) (by omega) hz
    exact ⟨out2, z2.trans y1, z3.trans y2, y3⟩
/-- What is accepted has a short accepted word in it. -/
theorem pump (h : HOk d) : ∀ (m : Nat) (w : List Int), w.length < m → Let d.1 w → acc d w → ∃ u, u.Sublist w ∧ u.length < d.2.2.1.length ∧ Let d.1 u ∧ acc d u := by
  intro m
  induction m with
  | zero => intro w hw; omega
  | succ m ih =>
    intro w hm hw ha
    by_cases c : w.length < d.2.2.1.length
    · exact ⟨w, List.Sublist.refl _, c, hw, ha⟩
    · have hlt : ∀ i, Let d.1 (w.take i) := fun i a ha => hw a (List.mem_of_mem_take ha)
      obtain ⟨i, j, hij, hj, e⟩ : ∃ i j : Nat, i < j ∧ j ≤ d.2.2.1.length ∧ wlk d.2.2.1 d.2.1 (w.take i) = wlk d.2.2.1 d.2.1 (w.take j) := by
        refine Classical.byContradiction fun hc => ?_
        have hnd : ((List.range (d.2.2.1.length + 1)).map (fun i => wlk d.2.2.1 d.2.1 (w.take i))).Nodup := by
          refine List.pairwise_map.2 (List.Pairwise.imp_of_mem (fun {i j} hi hj hij e => ?_) List.pairwise_lt_range)
          rw [List.mem_range] at hj
          exact hc ⟨i, j, hij, by omega, e⟩
        have := pigeon_int hnd (n := d.2.2.1.length) (fun x hx => by
          obtain ⟨i, _, rfl⟩ := List.mem_map.1 hx
          exact h.wk (hlt i))
        rw [List.length_map, List.length_range] at this
        omega
      have hs : (w.take i ++ w.drop j).Sublist w := by
        conv => rhs; rw [← List.take_append_drop j w]
        have : w.take i = (w.take j).take i := by rw [List.take_take, Nat.min_eq_left (by omega)]
        rw [this]
        exact List.Sublist.append (List.take_sublist _ _) (List.Sublist.refl _)
      have hw' : Let d.1 (w.take i ++ w.drop j) := fun a ha => hw a (hs.subset ha)
      have ha' : acc d (w.take i ++ w.drop j) := by
        unfold acc at ha ⊢
        have e1 : wlk d.2.2.1 d.2.1 (w.take i ++ w.drop j) = wlk d.2.2.1 d.2.1 w := by
          have e3 : wlk d.2.2.1 d.2.1 w = wlk d.2.2.1 d.2.1 (w.take j ++ w.drop j) := by rw [List.take_append_drop]
          rw [e3]
          unfold wlk at e ⊢
          rw [List.foldl_append, List.foldl_append, e]
        rw [e1]; exact ha
      obtain ⟨u, u1, u2, u3, u4⟩ := ih (w.take i ++ w.drop j) (by rw [List.length_append, List.length_take, List.length_drop]; omega) hw' ha'
      exact ⟨u, u1.trans hs, u2, u3, u4⟩
theorem sameLists_refl {l : List (List Int)} (hl : l.length ≤ 100000) (hw : ∀ u ∈ l, u.length ≤ 4) : law_sameLists l l = some true := by
  unfold law_sameLists
  rw [if_neg (by simp)]
  refine scan_to (len := (l.length : Int)) (bad := fun _ => False) (lo := 0) (by omega) (fun i i0 i1 => ⟨fun hb => hb.elim, fun _ => ?_⟩) (fun _ => ?_)
  · have := hw _ (ix_mem i0 i1)
    conv => lhs; rw [law_sameLists_L4_eq]; unfold law_sameLists_L4_B
    rw [if_pos (by simp; omega)]
    refine G_to (by omega) (G_to (by omega) (bind_to (r1_Words_spec (by omega)) ?_))
    rw [if_neg (by simp)]
    exact G_to (by unfold fits; omega) rfl
  · rw [law_sameLists_L4_eq]; unfold law_sameLists_L4_B
    rw [if_neg (by simp)]
theorem bad_true {w : List Int} {e : Int} (he : ¬ e = 0) : law_HigmanLeast_J4 d w e [] e = some true := by
  unfold law_HigmanLeast_J4
  rw [if_pos (decide_eq_true he), if_pos (by simp)]; simp
theorem Least_bad {e : Int} (he : ¬ e = 0) (hs : higman_small d = some e) : higman_Least d = some (e, []) := by
  unfold higman_Least
  refine bind_to hs ?_
  rw [if_pos (decide_eq_true he)]
theorem small_spec : higman_small d = some (if detE 3000 badD d = 0 then (if (5 : Int) < d.2.2.1.length then 1 else 0) else detE 3000 badD d) := by
  unfold higman_small
  refine bind_to det_Check_spec ?_
  rw [show detE 3000 badD (d.1, d.2.1, d.2.2.1, d.2.2.2.1, ()) = detE 3000 badD d from rfl]
  by_cases c : detE 3000 badD d = 0
  · rw [if_neg (by simpa using c), if_pos c]
    by_cases c2 : (5 : Int) < d.2.2.1.length
    · rw [if_pos (decide_eq_true c2), if_pos c2]
    · rw [if_neg (by simpa using c2), if_neg c2]
  · rw [if_pos (decide_eq_true c), if_neg c]
end
theorem law_true (d : Dt) (w : List Int) : law_HigmanLeast d w = some true := by
  have ed : (d.1, d.2.1, d.2.2.1, d.2.2.2.1, ()) = d := rfl
  unfold law_HigmanLeast
  rw [ed]
  by_cases h0 : detE 3000 badD d = 0
  · by_cases c5 : (5 : Int) < d.2.2.1.length
    · have hs : higman_small d = some 1 := by rw [small_spec, if_pos h0, if_pos c5]
      refine bind_to (Least_bad (by omega) hs) (bind_to r3_Check_spec ?_)
      rw [if_pos (decide_eq_true h0)]
      unfold law_HigmanLeast_J3
      rw [if_pos (decide_eq_true c5)]
      exact bad_true (by omega)
    · have h : HOk d := ⟨detE_zero h0, by omega⟩
      have h1 := h.ok.let1
      have hs : higman_small d = some 0 := by rw [small_spec, if_pos h0, if_neg c5]
      have hz : Lv d 0 0 [[]] [] (fun _ => true) (fun _ => false) := by
        refine ⟨by simp [wd], fun j _ _ hf => (by cases hf), fun j hj => (by omega), ⟨fun u hu => (by cases hu)⟩, by simp, fun w _ hl => (by omega), fun j hj => (by omega)⟩
      obtain ⟨out, z1, z2, z3, z4, z5⟩ := levels h _ 0 [[]] [] _ _ rfl (by omega) hz
      have p : higman_Least d = some (0, out) := by
        unfold higman_Least
        refine bind_to hs ?_
        rw [if_neg (by simp)]; exact z1
      refine bind_to p (bind_to r3_Check_spec ?_)
      rw [if_pos (decide_eq_true h0)]
      unfold law_HigmanLeast_J3 law_HigmanLeast_J4
      rw [if_neg (by simpa using c5), if_neg (by simpa using h0), ed]
      refine bind_to (show r32_Least d = some out from z2) ?_
      refine bind_to (sameLists_refl z4 (fun u hu => (z3.w u hu).1)) ?_
      rw [if_neg (by simp), if_neg (by simp)]
      refine bind_to r1_May_spec ?_
      by_cases hm : mayE d.1 w = 0
      · rw [if_neg (by simpa using hm)]
        have hw := mayE_zero hm
        have hlw : Let d.1 w := fun a ha => hw.2.2 a ha
        obtain ⟨b, hb1, hb2⟩ := Accepts_spec h hlw (by omega)
        refine bind_to hb1 ?_
        have e1 : ∀ i : Int, 0 ≤ i → i < out.length → law_HigmanLeast_L16 w out b i = if (ix out i).isSublist w = true then some true else law_HigmanLeast_L16 w out b (i + 1) := fun i i0 i1 => by
          have := z3.w _ (ix_mem i0 i1)
          obtain ⟨pl, hpl⟩ := Within_spec (u := ix out i) (v := w) (by omega) (by omega)
          conv => lhs; rw [law_HigmanLeast_L16_eq]; unfold law_HigmanLeast_L16_B
          rw [if_pos (by simp; omega)]
          refine G_to (by omega) (G_to (by omega) (bind_to hpl ?_))
          by_cases c : (ix out i).isSublist w = true
          · rw [if_pos c, if_pos c]
          · rw [if_neg c, if_neg c]; exact G_to (by unfold fits; omega) rfl
        refine scan_to (len := (out.length : Int)) (bad := fun i => (ix out i).Sublist w) (lo := 0) (by omega) (fun i i0 i1 => ⟨fun hbad => ?_, fun hbad => ?_⟩) (fun hno => ?_)
        · rw [e1 i i0 i1, if_pos (List.isSublist_iff_sublist.2 hbad)]
        · conv => lhs; rw [e1 i i0 i1]
          rw [if_neg (fun hc => hbad (List.isSublist_iff_sublist.1 hc))]
        · rw [law_HigmanLeast_L16_eq]; unfold law_HigmanLeast_L16_B
          rw [if_neg (by simp)]
          have : b = false := by
            cases hbb : b with
            | false => rfl
            | true =>
              obtain ⟨u, u1, u2, u3, u4⟩ := pump h _ w (Nat.lt_succ_self _) hlw (hb2.1 hbb)
              obtain ⟨v, v1, v2⟩ := z5 u u3 u2 u4
              obtain ⟨i, i0, i1, rfl⟩ := (ex_ix (P := fun x => x = v)).1 ⟨v, v1, rfl⟩
              exact absurd (v2.trans u1) (hno i i0 i1)
          rw [this]; rfl
      · rw [if_pos (by simpa using hm)]
  · have hs : higman_small d = some (detE 3000 badD d) := by rw [small_spec, if_neg h0]
    refine bind_to (Least_bad h0 hs) (bind_to r3_Check_spec ?_)
    rw [if_neg (by simpa using h0)]
    unfold law_HigmanLeast_J3
    rw [if_neg (by simp)]
    exact bad_true h0

end Go.Proofs.Ytekchjonmenjiaa.higmanLeastW
