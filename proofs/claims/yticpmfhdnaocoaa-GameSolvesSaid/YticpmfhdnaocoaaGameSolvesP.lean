/- The law 'GameSolves' of the plain functions. -/
import Derived.Test.YticpmfhdnaocoaaGameSolvesD
set_option maxHeartbeats 1000000
set_option maxRecDepth 20000
set_option linter.unusedSimpArgs false
set_option linter.unusedVariables false
set_option linter.unusedSectionVars false
namespace Go.Proofs.Yticpmfhdnaocoaa.gameSolvesW
open Go Go.Ab
/-- The answer is yes just if P. -/
def Tells (o : Option Bool) (P : Prop) : Prop := ∃ b, o = some b ∧ (b = true ↔ P)
theorem Tells.of {b : Bool} {P : Prop} (h : b = true ↔ P) : Tells (some b) P := ⟨b, rfl, h⟩
theorem Tells.dec {P Q : Prop} [Decidable P] (h : P ↔ Q) : Tells (some (decide P)) Q := ⟨_, rfl, by simpa using h⟩
theorem Tells.iff {o : Option Bool} {P Q : Prop} (h : Tells o P) (k : P ↔ Q) : Tells o Q := let ⟨b, h1, h2⟩ := h; ⟨b, h1, h2.trans k⟩
theorem Tells.eq {o : Option Bool} {P : Prop} [Decidable P] (h : Tells o P) : o = some (decide P) := by
  obtain ⟨b, rfl, hb⟩ := h
  by_cases hp : P
  · simp [hp, hb.2 hp]
  · have : b = false := by cases b; rfl; exact absurd (hb.1 rfl) hp
    simp [hp, this]
theorem Tells.to {R : Type} {o : Option Bool} {P : Prop} {k1 k2 x : Option R} (h : Tells o P) (h1 : P → k1 = x) (h2 : ¬ P → k2 = x) : (o.bind fun y => if y = true then k1 else k2) = x := by
  obtain ⟨b, rfl, hb⟩ := h
  refine bind_to rfl ?_
  cases b
  · exact h2 fun hp => by simpa using hb.2 hp
  · exact h1 (hb.1 rfl)
theorem Tells.bind {R : Type} {o : Option Bool} {P : Prop} {k : Bool → Option R} {x : Option R} (h : Tells o P) (h1 : ∀ b, (b = true ↔ P) → k b = x) : o.bind k = x := by
  obtain ⟨b, rfl, hb⟩ := h
  exact h1 b hb
section
variable {α C : Type} [Inhabited α]
theorem ex_ix {l : List α} {P : α → Prop} : (∃ x ∈ l, P x) ↔ ∃ i : Int, 0 ≤ i ∧ i < l.length ∧ P (ix l i) := by
  constructor
  · rintro ⟨x, hx, hp⟩
    obtain ⟨i, hi, rfl⟩ := List.mem_iff_getElem.1 hx
    refine ⟨i, by omega, by omega, ?_⟩
    rwa [ix_eq (by omega) (by omega)]
  · rintro ⟨i, h0, h1, hp⟩
    exact ⟨_, ix_mem h0 h1, hp⟩
theorem index_loop {s : List α} {f : α → Option Bool} {L : Int → Option Int} {P : α → Prop} (hs : s.length ≤ 4611686018427387904)
    (hL : ∀ t, L t = if decide (t < (s.length : Int)) = true then G (0 ≤ t ∧ t < (s.length : Int)) ((f (ix s t)).bind fun y => if y = true then some t else G (fits (t + 1)) (L (t + 1))) else some (-1))
    (hf : ∀ x ∈ s, Tells (f x) (P x)) : ∀ (n : Nat) (t : Int), 0 ≤ t → t ≤ s.length → (s.length - t).toNat = n →
      ∃ i, L t = some i ∧ ((i = -1 ∧ ∀ j : Int, t ≤ j → j < s.length → ¬ P (ix s j)) ∨ (t ≤ i ∧ i < s.length ∧ P (ix s i) ∧ ∀ j : Int, t ≤ j → j < i → ¬ P (ix s j))) := by
  intro n
  induction n with
  | zero =>
    intro t h0 h1 hn
    refine ⟨-1, ?_, .inl ⟨rfl, fun j a b => by omega⟩⟩
    rw [hL, if_neg (by simp; omega)]
  | succ n ih =>
    intro t h0 h1 hn
    rw [hL, if_pos (by simp; omega), G_pos (by omega)]
    obtain ⟨b, hb, hbp⟩ := hf _ (ix_mem h0 (by omega : t < s.length))
    rw [hb]
    cases b with
    | true => exact ⟨t, rfl, .inr ⟨by omega, by omega, hbp.1 rfl, fun j a b => by omega⟩⟩
    | false =>
      have hnp : ¬ P (ix s t) := fun hp => by simpa using hbp.2 hp
      obtain ⟨i, hi, hc⟩ := ih (t + 1) (by omega) (by omega) (by omega)
      refine ⟨i, ?_, ?_⟩
      · refine (if_neg (by simp) : (if false = true then some t else G (fits (t + 1)) (L (t + 1))) = _).trans ?_
        rw [G_pos (by unfold fits; omega), hi]
      · rcases hc with ⟨h2, h3⟩ | ⟨h2, h3, h4, h5⟩
        · refine .inl ⟨h2, fun j a b => ?_⟩
          by_cases e : j = t
          · rw [e]; exact hnp
          · exact h3 j (by omega) b
        · refine .inr ⟨by omega, h3, h4, fun j a b => ?_⟩
          by_cases e : j = t
          · rw [e]; exact hnp
          · exact h5 j (by omega) b
theorem contains_tells {s : List α} {f : α → Option Bool} {L : Int → Option Int} {P : α → Prop}
    (hL : ∀ t, L t = if decide (t < (s.length : Int)) = true then G (0 ≤ t ∧ t < (s.length : Int)) ((f (ix s t)).bind fun y => if y = true then some t else G (fits (t + 1)) (L (t + 1))) else some (-1))
    (hs : s.length ≤ 4611686018427387904) (hf : ∀ x ∈ s, Tells (f x) (P x)) : Tells ((L 0).bind fun y => some (decide ((0 : Int) ≤ y))) (∃ x ∈ s, P x) := by
  obtain ⟨i, hi, hc⟩ := index_loop hs hL hf _ 0 (by omega) (by omega) rfl
  rw [hi]
  refine ⟨decide (0 ≤ i), rfl, ?_⟩
  rw [decide_eq_true_iff, ex_ix]
  rcases hc with ⟨h2, h3⟩ | ⟨h2, h3, h4, h5⟩
  · constructor
    · intro h; omega
    · rintro ⟨j, h0, h1, hp⟩; exact absurd hp (h3 j h0 h1)
  · exact ⟨fun _ => ⟨i, by omega, h3, h4⟩, fun _ => by omega⟩
/-- .. of what carries along what it reads. -/
theorem contains_tells2 {s : List α} {c : C} {f : α → C → Option (Bool × C)} {L : Int → C → Option (Int × C)} {P : α → Prop}
    (hL : ∀ t c, L t c = if decide (t < (s.length : Int)) = true then G (0 ≤ t ∧ t < (s.length : Int)) ((f (ix s t) c).bind fun y => if y.1 = true then some (t, y.2) else G (fits (t + 1)) (L (t + 1) y.2)) else some (-1, c))
    (hs : s.length ≤ 4611686018427387904) (hf : ∀ x ∈ s, ∃ b, f x c = some (b, c) ∧ (b = true ↔ P x)) : ∃ b, ((L 0 c).bind fun y => some (decide ((0 : Int) ≤ y.1), y.2)) = some (b, c) ∧ (b = true ↔ ∃ x ∈ s, P x) := by
  have key : ∀ (n : Nat) (t : Int), 0 ≤ t → t ≤ s.length → (s.length - t).toNat = n →
      ∃ i, L t c = some (i, c) ∧ ((i = -1 ∧ ∀ j : Int, t ≤ j → j < s.length → ¬ P (ix s j)) ∨ (t ≤ i ∧ i < s.length ∧ P (ix s i))) := by
    intro n
    induction n with
    | zero =>
      intro t h0 h1 hn
      refine ⟨-1, ?_, .inl ⟨rfl, fun j a b => by omega⟩⟩
      rw [hL, if_neg (by simp; omega)]
    | succ n ih =>
      intro t h0 h1 hn
      rw [hL, if_pos (by simp; omega), G_pos (by omega)]
      obtain ⟨b, hb, hbp⟩ := hf _ (ix_mem h0 (by omega : t < s.length))
      rw [hb]
      cases b with
      | true => exact ⟨t, rfl, .inr ⟨by omega, by omega, hbp.1 rfl⟩⟩
      | false =>
        have hnp : ¬ P (ix s t) := fun hp => by simpa using hbp.2 hp
        obtain ⟨i, hi, hc⟩ := ih (t + 1) (by omega) (by omega) (by omega)
        refine ⟨i, ?_, ?_⟩
        · refine (if_neg (by simp) : (if false = true then some (t, c) else G (fits (t + 1)) (L (t + 1) c)) = _).trans ?_
          rw [G_pos (by unfold fits; omega), hi]
        · rcases hc with ⟨h2, h3⟩ | ⟨h2, h3, h4⟩
          · refine .inl ⟨h2, fun j a b => ?_⟩
            by_cases e : j = t
            · rw [e]; exact hnp
            · exact h3 j (by omega) b
          · exact .inr ⟨by omega, h3, h4⟩
  obtain ⟨i, hi, hc⟩ := key _ 0 (by omega) (by omega) rfl
  rw [hi]
  refine ⟨decide (0 ≤ i), rfl, ?_⟩
  rw [decide_eq_true_iff, ex_ix]
  rcases hc with ⟨h2, h3⟩ | ⟨h2, h3, h4⟩
  · constructor
    · intro h; omega
    · rintro ⟨j, h0, h1, hp⟩; exact absurd hp (h3 j h0 h1)
  · exact ⟨fun _ => ⟨i, by omega, h3, h4⟩, fun _ => by omega⟩
end
/-- A loop that looks for the first fault. -/
theorem scan_to {R : Type} {len : Int} {L : Int → Option R} {bad : Int → Prop} {x : Option R} {lo : Int} (h0 : lo ≤ len)
    (hs : ∀ t, lo ≤ t → t < len → (bad t → L t = x) ∧ (¬ bad t → L t = L (t + 1))) (hf : (∀ t, lo ≤ t → t < len → ¬ bad t) → L len = x) : L lo = x := by
  have key : ∀ (n : Nat) (t : Int), lo ≤ t → t ≤ len → (len - t).toNat = n → (∀ j, lo ≤ j → j < t → ¬ bad j) → L t = x := by
    intro n
    induction n with
    | zero =>
      intro t h1 h2 hn h
      obtain rfl : t = len := by omega
      exact hf h
    | succ n ih =>
      intro t h1 h2 hn h
      by_cases hb : bad t
      · exact (hs t h1 (by omega)).1 hb
      · rw [(hs t h1 (by omega)).2 hb]
        refine ih (t + 1) (by omega) (by omega) (by omega) fun j a b => ?_
        by_cases e : j = t
        · rw [e]; exact hb
        · exact h j a (by omega)
  exact key _ lo (Int.le_refl _) h0 rfl (fun j a b => by omega)
/-- A loop that counts, with a state. -/
theorem fold_to {R S : Type} {len : Int} {L : Int → S → Option R} {f : Int → S → S} {lo : Int} {I : Int → S → Prop} {s : S} (h0 : lo ≤ len) (hI : I lo s)
    (hs : ∀ t s, lo ≤ t → t < len → I t s → L t s = L (t + 1) (f t s) ∧ I (t + 1) (f t s)) : ∃ s', I len s' ∧ L lo s = L len s' := by
  have key : ∀ (n : Nat) (t : Int) (s : S), lo ≤ t → t ≤ len → (len - t).toNat = n → I t s → ∃ s', I len s' ∧ L t s = L len s' := by
    intro n
    induction n with
    | zero =>
      intro t s h1 h2 hn h
      obtain rfl : t = len := by omega
      exact ⟨s, h, rfl⟩
    | succ n ih =>
      intro t s h1 h2 hn h
      obtain ⟨e, h3⟩ := hs t s h1 (by omega) h
      obtain ⟨s', h4, h5⟩ := ih (t + 1) _ (by omega) (by omega) (by omega) h3
      exact ⟨s', h4, e.trans h5⟩
  exact key _ lo s (Int.le_refl _) h0 rfl hI

theorem r1_Words_L4_spec {a b : List Int} (hl : a.length = b.length) : ∀ (n : Nat) (i : Int), 0 ≤ i → i ≤ a.length → (a.length - i).toNat = n → a.length ≤ 2305843009213693951 → (∀ j : Int, 0 ≤ j → j < i → ix a j = ix b j) → r1_Words_L4 a b i = some (decide (a = b)) := by
  intro n
  induction n with
  | zero =>
    intro i h0 h1 hn hs h
    rw [r1_Words_L4_eq]; unfold r1_Words_L4_B
    (try dsimp only); (repeat' first | (with_reducible refine G_to ?_ ?_; focus (first | omega | (unfold fits; omega) | (unfold room; (try simp only [List.length_append, List.length_cons, List.length_nil]); omega))) | (with_reducible refine both_to ?_ ?_) | (with_reducible refine itet_to ?_) | (with_reducible refine itef_to ?_) | (with_reducible refine ite_to (fun _ => ?_) (fun _ => ?_))) <;> try (exfalso; omega)
    · rw [Option.some_inj, eq_comm, decide_eq_true_iff]; exact ix_ext hl (fun j a b => h j a (by omega))
  | succ n ih =>
    intro i h0 h1 hn hs h
    rw [r1_Words_L4_eq]; unfold r1_Words_L4_B
    (try dsimp only); (repeat' first | (with_reducible refine G_to ?_ ?_; focus (first | omega | (unfold fits; omega) | (unfold room; (try simp only [List.length_append, List.length_cons, List.length_nil]); omega))) | (with_reducible refine both_to ?_ ?_) | (with_reducible refine itet_to ?_) | (with_reducible refine itef_to ?_) | (with_reducible refine ite_to (fun _ => ?_) (fun _ => ?_))) <;> try (exfalso; omega)
    · rw [Option.some_inj, eq_comm, decide_eq_false_iff_not]; rintro rfl; contradiction
    · rename_i hx; exact ih _ (by omega) (by omega) (by omega) hs (below_succ h (Decidable.not_not.1 hx))
theorem r1_Words_spec {a b : List Int} (hs : a.length ≤ 2305843009213693951) : r1_Words a b = some (decide (a = b)) := by
  unfold r1_Words
  (try dsimp only); (repeat' first | (with_reducible refine G_to ?_ ?_; focus (first | omega | (unfold fits; omega) | (unfold room; (try simp only [List.length_append, List.length_cons, List.length_nil]); omega))) | (with_reducible refine both_to ?_ ?_) | (with_reducible refine itet_to ?_) | (with_reducible refine itef_to ?_) | (with_reducible refine ite_to (fun _ => ?_) (fun _ => ?_))) <;> try (exfalso; omega)
  · rw [Option.some_inj, eq_comm, decide_eq_false_iff_not]; rintro rfl; contradiction
  · exact r1_Words_L4_spec (by omega) _ 0 (by omega) (by omega) rfl hs (fun j a b => by omega)

theorem pigeon {α : Type} [DecidableEq α] : ∀ {l U : List α}, l.Nodup → (∀ x ∈ l, x ∈ U) → l.length ≤ U.length
  | [], _, _, _ => Nat.zero_le _
  | a :: l, U, hn, hs => by
    have ha := hs a (by simp)
    obtain ⟨h1, h2⟩ := List.nodup_cons.1 hn
    have := pigeon (U := U.erase a) h2 (fun x hx => (List.mem_erase_of_ne (by rintro rfl; exact h1 hx)).2 (hs x (by simp [hx])))
    rw [List.length_erase_of_mem ha] at this
    have hp : 0 < U.length := List.length_pos_of_mem ha
    rw [List.length_cons]; omega
theorem pigeon_int {l : List Int} {n : Nat} (h : l.Nodup) (hb : ∀ x ∈ l, 0 ≤ x ∧ x < n) : l.length ≤ n := by
  have := pigeon (U := (List.range n).map Int.ofNat) h (fun x hx => by
    have := hb x hx
    exact List.mem_map.2 ⟨x.toNat, List.mem_range.2 (by omega), by show ((x.toNat : Nat) : Int) = x; omega⟩)
  simpa using this

theorem slices_Clone_spec {s : List Int} (hs : s.length * 8 ≤ 140737488355328) : slices_Clone s = some s := by
  have hr : G (room ([] : List Int) s 8) (some (([] : List Int) ++ s)) = some s := by
    rw [G_pos (room_of (by simpa using hs))]; rfl
  unfold slices_Clone
  refine itep_to (fun h => ?_) (fun h => hr)
  obtain rfl : s = [] := List.length_eq_zero_iff.1 h
  rw [hr]; exact both_self (ts := [(.list (.int .i64))]) (some ([] : List Int))

theorem list_spec {w : List Int} (hs : w.length * 8 ≤ 140737488351232) : law_list w = some w := by
  unfold law_list
  refine G_to (by unfold fits; omega) ?_
  refine G_to (by unfold mkOK; omega) ?_
  simp
theorem lists_spec {l : List (List Int)} (h1 : l.length * 24 ≤ 140737488351232) (h2 : ∀ w ∈ l, w.length * 8 ≤ 140737488351232) : law_lists l = some l := by
  have key : ∀ (f i : Nat), l.length - i = f → i ≤ l.length → law_lists_L3 l i (l.take i) = some l := by
    intro f
    induction f with
    | zero =>
      intro i hf hi
      obtain rfl : i = l.length := by omega
      rw [law_lists_L3_eq]; unfold law_lists_L3_B
      rw [if_neg (by simp), List.take_length]
    | succ f ih =>
      intro i hf hi
      have et := ix_take (l := l) (i := (i : Int)) (by omega) (by omega)
      rw [Int.toNat_natCast, show ((i : Int) + 1).toNat = i + 1 from by omega] at et
      rw [law_lists_L3_eq]; unfold law_lists_L3_B
      rw [if_pos (by simp; omega), G_pos (by omega)]
      refine bind_to (list_spec (h2 _ (ix_mem (by omega) (by omega)))) (G_to (by unfold room; simp; omega) (G_to (by unfold fits; omega) ?_))
      have := ih (i + 1) (by omega) (by omega)
      rw [et] at this
      exact this
  unfold law_lists
  exact key _ 0 rfl (by omega)
theorem sameLists_refl {l : List (List Int)} (h1 : l.length * 24 ≤ 140737488351232) (h2 : ∀ w ∈ l, w.length * 8 ≤ 140737488351232) : law_sameLists l l = some true := by
  have key : ∀ (f i : Nat), l.length - i = f → i ≤ l.length → law_sameLists_L4 l l i = some true := by
    intro f
    induction f with
    | zero =>
      intro i hf hi
      rw [law_sameLists_L4_eq]; unfold law_sameLists_L4_B
      rw [if_neg (by simp; omega)]
    | succ f ih =>
      intro i hf hi
      have := h2 _ (ix_mem (l := l) (i := (i : Int)) (by omega) (by omega))
      rw [law_sameLists_L4_eq]; unfold law_sameLists_L4_B
      rw [if_pos (by simp; omega), G_pos (by omega), G_pos (by omega)]
      refine bind_to (r1_Words_spec (by omega)) ?_
      rw [if_neg (by simp)]
      exact G_to (by unfold fits; omega) (ih (i + 1) (by omega) (by omega))
  unfold law_sameLists
  rw [if_neg (by simp)]
  exact key _ 0 rfl (by omega)

abbrev GM := List Int × List Int × List (List Int) × Unit
open Classical in
noncomputable def plE (n : Int) (l : List Int) : Int := if l.length = 0 then 6 else if ∃ k : Int, 0 ≤ k ∧ k < l.length ∧ (ix l k < 0 ∨ n ≤ ix l k) then 2 else if ∃ k : Int, 1 ≤ k ∧ k < l.length ∧ ix l k ≤ ix l (k - 1) then 3 else 0
noncomputable def nxE (n : Int) : List (List Int) → Int
  | [] => 0
  | l :: r => if plE n l = 0 then nxE n r else plE n l
def GBad (g : GM) : Prop := ∃ i : Int, 0 ≤ i ∧ i < g.1.length ∧ ((ix g.1 i < 0 ∨ 1 < ix g.1 i) ∨ (ix g.2.1 i < 0 ∨ 9 < ix g.2.1 i))
open Classical in
noncomputable def gmE (g : GM) : Int := if (g.1.length : Int) < 1 ∨ 60 < (g.1.length : Int) then 1 else if ¬ (g.2.1.length : Int) = g.1.length ∨ ¬ (g.2.2.1.length : Int) = g.1.length then 3 else if GBad g then 2 else nxE g.1.length g.2.2.1
section
variable {g : GM}
theorem drop_at {α : Type} [Inhabited α] {l : List α} {i : Nat} (h : i < l.length) : l.drop i = ix l (i : Int) :: l.drop (i + 1) := by
  rw [List.drop_eq_getElem_cons h, ix_eq (by omega) (by omega)]; rfl
/-- One place's ways on, as either check reads them. -/
theorem place_to' {l : List Int} {n : Int} {a : Option Int} {A : Int → Option Int} {B : Int → Option Int} (_ : l.length ≤ 2305843009213693951)
    (hA : ∀ k : Int, 0 ≤ k → k < l.length → ((ix l k < 0 ∨ n ≤ ix l k) → A k = some 2) ∧ (¬ (ix l k < 0 ∨ n ≤ ix l k) → A k = A (k + 1))) (hA' : A l.length = B 1)
    (hB : ∀ k : Int, 1 ≤ k → k < l.length → ((ix l k ≤ ix l (k - 1)) → B k = some 3) ∧ (¬ (ix l k ≤ ix l (k - 1)) → B k = B (k + 1))) (hB' : B l.length = a) (h0 : ¬ l.length = 0) :
    A 0 = if plE n l = 0 then a else some (plE n l) := by
  unfold plE
  rw [if_neg h0]
  by_cases c1 : ∃ k : Int, 0 ≤ k ∧ k < l.length ∧ (ix l k < 0 ∨ n ≤ ix l k)
  · rw [if_pos c1, if_neg (by decide)]
    refine scan_to (len := l.length) (bad := fun k => ix l k < 0 ∨ n ≤ ix l k) (by omega) hA (fun h => ?_)
    obtain ⟨k, k0, k1, k2⟩ := c1
    exact absurd k2 (h k k0 k1)
  · rw [if_neg c1]
    have e : A 0 = B 1 := scan_to (len := l.length) (bad := fun k => ix l k < 0 ∨ n ≤ ix l k) (by omega) (fun k k0 k1 => ⟨fun h => absurd ⟨k, k0, k1, h⟩ c1, (hA k k0 k1).2⟩) (fun _ => hA')
    rw [e]
    by_cases c2 : ∃ k : Int, 1 ≤ k ∧ k < l.length ∧ ix l k ≤ ix l (k - 1)
    · rw [if_pos c2, if_neg (by decide)]
      refine scan_to (len := l.length) (bad := fun k => ix l k ≤ ix l (k - 1)) (by omega) hB (fun h => ?_)
      obtain ⟨k, k0, k1, k2⟩ := c2
      exact absurd k2 (h k k0 k1)
    · rw [if_neg c2, if_pos rfl]
      exact scan_to (len := l.length) (bad := fun k => ix l k ≤ ix l (k - 1)) (by omega) (fun k k0 k1 => ⟨fun h => absurd ⟨k, k0, k1, h⟩ c2, (hB k k0 k1).2⟩) (fun _ => hB')
theorem game_L13 (hN : (g.2.2.1.length : Int) = g.1.length) (hn : g.1.length ≤ 60) (hs : ∀ l ∈ g.2.2.1, l.length ≤ 2305843009213693951) : ∀ (m i : Nat), i + m = g.2.2.1.length → game_Check_L13 g i = some (nxE g.1.length (g.2.2.1.drop i)) := by
  intro m
  induction m with
  | zero =>
    intro i hi
    rw [game_Check_L13_eq]; unfold game_Check_L13_B
    rw [if_neg (by simp only [decide_eq_true_eq]; omega), List.drop_eq_nil_of_le (by omega)]; rfl
  | succ m ih =>
    intro i hi
    have ih' := ih (i + 1) (by omega)
    have hsl := hs _ (ix_mem (l := g.2.2.1) (by omega : (0 : Int) ≤ (i : Int)) (by omega))
    rw [drop_at (by omega)]
    unfold nxE
    rw [game_Check_L13_eq]; unfold game_Check_L13_B
    rw [if_pos (decide_eq_true (by omega)), G_pos (by omega)]
    by_cases c : (ix g.2.2.1 (i : Int)).length = 0
    · rw [if_pos (decide_eq_true (by omega))]
      have : plE g.1.length (ix g.2.2.1 (i : Int)) = 6 := by unfold plE; rw [if_pos c]
      rw [this, if_neg (by decide)]
    · rw [if_neg (by simp only [decide_eq_true_eq]; omega)]
      have e : ∀ h : (ix g.2.2.1 (i : Int)).length ≤ 2305843009213693951, game_Check_L18 g i (game_Check_L13 g) 0 = if plE g.1.length (ix g.2.2.1 (i : Int)) = 0 then some (nxE g.1.length (g.2.2.1.drop (i + 1))) else some (plE g.1.length (ix g.2.2.1 (i : Int))) := by
        intro h
        refine place_to' (l := ix g.2.2.1 (i : Int)) (A := fun k => game_Check_L18 g i (game_Check_L13 g) k) (B := fun k => game_Check_L24 g i (game_Check_L13 g) k) h (fun k k0 k1 => ?_) ?_ (fun k k0 k1 => ?_) ?_ c
        · constructor
          · intro hb
            rw [game_Check_L18_eq]; unfold game_Check_L18_B
            rw [if_pos (decide_eq_true k1), G_pos (by omega)]
            by_cases c1 : ix (ix g.2.2.1 (i : Int)) k < 0
            · rw [if_pos (decide_eq_true c1)]
            · rw [if_neg (by simpa using c1), if_pos (decide_eq_true (by omega))]
          · intro hb
            conv => lhs; rw [game_Check_L18_eq]; unfold game_Check_L18_B
            rw [if_pos (decide_eq_true k1), G_pos (by omega), if_neg (by simp only [decide_eq_true_eq]; omega), if_neg (by simp only [decide_eq_true_eq]; omega), G_pos (by unfold fits; omega)]
        · rw [game_Check_L18_eq]; unfold game_Check_L18_B
          rw [if_neg (by simp)]
        · constructor
          · intro hb
            rw [game_Check_L24_eq]; unfold game_Check_L24_B
            rw [if_pos (decide_eq_true k1), G_pos (by unfold fits; omega), G_pos (by omega), G_pos (by omega), if_pos (decide_eq_true hb)]
          · intro hb
            conv => lhs; rw [game_Check_L24_eq]; unfold game_Check_L24_B
            rw [if_pos (decide_eq_true k1), G_pos (by unfold fits; omega), G_pos (by omega), G_pos (by omega), if_neg (by simpa using hb), G_pos (by unfold fits; omega)]
        · rw [game_Check_L24_eq]; unfold game_Check_L24_B
          rw [if_neg (by simp), G_pos (by unfold fits; omega)]
          exact ih'
      rw [e hsl]
      split <;> rfl
theorem r10_L12 (hN : (g.2.2.1.length : Int) = g.1.length) (hn : g.1.length ≤ 60) (hs : ∀ l ∈ g.2.2.1, l.length ≤ 2305843009213693951) : ∀ (m i : Nat), i + m = g.2.2.1.length → r10_Check_L12 g i = some (nxE g.1.length (g.2.2.1.drop i)) := by
  intro m
  induction m with
  | zero =>
    intro i hi
    rw [r10_Check_L12_eq]; unfold r10_Check_L12_B
    rw [if_neg (by simp only [decide_eq_true_eq]; omega), List.drop_eq_nil_of_le (by omega)]; rfl
  | succ m ih =>
    intro i hi
    have ih' := ih (i + 1) (by omega)
    have hsl := hs _ (ix_mem (l := g.2.2.1) (by omega : (0 : Int) ≤ (i : Int)) (by omega))
    rw [drop_at (by omega)]
    unfold nxE
    rw [r10_Check_L12_eq]; unfold r10_Check_L12_B
    rw [if_pos (decide_eq_true (by omega)), G_pos (by omega)]
    by_cases c : (ix g.2.2.1 (i : Int)).length = 0
    · rw [if_pos (decide_eq_true (by omega))]
      have : plE g.1.length (ix g.2.2.1 (i : Int)) = 6 := by unfold plE; rw [if_pos c]
      rw [this, if_neg (by decide)]
    · rw [if_neg (by simp only [decide_eq_true_eq]; omega)]
      have e : ∀ h : (ix g.2.2.1 (i : Int)).length ≤ 2305843009213693951, r10_Check_L18 g i (r10_Check_L12 g) 0 = if plE g.1.length (ix g.2.2.1 (i : Int)) = 0 then some (nxE g.1.length (g.2.2.1.drop (i + 1))) else some (plE g.1.length (ix g.2.2.1 (i : Int))) := by
        intro h
        refine place_to' (l := ix g.2.2.1 (i : Int)) (A := fun k => r10_Check_L18 g i (r10_Check_L12 g) k) (B := fun k => r10_Check_L23 g i (r10_Check_L12 g) k) h (fun k k0 k1 => ?_) ?_ (fun k k0 k1 => ?_) ?_ c
        · constructor
          · intro hb
            rw [r10_Check_L18_eq]; unfold r10_Check_L18_B
            rw [if_pos (decide_eq_true k1), G_pos (by omega)]
            by_cases c1 : ix (ix g.2.2.1 (i : Int)) k < 0
            · rw [if_pos (decide_eq_true c1)]
            · rw [if_neg (by simpa using c1), G_pos (by omega), if_pos (decide_eq_true (by omega))]
          · intro hb
            conv => lhs; rw [r10_Check_L18_eq]; unfold r10_Check_L18_B
            rw [if_pos (decide_eq_true k1), G_pos (by omega), if_neg (by simp only [decide_eq_true_eq]; omega), G_pos (by omega), if_neg (by simp only [decide_eq_true_eq]; omega), G_pos (by unfold fits; omega)]
        · rw [r10_Check_L18_eq]; unfold r10_Check_L18_B
          rw [if_neg (by simp)]
        · constructor
          · intro hb
            rw [r10_Check_L23_eq]; unfold r10_Check_L23_B
            rw [if_pos (decide_eq_true k1), G_pos (by unfold fits; omega), G_pos (by omega), G_pos (by omega), if_pos (decide_eq_true hb)]
          · intro hb
            conv => lhs; rw [r10_Check_L23_eq]; unfold r10_Check_L23_B
            rw [if_pos (decide_eq_true k1), G_pos (by unfold fits; omega), G_pos (by omega), G_pos (by omega), if_neg (by simpa using hb), G_pos (by unfold fits; omega)]
        · rw [r10_Check_L23_eq]; unfold r10_Check_L23_B
          rw [if_neg (by simp), G_pos (by unfold fits; omega)]
          exact ih'
      rw [e hsl]
      split <;> rfl
theorem game_Check_spec (hs : ∀ l ∈ g.2.2.1, l.length ≤ 2305843009213693951) : game_Check g = some (gmE g) := by
  unfold game_Check gmE
  by_cases c1 : (g.1.length : Int) < 1
  · rw [if_pos (decide_eq_true c1), if_pos (.inl c1)]
  rw [if_neg (by simpa using c1)]
  by_cases c2 : 60 < (g.1.length : Int)
  · rw [if_pos (decide_eq_true c2), if_pos (.inr c2)]
  rw [if_neg (by simpa using c2), if_neg (show ¬ ((g.1.length : Int) < 1 ∨ 60 < (g.1.length : Int)) by omega)]
  by_cases c3 : (g.2.1.length : Int) = g.1.length
  case neg => rw [if_pos (decide_eq_true c3), if_pos (.inl c3)]
  rw [if_neg (by simpa using c3)]
  by_cases c4 : (g.2.2.1.length : Int) = g.1.length
  case neg => rw [if_pos (decide_eq_true c4), if_pos (.inr c4)]
  rw [if_neg (by simpa using c4), if_neg (show ¬ (¬ (g.2.1.length : Int) = g.1.length ∨ ¬ (g.2.2.1.length : Int) = g.1.length) by omega)]
  have step : ∀ t : Int, 0 ≤ t → t < g.1.length → (((ix g.1 t < 0 ∨ 1 < ix g.1 t) ∨ (ix g.2.1 t < 0 ∨ 9 < ix g.2.1 t)) → game_Check_L7 g t = some 2) ∧ (¬ ((ix g.1 t < 0 ∨ 1 < ix g.1 t) ∨ (ix g.2.1 t < 0 ∨ 9 < ix g.2.1 t)) → game_Check_L7 g t = game_Check_L7 g (t + 1)) := by
    intro t t0 t1
    constructor
    · intro hb
      rw [game_Check_L7_eq]; unfold game_Check_L7_B
      (try dsimp only); (repeat' first | (with_reducible refine G_to ?_ ?_; focus (first | omega | (unfold fits; omega) | (unfold room; (try simp only [List.length_append, List.length_cons, List.length_nil]); omega))) | (with_reducible refine both_to ?_ ?_) | (with_reducible refine itet_to ?_) | (with_reducible refine itef_to ?_) | (with_reducible refine ite_to (fun _ => ?_) (fun _ => ?_))) <;> try (exfalso; omega)
      all_goals rfl
    · intro hb
      conv => lhs; rw [game_Check_L7_eq]; unfold game_Check_L7_B
      rw [if_pos (decide_eq_true t1), G_pos (by omega), if_neg (by simp only [decide_eq_true_eq]; omega), G_pos (by omega), if_neg (by simp only [decide_eq_true_eq]; omega), G_pos (by omega), if_neg (by simp only [decide_eq_true_eq]; omega), G_pos (by omega), if_neg (by simp only [decide_eq_true_eq]; omega), G_pos (by unfold fits; omega)]
  by_cases c5 : GBad g
  · rw [if_pos c5]
    refine scan_to (len := g.1.length) (bad := fun t => (ix g.1 t < 0 ∨ 1 < ix g.1 t) ∨ (ix g.2.1 t < 0 ∨ 9 < ix g.2.1 t)) (by omega) step (fun h => ?_)
    obtain ⟨k, k0, k1, k2⟩ := c5
    exact absurd k2 (h k k0 k1)
  · rw [if_neg c5]
    refine scan_to (len := g.1.length) (bad := fun t => (ix g.1 t < 0 ∨ 1 < ix g.1 t) ∨ (ix g.2.1 t < 0 ∨ 9 < ix g.2.1 t)) (by omega) (fun t t0 t1 => ⟨fun h => absurd ⟨t, t0, t1, h⟩ c5, (step t t0 t1).2⟩) (fun _ => ?_)
    rw [game_Check_L7_eq]; unfold game_Check_L7_B
    rw [if_neg (by simp)]
    exact game_L13 c4 (by omega) hs g.2.2.1.length 0 (by omega)
theorem r10_Check_spec (hs : ∀ l ∈ g.2.2.1, l.length ≤ 2305843009213693951) : r10_Check g = some (gmE g) := by
  unfold r10_Check gmE
  by_cases c1 : (g.1.length : Int) < 1
  · rw [if_pos (decide_eq_true c1), if_pos (.inl c1)]
  rw [if_neg (by simpa using c1)]
  by_cases c2 : 60 < (g.1.length : Int)
  · rw [if_pos (decide_eq_true c2), if_pos (.inr c2)]
  rw [if_neg (by simpa using c2), if_neg (show ¬ ((g.1.length : Int) < 1 ∨ 60 < (g.1.length : Int)) by omega)]
  by_cases c3 : (g.2.1.length : Int) = g.1.length
  case neg => rw [if_pos (decide_eq_true c3), if_pos (.inl c3)]
  rw [if_neg (by simpa using c3)]
  by_cases c4 : (g.2.2.1.length : Int) = g.1.length
  case neg => rw [if_pos (decide_eq_true c4), if_pos (.inr c4)]
  rw [if_neg (by simpa using c4), if_neg (show ¬ (¬ (g.2.1.length : Int) = g.1.length ∨ ¬ (g.2.2.1.length : Int) = g.1.length) by omega)]
  have step : ∀ t : Int, 0 ≤ t → t < g.1.length → (((ix g.1 t < 0 ∨ 1 < ix g.1 t) ∨ (ix g.2.1 t < 0 ∨ 9 < ix g.2.1 t)) → r10_Check_L7 g t = some 2) ∧ (¬ ((ix g.1 t < 0 ∨ 1 < ix g.1 t) ∨ (ix g.2.1 t < 0 ∨ 9 < ix g.2.1 t)) → r10_Check_L7 g t = r10_Check_L7 g (t + 1)) := by
    intro t t0 t1
    constructor
    · intro hb
      rw [r10_Check_L7_eq]; unfold r10_Check_L7_B
      (try dsimp only); (repeat' first | (with_reducible refine G_to ?_ ?_; focus (first | omega | (unfold fits; omega) | (unfold room; (try simp only [List.length_append, List.length_cons, List.length_nil]); omega))) | (with_reducible refine both_to ?_ ?_) | (with_reducible refine itet_to ?_) | (with_reducible refine itef_to ?_) | (with_reducible refine ite_to (fun _ => ?_) (fun _ => ?_))) <;> try (exfalso; omega)
      all_goals rfl
    · intro hb
      conv => lhs; rw [r10_Check_L7_eq]; unfold r10_Check_L7_B
      (try dsimp only); (repeat' first | (with_reducible refine G_to ?_ ?_; focus (first | omega | (unfold fits; omega) | (unfold room; (try simp only [List.length_append, List.length_cons, List.length_nil]); omega))) | (with_reducible refine both_to ?_ ?_) | (with_reducible refine itet_to ?_) | (with_reducible refine itef_to ?_) | (with_reducible refine ite_to (fun _ => ?_) (fun _ => ?_))) <;> try (exfalso; omega)
      all_goals rfl
  by_cases c5 : GBad g
  · rw [if_pos c5]
    refine scan_to (len := g.1.length) (bad := fun t => (ix g.1 t < 0 ∨ 1 < ix g.1 t) ∨ (ix g.2.1 t < 0 ∨ 9 < ix g.2.1 t)) (by omega) step (fun h => ?_)
    obtain ⟨k, k0, k1, k2⟩ := c5
    exact absurd k2 (h k k0 k1)
  · rw [if_neg c5]
    refine scan_to (len := g.1.length) (bad := fun t => (ix g.1 t < 0 ∨ 1 < ix g.1 t) ∨ (ix g.2.1 t < 0 ∨ 9 < ix g.2.1 t)) (by omega) (fun t t0 t1 => ⟨fun h => absurd ⟨t, t0, t1, h⟩ c5, (step t t0 t1).2⟩) (fun _ => ?_)
    rw [r10_Check_L7_eq]; unfold r10_Check_L7_B
    rw [if_neg (by simp)]
    exact r10_L12 c4 (by omega) hs g.2.2.1.length 0 (by omega)
/-- What a game that may be is. -/
structure GOk (g : GM) : Prop where
  n : 1 ≤ g.1.length ∧ g.1.length ≤ 60
  lm : g.2.1.length = g.1.length
  ln : g.2.2.1.length = g.1.length
  own : ∀ p : Int, 0 ≤ p → p < g.1.length → ix g.1 p = 0 ∨ ix g.1 p = 1
  mrk : ∀ p : Int, 0 ≤ p → p < g.1.length → 0 ≤ ix g.2.1 p ∧ ix g.2.1 p ≤ 9
  ne : ∀ p : Int, 0 ≤ p → p < g.1.length → 0 < (ix g.2.2.1 p).length
  rng : ∀ p : Int, 0 ≤ p → p < g.1.length → ∀ q ∈ ix g.2.2.1 p, 0 ≤ q ∧ q < g.1.length
  inc : ∀ p : Int, 0 ≤ p → p < g.1.length → ∀ k : Int, 1 ≤ k → k < (ix g.2.2.1 p).length → ix (ix g.2.2.1 p) (k - 1) < ix (ix g.2.2.1 p) k
theorem nxE_zero {n : Int} : ∀ {N : List (List Int)}, nxE n N = 0 → ∀ l ∈ N, plE n l = 0
  | [], _, l, hl => by cases hl
  | x :: r, h, l, hl => by
    unfold nxE at h
    split at h
    · rename_i h0
      rcases List.mem_cons.1 hl with rfl | hl
      · exact h0
      · exact nxE_zero h l hl
    · rename_i h0; exact absurd h h0
theorem plE_zero {n : Int} {l : List Int} (h : plE n l = 0) : 0 < l.length ∧ (∀ q ∈ l, 0 ≤ q ∧ q < n) ∧ ∀ k : Int, 1 ≤ k → k < l.length → ix l (k - 1) < ix l k := by
  unfold plE at h
  split at h
  · cases h
  split at h
  · cases h
  split at h
  · cases h
  rename_i c1 c2 c3
  refine ⟨by omega, fun q hq => ?_, fun k k0 k1 => ?_⟩
  · obtain ⟨k, k0, k1, rfl⟩ := ex_ix (P := fun x => x = q).1 ⟨q, hq, rfl⟩
    have : ¬ (ix l k < 0 ∨ n ≤ ix l k) := fun h => c2 ⟨k, k0, k1, h⟩
    omega
  · have : ¬ (ix l k ≤ ix l (k - 1)) := fun h => c3 ⟨k, k0, k1, h⟩
    omega
theorem gmE_zero (h : gmE g = 0) : GOk g := by
  unfold gmE at h
  split at h
  · cases h
  split at h
  · cases h
  split at h
  · cases h
  rename_i c1 c2 c3
  have hp : ∀ p : Int, 0 ≤ p → p < g.1.length → plE g.1.length (ix g.2.2.1 p) = 0 := fun p p0 p1 => nxE_zero h _ (ix_mem p0 (by omega))
  have hb : ∀ p : Int, 0 ≤ p → p < g.1.length → ¬ ((ix g.1 p < 0 ∨ 1 < ix g.1 p) ∨ (ix g.2.1 p < 0 ∨ 9 < ix g.2.1 p)) := fun p p0 p1 h => c3 ⟨p, p0, p1, h⟩
  exact ⟨by omega, by omega, by omega, fun p p0 p1 => by have := hb p p0 p1; omega, fun p p0 p1 => by have := hb p p0 p1; omega,
    fun p p0 p1 => (plE_zero (hp p p0 p1)).1, fun p p0 p1 => (plE_zero (hp p p0 p1)).2.1, fun p p0 p1 => (plE_zero (hp p p0 p1)).2.2⟩
end

/- who is sure to come there -/
structure GG (n : Int) (O M : List Int) (N B : List (List Int)) : Prop where
  n1 : 0 ≤ n ∧ n ≤ 1000000
  lo : (O.length : Int) = n
  lm : (M.length : Int) = n
  ln : (N.length : Int) = n
  lb : (B.length : Int) = n
  own : ∀ p : Int, 0 ≤ p → p < n → ix O p = 0 ∨ ix O p = 1
  mrk : ∀ p : Int, 0 ≤ p → p < n → 0 ≤ ix M p
  rng : ∀ p : Int, 0 ≤ p → p < n → ∀ q ∈ ix N p, 0 ≤ q ∧ q < n
  nd : ∀ p : Int, 0 ≤ p → p < n → (ix N p).Nodup
  brng : ∀ q : Int, 0 ≤ q → q < n → ∀ p ∈ ix B q, 0 ≤ p ∧ p < n
  back : ∀ p q : Int, 0 ≤ p → p < n → 0 ≤ q → q < n → (p ∈ ix B q ↔ q ∈ ix N p)
  bnd : ∀ q : Int, 0 ≤ q → q < n → (ix B q).Nodup
def In (n : Int) (W : List Bool) (p : Int) : Prop := 0 ≤ p ∧ p < n ∧ ix W p = true
open Classical in
/-- How many ways on are left. -/
noncomputable def cnt (N : List (List Int)) (W : List Bool) (D : Int → Prop) (p : Int) : Int := (((ix N p).filter (fun q => decide (ix W q = true ∧ ¬ D q))).length : Int)
section
variable {n : Int} {O M : List Int} {N B : List (List Int)} {W : List Bool} {player : Int} {to mv0 : List Int}
theorem GG.nlen (g : GG n O M N B) {p : Int} (p0 : 0 ≤ p) (p1 : p < n) : ((ix N p).length : Int) ≤ n := by
  have := pigeon_int (n := n.toNat) (g.nd p p0 p1) (fun x hx => by have := g.rng p p0 p1 x hx; omega)
  have := g.n1; omega
theorem GG.blen (g : GG n O M N B) {p : Int} (p0 : 0 ≤ p) (p1 : p < n) : ((ix B p).length : Int) ≤ n := by
  have := pigeon_int (n := n.toNat) (g.bnd p p0 p1) (fun x hx => by have := g.brng p p0 p1 x hx; omega)
  have := g.n1; omega
open Classical in
theorem cnt_congr {D D' : Int → Prop} {p : Int} (h : ∀ q ∈ ix N p, D q ↔ D' q) : cnt N W D p = cnt N W D' p := by
  unfold cnt
  congr 2
  refine List.filter_congr fun q hq => ?_
  exact decide_eq_decide.2 (and_congr Iff.rfl (not_congr (h q hq)))
theorem filter_less {α : Type} [DecidableEq α] {P P' : α → Bool} {x : α} (hx : P x = true) : ∀ {l : List α}, l.Nodup → x ∈ l → (∀ y ∈ l, P' y = true ↔ P y = true ∧ y ≠ x) → (l.filter P').length + 1 = (l.filter P).length
  | [], _, h, _ => by cases h
  | y :: l, hn, h, he => by
    obtain ⟨hy, hn'⟩ := List.nodup_cons.1 hn
    by_cases e : y = x
    · subst e
      have h1 : P' y = false := by
        have := (he y (List.mem_cons_self ..)).1
        cases c : P' y with
        | false => rfl
        | true => exact absurd rfl (this c).2
      rw [List.filter_cons_of_neg (by simp [h1]), List.filter_cons_of_pos hx]
      have : l.filter P' = l.filter P := by
        refine List.filter_congr fun z hz => ?_
        have hne : z ≠ y := fun e => hy (e ▸ hz)
        rw [Bool.eq_iff_iff, he z (List.mem_cons_of_mem _ hz)]
        exact ⟨fun h => h.1, fun h => ⟨h, hne⟩⟩
      rw [this]; rfl
    · have hm : x ∈ l := (List.mem_cons.1 h).resolve_left (fun h => e h.symm)
      have ih := filter_less hx hn' hm (fun z hz => he z (List.mem_cons_of_mem _ hz))
      have hyy : P' y = P y := by
        rw [Bool.eq_iff_iff, he y (List.mem_cons_self ..)]
        exact ⟨fun h => h.1, fun h => ⟨h, e⟩⟩
      by_cases c : P y = true
      · rw [List.filter_cons_of_pos (by rw [hyy]; exact c), List.filter_cons_of_pos c]
        simp only [List.length_cons]; omega
      · rw [List.filter_cons_of_neg (by rw [hyy]; exact c), List.filter_cons_of_neg c]
        exact ih
open Classical in
theorem cnt_less (g : GG n O M N B) {D D' : Int → Prop} {p x : Int} (p0 : 0 ≤ p) (p1 : p < n) (hx : x ∈ ix N p) (hW : ix W x = true) (hD : ¬ D x) (h : ∀ q, D' q ↔ D q ∨ q = x) : cnt N W D' p = cnt N W D p - 1 := by
  unfold cnt
  have := filter_less (P := fun q => decide (ix W q = true ∧ ¬ D q)) (P' := fun q => decide (ix W q = true ∧ ¬ D' q)) (x := x) (by simp [hW, hD]) (g.nd p p0 p1) hx (fun y hy => by
    simp only [decide_eq_true_eq]
    rw [h y]
    constructor
    · rintro ⟨h1, h2⟩; exact ⟨⟨h1, fun h => h2 (.inl h)⟩, fun h => h2 (.inr h)⟩
    · rintro ⟨⟨h1, h2⟩, h3⟩; exact ⟨h1, fun h => h.elim h2 h3⟩)
  omega
open Classical in
theorem cnt_pos {D : Int → Prop} {p : Int} : 0 < cnt N W D p ↔ ∃ q ∈ ix N p, ix W q = true ∧ ¬ D q := by
  unfold cnt
  constructor
  · intro h
    have hne : 0 < ((ix N p).filter (fun q => decide (ix W q = true ∧ ¬ D q))).length := by omega
    obtain ⟨q, hq⟩ := List.exists_mem_of_length_pos hne
    rw [List.mem_filter] at hq
    exact ⟨q, hq.1, by simpa using hq.2⟩
  · rintro ⟨q, hq, h⟩
    have : q ∈ (ix N p).filter (fun q => decide (ix W q = true ∧ ¬ D q)) := List.mem_filter.2 ⟨hq, by simpa using h⟩
    have := List.length_pos_of_mem this
    omega
open Classical in
theorem cnt_le (g : GG n O M N B) {D : Int → Prop} {p : Int} (p0 : 0 ≤ p) (p1 : p < n) : 0 ≤ cnt N W D p ∧ cnt N W D p ≤ n := by
  have h := g.nlen p0 p1
  have h2 : ((ix N p).filter (fun q => decide (ix W q = true ∧ ¬ D q))).length ≤ (ix N p).length := List.length_filter_le _ _
  unfold cnt
  omega
structure AInv (n : Int) (O : List Int) (N : List (List Int)) (W : List Bool) (player : Int) (to mv0 : List Int) (D : Int → Int → Prop) (L : List Int) (rk : Int → Int) (inn : List Bool) (left mv : List Int) : Prop where
  li : (inn.length : Int) = n
  ll : (left.length : Int) = n
  lv : (mv.length : Int) = n
  i : ∀ p : Int, 0 ≤ p → p < n → (ix inn p = true ↔ p ∈ L)
  nd : L.Nodup
  sub : ∀ p ∈ L, In n W p
  rk' : ∀ p ∈ L, rk p < L.length
  st : ∀ p ∈ L, p ∉ to → (ix O p = player → ix mv p ∈ ix N p ∧ ix mv p ∈ L ∧ rk (ix mv p) < rk p) ∧ (¬ ix O p = player → ∀ q ∈ ix N p, ix W q = true → q ∈ L ∧ rk q < rk p)
  mv' : ∀ p : Int, 0 ≤ p → p < n → (p ∉ L ∨ p ∈ to) → ix mv p = ix mv0 p
  lf : ∀ p : Int, In n W p → p ∉ L → ix left p = cnt N W (D p) p ∧ (ix O p = player → ∀ q ∈ ix N p, ¬ D p q) ∧ (¬ ix O p = player → ∃ q ∈ ix N p, ix W q = true ∧ ¬ D p q)
  tos : ∀ p ∈ to, p ∈ L
theorem AInv.congr {D D' : Int → Int → Prop} {L : List Int} {rk : Int → Int} {inn : List Bool} {left mv : List Int} (h : AInv n O N W player to mv0 D L rk inn left mv) (e : ∀ p, In n W p → p ∉ L → ∀ q ∈ ix N p, D p q ↔ D' p q) : AInv n O N W player to mv0 D' L rk inn left mv := by
  refine { h with lf := fun p hp hl => ?_ }
  obtain ⟨h1, h2, h3⟩ := h.lf p hp hl
  refine ⟨h1.trans (cnt_congr (e p hp hl)), fun ho q hq hd => h2 ho q hq ((e p hp hl q hq).2 hd), fun ho => ?_⟩
  obtain ⟨q, hq, hW, hd⟩ := h3 ho
  exact ⟨q, hq, hW, fun hd' => hd ((e p hp hl q hq).2 hd')⟩
/-- One more is sure to come there. -/
theorem AInv.add {D D' : Int → Int → Prop} {L : List Int} {rk : Int → Int} {inn : List Bool} {left mv : List Int} (h : AInv n O N W player to mv0 D L rk inn left mv) {p x v : Int} (hp : In n W p) (hl : p ∉ L) (hx : x ∈ L) (hxp : x ∈ ix N p)
    (e : ∀ p', p' ≠ p → ∀ q ∈ ix N p', D p' q ↔ D' p' q) (ho : ¬ ix O p = player → ∀ q ∈ ix N p, ix W q = true → q ∈ L) :
    AInv n O N W player to mv0 D' (L ++ [p]) (fun q => if q = p then L.length else rk q) (inn.set p.toNat true) (left.set p.toNat v) (if ix O p = player then mv.set p.toNat x else mv) := by
  have hli := h.li; have hll := h.ll; have hlv := h.lv; have hpb := hp.2.1
  have hnt : p ∉ to := fun g => hl (h.tos p g)
  have hne : ∀ q ∈ L, q ≠ p := fun q hq e => hl (e ▸ hq)
  have hmvne : ∀ q : Int, 0 ≤ q → q ≠ p → ix (if ix O p = player then mv.set p.toNat x else mv) q = ix mv q := by
    intro q q0 hq
    split
    · exact ix_set_ne hp.1 q0 (fun e => hq e.symm)
    · rfl
  refine ⟨by simpa using hli, by simpa using hll, by split <;> simpa using hlv, fun q q0 q1 => ?_, ?_, fun q hq => ?_, fun q hq => ?_, fun q hq hqt => ?_, fun q q0 q1 hq => ?_, fun q hq hql => ?_, fun q hq => List.mem_append.2 (.inl (h.tos q hq))⟩
  · by_cases c : p = q
    · subst c; rw [ix_set_same hp.1 (by omega)]; simp
    · rw [ix_set_ne hp.1 q0 c, h.i q q0 q1, List.mem_append, List.mem_singleton]
      exact ⟨.inl, fun h => h.elim id (fun h => absurd h.symm c)⟩
  · rw [List.nodup_append]
    exact ⟨h.nd, by simp, fun a ha b hb => by rw [List.mem_singleton] at hb; subst hb; exact hne a ha⟩
  · rcases List.mem_append.1 hq with hq | hq
    · exact h.sub q hq
    · rw [List.mem_singleton.1 hq]; exact hp
  · simp only [List.length_append, List.length_singleton]
    rcases List.mem_append.1 hq with hq | hq
    · rw [if_neg (hne q hq)]; have := h.rk' q hq; omega
    · rw [if_pos (List.mem_singleton.1 hq)]; omega
  · rcases List.mem_append.1 hq with hq | hq
    · obtain ⟨h1, h2⟩ := h.st q hq hqt
      have q0 := (h.sub q hq).1
      rw [if_neg (hne q hq), hmvne q q0 (hne q hq)]
      refine ⟨fun c => ?_, fun c r hr hW => ?_⟩
      · obtain ⟨g1, g2, g3⟩ := h1 c
        rw [if_neg (hne _ g2)]
        exact ⟨g1, List.mem_append.2 (.inl g2), g3⟩
      · obtain ⟨g1, g2⟩ := h2 c r hr hW
        rw [if_neg (hne _ g1)]
        exact ⟨List.mem_append.2 (.inl g1), g2⟩
    · have hqp : q = p := List.mem_singleton.1 hq
      subst hqp
      rw [if_pos rfl]
      refine ⟨fun c => ?_, fun c r hr hW => ?_⟩
      · rw [if_pos c, ix_set_same hp.1 (by omega), if_neg (hne x hx)]
        exact ⟨hxp, List.mem_append.2 (.inl hx), h.rk' x hx⟩
      · have hr' := ho c r hr hW
        rw [if_neg (hne r hr')]
        exact ⟨List.mem_append.2 (.inl hr'), h.rk' r hr'⟩
  · have hqp : q ≠ p := by
      rintro rfl
      rcases hq with hq | hq
      · exact hq (List.mem_append.2 (.inr (List.mem_singleton.2 rfl)))
      · exact hnt hq
    rw [hmvne q q0 hqp]
    exact h.mv' q q0 q1 (hq.imp (fun h h' => h (List.mem_append.2 (.inl h'))) id)
  · have hq1 : q ∉ L := fun h => hql (List.mem_append.2 (.inl h))
    have hqp : q ≠ p := fun e => hql (List.mem_append.2 (.inr (List.mem_singleton.2 e)))
    obtain ⟨h1, h2, h3⟩ := h.lf q hq hq1
    refine ⟨?_, fun c r hr hd => h2 c r hr ((e q hqp r hr).2 hd), fun c => ?_⟩
    · rw [ix_set_ne hp.1 hq.1 (fun e => hqp e.symm), h1]
      exact cnt_congr (e q hqp)
    · obtain ⟨r, hr, hW, hd⟩ := h3 c
      exact ⟨r, hr, hW, fun hd' => hd ((e q hqp r hr).2 hd')⟩
/-- One has a way less. -/
theorem AInv.dec {D D' : Int → Int → Prop} {L : List Int} {rk : Int → Int} {inn : List Bool} {left mv : List Int} (h : AInv n O N W player to mv0 D L rk inn left mv) {p v : Int} (hp : In n W p) (hl : p ∉ L)
    (e : ∀ p', p' ≠ p → ∀ q ∈ ix N p', D p' q ↔ D' p' q) (ho : ¬ ix O p = player) (hv : v = cnt N W (D' p) p) (hpos : 0 < v) :
    AInv n O N W player to mv0 D' L rk inn (left.set p.toNat v) mv := by
  have hll := h.ll; have hpb := hp.2.1
  refine { h with ll := by simpa using hll, lf := fun q hq hql => ?_ }
  by_cases c : p = q
  · subst c
    rw [ix_set_same hp.1 (by omega)]
    exact ⟨hv, fun c => absurd c ho, fun _ => cnt_pos.1 (hv ▸ hpos)⟩
  · obtain ⟨h1, h2, h3⟩ := h.lf q hq hql
    have hqp : q ≠ p := fun e => c e.symm
    rw [ix_set_ne hp.1 hq.1 c]
    refine ⟨h1.trans (cnt_congr (e q hqp)), fun c r hr hd => h2 c r hr ((e q hqp r hr).2 hd), fun c => ?_⟩
    obtain ⟨r, hr, hW, hd⟩ := h3 c
    exact ⟨r, hr, hW, fun hd' => hd ((e q hqp r hr).2 hd')⟩
abbrev R19 := List Int → List Int → List (List Int) → List (List Int) → List Bool → List Int → List Int → List Int → List Int → Option (List Bool × List Int × List Int × List (List Int) × List (List Int) × List Int × List Int × List Int × List Bool)
def Dk (B : List (List Int)) (Pd : List Int) (x : Int) (k : Int) (p q : Int) : Prop := q ∈ Pd ∨ (q = x ∧ p ∈ (ix B x).take k.toNat)
theorem take_succ_mem {l : List Int} {k p : Int} (k0 : 0 ≤ k) (k1 : k < l.length) : p ∈ l.take (k + 1).toNat ↔ p ∈ l.take k.toNat ∨ p = ix l k := by
  have hk : k.toNat < l.length := by omega
  rw [show (k + 1).toNat = k.toNat + 1 by omega, List.take_succ_eq_append_getElem hk, List.mem_append, List.mem_singleton, ix_eq k0 k1]
theorem take_not_mem {l : List Int} (hn : l.Nodup) {k : Int} (k0 : 0 ≤ k) (k1 : k < l.length) : ix l k ∉ l.take k.toNat := by
  have hk : k.toNat < l.length := by omega
  intro h
  have e : l = l.take k.toNat ++ ix l k :: l.drop (k.toNat + 1) := by
    rw [ix_eq k0 k1, ← List.drop_eq_getElem_cons hk, List.take_append_drop]
  rw [e] at hn
  exact (List.nodup_append.1 hn).2.2 _ h _ (List.mem_cons_self ..) rfl
theorem L22_spec (g : GG n O M N B) (hW : (W.length : Int) = n) {Pd row0 : List Int} {x : Int} (hx : In n W x) (h0 : ix row0 0 = x) {win : List Int} (hwl : (win.length : Int) = n) {r19 : R19} : ∀ (m : Nat) (k : Int) (inn : List Bool) (left tl mv : List Int) (rk : Int → Int), 0 ≤ k → k + m = (ix B x).length → AInv n O N W player to mv0 (Dk B Pd x k) (Pd ++ x :: tl) rk inn left mv →
    ∃ inn' left' tl' mv' rk', game_solver_attracted_L22 player W B row0 r19 k O M N B inn left (x :: tl) win mv = r19 O M N B inn' left' tl' win mv' ∧ AInv n O N W player to mv0 (fun _ q => q ∈ Pd ++ [x]) ((Pd ++ [x]) ++ tl') rk' inn' left' mv' := by
  have hn1 := g.n1; have hlb := g.lb; have hlo := g.lo
  have hbl := g.blen hx.1 hx.2.1
  intro m
  induction m with
  | zero =>
    intro k inn left tl mv rk k0 hk h
    refine ⟨inn, left, tl, mv, rk, ?_, ?_⟩
    · rw [game_solver_attracted_L22_eq]; unfold game_solver_attracted_L22_B
      rw [h0, if_neg (by simp only [decide_eq_true_eq]; omega), G_pos (by simp; omega)]
      rfl
    · have h' : AInv n O N W player to mv0 (fun _ q => q ∈ Pd ++ [x]) (Pd ++ x :: tl) rk inn left mv := h.congr fun p hp hl q hq => by
        unfold Dk
        rw [List.take_of_length_le (by omega), List.mem_append, List.mem_singleton]
        refine or_congr Iff.rfl ⟨fun h => h.1, fun e => ⟨e, ?_⟩⟩
        subst e
        exact (g.back p q hp.1 hp.2.1 hx.1 hx.2.1).2 hq
      rw [List.append_assoc]
      exact h'
  | succ m ih =>
    intro k inn left tl mv rk k0 hk h
    have k1 : k < (ix B x).length := by omega
    have hpr := g.brng x hx.1 hx.2.1 _ (ix_mem k0 k1)
    obtain ⟨p, ep⟩ : ∃ p, ix (ix B x) k = p := ⟨_, rfl⟩
    rw [ep] at hpr
    have hxp : x ∈ ix N p := (g.back p x hpr.1 hpr.2 hx.1 hx.2.1).1 (ep ▸ ix_mem k0 k1)
    have hnt : p ∉ (ix B x).take k.toNat := ep ▸ take_not_mem (g.bnd x hx.1 hx.2.1) k0 k1
    have hD : ∀ p' q, Dk B Pd x (k + 1) p' q ↔ Dk B Pd x k p' q ∨ (q = x ∧ p' = p) := by
      intro p' q
      unfold Dk
      rw [take_succ_mem k0 k1, ep]
      constructor
      · rintro (h | ⟨h1, h2 | h2⟩)
        · exact .inl (.inl h)
        · exact .inl (.inr ⟨h1, h2⟩)
        · exact .inr ⟨h1, h2⟩
      · rintro ((h | ⟨h1, h2⟩) | ⟨h1, h2⟩)
        · exact .inl h
        · exact .inr ⟨h1, .inl h2⟩
        · exact .inr ⟨h1, .inr h2⟩
    have hDne : ∀ p', p' ≠ p → ∀ q ∈ ix N p', Dk B Pd x k p' q ↔ Dk B Pd x (k + 1) p' q := fun p' hp' q _ => by
      rw [hD]; exact ⟨.inl, fun h => h.elim id (fun h => absurd h.2 hp')⟩
    have hli := h.li; have hll := h.ll; have hlv := h.lv
    have hfk : fits (k + 1) := by unfold fits; omega
    have e0 : ∀ X, game_solver_attracted_L22_B player W B row0 r19 (game_solver_attracted_L22 player W B row0 r19) k O M N B inn left (x :: tl) win mv = X → game_solver_attracted_L22 player W B row0 r19 k O M N B inn left (x :: tl) win mv = X := fun X h => by rw [game_solver_attracted_L22_eq]; exact h
    by_cases c1 : ix W p = true
    case neg =>
      obtain ⟨inn', left', tl', mv', rk', e, h'⟩ := ih (k + 1) inn left tl mv rk (by omega) (by omega) (h.congr fun p' hp' _ q hq => hDne p' (fun e => c1 (e ▸ hp'.2.2)) q hq)
      refine ⟨inn', left', tl', mv', rk', e0 _ ?_, h'⟩
      unfold game_solver_attracted_L22_B
      rw [h0, if_pos (decide_eq_true k1), G_pos (by omega), ep, G_pos (by omega), G_pos (by omega), if_pos (by simpa using c1), G_pos hfk]
      exact e
    by_cases c2 : p ∈ Pd ++ x :: tl
    · have hin := (h.i p hpr.1 hpr.2).2 c2
      obtain ⟨inn', left', tl', mv', rk', e, h'⟩ := ih (k + 1) inn left tl mv rk (by omega) (by omega) (h.congr fun p' hp' hl' q hq => hDne p' (fun e => hl' (e ▸ c2)) q hq)
      refine ⟨inn', left', tl', mv', rk', e0 _ ?_, h'⟩
      unfold game_solver_attracted_L22_B
      rw [h0, if_pos (decide_eq_true k1), G_pos (by omega), ep, G_pos (by omega), G_pos (by omega), if_neg (by simp [c1]), G_pos (by omega), G_pos (by omega), if_pos hin, G_pos hfk]
      exact e
    have hin : ¬ ix inn p = true := fun g => c2 ((h.i p hpr.1 hpr.2).1 g)
    have hp : In n W p := ⟨hpr.1, hpr.2, c1⟩
    obtain ⟨l1, l2, l3⟩ := h.lf p hp c2
    have hxPd : x ∉ Pd := fun g => (List.nodup_append.1 h.nd).2.2 x g x (List.mem_cons_self ..) rfl
    have hxL : x ∈ Pd ++ x :: tl := List.mem_append.2 (.inr (List.mem_cons_self ..))
    have hDx : ¬ Dk B Pd x k p x := fun g => g.elim hxPd (fun g => hnt g.2)
    have hcnt : cnt N W (Dk B Pd x (k + 1) p) p = cnt N W (Dk B Pd x k p) p - 1 := cnt_less g hpr.1 hpr.2 hxp hx.2.2 hDx (fun q => by rw [hD]; simp)
    have hcb := cnt_le (W := W) (D := Dk B Pd x k p) g hpr.1 hpr.2
    have hcl : Pd.length + (tl.length + 1) ≤ n.toNat := by
      have := pigeon_int (n := n.toNat) h.nd (fun y hy => by have := h.sub y hy; unfold In at this; omega)
      simpa using this
    have hJ : ∀ (a : List Int) (b : List Int), game_solver_attracted_J28 B row0 k inn left (x :: tl) (game_solver_attracted_L22 player W B row0 r19) O M N B a b = game_solver_attracted_L22 player W B row0 r19 (k + 1) O M N B (inn.set p.toNat true) (left.set p.toNat (ix left p - 1)) (x :: (tl ++ [p])) a b := by
      intro a b
      unfold game_solver_attracted_J28
      rw [h0, ep, G_pos (by omega), G_pos (by omega), G_pos (by unfold room; simp; omega), G_pos hfk]
      rfl
    by_cases c3 : ix O p = player
    · have hadd := h.add (v := ix left p - 1) (D' := Dk B Pd x (k + 1)) hp c2 hxL hxp hDne (fun c => absurd c3 c)
      rw [if_pos c3] at hadd
      rw [List.append_assoc] at hadd
      obtain ⟨inn', left', tl', mv', rk', e, h'⟩ := ih (k + 1) _ _ (tl ++ [p]) _ _ (by omega) (by omega) hadd
      refine ⟨inn', left', tl', mv', rk', e0 _ ?_, h'⟩
      unfold game_solver_attracted_L22_B
      rw [h0, if_pos (decide_eq_true k1), G_pos (by omega), ep, G_pos (by omega), G_pos (by omega), if_neg (by simp [c1]), G_pos (by omega), G_pos (by omega), if_neg hin, G_pos (by omega), G_pos (by omega), G_pos (by unfold fits; omega), G_pos (by omega), G_pos (by omega), G_pos (by omega), if_pos (decide_eq_true c3), G_pos (by simp), G_pos (by simp), G_pos (by omega), G_pos (by omega), hJ]
      exact e
    · have hls : ix (left.set p.toNat (ix left p - 1)) p = ix left p - 1 := ix_set_same hpr.1 (by omega)
      by_cases c4 : 0 < ix left p - 1
      · have hdec := h.dec (v := ix left p - 1) (D' := Dk B Pd x (k + 1)) hp c2 hDne c3 (by omega) c4
        obtain ⟨inn', left', tl', mv', rk', e, h'⟩ := ih (k + 1) _ _ tl _ _ (by omega) (by omega) hdec
        refine ⟨inn', left', tl', mv', rk', e0 _ ?_, h'⟩
        unfold game_solver_attracted_L22_B
        rw [h0, if_pos (decide_eq_true k1), G_pos (by omega), ep, G_pos (by omega), G_pos (by omega), if_neg (by simp [c1]), G_pos (by omega), G_pos (by omega), if_neg hin, G_pos (by omega), G_pos (by omega), G_pos (by unfold fits; omega), G_pos (by omega), G_pos (by omega), G_pos (by omega), if_neg (by simpa using c3), List.length_set, G_pos (by omega), G_pos (by omega), hls, if_pos (decide_eq_true c4), G_pos hfk]
        exact e
      · have hall : ∀ q ∈ ix N p, ix W q = true → q ∈ Pd ++ x :: tl := by
          intro q hq hWq
          refine Classical.byContradiction fun hn => ?_
          have : 0 < cnt N W (Dk B Pd x (k + 1) p) p := cnt_pos.2 ⟨q, hq, hWq, fun hd => hn ?_⟩
          · omega
          · rcases hd with hd | ⟨rfl, _⟩
            · exact List.mem_append.2 (.inl hd)
            · exact hxL
        have hadd := h.add (v := ix left p - 1) (D' := Dk B Pd x (k + 1)) hp c2 hxL hxp hDne (fun _ => hall)
        rw [if_neg c3] at hadd
        rw [List.append_assoc] at hadd
        obtain ⟨inn', left', tl', mv', rk', e, h'⟩ := ih (k + 1) _ _ (tl ++ [p]) _ _ (by omega) (by omega) hadd
        refine ⟨inn', left', tl', mv', rk', e0 _ ?_, h'⟩
        unfold game_solver_attracted_L22_B
        rw [h0, if_pos (decide_eq_true k1), G_pos (by omega), ep, G_pos (by omega), G_pos (by omega), if_neg (by simp [c1]), G_pos (by omega), G_pos (by omega), if_neg hin, G_pos (by omega), G_pos (by omega), G_pos (by unfold fits; omega), G_pos (by omega), G_pos (by omega), G_pos (by omega), if_neg (by simpa using c3), List.length_set, G_pos (by omega), G_pos (by omega), hls, if_neg (by simpa using c4), hJ]
        exact e
theorem L19_spec (g : GG n O M N B) (hW : (W.length : Int) = n) {win : List Int} (hwl : (win.length : Int) = n) : ∀ (f : Nat) (Pd row : List Int) (inn : List Bool) (left mv : List Int) (rk : Int → Int), n.toNat - Pd.length = f → AInv n O N W player to mv0 (fun _ q => q ∈ Pd) (Pd ++ row) rk inn left mv →
    ∃ inn' left' mv' rk' L, game_solver_attracted_L19 player to W O M N B inn left row win mv = some (inn', O, M, N, B, win, mv', to, W) ∧ AInv n O N W player to mv0 (fun _ q => q ∈ L) L rk' inn' left' mv' := by
  have hn1 := g.n1; have hlb := g.lb
  intro f
  induction f with
  | zero =>
    intro Pd row inn left mv rk hf h
    have hcl := pigeon_int (n := n.toNat) h.nd (fun y hy => by have := h.sub y hy; unfold In at this; omega)
    rw [List.length_append] at hcl
    have : row = [] := List.length_eq_zero_iff.1 (by omega)
    subst this
    rw [List.append_nil] at h
    refine ⟨inn, left, mv, rk, Pd, ?_, h⟩
    rw [game_solver_attracted_L19_eq]; unfold game_solver_attracted_L19_B
    rw [if_neg (by simp)]
  | succ f ih =>
    intro Pd row inn left mv rk hf h
    cases row with
    | nil =>
      rw [List.append_nil] at h
      refine ⟨inn, left, mv, rk, Pd, ?_, h⟩
      rw [game_solver_attracted_L19_eq]; unfold game_solver_attracted_L19_B
      rw [if_neg (by simp)]
    | cons x tl =>
      have hx := h.sub x (List.mem_append.2 (.inr (List.mem_cons_self ..)))
      have h' : AInv n O N W player to mv0 (Dk B Pd x 0) (Pd ++ x :: tl) rk inn left mv := h.congr fun p _ _ q _ => by unfold Dk; simp
      obtain ⟨inn', left', tl', mv', rk', e, h2⟩ := L22_spec g hW (row0 := x :: tl) hx rfl hwl (r19 := game_solver_attracted_L19 player to W) (ix B x).length 0 inn left tl mv rk (by omega) (by omega) h'
      obtain ⟨i2, l2, m2, r2, L, e2, h3⟩ := ih (Pd ++ [x]) tl' inn' left' mv' rk' (by simp; omega) h2
      refine ⟨i2, l2, m2, r2, L, ?_, h3⟩
      rw [game_solver_attracted_L19_eq]; unfold game_solver_attracted_L19_B
      have hx0 : ix (x :: tl) 0 = x := rfl
      unfold In at hx
      rw [if_pos (by simp), G_pos (by simp), G_pos (by simp), hx0, G_pos (by omega), e]
      exact e2
/-- All that one is sure to come from. -/
structure Attr (n : Int) (O : List Int) (N : List (List Int)) (W : List Bool) (player : Int) (to mv0 : List Int) (inn : List Bool) (mv : List Int) (rk : Int → Int) : Prop where
  li : (inn.length : Int) = n
  lv : (mv.length : Int) = n
  sub : ∀ p, In n inn p → In n W p
  tos : ∀ p ∈ to, In n inn p
  st : ∀ p, In n inn p → p ∉ to → (ix O p = player → ix mv p ∈ ix N p ∧ In n inn (ix mv p) ∧ rk (ix mv p) < rk p) ∧ (¬ ix O p = player → ∀ q ∈ ix N p, ix W q = true → In n inn q ∧ rk q < rk p)
  mv' : ∀ p : Int, 0 ≤ p → p < n → (¬ ix inn p = true ∨ p ∈ to) → ix mv p = ix mv0 p
  out : ∀ p, In n W p → ¬ ix inn p = true → (ix O p = player → ∀ q ∈ ix N p, ¬ ix inn q = true) ∧ (¬ ix O p = player → ∃ q ∈ ix N p, ix W q = true ∧ ¬ ix inn q = true)
theorem L7_spec (g : GG n O M N B) (hW : (W.length : Int) = n) {t : Int} (t0 : 0 ≤ t) (t1 : t < n) {r4 : Int → List Int → Option (List Bool × List Int × List Int × List (List Int) × List (List Int) × List Int × List Int × List Int × List Bool)} : ∀ (m : Nat) (k : Nat) (left : List Int), k + m = (ix N t).length → (left.length : Int) = n → ix left t = (((ix N t).take k).filter (fun q => ix W q)).length →
    ∃ left', game_solver_attracted_L7 N W t r4 k left = r4 (t + 1) left' ∧ (left'.length : Int) = n ∧ ix left' t = ((ix N t).filter (fun q => ix W q)).length ∧ ∀ p : Int, 0 ≤ p → p ≠ t → ix left' p = ix left p := by
  have hn1 := g.n1
  have hnl := g.nlen t0 t1
  intro m
  induction m with
  | zero =>
    intro k left hk hl h
    refine ⟨left, ?_, hl, ?_, fun _ _ _ => rfl⟩
    · rw [game_solver_attracted_L7_eq]; unfold game_solver_attracted_L7_B
      rw [if_neg (by simp only [decide_eq_true_eq]; omega), G_pos (by unfold fits; omega)]
    · rw [h, List.take_of_length_le (by omega)]
  | succ m ih =>
    intro k left hk hl h
    have hr := g.rng t t0 t1 _ (ix_mem (l := ix N t) (by omega : (0 : Int) ≤ (k : Int)) (by omega))
    have hkl : k < (ix N t).length := by omega
    have hg : (ix N t)[k] = ix (ix N t) (k : Int) := (ix_eq (l := ix N t) (i := (k : Int)) (by omega) (by omega)).symm
    have htk : (((ix N t).take (k + 1)).filter (fun q => ix W q)).length = (((ix N t).take k).filter (fun q => ix W q)).length + (if ix W (ix (ix N t) (k : Int)) = true then 1 else 0) := by
      rw [List.take_succ_eq_append_getElem hkl, List.filter_append, List.length_append, hg]
      by_cases c : ix W (ix (ix N t) (k : Int)) = true
      · rw [if_pos c, List.filter_cons_of_pos c]; rfl
      · rw [if_neg c, List.filter_cons_of_neg c]; rfl
    have hle : (((ix N t).take k).filter (fun q => ix W q)).length ≤ k := Nat.le_trans (List.length_filter_le _ _) (by rw [List.length_take]; omega)
    by_cases c : ix W (ix (ix N t) (k : Int)) = true
    · rw [if_pos c] at htk
      obtain ⟨left', e, h1, h2, h3⟩ := ih (k + 1) (left.set t.toNat (ix left t + 1)) (by omega) (by simpa using hl) (by rw [ix_set_same t0 (by omega)]; omega)
      refine ⟨left', ?_, h1, h2, fun p p0 hp => by rw [h3 p p0 hp, ix_set_ne t0 p0 (fun e => hp e.symm)]⟩
      rw [← e]
      conv => lhs; rw [game_solver_attracted_L7_eq]; unfold game_solver_attracted_L7_B
      rw [if_pos (decide_eq_true (by omega)), G_pos (by omega), G_pos (by omega), G_pos (by omega), if_pos c, G_pos (by omega), G_pos (by omega), G_pos (by unfold fits; omega), G_pos (by omega), G_pos (by omega), G_pos (by unfold fits; omega)]
      rfl
    · rw [if_neg c] at htk
      obtain ⟨left', e, h1, h2, h3⟩ := ih (k + 1) left (by omega) hl (by omega)
      refine ⟨left', ?_, h1, h2, h3⟩
      rw [← e]
      conv => lhs; rw [game_solver_attracted_L7_eq]; unfold game_solver_attracted_L7_B
      rw [if_pos (decide_eq_true (by omega)), G_pos (by omega), G_pos (by omega), G_pos (by omega), if_neg c, G_pos (by unfold fits; omega)]
      rfl
theorem attracted_spec (g : GG n O M N B) (hW : (W.length : Int) = n) {win : List Int} (hwl : (win.length : Int) = n) (hmv : (mv0.length : Int) = n) (hto : ∀ p ∈ to, In n W p) (hnd : to.Nodup) (hcl : ∀ p, In n W p → ∃ q ∈ ix N p, ix W q = true) :
    ∃ inn mv rk, game_solver_attracted player O M N B to W win mv0 = some (inn, O, M, N, B, win, mv, to, W) ∧ Attr n O N W player to mv0 inn mv rk := by
  have hn1 := g.n1; have hln := g.ln; have hlo := g.lo
  have htl := pigeon_int (n := n.toNat) hnd (fun y hy => by have := hto y hy; unfold In at this; omega)
  -- counts
  have k4 : ∀ (m : Nat) (t : Int) (left : List Int), 0 ≤ t → t + m = n → (left.length : Int) = n → (∀ p : Int, 0 ≤ p → p < t → ix left p = ((ix N p).filter (fun q => ix W q)).length) → (∀ p : Int, t ≤ p → p < n → ix left p = 0) →
      ∃ left', game_solver_attracted_L4 player O M N B to W win mv0 t left = game_solver_attracted_L14 player O M N B to W win mv0 left' 0 (List.replicate (O.length : Int).toNat false) ∧ (left'.length : Int) = n ∧ ∀ p : Int, 0 ≤ p → p < n → ix left' p = ((ix N p).filter (fun q => ix W q)).length := by
    intro m
    induction m with
    | zero =>
      intro t left t0 ht hl h1 h2
      refine ⟨left, ?_, hl, fun p p0 p1 => h1 p p0 (by omega)⟩
      rw [game_solver_attracted_L4_eq]; unfold game_solver_attracted_L4_B
      rw [if_neg (by simp only [decide_eq_true_eq]; omega)]
    | succ m ih =>
      intro t left t0 ht hl h1 h2
      obtain ⟨l7, e, q1, q2, q3⟩ := L7_spec g hW t0 (by omega) (r4 := game_solver_attracted_L4 player O M N B to W win mv0) (ix N t).length 0 left (by omega) hl (by rw [h2 t (Int.le_refl t) (by omega)]; rfl)
      obtain ⟨left', e2, h'⟩ := ih (t + 1) l7 (by omega) (by omega) q1 (fun p p0 p1 => by
        by_cases c : p = t
        · rw [c]; exact q2
        · rw [q3 p p0 c]; exact h1 p p0 (by omega)) (fun p p0 p1 => by rw [q3 p (by omega) (by omega)]; exact h2 p (by omega) p1)
      refine ⟨left', ?_, h'⟩
      rw [← e2]
      conv => lhs; rw [game_solver_attracted_L4_eq]; unfold game_solver_attracted_L4_B
      rw [if_pos (decide_eq_true (by omega)), G_pos (by omega)]
      exact e
  have k14 : ∀ (left : List Int) (m : Nat) (t : Int) (inn : List Bool), 0 ≤ t → t + m = to.length → (inn.length : Int) = n → (∀ p : Int, 0 ≤ p → p < n → (ix inn p = true ↔ p ∈ to.take t.toNat)) →
      ∃ inn', game_solver_attracted_L14 player O M N B to W win mv0 left t inn = game_solver_attracted_L19 player to W O M N B inn' left to win mv0 ∧ (inn'.length : Int) = n ∧ ∀ p : Int, 0 ≤ p → p < n → (ix inn' p = true ↔ p ∈ to) := by
    intro left m
    induction m with
    | zero =>
      intro t inn t0 ht hl h
      refine ⟨inn, ?_, hl, fun p p0 p1 => by rw [h p p0 p1, List.take_of_length_le (by omega)]⟩
      rw [game_solver_attracted_L14_eq]; unfold game_solver_attracted_L14_B
      rw [if_neg (by simp only [decide_eq_true_eq]; omega)]
      exact bind_to (slices_Clone_spec (by omega)) rfl
    | succ m ih =>
      intro t inn t0 ht hl h
      have hp := hto _ (ix_mem t0 (by omega : t < to.length))
      unfold In at hp
      obtain ⟨inn', e, h'⟩ := ih (t + 1) (inn.set (ix to t).toNat true) (by omega) (by omega) (by simpa using hl) (fun p p0 p1 => by
        rw [take_succ_mem t0 (by omega)]
        by_cases c : ix to t = p
        · rw [c, ix_set_same p0 (by omega)]; simp
        · rw [ix_set_ne (by omega) p0 c, h p p0 p1]
          exact ⟨.inl, fun h => h.elim id (fun h => absurd h.symm c)⟩)
      refine ⟨inn', ?_, h'⟩
      rw [← e]
      conv => lhs; rw [game_solver_attracted_L14_eq]; unfold game_solver_attracted_L14_B
      rw [if_pos (decide_eq_true (by omega)), G_pos (by omega), G_pos (by omega), G_pos (by omega), G_pos (by omega), G_pos (by unfold fits; omega)]
  have hrep : ∀ p : Int, ix (List.replicate (O.length : Int).toNat (0 : Int)) p = 0 := fun p => by
    simp only [ix, List.getD_eq_getElem?_getD, List.getElem?_replicate]
    split <;> rfl
  have hrepb : ∀ p : Int, ix (List.replicate (O.length : Int).toNat false) p = false := fun p => by
    simp only [ix, List.getD_eq_getElem?_getD, List.getElem?_replicate]
    split <;> rfl
  obtain ⟨left, e1, hl1, hl2⟩ := k4 n.toNat 0 (List.replicate (O.length : Int).toNat 0) (by omega) (by omega) (by simp; omega) (fun p p0 p1 => by omega) (fun p _ _ => hrep p)
  obtain ⟨inn, e2, hi1, hi2⟩ := k14 left to.length 0 (List.replicate (O.length : Int).toNat false) (by omega) (by omega) (by simp; omega) (fun p _ _ => by rw [hrepb]; simp)
  have hc : ∀ p, cnt N W (fun q => q ∈ ([] : List Int)) p = ((ix N p).filter (fun q => ix W q)).length := fun p => by
    unfold cnt
    congr 2
    refine List.filter_congr fun q _ => ?_
    simp
  have h0 : AInv n O N W player to mv0 (fun _ q => q ∈ ([] : List Int)) ([] ++ to) (fun _ => -1) inn left mv0 := by
    refine ⟨hi1, hl1, hmv, hi2, hnd, hto, fun p _ => by omega, fun p hp hn => absurd hp hn, fun _ _ _ _ => rfl, fun p hp _ => ⟨?_, fun _ q _ h => (by cases h), fun _ => ?_⟩, fun p hp => hp⟩
    · rw [hl2 p hp.1 hp.2.1, hc]
    · obtain ⟨q, hq, hWq⟩ := hcl p hp
      exact ⟨q, hq, hWq, fun h => (by cases h)⟩
  obtain ⟨inn', left', mv', rk', L, e3, h3⟩ := L19_spec g hW hwl _ [] to inn left mv0 _ rfl h0
  have hIn : ∀ p, In n inn' p ↔ p ∈ L := fun p => ⟨fun h => (h3.i p h.1 h.2.1).1 h.2.2, fun h => by have hs := h3.sub p h; exact ⟨hs.1, hs.2.1, (h3.i p hs.1 hs.2.1).2 h⟩⟩
  refine ⟨inn', mv', rk', ?_, h3.li, h3.lv, fun p hp => h3.sub p ((hIn p).1 hp), fun p hp => (hIn p).2 (h3.tos p hp), fun p hp hpt => ?_, fun p p0 p1 h => ?_, fun p hp hpi => ?_⟩
  · unfold game_solver_attracted
    rw [G_pos (by unfold mkOK; omega), G_pos (by unfold mkOK; omega), e1, e2]
    exact e3
  · obtain ⟨s1, s2⟩ := h3.st p ((hIn p).1 hp) hpt
    refine ⟨fun c => ?_, fun c q hq hW => ?_⟩
    · obtain ⟨g1, g2, g3⟩ := s1 c
      exact ⟨g1, (hIn _).2 g2, g3⟩
    · obtain ⟨g1, g2⟩ := s2 c q hq hW
      exact ⟨(hIn _).2 g1, g2⟩
  · exact h3.mv' p p0 p1 (h.imp (fun h h' => h ((hIn p).2 h').2.2) id)
  · have hpL : p ∉ L := fun h => hpi ((hIn p).2 h).2.2
    obtain ⟨_, l2, l3⟩ := h3.lf p hp hpL
    refine ⟨fun c q hq hi => ?_, fun c => ?_⟩
    · have hr := g.rng p hp.1 hp.2.1 q hq
      exact l2 c q hq ((hIn q).1 ⟨hr.1, hr.2, hi⟩)
    · obtain ⟨q, hq, hWq, hn⟩ := l3 c
      have hr := g.rng p hp.1 hp.2.1 q hq
      exact ⟨q, hq, hWq, fun hi => hn ((hIn q).1 ⟨hr.1, hr.2, hi⟩)⟩
end

/- who wins: the plain law -/
inductive Rch (E : Int → Int → Prop) (ok : Int → Prop) (p : Int) : Int → Prop
  | one {q : Int} (h : E p q) : Rch E ok p q
  | more {q r : Int} (h : Rch E ok p q) (k : ok q) (e : E q r) : Rch E ok p r
def Ed (N : List (List Int)) (O : List Int) (W : List Bool) (mv : List Int) (i p q : Int) : Prop := q ∈ ix N p ∧ ix W q = true ∧ (ix O p = i → q = ix mv p)
structure Post (n : Int) (O M : List Int) (N : List (List Int)) (W : List Bool) (win0 mv0 win mv : List Int) : Prop where
  lw : (win.length : Int) = n
  lv : (mv.length : Int) = n
  out : ∀ p : Int, 0 ≤ p → p < n → ¬ ix W p = true → ix win p = ix win0 p ∧ ix mv p = ix mv0 p
  two : ∀ p, In n W p → ix win p = 0 ∨ ix win p = 1
  own : ∀ p, In n W p → ix O p = ix win p → ix mv p ∈ ix N p ∧ In n W (ix mv p) ∧ ix win (ix mv p) = ix win p
  oth : ∀ p, In n W p → ¬ ix O p = ix win p → ∀ q ∈ ix N p, ix W q = true → ix win q = ix win p
  cyc : ∀ p, In n W p → ¬ Int.tmod (ix M p) 2 = ix win p → ¬ Rch (Ed N O W mv (ix win p)) (fun q => ix M p ≤ ix M q) p p
def Closed (n : Int) (N : List (List Int)) (W : List Bool) : Prop := ∀ p, In n W p → ∃ q ∈ ix N p, ix W q = true
section
variable {n : Int} {O M : List Int} {N B : List (List Int)} {W R near gone : List Bool} {player : Int} {win0 mv0 mv1 win2 mv2 best : List Int} {rk : Int → Int}
theorem closed_rest (g : GG n O M N B) (hc : Closed n N W) {to : List Int} (ha : Attr n O N W player to mv0 near mv1 rk) (hR : ∀ p : Int, 0 ≤ p → p < n → (ix R p = true ↔ ix W p = true ∧ ¬ ix near p = true)) : Closed n N R := by
  intro p hp
  have h := (hR p hp.1 hp.2.1).1 hp.2.2
  have hW : In n W p := ⟨hp.1, hp.2.1, h.1⟩
  obtain ⟨o1, o2⟩ := ha.out p hW h.2
  by_cases c : ix O p = player
  · obtain ⟨q, hq, hWq⟩ := hc p hW
    have hr := g.rng p hp.1 hp.2.1 q hq
    exact ⟨q, hq, (hR q hr.1 hr.2).2 ⟨hWq, o1 c q hq⟩⟩
  · obtain ⟨q, hq, h1, h2⟩ := o2 c
    have hr := g.rng p hp.1 hp.2.1 q hq
    exact ⟨q, hq, (hR q hr.1 hr.2).2 ⟨h1, h2⟩⟩
theorem all_won (g : GG n O M N B) (hplay : player = 0 ∨ player = 1) {least : Int} (hlp : Int.tmod least 2 = player) (hle : ∀ p, In n W p → least ≤ ix M p) (hbest : ∀ p, p ∈ best ↔ In n W p ∧ ix M p = least) (ha : Attr n O N W player best mv0 near mv1 rk)
    (hR : ∀ p : Int, 0 ≤ p → p < n → (ix R p = true ↔ ix W p = true ∧ ¬ ix near p = true)) (hp : Post n O M N R win0 mv1 win2 mv2) (hall : ∀ p, In n R p → ix win2 p = player) {win3 mv3 : List Int} (hl3 : (win3.length : Int) = n) (hv3 : (mv3.length : Int) = n)
    (hw3 : ∀ p : Int, 0 ≤ p → p < n → ix win3 p = if ix W p = true then player else ix win2 p) (hm3 : ∀ p : Int, 0 ≤ p → p < n → (p ∈ best ∧ ix O p = player → ix mv3 p ∈ ix N p ∧ ix W (ix mv3 p) = true) ∧ (¬ (p ∈ best ∧ ix O p = player) → ix mv3 p = ix mv2 p)) : Post n O M N W win0 mv0 win3 mv3 := by
  have hW3 : ∀ p, In n W p → ix win3 p = player := fun p hp => by rw [hw3 p hp.1 hp.2.1, if_pos hp.2.2]
  have hnr : ∀ p, In n near p → ¬ ix R p = true := fun p hn h => ((hR p hn.1 hn.2.1).1 h).2 hn.2.2
  have hRW : ∀ p, In n R p → In n W p := fun p h => ⟨h.1, h.2.1, ((hR p h.1 h.2.1).1 h.2.2).1⟩
  have hsplit : ∀ p, In n W p → In n near p ∨ In n R p := fun p h => by
    by_cases c : ix near p = true
    · exact .inl ⟨h.1, h.2.1, c⟩
    · exact .inr ⟨h.1, h.2.1, (hR p h.1 h.2.1).2 ⟨h.2.2, c⟩⟩
  -- the moves
  have mvR : ∀ p, In n R p → ix mv3 p = ix mv2 p := fun p h => (hm3 p h.1 h.2.1).2 (fun hb => hnr p (ha.tos p hb.1) h.2.2)
  have mvN : ∀ p, In n near p → p ∉ best → ix mv3 p = ix mv1 p := fun p h hb => by
    rw [(hm3 p h.1 h.2.1).2 (fun hb' => hb hb'.1)]
    exact (hp.out p h.1 h.2.1 (hnr p h)).2
  have hown : ∀ p, In n W p → ix O p = player → ix mv3 p ∈ ix N p ∧ In n W (ix mv3 p) := by
    intro p h ho
    have key : ix mv3 p ∈ ix N p ∧ ix W (ix mv3 p) = true := by
      by_cases hb : p ∈ best
      · exact (hm3 p h.1 h.2.1).1 ⟨hb, ho⟩
      · rcases hsplit p h with hn | hr
        · rw [mvN p hn hb]
          obtain ⟨g1, g2, _⟩ := (ha.st p hn hb).1 ho
          exact ⟨g1, (ha.sub _ g2).2.2⟩
        · rw [mvR p hr]
          obtain ⟨g1, g2, _⟩ := hp.own p hr (by rw [hall p hr]; exact ho)
          exact ⟨g1, (hRW _ g2).2.2⟩
    have hr := g.rng p h.1 h.2.1 _ key.1
    exact ⟨key.1, hr.1, hr.2, key.2⟩
  refine ⟨hl3, hv3, fun p p0 p1 hpW => ?_, fun p h => by rw [hW3 p h]; exact hplay, fun p h ho => ?_, fun p h ho q hq hWq => ?_, fun p h hpar => ?_⟩
  · have h1 : ¬ ix R p = true := fun h => hpW ((hR p p0 p1).1 h).1
    have h2 : ¬ ix near p = true := fun h => hpW (ha.sub p ⟨p0, p1, h⟩).2.2
    have hb : p ∉ best := fun h => hpW ((hbest p).1 h).1.2.2
    obtain ⟨o1, o2⟩ := hp.out p p0 p1 h1
    rw [hw3 p p0 p1, if_neg hpW, (hm3 p p0 p1).2 (fun h => hb h.1), o1, o2]
    exact ⟨rfl, ha.mv' p p0 p1 (.inl h2)⟩
  · rw [hW3 p h] at ho ⊢
    obtain ⟨h1, h2⟩ := hown p h ho
    exact ⟨h1, h2, hW3 _ h2⟩
  · have hr := g.rng p h.1 h.2.1 q hq
    rw [hW3 p h, hW3 q ⟨hr.1, hr.2, hWq⟩]
  · rw [hW3 p h] at hpar ⊢
    intro hcy
    have hgt : least < ix M p := by
      have := hle p h
      rcases Int.lt_or_eq_of_le this with h | h
      · exact h
      · rw [← h] at hpar; exact absurd hlp hpar
    have nb : ∀ q, ix M p ≤ ix M q → q ∉ best := fun q hq hb => by have := ((hbest q).1 hb).2; omega
    -- from what is near one comes nearer
    have nearer : ∀ q r, In n near q → ix M p ≤ ix M q → Ed N O W mv3 player q r → In n near r ∧ rk r < rk q := by
      rintro q r hq hm ⟨e1, e2, e3⟩
      have hb := nb q hm
      obtain ⟨s1, s2⟩ := ha.st q hq hb
      by_cases c : ix O q = player
      · rw [e3 c, mvN q hq hb]
        exact (s1 c).2
      · exact s2 c r e1 e2
    rcases hsplit p h with hn | hr
    · have : ∀ q, Rch (Ed N O W mv3 player) (fun q => ix M p ≤ ix M q) p q → In n near q ∧ rk q < rk p := by
        intro q hq
        induction hq with
        | one e => exact nearer p _ hn (Int.le_refl _) e
        | more _ k e ih =>
          obtain ⟨i1, i2⟩ := ih
          obtain ⟨j1, j2⟩ := nearer _ _ i1 k e
          exact ⟨j1, by omega⟩
      have := (this p hcy).2
      omega
    · have step : ∀ q r, In n R q → Ed N O W mv3 player q r → In n near r ∨ (In n R r ∧ Ed N O R mv2 player q r) := by
        rintro q r hq ⟨e1, e2, e3⟩
        have hrr := g.rng q hq.1 hq.2.1 r e1
        rcases hsplit r ⟨hrr.1, hrr.2, e2⟩ with h | h
        · exact .inl h
        · exact .inr ⟨h, e1, h.2.2, fun c => by rw [e3 c, mvR q hq]⟩
      have : ∀ q, Rch (Ed N O W mv3 player) (fun q => ix M p ≤ ix M q) p q → In n near q ∨ (In n R q ∧ Rch (Ed N O R mv2 player) (fun q => ix M p ≤ ix M q) p q) := by
        intro q hq
        induction hq with
        | one e =>
          rcases step p _ hr e with h | ⟨h1, h2⟩
          · exact .inl h
          · exact .inr ⟨h1, .one h2⟩
        | more _ k e ih =>
          rcases ih with ih | ⟨i1, i2⟩
          · exact .inl (nearer _ _ ih k e).1
          · rcases step _ _ i1 e with h | ⟨h1, h2⟩
            · exact .inl h
            · exact .inr ⟨h1, .more i2 k h2⟩
      rcases this p hcy with h' | ⟨_, h'⟩
      · exact hnr p h' hr.2.2
      · have hw := hall p hr
        exact hp.cyc p hr (by rw [hw]; exact hpar) (by rw [hw]; exact h')
theorem some_lost (g : GG n O M N B) (hplay : player = 0 ∨ player = 1) (ha : Attr n O N W player best mv0 near mv1 rk) (hR : ∀ p : Int, 0 ≤ p → p < n → (ix R p = true ↔ ix W p = true ∧ ¬ ix near p = true)) (hp : Post n O M N R win0 mv1 win2 mv2)
    {lost : List Int} (hlost : ∀ p, p ∈ lost ↔ In n R p ∧ ¬ ix win2 p = player) {mv3 : List Int} {rk2 : Int → Int} (hg : Attr n O N W (1 - player) lost mv2 gone mv3 rk2) {win4 win5 mv5 : List Int} {R2 : List Bool}
    (hw4 : ∀ p : Int, 0 ≤ p → p < n → ix win4 p = if ix gone p = true then 1 - player else ix win2 p) (hR2 : ∀ p : Int, 0 ≤ p → p < n → (ix R2 p = true ↔ ix W p = true ∧ ¬ ix gone p = true)) (hq : Post n O M N R2 win4 mv3 win5 mv5) : Post n O M N W win0 mv0 win5 mv5 := by
  have hRW : ∀ p, In n R p → In n W p := fun p h => ⟨h.1, h.2.1, ((hR p h.1 h.2.1).1 h.2.2).1⟩
  have hR2W : ∀ p, In n R2 p → In n W p := fun p h => ⟨h.1, h.2.1, ((hR2 p h.1 h.2.1).1 h.2.2).1⟩
  have hgR2 : ∀ p, In n gone p → ¬ ix R2 p = true := fun p hn h => ((hR2 p hn.1 hn.2.1).1 h).2 hn.2.2
  have hsplit : ∀ p, In n W p → In n gone p ∨ In n R2 p := fun p h => by
    by_cases c : ix gone p = true
    · exact .inl ⟨h.1, h.2.1, c⟩
    · exact .inr ⟨h.1, h.2.1, (hR2 p h.1 h.2.1).2 ⟨h.2.2, c⟩⟩
  have wG : ∀ p, In n gone p → ix win5 p = 1 - player := fun p h => by
    rw [(hq.out p h.1 h.2.1 (hgR2 p h)).1, hw4 p h.1 h.2.1, if_pos h.2.2]
  have mG : ∀ p, In n gone p → ix mv5 p = ix mv3 p := fun p h => (hq.out p h.1 h.2.1 (hgR2 p h)).2
  have lostR : ∀ p, p ∈ lost → In n R p := fun p h => ((hlost p).1 h).1
  have lostG : ∀ p, p ∈ lost → In n gone p := hg.tos
  have w2 : ∀ p, p ∈ lost → ix win2 p = 1 - player := fun p h => by
    have h' := (hlost p).1 h
    have := hp.two p h'.1
    have := h'.2
    omega
  have ownv : ∀ p : Int, 0 ≤ p → p < n → (¬ ix O p = player ↔ ix O p = 1 - player) := fun p p0 p1 => by
    have := g.own p p0 p1; omega
  have mL : ∀ p, p ∈ lost → ix mv5 p = ix mv2 p := fun p h => by
    have hG := lostG p h
    rw [mG p hG]
    exact hg.mv' p hG.1 hG.2.1 (.inr h)
  -- from what is lost one stays in it
  have stay : ∀ p r, p ∈ lost → Ed N O W mv5 (1 - player) p r → r ∈ lost ∧ Ed N O R mv2 (1 - player) p r := by
    rintro p r h ⟨e1, e2, e3⟩
    have hr := lostR p h
    have hrr := g.rng p hr.1 hr.2.1 r e1
    have hRp := (hR p hr.1 hr.2.1).1 hr.2.2
    by_cases c : ix O p = player
    · -- no way to what is near
      have hnear := (ha.out p (hRW p hr) hRp.2).1 c r e1
      have hRr : In n R r := ⟨hrr.1, hrr.2, (hR r hrr.1 hrr.2).2 ⟨e2, hnear⟩⟩
      have hw := w2 p h
      have hwr := hp.oth p hr (by omega) r e1 hRr.2.2
      refine ⟨(hlost r).2 ⟨hRr, by omega⟩, e1, hRr.2.2, fun c' => ?_⟩
      omega
    · have c' := (ownv p hr.1 hr.2.1).1 c
      have hw := w2 p h
      obtain ⟨s1, s2, s3⟩ := hp.own p hr (by omega)
      have er : r = ix mv2 p := by rw [e3 c', mL p h]
      rw [er]
      exact ⟨(hlost _).2 ⟨s2, by omega⟩, s1, s2.2.2, fun _ => rfl⟩
  have nearer : ∀ q r, In n gone q → q ∉ lost → Ed N O W mv5 (1 - player) q r → In n gone r ∧ rk2 r < rk2 q := by
    rintro q r hq' hl ⟨e1, e2, e3⟩
    obtain ⟨s1, s2⟩ := hg.st q hq' hl
    by_cases c : ix O q = 1 - player
    · rw [e3 c, mG q hq']
      exact (s1 c).2
    · exact s2 c r e1 e2
  have goneG : ∀ q r, In n gone q → Ed N O W mv5 (1 - player) q r → In n gone r := fun q r hq' e => by
    by_cases hl : q ∈ lost
    · exact lostG r (stay q r hl e).1
    · exact (nearer q r hq' hl e).1
  refine ⟨hq.lw, hq.lv, fun p p0 p1 hpW => ?_, fun p h => ?_, fun p h ho => ?_, fun p h ho r hr hWr => ?_, fun p h hpar => ?_⟩
  · have h1 : ¬ ix R p = true := fun h => hpW ((hR p p0 p1).1 h).1
    have h2 : ¬ ix near p = true := fun h => hpW (ha.sub p ⟨p0, p1, h⟩).2.2
    have h3 : ¬ ix R2 p = true := fun h => hpW ((hR2 p p0 p1).1 h).1
    have h4 : ¬ ix gone p = true := fun h => hpW (hg.sub p ⟨p0, p1, h⟩).2.2
    obtain ⟨o1, o2⟩ := hq.out p p0 p1 h3
    obtain ⟨o3, o4⟩ := hp.out p p0 p1 h1
    rw [o1, o2, hw4 p p0 p1, if_neg h4, o3, hg.mv' p p0 p1 (.inl h4), o4, ha.mv' p p0 p1 (.inl h2)]
    exact ⟨rfl, rfl⟩
  · rcases hsplit p h with h | h
    · rw [wG p h]; omega
    · exact hq.two p h
  · rcases hsplit p h with hG | h2
    · rw [wG p hG] at ho ⊢
      rw [mG p hG]
      by_cases hl : p ∈ lost
      · have hr := lostR p hl
        have hw := w2 p hl
        obtain ⟨s1, s2, s3⟩ := hp.own p hr (by omega)
        have em : ix mv3 p = ix mv2 p := hg.mv' p hG.1 hG.2.1 (.inr hl)
        rw [em]
        have hl2 : ix mv2 p ∈ lost := (hlost _).2 ⟨s2, by omega⟩
        exact ⟨s1, hRW _ s2, wG _ (lostG _ hl2)⟩
      · obtain ⟨s1, s2, _⟩ := (hg.st p hG hl).1 ho
        exact ⟨s1, hg.sub _ s2, wG _ s2⟩
    · obtain ⟨s1, s2, s3⟩ := hq.own p h2 ho
      exact ⟨s1, hR2W _ s2, s3⟩
  · have hrr := g.rng p h.1 h.2.1 r hr
    rcases hsplit p h with hG | h2
    · rw [wG p hG] at ho ⊢
      exact wG r (goneG p r hG ⟨hr, hWr, fun c => absurd c ho⟩)
    · by_cases cg : ix gone r = true
      · -- a way into what is gone
        have hG : In n gone r := ⟨hrr.1, hrr.2, cg⟩
        have hp2 := (hR2 p h2.1 h2.2.1).1 h2.2.2
        have ho2 : ¬ ix O p = 1 - player := fun c => (hg.out p h hp2.2).1 c r hr cg
        rw [wG r hG]
        have := hq.two p h2
        have := g.own p h.1 h.2.1
        omega
      · exact hq.oth p h2 ho r hr ((hR2 r hrr.1 hrr.2).2 ⟨hWr, cg⟩)
  · intro hcy
    rcases hsplit p h with hG | h2
    · rw [wG p hG] at hpar hcy
      by_cases hl : p ∈ lost
      · have : ∀ q, Rch (Ed N O W mv5 (1 - player)) (fun q => ix M p ≤ ix M q) p q → q ∈ lost ∧ Rch (Ed N O R mv2 (1 - player)) (fun q => ix M p ≤ ix M q) p q := by
          intro q hq'
          induction hq' with
          | one e =>
            obtain ⟨a, b⟩ := stay p _ hl e
            exact ⟨a, .one b⟩
          | more _ k e ih =>
            obtain ⟨a, b⟩ := stay _ _ ih.1 e
            exact ⟨a, .more ih.2 k b⟩
        have hw := w2 p hl
        exact hp.cyc p (lostR p hl) (by rw [hw]; exact hpar) (by rw [hw]; exact (this p hcy).2)
      · have : ∀ q, Rch (Ed N O W mv5 (1 - player)) (fun q => ix M p ≤ ix M q) p q → q ∈ lost ∨ (In n gone q ∧ rk2 q < rk2 p) := by
          intro q hq'
          induction hq' with
          | one e => exact .inr (nearer p _ hG hl e)
          | @more q r _ k e ih =>
            by_cases hl' : q ∈ lost
            · exact .inl (stay q r hl' e).1
            · obtain ⟨i1, i2⟩ := ih.resolve_left hl'
              obtain ⟨j1, j2⟩ := nearer q r i1 hl' e
              exact .inr ⟨j1, by omega⟩
        rcases this p hcy with h' | ⟨_, h'⟩
        · exact hl h'
        · omega
    · have hp2 := (hR2 p h2.1 h2.2.1).1 h2.2.2
      have h5 := hq.two p h2
      by_cases cw : ix win5 p = player
      · have : ∀ q, Rch (Ed N O W mv5 (ix win5 p)) (fun q => ix M p ≤ ix M q) p q → In n R2 q ∧ ix win5 q = ix win5 p ∧ Rch (Ed N O R2 mv5 (ix win5 p)) (fun q => ix M p ≤ ix M q) p q := by
          have st : ∀ q r, In n R2 q → ix win5 q = ix win5 p → Ed N O W mv5 (ix win5 p) q r → In n R2 r ∧ ix win5 r = ix win5 p ∧ Ed N O R2 mv5 (ix win5 p) q r := by
            rintro q r hq2 hw ⟨e1, e2, e3⟩
            have hrr := g.rng q hq2.1 hq2.2.1 r e1
            have hq2' := (hR2 q hq2.1 hq2.2.1).1 hq2.2.2
            by_cases c : ix O q = ix win5 p
            · obtain ⟨s1, s2, s3⟩ := hq.own q hq2 (by rw [hw]; exact c)
              have er := e3 c
              rw [er]
              exact ⟨s2, by rw [s3, hw], s1, s2.2.2, fun _ => rfl⟩
            · have ho := g.own q hq2.1 hq2.2.1
              have hng : ¬ ix gone r = true := (hg.out q (hR2W q hq2) hq2'.2).1 (by omega) r e1
              have hr2 : In n R2 r := ⟨hrr.1, hrr.2, (hR2 r hrr.1 hrr.2).2 ⟨e2, hng⟩⟩
              refine ⟨hr2, ?_, e1, hr2.2.2, fun c' => absurd c' c⟩
              rw [← hw]
              exact hq.oth q hq2 (by rw [hw]; exact c) r e1 hr2.2.2
          intro q hq'
          induction hq' with
          | one e =>
            obtain ⟨a, b, d⟩ := st p _ h2 rfl e
            exact ⟨a, b, .one d⟩
          | more _ k e ih =>
            obtain ⟨a, b, d⟩ := st _ _ ih.1 ih.2.1 e
            exact ⟨a, b, .more ih.2.2 k d⟩
        exact hq.cyc p h2 hpar (this p hcy).2.2
      · have ew : ix win5 p = 1 - player := by omega
        rw [ew] at hcy
        have : ∀ q, Rch (Ed N O W mv5 (1 - player)) (fun q => ix M p ≤ ix M q) p q → In n gone q ∨ (In n R2 q ∧ Rch (Ed N O R2 mv5 (1 - player)) (fun q => ix M p ≤ ix M q) p q) := by
          have st : ∀ q r, In n R2 q → Ed N O W mv5 (1 - player) q r → In n gone r ∨ (In n R2 r ∧ Ed N O R2 mv5 (1 - player) q r) := by
            rintro q r hq2 ⟨e1, e2, e3⟩
            have hrr := g.rng q hq2.1 hq2.2.1 r e1
            rcases hsplit r ⟨hrr.1, hrr.2, e2⟩ with h | h
            · exact .inl h
            · exact .inr ⟨h, e1, h.2.2, e3⟩
          intro q hq'
          induction hq' with
          | one e =>
            rcases st p _ h2 e with h | ⟨a, b⟩
            · exact .inl h
            · exact .inr ⟨a, .one b⟩
          | more _ k e ih =>
            rcases ih with ih | ⟨i1, i2⟩
            · exact .inl (goneG _ _ ih e)
            · rcases st _ _ i1 e with h | ⟨a, b⟩
              · exact .inl h
              · exact .inr ⟨a, .more i2 k b⟩
        rcases this p hcy with h' | ⟨_, h'⟩
        · exact hgR2 p h' h2.2.2
        · exact hq.cyc p h2 hpar (by rw [ew]; exact h')
end

section
variable {n : Int} {O M : List Int} {N B : List (List Int)} {W : List Bool} {win mv : List Int}
theorem slices_Clone_1_spec {s : List Bool} (hs : s.length ≤ 140737488355328) : slices_Clone_1 s = some s := by
  have hr : G (room ([] : List Bool) s 1) (some (([] : List Bool) ++ s)) = some s := by
    rw [G_pos (room_of (by simpa using hs))]; rfl
  unfold slices_Clone_1
  refine itep_to (fun h => ?_) (fun h => hr)
  obtain rfl : s = [] := List.length_eq_zero_iff.1 h
  rw [hr]; exact both_self (ts := [(.list .bool)]) (some ([] : List Bool))
theorem without_spec {a b : List Bool} (hn : 0 ≤ n ∧ n ≤ 1000000) (ha : (a.length : Int) = n) (hb : (b.length : Int) = n) : ∃ r, game_without a b = some r ∧ (r.length : Int) = n ∧ ∀ p : Int, 0 ≤ p → p < n → (ix r p = true ↔ ix a p = true ∧ ¬ ix b p = true) := by
  have key : ∀ (m : Nat) (t : Int) (out : List Bool), 0 ≤ t → t + m = n → (out.length : Int) = n → (∀ p : Int, 0 ≤ p → p < t → (ix out p = true ↔ ix a p = true ∧ ¬ ix b p = true)) →
      ∃ r, game_without_L3 a b t out = some r ∧ (r.length : Int) = n ∧ ∀ p : Int, 0 ≤ p → p < n → (ix r p = true ↔ ix a p = true ∧ ¬ ix b p = true) := by
    intro m
    induction m with
    | zero =>
      intro t out t0 ht hl h
      refine ⟨out, ?_, hl, fun p p0 p1 => h p p0 (by omega)⟩
      rw [game_without_L3_eq]; unfold game_without_L3_B
      rw [if_neg (by simp only [decide_eq_true_eq]; omega)]
    | succ m ih =>
      intro t out t0 ht hl h
      have step : ∀ v : Bool, (v = true ↔ ix a t = true ∧ ¬ ix b t = true) → ∀ p : Int, 0 ≤ p → p < t + 1 → (ix (out.set t.toNat v) p = true ↔ ix a p = true ∧ ¬ ix b p = true) := by
        intro v hv p p0 p1
        by_cases c : t = p
        · subst c; rw [ix_set_same t0 (by omega)]; exact hv
        · rw [ix_set_ne t0 p0 c]; exact h p p0 (by omega)
      conv => arg 1; ext r; arg 1; lhs; rw [game_without_L3_eq]; unfold game_without_L3_B
      rw [if_pos (decide_eq_true (by omega)), G_pos (by omega)]
      by_cases c : ix a t = true
      · rw [if_pos c, G_pos (by omega), G_pos (by omega), G_pos (by omega), G_pos (by unfold fits; omega)]
        exact ih (t + 1) _ (by omega) (by omega) (by simpa using hl) (step _ (by simp [c]))
      · rw [if_neg c, G_pos (by omega), G_pos (by omega), G_pos (by unfold fits; omega)]
        exact ih (t + 1) _ (by omega) (by omega) (by simpa using hl) (step _ (by simp [c]))
  obtain ⟨r, e, h⟩ := key n.toNat 0 a (by omega) (by omega) ha (fun p p0 p1 => by omega)
  exact ⟨r, by unfold game_without; exact bind_to (slices_Clone_1_spec (by omega)) e, h⟩
abbrev RC := List Int → List Int → List (List Int) → List (List Int) → List Bool → List Int → List Int → Option (List Int × List Int × List (List Int) × List (List Int) × List Int × List Int × List Bool)
def LI (n : Int) (M : List Int) (W : List Bool) (t least : Int) : Prop := (least = -1 ∧ ∀ p, In n W p → ¬ p < t) ∨ (0 ≤ least ∧ (∃ p, In n W p ∧ ix M p = least) ∧ ∀ p, In n W p → p < t → least ≤ ix M p)
theorem L3_spec (g : GG n O M N B) (hW : (W.length : Int) = n) {rc : RC} : ∃ least, game_solver_solve_L3 rc O M N B W win mv (-1) 0 = game_solver_solve_L3 rc O M N B W win mv least n ∧ LI n M W n least := by
  have hn1 := g.n1; have hlm := g.lm
  have key : ∀ (m : Nat) (t least : Int), 0 ≤ t → t + m = n → LI n M W t least → ∃ least', game_solver_solve_L3 rc O M N B W win mv least t = game_solver_solve_L3 rc O M N B W win mv least' n ∧ LI n M W n least' := by
    intro m
    induction m with
    | zero =>
      intro t least t0 ht h
      obtain rfl : t = n := by omega
      exact ⟨least, rfl, h⟩
    | succ m ih =>
      intro t least t0 ht h
      have hm := g.mrk t t0 (by omega)
      have hgo : ∀ l2, LI n M W (t + 1) l2 → game_solver_solve_L3 rc O M N B W win mv least t = game_solver_solve_L3 rc O M N B W win mv l2 (t + 1) → ∃ least', game_solver_solve_L3 rc O M N B W win mv least t = game_solver_solve_L3 rc O M N B W win mv least' n ∧ LI n M W n least' := by
        intro l2 h2 e
        obtain ⟨l', e', h'⟩ := ih (t + 1) l2 (by omega) (by omega) h2
        exact ⟨l', e.trans e', h'⟩
      have e0 : ∀ X, game_solver_solve_L3_B rc O M N B W win mv (game_solver_solve_L3 rc O M N B W win mv) least t = X → game_solver_solve_L3 rc O M N B W win mv least t = X := fun X h => by rw [game_solver_solve_L3_eq]; exact h
      by_cases c1 : ix W t = true
      · have hIn : In n W t := ⟨t0, by omega, c1⟩
        have take : (least < 0 ∨ ix M t < least) → LI n M W (t + 1) (ix M t) := by
          intro hc
          refine .inr ⟨hm, ⟨t, hIn, rfl⟩, fun p hp hlt => ?_⟩
          by_cases e : p = t
          · rw [e]; exact Int.le_refl _
          · rcases h with ⟨h1, h2⟩ | ⟨h1, h2, h3⟩
            · exact absurd (by omega) (h2 p hp)
            · have := h3 p hp (by omega); omega
        by_cases c2 : least < 0
        · refine hgo (ix M t) (take (.inl c2)) (e0 _ ?_)
          unfold game_solver_solve_L3_B
          rw [if_pos (decide_eq_true (by omega)), G_pos (by omega), G_pos (by omega), if_pos c1, if_pos (decide_eq_true c2), G_pos (by omega), G_pos (by unfold fits; omega)]
        · by_cases c3 : ix M t < least
          · refine hgo (ix M t) (take (.inr c3)) (e0 _ ?_)
            unfold game_solver_solve_L3_B
            rw [if_pos (decide_eq_true (by omega)), G_pos (by omega), G_pos (by omega), if_pos c1, if_neg (by simpa using c2), G_pos (by omega), if_pos (decide_eq_true c3), G_pos (by omega), G_pos (by unfold fits; omega)]
          · refine hgo least ?_ (e0 _ ?_)
            · rcases h with ⟨h1, h2⟩ | ⟨h1, h2, h3⟩
              · omega
              · refine .inr ⟨h1, h2, fun p hp hlt => ?_⟩
                by_cases e : p = t
                · rw [e]; omega
                · exact h3 p hp (by omega)
            · unfold game_solver_solve_L3_B
              rw [if_pos (decide_eq_true (by omega)), G_pos (by omega), G_pos (by omega), if_pos c1, if_neg (by simpa using c2), G_pos (by omega), if_neg (by simpa using c3), G_pos (by unfold fits; omega)]
      · have hne : ∀ p, In n W p → p < t + 1 → p < t := fun p hp hlt => by
          by_cases e : p = t
          · rw [e] at hp; exact absurd hp.2.2 c1
          · omega
        refine hgo least (h.imp (fun h => ⟨h.1, fun p hp hlt => h.2 p hp (hne p hp hlt)⟩) (fun h => ⟨h.1, h.2.1, fun p hp hlt => h.2.2 p hp (hne p hp hlt)⟩)) (e0 _ ?_)
        unfold game_solver_solve_L3_B
        rw [if_pos (decide_eq_true (by omega)), G_pos (by omega), G_pos (by omega), if_neg c1, G_pos (by unfold fits; omega)]
  exact key n.toNat 0 (-1) (by omega) (by omega) (.inl ⟨rfl, fun p hp => by unfold In at hp; omega⟩)
/-- A list of all places of a kind, in order. -/
structure Lst (P : Int → Prop) (t : Int) (l : List Int) : Prop where
  mem : ∀ p : Int, p ∈ l ↔ 0 ≤ p ∧ p < t ∧ P p
  nd : l.Nodup
theorem Lst.len {P : Int → Prop} {t : Int} {l : List Int} (h : Lst P t l) (t0 : 0 ≤ t) : (l.length : Int) ≤ t := by
  have := pigeon_int (n := t.toNat) h.nd (fun x hx => by have := (h.mem x).1 hx; omega)
  omega
theorem Lst.nil {P : Int → Prop} : Lst P 0 [] := ⟨fun p => ⟨fun h => (by cases h), fun h => by omega⟩, by simp⟩
theorem Lst.put {P : Int → Prop} {t : Int} {l : List Int} (h : Lst P t l) (t0 : 0 ≤ t) (hp : P t) : Lst P (t + 1) (l ++ [t]) := by
  refine ⟨fun p => ?_, ?_⟩
  · rw [List.mem_append, h.mem, List.mem_singleton]
    constructor
    · rintro (⟨h1, h2, h3⟩ | rfl)
      · exact ⟨h1, by omega, h3⟩
      · exact ⟨t0, by omega, hp⟩
    · rintro ⟨h1, h2, h3⟩
      by_cases e : p = t
      · exact .inr e
      · exact .inl ⟨h1, by omega, h3⟩
  · rw [List.nodup_append]
    exact ⟨h.nd, by simp, fun a ha b hb => by rw [List.mem_singleton] at hb; subst hb; have := (h.mem a).1 ha; omega⟩
theorem Lst.not {P : Int → Prop} {t : Int} {l : List Int} (h : Lst P t l) (hp : ¬ P t) : Lst P (t + 1) l := by
  refine ⟨fun p => ?_, h.nd⟩
  rw [h.mem]
  constructor
  · rintro ⟨h1, h2, h3⟩; exact ⟨h1, by omega, h3⟩
  · rintro ⟨h1, h2, h3⟩
    by_cases e : p = t
    · rw [e] at h3; exact absurd h3 hp
    · exact ⟨h1, by omega, h3⟩
theorem L12_spec (g : GG n O M N B) (hW : (W.length : Int) = n) {rc : RC} {least : Int} : ∃ best, game_solver_solve_L12 rc O M N B W win mv least 0 [] = game_solver_solve_L12 rc O M N B W win mv least n best ∧ Lst (fun p => ix W p = true ∧ ix M p = least) n best := by
  have hn1 := g.n1; have hlm := g.lm
  have key : ∀ (m : Nat) (t : Int) (l : List Int), 0 ≤ t → t + m = n → Lst (fun p => ix W p = true ∧ ix M p = least) t l → ∃ best, game_solver_solve_L12 rc O M N B W win mv least t l = game_solver_solve_L12 rc O M N B W win mv least n best ∧ Lst (fun p => ix W p = true ∧ ix M p = least) n best := by
    intro m
    induction m with
    | zero =>
      intro t l t0 ht h
      obtain rfl : t = n := by omega
      exact ⟨l, rfl, h⟩
    | succ m ih =>
      intro t l t0 ht h
      have hll := h.len t0
      have hJ : ∀ b : Bool, game_solver_solve_J14 t l (game_solver_solve_L12 rc O M N B W win mv least) b = game_solver_solve_L12 rc O M N B W win mv least (t + 1) (if b = true then l ++ [t] else l) := by
        intro b
        unfold game_solver_solve_J14
        cases b with
        | true => rw [if_pos rfl, if_pos rfl, G_pos (by unfold room; simp; omega), G_pos (by unfold fits; omega)]
        | false => rw [if_neg (by decide), if_neg (by decide), G_pos (by unfold fits; omega)]
      conv => arg 1; ext best; arg 1; lhs; rw [game_solver_solve_L12_eq]; unfold game_solver_solve_L12_B
      rw [if_pos (decide_eq_true (by omega)), G_pos (by omega), G_pos (by omega)]
      by_cases c1 : ix W t = true
      · rw [if_pos c1, G_pos (by omega), hJ]
        by_cases c2 : ix M t = least
        · rw [if_pos (decide_eq_true c2)]
          exact ih (t + 1) _ (by omega) (by omega) (h.put t0 ⟨c1, c2⟩)
        · rw [if_neg (by simpa using c2)]
          exact ih (t + 1) _ (by omega) (by omega) (h.not (fun h => c2 h.2))
      · rw [if_neg c1, hJ, if_neg (by decide)]
        exact ih (t + 1) _ (by omega) (by omega) (h.not (fun h => c1 h.1))
  exact key n.toNat 0 [] (by omega) (by omega) Lst.nil
theorem L22s_spec (hn1 : 0 ≤ n ∧ n ≤ 1000000) {R : List Bool} (hR : (R.length : Int) = n) {win2 mv2 best : List Int} (hw : (win2.length : Int) = n) {rc : RC} {least : Int} : ∃ lost, game_solver_solve_L22 rc least best W O M N B win2 mv2 R 0 [] = game_solver_solve_L22 rc least best W O M N B win2 mv2 R n lost ∧ Lst (fun p => ix R p = true ∧ ¬ ix win2 p = Int.tmod least 2) n lost := by
  have key : ∀ (m : Nat) (t : Int) (l : List Int), 0 ≤ t → t + m = n → Lst (fun p => ix R p = true ∧ ¬ ix win2 p = Int.tmod least 2) t l → ∃ lost, game_solver_solve_L22 rc least best W O M N B win2 mv2 R t l = game_solver_solve_L22 rc least best W O M N B win2 mv2 R n lost ∧ Lst (fun p => ix R p = true ∧ ¬ ix win2 p = Int.tmod least 2) n lost := by
    intro m
    induction m with
    | zero =>
      intro t l t0 ht h
      obtain rfl : t = n := by omega
      exact ⟨l, rfl, h⟩
    | succ m ih =>
      intro t l t0 ht h
      have hll := h.len t0
      have hJ : ∀ b : Bool, game_solver_solve_J24 t l (game_solver_solve_L22 rc least best W O M N B win2 mv2 R) b = game_solver_solve_L22 rc least best W O M N B win2 mv2 R (t + 1) (if b = true then l ++ [t] else l) := by
        intro b
        unfold game_solver_solve_J24
        cases b with
        | true => rw [if_pos rfl, if_pos rfl, G_pos (by unfold room; simp; omega), G_pos (by unfold fits; omega)]
        | false => rw [if_neg (by decide), if_neg (by decide), G_pos (by unfold fits; omega)]
      conv => arg 1; ext best; arg 1; lhs; rw [game_solver_solve_L22_eq]; unfold game_solver_solve_L22_B
      rw [if_pos (decide_eq_true (by omega)), G_pos (by omega), G_pos (by omega)]
      by_cases c1 : ix R t = true
      · rw [if_pos c1, G_pos (by omega), G_pos (by omega), hJ]
        by_cases c2 : ix win2 t = Int.tmod least 2
        · rw [if_neg (by simpa using c2)]
          exact ih (t + 1) _ (by omega) (by omega) (h.not (fun h => h.2 c2))
        · rw [if_pos (decide_eq_true c2)]
          exact ih (t + 1) _ (by omega) (by omega) (h.put t0 ⟨c1, c2⟩)
      · rw [if_neg c1, hJ, if_neg (by decide)]
        exact ih (t + 1) _ (by omega) (by omega) (h.not (fun h => c1 h.1))
  exact key n.toNat 0 [] (by omega) (by omega) Lst.nil
theorem set_where {S : List Bool} {v : Int} {w0 w : List Int} {t : Int} (t0 : 0 ≤ t) (ht : t < w.length) (h : ∀ p : Int, 0 ≤ p → ix w p = if ix S p = true ∧ p < t then v else ix w0 p) :
    ∀ p : Int, 0 ≤ p → ix (if ix S t = true then w.set t.toNat v else w) p = if ix S p = true ∧ p < t + 1 then v else ix w0 p := by
  intro p p0
  by_cases e : t = p
  · subst e
    by_cases c : ix S t = true
    · rw [if_pos c, ix_set_same t0 ht, if_pos ⟨c, by omega⟩]
    · rw [if_neg c, h t p0, if_neg (fun h => c h.1), if_neg (fun h => c h.1)]
  · have e1 : ix (if ix S t = true then w.set t.toNat v else w) p = ix w p := by
      split
      · exact ix_set_ne t0 p0 e
      · rfl
    rw [e1, h p p0]
    by_cases c : ix S p = true ∧ p < t
    · rw [if_pos c, if_pos ⟨c.1, by omega⟩]
    · rw [if_neg c, if_neg (fun h => c ⟨h.1, by omega⟩)]
theorem L29_spec (hn1 : 0 ≤ n ∧ n ≤ 1000000) (hW : (W.length : Int) = n) {win2 mv2 best : List Int} (hw : (win2.length : Int) = n) {least : Int} : ∃ win3, game_solver_solve_L29 least best W 0 O M N B win2 mv2 = game_solver_solve_L35 least best W 0 O M N B win3 mv2 ∧ (win3.length : Int) = n ∧ ∀ p : Int, 0 ≤ p → p < n → ix win3 p = if ix W p = true then Int.tmod least 2 else ix win2 p := by
  have key : ∀ (m : Nat) (t : Int) (w : List Int), 0 ≤ t → t + m = n → (w.length : Int) = n → (∀ p : Int, 0 ≤ p → ix w p = if ix W p = true ∧ p < t then Int.tmod least 2 else ix win2 p) →
      ∃ win3, game_solver_solve_L29 least best W t O M N B w mv2 = game_solver_solve_L35 least best W 0 O M N B win3 mv2 ∧ (win3.length : Int) = n ∧ ∀ p : Int, 0 ≤ p → p < n → ix win3 p = if ix W p = true then Int.tmod least 2 else ix win2 p := by
    intro m
    induction m with
    | zero =>
      intro t w t0 ht hl h
      refine ⟨w, ?_, hl, fun p p0 p1 => ?_⟩
      · rw [game_solver_solve_L29_eq]; unfold game_solver_solve_L29_B
        rw [if_neg (by simp only [decide_eq_true_eq]; omega)]
      · rw [h p p0]
        by_cases c : ix W p = true
        · rw [if_pos ⟨c, by omega⟩, if_pos c]
        · rw [if_neg (fun h => c h.1), if_neg c]
    | succ m ih =>
      intro t w t0 ht hl h
      have h' := set_where (v := Int.tmod least 2) t0 (by omega : t < w.length) h
      have ih' := ih (t + 1) _ (by omega) (by omega) (by split <;> simpa using hl) h'
      conv => arg 1; ext win3; arg 1; lhs; rw [game_solver_solve_L29_eq]; unfold game_solver_solve_L29_B
      rw [if_pos (decide_eq_true (by omega)), G_pos (by omega), G_pos (by omega)]
      by_cases c : ix W t = true
      · rw [if_pos c] at ih' ⊢
        rw [G_pos (by omega), G_pos (by omega), G_pos (by unfold fits; omega)]
        exact ih'
      · rw [if_neg c] at ih' ⊢
        rw [G_pos (by unfold fits; omega)]
        exact ih'
  exact key n.toNat 0 win2 (by omega) (by omega) hw (fun p p0 => by rw [if_neg (by omega)])
theorem L42_spec (hn1 : 0 ≤ n ∧ n ≤ 1000000) {gone : List Bool} (hG : (gone.length : Int) = n) {win2 mv3 : List Int} (hw : (win2.length : Int) = n) {rc : RC} {least : Int} (hp : Int.tmod least 2 = 0 ∨ Int.tmod least 2 = 1) : ∃ win4, game_solver_solve_L42 rc least gone W 0 O M N B win2 mv3 = game_solver_solve_L42 rc least gone W n O M N B win4 mv3 ∧ (win4.length : Int) = n ∧ ∀ p : Int, 0 ≤ p → p < n → ix win4 p = if ix gone p = true then 1 - Int.tmod least 2 else ix win2 p := by
  have key : ∀ (m : Nat) (t : Int) (w : List Int), 0 ≤ t → t + m = n → (w.length : Int) = n → (∀ p : Int, 0 ≤ p → ix w p = if ix gone p = true ∧ p < t then 1 - Int.tmod least 2 else ix win2 p) →
      ∃ win4, game_solver_solve_L42 rc least gone W t O M N B w mv3 = game_solver_solve_L42 rc least gone W n O M N B win4 mv3 ∧ (win4.length : Int) = n ∧ ∀ p : Int, 0 ≤ p → p < n → ix win4 p = if ix gone p = true then 1 - Int.tmod least 2 else ix win2 p := by
    intro m
    induction m with
    | zero =>
      intro t w t0 ht hl h
      obtain rfl : t = n := by omega
      refine ⟨w, rfl, hl, fun p p0 p1 => ?_⟩
      rw [h p p0]
      by_cases c : ix gone p = true
      · rw [if_pos ⟨c, by omega⟩, if_pos c]
      · rw [if_neg (fun h => c h.1), if_neg c]
    | succ m ih =>
      intro t w t0 ht hl h
      have h' := set_where (v := 1 - Int.tmod least 2) t0 (by omega : t < w.length) h
      have ih' := ih (t + 1) _ (by omega) (by omega) (by split <;> simpa using hl) h'
      conv => arg 1; ext win4; arg 1; lhs; rw [game_solver_solve_L42_eq]; unfold game_solver_solve_L42_B
      rw [if_pos (decide_eq_true (by omega)), G_pos (by omega), G_pos (by omega)]
      by_cases c : ix gone t = true
      · rw [if_pos c] at ih' ⊢
        rw [G_pos (by unfold fits; omega), G_pos (by omega), G_pos (by omega), G_pos (by unfold fits; omega)]
        exact ih'
      · rw [if_neg c] at ih' ⊢
        rw [G_pos (by unfold fits; omega)]
        exact ih'
  exact key n.toNat 0 win2 (by omega) (by omega) hw (fun p p0 => by rw [if_neg (by omega)])
theorem first_spec (hW : (W.length : Int) = n) {l : List Int} (hl : l.length ≤ 4611686018427387904) (hr : ∀ q ∈ l, 0 ≤ q ∧ q < n) (hex : ∃ q ∈ l, ix W q = true) : ∃ i, slices_IndexFunc l W = some i ∧ 0 ≤ i ∧ i < l.length ∧ ix W (ix l i) = true := by
  obtain ⟨i, e, h⟩ := index_loop (f := fun q => game_solver_solve_1 q W) (P := fun q => ix W q = true) hl (fun t => slices_IndexFunc_L2_eq l W t) (fun q hq => by
    have := hr q hq
    unfold game_solver_solve_1
    rw [G_pos (by omega)]
    exact ⟨_, rfl, Iff.rfl⟩) _ 0 (by omega) (by omega) rfl
  refine ⟨i, e, ?_⟩
  rcases h with ⟨_, h⟩ | ⟨h1, h2, h3, _⟩
  · obtain ⟨k, k0, k1, k2⟩ := (ex_ix (P := fun q => ix W q = true)).1 hex
    exact absurd k2 (h k k0 k1)
  · exact ⟨h1, h2, h3⟩
theorem L35_spec (g : GG n O M N B) (hW : (W.length : Int) = n) (hc : Closed n N W) {win3 mv2 best : List Int} (hv : (mv2.length : Int) = n) (hb : ∀ p ∈ best, In n W p) (hnd : best.Nodup) {least : Int} : ∃ mv3, game_solver_solve_L35 least best W 0 O M N B win3 mv2 = some (O, M, N, B, win3, mv3, W) ∧ (mv3.length : Int) = n ∧
    ∀ p : Int, 0 ≤ p → p < n → (p ∈ best ∧ ix O p = Int.tmod least 2 → ix mv3 p ∈ ix N p ∧ ix W (ix mv3 p) = true) ∧ (¬ (p ∈ best ∧ ix O p = Int.tmod least 2) → ix mv3 p = ix mv2 p) := by
  have hn1 := g.n1; have hlo := g.lo; have hln := g.ln
  have hbl := pigeon_int (n := n.toNat) hnd (fun y hy => by have := hb y hy; unfold In at this; omega)
  have key : ∀ (m : Nat) (t : Int) (w : List Int), 0 ≤ t → t + m = best.length → (w.length : Int) = n → (∀ p : Int, 0 ≤ p → p < n → (p ∈ best.take t.toNat ∧ ix O p = Int.tmod least 2 → ix w p ∈ ix N p ∧ ix W (ix w p) = true) ∧ (¬ (p ∈ best.take t.toNat ∧ ix O p = Int.tmod least 2) → ix w p = ix mv2 p)) →
      ∃ mv3, game_solver_solve_L35 least best W t O M N B win3 w = some (O, M, N, B, win3, mv3, W) ∧ (mv3.length : Int) = n ∧ ∀ p : Int, 0 ≤ p → p < n → (p ∈ best ∧ ix O p = Int.tmod least 2 → ix mv3 p ∈ ix N p ∧ ix W (ix mv3 p) = true) ∧ (¬ (p ∈ best ∧ ix O p = Int.tmod least 2) → ix mv3 p = ix mv2 p) := by
    intro m
    induction m with
    | zero =>
      intro t w t0 ht hl h
      refine ⟨w, ?_, hl, ?_⟩
      · rw [game_solver_solve_L35_eq]; unfold game_solver_solve_L35_B
        rw [if_neg (by simp only [decide_eq_true_eq]; omega)]
      · rw [List.take_of_length_le (by omega)] at h; exact h
    | succ m ih =>
      intro t w t0 ht hl h
      obtain ⟨b, eb⟩ : ∃ b, ix best t = b := ⟨_, rfl⟩
      have hIn := hb _ (ix_mem t0 (by omega : t < best.length))
      rw [eb] at hIn
      have hbr : 0 ≤ b ∧ b < n := ⟨hIn.1, hIn.2.1⟩
      have htk : ∀ p, p ∈ best.take (t + 1).toNat ↔ p ∈ best.take t.toNat ∨ p = b := fun p => by rw [take_succ_mem t0 (by omega), eb]
      conv => arg 1; ext mv3; arg 1; lhs; rw [game_solver_solve_L35_eq]; unfold game_solver_solve_L35_B
      rw [eb, if_pos (decide_eq_true (by omega)), G_pos (by omega), G_pos (by omega), G_pos (by omega)]
      by_cases c : ix O b = Int.tmod least 2
      · rw [if_pos (decide_eq_true c), G_pos (by omega), G_pos (by omega)]
        have hbl2 := g.nlen hbr.1 hbr.2
        obtain ⟨i, e, i0, i1, hi⟩ := first_spec (l := ix N b) hW (by omega) (g.rng b hbr.1 hbr.2) (hc b hIn)
        rw [e]
        have ih' := ih (t + 1) (w.set b.toNat (ix (ix N b) i)) (by omega) (by omega) (by simpa using hl) (fun p p0 p1 => by
          rw [htk]
          by_cases ep : b = p
          · subst ep
            rw [ix_set_same p0 (by omega)]
            exact ⟨fun _ => ⟨ix_mem i0 i1, hi⟩, fun hn => absurd ⟨.inr rfl, c⟩ hn⟩
          · rw [ix_set_ne hbr.1 p0 ep]
            refine ⟨fun ⟨h1, h2⟩ => (h p p0 p1).1 ⟨h1.elim id (fun e => absurd e.symm ep), h2⟩, fun hn => (h p p0 p1).2 (fun ⟨h1, h2⟩ => hn ⟨.inl h1, h2⟩)⟩)
        rw [show ∀ (f : Int → Option (List Int × List Int × List (List Int) × List (List Int) × List Int × List Int × List Bool)), (some i).bind f = f i from fun _ => rfl, G_pos (by omega), G_pos (by omega), G_pos (by omega), G_pos (by unfold fits; omega)]
        exact ih'
      · rw [if_neg (by simpa using c), G_pos (by unfold fits; omega)]
        refine ih (t + 1) w (by omega) (by omega) hl (fun p p0 p1 => ?_)
        rw [htk]
        refine ⟨fun ⟨h1, h2⟩ => (h p p0 p1).1 ⟨h1.elim id (fun e => absurd (e ▸ h2) c), h2⟩, fun hn => (h p p0 p1).2 (fun ⟨h1, h2⟩ => hn ⟨.inl h1, h2⟩)⟩
  exact key best.length 0 mv2 (by omega) (by omega) hv (fun p _ _ => ⟨fun h => (by simp at h), fun _ => rfl⟩)
/-- How many places are in. -/
def card (W : List Bool) : Nat → Nat
  | 0 => 0
  | k + 1 => card W k + (if ix W (k : Int) = true then 1 else 0)
theorem card_le {W R : List Bool} : ∀ k : Nat, (∀ p : Int, 0 ≤ p → p < k → ix R p = true → ix W p = true) → card R k ≤ card W k
  | 0, _ => Nat.le_refl _
  | k + 1, h => by
    have := card_le k (fun p p0 p1 => h p p0 (by omega))
    unfold card
    by_cases c : ix R (k : Int) = true
    · rw [if_pos c, if_pos (h k (by omega) (by omega) c)]; omega
    · rw [if_neg c]; split <;> omega
theorem card_lt {W R : List Bool} {x : Int} (x0 : 0 ≤ x) (hx : ix W x = true) (hx2 : ¬ ix R x = true) : ∀ k : Nat, x < k → (∀ p : Int, 0 ≤ p → p < k → ix R p = true → ix W p = true) → card R k < card W k
  | 0, hk, _ => by omega
  | k + 1, hk, h => by
    unfold card
    by_cases e : x = k
    · have := card_le (W := W) (R := R) k (fun p p0 p1 => h p p0 (by omega))
      rw [← e, if_pos hx, if_neg hx2]; omega
    · have := card_lt x0 hx hx2 k (by omega) (fun p p0 p1 => h p p0 (by omega))
      by_cases c : ix R (k : Int) = true
      · rw [if_pos c, if_pos (h k (by omega) (by omega) c)]; omega
      · rw [if_neg c]; split <;> omega
theorem tmod2 {x : Int} (h : 0 ≤ x) : Int.tmod x 2 = 0 ∨ Int.tmod x 2 = 1 := by
  rw [Int.tmod_eq_emod_of_nonneg h]; omega
theorem solve_spec (g : GG n O M N B) : ∀ (m : Nat) (W : List Bool) (win mv : List Int), card W n.toNat ≤ m → (W.length : Int) = n → Closed n N W → (win.length : Int) = n → (mv.length : Int) = n →
    ∃ win' mv', game_solver_solve O M N B W win mv = some (O, M, N, B, win', mv', W) ∧ Post n O M N W win mv win' mv' := by
  have hn1 := g.n1
  intro m
  induction m with
  | zero =>
    intro W win mv hm hW hc hw hv
    obtain ⟨least, e3, hL⟩ := L3_spec g hW (win := win) (mv := mv) (rc := game_solver_solve)
    rcases hL with ⟨h1, h2⟩ | ⟨h1, ⟨p, hp, _⟩, h3⟩
    · have hno : ∀ p, ¬ In n W p := fun p hp => h2 p hp hp.2.1
      refine ⟨win, mv, ?_, hw, hv, fun p _ _ _ => ⟨rfl, rfl⟩, fun p h => absurd h (hno p), fun p h => absurd h (hno p), fun p h => absurd h (hno p), fun p h => absurd h (hno p)⟩
      rw [game_solver_solve_eq]; unfold game_solver_solve_B
      rw [e3, game_solver_solve_L3_eq]; unfold game_solver_solve_L3_B
      rw [if_neg (by simp only [decide_eq_true_eq]; omega), if_pos (decide_eq_true (by omega))]
    · have hpb := hp.2.1
      have := card_lt (W := W) (R := []) hp.1 hp.2.2 (by simp [ix]) n.toNat (by omega) (fun q _ _ h => by simp [ix] at h)
      omega
  | succ m ih =>
    intro W win mv hm hW hc hw hv
    obtain ⟨least, e3, hL⟩ := L3_spec g hW (win := win) (mv := mv) (rc := game_solver_solve)
    rcases hL with ⟨h1, h2⟩ | ⟨h1, ⟨p, hp, hpm⟩, h3⟩
    · have hno : ∀ p, ¬ In n W p := fun p hp => h2 p hp hp.2.1
      refine ⟨win, mv, ?_, hw, hv, fun p _ _ _ => ⟨rfl, rfl⟩, fun p h => absurd h (hno p), fun p h => absurd h (hno p), fun p h => absurd h (hno p), fun p h => absurd h (hno p)⟩
      rw [game_solver_solve_eq]; unfold game_solver_solve_B
      rw [e3, game_solver_solve_L3_eq]; unfold game_solver_solve_L3_B
      rw [if_neg (by simp only [decide_eq_true_eq]; omega), if_pos (decide_eq_true (by omega))]
    · have hplay := tmod2 h1
      obtain ⟨best, e12, hb⟩ := L12_spec g hW (win := win) (mv := mv) (rc := game_solver_solve) (least := least)
      have hbest : ∀ p, p ∈ best ↔ In n W p ∧ ix M p = least := fun p => (hb.mem p).trans ⟨fun ⟨a, b, c, d⟩ => ⟨⟨a, b, c⟩, d⟩, fun ⟨⟨a, b, c⟩, d⟩ => ⟨a, b, c, d⟩⟩
      obtain ⟨near, mv1, rk, eA, hA⟩ := attracted_spec (player := Int.tmod least 2) (to := best) g hW hw hv (fun p hp => ((hbest p).1 hp).1) hb.nd hc
      obtain ⟨R, eR, hRl, hR⟩ := without_spec hn1 hW hA.li
      have hRc := closed_rest g hc hA hR
      have hpbest : p ∈ best := (hbest p).2 ⟨hp, hpm⟩
      have hpb := hp.2.1
      have hcard : card R n.toNat < card W n.toNat := card_lt hp.1 hp.2.2 (fun h => ((hR p hp.1 hp.2.1).1 h).2 (hA.tos p hpbest).2.2) n.toNat (by omega) (fun q q0 q1 h => ((hR q q0 (by omega)).1 h).1)
      obtain ⟨win2, mv2, eS, hP⟩ := ih R win mv1 (by omega) hRl hRc hw hA.lv
      obtain ⟨lost, e22, hl⟩ := L22s_spec (W := W) (O := O) (M := M) (N := N) (B := B) hn1 hRl (win2 := win2) (mv2 := mv2) (best := best) hP.lw (rc := game_solver_solve) (least := least)
      have hlost : ∀ p, p ∈ lost ↔ In n R p ∧ ¬ ix win2 p = Int.tmod least 2 := fun p => (hl.mem p).trans ⟨fun ⟨a, b, c, d⟩ => ⟨⟨a, b, c⟩, d⟩, fun ⟨⟨a, b, c⟩, d⟩ => ⟨a, b, c, d⟩⟩
      have start : ∀ X, game_solver_solve_L22 game_solver_solve least best W O M N B win2 mv2 R n lost = X → game_solver_solve O M N B W win mv = X := by
        intro X hX
        rw [game_solver_solve_eq]; unfold game_solver_solve_B
        rw [e3, game_solver_solve_L3_eq]; unfold game_solver_solve_L3_B
        rw [if_neg (by simp only [decide_eq_true_eq]; omega), if_neg (by simp only [decide_eq_true_eq]; omega), G_pos (by omega), e12, game_solver_solve_L12_eq]; unfold game_solver_solve_L12_B
        rw [if_neg (by simp only [decide_eq_true_eq]; omega)]
        refine bind_to eA (bind_to eR (bind_to eS ?_))
        exact e22.trans hX
      by_cases c : lost = []
      · obtain ⟨win3, e29, hw3l, hw3⟩ := L29_spec (W := W) (O := O) (M := M) (N := N) (B := B) hn1 hW (win2 := win2) (mv2 := mv2) (best := best) hP.lw (least := least)
        obtain ⟨mv3, e35, hm3l, hm3⟩ := L35_spec g hW hc (win3 := win3) (best := best) hP.lv (fun p hp => ((hbest p).1 hp).1) hb.nd (least := least)
        refine ⟨win3, mv3, start _ ?_, all_won g hplay rfl (fun q hq => h3 q hq hq.2.1) hbest hA hR hP (fun q hq => ?_) hw3l hm3l hw3 hm3⟩
        · rw [game_solver_solve_L22_eq]; unfold game_solver_solve_L22_B
          rw [if_neg (by simp only [decide_eq_true_eq]; omega), if_pos (by simp [c]), e29, e35]
        · refine Classical.byContradiction fun hn => ?_
          have := (hlost q).2 ⟨hq, hn⟩
          rw [c] at this; cases this
      · have hlr : ∀ q ∈ lost, In n W q := fun q hq => by have h := ((hlost q).1 hq).1; exact ⟨h.1, h.2.1, ((hR q h.1 h.2.1).1 h.2.2).1⟩
        obtain ⟨gone, mv3, rk2, eG, hG⟩ := attracted_spec (player := 1 - Int.tmod least 2) (to := lost) g hW hP.lw hP.lv hlr hl.nd hc
        obtain ⟨win4, e42, hw4l, hw4⟩ := L42_spec (W := W) (O := O) (M := M) (N := N) (B := B) hn1 hG.li (win2 := win2) (mv3 := mv3) hP.lw (rc := game_solver_solve) hplay
        obtain ⟨R2, eR2, hR2l, hR2⟩ := without_spec hn1 hW hG.li
        have hR2c := closed_rest g hc hG hR2
        obtain ⟨x, hx⟩ := List.exists_mem_of_length_pos ((List.length_pos_iff.2 c))
        have hxW := hlr x hx
        have hxb := hxW.2.1
        have hcard2 : card R2 n.toNat < card W n.toNat := card_lt hxW.1 hxW.2.2 (fun h => ((hR2 x hxW.1 hxW.2.1).1 h).2 (hG.tos x hx).2.2) n.toNat (by omega) (fun q q0 q1 h => ((hR2 q q0 (by omega)).1 h).1)
        obtain ⟨win5, mv5, eS2, hQ⟩ := ih R2 win4 mv3 (by omega) hR2l hR2c hw4l hG.lv
        have hpos := (List.length_pos_iff.2 c)
        refine ⟨win5, mv5, start _ ?_, some_lost g hplay hA hR hP hlost hG hw4 hR2 hQ⟩
        rw [game_solver_solve_L22_eq]; unfold game_solver_solve_L22_B
        rw [if_neg (by simp only [decide_eq_true_eq]; omega), if_neg (by simp only [decide_eq_true_eq]; omega), G_pos (by unfold fits; omega)]
        refine bind_to eG ?_
        refine e42.trans ?_
        have hgl := hG.li
        rw [game_solver_solve_L42_eq]; unfold game_solver_solve_L42_B
        rw [if_neg (by simp only [decide_eq_true_eq]; omega)]
        refine bind_to eR2 (bind_to eS2 rfl)
end

section
variable {g : GM}
/-- What is told of a game. -/
structure Won (g : GM) (win mv : List Int) : Prop where
  lw : win.length = g.1.length
  lv : mv.length = g.1.length
  two : ∀ p : Int, 0 ≤ p → p < g.1.length → ix win p = 0 ∨ ix win p = 1
  own : ∀ p : Int, 0 ≤ p → p < g.1.length → ix g.1 p = ix win p → ix mv p ∈ ix g.2.2.1 p ∧ ix win (ix mv p) = ix win p
  oth : ∀ p : Int, 0 ≤ p → p < g.1.length → ¬ ix g.1 p = ix win p → ix mv p = -1 ∧ ∀ q ∈ ix g.2.2.1 p, ix win q = ix win p
  cyc : ∀ p : Int, 0 ≤ p → p < g.1.length → ¬ Int.tmod (ix g.2.1 p) 2 = ix win p → ¬ Rch (fun a b => b ∈ ix g.2.2.1 a ∧ (ix g.1 a = ix win p → b = ix mv a)) (fun b => ix g.2.1 p ≤ ix g.2.1 b) p p
theorem inc_lt {l : List Int} (h : ∀ k : Int, 1 ≤ k → k < l.length → ix l (k - 1) < ix l k) : ∀ (m : Nat) (i : Int), 0 ≤ i → i + (m + 1) < l.length → ix l i < ix l (i + (m + 1))
  | 0, i, i0, i1 => by
    have := h (i + 1) (by omega) (by omega)
    rw [show i + 1 - 1 = i by omega] at this
    exact this
  | m + 1, i, i0, i1 => by
    have h1 := inc_lt h m i i0 (by omega)
    have h2 := h (i + ((m + 1 : Nat) + 1)) (by omega) (by omega)
    rw [show i + ((m + 1 : Nat) + 1) - 1 = i + (m + 1) by omega] at h2
    have e : i + (((m + 1 : Nat) : Int) + 1) = i + ((m + 1 : Nat) + 1) := rfl
    omega
theorem inc_nodup {l : List Int} (h : ∀ k : Int, 1 ≤ k → k < l.length → ix l (k - 1) < ix l k) : l.Nodup := by
  rw [List.nodup_iff_pairwise_ne, List.pairwise_iff_getElem]
  intro i j hi hj hij
  have := inc_lt h (j - i - 1) (i : Int) (by omega) (by omega)
  rw [show (i : Int) + (((j - i - 1 : Nat) : Int) + 1) = (j : Int) by omega] at this
  have e1 := ix_eq (l := l) (i := (i : Int)) (by omega) (by omega)
  have e2 := ix_eq (l := l) (i := (j : Int)) (by omega) (by omega)
  have e1 : ix l (i : Int) = l[i] := e1
  have e2 : ix l (j : Int) = l[j] := e2
  omega
/-- Who leads where, so far. -/
structure BI (g : GM) (t k : Int) (B : List (List Int)) : Prop where
  l : B.length = g.1.length
  mem : ∀ p q : Int, 0 ≤ q → q < g.1.length → (p ∈ ix B q ↔ (0 ≤ p ∧ p < t ∧ q ∈ ix g.2.2.1 p) ∨ (p = t ∧ q ∈ (ix g.2.2.1 t).take k.toNat))
  nd : ∀ q : Int, 0 ≤ q → q < g.1.length → (ix B q).Nodup
theorem BI.blen {t k : Int} {B : List (List Int)} (h : BI g t k B) (ht : t < g.1.length) {q : Int} (q0 : 0 ≤ q) (q1 : q < g.1.length) {t0 : 0 ≤ t} : (ix B q).length ≤ g.1.length :=
  pigeon_int (h.nd q q0 q1) (fun p hp => by rcases (h.mem p q q0 q1).1 hp with ⟨a, b, _⟩ | ⟨rfl, _⟩ <;> omega)
theorem rep_ix {α : Type} [Inhabited α] {k : Nat} {x : α} {p : Int} (p0 : 0 ≤ p) (p1 : p < k) : ix (List.replicate k x) p = x := by
  rw [ix_eq p0 (by rw [List.length_replicate]; exact p1), List.getElem_replicate]
theorem Solved_L9 (ok : GOk g) {t : Int} (t0 : 0 ≤ t) (t1 : t < g.1.length) {all : List Bool} {win mv : List Int} {r5 : Int → List Int → List Int → List (List Int) → List Bool → List (List Int) → List Int → List Int → Option (List Int × List Int × Unit)} : ∀ (m : Nat) (k : Int) (B : List (List Int)), 0 ≤ k → k + m = (ix g.2.2.1 t).length → BI g t k B →
    ∃ B', game_Solved_L9 g t all r5 k g.1 g.2.1 g.2.2.1 B win mv = r5 (t + 1) g.1 g.2.1 g.2.2.1 (all.set t.toNat true) B' win mv ∧ BI g (t + 1) 0 B' := by
  have hn := ok.n
  have hrl : (ix g.2.2.1 t).length ≤ g.1.length := pigeon_int (inc_nodup (ok.inc t t0 t1)) (ok.rng t t0 t1)
  intro m
  induction m with
  | zero =>
    intro k B k0 hk h
    refine ⟨B, ?_, h.l, fun p q q0 q1 => ?_, h.nd⟩
    · rw [game_Solved_L9_eq]; unfold game_Solved_L9_B
      rw [if_neg (by simp only [decide_eq_true_eq]; omega), G_pos (by unfold fits; omega)]
    · rw [h.mem p q q0 q1, List.take_of_length_le (by omega)]
      constructor
      · rintro (⟨a, b, c⟩ | ⟨rfl, c⟩)
        · exact .inl ⟨a, by omega, c⟩
        · exact .inl ⟨t0, by omega, c⟩
      · rintro (⟨a, b, c⟩ | ⟨_, c⟩)
        · by_cases e : p = t
          · subst e; exact .inr ⟨rfl, c⟩
          · exact .inl ⟨a, by omega, c⟩
        · simp at c
  | succ m ih =>
    intro k B k0 hk h
    obtain ⟨q, eq⟩ : ∃ q, ix (ix g.2.2.1 t) k = q := ⟨_, rfl⟩
    have hr := ok.rng t t0 t1 _ (ix_mem k0 (by omega : k < (ix g.2.2.1 t).length))
    rw [eq] at hr
    have hl := h.l
    have hbl := h.blen t1 hr.1 hr.2 (t0 := t0)
    have hnt : q ∉ (ix g.2.2.1 t).take k.toNat := eq ▸ take_not_mem (inc_nodup (ok.inc t t0 t1)) k0 (by omega)
    have hB : BI g t (k + 1) (B.set q.toNat (ix B q ++ [t])) := by
      refine ⟨by simpa using hl, fun p r r0 r1 => ?_, fun r r0 r1 => ?_⟩
      · rw [take_succ_mem k0 (by omega), eq]
        by_cases e : q = r
        · subst e
          rw [ix_set_same r0 (by omega), List.mem_append, List.mem_singleton, h.mem p q r0 r1]
          constructor
          · rintro ((a | ⟨a, b⟩) | a)
            · exact .inl a
            · exact .inr ⟨a, .inl b⟩
            · exact .inr ⟨a, .inr rfl⟩
          · rintro (a | ⟨a, _⟩)
            · exact .inl (.inl a)
            · exact .inr a
        · rw [ix_set_ne hr.1 r0 e, h.mem p r r0 r1]
          refine or_congr Iff.rfl (and_congr Iff.rfl ⟨.inl, fun h => h.elim id (fun h => absurd h.symm e)⟩)
      · by_cases e : q = r
        · subst e
          rw [ix_set_same r0 (by omega), List.nodup_append]
          refine ⟨h.nd q r0 r1, by simp, fun a ha b hb => ?_⟩
          rw [List.mem_singleton] at hb; subst hb
          rcases (h.mem a q r0 r1).1 ha with ⟨_, c, _⟩ | ⟨_, c⟩
          · omega
          · exact absurd c hnt
        · rw [ix_set_ne hr.1 r0 e]; exact h.nd r r0 r1
    obtain ⟨B', e, h'⟩ := ih (k + 1) _ (by omega) (by omega) hB
    refine ⟨B', ?_, h'⟩
    rw [← e]
    have hJ : ∀ b, game_Solved_J11 k (game_Solved_L9 g t all r5) g.1 g.2.1 g.2.2.1 b win mv = game_Solved_L9 g t all r5 (k + 1) g.1 g.2.1 g.2.2.1 b win mv := fun b => by
      unfold game_Solved_J11
      rw [G_pos (by unfold fits; omega)]
    conv => lhs; rw [game_Solved_L9_eq]; unfold game_Solved_L9_B
    rw [if_pos (decide_eq_true (by omega)), G_pos (by omega), eq, G_pos (by omega), G_pos (by omega), hJ]
    have hroom : room (ix B q) [t] 8 := by unfold room; simp; omega
    rw [G_pos (by omega), G_pos hroom, G_pos (by omega), G_pos rfl]
    exact both_to rfl (both_self _)
theorem Solve_spec (ok : GOk g) (h0 : gmE g = 0) (hs : ∀ l ∈ g.2.2.1, l.length ≤ 2305843009213693951) : ∃ win mv, game_Solve g = some ((win, mv, ()), 0) ∧ Won g win mv := by
  have hn := ok.n; have hlm := ok.lm; have hln := ok.ln
  have k5 : ∀ (m : Nat) (t : Int) (all : List Bool) (B : List (List Int)) (win mv : List Int), 0 ≤ t → t + m = g.1.length → all.length = g.1.length → (∀ p : Int, 0 ≤ p → p < t → ix all p = true) → BI g t 0 B →
      ∃ all' B', game_Solved_L5 g t g.1 g.2.1 g.2.2.1 all B win mv = game_Solved_L5 g g.1.length g.1 g.2.1 g.2.2.1 all' B' win mv ∧ all'.length = g.1.length ∧ (∀ p : Int, 0 ≤ p → p < g.1.length → ix all' p = true) ∧ BI g g.1.length 0 B' := by
    intro m
    induction m with
    | zero =>
      intro t all B win mv t0 ht hl h hB
      obtain rfl : t = g.1.length := by omega
      exact ⟨all, B, rfl, hl, h, hB⟩
    | succ m ih =>
      intro t all B win mv t0 ht hl h hB
      obtain ⟨B1, e1, hB1⟩ := Solved_L9 (all := all) (win := win) (mv := mv) (r5 := game_Solved_L5 g) ok t0 (by omega) (ix g.2.2.1 t).length 0 B (by omega) (by omega) hB
      obtain ⟨all', B', e2, h'⟩ := ih (t + 1) (all.set t.toNat true) B1 win mv (by omega) (by omega) (by simpa using hl) (fun p p0 p1 => by
        by_cases e : t = p
        · subst e; rw [ix_set_same t0 (by omega)]
        · rw [ix_set_ne t0 p0 e]; exact h p p0 (by omega)) hB1
      refine ⟨all', B', ?_, h'⟩
      rw [← e2]
      conv => lhs; rw [game_Solved_L5_eq]; unfold game_Solved_L5_B
      rw [if_pos (decide_eq_true (by omega)), G_pos (by omega), G_pos (by omega), G_pos (by omega), e1]
  obtain ⟨Z, hZ⟩ : ∃ Z : Nat, (g.1.length : Int).toNat = Z := ⟨_, rfl⟩
  have hB0 : BI g 0 0 (List.replicate Z []) := by
    refine ⟨by rw [List.length_replicate]; omega, fun p q q0 q1 => ?_, fun q q0 q1 => ?_⟩
    · rw [rep_ix q0 (by omega)]
      constructor
      · intro h; cases h
      · rintro (h | ⟨_, h⟩)
        · omega
        · simp at h
    · rw [rep_ix q0 (by omega)]; simp
  obtain ⟨all, B, e5, ha1, ha2, hB⟩ := k5 g.1.length 0 (List.replicate Z false) (List.replicate Z []) (List.replicate Z 0) (List.replicate Z 0) (by omega) (by omega) (by rw [List.length_replicate]; omega) (fun p p0 p1 => by omega) hB0
  have gg : GG g.1.length g.1 g.2.1 g.2.2.1 B := by
    refine ⟨by omega, rfl, by omega, by omega, by have := hB.l; omega, ok.own, fun p p0 p1 => (ok.mrk p p0 p1).1, ok.rng, fun p p0 p1 => inc_nodup (ok.inc p p0 p1), fun q q0 q1 p hp => ?_, fun p q p0 p1 q0 q1 => ?_, hB.nd⟩
    · rcases (hB.mem p q q0 q1).1 hp with ⟨a, b, _⟩ | ⟨_, c⟩
      · exact ⟨a, b⟩
      · simp at c
    · rw [hB.mem p q q0 q1]
      exact ⟨fun h => h.elim (fun h => h.2.2) (fun h => by simp at h), fun h => .inl ⟨p0, p1, h⟩⟩
  have hcl : Closed g.1.length g.2.2.1 all := fun p hp => by
    have hne := ok.ne p hp.1 hp.2.1
    have hm := ix_mem (l := ix g.2.2.1 p) (i := 0) (by omega) (by omega)
    have hr := ok.rng p hp.1 hp.2.1 _ hm
    exact ⟨_, hm, ha2 _ hr.1 hr.2⟩
  obtain ⟨win, mv, e, hP⟩ := solve_spec gg (card all (g.1.length : Int).toNat) all (List.replicate Z 0) (List.replicate Z 0) (Nat.le_refl _) (by omega) hcl (by rw [List.length_replicate]; omega) (by rw [List.length_replicate]; omega)
  have hIn : ∀ p : Int, 0 ≤ p → p < g.1.length → In g.1.length all p := fun p p0 p1 => ⟨p0, p1, ha2 p p0 p1⟩
  have hlw := hP.lw; have hlv := hP.lv
  have k16 : ∀ (m : Nat) (t : Int) (w : List Int), 0 ≤ t → t + m = g.1.length → (w.length : Int) = g.1.length → (∀ p : Int, 0 ≤ p → p < g.1.length → ix w p = if p < t ∧ ¬ ix g.1 p = ix win p then -1 else ix mv p) →
      ∃ w', game_Solved_L16 g t g.1 g.2.1 g.2.2.1 B win w = some (win, w', ()) ∧ (w'.length : Int) = g.1.length ∧ ∀ p : Int, 0 ≤ p → p < g.1.length → ix w' p = if ¬ ix g.1 p = ix win p then -1 else ix mv p := by
    intro m
    induction m with
    | zero =>
      intro t w t0 ht hl h
      refine ⟨w, ?_, hl, fun p p0 p1 => ?_⟩
      · rw [game_Solved_L16_eq]; unfold game_Solved_L16_B
        rw [if_neg (by simp only [decide_eq_true_eq]; omega)]
      · rw [h p p0 p1]
        by_cases c : ¬ ix g.1 p = ix win p
        · rw [if_pos ⟨by omega, c⟩, if_pos c]
        · rw [if_neg (fun h => c h.2), if_neg c]
    | succ m ih =>
      intro t w t0 ht hl h
      conv => arg 1; ext w'; arg 1; lhs; rw [game_Solved_L16_eq]; unfold game_Solved_L16_B
      rw [if_pos (decide_eq_true (by omega)), G_pos (by omega), G_pos (by omega), G_pos (by omega)]
      by_cases c : ix g.1 t = ix win t
      · rw [if_neg (by simpa using c), G_pos (by unfold fits; omega)]
        refine ih (t + 1) w (by omega) (by omega) hl (fun p p0 p1 => ?_)
        rw [h p p0 p1]
        by_cases c2 : p < t ∧ ¬ ix g.1 p = ix win p
        · rw [if_pos c2, if_pos ⟨by omega, c2.2⟩]
        · rw [if_neg c2, if_neg (fun h => by
            by_cases e : p = t
            · rw [e] at h; exact h.2 c
            · exact c2 ⟨by omega, h.2⟩)]
      · rw [if_pos (by simpa using c), G_pos (by omega), G_pos (by omega), G_pos (by unfold fits; omega)]
        refine ih (t + 1) _ (by omega) (by omega) (by simpa using hl) (fun p p0 p1 => ?_)
        by_cases e : t = p
        · subst e
          rw [ix_set_same t0 (by omega), if_pos ⟨by omega, c⟩]
        · rw [ix_set_ne t0 p0 e, h p p0 p1]
          by_cases c2 : p < t ∧ ¬ ix g.1 p = ix win p
          · rw [if_pos c2, if_pos ⟨by omega, c2.2⟩]
          · rw [if_neg c2, if_neg (fun h => c2 ⟨by omega, h.2⟩)]
  obtain ⟨mv', e16, hm1, hm2⟩ := k16 g.1.length 0 mv (by omega) (by omega) hlv (fun p p0 p1 => by rw [if_neg (by omega)])
  have mvO : ∀ p : Int, 0 ≤ p → p < g.1.length → ix g.1 p = ix win p → ix mv' p = ix mv p := fun p p0 p1 c => by rw [hm2 p p0 p1, if_neg (by simpa using c)]
  refine ⟨win, mv', ?_, by omega, by omega, fun p p0 p1 => hP.two p (hIn p p0 p1), fun p p0 p1 ho => ?_, fun p p0 p1 ho => ⟨by rw [hm2 p p0 p1, if_pos ho], fun q hq => ?_⟩, fun p p0 p1 hpar hcy => ?_⟩
  · have hfin : game_Solved_J2 g g.1 g.2.1 g.2.2.1 (List.replicate Z []) (List.replicate Z 0) (List.replicate Z 0) = some (win, mv', ()) := by
      unfold game_Solved_J2
      rw [hZ, G_pos (by unfold mkOK; omega), e5, game_Solved_L5_eq]; unfold game_Solved_L5_B
      rw [if_neg (by simp only [decide_eq_true_eq]; omega)]
      exact bind_to e e16
    have hS : game_Solved g = some (win, mv', ()) := by
      unfold game_Solved
      rw [hZ]
      repeat' first | exact hfin | refine both_to ?_ ?_ | refine G_to (by unfold mkOK; omega) ?_
    unfold game_Solve
    refine bind_to (game_Check_spec hs) ?_
    rw [show gmE (g.1, g.2.1, g.2.2.1, ()) = 0 from h0, if_neg (by simp)]
    exact bind_to hS rfl
  · obtain ⟨s1, s2, s3⟩ := hP.own p (hIn p p0 p1) ho
    rw [mvO p p0 p1 ho]
    exact ⟨s1, s3⟩
  · have hr := ok.rng p p0 p1 q hq
    exact hP.oth p (hIn p p0 p1) ho q hq (ha2 q hr.1 hr.2)
  · refine hP.cyc p (hIn p p0 p1) hpar ?_
    have key : ∀ a b : Int, 0 ≤ a → a < g.1.length → ix win a = ix win p → (b ∈ ix g.2.2.1 a ∧ (ix g.1 a = ix win p → b = ix mv' a)) → (0 ≤ b ∧ b < g.1.length ∧ ix win b = ix win p) ∧ Ed g.2.2.1 g.1 all mv (ix win p) a b := by
      rintro a b a0 a1 hw ⟨e1, e2⟩
      have hr := ok.rng a a0 a1 b e1
      refine ⟨⟨hr.1, hr.2, ?_⟩, e1, ha2 b hr.1 hr.2, fun c => by rw [e2 c, mvO a a0 a1 (by rw [hw]; exact c)]⟩
      by_cases c : ix g.1 a = ix win a
      · obtain ⟨_, _, s3⟩ := hP.own a (hIn a a0 a1) c
        rw [e2 (by rw [← hw]; exact c), mvO a a0 a1 c, s3, hw]
      · rw [hP.oth a (hIn a a0 a1) c b e1 (ha2 b hr.1 hr.2), hw]
    have : ∀ q, Rch (fun a b => b ∈ ix g.2.2.1 a ∧ (ix g.1 a = ix win p → b = ix mv' a)) (fun b => ix g.2.1 p ≤ ix g.2.1 b) p q → (0 ≤ q ∧ q < g.1.length ∧ ix win q = ix win p) ∧ Rch (Ed g.2.2.1 g.1 all mv (ix win p)) (fun q => ix g.2.1 p ≤ ix g.2.1 q) p q := by
      intro q hq
      induction hq with
      | one e =>
        obtain ⟨k1, k2⟩ := key p _ p0 p1 rfl e
        exact ⟨k1, .one k2⟩
      | more _ k e ih =>
        obtain ⟨k1, k2⟩ := key _ _ ih.1.1 ih.1.2.1 ih.1.2.2 e
        exact ⟨k1, .more ih.2 k k2⟩
    exact (this p hcy).2
/- the reference's -/
theorem Odd_spec {n : Int} (hn : 0 ≤ n ∧ n ≤ 1000000) {mark : List Int} {nx : List (List Int)} {inn : List Bool} {player : Int} (hm : (mark.length : Int) = n) (hx : (nx.length : Int) = n) (hi : (inn.length : Int) = n) (hr : ∀ p : Int, 0 ≤ p → p < n → ∀ q ∈ ix nx p, 0 ≤ q ∧ q < n) (hl : ∀ p : Int, 0 ≤ p → p < n → ((ix nx p).length : Int) ≤ 1000000)
    (hc : ∀ p : Int, 0 ≤ p → p < n → ix inn p = true → ¬ Int.tmod (ix mark p) 2 = player → ¬ Rch (fun a b => b ∈ ix nx a) (fun b => ix inn b = true ∧ ix mark p ≤ ix mark b) p p) : r10_Odd mark nx inn player = some false := by
  have k12 : ∀ {p i : Int} {row0 : List Int} {q : Int} {r8 : Int → List Bool → List Int → Option Bool}, 0 ≤ p → p < n → ix row0 i = q → 0 ≤ q → q < n → ¬ Rch (fun a b => b ∈ ix nx a) (fun b => ix inn b = true ∧ ix mark p ≤ ix mark b) p p → (q = p ∨ (Rch (fun a b => b ∈ ix nx a) (fun b => ix inn b = true ∧ ix mark p ≤ ix mark b) p q ∧ (ix inn q = true ∧ ix mark p ≤ ix mark q))) → fits (i + 1) →
      ∀ (m : Nat) (k : Int) (seen : List Bool) (tl : List Int), 0 ≤ k → k + m = (ix nx q).length → (seen.length : Int) = n → tl.Nodup → (∀ x ∈ tl, 0 ≤ x ∧ x < n ∧ ix seen x = true ∧ Rch (fun a b => b ∈ ix nx a) (fun b => ix inn b = true ∧ ix mark p ≤ ix mark b) p x ∧ (ix inn x = true ∧ ix mark p ≤ ix mark x)) →
        ∃ seen' tl', r10_Odd_L12 mark nx inn p i row0 r8 k seen (p :: tl) = r8 (i + 1) seen' (p :: tl') ∧ (seen'.length : Int) = n ∧ tl'.Nodup ∧ (∃ z, tl' = tl ++ z) ∧ (∀ x ∈ tl', 0 ≤ x ∧ x < n ∧ ix seen' x = true ∧ Rch (fun a b => b ∈ ix nx a) (fun b => ix inn b = true ∧ ix mark p ≤ ix mark b) p x ∧ (ix inn x = true ∧ ix mark p ≤ ix mark x)) := by
    intro p i row0 q r8 p0 p1 hq q0 q1 hno hqp hf m
    have hql := hl q q0 q1
    induction m with
    | zero =>
      intro k seen tl k0 hk hs hnd h
      refine ⟨seen, tl, ?_, hs, hnd, ⟨[], by simp⟩, h⟩
      rw [r10_Odd_L12_eq]; unfold r10_Odd_L12_B
      rw [hq, if_neg (by simp only [decide_eq_true_eq]; omega), G_pos hf]
    | succ m ih =>
      intro k seen tl k0 hk hs hnd h
      obtain ⟨r, er⟩ : ∃ r, ix (ix nx q) k = r := ⟨_, rfl⟩
      have hrm : r ∈ ix nx q := er ▸ ix_mem k0 (by omega)
      have hrr := hr q q0 q1 r hrm
      have hR : Rch (fun a b => b ∈ ix nx a) (fun b => ix inn b = true ∧ ix mark p ≤ ix mark b) p r := by
        rcases hqp with rfl | ⟨h1, h2⟩
        · exact .one hrm
        · exact .more h1 h2 hrm
      have hrp : ¬ r = p := fun e => hno (e ▸ hR)
      have htl := pigeon_int (n := n.toNat) hnd (fun x hx => by have := h x hx; omega)
      have hJ : ∀ b : Bool, r10_Odd_J17 nx i row0 k seen (p :: tl) (r10_Odd_L12 mark nx inn p i row0 r8) b = if b = true then r10_Odd_L12 mark nx inn p i row0 r8 (k + 1) (seen.set r.toNat true) (p :: (tl ++ [r])) else r10_Odd_L12 mark nx inn p i row0 r8 (k + 1) seen (p :: tl) := by
        intro b
        unfold r10_Odd_J17
        rw [hq, er]
        cases b with
        | true => rw [if_pos rfl, if_pos rfl, G_pos (by omega), G_pos (by omega), G_pos (by unfold room; simp; omega), G_pos (by unfold fits; omega)]; rfl
        | false => rw [if_neg (by decide), if_neg (by decide), G_pos (by unfold fits; omega)]
      have skip := ih (k + 1) seen tl (by omega) (by omega) hs hnd h
      conv => arg 1; ext s'; arg 1; ext t'; arg 1; lhs; rw [r10_Odd_L12_eq]; unfold r10_Odd_L12_B
      rw [hq, er, if_pos (decide_eq_true (by omega)), G_pos (by omega), if_neg (by simpa using hrp), G_pos (by omega)]
      by_cases c1 : ix inn r = true
      · rw [if_pos c1, G_pos (by omega), G_pos (by omega)]
        by_cases c2 : ix mark p ≤ ix mark r
        · rw [if_pos (decide_eq_true c2), G_pos (by omega), G_pos (by omega), hJ]
          by_cases c3 : ix seen r = true
          · rw [if_neg (by simp [c3])]; exact skip
          · rw [if_pos (by simpa using c3)]
            have hrt : r ∉ tl := fun hm => c3 (h r hm).2.2.1
            obtain ⟨s', t', e, a1, a2, ⟨z, a3⟩, a4⟩ := ih (k + 1) (seen.set r.toNat true) (tl ++ [r]) (by omega) (by omega) (by simpa using hs) (by
              rw [List.nodup_append]
              exact ⟨hnd, by simp, fun a ha b hb => by rw [List.mem_singleton] at hb; subst hb; exact fun e => hrt (e ▸ ha)⟩) (fun x hx => by
              rcases List.mem_append.1 hx with hx | hx
              · obtain ⟨b1, b2, b3, b4⟩ := h x hx
                refine ⟨b1, b2, ?_, b4⟩
                rw [ix_set_ne hrr.1 b1 (fun e => hrt (e ▸ hx))]; exact b3
              · rw [List.mem_singleton.1 hx]
                exact ⟨hrr.1, hrr.2, ix_set_same hrr.1 (by omega), hR, c1, c2⟩)
            exact ⟨s', t', e, a1, a2, ⟨r :: z, by rw [a3]; simp⟩, a4⟩
        · rw [if_neg (by simpa using c2), hJ, if_neg (by decide)]; exact skip
      · rw [if_neg c1, hJ, if_neg (by decide)]; exact skip
  have k8 : ∀ {p : Int}, 0 ≤ p → p < n → ¬ Rch (fun a b => b ∈ ix nx a) (fun b => ix inn b = true ∧ ix mark p ≤ ix mark b) p p → ∀ (f : Nat) (i : Int) (seen : List Bool) (tl : List Int), n.toNat + 2 - i.toNat = f → 0 ≤ i → i ≤ (tl.length : Int) + 1 → (seen.length : Int) = n → tl.Nodup → (∀ x ∈ tl, 0 ≤ x ∧ x < n ∧ ix seen x = true ∧ Rch (fun a b => b ∈ ix nx a) (fun b => ix inn b = true ∧ ix mark p ≤ ix mark b) p x ∧ (ix inn x = true ∧ ix mark p ≤ ix mark x)) →
      r10_Odd_L8 mark nx inn p (r10_Odd_L2 mark nx inn player) i seen (p :: tl) = r10_Odd_L2 mark nx inn player (p + 1) := by
    intro p p0 p1 hno f
    induction f with
    | zero =>
      intro i seen tl hf i0 i1 hs hnd h
      have htl := pigeon_int (n := n.toNat) hnd (fun x hx => by have := h x hx; omega)
      omega
    | succ f ih =>
      intro i seen tl hf i0 i1 hs hnd h
      have htl := pigeon_int (n := n.toNat) hnd (fun x hx => by have := h x hx; omega)
      by_cases c : i < (tl.length : Int) + 1
      · have hq : (ix (p :: tl) i = p ∨ ix (p :: tl) i ∈ tl) := by
          have := ix_mem (l := p :: tl) i0 (by simp; omega)
          exact List.mem_cons.1 this
        have hqr : 0 ≤ ix (p :: tl) i ∧ ix (p :: tl) i < n := by
          rcases hq with h1 | h1
          · rw [h1]; exact ⟨p0, p1⟩
          · have := h _ h1; exact ⟨this.1, this.2.1⟩
        obtain ⟨s', t', e, a1, a2, ⟨z, a3⟩, a4⟩ := k12 (p := p) (i := i) (row0 := p :: tl) (r8 := r10_Odd_L8 mark nx inn p (r10_Odd_L2 mark nx inn player)) p0 p1 rfl hqr.1 hqr.2 hno (hq.imp id (fun h1 => (h _ h1).2.2.2)) (by unfold fits; omega) (ix nx (ix (p :: tl) i)).length 0 seen tl (by omega) (by omega) hs hnd h
        rw [r10_Odd_L8_eq]; unfold r10_Odd_L8_B
        rw [if_pos (by simp; omega), G_pos (by simp; omega), G_pos (by simp; omega), G_pos (by omega), e]
        exact ih (i + 1) s' t' (by omega) (by omega) (by rw [a3, List.length_append]; omega) a1 a2 a4
      · rw [r10_Odd_L8_eq]; unfold r10_Odd_L8_B
        rw [if_neg (by simp; omega), G_pos (by unfold fits; omega)]
  have k2 : ∀ (m : Nat) (p : Int), 0 ≤ p → p + m = n → r10_Odd_L2 mark nx inn player p = some false := by
    intro m
    induction m with
    | zero =>
      intro p p0 hp
      rw [r10_Odd_L2_eq]; unfold r10_Odd_L2_B
      rw [if_neg (by simp only [decide_eq_true_eq]; omega)]
    | succ m ih =>
      intro p p0 hp
      have ih' := ih (p + 1) (by omega) (by omega)
      rw [r10_Odd_L2_eq]; unfold r10_Odd_L2_B
      rw [if_pos (decide_eq_true (by omega)), G_pos (by omega)]
      by_cases c1 : ix inn p = true
      · rw [if_neg (by simp [c1]), G_pos (by omega), G_pos (by omega)]
        by_cases c2 : Int.tmod (ix mark p) 2 = player
        · rw [if_pos (decide_eq_true c2), G_pos (by unfold fits; omega)]; exact ih'
        · rw [if_neg (by simpa using c2), G_pos (by unfold mkOK; omega)]
          rw [k8 p0 (by omega) (hc p p0 (by omega) c1 c2) _ 0 _ [] rfl (by omega) (by simp) (by simp; omega) (by simp) (fun x hx => (by cases hx))]
          exact ih'
      · rw [if_pos (by simpa using c1), G_pos (by unfold fits; omega)]; exact ih'
  exact k2 n.toNat 0 (by omega) (by omega)
/-- What the reference makes of the ways on. -/
structure WI (g : GM) (win mv : List Int) (player t : Int) (inn : List Bool) (nx : List (List Int)) : Prop where
  li : inn.length = g.1.length
  ln : (nx.length : Int) = t
  i : ∀ p : Int, 0 ≤ p → p < t → ix inn p = decide (ix win p = player)
  x : ∀ p : Int, 0 ≤ p → p < t → ix nx p = if ix g.1 p = player ∧ ix win p = player then [ix mv p] else ix g.2.2.1 p
theorem Wins_spec (ok : GOk g) {win mv : List Int} (hw : Won g win mv) {player : Int} (hp : player = 0 ∨ player = 1) : r10_Wins g (win, mv, ()) player = some true := by
  have hn := ok.n; have hlm := ok.lm; have hln := ok.ln; have hlw := hw.lw; have hlv := hw.lv
  have hrl : ∀ p : Int, 0 ≤ p → p < g.1.length → (ix g.2.2.1 p).length ≤ g.1.length := fun p p0 p1 => pigeon_int (inc_nodup (ok.inc p p0 p1)) (ok.rng p p0 p1)
  have k5 : ∀ (m : Nat) (t : Int) (inn : List Bool) (nx : List (List Int)), 0 ≤ t → t + m = g.1.length → WI g win mv player t inn nx →
      ∃ inn' nx', r10_Wins_L5 g (win, mv, ()) player t inn nx = r10_Wins_L20 g (win, mv, ()) player inn' nx' 0 ∧ WI g win mv player g.1.length inn' nx' := by
    intro m
    induction m with
    | zero =>
      intro t inn nx t0 ht h
      obtain rfl : t = g.1.length := by omega
      refine ⟨inn, nx, ?_, h⟩
      rw [r10_Wins_L5_eq]; unfold r10_Wins_L5_B
      rw [if_neg (by simp)]
    | succ m ih =>
      intro t inn nx t0 ht h
      have hi := h.li; have hx := h.ln
      have hput : ∀ l, l = (if ix g.1 t = player ∧ ix win t = player then [ix mv t] else ix g.2.2.1 t) → WI g win mv player (t + 1) (inn.set t.toNat (decide (ix win t = player))) (nx ++ [l]) := by
        intro l el
        refine ⟨by simpa using hi, by simp; omega, fun p p0 p1 => ?_, fun p p0 p1 => ?_⟩
        · by_cases e : t = p
          · subst e; rw [ix_set_same t0 (by omega)]
          · rw [ix_set_ne t0 p0 e]; exact h.i p p0 (by omega)
        · by_cases e : p = t
          · have e2 : t = (nx.length : Int) := hx.symm
            rw [e, e2, ix_append_last, ← e2]; exact el
          · rw [ix_append_left p0 (by omega)]; exact h.x p p0 (by omega)
      have hJ17 : ∀ l, r10_Wins_J17 (win, mv, ()) player t inn nx (r10_Wins_L5 g (win, mv, ()) player) l = r10_Wins_L5 g (win, mv, ()) player (t + 1) (inn.set t.toNat (decide (ix win t = player))) (nx ++ [l]) := by
        intro l
        unfold r10_Wins_J17
        rw [G_pos (by unfold room; simp; omega), G_pos (by unfold fits; omega)]
      conv => arg 1; ext inn'; arg 1; ext nx'; arg 1; lhs; rw [r10_Wins_L5_eq]; unfold r10_Wins_L5_B
      rw [if_pos (decide_eq_true (by omega)), G_pos (by dsimp only; omega), G_pos (by omega), G_pos (by omega), G_pos (by omega), G_pos (by omega)]
      by_cases c1 : ix g.1 t = player
      · rw [if_pos (decide_eq_true c1), List.length_set, G_pos (by omega), G_pos (by omega), ix_set_same t0 (by omega)]
        unfold r10_Wins_J9
        by_cases c2 : ix win t = player
        · rw [if_pos (decide_eq_true c2)]
          have hmm := (hw.own t t0 (by omega) (by omega)).1
          have hmv := hrl t t0 (by omega)
          have k12 : ∀ (f : Nat) (k : Int) (b : Bool), 0 ≤ k → k + f = (ix g.2.2.1 t).length → (b = true ∨ ∃ j : Int, k ≤ j ∧ j < (ix g.2.2.1 t).length ∧ ix (ix g.2.2.1 t) j = ix mv t) → r10_Wins_L12 g (win, mv, ()) player t inn nx (r10_Wins_L5 g (win, mv, ()) player) b k = r10_Wins_L5 g (win, mv, ()) player (t + 1) (inn.set t.toNat (decide (ix win t = player))) (nx ++ [[ix mv t]]) := by
            intro f
            induction f with
            | zero =>
              intro k b k0 hk hb
              have hb : b = true := hb.elim id (fun ⟨j, a, b, _⟩ => by omega)
              rw [r10_Wins_L12_eq]; unfold r10_Wins_L12_B
              rw [if_neg (by simp only [decide_eq_true_eq]; omega), if_neg (by simp [hb]), G_pos (by dsimp only; omega)]
              exact hJ17 _
            | succ f ihf =>
              intro k b k0 hk hb
              rw [r10_Wins_L12_eq]; unfold r10_Wins_L12_B
              rw [if_pos (decide_eq_true (by omega))]
              cases b with
              | true => rw [if_pos rfl, G_pos (by unfold fits; omega)]; exact ihf (k + 1) true (by omega) (by omega) (.inl rfl)
              | false =>
                rw [if_neg (by decide), G_pos (by omega), G_pos (by dsimp only; omega), G_pos (by unfold fits; omega)]
                refine ihf (k + 1) _ (by omega) (by omega) ?_
                obtain ⟨j, j0, j1, j2⟩ := hb.resolve_left (by decide)
                by_cases e : j = k
                · left; rw [← e]; exact decide_eq_true j2
                · exact .inr ⟨j, by omega, j1, j2⟩
          obtain ⟨j, j0, j1, j2⟩ := (ex_ix (P := fun x => x = ix mv t)).1 ⟨_, hmm, rfl⟩
          rw [k12 _ 0 false (by omega) (Int.zero_add _) (.inr ⟨j, j0, j1, j2⟩)]
          exact ih (t + 1) _ _ (by omega) (by omega) (hput _ (by rw [if_pos ⟨c1, c2⟩]))
        · rw [if_neg (by simpa using c2), hJ17]
          exact ih (t + 1) _ _ (by omega) (by omega) (hput _ (by rw [if_neg (fun h => c2 h.2)]))
      · rw [if_neg (by simpa using c1)]
        unfold r10_Wins_J9
        rw [if_neg (by decide), hJ17]
        exact ih (t + 1) _ _ (by omega) (by omega) (hput _ (by rw [if_neg (fun h => c1 h.1)]))
  obtain ⟨inn, nx, e5, h⟩ := k5 g.1.length 0 (List.replicate (g.1.length : Int).toNat false) [] (by omega) (by omega) ⟨by simp, rfl, fun p p0 p1 => by omega, fun p p0 p1 => by omega⟩
  have hi := h.li; have hx := h.ln
  -- what leads where
  have hnx : ∀ p : Int, 0 ≤ p → p < g.1.length → ((ix nx p).length : Int) ≤ 1000000 ∧ ∀ q ∈ ix nx p, q ∈ ix g.2.2.1 p ∧ (ix g.1 p = player → ix win p = player → q = ix mv p) ∧ (ix win p = player → ix win q = player) := by
    intro p p0 p1
    have hr := hrl p p0 p1
    rw [h.x p p0 p1]
    by_cases c : ix g.1 p = player ∧ ix win p = player
    · rw [if_pos c]
      obtain ⟨s1, s2⟩ := hw.own p p0 p1 (by omega)
      refine ⟨by simp, fun q hq => ?_⟩
      rw [List.mem_singleton.1 hq]
      exact ⟨s1, fun _ _ => rfl, fun _ => by rw [s2]; exact c.2⟩
    · rw [if_neg c]
      refine ⟨by omega, fun q hq => ⟨hq, fun c1 c2 => absurd ⟨c1, c2⟩ c, fun c2 => ?_⟩⟩
      by_cases co : ix g.1 p = ix win p
      · exact absurd ⟨co.trans c2, c2⟩ c
      · rw [(hw.oth p p0 p1 co).2 q hq]; exact c2
  have hO : r10_Odd g.2.1 nx inn player = some false := by
    refine Odd_spec (n := g.1.length) (by omega) (by omega) hx (by omega) (fun p p0 p1 q hq => ok.rng p p0 p1 q ((hnx p p0 p1).2 q hq).1) (fun p p0 p1 => (hnx p p0 p1).1) (fun p p0 p1 hip hpar hcy => ?_)
    rw [h.i p p0 p1, decide_eq_true_eq] at hip
    refine hw.cyc p p0 p1 (by rw [hip]; exact hpar) ?_
    have : ∀ q, Rch (fun a b => b ∈ ix nx a) (fun b => ix inn b = true ∧ ix g.2.1 p ≤ ix g.2.1 b) p q → (0 ≤ q ∧ q < g.1.length ∧ ix win q = player) ∧ Rch (fun a b => b ∈ ix g.2.2.1 a ∧ (ix g.1 a = ix win p → b = ix mv a)) (fun b => ix g.2.1 p ≤ ix g.2.1 b) p q := by
      intro q hq
      induction hq with
      | @one q e =>
        obtain ⟨a, b, c⟩ := (hnx p p0 p1).2 q e
        have hr := ok.rng p p0 p1 q a
        exact ⟨⟨hr.1, hr.2, c hip⟩, .one ⟨a, fun ho => b (by rw [ho, hip]) hip⟩⟩
      | @more q r _ k e ih =>
        obtain ⟨⟨q0, q1, hq⟩, hR⟩ := ih
        obtain ⟨a, b, c⟩ := (hnx q q0 q1).2 r e
        have hr := ok.rng q q0 q1 r a
        exact ⟨⟨hr.1, hr.2, c hq⟩, .more hR k.2 ⟨a, fun ho => b (by rw [ho, hip]) hq⟩⟩
    exact (this p hcy).2
  have k20 : ∀ (m : Nat) (p : Int), 0 ≤ p → p + m = g.1.length → r10_Wins_L20 g (win, mv, ()) player inn nx p = some true := by
    intro m
    induction m with
    | zero =>
      intro p p0 hp
      rw [r10_Wins_L20_eq]; unfold r10_Wins_L20_B
      rw [if_neg (by simp only [decide_eq_true_eq]; omega)]
      exact bind_to hO rfl
    | succ m ih =>
      intro p p0 hp1
      have ih' := ih (p + 1) (by omega) (by omega)
      obtain ⟨hxl, hxq⟩ := hnx p p0 (by omega)
      have hip := h.i p p0 (by omega)
      rw [r10_Wins_L20_eq]; unfold r10_Wins_L20_B
      rw [if_pos (decide_eq_true (by omega))]
      have k23 : ∀ (f : Nat) (k : Int), 0 ≤ k → k + f = (ix nx p).length → r10_Wins_L23 g (win, mv, ()) player inn nx p (r10_Wins_L20 g (win, mv, ()) player inn nx) k = some true := by
        intro f
        induction f with
        | zero =>
          intro k k0 hk
          rw [r10_Wins_L23_eq]; unfold r10_Wins_L23_B
          rw [G_pos (by omega), G_pos (by omega), if_neg (by simp only [decide_eq_true_eq]; omega), G_pos (by omega)]
          have hfp : fits (p + 1) := by unfold fits; omega
          have htail : (if decide (¬ ix g.1 p = ix win p) = true then G (0 ≤ p ∧ p < (mv.length : Int)) (if decide (¬ ix mv p = -1) = true then some false else G (fits (p + 1)) (r10_Wins_L20 g (win, mv, ()) player inn nx (p + 1))) else G (fits (p + 1)) (r10_Wins_L20 g (win, mv, ()) player inn nx (p + 1))) = some true := by
            by_cases c : ix g.1 p = ix win p
            · rw [if_neg (by simpa using c), G_pos hfp]; exact ih'
            · rw [if_pos (by simpa using c), G_pos (by omega), (hw.oth p p0 (by omega) c).1, if_neg (by simp), G_pos hfp]; exact ih'
          by_cases c1 : ix g.1 p = player
          · rw [if_neg (by simpa using c1), G_pos (by omega), G_pos (by omega)]
            by_cases c2 : ix inn p = true
            · rw [if_neg (by simp [c2]), G_pos hfp]; exact ih'
            · rw [if_pos (by simpa using c2), G_pos (by omega), G_pos (by dsimp only; omega)]
              exact htail
          · rw [if_pos (by simpa using c1), G_pos (by omega), G_pos (by dsimp only; omega)]
            exact htail
        | succ f ihf =>
          intro k k0 hk
          have ihf' := ihf (k + 1) (by omega) (by omega)
          obtain ⟨a, _, c⟩ := hxq _ (ix_mem k0 (by omega : k < (ix nx p).length))
          have hr := ok.rng p p0 (by omega) _ a
          rw [r10_Wins_L23_eq]; unfold r10_Wins_L23_B
          rw [G_pos (by omega), G_pos (by omega), if_pos (decide_eq_true (by omega)), G_pos (by omega), G_pos (by omega)]
          by_cases c2 : ix inn p = true
          · rw [if_pos c2, G_pos (by omega), G_pos (by omega), G_pos (by omega), G_pos (by dsimp only; omega)]
            rw [hip, decide_eq_true_eq] at c2
            rw [if_neg (by simpa using c c2), G_pos (by unfold fits; omega)]
            exact ihf'
          · rw [if_neg c2, G_pos (by unfold fits; omega)]
            exact ihf'
      exact k23 _ 0 (by omega) (Int.zero_add _)
  unfold r10_Wins
  rw [G_pos (by unfold mkOK; omega), e5]
  exact k20 g.1.length 0 (by omega) (by omega)
end
theorem law_true (g : GM) (sg : Sml (.pair (.list (.int .i64)) (.pair (.list (.int .i64)) (.pair (.list (.list (.int .i64))) .unit))) g) : law_GameSolves g = some true := by
  have b1 : g.1.length * 8 ≤ 140737488351232 := sg.1.1
  have b2 : g.2.1.length * 8 ≤ 140737488351232 := sg.2.1.1
  have b3 : g.2.2.1.length * 24 ≤ 140737488351232 := sg.2.2.1.1
  have b4 : ∀ w ∈ g.2.2.1, w.length * 8 ≤ 140737488351232 := fun w hw => (sg.2.2.1.2 w hw).1
  have hs : ∀ l ∈ g.2.2.1, l.length ≤ 2305843009213693951 := fun l hl => by have := b4 l hl; omega
  have eg : (g.1, g.2.1, g.2.2.1, ()) = g := rfl
  unfold law_GameSolves
  refine bind_to (list_spec b1) (bind_to (list_spec b2) (bind_to (lists_spec b3 b4) ?_))
  rw [eg]
  by_cases h0 : gmE g = 0
  · have ok := gmE_zero h0
    have hn := ok.n
    obtain ⟨win, mv, e, hw⟩ := Solve_spec ok h0 hs
    refine bind_to e (bind_to (game_Check_spec hs) (bind_to (r10_Check_spec hs) ?_))
    refine bind_to (r1_Words_spec (by omega)) (bind_to (r1_Words_spec (by omega)) (bind_to (sameLists_refl b3 b4) ?_))
    rw [if_neg (by simp), if_neg (by simp), if_neg (by simp), if_neg (by simp), if_neg (by simpa using h0), if_neg (by simp), if_neg (show ¬ decide (¬ (win.length : Int) = g.1.length) = true by simp [hw.lw]), if_neg (show ¬ decide (¬ (mv.length : Int) = g.1.length) = true by simp [hw.lv])]
    have k19 : law_GameSolves_L19 g (win, mv, ()) 0 = law_GameSolves_L19 g (win, mv, ()) g.1.length := by
      refine scan_to (len := g.1.length) (bad := fun _ => False) (by omega) (fun p p0 p1 => ⟨fun h => h.elim, fun _ => ?_⟩) (fun _ => rfl)
      have hlw := hw.lw
      conv => lhs; rw [law_GameSolves_L19_eq]; unfold law_GameSolves_L19_B
      rw [if_pos (decide_eq_true p1), G_pos (by dsimp only; omega)]
      rcases hw.two p p0 p1 with c | c
      · rw [if_neg (by simpa using c), G_pos (by unfold fits; omega)]
      · rw [if_pos (by simp [c]), G_pos (by dsimp only; omega), if_neg (by simpa using c), G_pos (by unfold fits; omega)]
    refine k19.trans ?_
    rw [law_GameSolves_L19_eq]; unfold law_GameSolves_L19_B
    rw [if_neg (by simp), eg]
    refine bind_to (Wins_spec ok hw (.inl rfl)) (bind_to (Wins_spec ok hw (.inr rfl)) ?_)
    rw [if_pos rfl]
  · have e : game_Solve g = some (([], [], ()), gmE g) := by
      unfold game_Solve
      refine bind_to (game_Check_spec hs) ?_
      rw [eg, if_pos (by simpa using h0)]
    refine bind_to e (bind_to (game_Check_spec hs) (bind_to (r10_Check_spec hs) ?_))
    refine bind_to (r1_Words_spec (by omega)) (bind_to (r1_Words_spec (by omega)) (bind_to (sameLists_refl b3 b4) ?_))
    rw [if_neg (by simp), if_neg (by simp), if_neg (by simp), if_neg (by simp), if_pos (by simpa using h0), if_pos (by simp), G_pos (by unfold fits; simp)]
    simp

end Go.Proofs.Yticpmfhdnaocoaa.gameSolvesW
