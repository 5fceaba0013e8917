/- The law 'SameTells' of the plain functions. -/
import Derived.Test.YtgfckoeoichfmaaSameTellsD
set_option maxHeartbeats 1000000
set_option maxRecDepth 20000
set_option linter.unusedSimpArgs false
set_option linter.unusedVariables false
set_option linter.unusedSectionVars false
namespace Go.Proofs.Ytgfckoeoichfmaa.sameTellsW
open Go Go.Ab
/-- The answer is yes just if P. -/
def Tells (o : Option Bool) (P : Prop) : Prop := ∃ b, o = some b ∧ (b = true ↔ P)
theorem Tells.of {b : Bool} {P : Prop} (h : b = true ↔ P) : Tells (some b) P := ⟨b, rfl, h⟩
theorem Tells.dec {P Q : Prop} [Decidable P] (h : P ↔ Q) : Tells (some (decide P)) Q := ⟨_, rfl, by simpa using h⟩
theorem Tells.iff {o : Option Bool} {P Q : Prop} (h : Tells o P) (k : P ↔ Q) : Tells o Q := let ⟨b, h1, h2⟩ := h; ⟨b, h1, h2.trans k⟩
theorem Tells.eq {o : Option Bool} {P : Prop} [Decidable P] (h : Tells o P) : o = some (decide P) := by
  obtain ⟨b, rfl, hb⟩ := h
  by_cases hp : P
  · simp [hp, hb.2 hp]
  · have : b = false := by cases b; rfl; exact absurd (hb.1 rfl) hp
    simp [hp, this]
theorem Tells.to {R : Type} {o : Option Bool} {P : Prop} {k1 k2 x : Option R} (h : Tells o P) (h1 : P → k1 = x) (h2 : ¬ P → k2 = x) : (o.bind fun y => if y = true then k1 else k2) = x := by
  obtain ⟨b, rfl, hb⟩ := h
  refine bind_to rfl ?_
  cases b
  · exact h2 fun hp => by simpa using hb.2 hp
  · exact h1 (hb.1 rfl)
theorem Tells.bind {R : Type} {o : Option Bool} {P : Prop} {k : Bool → Option R} {x : Option R} (h : Tells o P) (h1 : ∀ b, (b = true ↔ P) → k b = x) : o.bind k = x := by
  obtain ⟨b, rfl, hb⟩ := h
  exact h1 b hb
section
variable {α C : Type} [Inhabited α]
theorem ex_ix {l : List α} {P : α → Prop} : (∃ x ∈ l, P x) ↔ ∃ i : Int, 0 ≤ i ∧ i < l.length ∧ P (ix l i) := by
  constructor
  · rintro ⟨x, hx, hp⟩
    obtain ⟨i, hi, rfl⟩ := List.mem_iff_getElem.1 hx
    refine ⟨i, by omega, by omega, ?_⟩
    rwa [ix_eq (by omega) (by omega)]
  · rintro ⟨i, h0, h1, hp⟩
    exact ⟨_, ix_mem h0 h1, hp⟩
theorem index_loop {s : List α} {f : α → Option Bool} {L : Int → Option Int} {P : α → Prop} (hs : s.length ≤ 4611686018427387904)
    (hL : ∀ t, L t = if decide (t < (s.length : Int)) = true then G (0 ≤ t ∧ t < (s.length : Int)) ((f (ix s t)).bind fun y => if y = true then some t else G (fits (t + 1)) (L (t + 1))) else some (-1))
    (hf : ∀ x ∈ s, Tells (f x) (P x)) : ∀ (n : Nat) (t : Int), 0 ≤ t → t ≤ s.length → (s.length - t).toNat = n →
      ∃ i, L t = some i ∧ ((i = -1 ∧ ∀ j : Int, t ≤ j → j < s.length → ¬ P (ix s j)) ∨ (t ≤ i ∧ i < s.length ∧ P (ix s i) ∧ ∀ j : Int, t ≤ j → j < i → ¬ P (ix s j))) := by
  intro n
  induction n with
  | zero =>
    intro t h0 h1 hn
    refine ⟨-1, ?_, .inl ⟨rfl, fun j a b => by omega⟩⟩
    rw [hL, if_neg (by simp; omega)]
  | succ n ih =>
    intro t h0 h1 hn
    rw [hL, if_pos (by simp; omega), G_pos (by omega)]
    obtain ⟨b, hb, hbp⟩ := hf _ (ix_mem h0 (by omega : t < s.length))
    rw [hb]
    cases b with
    | true => exact ⟨t, rfl, .inr ⟨by omega, by omega, hbp.1 rfl, fun j a b => by omega⟩⟩
    | false =>
      have hnp : ¬ P (ix s t) := fun hp => by simpa using hbp.2 hp
      obtain ⟨i, hi, hc⟩ := ih (t + 1) (by omega) (by omega) (by omega)
      refine ⟨i, ?_, ?_⟩
      · refine (if_neg (by simp) : (if false = true then some t else G (fits (t + 1)) (L (t + 1))) = _).trans ?_
        rw [G_pos (by unfold fits; omega), hi]
      · rcases hc with ⟨h2, h3⟩ | ⟨h2, h3, h4, h5⟩
        · refine .inl ⟨h2, fun j a b => ?_⟩
          by_cases e : j = t
          · rw [e]; exact hnp
          · exact h3 j (by omega) b
        · refine .inr ⟨by omega, h3, h4, fun j a b => ?_⟩
          by_cases e : j = t
          · rw [e]; exact hnp
          · exact h5 j (by omega) b
theorem contains_tells {s : List α} {f : α → Option Bool} {L : Int → Option Int} {P : α → Prop}
    (hL : ∀ t, L t = if decide (t < (s.length : Int)) = true then G (0 ≤ t ∧ t < (s.length : Int)) ((f (ix s t)).bind fun y => if y = true then some t else G (fits (t + 1)) (L (t + 1))) else some (-1))
    (hs : s.length ≤ 4611686018427387904) (hf : ∀ x ∈ s, Tells (f x) (P x)) : Tells ((L 0).bind fun y => some (decide ((0 : Int) ≤ y))) (∃ x ∈ s, P x) := by
  obtain ⟨i, hi, hc⟩ := index_loop hs hL hf _ 0 (by omega) (by omega) rfl
  rw [hi]
  refine ⟨decide (0 ≤ i), rfl, ?_⟩
  rw [decide_eq_true_iff, ex_ix]
  rcases hc with ⟨h2, h3⟩ | ⟨h2, h3, h4, h5⟩
  · constructor
    · intro h; omega
    · rintro ⟨j, h0, h1, hp⟩; exact absurd hp (h3 j h0 h1)
  · exact ⟨fun _ => ⟨i, by omega, h3, h4⟩, fun _ => by omega⟩
/-- .. of what carries along what it reads. -/
theorem contains_tells2 {s : List α} {c : C} {f : α → C → Option (Bool × C)} {L : Int → C → Option (Int × C)} {P : α → Prop}
    (hL : ∀ t c, L t c = if decide (t < (s.length : Int)) = true then G (0 ≤ t ∧ t < (s.length : Int)) ((f (ix s t) c).bind fun y => if y.1 = true then some (t, y.2) else G (fits (t + 1)) (L (t + 1) y.2)) else some (-1, c))
    (hs : s.length ≤ 4611686018427387904) (hf : ∀ x ∈ s, ∃ b, f x c = some (b, c) ∧ (b = true ↔ P x)) : ∃ b, ((L 0 c).bind fun y => some (decide ((0 : Int) ≤ y.1), y.2)) = some (b, c) ∧ (b = true ↔ ∃ x ∈ s, P x) := by
  have key : ∀ (n : Nat) (t : Int), 0 ≤ t → t ≤ s.length → (s.length - t).toNat = n →
      ∃ i, L t c = some (i, c) ∧ ((i = -1 ∧ ∀ j : Int, t ≤ j → j < s.length → ¬ P (ix s j)) ∨ (t ≤ i ∧ i < s.length ∧ P (ix s i))) := by
    intro n
    induction n with
    | zero =>
      intro t h0 h1 hn
      refine ⟨-1, ?_, .inl ⟨rfl, fun j a b => by omega⟩⟩
      rw [hL, if_neg (by simp; omega)]
    | succ n ih =>
      intro t h0 h1 hn
      rw [hL, if_pos (by simp; omega), G_pos (by omega)]
      obtain ⟨b, hb, hbp⟩ := hf _ (ix_mem h0 (by omega : t < s.length))
      rw [hb]
      cases b with
      | true => exact ⟨t, rfl, .inr ⟨by omega, by omega, hbp.1 rfl⟩⟩
      | false =>
        have hnp : ¬ P (ix s t) := fun hp => by simpa using hbp.2 hp
        obtain ⟨i, hi, hc⟩ := ih (t + 1) (by omega) (by omega) (by omega)
        refine ⟨i, ?_, ?_⟩
        · refine (if_neg (by simp) : (if false = true then some (t, c) else G (fits (t + 1)) (L (t + 1) c)) = _).trans ?_
          rw [G_pos (by unfold fits; omega), hi]
        · rcases hc with ⟨h2, h3⟩ | ⟨h2, h3, h4⟩
          · refine .inl ⟨h2, fun j a b => ?_⟩
            by_cases e : j = t
            · rw [e]; exact hnp
            · exact h3 j (by omega) b
          · exact .inr ⟨by omega, h3, h4⟩
  obtain ⟨i, hi, hc⟩ := key _ 0 (by omega) (by omega) rfl
  rw [hi]
  refine ⟨decide (0 ≤ i), rfl, ?_⟩
  rw [decide_eq_true_iff, ex_ix]
  rcases hc with ⟨h2, h3⟩ | ⟨h2, h3, h4⟩
  · constructor
    · intro h; omega
    · rintro ⟨j, h0, h1, hp⟩; exact absurd hp (h3 j h0 h1)
  · exact ⟨fun _ => ⟨i, by omega, h3, h4⟩, fun _ => by omega⟩
end
/-- A loop that looks for the first fault. -/
theorem scan_to {R : Type} {len : Int} {L : Int → Option R} {bad : Int → Prop} {x : Option R} {lo : Int} (h0 : lo ≤ len)
    (hs : ∀ t, lo ≤ t → t < len → (bad t → L t = x) ∧ (¬ bad t → L t = L (t + 1))) (hf : (∀ t, lo ≤ t → t < len → ¬ bad t) → L len = x) : L lo = x := by
  have key : ∀ (n : Nat) (t : Int), lo ≤ t → t ≤ len → (len - t).toNat = n → (∀ j, lo ≤ j → j < t → ¬ bad j) → L t = x := by
    intro n
    induction n with
    | zero =>
      intro t h1 h2 hn h
      obtain rfl : t = len := by omega
      exact hf h
    | succ n ih =>
      intro t h1 h2 hn h
      by_cases hb : bad t
      · exact (hs t h1 (by omega)).1 hb
      · rw [(hs t h1 (by omega)).2 hb]
        refine ih (t + 1) (by omega) (by omega) (by omega) fun j a b => ?_
        by_cases e : j = t
        · rw [e]; exact hb
        · exact h j a (by omega)
  exact key _ lo (Int.le_refl _) h0 rfl (fun j a b => by omega)
/-- A loop that counts, with a state. -/
theorem fold_to {R S : Type} {len : Int} {L : Int → S → Option R} {f : Int → S → S} {lo : Int} {I : Int → S → Prop} {s : S} (h0 : lo ≤ len) (hI : I lo s)
    (hs : ∀ t s, lo ≤ t → t < len → I t s → L t s = L (t + 1) (f t s) ∧ I (t + 1) (f t s)) : ∃ s', I len s' ∧ L lo s = L len s' := by
  have key : ∀ (n : Nat) (t : Int) (s : S), lo ≤ t → t ≤ len → (len - t).toNat = n → I t s → ∃ s', I len s' ∧ L t s = L len s' := by
    intro n
    induction n with
    | zero =>
      intro t s h1 h2 hn h
      obtain rfl : t = len := by omega
      exact ⟨s, h, rfl⟩
    | succ n ih =>
      intro t s h1 h2 hn h
      obtain ⟨e, h3⟩ := hs t s h1 (by omega) h
      obtain ⟨s', h4, h5⟩ := ih (t + 1) _ (by omega) (by omega) (by omega) h3
      exact ⟨s', h4, e.trans h5⟩
  exact key _ lo s (Int.le_refl _) h0 rfl hI

theorem mfind_none {α : Type} : ∀ {ks : List α} {x : α}, mfind ks x = none ↔ x ∉ ks
  | [], x => by simp [mfind]
  | y :: ys, x => by
    unfold mfind
    by_cases h : y = x
    · rw [if_pos h]; simp [h]
    · rw [if_neg h, Option.map_eq_none_iff, mfind_none]
      simp [Ne.symm h]
/-- A map that only marks: all its elements are one. -/
abbrev ones {α : Type} (ks : List α) : List Int := List.replicate ks.length 1
theorem mget_ones {α : Type} {ks : List α} {x : α} : (mget ks (ones ks) x 0 = 0) ↔ x ∉ ks := by
  unfold mget
  cases h : mfind ks x with
  | none => simp [mfind_none.1 h]
  | some j =>
    have hx : x ∈ ks := by
      refine Classical.byContradiction fun hn => ?_
      rw [mfind_none.2 hn] at h; cases h
    have := mfind_lt h
    simp [hx, this]
theorem mputK_new {α : Type} {ks : List α} {x : α} (h : x ∉ ks) : mputK ks x = ks ++ [x] := by
  unfold mputK; rw [mfind_none.2 h]
theorem mputV_new {α : Type} {ks : List α} {x : α} (h : x ∉ ks) : mputV ks (ones ks) x 1 = ones (ks ++ [x]) := by
  unfold mputV; rw [mfind_none.2 h]
  show List.replicate ks.length 1 ++ [1] = List.replicate (ks ++ [x]).length 1
  rw [List.length_append, List.length_singleton, List.replicate_succ']

theorem pigeon {α : Type} [DecidableEq α] : ∀ {l U : List α}, l.Nodup → (∀ x ∈ l, x ∈ U) → l.length ≤ U.length
  | [], _, _, _ => Nat.zero_le _
  | a :: l, U, hn, hs => by
    have ha := hs a (by simp)
    obtain ⟨h1, h2⟩ := List.nodup_cons.1 hn
    have := pigeon (U := U.erase a) h2 (fun x hx => (List.mem_erase_of_ne (by rintro rfl; exact h1 hx)).2 (hs x (by simp [hx])))
    rw [List.length_erase_of_mem ha] at this
    have hp : 0 < U.length := List.length_pos_of_mem ha
    rw [List.length_cons]; omega
theorem pigeon_int {l : List Int} {n : Nat} (h : l.Nodup) (hb : ∀ x ∈ l, 0 ≤ x ∧ x < n) : l.length ≤ n := by
  have := pigeon (U := (List.range n).map Int.ofNat) h (fun x hx => by
    have := hb x hx
    exact List.mem_map.2 ⟨x.toNat, List.mem_range.2 (by omega), by show ((x.toNat : Nat) : Int) = x; omega⟩)
  simpa using this

theorem mfind_mem {α : Type} {ks : List α} {x : α} (h : x ∈ ks) : ∃ j, mfind ks x = some j := by
  cases e : mfind ks x with
  | none => exact absurd h (mfind_none.1 e)
  | some j => exact ⟨j, rfl⟩
theorem mfind_hd {α : Type} (ks : List α) (x : α) : mfind (x :: ks) x = some 0 := by unfold mfind; rw [if_pos rfl]
theorem mfind_tl {α : Type} {ks : List α} {x y : α} (h : y ≠ x) : mfind (y :: ks) x = (mfind ks x).map (· + 1) := by
  rw [mfind, if_neg h]
theorem mfind_app {α : Type} : ∀ {ks : List α} {x : α} {j : Nat} (l : List α), mfind ks x = some j → mfind (ks ++ l) x = some j
  | [], _, _, _, h => by cases h
  | y :: ks, x, j, l, h => by
    rw [List.cons_append]
    by_cases e : y = x
    · subst e; rw [mfind_hd] at h ⊢; exact h
    · rw [mfind_tl e] at h ⊢
      cases hm : mfind ks x with
      | none => rw [hm] at h; cases h
      | some i => rw [hm] at h; rw [mfind_app l hm]; exact h
theorem mfind_new {α : Type} : ∀ {ks : List α} {x : α}, x ∉ ks → mfind (ks ++ [x]) x = some ks.length
  | [], x, _ => mfind_hd _ _
  | y :: ks, x, h => by
    have hy : y ≠ x := by rintro rfl; exact h (by simp)
    rw [List.cons_append, mfind_tl hy, mfind_new (fun hh => h (by simp [hh]))]; rfl
theorem mfind_at {α : Type} : ∀ {ks : List α} {x : α} {k : Nat}, ks[k]? = some x → (∀ j, j < k → ks[j]? ≠ some x) → mfind ks x = some k
  | [], _, _, h, _ => by simp at h
  | y :: ks, x, k, h, hf => by
    cases k with
    | zero =>
      have : y = x := by simpa using h
      subst this; exact mfind_hd _ _
    | succ k =>
      have hy : y ≠ x := by have := hf 0 (by omega); simpa using this
      rw [mfind_tl hy, mfind_at (k := k) (by simpa using h) (fun j hj => by have := hf (j + 1) (by omega); simpa using this)]; rfl
theorem mfind_inj {α : Type} {ks : List α} {x y : α} {j : Nat} (h : mfind ks x = some j) (k : mfind ks y = some j) : x = y := by
  have := mfind_get h; rw [mfind_get k] at this; injection this with this; exact this.symm
theorem mfind_nodup {α : Type} {ks : List α} (hn : ks.Nodup) {j : Nat} (hj : j < ks.length) : mfind ks ks[j] = some j :=
  mfind_at (by simp) fun i hi e => by
    have hi' : i < ks.length := by omega
    rw [List.getElem?_eq_getElem hi'] at e
    exact List.pairwise_iff_getElem.1 hn i j hi' hj hi (Option.some.inj e)
theorem mfind_map {α β : Type} (f : α → β) : ∀ {ks : List α} {x : α}, (∀ y ∈ ks, f y = f x → y = x) → mfind (ks.map f) (f x) = mfind ks x
  | [], _, _ => rfl
  | y :: ks, x, h => by
    have ih := mfind_map f (ks := ks) (x := x) (fun z hz => h z (by simp [hz]))
    rw [List.map_cons]
    by_cases e : y = x
    · subst e; rw [mfind_hd, mfind_hd]
    · rw [mfind_tl e, mfind_tl (fun hh => e (h y (by simp) hh)), ih]
/-- 0, 1, 2, .. -/
def iota (n : Nat) : List Int := (List.range n).map fun j : Nat => (j : Int)
theorem iota_len (n : Nat) : (iota n).length = n := by simp [iota]
theorem iota_succ (n : Nat) : iota (n + 1) = iota n ++ [(n : Int)] := by simp [iota, List.range_succ]
theorem mget_iota {α : Type} {ks : List α} {x : α} {j : Nat} (h : mfind ks x = some j) : mget ks (iota ks.length) x 0 = j := by
  have := mfind_lt h
  unfold mget; rw [h]
  simp [iota, this]
theorem mhas_iff {α : Type} {ks : List α} {x : α} : mhas ks x = true ↔ x ∈ ks := by
  unfold mhas
  cases e : mfind ks x with
  | none => simp [mfind_none.1 e]
  | some j =>
    have := mfind_get e
    simp [List.mem_of_getElem? this]
theorem mputV_iota {α : Type} {ks : List α} {x : α} (h : x ∉ ks) : mputV ks (iota ks.length) x ks.length = iota (ks ++ [x]).length := by
  unfold mputV; rw [mfind_none.2 h, List.length_append, List.length_singleton, iota_succ]
theorem cover_nodup {α : Type} [DecidableEq α] : ∀ {l U : List α}, U.Nodup → (∀ x ∈ U, x ∈ l) → l.length ≤ U.length → l.Nodup
  | [], _, _, _, _ => List.nodup_nil
  | a :: l, U, hU, hs, hl => by
    have ha : a ∉ l := fun ha => by
      have := pigeon (l := U) (U := l) hU (fun x hx => by
        rcases List.mem_cons.1 (hs x hx) with rfl | h
        · exact ha
        · exact h)
      rw [List.length_cons] at hl; omega
    refine List.nodup_cons.2 ⟨ha, ?_⟩
    refine cover_nodup (U := U.erase a) (hU.erase a) (fun x hx => ?_) ?_
    · have hne : x ≠ a := ((List.Nodup.mem_erase_iff hU).1 hx).1
      rcases List.mem_cons.1 (hs x (List.mem_of_mem_erase hx)) with h | h
      · exact absurd h hne
      · exact h
    · have : U.length - 1 ≤ (U.erase a).length := by
        by_cases h : a ∈ U
        · rw [List.length_erase_of_mem h]; omega
        · rw [List.erase_of_not_mem h]; omega
      rw [List.length_cons] at hl; omega

abbrev Arc := Int × Int × Int × Unit
abbrev Gr := Int × Int × (List Arc) × Unit
def SLt (x y : Arc) : Prop := x.1 < y.1 ∨ x.1 = y.1 ∧ (x.2.1 < y.2.1 ∨ x.2.1 = y.2.1 ∧ x.2.2.1 < y.2.2.1)
def GLet (g : Gr) : Prop := g.1 < 1 ∨ 4 < g.1
def GSize (g : Gr) : Prop := g.2.1 < 1 ∨ 12 < g.2.1 ∨ 60 < g.2.2.1.length
def ABad (g : Gr) (x : Arc) : Prop := x.1 < 0 ∨ g.2.1 ≤ x.1 ∨ x.2.2.1 < 0 ∨ g.2.1 ≤ x.2.2.1 ∨ x.2.1 < 0 ∨ g.1 ≤ x.2.1
def GBad (g : Gr) : Prop := ∃ x ∈ g.2.2.1, ABad g x
def GOrd (g : Gr) : Prop := ∃ i : Int, 1 ≤ i ∧ i < g.2.2.1.length ∧ ¬ SLt (ix g.2.2.1 (i - 1)) (ix g.2.2.1 i)
open Classical in
noncomputable def grE (g : Gr) : Int := if GLet g then 2 else if GSize g then 1 else if GBad g then 2 else if GOrd g then 3 else 0
theorem chk1 (p : Int) (g : Gr) : Tells (same_Check_1 p g) (p < 0 ∨ g.2.1 ≤ p) := by
  unfold same_Check_1
  by_cases h : p < 0
  · rw [if_pos (decide_eq_true h)]; exact Tells.of (by simp [h])
  · rw [if_neg (by simpa using h)]; exact Tells.dec (by omega)
theorem chk2 (x : Arc) (g : Gr) : ∃ b, same_Check_2 x g g = some (b, g) ∧ (b = true ↔ ABad g x) := by
  unfold same_Check_2 ABad
  obtain ⟨b, e, hb⟩ := chk1 x.1 g
  obtain ⟨c, e2, hc⟩ := chk1 x.2.2.1 g
  rw [e, e2]
  simp only [Option.bind_some]
  cases b with
  | true => exact ⟨true, rfl, by have := hb.1 rfl; simp; omega⟩
  | false =>
    have hb : ¬ (x.1 < 0 ∨ g.2.1 ≤ x.1) := fun h => by cases hb.2 h
    cases c with
    | true => exact ⟨true, rfl, by have := hc.1 rfl; simp; omega⟩
    | false =>
      have hc : ¬ (x.2.2.1 < 0 ∨ g.2.1 ≤ x.2.2.1) := fun h => by cases hc.2 h
      by_cases h : x.2.1 < 0
      · exact ⟨true, by simp [h], by simp; omega⟩
      · exact ⟨decide (g.1 ≤ x.2.1), by simp [h], by rw [decide_eq_true_iff]; omega⟩
theorem cmp_spec (x y : Int) : cmp_Compare x y = some (if x < y then -1 else if y < x then 1 else 0) := by
  unfold cmp_Compare cmp_isNaN
  simp only [Option.bind_some, not_true, decide_false, Bool.false_eq_true, if_false, decide_eq_true_eq]
  by_cases h : x < y
  · simp [h]
  · by_cases h2 : y < x <;> simp [h, h2]
theorem or_spec (a b c : Int) : cmp_Or [a, b, c] = some (if a ≠ 0 then a else if b ≠ 0 then b else c) := by
  unfold cmp_Or
  rw [cmp_Or_L3_eq]; unfold cmp_Or_L3_B
  have e0 : ix [a, b, c] 0 = a := rfl
  have e1 : ix [a, b, c] (0 + 1) = b := rfl
  have e2 : ix [a, b, c] (0 + 1 + 1) = c := rfl
  rw [if_pos (by simp), G_pos (by simp), e0]
  by_cases h : a = 0
  · rw [if_neg (by simp [h]), G_pos (by decide), cmp_Or_L3_eq]; unfold cmp_Or_L3_B
    rw [if_pos (by simp), G_pos (by simp), e1]
    by_cases h2 : b = 0
    · rw [if_neg (by simp [h2]), G_pos (by decide), cmp_Or_L3_eq]; unfold cmp_Or_L3_B
      rw [if_pos (by simp), G_pos (by simp), e2]
      by_cases h3 : c = 0
      · rw [if_neg (by simp [h3]), G_pos (by decide), cmp_Or_L3_eq]; unfold cmp_Or_L3_B
        rw [if_neg (by simp)]
        simp [h, h2, h3]
      · rw [if_pos (by simp [h3])]; simp [h, h2]
    · rw [if_pos (by simp [h2])]; simp [h, h2]
  · rw [if_pos (by simp [h])]; simp [h]
theorem order_spec (x y : Arc) : ∃ o, same_order x y = some o ∧ (0 ≤ o ↔ ¬ SLt x y) := by
  unfold same_order SLt
  rw [cmp_spec, cmp_spec, cmp_spec]
  simp only [Option.bind_some]
  rw [or_spec]
  refine ⟨_, rfl, ?_⟩
  repeat' split
  all_goals omega
theorem ahead_tells (x y : Arc) : Tells (r20_Ahead x y) (SLt x y) := by
  unfold r20_Ahead SLt
  by_cases h : x.1 = y.1
  · rw [if_neg (by simp [h])]
    by_cases h2 : x.2.1 = y.2.1
    · rw [if_neg (by simp [h2])]; exact Tells.dec (by omega)
    · rw [if_pos (by simp [h2])]; exact Tells.dec (by omega)
  · rw [if_pos (by simp [h])]; exact Tells.dec (by omega)
section
variable {g : Gr}
theorem same_Check_spec : same_Check g = some (grE g) := by
  unfold same_Check grE
  by_cases c1 : GLet g
  · rw [if_pos c1]; unfold GLet at c1
    (try dsimp only); (repeat' first | (with_reducible refine G_to ?_ ?_; focus (first | omega | (unfold fits; omega) | (unfold room; (try simp only [List.length_append, List.length_cons, List.length_nil]); omega))) | (with_reducible refine both_to ?_ ?_) | (with_reducible refine itet_to ?_) | (with_reducible refine itef_to ?_) | (with_reducible refine ite_to (fun _ => ?_) (fun _ => ?_))) <;> try (exfalso; omega)
    all_goals rfl
  rw [if_neg c1]; unfold GLet at c1
  by_cases c2 : GSize g
  · rw [if_pos c2]; unfold GSize at c2
    (try dsimp only); (repeat' first | (with_reducible refine G_to ?_ ?_; focus (first | omega | (unfold fits; omega) | (unfold room; (try simp only [List.length_append, List.length_cons, List.length_nil]); omega))) | (with_reducible refine both_to ?_ ?_) | (with_reducible refine itet_to ?_) | (with_reducible refine itef_to ?_) | (with_reducible refine ite_to (fun _ => ?_) (fun _ => ?_))) <;> try (exfalso; omega)
    all_goals rfl
  rw [if_neg c2]; unfold GSize at c2
  (try dsimp only); (repeat' first | (with_reducible refine G_to ?_ ?_; focus (first | omega | (unfold fits; omega) | (unfold room; (try simp only [List.length_append, List.length_cons, List.length_nil]); omega))) | (with_reducible refine both_to ?_ ?_) | (with_reducible refine itet_to ?_) | (with_reducible refine itef_to ?_) | (with_reducible refine ite_to (fun _ => ?_) (fun _ => ?_))) <;> try (exfalso; omega)
  obtain ⟨b, hb, hb2⟩ : ∃ b, slices_ContainsFunc g.2.2.1 g g = some (b, g) ∧ (b = true ↔ GBad g) :=
    contains_tells2 (f := fun x c => same_Check_2 x g c) (slices_IndexFunc_L2_eq g.2.2.1 g) (by omega) (fun x _ => chk2 x g)
  refine bind_to hb ?_
  refine iteb_to (fun h => by rw [if_pos (hb2.1 h)]) (fun h2 => ?_)
  have c3 : ¬ GBad g := fun h => by rw [hb2.2 h] at h2; cases h2
  rw [if_neg c3]
  refine scan_to (len := (g.2.2.1.length : Int)) (bad := fun i => 1 ≤ i ∧ ¬ SLt (ix g.2.2.1 (i - 1)) (ix g.2.2.1 i)) (by omega) (fun i h0 h1 => ⟨fun hb => ?_, fun hb => ?_⟩) (fun hh => ?_)
  · rw [if_pos (show GOrd g from ⟨i, hb.1, h1, hb.2⟩)]
    rw [same_Check_L9_eq]; unfold same_Check_L9_B
    (try dsimp only); (repeat' first | (with_reducible refine G_to ?_ ?_; focus (first | omega | (unfold fits; omega) | (unfold room; (try simp only [List.length_append, List.length_cons, List.length_nil]); omega))) | (with_reducible refine both_to ?_ ?_) | (with_reducible refine itet_to ?_) | (with_reducible refine itef_to ?_) | (with_reducible refine ite_to (fun _ => ?_) (fun _ => ?_))) <;> try (exfalso; omega)
    obtain ⟨o, e, ho⟩ := order_spec (ix g.2.2.1 (i - 1)) (ix g.2.2.1 i)
    refine bind_to e ?_
    rw [if_pos (decide_eq_true (ho.2 hb.2))]
  · conv => lhs; rw [same_Check_L9_eq]; unfold same_Check_L9_B
    by_cases h : 0 < i
    · (try dsimp only); (repeat' first | (with_reducible refine G_to ?_ ?_; focus (first | omega | (unfold fits; omega) | (unfold room; (try simp only [List.length_append, List.length_cons, List.length_nil]); omega))) | (with_reducible refine both_to ?_ ?_) | (with_reducible refine itet_to ?_) | (with_reducible refine itef_to ?_) | (with_reducible refine ite_to (fun _ => ?_) (fun _ => ?_))) <;> try (exfalso; omega)
      obtain ⟨o, e, ho⟩ := order_spec (ix g.2.2.1 (i - 1)) (ix g.2.2.1 i)
      refine bind_to e ?_
      rw [if_neg (by rw [decide_eq_true_iff, ho]; exact fun h => hb ⟨by omega, h⟩), G_pos (by unfold fits; omega)]
    · (try dsimp only); (repeat' first | (with_reducible refine G_to ?_ ?_; focus (first | omega | (unfold fits; omega) | (unfold room; (try simp only [List.length_append, List.length_cons, List.length_nil]); omega))) | (with_reducible refine both_to ?_ ?_) | (with_reducible refine itet_to ?_) | (with_reducible refine itef_to ?_) | (with_reducible refine ite_to (fun _ => ?_) (fun _ => ?_))) <;> try (exfalso; omega)
      all_goals rfl
  · rw [if_neg (show ¬ GOrd g from fun ⟨i, i0, i1, i2⟩ => hh i (by omega) i1 ⟨i0, i2⟩)]
    rw [same_Check_L9_eq]; unfold same_Check_L9_B
    rw [if_neg (by simp)]
theorem r20_Check_spec : r20_Check g = some (grE g) := by
  unfold r20_Check grE
  by_cases c1 : GLet g
  · rw [if_pos c1]; unfold GLet at c1
    (try dsimp only); (repeat' first | (with_reducible refine G_to ?_ ?_; focus (first | omega | (unfold fits; omega) | (unfold room; (try simp only [List.length_append, List.length_cons, List.length_nil]); omega))) | (with_reducible refine both_to ?_ ?_) | (with_reducible refine itet_to ?_) | (with_reducible refine itef_to ?_) | (with_reducible refine ite_to (fun _ => ?_) (fun _ => ?_))) <;> try (exfalso; omega)
    all_goals rfl
  rw [if_neg c1]; unfold GLet at c1
  by_cases c2 : GSize g
  · rw [if_pos c2]; unfold GSize at c2
    (try dsimp only); (repeat' first | (with_reducible refine G_to ?_ ?_; focus (first | omega | (unfold fits; omega) | (unfold room; (try simp only [List.length_append, List.length_cons, List.length_nil]); omega))) | (with_reducible refine both_to ?_ ?_) | (with_reducible refine itet_to ?_) | (with_reducible refine itef_to ?_) | (with_reducible refine ite_to (fun _ => ?_) (fun _ => ?_))) <;> try (exfalso; omega)
    all_goals rfl
  rw [if_neg c2]; unfold GSize at c2
  (try dsimp only); (repeat' first | (with_reducible refine G_to ?_ ?_; focus (first | omega | (unfold fits; omega) | (unfold room; (try simp only [List.length_append, List.length_cons, List.length_nil]); omega))) | (with_reducible refine both_to ?_ ?_) | (with_reducible refine itet_to ?_) | (with_reducible refine itef_to ?_) | (with_reducible refine ite_to (fun _ => ?_) (fun _ => ?_))) <;> try (exfalso; omega)
  refine scan_to (len := (g.2.2.1.length : Int)) (bad := fun i => ABad g (ix g.2.2.1 i)) (by omega) (fun i h0 h1 => ⟨fun hb => ?_, fun hb => ?_⟩) (fun hh => ?_)
  · rw [if_pos (show GBad g from ex_ix.2 ⟨i, h0, h1, hb⟩)]
    rw [r20_Check_L6_eq]; unfold r20_Check_L6_B
    unfold ABad at hb
    (try dsimp only); (repeat' first | (with_reducible refine G_to ?_ ?_; focus (first | omega | (unfold fits; omega) | (unfold room; (try simp only [List.length_append, List.length_cons, List.length_nil]); omega))) | (with_reducible refine both_to ?_ ?_) | (with_reducible refine itet_to ?_) | (with_reducible refine itef_to ?_) | (with_reducible refine ite_to (fun _ => ?_) (fun _ => ?_))) <;> try (exfalso; omega)
    all_goals rfl
  · conv => lhs; rw [r20_Check_L6_eq]; unfold r20_Check_L6_B
    unfold ABad at hb
    (try dsimp only); (repeat' first | (with_reducible refine G_to ?_ ?_; focus (first | omega | (unfold fits; omega) | (unfold room; (try simp only [List.length_append, List.length_cons, List.length_nil]); omega))) | (with_reducible refine both_to ?_ ?_) | (with_reducible refine itet_to ?_) | (with_reducible refine itef_to ?_) | (with_reducible refine ite_to (fun _ => ?_) (fun _ => ?_))) <;> try (exfalso; omega)
    all_goals rfl
  rw [if_neg (show ¬ GBad g from fun h => by obtain ⟨i, i0, i1, i2⟩ := ex_ix.1 h; exact hh i i0 i1 i2)]
  rw [r20_Check_L6_eq]; unfold r20_Check_L6_B
  rw [if_neg (by simp)]
  by_cases c4 : g.2.2.1.length = 0
  · rw [if_neg (show ¬ GOrd g from fun ⟨i, i0, i1, i2⟩ => by omega)]
    rw [r20_Check_L12_eq]; unfold r20_Check_L12_B
    rw [if_neg (by simp; omega)]
  refine scan_to (len := (g.2.2.1.length : Int)) (bad := fun i => ¬ SLt (ix g.2.2.1 (i - 1)) (ix g.2.2.1 i)) (by omega) (fun i h0 h1 => ⟨fun hb => ?_, fun hb => ?_⟩) (fun hh => ?_)
  · rw [if_pos (show GOrd g from ⟨i, h0, h1, hb⟩)]
    rw [r20_Check_L12_eq]; unfold r20_Check_L12_B
    (try dsimp only); (repeat' first | (with_reducible refine G_to ?_ ?_; focus (first | omega | (unfold fits; omega) | (unfold room; (try simp only [List.length_append, List.length_cons, List.length_nil]); omega))) | (with_reducible refine both_to ?_ ?_) | (with_reducible refine itet_to ?_) | (with_reducible refine itef_to ?_) | (with_reducible refine ite_to (fun _ => ?_) (fun _ => ?_))) <;> try (exfalso; omega)
    obtain ⟨o, e, ho⟩ := ahead_tells (ix g.2.2.1 (i - 1)) (ix g.2.2.1 i)
    refine bind_to e ?_
    rw [if_pos (by cases o; rfl; exact absurd (ho.1 rfl) hb)]
  · conv => lhs; rw [r20_Check_L12_eq]; unfold r20_Check_L12_B
    (try dsimp only); (repeat' first | (with_reducible refine G_to ?_ ?_; focus (first | omega | (unfold fits; omega) | (unfold room; (try simp only [List.length_append, List.length_cons, List.length_nil]); omega))) | (with_reducible refine both_to ?_ ?_) | (with_reducible refine itet_to ?_) | (with_reducible refine itef_to ?_) | (with_reducible refine ite_to (fun _ => ?_) (fun _ => ?_))) <;> try (exfalso; omega)
    obtain ⟨o, e, ho⟩ := ahead_tells (ix g.2.2.1 (i - 1)) (ix g.2.2.1 i)
    refine bind_to e ?_
    rw [if_neg (by rw [ho.2 (Classical.not_not.1 hb)]; decide), G_pos (by unfold fits; omega)]
  · rw [if_neg (show ¬ GOrd g from fun ⟨i, i0, i1, i2⟩ => hh i (by omega) i1 i2)]
    rw [r20_Check_L12_eq]; unfold r20_Check_L12_B
    rw [if_neg (by simp)]
end

structure GrOk (g : Gr) : Prop where
  l : 1 ≤ g.1 ∧ g.1 ≤ 4
  n : 1 ≤ g.2.1 ∧ g.2.1 ≤ 12
  a : g.2.2.1.length ≤ 60
  x : ∀ x ∈ g.2.2.1, 0 ≤ x.1 ∧ x.1 < g.2.1 ∧ 0 ≤ x.2.2.1 ∧ x.2.2.1 < g.2.1 ∧ 0 ≤ x.2.1 ∧ x.2.1 < g.1
theorem grE_zero {g : Gr} (h : grE g = 0) : GrOk g := by
  unfold grE at h
  split at h
  · cases h
  split at h
  · cases h
  split at h
  · cases h
  rename_i c1 c2 c3
  unfold GLet at c1; unfold GSize at c2
  refine ⟨by omega, by omega, by omega, fun x hx => ?_⟩
  have : ¬ ABad g x := fun h => c3 ⟨x, hx, h⟩
  unfold ABad at this
  omega
/-- Whatever leads from p is answered from q. -/
def Ans (g : Gr) (R : Int → Int → Prop) (p q : Int) : Prop := ∀ x ∈ g.2.2.1, x.1 = p → ∃ y ∈ g.2.2.1, y.1 = q ∧ y.2.1 = x.2.1 ∧ R x.2.2.1 y.2.2.1
def cE (c : List Int) (p q : Int) : Prop := ix c p = ix c q
def tE (t : List (List Bool)) (p q : Int) : Prop := ix (ix t p) q = true
section
variable {g : Gr}
theorem Ans.mono {R S : Int → Int → Prop} {n : Int} (hx : ∀ x ∈ g.2.2.1, 0 ≤ x.2.2.1 ∧ x.2.2.1 < n) (h : ∀ a b : Int, 0 ≤ a → a < n → 0 ≤ b → b < n → R a b → S a b) {p q : Int} (k : Ans g R p q) : Ans g S p q := by
  intro x hx' hp
  obtain ⟨y, hy, h1, h2, h3⟩ := k x hx' hp
  exact ⟨y, hy, h1, h2, h _ _ (hx x hx').1 (hx x hx').2 (hx y hy).1 (hx y hy).2 h3⟩
theorem answered_of {C : Type} {c : C} {R : Int → Int → Prop} {A : Int → Option Bool} {F : Arc → C → Option (Bool × C)} {p q : Int} (ha : g.2.2.1.length ≤ 60)
    (hF : ∀ x ∈ g.2.2.1, ∃ b, F x c = some (b, c) ∧ (b = true ↔ ∃ y ∈ g.2.2.1, y.1 = q ∧ y.2.1 = x.2.1 ∧ R x.2.2.1 y.2.2.1))
    (hA : ∀ t : Int, 0 ≤ t → t < g.2.2.1.length → A t = if (ix g.2.2.1 t).1 = p then (F (ix g.2.2.1 t) c).bind (fun y => if (!y.1) = true then some false else A (t + 1)) else A (t + 1)) (hE : A g.2.2.1.length = some true) : Tells (A 0) (Ans g R p q) := by
  by_cases h : Ans g R p q
  · refine ⟨true, ?_, fun _ => h, fun _ => rfl⟩
    refine scan_to (len := g.2.2.1.length) (bad := fun _ => False) (by omega) (fun t t0 t1 => ⟨fun h => h.elim, fun _ => ?_⟩) (fun _ => hE)
    rw [hA t t0 t1]
    by_cases c1 : (ix g.2.2.1 t).1 = p
    · rw [if_pos c1]
      obtain ⟨b, e, hb⟩ := hF _ (ix_mem t0 t1)
      have : b = true := hb.2 (h _ (ix_mem t0 t1) c1)
      rw [e, this]; rfl
    · rw [if_neg c1]
  · refine ⟨false, ?_, fun e => (by cases e), fun k => absurd k h⟩
    refine scan_to (len := g.2.2.1.length) (bad := fun t => (ix g.2.2.1 t).1 = p ∧ ¬ ∃ y ∈ g.2.2.1, y.1 = q ∧ y.2.1 = (ix g.2.2.1 t).2.1 ∧ R (ix g.2.2.1 t).2.2.1 y.2.2.1) (by omega) (fun t t0 t1 => ?_) (fun hh => ?_)
    · obtain ⟨b, e, hb⟩ := hF _ (ix_mem t0 t1)
      constructor
      · rintro ⟨h1, h2⟩
        rw [hA t t0 t1, if_pos h1, e]
        have : b = false := by cases b; rfl; exact absurd (hb.1 rfl) h2
        rw [this]; rfl
      · intro hn
        rw [hA t t0 t1]
        by_cases c1 : (ix g.2.2.1 t).1 = p
        · rw [if_pos c1, e]
          have : b = true := by
            cases b with
            | true => rfl
            | false => exact absurd ⟨c1, fun h => by cases hb.2 h⟩ hn
          rw [this]; rfl
        · rw [if_neg c1]
    · refine absurd (fun x hx hp => ?_) h
      obtain ⟨t, t0, t1, rfl⟩ := ex_ix (P := fun y => y = x).1 ⟨x, hx, rfl⟩
      exact Classical.byContradiction fun hn => hh t t0 t1 ⟨hp, hn⟩
end

section
variable {g : Gr}
theorem rounds1_tells {c : List Int} {a b : Int} (a0 : 0 ≤ a) (a1 : a < c.length) (b0 : 0 ≤ b) (b1 : b < c.length) : Tells (same_rounds_1 a b c) (cE c a b) := by
  unfold same_rounds_1
  rw [G_pos ⟨a0, a1⟩, G_pos ⟨b0, b1⟩]; exact Tells.dec Iff.rfl
theorem f1c_tells (ok : GrOk g) {c : List Int} (hc : (c.length : Int) = g.2.1) {q : Int} {x : Arc} (hx : x ∈ g.2.2.1) : ∃ b, slices_ContainsFunc_1 g.2.2.1 q x c = some (b, c) ∧ (b = true ↔ ∃ y ∈ g.2.2.1, y.1 = q ∧ y.2.1 = x.2.1 ∧ cE c x.2.2.1 y.2.2.1) := by
  have ha := ok.a
  refine contains_tells2 (f := fun y c => same_answered_1 y q x c) (P := fun y => y.1 = q ∧ y.2.1 = x.2.1 ∧ cE c x.2.2.1 y.2.2.1) (L := fun t c => slices_IndexFunc_2_L2 g.2.2.1 q x t c) (fun t c => slices_IndexFunc_2_L2_eq g.2.2.1 q x t c) (by omega) (fun y hy => ?_)
  have h1 := ok.x x hx
  have h2 := ok.x y hy
  show ∃ b, same_answered_1 y q x c = some (b, c) ∧ _
  unfold same_answered_1
  by_cases c1 : y.1 = q
  · rw [if_pos (decide_eq_true c1)]
    by_cases c2 : y.2.1 = x.2.1
    · rw [if_pos (decide_eq_true c2)]
      obtain ⟨b, e, hb⟩ := rounds1_tells (c := c) (a := x.2.2.1) (b := y.2.2.1) (by omega) (by omega) (by omega) (by omega)
      exact ⟨b, bind_to e rfl, by rw [hb]; exact ⟨fun h => ⟨c1, c2, h⟩, fun h => h.2.2⟩⟩
    · rw [if_neg (by simpa using c2)]; exact ⟨false, rfl, fun h => (by cases h), fun h => absurd h.2.1 c2⟩
  · rw [if_neg (by simpa using c1)]; exact ⟨false, rfl, fun h => (by cases h), fun h => absurd h.1 c1⟩
theorem answered_tells (ok : GrOk g) {c : List Int} (hc : (c.length : Int) = g.2.1) {p q : Int} : Tells (same_answered g p q c) (Ans g (cE c) p q) := by
  have ha := ok.a
  refine answered_of (C := List Int) (c := c) (A := fun t => same_answered_L2 g p q t c) (F := fun x c => slices_ContainsFunc_1 g.2.2.1 q x c) ha (fun x hx => f1c_tells ok hc hx) (fun t t0 t1 => ?_) ?_
  · show same_answered_L2 g p q t c = if _ then (slices_ContainsFunc_1 g.2.2.1 q (ix g.2.2.1 t) c).bind _ else same_answered_L2 g p q (t + 1) c
    conv => lhs; rw [same_answered_L2_eq]; unfold same_answered_L2_B
    rw [if_pos (decide_eq_true t1), G_pos (by omega)]
    have hf : fits (t + 1) := by unfold fits; omega
    by_cases c1 : (ix g.2.2.1 t).1 = p
    · rw [if_pos (decide_eq_true c1), if_pos c1]
      obtain ⟨b, e, hb⟩ := f1c_tells (q := q) ok hc (ix_mem t0 t1)
      have e' : slices_ContainsFunc_1 g.2.2.1 q ((ix g.2.2.1 t).1, ((ix g.2.2.1 t).2.1, ((ix g.2.2.1 t).2.2.1, ()))) c = some (b, c) := e
      rw [e']
      simp only [Option.bind_some, G_pos hf]
    · rw [if_neg (by simpa using c1), if_neg c1, G_pos hf]
  · show same_answered_L2 g p q g.2.2.1.length c = _
    rw [same_answered_L2_eq]; unfold same_answered_L2_B
    rw [if_neg (by simp)]
/-- One round more. -/
def Fin (g : Gr) (c : List Int) (p q : Int) : Prop := cE c p q ∧ Ans g (cE c) p q ∧ Ans g (cE c) q p
theorem rounds2_tells (ok : GrOk g) {c : List Int} (hc : (c.length : Int) = g.2.1) {p q : Int} (p0 : 0 ≤ p) (p1 : p < g.2.1) (q0 : 0 ≤ q) (q1 : q < g.2.1) : ∃ b, same_rounds_2 q c p g c = some (b, c) ∧ (b = true ↔ Fin g c p q) := by
  unfold same_rounds_2
  rw [G_pos (by omega), G_pos (by omega)]
  by_cases c1 : ix c p = ix c q
  · rw [if_pos (decide_eq_true c1)]
    obtain ⟨b1, e1, h1⟩ := answered_tells (p := p) (q := q) ok hc
    obtain ⟨b2, e2, h2⟩ := answered_tells (p := q) (q := p) ok hc
    rw [e1, e2]
    cases b1 with
    | true => exact ⟨b2, by rfl, by rw [h2]; exact ⟨fun h => ⟨c1, h1.1 rfl, h⟩, fun h => h.2.2⟩⟩
    | false => exact ⟨false, rfl, fun h => (by cases h), fun h => by cases h1.2 h.2.1⟩
  · rw [if_neg (by simpa using c1)]; exact ⟨false, rfl, fun h => (by cases h), fun h => absurd h.1 c1⟩
theorem index3_spec (ok : GrOk g) {c : List Int} (hc : (c.length : Int) = g.2.1) {p : Int} (p0 : 0 ≤ p) (p1 : p < g.2.1) {F : List Int} (hF : ∀ q ∈ F, 0 ≤ q ∧ q < g.2.1) (hl : F.length ≤ 12) :
    ∃ i, slices_IndexFunc_3 c p g F c = some (i, F, c) ∧ ((i = -1 ∧ ∀ j : Int, 0 ≤ j → j < F.length → ¬ Fin g c p (ix F j)) ∨ (0 ≤ i ∧ i < F.length ∧ Fin g c p (ix F i))) := by
  have key : ∀ (m : Nat) (t : Int), 0 ≤ t → t + m = F.length → (∀ j : Int, 0 ≤ j → j < t → ¬ Fin g c p (ix F j)) →
      ∃ i, slices_IndexFunc_3_L2 F c p g t c = some (i, F, c) ∧ ((i = -1 ∧ ∀ j : Int, 0 ≤ j → j < F.length → ¬ Fin g c p (ix F j)) ∨ (0 ≤ i ∧ i < F.length ∧ Fin g c p (ix F i))) := by
    intro m
    induction m with
    | zero =>
      intro t t0 ht h
      refine ⟨-1, ?_, .inl ⟨rfl, fun j j0 j1 => h j j0 (by omega)⟩⟩
      rw [slices_IndexFunc_3_L2_eq]; unfold slices_IndexFunc_3_L2_B
      rw [if_neg (by simp only [decide_eq_true_eq]; omega)]
    | succ m ih =>
      intro t t0 ht h
      have hq := hF _ (ix_mem t0 (by omega : t < F.length))
      obtain ⟨b, e, hb⟩ := rounds2_tells ok hc p0 p1 hq.1 hq.2
      conv => arg 1; ext i; lhs; lhs; rw [slices_IndexFunc_3_L2_eq]; unfold slices_IndexFunc_3_L2_B
      rw [if_pos (decide_eq_true (by omega)), G_pos (by omega), G_pos (by omega), e]
      cases b with
      | true => exact ⟨t, rfl, .inr ⟨t0, by omega, hb.1 rfl⟩⟩
      | false =>
        obtain ⟨i, e2, h2⟩ := ih (t + 1) (by omega) (by omega) (fun j j0 j1 => by
          by_cases ej : j = t
          · rw [ej]; exact fun h => by cases hb.2 h
          · exact h j j0 (by omega))
        refine ⟨i, ?_, h2⟩
        show (if false = true then some (t, F, c) else G (fits (t + 1)) (slices_IndexFunc_3_L2 F c p g (t + 1) c)) = _
        rw [if_neg (by decide), G_pos (by unfold fits; omega)]
        exact e2
  exact key F.length 0 (by omega) (by omega) (fun j j0 j1 => by omega)
end
/- numbers in order of coming -/
open Classical in
/-- How many are new below. -/
noncomputable def news (E : Int → Int → Prop) : Nat → Int
  | 0 => 0
  | k + 1 => news E k + (if ∃ q : Int, 0 ≤ q ∧ q < k ∧ E k q then 0 else 1)
/-- Numbers in order: that of what is alike ahead, or the next one. -/
def Can (E : Int → Int → Prop) (c : List Int) (t : Int) : Prop := ∀ p : Int, 0 ≤ p → p < t → (∀ q : Int, 0 ≤ q → q < p → E p q → ix c p = ix c q) ∧ ((¬ ∃ q : Int, 0 ≤ q ∧ q < p ∧ E p q) → ix c p = news E p.toNat)
section
variable {E E' : Int → Int → Prop} {n : Int}
theorem Can.one {c d : List Int} (h : Can E c n) (k : Can E d n) : ∀ (m : Nat) (p : Int), 0 ≤ p → p < n → p < m → ix c p = ix d p
  | 0, p, p0, _, p2 => by omega
  | m + 1, p, p0, p1, p2 => by
    obtain ⟨h1, h2⟩ := h p p0 p1
    obtain ⟨k1, k2⟩ := k p p0 p1
    by_cases e : ∃ q : Int, 0 ≤ q ∧ q < p ∧ E p q
    · obtain ⟨q, q0, q1, q2⟩ := e
      rw [h1 q q0 q1 q2, k1 q q0 q1 q2]
      exact Can.one h k m q q0 (by omega) (by omega)
    · rw [h2 e, k2 e]
open Classical in
theorem news_congr : ∀ k : Nat, (∀ p q : Int, 0 ≤ p → p < k → 0 ≤ q → q < k → (E p q ↔ E' p q)) → news E k = news E' k
  | 0, _ => rfl
  | k + 1, h => by
    unfold news
    rw [news_congr k (fun p q p0 p1 q0 q1 => h p q p0 (by omega) q0 (by omega))]
    have : (∃ q : Int, 0 ≤ q ∧ q < k ∧ E k q) ↔ ∃ q : Int, 0 ≤ q ∧ q < k ∧ E' k q :=
      ⟨fun ⟨q, q0, q1, e⟩ => ⟨q, q0, q1, (h k q (by omega) (by omega) q0 (by omega)).1 e⟩, fun ⟨q, q0, q1, e⟩ => ⟨q, q0, q1, (h k q (by omega) (by omega) q0 (by omega)).2 e⟩⟩
    by_cases c : ∃ q : Int, 0 ≤ q ∧ q < k ∧ E k q
    · rw [if_pos c, if_pos (this.1 c)]
    · rw [if_neg c, if_neg (fun h => c (this.2 h))]
theorem Can.congr {c : List Int} (h : Can E c n) (he : ∀ p q : Int, 0 ≤ p → p < n → 0 ≤ q → q < n → (E p q ↔ E' p q)) : Can E' c n := by
  intro p p0 p1
  obtain ⟨h1, h2⟩ := h p p0 p1
  refine ⟨fun q q0 q1 e => h1 q q0 q1 ((he p q p0 p1 q0 (by omega)).2 e), fun hn => ?_⟩
  rw [h2 (fun ⟨q, q0, q1, e⟩ => hn ⟨q, q0, q1, (he p q p0 p1 q0 (by omega)).1 e⟩)]
  exact news_congr _ (fun a b a0 a1 b0 b1 => he a b a0 (by omega) b0 (by omega))
theorem news_b : ∀ k : Nat, 0 ≤ news E k ∧ news E k ≤ k ∧ (0 < k → 1 ≤ news E k)
  | 0 => ⟨by simp [news], by simp [news], fun h => by omega⟩
  | k + 1 => by
    obtain ⟨h1, h2, h3⟩ := news_b k
    unfold news
    refine ⟨by split <;> omega, by split <;> omega, fun _ => ?_⟩
    by_cases c : k = 0
    · subst c
      rw [if_neg (fun ⟨q, q0, q1, _⟩ => by omega)]; omega
    · split <;> omega
/-- All numbers below come. -/
theorem Can.rng {c : List Int} (h : Can E c n) : ∀ (k : Nat), k ≤ n → (∀ p : Int, 0 ≤ p → p < k → 0 ≤ ix c p ∧ ix c p < news E k) ∧ (0 < k → ∃ p : Int, 0 ≤ p ∧ p < k ∧ ix c p = news E k - 1)
  | 0, _ => ⟨fun p p0 p1 => by omega, fun h => by omega⟩
  | k + 1, hk => by
    obtain ⟨h1, h2⟩ := Can.rng h k (by omega)
    obtain ⟨c1, c2⟩ := h k (by omega) (by omega)
    have hb := news_b (E := E) k
    unfold news
    by_cases e : ∃ q : Int, 0 ≤ q ∧ q < k ∧ E k q
    · rw [if_pos e]
      obtain ⟨q, q0, q1, q2⟩ := e
      have hq := h1 q q0 q1
      have hc := c1 q q0 q1 q2
      refine ⟨fun p p0 p1 => ?_, fun _ => ?_⟩
      · by_cases ep : p = k
        · rw [ep, hc]; omega
        · have := h1 p p0 (by omega); omega
      · obtain ⟨p, p0, p1, p2⟩ := h2 (by omega)
        exact ⟨p, p0, by omega, by omega⟩
    · rw [if_neg e]
      have hc := c2 e
      rw [Int.toNat_natCast] at hc
      refine ⟨fun p p0 p1 => ?_, fun _ => ⟨k, by omega, by omega, by omega⟩⟩
      by_cases ep : p = k
      · rw [ep, hc]; omega
      · have := h1 p p0 (by omega); omega
structure Eqv (n : Int) (E : Int → Int → Prop) : Prop where
  r : ∀ p : Int, 0 ≤ p → p < n → E p p
  s : ∀ p q : Int, 0 ≤ p → p < n → 0 ≤ q → q < n → E p q → E q p
  t : ∀ p q r : Int, 0 ≤ p → p < n → 0 ≤ q → q < n → 0 ≤ r → r < n → E p q → E q r → E p r
open Classical in
theorem news_le (hs : ∀ p q : Int, 0 ≤ p → p < n → 0 ≤ q → q < n → E p q → E' p q) : ∀ k : Nat, k ≤ n → news E' k ≤ news E k
  | 0, _ => Int.le_refl _
  | k + 1, hk => by
    have := news_le hs k (by omega)
    unfold news
    by_cases c : ∃ q : Int, 0 ≤ q ∧ q < k ∧ E k q
    · obtain ⟨q, q0, q1, q2⟩ := c
      rw [if_pos (⟨q, q0, q1, hs k q (by omega) (by omega) q0 (by omega) q2⟩ : ∃ q : Int, 0 ≤ q ∧ q < k ∧ E' k q), if_pos (⟨q, q0, q1, q2⟩ : ∃ q : Int, 0 ≤ q ∧ q < k ∧ E k q)]; omega
    · rw [if_neg (c := ∃ q : Int, 0 ≤ q ∧ q < k ∧ E k q) c]; split <;> omega
open Classical in
/-- As many classes: the same classes. -/
theorem news_same (hE : Eqv n E) (hE' : Eqv n E') (hs : ∀ p q : Int, 0 ≤ p → p < n → 0 ≤ q → q < n → E p q → E' p q) : ∀ k : Nat, k ≤ n → news E' k = news E k → ∀ p q : Int, 0 ≤ p → p < k → 0 ≤ q → q < k → E' p q → E p q
  | 0, _, _, p, q, p0, p1, _, _, _ => by omega
  | k + 1, hk, h, p, q, p0, p1, q0, q1, e => by
    have hl := news_le hs k (by omega)
    unfold news at h
    have himp : (∃ q : Int, 0 ≤ q ∧ q < k ∧ E k q) → ∃ q : Int, 0 ≤ q ∧ q < k ∧ E' k q := fun ⟨q, q0, q1, e⟩ => ⟨q, q0, q1, hs k q (by omega) (by omega) q0 (by omega) e⟩
    have hk2 : news E' k = news E k ∧ ((∃ q : Int, 0 ≤ q ∧ q < k ∧ E' k q) → ∃ q : Int, 0 ≤ q ∧ q < k ∧ E k q) := by
      by_cases c : ∃ q : Int, 0 ≤ q ∧ q < k ∧ E k q
      · rw [if_pos c, if_pos (himp c)] at h
        exact ⟨by omega, fun _ => c⟩
      · rw [if_neg c] at h
        by_cases c' : ∃ q : Int, 0 ≤ q ∧ q < k ∧ E' k q
        · rw [if_pos c'] at h; omega
        · rw [if_neg c'] at h; exact ⟨by omega, fun h => absurd h c'⟩
    have ih := news_same hE hE' hs k (by omega) hk2.1
    have last : ∀ q : Int, 0 ≤ q → q < k → E' k q → E k q := by
      intro q q0 q1 e
      obtain ⟨r, r0, r1, er⟩ := hk2.2 ⟨q, q0, q1, e⟩
      have er' := hs k r (by omega) (by omega) r0 (by omega) er
      have h1 : E' r q := hE'.t r k q r0 (by omega) (by omega) (by omega) q0 (by omega) (hE'.s k r (by omega) (by omega) r0 (by omega) er') e
      exact hE.t k r q (by omega) (by omega) r0 (by omega) q0 (by omega) er (ih r q r0 r1 q0 q1 h1)
    by_cases ep : p = k
    · by_cases eq : q = k
      · rw [ep, eq]; exact hE.r k (by omega) (by omega)
      · rw [ep] at e ⊢; exact last q q0 (by omega) e
    · by_cases eq : q = k
      · rw [eq] at e ⊢
        exact hE.s k p (by omega) (by omega) p0 (by omega) (last p p0 (by omega) (hE'.s p k p0 (by omega) (by omega) (by omega) e))
      · exact ih p q p0 (by omega) q0 (by omega) e
end
section
variable {g : Gr}
theorem fin_eqv (ok : GrOk g) (c : List Int) : Eqv g.2.1 (Fin g c) := by
  refine ⟨fun p _ _ => ⟨rfl, fun x hx h => ⟨x, hx, h, rfl, rfl⟩, fun x hx h => ⟨x, hx, h, rfl, rfl⟩⟩, fun p q _ _ _ _ h => ⟨h.1.symm, h.2.2, h.2.1⟩, fun p q r _ _ _ _ _ _ h k => ⟨h.1.trans k.1, ?_, ?_⟩⟩
  · intro x hx hp
    obtain ⟨y, hy, y1, y2, y3⟩ := h.2.1 x hx hp
    obtain ⟨z, hz, z1, z2, z3⟩ := k.2.1 y hy y1
    exact ⟨z, hz, z1, z2.trans y2, y3.trans z3⟩
  · intro x hx hp
    obtain ⟨y, hy, y1, y2, y3⟩ := k.2.2 x hx hp
    obtain ⟨z, hz, z1, z2, z3⟩ := h.2.2 y hy y1
    exact ⟨z, hz, z1, z2.trans y2, y3.trans z3⟩
theorem cE_eqv {n : Int} (c : List Int) : Eqv n (cE c) := ⟨fun _ _ _ => rfl, fun _ _ _ _ _ _ h => Eq.symm h, fun _ _ _ _ _ _ _ _ _ h k => Eq.trans h k⟩
/-- The numbers of a round so far. -/
structure RI (g : Gr) (c : List Int) (t : Int) (nx F : List Int) : Prop where
  ln : (nx.length : Int) = g.2.1
  lf : (F.length : Int) = news (Fin g c) t.toNat
  f : ∀ i : Int, 0 ≤ i → i < F.length → 0 ≤ ix F i ∧ ix F i < t ∧ ix nx (ix F i) = i
  p : ∀ p : Int, 0 ≤ p → p < t → 0 ≤ ix nx p ∧ ix nx p < F.length ∧ Fin g c p (ix F (ix nx p))
  can : Can (Fin g c) nx t
  iff : ∀ p q : Int, 0 ≤ p → p < t → 0 ≤ q → q < t → (ix nx p = ix nx q ↔ Fin g c p q)
theorem max_spec {l : List Int} (hl : 1 ≤ l.length) (h2 : l.length ≤ 1000000) : ∃ m, slices_Max l = some m ∧ (∀ p : Int, 0 ≤ p → p < l.length → ix l p ≤ m) ∧ ∃ p : Int, 0 ≤ p ∧ p < l.length ∧ ix l p = m := by
  have key : ∀ (f : Nat) (t m : Int), 1 ≤ t → t + f = l.length → (∀ p : Int, 0 ≤ p → p < t → ix l p ≤ m) → (∃ p : Int, 0 ≤ p ∧ p < l.length ∧ ix l p = m) →
      ∃ m', slices_Max_L5 l m t = some m' ∧ (∀ p : Int, 0 ≤ p → p < l.length → ix l p ≤ m') ∧ ∃ p : Int, 0 ≤ p ∧ p < l.length ∧ ix l p = m' := by
    intro f
    induction f with
    | zero =>
      intro t m t0 ht h h'
      refine ⟨m, ?_, fun p p0 p1 => h p p0 (by omega), h'⟩
      rw [slices_Max_L5_eq]; unfold slices_Max_L5_B
      rw [if_neg (by simp only [decide_eq_true_eq]; omega)]
    | succ f ih =>
      intro t m t0 ht h h'
      conv => arg 1; ext m'; lhs; lhs; rw [slices_Max_L5_eq]; unfold slices_Max_L5_B
      rw [if_pos (decide_eq_true (by omega)), G_pos (by omega), G_pos (by unfold fits; omega)]
      unfold imax
      by_cases c : m < ix l t
      · rw [if_pos c]
        refine ih (t + 1) _ (by omega) (by omega) (fun p p0 p1 => ?_) ⟨t, by omega, by omega, rfl⟩
        by_cases e : p = t
        · rw [e]; exact Int.le_refl _
        · have := h p p0 (by omega); omega
      · rw [if_neg c]
        refine ih (t + 1) _ (by omega) (by omega) (fun p p0 p1 => ?_) h'
        by_cases e : p = t
        · rw [e]; omega
        · exact h p p0 (by omega)
  unfold slices_Max
  rw [if_neg (by simp only [decide_eq_true_eq]; omega), G_pos (by omega)]
  refine key (l.length - 1) 1 (ix l 0) (by omega) (by omega) (fun p p0 p1 => ?_) ⟨0, by omega, by omega, rfl⟩
  rw [show p = 0 by omega]; exact Int.le_refl _
theorem round_step (ok : GrOk g) {L : List (List Int)} {c : List Int} (hL : ix L ((L.length : Int) - 1) = c) (hL1 : 1 ≤ L.length ∧ L.length ≤ 1000) (hc : (c.length : Int) = g.2.1) {r2 : Gr → List (List Int) → Option (List (List Int))} : ∀ (m : Nat) (t : Int) (nx F : List Int), 0 ≤ t → t + m = g.2.1 → RI g c t nx F →
    ∃ nx' F', same_rounds_L7 g L r2 g t c nx F = same_rounds_L7 g L r2 g g.2.1 c nx' F' ∧ RI g c g.2.1 nx' F' := by
  have hn := ok.n
  intro m
  induction m with
  | zero =>
    intro t nx F t0 ht h
    obtain rfl : t = g.2.1 := by omega
    exact ⟨nx, F, rfl, h⟩
  | succ m ih =>
    intro t nx F t0 ht h
    have hln := h.ln; have hlf := h.lf
    have hnb := news_b (E := Fin g c) t.toNat
    have hE := fin_eqv ok c
    obtain ⟨i, ei, hi⟩ := index3_spec ok hc t0 (by omega) (F := F) (fun q hq => by
      obtain ⟨j, j0, j1, rfl⟩ := ex_ix (P := fun y => y = q).1 ⟨q, hq, rfl⟩
      have := h.f j j0 j1; omega) (by omega)
    have hJ : ∀ k F1, same_rounds_J12 g t nx (same_rounds_L7 g L r2) c k F1 = same_rounds_L7 g L r2 g (t + 1) c (nx.set t.toNat k) F1 := by
      intro k F1
      unfold same_rounds_J12
      rw [G_pos (by omega), G_pos (by omega), G_pos (by unfold fits; omega)]
    have hrep : (List.replicate (g.2.1).toNat (0 : Int)).length = g.2.1.toNat := List.length_replicate
    have ht1 : (t + 1).toNat = t.toNat + 1 := by omega
    have htt : ((t.toNat : Nat) : Int) = t := by omega
    have e0 : ∀ X, same_rounds_L7_B g L r2 (same_rounds_L7 g L r2) g t c nx F = X → same_rounds_L7 g L r2 g t c nx F = X := fun X h => by rw [same_rounds_L7_eq]; exact h
    -- what is new
    have hold : (∃ q : Int, 0 ≤ q ∧ q < t ∧ Fin g c t q) ↔ ∃ j : Int, 0 ≤ j ∧ j < F.length ∧ Fin g c t (ix F j) := by
      constructor
      · rintro ⟨q, q0, q1, q2⟩
        obtain ⟨h1, h2, h3⟩ := h.p q q0 q1
        have hf := h.f _ h1 h2
        exact ⟨_, h1, h2, hE.t t q _ t0 (by omega) q0 (by omega) hf.1 (by omega) q2 h3⟩
      · rintro ⟨j, j0, j1, j2⟩
        have hf := h.f j j0 j1
        exact ⟨_, hf.1, hf.2.1, j2⟩
    have hset : ∀ k p : Int, 0 ≤ p → p < t → ix (nx.set t.toNat k) p = ix nx p := fun k p p0 p1 => ix_set_ne t0 p0 (by omega)
    have hset' : ∀ k : Int, ix (nx.set t.toNat k) t = k := fun k => ix_set_same t0 (by omega)
    have fin : ∀ (k : Int) (F1 : List Int), RI g c (t + 1) (nx.set t.toNat k) F1 → same_rounds_L7 g L r2 g t c nx F = same_rounds_L7 g L r2 g (t + 1) c (nx.set t.toNat k) F1 → ∃ nx' F', same_rounds_L7 g L r2 g t c nx F = same_rounds_L7 g L r2 g g.2.1 c nx' F' ∧ RI g c g.2.1 nx' F' := by
      intro k F1 h1 e1
      obtain ⟨nx', F', e2, h2⟩ := ih (t + 1) _ F1 (by omega) (by omega) h1
      exact ⟨nx', F', e1.trans e2, h2⟩
    have hifft : ∀ k : Int, (∀ q : Int, 0 ≤ q → q < t → (k = ix nx q ↔ Fin g c t q)) → ∀ p q : Int, 0 ≤ p → p < t + 1 → 0 ≤ q → q < t + 1 → (ix (nx.set t.toNat k) p = ix (nx.set t.toNat k) q ↔ Fin g c p q) := by
      intro k hk p q p0 p1 q0 q1
      by_cases ep : p = t
      · by_cases eq : q = t
        · rw [ep, eq]; exact ⟨fun _ => hE.r t t0 (by omega), fun _ => rfl⟩
        · rw [ep, hset', hset k q q0 (by omega)]; exact hk q q0 (by omega)
      · by_cases eq : q = t
        · rw [eq, hset', hset k p p0 (by omega)]
          exact ⟨fun e => hE.s t p t0 (by omega) p0 (by omega) ((hk p p0 (by omega)).1 e.symm), fun e => ((hk p p0 (by omega)).2 (hE.s p t p0 (by omega) t0 (by omega) e)).symm⟩
        · rw [hset k p p0 (by omega), hset k q q0 (by omega)]; exact h.iff p q p0 (by omega) q0 (by omega)
    have hcan : ∀ k : Int, (∀ q : Int, 0 ≤ q → q < t → Fin g c t q → k = ix nx q) → ((¬ ∃ q : Int, 0 ≤ q ∧ q < t ∧ Fin g c t q) → k = news (Fin g c) t.toNat) → Can (Fin g c) (nx.set t.toNat k) (t + 1) := by
      intro k k1 k2 p p0 p1
      by_cases ep : p = t
      · rw [ep, hset']
        exact ⟨fun q q0 q1 e => by rw [hset k q q0 q1]; exact k1 q q0 q1 e, k2⟩
      · obtain ⟨c1, c2⟩ := h.can p p0 (by omega)
        rw [hset k p p0 (by omega)]
        exact ⟨fun q q0 q1 e => by rw [hset k q q0 (by omega)]; exact c1 q q0 q1 e, c2⟩
    rcases hi with ⟨h1, h2⟩ | ⟨h1, h2, h3⟩
    · have hnew : ¬ ∃ q : Int, 0 ≤ q ∧ q < t ∧ Fin g c t q := fun hh => by
        obtain ⟨j, j0, j1, j2⟩ := hold.1 hh
        exact h2 j j0 j1 j2
      have hnews : news (Fin g c) (t + 1).toNat = news (Fin g c) t.toNat + 1 := by
        rw [ht1]
        show news (Fin g c) t.toNat + _ = _
        rw [htt, if_neg hnew]
      refine fin (F.length : Int) (F ++ [t]) ⟨by simpa using hln, by rw [hnews, List.length_append, List.length_singleton]; omega, fun i i0 i1 => ?_, fun p p0 p1 => ?_, hcan _ (fun q q0 q1 e => absurd ⟨q, q0, q1, e⟩ hnew) (fun _ => hlf), hifft _ (fun q q0 q1 => ⟨fun e => ?_, fun e => absurd ⟨q, q0, q1, e⟩ hnew⟩)⟩ (e0 _ ?_)
      · rw [List.length_append, List.length_singleton] at i1
        by_cases e : i = F.length
        · rw [e, ix_append_last]
          exact ⟨t0, by omega, hset' _⟩
        · have hf := h.f i i0 (by omega)
          rw [ix_append_left i0 (by omega), hset _ _ hf.1 hf.2.1]
          exact ⟨hf.1, by omega, hf.2.2⟩
      · rw [List.length_append, List.length_singleton]
        by_cases e : p = t
        · rw [e, hset', ix_append_last]
          exact ⟨by omega, by omega, hE.r t t0 (by omega)⟩
        · have hp := h.p p p0 (by omega)
          rw [hset _ p p0 (by omega), ix_append_left hp.1 hp.2.1]
          exact ⟨hp.1, by omega, hp.2.2⟩
      · have := (h.p q q0 q1).2.1; omega
      · unfold same_rounds_L7_B
        rw [if_pos (decide_eq_true (by omega)), hL]
        refine bind_to ei ?_
        rw [if_pos (decide_eq_true (by omega)), G_pos (by unfold room; simp; omega)]
        exact hJ _ _
    · have hqe : ∃ q : Int, 0 ≤ q ∧ q < t ∧ Fin g c t q := hold.2 ⟨i, h1, h2, h3⟩
      have hnews : news (Fin g c) (t + 1).toNat = news (Fin g c) t.toNat := by
        rw [ht1]
        show news (Fin g c) t.toNat + _ = _
        rw [htt, if_pos hqe, Int.add_zero]
      have hfi := h.f i h1 h2
      have hk : ∀ q : Int, 0 ≤ q → q < t → (i = ix nx q ↔ Fin g c t q) := by
        intro q q0 q1
        have := h.iff (ix F i) q hfi.1 hfi.2.1 q0 q1
        rw [hfi.2.2] at this
        rw [this]
        exact ⟨fun e => hE.t t _ q t0 (by omega) hfi.1 (by omega) q0 (by omega) h3 e, fun e => hE.t _ t q hfi.1 (by omega) t0 (by omega) q0 (by omega) (hE.s t _ t0 (by omega) hfi.1 (by omega) h3) e⟩
      refine fin i F ⟨by simpa using hln, by rw [hnews]; exact hlf, fun j j0 j1 => ?_, fun p p0 p1 => ?_, hcan _ (fun q q0 q1 e => (hk q q0 q1).2 e) (fun hn => absurd hqe hn), hifft _ hk⟩ (e0 _ ?_)
      · have hf := h.f j j0 j1
        rw [hset _ _ hf.1 hf.2.1]
        exact ⟨hf.1, by omega, hf.2.2⟩
      · by_cases e : p = t
        · rw [e, hset']; exact ⟨h1, h2, h3⟩
        · rw [hset _ p p0 (by omega)]; exact h.p p p0 (by omega)
      · unfold same_rounds_L7_B
        rw [if_pos (decide_eq_true (by omega)), hL]
        refine bind_to ei ?_
        rw [if_neg (by simp only [decide_eq_true_eq]; omega)]
        exact hJ _ _
/-- Rounds: finer and finer. -/
structure Rds (g : Gr) (L : List (List Int)) : Prop where
  l : 1 ≤ L.length
  len : ∀ k : Int, 0 ≤ k → k < L.length → ((ix L k).length : Int) = g.2.1
  z : ∀ p : Int, 0 ≤ p → p < g.2.1 → ix (ix L 0) p = 0
  s : ∀ k : Int, 0 ≤ k → k + 1 < L.length → ∀ p q : Int, 0 ≤ p → p < g.2.1 → 0 ≤ q → q < g.2.1 → (cE (ix L (k + 1)) p q ↔ Fin g (ix L k) p q)
  c : Can (cE (ix L ((L.length : Int) - 1))) (ix L ((L.length : Int) - 1)) g.2.1
theorem rounds_spec (ok : GrOk g) : ∃ L, same_rounds g = some L ∧ Rds g L ∧ L.length ≤ 13 ∧ ∀ p q : Int, 0 ≤ p → p < g.2.1 → 0 ≤ q → q < g.2.1 → cE (ix L ((L.length : Int) - 1)) p q → Fin g (ix L ((L.length : Int) - 1)) p q := by
  have hn := ok.n
  have key : ∀ (f : Nat) (L : List (List Int)), (12 - news (cE (ix L ((L.length : Int) - 1))) g.2.1.toNat).toNat = f → Rds g L → (L.length : Int) ≤ news (cE (ix L ((L.length : Int) - 1))) g.2.1.toNat → ∃ L', same_rounds_L2 g L = some L' ∧ Rds g L' ∧ L'.length ≤ 13 ∧ ∀ p q : Int, 0 ≤ p → p < g.2.1 → 0 ≤ q → q < g.2.1 → cE (ix L' ((L'.length : Int) - 1)) p q → Fin g (ix L' ((L'.length : Int) - 1)) p q := by
    intro f
    induction f using Nat.strongRecOn with
    | ind f ih =>
      intro L hf h hLn
      have hl1 := h.l
      obtain ⟨c, ec⟩ : ∃ c, ix L ((L.length : Int) - 1) = c := ⟨_, rfl⟩
      have hcl : (c.length : Int) = g.2.1 := by rw [← ec]; exact h.len _ (by omega) (by omega)
      have hcan : Can (cE c) c g.2.1 := by rw [← ec]; exact h.c
      rw [ec] at hf hLn
      have hnb := news_b (E := cE c) g.2.1.toNat
      obtain ⟨nx, F, e7, hR⟩ := round_step ok (L := L) (c := c) (r2 := same_rounds_L2) ec (by omega) hcl g.2.1.toNat 0 (List.replicate g.2.1.toNat 0) [] (by omega) (by omega) ⟨by simp; omega, by simp [news], fun i i0 i1 => by simp at i1; omega, fun p p0 p1 => by omega, fun p p0 p1 => by omega, fun p q p0 p1 => by omega⟩
      have hnl := hR.ln
      have hE := fin_eqv ok c
      have hsub : ∀ p q : Int, 0 ≤ p → p < g.2.1 → 0 ≤ q → q < g.2.1 → Fin g c p q → cE c p q := fun p q _ _ _ _ h => h.1
      have hle := news_le hsub g.2.1.toNat (by omega)
      obtain ⟨m1, e1, m1a, p1, p10, p11, p12⟩ := max_spec (l := nx) (by omega) (by omega)
      obtain ⟨m2, e2, m2a, p2, p20, p21, p22⟩ := max_spec (l := c) (by omega) (by omega)
      have hm1 : m1 = news (Fin g c) g.2.1.toNat - 1 := by
        obtain ⟨a1, a2⟩ := hR.can.rng g.2.1.toNat (by omega)
        obtain ⟨p, q0, q1, q2⟩ := a2 (by omega)
        have := m1a p q0 (by omega)
        have := a1 p1 p10 (by omega)
        omega
      have hm2 : m2 = news (cE c) g.2.1.toNat - 1 := by
        obtain ⟨a1, a2⟩ := hcan.rng g.2.1.toNat (by omega)
        obtain ⟨p, q0, q1, q2⟩ := a2 (by omega)
        have := m2a p q0 (by omega)
        have := a1 p2 p20 (by omega)
        omega
      have hrep : (List.replicate (g.2.1).toNat (0 : Int)).length = g.2.1.toNat := List.length_replicate
      have start : ∀ X, (if decide (m1 = m2) = true then some L else same_rounds_L2 g (L ++ [nx])) = X → same_rounds_L2 g L = X := by
        intro X hX
        rw [same_rounds_L2_eq]; unfold same_rounds_L2_B
        rw [G_pos (by unfold fits; omega), G_pos (by omega), G_pos (by omega), G_pos (by unfold mkOK; omega), ec, e7, same_rounds_L7_eq]; unfold same_rounds_L7_B
        rw [if_neg (by simp only [decide_eq_true_eq]; omega)]
        refine bind_to e1 ?_
        rw [ec]
        refine bind_to e2 ?_
        rw [G_pos (by unfold room; simp; omega)]
        exact hX
      by_cases c1 : m1 = m2
      · refine ⟨L, start _ (by rw [if_pos (decide_eq_true c1)]), h, by omega, fun p q p0 p1 q0 q1 e => ?_⟩
        rw [ec] at e ⊢
        exact news_same hE (cE_eqv c) hsub g.2.1.toNat (by omega) (by omega) p q p0 (by omega) q0 (by omega) e
      · have hlast : ix (L ++ [nx]) (((L ++ [nx]).length : Int) - 1) = nx := by
          rw [List.length_append, List.length_singleton, show (((L.length + 1 : Nat) : Int) - 1) = (L.length : Int) by omega, ix_append_last]
        have hcg : news (cE nx) g.2.1.toNat = news (Fin g c) g.2.1.toNat := news_congr _ (fun p q p0 p1 q0 q1 => hR.iff p q p0 (by omega) q0 (by omega))
        have hR2 : Rds g (L ++ [nx]) := by
          refine ⟨by simp, fun k k0 k1 => ?_, fun p p0 p1 => ?_, fun k k0 k1 p q p0 p1 q0 q1 => ?_, ?_⟩
          · by_cases e : k = L.length
            · rw [e, ix_append_last]; exact hnl
            · rw [List.length_append, List.length_singleton] at k1
              rw [ix_append_left k0 (by omega)]; exact h.len k k0 (by omega)
          · rw [ix_append_left (by omega) (by omega)]; exact h.z p p0 p1
          · rw [List.length_append, List.length_singleton] at k1
            rw [ix_append_left k0 (by omega)]
            by_cases e : k + 1 = L.length
            · rw [e, ix_append_last, show k = (L.length : Int) - 1 by omega, ec]
              exact hR.iff p q p0 p1 q0 q1
            · rw [ix_append_left (by omega) (by omega)]; exact h.s k k0 (by omega) p q p0 p1 q0 q1
          · rw [hlast]
            exact hR.can.congr (fun p q p0 p1 q0 q1 => (hR.iff p q p0 p1 q0 q1).symm)
        have hnb2 := news_b (E := cE nx) g.2.1.toNat
        obtain ⟨L', e', h'⟩ := ih _ (by rw [hlast]; omega) (L ++ [nx]) rfl hR2 (by rw [hlast, List.length_append, List.length_singleton]; omega)
        exact ⟨L', start _ (by rw [if_neg (by simpa using c1)]; exact e'), h'⟩
  have hz : ∀ p : Int, 0 ≤ p → p < g.2.1 → ix (List.replicate g.2.1.toNat (0 : Int)) p = 0 := fun p p0 p1 => by
    rw [ix_eq p0 (by rw [List.length_replicate]; omega), List.getElem_replicate]
  have hnb := news_b (E := cE (List.replicate g.2.1.toNat (0 : Int))) g.2.1.toNat
  obtain ⟨L, e, h⟩ := key _ [List.replicate g.2.1.toNat 0] rfl ⟨by simp, fun k k0 k1 => by
      have : k = 0 := by simp at k1; omega
      subst this
      show ((List.replicate g.2.1.toNat (0 : Int)).length : Int) = _
      rw [List.length_replicate]; omega, fun p p0 p1 => hz p p0 p1, fun k k0 k1 => by simp at k1; omega, by
      show Can (cE (List.replicate g.2.1.toNat (0 : Int))) (List.replicate g.2.1.toNat (0 : Int)) g.2.1
      intro p p0 p1
      refine ⟨fun q q0 q1 e => e, fun hn => ?_⟩
      have : p = 0 := Classical.byContradiction fun e => hn ⟨0, by omega, by omega, by unfold cE; rw [hz p p0 p1, hz 0 (by omega) (by omega)]⟩
      subst this
      rw [hz 0 (by omega) (by omega)]; rfl⟩ (by
      show (1 : Int) ≤ news (cE (List.replicate g.2.1.toNat (0 : Int))) g.2.1.toNat
      exact hnb.2.2 (by omega))
  refine ⟨L, ?_, h⟩
  unfold same_rounds
  rw [G_pos (by unfold mkOK; omega)]
  exact e
end

/- the greatest table -/
section
variable {g : Gr}
theorem Answers_tells (ok : GrOk g) {t : List (List Bool)} (ht : (t.length : Int) = g.2.1) (hr : ∀ p : Int, 0 ≤ p → p < g.2.1 → ((ix t p).length : Int) = g.2.1) {p q : Int} : Tells (r20_Answers g t p q) (Ans g (tE t) p q) := by
  have ha := ok.a
  have key : ∀ (i : Int), 0 ≤ i → i < g.2.2.1.length → ∀ (f : Nat) (k : Int) (b : Bool), 0 ≤ k → k + f = g.2.2.1.length →
      ∃ b', r20_Answers_L8 g t q i (r20_Answers_L2 g t p q) b k = (if b' = true then r20_Answers_L2 g t p q (i + 1) else some false) ∧ (b' = true ↔ b = true ∨ ∃ j : Int, k ≤ j ∧ j < g.2.2.1.length ∧ (ix g.2.2.1 j).1 = q ∧ (ix g.2.2.1 j).2.1 = (ix g.2.2.1 i).2.1 ∧ tE t (ix g.2.2.1 i).2.2.1 (ix g.2.2.1 j).2.2.1) := by
    intro i i0 i1 f
    induction f with
    | zero =>
      intro k b k0 hk
      refine ⟨b, ?_, .inl, fun h => h.elim id (fun ⟨j, a, b, _⟩ => by omega)⟩
      rw [r20_Answers_L8_eq]; unfold r20_Answers_L8_B
      rw [if_neg (by simp only [decide_eq_true_eq]; omega)]
      cases b with
      | true => rw [if_neg (by decide), if_pos rfl, G_pos (by unfold fits; omega)]
      | false => rw [if_pos (by decide), if_neg (by decide)]
    | succ f ih =>
      intro k b k0 hk
      have hxi := ok.x _ (ix_mem i0 i1)
      have hxk := ok.x _ (ix_mem k0 (by omega : k < g.2.2.1.length))
      have go : ∀ v : Bool, (v = true ↔ b = true ∨ ((ix g.2.2.1 k).1 = q ∧ (ix g.2.2.1 k).2.1 = (ix g.2.2.1 i).2.1 ∧ tE t (ix g.2.2.1 i).2.2.1 (ix g.2.2.1 k).2.2.1)) → r20_Answers_L8 g t q i (r20_Answers_L2 g t p q) b k = r20_Answers_L8 g t q i (r20_Answers_L2 g t p q) v (k + 1) →
          ∃ b', r20_Answers_L8 g t q i (r20_Answers_L2 g t p q) b k = (if b' = true then r20_Answers_L2 g t p q (i + 1) else some false) ∧ (b' = true ↔ b = true ∨ ∃ j : Int, k ≤ j ∧ j < g.2.2.1.length ∧ (ix g.2.2.1 j).1 = q ∧ (ix g.2.2.1 j).2.1 = (ix g.2.2.1 i).2.1 ∧ tE t (ix g.2.2.1 i).2.2.1 (ix g.2.2.1 j).2.2.1) := by
        intro v hv e
        obtain ⟨b', e', hb⟩ := ih (k + 1) v (by omega) (by omega)
        refine ⟨b', e.trans e', hb.trans ?_⟩
        rw [hv]
        constructor
        · rintro ((h | h) | ⟨j, j0, h⟩)
          · exact .inl h
          · exact .inr ⟨k, Int.le_refl k, by omega, h⟩
          · exact .inr ⟨j, by omega, h⟩
        · rintro (h | ⟨j, j0, j1, h⟩)
          · exact .inl (.inl h)
          · by_cases ej : j = k
            · rw [ej] at h; exact .inl (.inr h)
            · exact .inr ⟨j, by omega, j1, h⟩
      have e0 : ∀ X, r20_Answers_L8_B g t q i (r20_Answers_L2 g t p q) (r20_Answers_L8 g t q i (r20_Answers_L2 g t p q)) b k = X → r20_Answers_L8 g t q i (r20_Answers_L2 g t p q) b k = X := fun X h => by rw [r20_Answers_L8_eq]; exact h
      have hf : fits (k + 1) := by unfold fits; omega
      cases b with
      | true =>
        refine go true (by simp) (e0 _ ?_)
        unfold r20_Answers_L8_B
        rw [if_pos (decide_eq_true (by omega)), G_pos (by omega), if_pos rfl, G_pos hf]
      | false =>
        by_cases c1 : (ix g.2.2.1 k).1 = q
        · by_cases c2 : (ix g.2.2.1 k).2.1 = (ix g.2.2.1 i).2.1
          · refine go (ix (ix t (ix g.2.2.1 i).2.2.1) (ix g.2.2.1 k).2.2.1) ⟨fun h => .inr ⟨c1, c2, h⟩, fun h => h.elim (fun h => (by cases h)) (fun h => h.2.2)⟩ (e0 _ ?_)
            unfold r20_Answers_L8_B
            have hr1 := hr (ix g.2.2.1 i).2.2.1 hxi.2.2.1 hxi.2.2.2.1
            rw [if_pos (decide_eq_true (by omega)), G_pos (by omega), if_neg (by decide), if_pos (decide_eq_true c1), G_pos (by omega), if_pos (decide_eq_true c2), G_pos (by omega), G_pos (by omega)]
            try rw [G_pos hf]
          · refine go false ⟨fun h => (by cases h), fun h => h.elim (fun h => (by cases h)) (fun h => absurd h.2.1 c2)⟩ (e0 _ ?_)
            unfold r20_Answers_L8_B
            rw [if_pos (decide_eq_true (by omega)), G_pos (by omega), if_neg (by decide), if_pos (decide_eq_true c1), G_pos (by omega), if_neg (by simpa using c2), G_pos hf]
        · refine go false ⟨fun h => (by cases h), fun h => h.elim (fun h => (by cases h)) (fun h => absurd h.1 c1)⟩ (e0 _ ?_)
          unfold r20_Answers_L8_B
          rw [if_pos (decide_eq_true (by omega)), G_pos (by omega), if_neg (by decide), if_neg (by simpa using c1), G_pos hf]
  have found : ∀ t' : Int, 0 ≤ t' → t' < g.2.2.1.length → ∃ b', r20_Answers_L8 g t q t' (r20_Answers_L2 g t p q) false 0 = (if b' = true then r20_Answers_L2 g t p q (t' + 1) else some false) ∧ (b' = true ↔ ∃ y ∈ g.2.2.1, y.1 = q ∧ y.2.1 = (ix g.2.2.1 t').2.1 ∧ tE t (ix g.2.2.1 t').2.2.1 y.2.2.1) := by
    intro i i0 i1
    obtain ⟨b', e, hb⟩ := key i i0 i1 g.2.2.1.length 0 false (by omega) (by omega)
    refine ⟨b', e, hb.trans ?_⟩
    rw [ex_ix (P := fun y : Arc => y.1 = q ∧ y.2.1 = (ix g.2.2.1 i).2.1 ∧ tE t (ix g.2.2.1 i).2.2.1 y.2.2.1)]
    simp
  have step : ∀ i : Int, 0 ≤ i → i < g.2.2.1.length → r20_Answers_L2 g t p q i = if (ix g.2.2.1 i).1 = p then r20_Answers_L8 g t q i (r20_Answers_L2 g t p q) false 0 else r20_Answers_L2 g t p q (i + 1) := by
    intro i i0 i1
    conv => lhs; rw [r20_Answers_L2_eq]; unfold r20_Answers_L2_B
    rw [if_pos (decide_eq_true i1), G_pos (by omega)]
    by_cases c : (ix g.2.2.1 i).1 = p
    · rw [if_neg (by simpa using c), if_pos c]
    · rw [if_pos (by simpa using c), if_neg c, G_pos (by unfold fits; omega)]
  have hE : r20_Answers_L2 g t p q g.2.2.1.length = some true := by
    rw [r20_Answers_L2_eq]; unfold r20_Answers_L2_B
    rw [if_neg (by simp)]
  unfold r20_Answers
  by_cases h : Ans g (tE t) p q
  · refine ⟨true, ?_, fun _ => h, fun _ => rfl⟩
    refine scan_to (len := g.2.2.1.length) (bad := fun _ => False) (by omega) (fun i i0 i1 => ⟨fun h => h.elim, fun _ => ?_⟩) (fun _ => hE)
    rw [step i i0 i1]
    by_cases c : (ix g.2.2.1 i).1 = p
    · obtain ⟨b', e, hb⟩ := found i i0 i1
      rw [if_pos c, e, if_pos (hb.2 (h _ (ix_mem i0 i1) c))]
    · rw [if_neg c]
  · refine ⟨false, ?_, fun e => (by cases e), fun k => absurd k h⟩
    refine scan_to (len := g.2.2.1.length) (bad := fun i => (ix g.2.2.1 i).1 = p ∧ ¬ ∃ y ∈ g.2.2.1, y.1 = q ∧ y.2.1 = (ix g.2.2.1 i).2.1 ∧ tE t (ix g.2.2.1 i).2.2.1 y.2.2.1) (by omega) (fun i i0 i1 => ?_) (fun hh => ?_)
    · obtain ⟨b', e, hb⟩ := found i i0 i1
      rw [step i i0 i1, e]
      refine ⟨fun ⟨h1, h2⟩ => by rw [if_pos h1, if_neg (fun h => h2 (hb.1 h))], fun hn => ?_⟩
      by_cases c : (ix g.2.2.1 i).1 = p
      · rw [if_pos c, if_pos (hb.2 (Classical.byContradiction fun h => hn ⟨c, h⟩))]
      · rw [if_neg c]
    · refine absurd (fun x hx hp => ?_) h
      obtain ⟨i, i0, i1, rfl⟩ := ex_ix (P := fun y => y = x).1 ⟨x, hx, rfl⟩
      exact Classical.byContradiction fun hn => hh i i0 i1 ⟨hp, hn⟩
/-- A square table. -/
structure Sq (n : Int) (t : List (List Bool)) : Prop where
  l : (t.length : Int) = n
  r : ∀ p : Int, 0 ≤ p → p < n → ((ix t p).length : Int) = n
def offC (t : List (List Bool)) (p q : Int) : List (List Bool) := t.set p.toNat ((ix t p).set q.toNat false)
theorem Sq.off {n : Int} {t : List (List Bool)} (h : Sq n t) {p q : Int} (p0 : 0 ≤ p) (p1 : p < n) : Sq n (offC t p q) := by
  have hl := h.l
  refine ⟨by unfold offC; simpa using hl, fun r r0 r1 => ?_⟩
  unfold offC
  by_cases e : p = r
  · subst e; rw [ix_set_same p0 (by omega)]; simpa using h.r p p0 p1
  · rw [ix_set_ne p0 r0 e]; exact h.r r r0 r1
theorem off_iff {n : Int} {t : List (List Bool)} (h : Sq n t) {p q : Int} (p0 : 0 ≤ p) (p1 : p < n) (q0 : 0 ≤ q) (q1 : q < n) {a b : Int} (a0 : 0 ≤ a) (b0 : 0 ≤ b) : tE (offC t p q) a b ↔ tE t a b ∧ ¬ (a = p ∧ b = q) := by
  have hl := h.l; have hr := h.r p p0 p1
  unfold tE offC
  by_cases e : p = a
  · subst e
    rw [ix_set_same p0 (by omega)]
    by_cases e2 : q = b
    · subst e2; rw [ix_set_same q0 (by omega)]; simp
    · rw [ix_set_ne q0 b0 e2]
      exact ⟨fun h => ⟨h, fun h' => e2 h'.2.symm⟩, fun h => h.1⟩
  · rw [ix_set_ne p0 a0 e]
    exact ⟨fun h => ⟨h, fun h' => e h'.1.symm⟩, fun h => h.1⟩
open Classical in
/-- How many cells of a row are so. -/
noncomputable def rowc (t : List (List Bool)) (p : Int) : Nat → Nat
  | 0 => 0
  | k + 1 => rowc t p k + (if tE t p k then 1 else 0)
noncomputable def tabc (t : List (List Bool)) (n : Nat) : Nat → Nat
  | 0 => 0
  | k + 1 => tabc t n k + rowc t k n
open Classical in
theorem rowc_le {s t : List (List Bool)} {p : Int} : ∀ k : Nat, (∀ b : Int, 0 ≤ b → b < k → tE s p b → tE t p b) → rowc s p k ≤ rowc t p k
  | 0, _ => Nat.le_refl _
  | k + 1, h => by
    have := rowc_le k (fun b b0 b1 => h b b0 (by omega))
    unfold rowc
    by_cases c : tE s p k
    · rw [if_pos c, if_pos (h k (by omega) (by omega) c)]; omega
    · rw [if_neg c]; split <;> omega
open Classical in
theorem rowc_lt {s t : List (List Bool)} {p q : Int} (q0 : 0 ≤ q) (h1 : tE t p q) (h2 : ¬ tE s p q) : ∀ k : Nat, q < k → (∀ b : Int, 0 ≤ b → b < k → tE s p b → tE t p b) → rowc s p k < rowc t p k
  | 0, hk, _ => by omega
  | k + 1, hk, h => by
    unfold rowc
    by_cases e : q = k
    · have := rowc_le (s := s) (t := t) (p := p) k (fun b b0 b1 => h b b0 (by omega))
      rw [← e, if_pos h1, if_neg h2]; omega
    · have := rowc_lt q0 h1 h2 k (by omega) (fun b b0 b1 => h b b0 (by omega))
      by_cases c : tE s p k
      · rw [if_pos c, if_pos (h k (by omega) (by omega) c)]; omega
      · rw [if_neg c]; split <;> omega
theorem tabc_le {s t : List (List Bool)} {n : Nat} : ∀ k : Nat, (∀ a b : Int, 0 ≤ a → a < k → 0 ≤ b → b < n → tE s a b → tE t a b) → tabc s n k ≤ tabc t n k
  | 0, _ => Nat.le_refl _
  | k + 1, h => by
    have := tabc_le k (fun a b a0 a1 => h a b a0 (by omega))
    have := rowc_le (s := s) (t := t) (p := k) n (fun b b0 b1 => h k b (by omega) (by omega) b0 b1)
    unfold tabc; omega
theorem tabc_lt {s t : List (List Bool)} {n : Nat} {p q : Int} (p0 : 0 ≤ p) (q0 : 0 ≤ q) (q1 : q < n) (h1 : tE t p q) (h2 : ¬ tE s p q) : ∀ k : Nat, p < k → (∀ a b : Int, 0 ≤ a → a < k → 0 ≤ b → b < n → tE s a b → tE t a b) → tabc s n k < tabc t n k
  | 0, hk, _ => by omega
  | k + 1, hk, h => by
    unfold tabc
    by_cases e : p = k
    · have := tabc_le (s := s) (t := t) (n := n) k (fun a b a0 a1 => h a b a0 (by omega))
      have := rowc_lt (s := s) (t := t) q0 (e ▸ h1) (e ▸ h2) n q1 (fun b b0 b1 => h k b (by omega) (by omega) b0 b1)
      omega
    · have := tabc_lt p0 q0 q1 h1 h2 k (by omega) (fun a b a0 a1 => h a b a0 (by omega))
      have := rowc_le (s := s) (t := t) (p := k) n (fun b b0 b1 => h k b (by omega) (by omega) b0 b1)
      omega
def Cnd (g : Gr) (both : Bool) (R : Int → Int → Prop) (p q : Int) : Prop := Ans g R p q ∧ (both = true → R q p)
/-- The greatest table all of whose pairs are answered. -/
structure GT (g : Gr) (both : Bool) (t : List (List Bool)) : Prop where
  sq : Sq g.2.1 t
  post : ∀ p q : Int, 0 ≤ p → p < g.2.1 → 0 ≤ q → q < g.2.1 → tE t p q → Cnd g both (tE t) p q
  great : ∀ R : Int → Int → Prop, (∀ p q : Int, 0 ≤ p → p < g.2.1 → 0 ≤ q → q < g.2.1 → R p q → Cnd g both R p q) → ∀ p q : Int, 0 ≤ p → p < g.2.1 → 0 ≤ q → q < g.2.1 → R p q → tE t p q
def Grt (g : Gr) (both : Bool) (t : List (List Bool)) : Prop := ∀ R : Int → Int → Prop, (∀ p q : Int, 0 ≤ p → p < g.2.1 → 0 ≤ q → q < g.2.1 → R p q → Cnd g both R p q) → ∀ p q : Int, 0 ≤ p → p < g.2.1 → 0 ≤ q → q < g.2.1 → R p q → tE t p q
theorem GT.one {both : Bool} {s t : List (List Bool)} (h : GT g both s) (k : GT g both t) : s = t := by
  have hs := h.sq; have ht := k.sq
  have hl := hs.l; have hl2 := ht.l
  refine ix_ext (by omega) fun p p0 p1 => ?_
  have r1 := hs.r p p0 (by omega); have r2 := ht.r p p0 (by omega)
  refine ix_ext (by omega) fun q q0 q1 => ?_
  rw [Bool.eq_iff_iff]
  exact ⟨k.great _ h.post p q p0 (by omega) q0 (by omega), h.great _ k.post p q p0 (by omega) q0 (by omega)⟩
open Classical in
/-- One pass over a table, in any of the two programs' words. -/
theorem pass_of {R : Type} (ok : GrOk g) {both : Bool} {F : Int → Bool → Int → List (List Bool) → Option R} {G' : Bool → Int → List (List Bool) → Option R}
    (hrow : ∀ (p : Int) (b : Bool) (t : List (List Bool)), 0 ≤ p → p < g.2.1 → Sq g.2.1 t → G' b p t = F p b 0 t)
    (hstep : ∀ (p q : Int) (b : Bool) (t : List (List Bool)), 0 ≤ p → p < g.2.1 → 0 ≤ q → q < g.2.1 → Sq g.2.1 t → F p b q t = if tE t p q ∧ ¬ Cnd g both (tE t) p q then F p true (q + 1) (offC t p q) else F p b (q + 1) t)
    (hend : ∀ (p : Int) (b : Bool) (t : List (List Bool)), 0 ≤ p → p < g.2.1 → Sq g.2.1 t → F p b g.2.1 t = G' b (p + 1) t) {t : List (List Bool)} (ht : Sq g.2.1 t) (hg : Grt g both t) :
    ∃ b' t', G' false 0 t = G' b' g.2.1 t' ∧ Sq g.2.1 t' ∧ Grt g both t' ∧ ((b' = false ∧ t' = t ∧ ∀ p q : Int, 0 ≤ p → p < g.2.1 → 0 ≤ q → q < g.2.1 → tE t p q → Cnd g both (tE t) p q) ∨ (b' = true ∧ tabc t' g.2.1.toNat g.2.1.toNat < tabc t g.2.1.toNat g.2.1.toNat)) := by
  have hn := ok.n
  -- the state of the pass
  let I : Bool → List (List Bool) → (Int → Int → Prop) → Prop := fun b s done => Sq g.2.1 s ∧ Grt g both s ∧ ((b = false ∧ s = t ∧ ∀ p q : Int, 0 ≤ p → p < g.2.1 → 0 ≤ q → q < g.2.1 → done p q → tE t p q → Cnd g both (tE t) p q) ∨ (b = true ∧ tabc s g.2.1.toNat g.2.1.toNat < tabc t g.2.1.toNat g.2.1.toNat))
  have one : ∀ (p q : Int) (b : Bool) (s : List (List Bool)), 0 ≤ p → p < g.2.1 → 0 ≤ q → q < g.2.1 → I b s (fun x y => x < p ∨ (x = p ∧ y < q)) → ∃ b' s', F p b q s = F p b' (q + 1) s' ∧ I b' s' (fun x y => x < p ∨ (x = p ∧ y < q + 1)) := by
    intro p q b s p0 p1 q0 q1 ⟨h1, h2, h3⟩
    rw [hstep p q b s p0 p1 q0 q1 h1]
    by_cases c : tE s p q ∧ ¬ Cnd g both (tE s) p q
    · rw [if_pos c]
      have hoff := fun a b a0 b0 => off_iff h1 p0 p1 q0 q1 (a := a) (b := b) a0 b0
      have hlt : tabc (offC s p q) g.2.1.toNat g.2.1.toNat < tabc s g.2.1.toNat g.2.1.toNat := tabc_lt p0 q0 (by omega) c.1 (fun h => ((hoff p q p0 q0).1 h).2 ⟨rfl, rfl⟩) _ (by omega) (fun a b a0 _ b0 _ h => ((hoff a b a0 b0).1 h).1)
      refine ⟨true, _, rfl, h1.off p0 p1, fun R hR x y x0 x1 y0 y1 hxy => ?_, .inr ⟨rfl, ?_⟩⟩
      · refine (hoff x y x0 y0).2 ⟨h2 R hR x y x0 x1 y0 y1 hxy, ?_⟩
        rintro ⟨rfl, rfl⟩
        obtain ⟨k1, k2⟩ := hR x y x0 x1 y0 y1 hxy
        exact c.2 ⟨k1.mono (fun z hz => ⟨(ok.x z hz).2.2.1, (ok.x z hz).2.2.2.1⟩) (fun a b a0 a1 b0 b1 h => h2 R hR a b a0 a1 b0 b1 h), fun hb => h2 R hR y x y0 y1 x0 x1 (k2 hb)⟩
      · rcases h3 with ⟨_, rfl, _⟩ | ⟨_, h⟩
        · exact hlt
        · omega
    · rw [if_neg c]
      refine ⟨b, s, rfl, h1, h2, ?_⟩
      rcases h3 with ⟨rfl, rfl, h⟩ | h
      · refine .inl ⟨rfl, rfl, fun x y x0 x1 y0 y1 hd hxy => ?_⟩
        by_cases e : x = p ∧ y = q
        · rw [e.1, e.2] at hxy ⊢
          exact Classical.byContradiction fun hn => c ⟨hxy, hn⟩
        · exact h x y x0 x1 y0 y1 (by omega) hxy
      · exact .inr h
  have row : ∀ (p : Int), 0 ≤ p → p < g.2.1 → ∀ (m : Nat) (q : Int) (b : Bool) (s : List (List Bool)), 0 ≤ q → q + m = g.2.1 → I b s (fun x y => x < p ∨ (x = p ∧ y < q)) → ∃ b' s', F p b q s = F p b' g.2.1 s' ∧ I b' s' (fun x y => x < p ∨ (x = p ∧ y < g.2.1)) := by
    intro p p0 p1 m
    induction m with
    | zero =>
      intro q b s q0 hq h
      obtain rfl : q = g.2.1 := by omega
      exact ⟨b, s, rfl, h⟩
    | succ m ih =>
      intro q b s q0 hq h
      obtain ⟨b1, s1, e1, h1⟩ := one p q b s p0 p1 q0 (by omega) h
      obtain ⟨b2, s2, e2, h2⟩ := ih (q + 1) b1 s1 (by omega) (by omega) h1
      exact ⟨b2, s2, e1.trans e2, h2⟩
  have all : ∀ (m : Nat) (p : Int) (b : Bool) (s : List (List Bool)), 0 ≤ p → p + m = g.2.1 → I b s (fun x _ => x < p) → ∃ b' s', G' b p s = G' b' g.2.1 s' ∧ I b' s' (fun x _ => x < g.2.1) := by
    intro m
    induction m with
    | zero =>
      intro p b s p0 hp h
      obtain rfl : p = g.2.1 := by omega
      exact ⟨b, s, rfl, h⟩
    | succ m ih =>
      intro p b s p0 hp h
      obtain ⟨b1, s1, e1, h1⟩ := row p p0 (by omega) g.2.1.toNat 0 b s (by omega) (by omega) ⟨h.1, h.2.1, h.2.2.imp (fun ⟨a1, a2, a3⟩ => ⟨a1, a2, fun x y x0 x1 y0 y1 hd => a3 x y x0 x1 y0 y1 (show x < p by omega)⟩) id⟩
      obtain ⟨b2, s2, e2, h2⟩ := ih (p + 1) b1 s1 (by omega) (by omega) ⟨h1.1, h1.2.1, h1.2.2.imp (fun ⟨a1, a2, a3⟩ => ⟨a1, a2, fun x y x0 x1 y0 y1 hd => a3 x y x0 x1 y0 y1 (by omega)⟩) id⟩
      refine ⟨b2, s2, ?_, h2⟩
      rw [hrow p b s p0 (by omega) h.1, e1, hend p b1 s1 p0 (by omega) h1.1]
      exact e2
  obtain ⟨b', t', e, h1, h2, h3⟩ := all g.2.1.toNat 0 false t (by omega) (by omega) ⟨ht, hg, .inl ⟨rfl, rfl, fun x y x0 x1 y0 y1 hd => by omega⟩⟩
  exact ⟨b', t', e, h1, h2, h3.imp (fun ⟨a1, a2, a3⟩ => ⟨a1, a2, fun x y x0 x1 y0 y1 => a3 x y x0 x1 y0 y1 x1⟩) id⟩
theorem Table_pass (ok : GrOk g) {both : Bool} {t : List (List Bool)} (ht : Sq g.2.1 t) (hg : Grt g both t) :
    ∃ b' t', r20_Table_L15 g both (r20_Table_L12 g both) false 0 t = r20_Table_L12 g both b' t' ∧ Sq g.2.1 t' ∧ Grt g both t' ∧ ((b' = false ∧ t' = t ∧ ∀ p q : Int, 0 ≤ p → p < g.2.1 → 0 ≤ q → q < g.2.1 → tE t p q → Cnd g both (tE t) p q) ∨ (b' = true ∧ tabc t' g.2.1.toNat g.2.1.toNat < tabc t g.2.1.toNat g.2.1.toNat)) := by
  have hn := ok.n
  have := pass_of ok (both := both) (F := fun p b q t => r20_Table_L18 g both p (r20_Table_L15 g both (r20_Table_L12 g both)) b q t) (G' := fun b p t => r20_Table_L15 g both (r20_Table_L12 g both) b p t) (fun p b t p0 p1 ht => ?_) (fun p q b t p0 p1 q0 q1 ht => ?_) (fun p b t p0 p1 ht => ?_) ht hg
  · obtain ⟨b', t', e, h⟩ := this
    refine ⟨b', t', e.trans ?_, h⟩
    rw [r20_Table_L15_eq]; unfold r20_Table_L15_B
    rw [if_neg (by simp)]
  · rw [r20_Table_L15_eq]; unfold r20_Table_L15_B
    rw [if_pos (decide_eq_true p1)]
  · have hl := ht.l; have hr := ht.r p p0 p1; have hr2 := ht.r q q0 q1
    have hJ : ∀ v : Bool, r20_Table_J23 p b q t (r20_Table_L18 g both p (r20_Table_L15 g both (r20_Table_L12 g both))) v = if v = true then r20_Table_L18 g both p (r20_Table_L15 g both (r20_Table_L12 g both)) b (q + 1) t else r20_Table_L18 g both p (r20_Table_L15 g both (r20_Table_L12 g both)) true (q + 1) (offC t p q) := by
      intro v
      unfold r20_Table_J23
      cases v with
      | true => rw [if_neg (by decide), if_pos rfl, G_pos (by unfold fits; omega)]
      | false => rw [if_pos (by decide), if_neg (by decide), G_pos (by omega), G_pos (by omega), G_pos (by omega), G_pos (by omega), G_pos (by unfold fits; omega)]; rfl
    conv => lhs; rw [r20_Table_L18_eq]; unfold r20_Table_L18_B
    rw [if_pos (decide_eq_true q1), G_pos (by omega), G_pos (by omega), G_pos (by omega), G_pos (by omega)]
    by_cases c : tE t p q
    · have c' : ix (ix t p) q = true := c
      rw [if_neg (by simp [c'])]
      obtain ⟨b1, e1, h1⟩ := Answers_tells ok ht.l ht.r (p := p) (q := q)
      refine bind_to e1 ?_
      unfold r20_Table_J22
      cases both with
      | true =>
        rw [if_pos rfl]
        cases b1 with
        | true =>
          rw [if_pos rfl, G_pos (by omega), G_pos (by omega), G_pos (by omega), G_pos (by omega), hJ]
          by_cases c2 : ix (ix t q) p = true
          · rw [if_pos c2, if_neg (fun h => h.2 ⟨h1.1 rfl, fun _ => c2⟩)]
          · rw [if_neg c2, if_pos ⟨c, fun h => c2 (h.2 rfl)⟩]
        | false =>
          rw [if_neg (by decide), hJ, if_neg (by decide), if_pos ⟨c, fun h => by cases h1.2 h.1⟩]
      | false =>
        rw [if_neg (by decide), if_neg (by decide), hJ]
        cases b1 with
        | true => rw [if_pos rfl, if_neg (fun h => h.2 ⟨h1.1 rfl, fun h => by cases h⟩)]
        | false => rw [if_neg (by decide), if_pos ⟨c, fun h => by cases h1.2 h.1⟩]
    · have c' : ¬ ix (ix t p) q = true := c
      rw [if_pos (by simpa using c'), G_pos (by unfold fits; omega), if_neg (fun h => c h.1)]
  · rw [r20_Table_L18_eq]; unfold r20_Table_L18_B
    rw [if_neg (by simp), G_pos (by unfold fits; omega)]
theorem full_ok {t : List (List Bool)} (hf : ∀ p q : Int, 0 ≤ p → p < g.2.1 → 0 ≤ q → q < g.2.1 → tE t p q) {both : Bool} : Grt g both t := fun _ _ p q p0 p1 q0 q1 _ => hf p q p0 p1 q0 q1
theorem Table_spec (ok : GrOk g) (both : Bool) : ∃ t, r20_Table g both = some t ∧ GT g both t := by
  have hn := ok.n
  have k12 : ∀ (f : Nat) (t : List (List Bool)), tabc t g.2.1.toNat g.2.1.toNat = f → Sq g.2.1 t → Grt g both t → ∃ t', r20_Table_L12 g both true t = some t' ∧ GT g both t' := by
    intro f
    induction f using Nat.strongRecOn with
    | ind f ih =>
      intro t hf ht hg
      obtain ⟨b', t', e, h1, h2, h3⟩ := Table_pass ok ht hg
      rw [r20_Table_L12_eq]; unfold r20_Table_L12_B
      rw [if_pos rfl, e]
      rcases h3 with ⟨rfl, rfl, h⟩ | ⟨rfl, h⟩
      · refine ⟨t', ?_, h1, h, h2⟩
        rw [r20_Table_L12_eq]; unfold r20_Table_L12_B
        rw [if_neg (by decide)]
      · exact ih _ (by omega) t' rfl h1 h2
  have k7 : ∀ (p : Int), 0 ≤ p → p < g.2.1 → ∀ (t : List (List Bool)), (t.length : Int) = p → ∀ (m : Nat) (q : Int) (r : List Bool), 0 ≤ q → q + m = g.2.1 → (r.length : Int) = g.2.1 → (∀ j : Int, 0 ≤ j → j < q → ix r j = true) →
      ∃ r', r20_Table_L7 g p t (r20_Table_L3 g both) q r = r20_Table_L3 g both (p + 1) (t ++ [r']) ∧ (r'.length : Int) = g.2.1 ∧ ∀ j : Int, 0 ≤ j → j < g.2.1 → ix r' j = true := by
    intro p p0 p1 t ht m
    induction m with
    | zero =>
      intro q r q0 hq hr h
      refine ⟨r, ?_, hr, fun j j0 j1 => h j j0 (by omega)⟩
      rw [r20_Table_L7_eq]; unfold r20_Table_L7_B
      rw [if_neg (by simp only [decide_eq_true_eq]; omega), G_pos (by unfold room; simp; omega), G_pos (by unfold fits; omega)]
    | succ m ih =>
      intro q r q0 hq hr h
      conv => arg 1; ext r'; lhs; lhs; rw [r20_Table_L7_eq]; unfold r20_Table_L7_B
      rw [if_pos (decide_eq_true (by omega)), G_pos (by omega), G_pos (by omega), G_pos (by unfold fits; omega)]
      refine ih (q + 1) _ (by omega) (by omega) (by simpa using hr) (fun j j0 j1 => ?_)
      by_cases e : q = j
      · subst e; exact ix_set_same q0 (by omega)
      · rw [ix_set_ne q0 j0 e]; exact h j j0 (by omega)
  have k3 : ∀ (m : Nat) (p : Int) (t : List (List Bool)), 0 ≤ p → p + m = g.2.1 → (t.length : Int) = p → (∀ a : Int, 0 ≤ a → a < p → ((ix t a).length : Int) = g.2.1 ∧ ∀ j : Int, 0 ≤ j → j < g.2.1 → ix (ix t a) j = true) → ∃ t', r20_Table_L3 g both p t = some t' ∧ GT g both t' := by
    intro m
    induction m with
    | zero =>
      intro p t p0 hp hl h
      rw [r20_Table_L3_eq]; unfold r20_Table_L3_B
      rw [if_neg (by simp only [decide_eq_true_eq]; omega)]
      exact k12 _ t rfl ⟨by omega, fun a a0 a1 => (h a a0 (by omega)).1⟩ (full_ok fun a b a0 a1 b0 b1 => (h a a0 (by omega)).2 b b0 b1)
    | succ m ih =>
      intro p t p0 hp hl h
      obtain ⟨r, e, hr1, hr2⟩ := k7 p p0 (by omega) t hl g.2.1.toNat 0 (List.replicate g.2.1.toNat false) (by omega) (by omega) (by simp; omega) (fun j j0 j1 => by omega)
      rw [r20_Table_L3_eq]; unfold r20_Table_L3_B
      rw [if_pos (decide_eq_true (by omega)), G_pos (by unfold mkOK; omega), e]
      refine ih (p + 1) _ (by omega) (by omega) (by simp; omega) (fun a a0 a1 => ?_)
      by_cases ea : a = p
      · rw [ea, ← hl, ix_append_last]; exact ⟨hr1, hr2⟩
      · rw [ix_append_left a0 (by omega)]; exact h a a0 (by omega)
  exact k3 g.2.1.toNat 0 [] (by omega) (by omega) rfl (fun a a0 a1 => by omega)
end

section
variable {g : Gr}
/-- What cannot be told apart is one for both. -/
theorem table_eqv (ok : GrOk g) {t : List (List Bool)} (h : GT g true t) {L : List (List Int)} (hL : Rds g L) (hst : ∀ p q : Int, 0 ≤ p → p < g.2.1 → 0 ≤ q → q < g.2.1 → cE (ix L ((L.length : Int) - 1)) p q → Fin g (ix L ((L.length : Int) - 1)) p q) :
    ∀ p q : Int, 0 ≤ p → p < g.2.1 → 0 ≤ q → q < g.2.1 → (cE (ix L ((L.length : Int) - 1)) p q ↔ tE t p q) := by
  have hl := hL.l
  have hx : ∀ x ∈ g.2.2.1, 0 ≤ x.2.2.1 ∧ x.2.2.1 < g.2.1 := fun x hx => ⟨(ok.x x hx).2.2.1, (ok.x x hx).2.2.2.1⟩
  have all : ∀ (k : Nat), (k : Int) < L.length → ∀ p q : Int, 0 ≤ p → p < g.2.1 → 0 ≤ q → q < g.2.1 → tE t p q → cE (ix L k) p q := by
    intro k
    induction k with
    | zero =>
      intro _ p q p0 p1 q0 q1 _
      show ix (ix L 0) p = ix (ix L 0) q
      rw [hL.z p p0 p1, hL.z q q0 q1]
    | succ k ih =>
      intro hk p q p0 p1 q0 q1 ht
      have ih' := ih (by omega)
      refine (hL.s k (by omega) (by omega) p q p0 p1 q0 q1).2 ⟨ih' p q p0 p1 q0 q1 ht, ?_, ?_⟩
      · exact (h.post p q p0 p1 q0 q1 ht).1.mono hx ih'
      · have hqp := (h.post p q p0 p1 q0 q1 ht).2 rfl
        exact (h.post q p q0 q1 p0 p1 hqp).1.mono hx ih'
  intro p q p0 p1 q0 q1
  constructor
  · exact h.great (cE (ix L ((L.length : Int) - 1))) (fun p q p0 p1 q0 q1 e => ⟨(hst p q p0 p1 q0 q1 e).2.1, fun _ => Eq.symm e⟩) p q p0 p1 q0 q1
  · intro ht
    have := all (L.length - 1) (by omega) p q p0 p1 q0 q1 ht
    rwa [show ((L.length - 1 : Nat) : Int) = (L.length : Int) - 1 by omega] at this
open Classical in
theorem rClasses_spec (ok : GrOk g) {t : List (List Bool)} (h : GT g true t) (hE : Eqv g.2.1 (tE t)) (et : r20_Table g true = some t) : ∃ c, r20_Classes g = some c ∧ (c.length : Int) = g.2.1 ∧ Can (tE t) c g.2.1 := by
  have hn := ok.n; have hsq := h.sq; have hl := hsq.l
  have k5 : ∀ (m : Nat) (p : Nat) (out : List Int), p + m = g.2.1.toNat → out.length = p → Can (tE t) out p → ∃ c, r20_Classes_L5 g t (news (tE t) p) p out = some c ∧ (c.length : Int) = g.2.1 ∧ Can (tE t) c g.2.1 := by
    intro m
    induction m with
    | zero =>
      intro p out hp ho hc
      refine ⟨out, ?_, by omega, by rw [show g.2.1 = (p : Int) by omega]; exact hc⟩
      rw [r20_Classes_L5_eq]; unfold r20_Classes_L5_B
      rw [if_neg (by simp only [decide_eq_true_eq]; omega)]
    | succ m ih =>
      intro p out hp ho hc
      have hr := hsq.r p (by omega) (by omega)
      have hnb := news_b (E := tE t) p
      have hrg := (hc.rng p (Int.le_refl _)).1
      have hJ : ∀ k, r20_Classes_J10 (news (tE t) p) p out (r20_Classes_L5 g t) k = if k = news (tE t) p then r20_Classes_L5 g t (news (tE t) p + 1) (p + 1) (out ++ [k]) else r20_Classes_L5 g t (news (tE t) p) (p + 1) (out ++ [k]) := by
        intro k
        unfold r20_Classes_J10
        by_cases c : k = news (tE t) p
        · rw [if_pos (decide_eq_true c), if_pos c, G_pos (by unfold fits; omega), G_pos (by unfold room; simp; omega), G_pos (by unfold fits; omega)]
        · rw [if_neg (by simpa using c), if_neg c, G_pos (by unfold room; simp; omega), G_pos (by unfold fits; omega)]
      rw [r20_Classes_L5_eq]; unfold r20_Classes_L5_B
      rw [if_pos (decide_eq_true (by omega))]
      have hput : ∀ k : Int, ((∀ q : Int, 0 ≤ q → q < p → tE t p q → k = ix out q) ∧ ((¬ ∃ q : Int, 0 ≤ q ∧ q < p ∧ tE t p q) → k = news (tE t) p)) → Can (tE t) (out ++ [k]) (p + 1 : Nat) := by
        rintro k ⟨k1, k2⟩ a a0 a1
        by_cases ea : a = p
        · have el : ix (out ++ [k]) a = k := by rw [ea, ← ho, ix_append_last]
          rw [el, ea]
          exact ⟨fun q q0 q1 e => by rw [ix_append_left q0 (by omega)]; exact k1 q q0 q1 e, fun hn => by rw [Int.toNat_natCast]; exact k2 hn⟩
        · obtain ⟨c1, c2⟩ := hc a a0 (by omega)
          rw [ix_append_left a0 (by omega)]
          exact ⟨fun q q0 q1 e => by rw [ix_append_left q0 (by omega)]; exact c1 q q0 q1 e, c2⟩
      by_cases ex : ∃ q : Int, 0 ≤ q ∧ q < p ∧ tE t p q
      · -- the first that is alike
        have e9 : ∃ q : Int, (0 ≤ q ∧ q < p ∧ tE t p q) ∧ r20_Classes_L9 t (news (tE t) p) p out (r20_Classes_L5 g t) (news (tE t) p) 0 = r20_Classes_J10 (news (tE t) p) p out (r20_Classes_L5 g t) (ix out q) := by
          have k9 : ∀ (f : Nat) (q : Int), 0 ≤ q → q + f = p → (∃ r : Int, q ≤ r ∧ r < p ∧ tE t p r) → ∃ r : Int, (0 ≤ r ∧ r < p ∧ tE t p r) ∧ r20_Classes_L9 t (news (tE t) p) p out (r20_Classes_L5 g t) (news (tE t) p) q = r20_Classes_J10 (news (tE t) p) p out (r20_Classes_L5 g t) (ix out r) := by
            intro f
            induction f with
            | zero => intro q q0 hq ⟨r, r0, r1, _⟩; omega
            | succ f ihf =>
              intro q q0 hq ⟨r, r0, r1, r2⟩
              by_cases c : ix (ix t p) q = true
              · refine ⟨q, ⟨q0, by omega, c⟩, ?_⟩
                rw [r20_Classes_L9_eq]; unfold r20_Classes_L9_B
                rw [if_pos (decide_eq_true (by omega)), G_pos (by omega), G_pos (by omega), if_pos c, G_pos (by omega), G_pos (by omega)]
              · obtain ⟨r', h', e'⟩ := ihf (q + 1) (by omega) (by omega) ⟨r, by
                  by_cases er : r = q
                  · rw [er] at r2; exact absurd r2 c
                  · omega, r1, r2⟩
                refine ⟨r', h', ?_⟩
                rw [← e']
                conv => lhs; rw [r20_Classes_L9_eq]; unfold r20_Classes_L9_B
                rw [if_pos (decide_eq_true (by omega)), G_pos (by omega), G_pos (by omega), if_neg c, G_pos (by unfold fits; omega)]
          obtain ⟨q, q0, q1, q2⟩ := ex
          exact k9 p 0 (by omega) (by omega) ⟨q, by omega, q1, q2⟩
        obtain ⟨q, ⟨q0, q1, q2⟩, e⟩ := e9
        have hqr := hrg q q0 q1
        rw [e, hJ, if_neg (by omega)]
        have hnews : news (tE t) (p + 1) = news (tE t) p := by
          show news (tE t) p + _ = _
          rw [if_pos ex]; omega
        have hsame : ∀ r : Int, 0 ≤ r → r < p → tE t p r → ix out q = ix out r := by
          intro r r0 r1 e
          have hqr' : tE t q r := hE.t q p r q0 (by omega) (by omega) (by omega) r0 (by omega) (hE.s p q (by omega) (by omega) q0 (by omega) q2) e
          rcases Int.lt_trichotomy q r with hlt | heq | hgt
          · exact ((hc r r0 r1).1 q q0 hlt (hE.s q r q0 (by omega) r0 (by omega) hqr')).symm
          · rw [heq]
          · exact (hc q q0 q1).1 r r0 hgt hqr'
        have ih' := ih (p + 1) (out ++ [ix out q]) (by omega) (by simp; omega) (hput _ ⟨hsame, fun hn => absurd ex hn⟩)
        rw [hnews] at ih'; exact ih'
      · have e9 : r20_Classes_L9 t (news (tE t) p) p out (r20_Classes_L5 g t) (news (tE t) p) 0 = r20_Classes_J10 (news (tE t) p) p out (r20_Classes_L5 g t) (news (tE t) p) := by
          refine scan_to (len := (p : Int)) (bad := fun _ => False) (by omega) (fun q q0 q1 => ⟨fun h => h.elim, fun _ => ?_⟩) (fun _ => ?_)
          · conv => lhs; rw [r20_Classes_L9_eq]; unfold r20_Classes_L9_B
            rw [if_pos (decide_eq_true q1), G_pos (by omega), G_pos (by omega), if_neg (show ¬ ix (ix t p) q = true from fun h => ex ⟨q, q0, q1, h⟩), G_pos (by unfold fits; omega)]
          · rw [r20_Classes_L9_eq]; unfold r20_Classes_L9_B
            rw [if_neg (by simp)]
        rw [e9, hJ, if_pos rfl]
        have hnews : news (tE t) (p + 1) = news (tE t) p + 1 := by
          show news (tE t) p + _ = _
          rw [if_neg ex]
        have ih' := ih (p + 1) (out ++ [news (tE t) p]) (by omega) (by simp; omega) (hput _ ⟨fun r r0 r1 e => absurd ⟨r, r0, r1, e⟩ ex, fun _ => rfl⟩)
        rw [hnews] at ih'; exact ih'
  obtain ⟨c, e, h⟩ := k5 g.2.1.toNat 0 [] (by omega) rfl (fun p p0 p1 => by omega)
  refine ⟨c, ?_, h⟩
  unfold r20_Classes
  refine bind_to et ?_
  exact e
end

/- what sayings say -/
abbrev Say := Int × Int × Int × Int × Unit
open Classical in
noncomputable def rowOf (n : Nat) (P : Int → Prop) : List Bool := (List.range n).map (fun i : Nat => decide (P (i : Int)))
theorem rowOf_len (n : Nat) (P : Int → Prop) : (rowOf n P).length = n := by unfold rowOf; simp
open Classical in
theorem rowOf_ix {n : Nat} {P : Int → Prop} {p : Int} (p0 : 0 ≤ p) (p1 : p < n) : ix (rowOf n P) p = true ↔ P p := by
  rw [ix_eq p0 (by rw [rowOf_len]; exact p1)]
  unfold rowOf
  rw [List.getElem_map, List.getElem_range, decide_eq_true_iff, show ((p.toNat : Nat) : Int) = p by omega]
theorem row_ext {n : Nat} {a : List Bool} {P : Int → Prop} (hl : a.length = n) (h : ∀ p : Int, 0 ≤ p → p < n → (ix a p = true ↔ P p)) : a = rowOf n P := by
  refine ix_ext (by rw [rowOf_len]; exact hl) fun p p0 p1 => ?_
  rw [Bool.eq_iff_iff, h p p0 (by omega), rowOf_ix p0 (by omega)]
/-- Where a part is so, by those ahead of it. -/
def pv (g : Gr) (all : List (List Bool)) (s : Say) (p : Int) : Prop := (s.1 = 0) ∨ (s.1 = 1 ∧ ¬ tE all s.2.2.1 p) ∨ (s.1 = 2 ∧ ∃ x ∈ g.2.2.1, x.1 = p ∧ x.2.1 = s.2.1 ∧ tE all s.2.2.1 x.2.2.1) ∨ (s.1 = 3 ∧ tE all s.2.2.1 p ∧ tE all s.2.2.2.1 p)
noncomputable def evs (g : Gr) (l : List Say) : List (List Bool) := l.foldl (fun all s => all ++ [rowOf g.2.1.toNat (pv g all s)]) []
def VP (s : Say) (i : Int) : Prop := (0 ≤ s.1 ∧ s.1 ≤ 3) ∧ (0 ≤ s.2.2.1 ∧ s.2.2.1 < if 0 < s.1 then i else 1) ∧ (0 ≤ s.2.2.2.1 ∧ s.2.2.2.1 < if s.1 = 3 then i else 1) ∧ (0 ≤ s.2.1 ∧ s.2.1 < if s.1 = 2 then 4 else 1)
def VS (l : List Say) : Prop := ∀ i : Int, 0 ≤ i → i < l.length → VP (ix l i) i
section
variable {g : Gr}
theorem evs_snoc (l : List Say) (s : Say) : evs g (l ++ [s]) = evs g l ++ [rowOf g.2.1.toNat (pv g (evs g l) s)] := by
  unfold evs; rw [List.foldl_append]; rfl
theorem evs_len : ∀ (f : Nat) (l : List Say), l.length = f → (evs g l).length = f := by
  intro f
  induction f with
  | zero => intro l h; rw [List.length_eq_zero_iff.1 h]; rfl
  | succ f ih =>
    intro l h
    have hne : l ≠ [] := fun e => by rw [e] at h; simp at h
    rw [← List.dropLast_concat_getLast hne, evs_snoc, List.length_append, List.length_singleton, ih l.dropLast (by rw [List.length_dropLast]; omega)]
theorem evs_old {l : List Say} {s : Say} {i p : Int} (i0 : 0 ≤ i) (i1 : i < l.length) : tE (evs g (l ++ [s])) i p ↔ tE (evs g l) i p := by
  unfold tE
  rw [evs_snoc, ix_append_left i0 (by rw [evs_len _ l rfl]; exact i1)]
theorem evs_new {l : List Say} {s : Say} {p : Int} (p0 : 0 ≤ p) (p1 : p < g.2.1) : tE (evs g (l ++ [s])) l.length p ↔ pv g (evs g l) s p := by
  unfold tE
  have : (l.length : Int) = ((evs g l).length : Int) := by rw [evs_len _ l rfl]
  rw [evs_snoc, this, ix_append_last, rowOf_ix p0 (by omega)]
theorem VS.snoc {l : List Say} {s : Say} (h : VS l) (k : VP s l.length) : VS (l ++ [s]) := by
  intro i i0 i1
  rw [List.length_append, List.length_singleton] at i1
  by_cases e : i = l.length
  · rw [e, ix_append_last]; exact k
  · rw [ix_append_left i0 (by omega)]; exact h i i0 (by omega)
theorem VS.init {l : List Say} {s : Say} (h : VS (l ++ [s])) : VS l ∧ VP s l.length := by
  refine ⟨fun i i0 i1 => ?_, ?_⟩
  · have := h i i0 (by rw [List.length_append, List.length_singleton]; omega)
    rwa [ix_append_left i0 i1] at this
  · have := h l.length (by omega) (by rw [List.length_append, List.length_singleton]; omega)
    rwa [ix_append_last] at this
/-- What cannot be told apart is told the same. -/
theorem evs_alike (ok : GrOk g) {R : Int → Int → Prop} (hR : ∀ p q : Int, 0 ≤ p → p < g.2.1 → 0 ≤ q → q < g.2.1 → R p q → Ans g R p q ∧ R q p) : ∀ (f : Nat) (l : List Say), l.length = f → VS l → ∀ i p q : Int, 0 ≤ i → i < l.length → 0 ≤ p → p < g.2.1 → 0 ≤ q → q < g.2.1 → R p q → (tE (evs g l) i p ↔ tE (evs g l) i q) := by
  intro f
  induction f with
  | zero => intro l h _ i p q i0 i1; omega
  | succ f ih =>
    intro l h hv i p q i0 i1 p0 p1 q0 q1 hpq
    have hne : l ≠ [] := fun e => by rw [e] at h; simp at h
    obtain ⟨m, s, rfl⟩ : ∃ m s, l = m ++ [s] := ⟨l.dropLast, l.getLast hne, (List.dropLast_concat_getLast hne).symm⟩
    rw [List.length_append, List.length_singleton] at h i1
    obtain ⟨hv1, hv2⟩ := hv.init
    have ih' := ih m (by omega) hv1
    by_cases e : i = m.length
    · rw [e, evs_new p0 p1, evs_new q0 q1]
      obtain ⟨k1, k2, k3, k4⟩ := hv2
      have two : ∀ a b : Int, 0 ≤ a → a < g.2.1 → 0 ≤ b → b < g.2.1 → R a b → s.1 = 2 → (∃ x ∈ g.2.2.1, x.1 = a ∧ x.2.1 = s.2.1 ∧ tE (evs g m) s.2.2.1 x.2.2.1) → ∃ x ∈ g.2.2.1, x.1 = b ∧ x.2.1 = s.2.1 ∧ tE (evs g m) s.2.2.1 x.2.2.1 := by
        rintro a b a0 a1 b0 b1 hab hs ⟨x, hx, x1, x2, x3⟩
        rw [if_pos (by omega)] at k2
        obtain ⟨y, hy, y1, y2, y3⟩ := (hR a b a0 a1 b0 b1 hab).1 x hx x1
        have bx := ok.x x hx
        have by' := ok.x y hy
        exact ⟨y, hy, y1, y2.trans x2, (ih' s.2.2.1 x.2.2.1 y.2.2.1 k2.1 k2.2 (by omega) (by omega) (by omega) (by omega) y3).1 x3⟩
      have hqp := (hR p q p0 p1 q0 q1 hpq).2
      unfold pv
      constructor
      · rintro (h | ⟨h, h2⟩ | ⟨h, h2⟩ | ⟨h, h2, h3⟩)
        · exact .inl h
        · rw [if_pos (by omega)] at k2
          exact .inr (.inl ⟨h, fun c => h2 ((ih' _ p q k2.1 k2.2 p0 p1 q0 q1 hpq).2 c)⟩)
        · exact .inr (.inr (.inl ⟨h, two p q p0 p1 q0 q1 hpq h h2⟩))
        · rw [if_pos (by omega)] at k2 k3
          exact .inr (.inr (.inr ⟨h, (ih' _ p q k2.1 k2.2 p0 p1 q0 q1 hpq).1 h2, (ih' _ p q k3.1 k3.2 p0 p1 q0 q1 hpq).1 h3⟩))
      · rintro (h | ⟨h, h2⟩ | ⟨h, h2⟩ | ⟨h, h2, h3⟩)
        · exact .inl h
        · rw [if_pos (by omega)] at k2
          exact .inr (.inl ⟨h, fun c => h2 ((ih' _ p q k2.1 k2.2 p0 p1 q0 q1 hpq).1 c)⟩)
        · exact .inr (.inr (.inl ⟨h, two q p q0 q1 p0 p1 hqp h h2⟩))
        · rw [if_pos (by omega)] at k2 k3
          exact .inr (.inr (.inr ⟨h, (ih' _ p q k2.1 k2.2 p0 p1 q0 q1 hpq).2 h2, (ih' _ p q k3.1 k3.2 p0 p1 q0 q1 hpq).2 h3⟩))
    · rw [evs_old i0 (by omega), evs_old i0 (by omega)]
      exact ih' i p q i0 (by omega) p0 p1 q0 q1 hpq
theorem Saying_spec (l : List Say) : ∃ e, r20_Saying l = some e ∧ (e = 0 ↔ (1 ≤ l.length ∧ l.length ≤ 3000) ∧ VS l) := by
  unfold r20_Saying
  by_cases c1 : (l.length : Int) < 1
  · rw [if_pos (decide_eq_true c1)]
    exact ⟨1, rfl, by simp; omega⟩
  rw [if_neg (by simpa using c1)]
  by_cases c2 : 3000 < (l.length : Int)
  · rw [if_pos (decide_eq_true c2)]
    exact ⟨1, rfl, by simp; omega⟩
  rw [if_neg (by simpa using c2)]
  have step : ∀ i : Int, 0 ≤ i → i < l.length → (VP (ix l i) i → r20_Saying_L4 l i = r20_Saying_L4 l (i + 1)) ∧ (¬ VP (ix l i) i → ∃ e, r20_Saying_L4 l i = some e ∧ ¬ e = 0) := by
    intro i i0 i1
    obtain ⟨s, es⟩ : ∃ s, ix l i = s := ⟨_, rfl⟩
    have e0 : ∀ X, r20_Saying_L4_B l (r20_Saying_L4 l) i = X → r20_Saying_L4 l i = X := fun X h => by rw [r20_Saying_L4_eq]; exact h
    rw [es]
    by_cases a1 : s.1 < 0
    · refine ⟨fun h => by unfold VP at h; omega, fun _ => ⟨3, e0 _ ?_, by decide⟩⟩
      unfold r20_Saying_L4_B
      rw [es, if_pos (decide_eq_true i1), G_pos (by omega), if_pos (decide_eq_true a1)]
    by_cases a2 : 3 < s.1
    · refine ⟨fun h => by unfold VP at h; omega, fun _ => ⟨3, e0 _ ?_, by decide⟩⟩
      unfold r20_Saying_L4_B
      rw [es, if_pos (decide_eq_true i1), G_pos (by omega), if_neg (by simpa using a1), if_pos (decide_eq_true a2)]
    have k17 : ∀ a b c : Int, ((0 ≤ s.2.2.1 ∧ s.2.2.1 < a) ∧ (0 ≤ s.2.2.2.1 ∧ s.2.2.2.1 < b) ∧ (0 ≤ s.2.1 ∧ s.2.1 < c) → r20_Saying_J17 l i (r20_Saying_L4 l) a b c = r20_Saying_L4 l (i + 1)) ∧ (¬ ((0 ≤ s.2.2.1 ∧ s.2.2.1 < a) ∧ (0 ≤ s.2.2.2.1 ∧ s.2.2.2.1 < b) ∧ (0 ≤ s.2.1 ∧ s.2.1 < c)) → ∃ e, r20_Saying_J17 l i (r20_Saying_L4 l) a b c = some e ∧ ¬ e = 0) := by
      intro a b c
      constructor
      · rintro ⟨h1, h2, h3⟩
        unfold r20_Saying_J17
        rw [es, if_neg (by simp only [decide_eq_true_eq]; omega), if_neg (by simp only [decide_eq_true_eq]; omega), if_neg (by simp only [decide_eq_true_eq]; omega), if_neg (by simp only [decide_eq_true_eq]; omega), if_neg (by simp only [decide_eq_true_eq]; omega), if_neg (by simp only [decide_eq_true_eq]; omega), G_pos (by unfold fits; omega)]
      · intro hn
        refine ⟨2, ?_, by decide⟩
        unfold r20_Saying_J17
        rw [es]
        (try dsimp only); (repeat' first | (with_reducible refine G_to ?_ ?_; focus (first | omega | (unfold fits; omega) | (unfold room; (try simp only [List.length_append, List.length_cons, List.length_nil]); omega))) | (with_reducible refine both_to ?_ ?_) | (with_reducible refine itet_to ?_) | (with_reducible refine itef_to ?_) | (with_reducible refine ite_to (fun _ => ?_) (fun _ => ?_))) <;> try (exfalso; omega)
        all_goals rfl
    have k4 : r20_Saying_L4 l i = r20_Saying_J17 l i (r20_Saying_L4 l) (if 0 < s.1 then i else 1) (if s.1 = 3 then i else 1) (if s.1 = 2 then 4 else 1) := by
      refine e0 _ ?_
      unfold r20_Saying_L4_B r20_Saying_J11 r20_Saying_J14
      rw [es, if_pos (decide_eq_true i1), G_pos (by omega), if_neg (by simpa using a1), if_neg (by simpa using a2)]
      by_cases b1 : 0 < s.1
      · rw [if_pos (decide_eq_true b1), if_pos b1]
        by_cases b2 : s.1 = 3
        · rw [if_pos (decide_eq_true b2), if_pos b2, if_neg (by simpa using (show ¬ s.1 = 2 by omega)), if_neg (show ¬ s.1 = 2 by omega)]
        · rw [if_neg (by simpa using b2), if_neg b2]
          by_cases b3 : s.1 = 2
          · rw [if_pos (decide_eq_true b3), if_pos b3]
          · rw [if_neg (by simpa using b3), if_neg b3]
      · rw [if_neg (by simpa using b1), if_neg b1, if_neg (by simpa using (show ¬ s.1 = 3 by omega)), if_neg (show ¬ s.1 = 3 by omega), if_neg (by simpa using (show ¬ s.1 = 2 by omega)), if_neg (show ¬ s.1 = 2 by omega)]
    rw [k4]
    obtain ⟨q1, q2⟩ := k17 (if 0 < s.1 then i else 1) (if s.1 = 3 then i else 1) (if s.1 = 2 then 4 else 1)
    refine ⟨fun h => q1 h.2, fun h => q2 (fun h' => h ⟨⟨by omega, by omega⟩, h'⟩)⟩
  by_cases hv : VS l
  · refine ⟨0, ?_, fun _ => ⟨by omega, hv⟩, fun _ => rfl⟩
    refine scan_to (len := l.length) (bad := fun _ => False) (by omega) (fun i i0 i1 => ⟨fun h => h.elim, fun _ => (step i i0 i1).1 (hv i i0 i1)⟩) (fun _ => ?_)
    rw [r20_Saying_L4_eq]; unfold r20_Saying_L4_B
    rw [if_neg (by simp)]
  · have key : ∀ (f : Nat) (i : Int), 0 ≤ i → i + f = l.length → (∃ j : Int, i ≤ j ∧ j < l.length ∧ ¬ VP (ix l j) j) → ∃ e, r20_Saying_L4 l i = some e ∧ ¬ e = 0 := by
      intro f
      induction f with
      | zero => intro i i0 hi ⟨j, j0, j1, _⟩; omega
      | succ f ih =>
        intro i i0 hi ⟨j, j0, j1, hj⟩
        by_cases c : VP (ix l i) i
        · rw [(step i i0 (by omega)).1 c]
          refine ih (i + 1) (by omega) (by omega) ⟨j, ?_, j1, hj⟩
          by_cases e : j = i
          · rw [e] at hj; exact absurd c hj
          · omega
        · exact (step i i0 (by omega)).2 c
    have : ∃ j : Int, 0 ≤ j ∧ j < l.length ∧ ¬ VP (ix l j) j := Classical.byContradiction fun hn => hv fun i i0 i1 => Classical.byContradiction fun h => hn ⟨i, i0, i1, h⟩
    obtain ⟨e, he, hne⟩ := key l.length 0 (by omega) (by omega) this
    exact ⟨e, he, fun h => absurd h hne, fun h => absurd h.2 hv⟩
theorem Holds_spec (ok : GrOk g) {l : List Say} (hv : VS l) (hl : 1 ≤ l.length ∧ l.length ≤ 3000) : r20_Holds g l = some (ix (evs g l) ((l.length : Int) - 1)) := by
  have hn := ok.n; have ha := ok.a
  have htk : ∀ i : Nat, i < l.length → l.take (i + 1) = l.take i ++ [ix l (i : Int)] := fun i hi => by
    rw [List.take_succ_eq_append_getElem hi, ix_eq (by omega) (by omega)]; rfl
  have key : ∀ (m i : Nat), i + m = l.length → r20_Holds_L3 g l i (evs g (l.take i)) = some (ix (evs g l) ((l.length : Int) - 1)) := by
    intro m
    induction m with
    | zero =>
      intro i hi
      have hel := evs_len (g := g) _ l rfl
      rw [List.take_of_length_le (by omega), r20_Holds_L3_eq]; unfold r20_Holds_L3_B
      rw [if_neg (by simp only [decide_eq_true_eq]; omega), G_pos (by unfold fits; omega), G_pos (by omega), G_pos (by omega), hel]
    | succ m ih =>
      intro i hi
      have ih' := ih (i + 1) (by omega)
      rw [htk i (by omega), evs_snoc] at ih'
      obtain ⟨all, eall⟩ : ∃ all, evs g (l.take i) = all := ⟨_, rfl⟩
      have hel : all.length = i := by rw [← eall]; exact evs_len _ _ (by rw [List.length_take]; omega)
      have hrow : ∀ k : Int, 0 ≤ k → k < i → ((ix all k).length : Int) = g.2.1 := by
        -- rows of the right size
        have : ∀ (j : Nat), j ≤ l.length → ∀ k : Int, 0 ≤ k → k < j → ((ix (evs g (l.take j)) k).length : Int) = g.2.1 := by
          intro j
          induction j with
          | zero => intro _ k k0 k1; omega
          | succ j ihj =>
            intro hj k k0 k1
            have hej := evs_len (g := g) _ (l.take j) rfl
            rw [List.length_take] at hej
            rw [htk j (by omega), evs_snoc]
            by_cases e : k = j
            · have : k = ((evs g (l.take j)).length : Int) := by omega
              rw [this, ix_append_last, rowOf_len]; omega
            · rw [ix_append_left k0 (by omega)]; exact ihj (by omega) k k0 (by omega)
        intro k k0 k1
        rw [← eall]; exact this i (by omega) k k0 k1
      rw [eall] at ih' ⊢
      obtain ⟨s, es⟩ : ∃ s, ix l (i : Int) = s := ⟨_, rfl⟩
      rw [es] at ih'
      obtain ⟨v1, v2, v3, v4⟩ := es ▸ hv i (by omega) (by omega)
      have hf : ∀ p : Int, 0 ≤ p → p < g.2.1 → fits (p + 1) := fun p p0 p1 => by unfold fits; omega
      -- the places
      have k8 : ∀ (f : Nat) (p : Int) (is : List Bool), 0 ≤ p → p + f = g.2.1 → (is.length : Int) = g.2.1 → (∀ r : Int, 0 ≤ r → r < g.2.1 → (ix is r = true ↔ r < p ∧ ¬ s.1 = 2 ∧ pv g all s r)) →
          ∃ is', r20_Holds_L8 g l i all (r20_Holds_L3 g l) p is = r20_Holds_L18 g l i all (r20_Holds_L3 g l) 0 is' ∧ (is'.length : Int) = g.2.1 ∧ ∀ r : Int, 0 ≤ r → r < g.2.1 → (ix is' r = true ↔ ¬ s.1 = 2 ∧ pv g all s r) := by
        intro f
        induction f with
        | zero =>
          intro p is p0 hp hs h
          refine ⟨is, ?_, hs, fun r r0 r1 => by rw [h r r0 r1]; exact ⟨fun h => h.2, fun h => ⟨by omega, h⟩⟩⟩
          rw [r20_Holds_L8_eq]; unfold r20_Holds_L8_B
          rw [if_neg (by simp only [decide_eq_true_eq]; omega)]
        | succ f ihf =>
          intro p is p0 hp hs h
          have hpf := hf p p0 (by omega)
          have set' : ∀ v : Bool, (v = true ↔ ¬ s.1 = 2 ∧ pv g all s p) → ∀ r : Int, 0 ≤ r → r < g.2.1 → (ix (is.set p.toNat v) r = true ↔ r < p + 1 ∧ ¬ s.1 = 2 ∧ pv g all s r) := by
            intro v hv r r0 r1
            by_cases e : p = r
            · subst e; rw [ix_set_same p0 (by omega), hv]; exact ⟨fun h => ⟨by omega, h⟩, fun h => h.2⟩
            · rw [ix_set_ne p0 r0 e, h r r0 r1]
              exact ⟨fun h => ⟨by omega, h.2⟩, fun h => ⟨by omega, h.2⟩⟩
          conv => arg 1; ext is'; lhs; lhs; rw [r20_Holds_L8_eq]; unfold r20_Holds_L8_B
          rw [es, if_pos (decide_eq_true (by omega))]
          by_cases c0 : s.1 = 0
          · rw [if_pos (decide_eq_true c0), G_pos (by omega), G_pos (by omega), G_pos hpf]
            exact ihf (p + 1) _ (by omega) (by omega) (by simpa using hs) (set' true ⟨fun _ => ⟨by omega, .inl c0⟩, fun _ => rfl⟩)
          rw [if_neg (by simpa using c0)]
          rw [if_pos (by omega)] at v2
          have hr2 := hrow s.2.2.1 v2.1 v2.2
          by_cases c1 : s.1 = 1
          · rw [if_pos (decide_eq_true c1), G_pos (by omega), G_pos (by omega), G_pos (by omega), G_pos (by omega), G_pos (by omega), G_pos hpf]
            refine ihf (p + 1) _ (by omega) (by omega) (by simpa using hs) (set' _ ?_)
            unfold pv tE
            rw [c1]; simp
          rw [if_neg (by simpa using c1)]
          by_cases c3 : s.1 = 3
          · rw [if_pos c3] at v3
            have hr3 := hrow s.2.2.2.1 v3.1 v3.2
            rw [if_pos (decide_eq_true c3), G_pos (by omega), G_pos (by omega), G_pos (by omega)]
            by_cases ca : ix (ix all s.2.2.1) p = true
            · rw [if_pos ca, G_pos (by omega), G_pos (by omega), G_pos (by omega), G_pos (by omega), G_pos (by omega), G_pos hpf]
              refine ihf (p + 1) _ (by omega) (by omega) (by simpa using hs) (set' _ ?_)
              unfold pv tE
              rw [c3]; simp [ca]
            · rw [if_neg ca, G_pos (by omega), G_pos (by omega), G_pos hpf]
              refine ihf (p + 1) _ (by omega) (by omega) (by simpa using hs) (set' _ ?_)
              unfold pv tE
              rw [c3]; simp [ca]
          · have c2 : s.1 = 2 := by omega
            rw [if_neg (by simpa using c3), G_pos hpf]
            refine ihf (p + 1) _ (by omega) (by omega) hs (fun r r0 r1 => ?_)
            rw [h r r0 r1]
            exact ⟨fun h => absurd c2 h.2.1, fun h => absurd c2 h.2.1⟩
      have k18 : ∀ (f : Nat) (k : Int) (is : List Bool), 0 ≤ k → k + f = g.2.2.1.length → (is.length : Int) = g.2.1 → (∀ r : Int, 0 ≤ r → r < g.2.1 → (ix is r = true ↔ (¬ s.1 = 2 ∧ pv g all s r) ∨ (s.1 = 2 ∧ ∃ j : Int, 0 ≤ j ∧ j < k ∧ (ix g.2.2.1 j).1 = r ∧ (ix g.2.2.1 j).2.1 = s.2.1 ∧ tE all s.2.2.1 (ix g.2.2.1 j).2.2.1))) →
          ∃ is', r20_Holds_L18 g l i all (r20_Holds_L3 g l) k is = r20_Holds_L3 g l (i + 1) (all ++ [is']) ∧ (is'.length : Int) = g.2.1 ∧ ∀ r : Int, 0 ≤ r → r < g.2.1 → (ix is' r = true ↔ pv g all s r) := by
        intro f
        induction f with
        | zero =>
          intro k is k0 hk hs h
          refine ⟨is, ?_, hs, fun r r0 r1 => ?_⟩
          · rw [r20_Holds_L18_eq]; unfold r20_Holds_L18_B
            rw [if_neg (by simp only [decide_eq_true_eq]; omega), G_pos (by unfold room; simp; omega), G_pos (by unfold fits; omega)]
          · rw [h r r0 r1]
            have hk' : k = g.2.2.1.length := by omega
            subst hk'
            have e2 := (ex_ix (l := g.2.2.1) (P := fun x : Arc => x.1 = r ∧ x.2.1 = s.2.1 ∧ tE all s.2.2.1 x.2.2.1))
            rw [← e2]
            constructor
            · rintro (h | ⟨h1, h2⟩)
              · exact h.2
              · exact .inr (.inr (.inl ⟨h1, h2⟩))
            · intro h
              by_cases c2 : s.1 = 2
              · right
                refine ⟨c2, ?_⟩
                rcases h with h | ⟨h, _⟩ | ⟨_, h⟩ | ⟨h, _⟩
                · omega
                · omega
                · exact h
                · omega
              · exact .inl ⟨c2, h⟩
        | succ f ihf =>
          intro k is k0 hk hs h
          have hxk := ok.x _ (ix_mem k0 (by omega : k < g.2.2.1.length))
          have hkf : fits (k + 1) := by unfold fits; omega
          have hJ : ∀ v : Bool, r20_Holds_J21 g k is (r20_Holds_L18 g l i all (r20_Holds_L3 g l)) v = r20_Holds_L18 g l i all (r20_Holds_L3 g l) (k + 1) (if v = true then is.set (ix g.2.2.1 k).1.toNat true else is) := by
            intro v
            unfold r20_Holds_J21
            cases v with
            | true => rw [if_pos rfl, if_pos rfl, G_pos (by omega), G_pos (by omega), G_pos hkf]
            | false => rw [if_neg (by decide), if_neg (by decide), G_pos hkf]
          have skip : ¬ (s.1 = 2 ∧ (ix g.2.2.1 k).2.1 = s.2.1 ∧ tE all s.2.2.1 (ix g.2.2.1 k).2.2.1) → ∀ r : Int, 0 ≤ r → r < g.2.1 → (ix is r = true ↔ (¬ s.1 = 2 ∧ pv g all s r) ∨ (s.1 = 2 ∧ ∃ j : Int, 0 ≤ j ∧ j < k + 1 ∧ (ix g.2.2.1 j).1 = r ∧ (ix g.2.2.1 j).2.1 = s.2.1 ∧ tE all s.2.2.1 (ix g.2.2.1 j).2.2.1)) := by
            intro hn r r0 r1
            rw [h r r0 r1]
            refine or_congr Iff.rfl (and_congr_right fun hs2 => ⟨fun ⟨j, j0, j1, hj⟩ => ⟨j, j0, by omega, hj⟩, fun ⟨j, j0, j1, hj⟩ => ⟨j, j0, ?_, hj⟩⟩)
            by_cases e : j = k
            · rw [e] at hj; exact absurd ⟨hs2, hj.2⟩ hn
            · omega
          conv => arg 1; ext is'; lhs; lhs; rw [r20_Holds_L18_eq]; unfold r20_Holds_L18_B
          rw [es, if_pos (decide_eq_true (by omega)), G_pos (by omega)]
          by_cases c2 : s.1 = 2
          · rw [if_pos (by omega)] at v2
            have hr2 := hrow s.2.2.1 v2.1 v2.2
            rw [if_pos (decide_eq_true c2)]
            by_cases cl : (ix g.2.2.1 k).2.1 = s.2.1
            · rw [if_pos (decide_eq_true cl), G_pos (by omega), G_pos (by omega), G_pos (by omega), hJ]
              by_cases ct : ix (ix all s.2.2.1) (ix g.2.2.1 k).2.2.1 = true
              · rw [if_pos ct]
                refine ihf (k + 1) _ (by omega) (by omega) (by simpa using hs) (fun r r0 r1 => ?_)
                by_cases e : (ix g.2.2.1 k).1 = r
                · rw [e, ix_set_same r0 (by omega)]
                  exact ⟨fun _ => .inr ⟨c2, k, k0, by omega, e, cl, ct⟩, fun _ => rfl⟩
                · rw [ix_set_ne hxk.1 r0 e, h r r0 r1]
                  refine or_congr Iff.rfl (and_congr_right fun hs2 => ⟨fun ⟨j, j0, j1, hj⟩ => ⟨j, j0, by omega, hj⟩, fun ⟨j, j0, j1, hj⟩ => ⟨j, j0, ?_, hj⟩⟩)
                  by_cases e2 : j = k
                  · rw [e2] at hj; exact absurd hj.1 e
                  · omega
              · rw [if_neg ct]
                exact ihf (k + 1) _ (by omega) (by omega) hs (skip (fun h => ct h.2.2))
            · rw [if_neg (by simpa using cl), hJ, if_neg (by decide)]
              exact ihf (k + 1) _ (by omega) (by omega) hs (skip (fun h => cl h.2.1))
          · rw [if_neg (by simpa using c2), hJ, if_neg (by decide)]
            exact ihf (k + 1) _ (by omega) (by omega) hs (skip (fun h => c2 h.1))
      obtain ⟨is1, e8, l1, h1⟩ := k8 g.2.1.toNat 0 (List.replicate g.2.1.toNat false) (by omega) (by omega) (by simp; omega) (fun r r0 r1 => by
        rw [ix_eq r0 (by rw [List.length_replicate]; omega), List.getElem_replicate]
        exact ⟨fun h => (by cases h), fun h => by omega⟩)
      obtain ⟨is2, e18, l2, h2⟩ := k18 g.2.2.1.length 0 is1 (by omega) (by omega) l1 (fun r r0 r1 => by
        rw [h1 r r0 r1]
        exact ⟨.inl, fun h => h.elim id (fun ⟨_, j, j0, j1, _⟩ => by omega)⟩)
      rw [r20_Holds_L3_eq]; unfold r20_Holds_L3_B
      rw [if_pos (decide_eq_true (by omega)), G_pos (by omega), G_pos (by unfold mkOK; omega), e8, e18]
      rw [row_ext (n := g.2.1.toNat) (P := pv g all s) (by omega) (fun p p0 p1 => h2 p p0 (by omega))]
      exact ih'
  have := key l.length 0 (by omega)
  unfold r20_Holds
  exact this
end

theorem VP0 {i : Int} : VP ((0 : Int), (0 : Int), (0 : Int), (0 : Int), ()) i := by
  unfold VP; dsimp only
  rw [if_neg (by decide), if_neg (by decide), if_neg (by decide)]; omega
theorem VP1 {k i : Int} (h : 0 ≤ k ∧ k < i) : VP ((1 : Int), (0 : Int), k, (0 : Int), ()) i := by
  unfold VP; dsimp only
  rw [if_pos (by decide), if_neg (by decide), if_neg (by decide)]; omega
theorem VP2 {k i x : Int} (h : 0 ≤ k ∧ k < i) (hx : 0 ≤ x ∧ x < 4) : VP ((2 : Int), x, k, (0 : Int), ()) i := by
  unfold VP; dsimp only
  rw [if_pos (by decide), if_neg (by decide), if_pos (by decide)]; omega
theorem VP3 {k m i : Int} (h : 0 ≤ k ∧ k < i) (hm : 0 ≤ m ∧ m < i) : VP ((3 : Int), (0 : Int), k, m, ()) i := by
  unfold VP; dsimp only
  rw [if_pos (by decide), if_pos (by decide), if_neg (by decide)]; omega
section
variable {g : Gr}
abbrev Ky := Int × Int × Unit
/-- The first round in which two are apart. -/
def First (L : List (List Int)) (p q r : Int) : Prop := 0 ≤ r ∧ r < L.length ∧ ¬ cE (ix L r) p q ∧ ∀ j : Int, 0 ≤ j → j < r → cE (ix L j) p q
theorem First.one {L : List (List Int)} {p q r s : Int} (h : First L p q r) (k : First L p q s) : r = s := by
  rcases Int.lt_trichotomy r s with e | e | e
  · exact absurd (k.2.2.2 r h.1 e) h.2.2.1
  · exact e
  · exact absurd (h.2.2.2 s k.1 e) k.2.2.1
theorem First.symm {L : List (List Int)} {p q r : Int} (h : First L p q r) : First L q p r := ⟨h.1, h.2.1, fun e => h.2.2.1 (Eq.symm e), fun j j0 j1 => Eq.symm (h.2.2.2 j j0 j1)⟩
theorem First.of {L : List (List Int)} {p q : Int} : ∀ (m : Nat), (m : Int) < L.length → ¬ cE (ix L (m : Int)) p q → ∃ r, First L p q r ∧ r ≤ m := by
  intro m
  induction m using Nat.strongRecOn with
  | ind m ih =>
    intro hm hn
    by_cases c : ∃ j : Nat, j < m ∧ ¬ cE (ix L (j : Int)) p q
    · obtain ⟨j, hj, hc⟩ := c
      obtain ⟨r, h, hr⟩ := ih j hj (by omega) hc
      exact ⟨r, h, by omega⟩
    · refine ⟨m, ⟨by omega, hm, hn, fun j j0 j1 => Classical.byContradiction fun h => c ⟨j.toNat, by omega, ?_⟩⟩, Int.le_refl _⟩
      rw [show ((j.toNat : Nat) : Int) = j by omega]; exact h
open Classical in
noncomputable def msr (g : Gr) (L : List (List Int)) (p q r : Int) : Int := 2 * r + (if Ans g (cE (ix L (r - 1))) p q then 1 else 0)
def Ms (g : Gr) (L : List (List Int)) (p q m : Int) : Prop := ∃ r, First L p q r ∧ m = msr g L p q r
theorem Ms.one {L : List (List Int)} {p q m k : Int} (h : Ms g L p q m) (h' : Ms g L p q k) : m = k := by
  obtain ⟨r, h1, h2⟩ := h
  obtain ⟨s, h3, h4⟩ := h'
  rw [h2, h4, h1.one h3]
/-- What a pair costs. -/
def cost (g : Gr) (k : Ky) : Nat := 2 + (g.2.2.1.filter (fun x => decide (x.1 = k.2.1))).length
def wt (g : Gr) (kk : List Ky) : Nat := (kk.map (cost g)).sum
theorem wt_snoc (kk : List Ky) (k : Ky) : wt g (kk ++ [k]) = wt g kk + cost g k := by unfold wt; simp
theorem sum_sub {α : Type} {w : α → Nat} : ∀ {l U : List α}, l.Nodup → (∀ x ∈ l, x ∈ U) → (l.map w).sum ≤ (U.map w).sum
  | [], _, _, _ => Nat.zero_le _
  | a :: l, U, hn, hs => by
    obtain ⟨h1, h2⟩ := List.nodup_cons.1 hn
    obtain ⟨A, B, rfl⟩ := List.append_of_mem (hs a (List.mem_cons_self ..))
    have := sum_sub (w := w) (l := l) (U := A ++ B) h2 (fun x hx => by
      have := hs x (List.mem_cons_of_mem _ hx)
      rw [List.mem_append, List.mem_cons] at this
      rcases this with h | rfl | h
      · exact List.mem_append.2 (.inl h)
      · exact absurd hx h1
      · exact List.mem_append.2 (.inr h))
    simp only [List.map_cons, List.map_append, List.sum_cons, List.sum_append] at this ⊢
    omega
theorem out_sum (A : List Arc) : ∀ N : Nat, ((List.range N).map (fun q : Nat => (A.filter (fun x => decide (x.1 = (q : Int)))).length)).sum ≤ A.length := by
  intro N
  have : ((List.range N).map (fun q : Nat => (A.filter (fun x => decide (x.1 = (q : Int)))).length)).sum ≤ (A.filter (fun x => decide (x.1 < (N : Int)))).length := by
    induction N with
    | zero => simp
    | succ N ih =>
      rw [List.range_succ, List.map_append, List.sum_append]
      simp only [List.map_cons, List.map_nil, List.sum_cons, List.sum_nil, Nat.add_zero]
      refine Nat.le_trans (Nat.add_le_add_right ih _) ?_
      have key : ∀ B : List Arc, (B.filter (fun x => decide (x.1 < (N : Int)))).length + (B.filter (fun x => decide (x.1 = (N : Int)))).length ≤ (B.filter (fun x => decide (x.1 < ((N + 1 : Nat) : Int)))).length := by
        intro B
        induction B with
        | nil => simp
        | cons b B ihB =>
          simp only [List.filter_cons]
          by_cases c1 : b.1 < (N : Int)
          · rw [if_pos (decide_eq_true c1), if_neg (by simp only [decide_eq_true_eq]; omega), if_pos (by simp only [decide_eq_true_eq]; omega)]
            simp only [List.length_cons]; omega
          · rw [if_neg (by simpa using c1)]
            by_cases c2 : b.1 = (N : Int)
            · rw [if_pos (decide_eq_true c2), if_pos (by simp only [decide_eq_true_eq]; omega)]
              simp only [List.length_cons]; omega
            · rw [if_neg (by simpa using c2), if_neg (by simp only [decide_eq_true_eq]; omega)]
              exact ihB
      exact key A
  exact Nat.le_trans this (List.length_filter_le _ _)
def allK (N : Nat) : List Ky := (List.range N).flatMap (fun p : Nat => (List.range N).map (fun q : Nat => ((p : Int), (q : Int), ())))
theorem wt_le (ok : GrOk g) {kk : List Ky} (hn : kk.Nodup) (hr : ∀ k ∈ kk, (0 ≤ k.1 ∧ k.1 < g.2.1) ∧ (0 ≤ k.2.1 ∧ k.2.1 < g.2.1)) : wt g kk ≤ 1008 := by
  have hb := ok.n; have ha := ok.a
  have h1 : wt g kk ≤ ((allK 12).map (cost g)).sum := sum_sub hn fun k hk => by
    obtain ⟨⟨a, b⟩, c, d⟩ := hr k hk
    unfold allK
    rw [List.mem_flatMap]
    refine ⟨k.1.toNat, List.mem_range.2 (by omega), List.mem_map.2 ⟨k.2.1.toNat, List.mem_range.2 (by omega), ?_⟩⟩
    obtain ⟨k1, k2, u⟩ := k
    dsimp only at a b c d ⊢
    rw [show ((k1.toNat : Nat) : Int) = k1 by omega, show ((k2.toNat : Nat) : Int) = k2 by omega]
  have h2 : ∀ N : Nat, (((List.range N).flatMap (fun p : Nat => (List.range 12).map (fun q : Nat => (((p : Int), (q : Int), ()) : Ky)))).map (cost g)).sum ≤ N * 84 := by
    intro N
    induction N with
    | zero => simp
    | succ N ih =>
      rw [List.range_succ (n := N), List.flatMap_append, List.map_append, List.sum_append]
      have : ((([N] : List Nat).flatMap (fun p : Nat => (List.range 12).map (fun q : Nat => (((p : Int), (q : Int), ()) : Ky)))).map (cost g)).sum ≤ 84 := by
        rw [List.flatMap_singleton, List.map_map]
        have e : ((List.range 12).map ((cost g) ∘ (fun q : Nat => (((N : Int), (q : Int), ()) : Ky)))).sum = 24 + ((List.range 12).map (fun q : Nat => (g.2.2.1.filter (fun x => decide (x.1 = (q : Int)))).length)).sum := by
          have : ∀ l : List Nat, (l.map ((cost g) ∘ (fun q : Nat => (((N : Int), (q : Int), ()) : Ky)))).sum = 2 * l.length + (l.map (fun q : Nat => (g.2.2.1.filter (fun x => decide (x.1 = (q : Int)))).length)).sum := by
            intro l
            induction l with
            | nil => rfl
            | cons a l ih =>
              simp only [List.map_cons, List.sum_cons, List.length_cons, ih]
              dsimp only [Function.comp, cost]
              omega
          rw [this, List.length_range]
        rw [e]
        have := out_sum g.2.2.1 12
        omega
      omega
  have := h2 12
  unfold allK at h1
  omega
/-- What the teller knows. -/
structure SI (g : Gr) (L : List (List Int)) (l : List Say) (kk : List Ky) (kv : List Int) : Prop where
  vs : VS l
  len : kv.length = kk.length
  nd : kk.Nodup
  rng : ∀ k ∈ kk, (0 ≤ k.1 ∧ k.1 < g.2.1) ∧ (0 ≤ k.2.1 ∧ k.2.1 < g.2.1)
  val : ∀ j : Nat, j < kk.length → 0 ≤ ix kv (j : Int) ∧ ix kv (j : Int) < l.length ∧ tE (evs g l) (ix kv (j : Int)) (ix kk (j : Int)).1 ∧ ¬ tE (evs g l) (ix kv (j : Int)) (ix kk (j : Int)).2.1
theorem SI.snoc {L : List (List Int)} {l : List Say} {kk : List Ky} {kv : List Int} (h : SI g L l kk kv) {s : Say} (hs : VP s l.length) : SI g L (l ++ [s]) kk kv := by
  refine ⟨h.vs.snoc hs, h.len, h.nd, h.rng, fun j hj => ?_⟩
  obtain ⟨h1, h2, h3, h4⟩ := h.val j hj
  rw [evs_old h1 h2, evs_old h1 h2, List.length_append, List.length_singleton]
  exact ⟨h1, by omega, h3, h4⟩
theorem SI.put {L : List (List Int)} {l : List Say} {kk : List Ky} {kv : List Int} (h : SI g L l kk kv) {p q k : Int} (hn : (p, q, ()) ∉ kk) (hp : 0 ≤ p ∧ p < g.2.1) (hq : 0 ≤ q ∧ q < g.2.1) (hk : 0 ≤ k ∧ k < l.length) (ht : tE (evs g l) k p) (hf : ¬ tE (evs g l) k q) :
    SI g L l (mputK kk (p, q, ())) (mputV kk kv (p, q, ()) k) ∧ mputK kk (p, q, ()) = kk ++ [(p, q, ())] := by
  have e1 : mputK kk (p, q, ()) = kk ++ [(p, q, ())] := mputK_new hn
  have e2 : mputV kk kv (p, q, ()) k = kv ++ [k] := by unfold mputV; rw [mfind_none.2 hn]
  rw [e1, e2]
  refine ⟨⟨h.vs, by simp [h.len], ?_, fun x hx => ?_, fun j hj => ?_⟩, rfl⟩
  · rw [List.nodup_append]
    exact ⟨h.nd, by simp, fun a ha b hb => by rw [List.mem_singleton] at hb; subst hb; exact fun e => hn (e ▸ ha)⟩
  · rcases List.mem_append.1 hx with hx | hx
    · exact h.rng x hx
    · rw [List.mem_singleton.1 hx]; exact ⟨hp, hq⟩
  · rw [List.length_append, List.length_singleton] at hj
    have hlen := h.len
    by_cases e : j = kk.length
    · subst e
      have ea : ix (kv ++ [k]) (kk.length : Int) = k := by rw [← hlen, ix_append_last]
      have eb : ix (kk ++ [((p, q, ()) : Ky)]) (kk.length : Int) = (p, q, ()) := ix_append_last
      rw [ea, eb]
      exact ⟨hk.1, hk.2, ht, hf⟩
    · rw [ix_append_left (by omega) (by omega), ix_append_left (by omega) (by omega)]
      exact h.val j (by omega)
/-- What a call of the teller leaves behind. -/
structure TO (g : Gr) (L : List (List Int)) (l : List Say) (kk : List Ky) (m : Int) (l' : List Say) (kk' : List Ky) (kv' : List Int) : Prop where
  si : SI g L l' kk' kv'
  pre : ∃ z, l' = l ++ z
  keys : ∀ k ∈ kk', k ∈ kk ∨ ∃ m', Ms g L k.1 k.2.1 m' ∧ m' ≤ m
  sz : l'.length + wt g kk ≤ l.length + wt g kk'
theorem evs_pre {l z : List Say} {i p : Int} (i0 : 0 ≤ i) (i1 : i < l.length) : tE (evs g (l ++ z)) i p ↔ tE (evs g l) i p := by
  have : ∀ (f : Nat) (z : List Say), z.length = f → (tE (evs g (l ++ z)) i p ↔ tE (evs g l) i p) := by
    intro f
    induction f with
    | zero => intro z hz; rw [List.length_eq_zero_iff.1 hz, List.append_nil]
    | succ f ih =>
      intro z hz
      have hne : z ≠ [] := fun e => by rw [e] at hz; simp at hz
      rw [← List.dropLast_concat_getLast hne, ← List.append_assoc, evs_old i0 (by rw [List.length_append]; omega)]
      exact ih _ (by rw [List.length_dropLast]; omega)
  exact this _ z rfl
theorem tell2_tells {c : List Int} {a b : Int} (a0 : 0 ≤ a) (a1 : a < c.length) (b0 : 0 ≤ b) (b1 : b < c.length) : Tells (same_teller_tell_2 a b c) (cE c a b) := by
  unfold same_teller_tell_2
  rw [G_pos ⟨a0, a1⟩, G_pos ⟨b0, b1⟩]; exact Tells.dec Iff.rfl
theorem f2c_tells (ok : GrOk g) {c : List Int} (hc : (c.length : Int) = g.2.1) {q : Int} {x : Arc} (hx : x ∈ g.2.2.1) : ∃ b, slices_ContainsFunc_2 g.2.2.1 q x c = some (b, c) ∧ (b = true ↔ ∃ y ∈ g.2.2.1, y.1 = q ∧ y.2.1 = x.2.1 ∧ cE c x.2.2.1 y.2.2.1) := by
  have ha := ok.a
  refine contains_tells2 (f := fun y c => same_answered_1_1 y q x c) (P := fun y => y.1 = q ∧ y.2.1 = x.2.1 ∧ cE c x.2.2.1 y.2.2.1) (L := fun t c => slices_IndexFunc_5_L2 g.2.2.1 q x t c) (fun t c => slices_IndexFunc_5_L2_eq g.2.2.1 q x t c) (by omega) (fun y hy => ?_)
  have h1 := ok.x x hx
  have h2 := ok.x y hy
  show ∃ b, same_answered_1_1 y q x c = some (b, c) ∧ _
  unfold same_answered_1_1
  by_cases c1 : y.1 = q
  · rw [if_pos (decide_eq_true c1)]
    by_cases c2 : y.2.1 = x.2.1
    · rw [if_pos (decide_eq_true c2)]
      obtain ⟨b, e, hb⟩ := tell2_tells (c := c) (a := x.2.2.1) (b := y.2.2.1) (by omega) (by omega) (by omega) (by omega)
      exact ⟨b, bind_to e rfl, by rw [hb]; exact ⟨fun h => ⟨c1, c2, h⟩, fun h => h.2.2⟩⟩
    · rw [if_neg (by simpa using c2)]; exact ⟨false, rfl, fun h => (by cases h), fun h => absurd h.2.1 c2⟩
  · rw [if_neg (by simpa using c1)]; exact ⟨false, rfl, fun h => (by cases h), fun h => absurd h.1 c1⟩
theorem answered2_tells (ok : GrOk g) {c : List Int} (hc : (c.length : Int) = g.2.1) {p q : Int} : Tells (same_answered_2 g p q c) (Ans g (cE c) p q) := by
  have ha := ok.a
  refine answered_of (C := List Int) (c := c) (A := fun t => same_answered_2_L2 g p q t c) (F := fun x c => slices_ContainsFunc_2 g.2.2.1 q x c) ha (fun x hx => f2c_tells ok hc hx) (fun t t0 t1 => ?_) ?_
  · show same_answered_2_L2 g p q t c = if _ then (slices_ContainsFunc_2 g.2.2.1 q (ix g.2.2.1 t) c).bind _ else same_answered_2_L2 g p q (t + 1) c
    conv => lhs; rw [same_answered_2_L2_eq]; unfold same_answered_2_L2_B
    rw [if_pos (decide_eq_true t1), G_pos (by omega)]
    have hf : fits (t + 1) := by unfold fits; omega
    by_cases c1 : (ix g.2.2.1 t).1 = p
    · rw [if_pos (decide_eq_true c1), if_pos c1]
      obtain ⟨b, e, hb⟩ := f2c_tells (q := q) ok hc (ix_mem t0 t1)
      have e' : slices_ContainsFunc_2 g.2.2.1 q ((ix g.2.2.1 t).1, ((ix g.2.2.1 t).2.1, ((ix g.2.2.1 t).2.2.1, ()))) c = some (b, c) := e
      rw [e']
      simp only [Option.bind_some, G_pos hf]
    · rw [if_neg (by simpa using c1), if_neg c1, G_pos hf]
  · show same_answered_2_L2 g p q g.2.2.1.length c = _
    rw [same_answered_2_L2_eq]; unfold same_answered_2_L2_B
    rw [if_neg (by simp)]
theorem f3c_tells (ok : GrOk g) {c : List Int} (hc : (c.length : Int) = g.2.1) {q : Int} {x : Arc} (hx : x ∈ g.2.2.1) : ∃ b, slices_ContainsFunc_3 g.2.2.1 q x c = some (b, c) ∧ (b = true ↔ ∃ y ∈ g.2.2.1, y.1 = q ∧ y.2.1 = x.2.1 ∧ cE c x.2.2.1 y.2.2.1) := by
  have ha := ok.a
  refine contains_tells2 (f := fun y c => same_teller_tell_3_1 y q x c) (P := fun y => y.1 = q ∧ y.2.1 = x.2.1 ∧ cE c x.2.2.1 y.2.2.1) (L := fun t c => slices_IndexFunc_7_L2 g.2.2.1 q x t c) (fun t c => slices_IndexFunc_7_L2_eq g.2.2.1 q x t c) (by omega) (fun y hy => ?_)
  have h1 := ok.x x hx
  have h2 := ok.x y hy
  show ∃ b, same_teller_tell_3_1 y q x c = some (b, c) ∧ _
  unfold same_teller_tell_3_1
  by_cases c1 : y.1 = q
  · rw [if_pos (decide_eq_true c1)]
    by_cases c2 : y.2.1 = x.2.1
    · rw [if_pos (decide_eq_true c2)]
      obtain ⟨b, e, hb⟩ := tell2_tells (c := c) (a := x.2.2.1) (b := y.2.2.1) (by omega) (by omega) (by omega) (by omega)
      exact ⟨b, bind_to e rfl, by rw [hb]; exact ⟨fun h => ⟨c1, c2, h⟩, fun h => h.2.2⟩⟩
    · rw [if_neg (by simpa using c2)]; exact ⟨false, rfl, fun h => (by cases h), fun h => absurd h.2.1 c2⟩
  · rw [if_neg (by simpa using c1)]; exact ⟨false, rfl, fun h => (by cases h), fun h => absurd h.1 c1⟩
theorem unanswered_spec (ok : GrOk g) {c : List Int} (hc : (c.length : Int) = g.2.1) {p q : Int} (hn : ¬ Ans g (cE c) p q) {L : List (List Int)} {l : List Say} {kk : List Ky} {kv : List Int} :
    ∃ i, slices_IndexFunc_8 g.2.2.1 p q c g.1 g.2.1 g.2.2.1 L l kk kv = some (i, c, g.1, g.2.1, g.2.2.1, L, l, kk, kv) ∧ 0 ≤ i ∧ i < g.2.2.1.length ∧ (ix g.2.2.1 i).1 = p ∧ ¬ ∃ y ∈ g.2.2.1, y.1 = q ∧ y.2.1 = (ix g.2.2.1 i).2.1 ∧ cE c (ix g.2.2.1 i).2.2.1 y.2.2.1 := by
  have ha := ok.a
  have hex : ∃ x ∈ g.2.2.1, x.1 = p ∧ ¬ ∃ y ∈ g.2.2.1, y.1 = q ∧ y.2.1 = x.2.1 ∧ cE c x.2.2.1 y.2.2.1 := Classical.byContradiction fun h => hn fun x hx hp => Classical.byContradiction fun h' => h ⟨x, hx, hp, h'⟩
  obtain ⟨i0, i00, i01, hi0⟩ := (ex_ix (P := fun x : Arc => x.1 = p ∧ ¬ ∃ y ∈ g.2.2.1, y.1 = q ∧ y.2.1 = x.2.1 ∧ cE c x.2.2.1 y.2.2.1)).1 hex
  have key : ∀ (m : Nat) (t : Int), 0 ≤ t → t + m = g.2.2.1.length → t ≤ i0 → ∃ i, slices_IndexFunc_8_L2 g.2.2.1 p q t c g.1 g.2.1 g.2.2.1 L l kk kv = some (i, c, g.1, g.2.1, g.2.2.1, L, l, kk, kv) ∧ 0 ≤ i ∧ i < g.2.2.1.length ∧ (ix g.2.2.1 i).1 = p ∧ ¬ ∃ y ∈ g.2.2.1, y.1 = q ∧ y.2.1 = (ix g.2.2.1 i).2.1 ∧ cE c (ix g.2.2.1 i).2.2.1 y.2.2.1 := by
    intro m
    induction m with
    | zero => intro t t0 ht hti; omega
    | succ m ih =>
      intro t t0 ht hti
      have hf : fits (t + 1) := by unfold fits; omega
      have next : ¬ ((ix g.2.2.1 t).1 = p ∧ ¬ ∃ y ∈ g.2.2.1, y.1 = q ∧ y.2.1 = (ix g.2.2.1 t).2.1 ∧ cE c (ix g.2.2.1 t).2.2.1 y.2.2.1) → t + 1 ≤ i0 := fun h => by
        by_cases e : t = i0
        · rw [e] at h; exact absurd hi0 h
        · omega
      conv => arg 1; ext i; lhs; lhs; rw [slices_IndexFunc_8_L2_eq]; unfold slices_IndexFunc_8_L2_B same_teller_tell_3_2
      rw [if_pos (decide_eq_true (by omega)), G_pos (by omega)]
      by_cases c1 : (ix g.2.2.1 t).1 = p
      · rw [if_pos (decide_eq_true c1)]
        obtain ⟨b, e, hb⟩ := f3c_tells (q := q) ok hc (ix_mem t0 (by omega : t < g.2.2.1.length))
        have e' : slices_ContainsFunc_3 g.2.2.1 q ((ix g.2.2.1 t).1, ((ix g.2.2.1 t).2.1, ((ix g.2.2.1 t).2.2.1, ()))) c = some (b, c) := e
        cases b with
        | true =>
          obtain ⟨i, e2, h2⟩ := ih (t + 1) (by omega) (by omega) (next (fun h => h.2 (hb.1 rfl)))
          refine ⟨i, ?_, h2⟩
          refine bind_to (bind_to e' rfl) ?_
          rw [if_neg (by simp), G_pos hf]; exact e2
        | false =>
          rw [e']
          exact ⟨t, rfl, t0, by omega, c1, fun h => by cases hb.2 h⟩
      · rw [if_neg (by simpa using c1)]
        obtain ⟨i, e2, h2⟩ := ih (t + 1) (by omega) (by omega) (next (fun h => c1 h.1))
        refine ⟨i, ?_, h2⟩
        refine bind_to rfl ?_
        rw [if_neg (by simp), G_pos hf]; exact e2
  exact key g.2.2.1.length 0 (by omega) (by omega) i00
theorem put1_spec {s : Say} {a b : Int} {A : List Arc} {L : List (List Int)} {l : List Say} {kk : List Ky} {kv : List Int} (hl : (l.length : Int) ≤ 1000000000) : same_teller_put_1 s a b A L l kk kv = some ((l.length : Int), a, b, A, L, l ++ [s], kk, kv) := by
  unfold same_teller_put_1
  rw [G_pos (by unfold room; simp; omega), G_pos (by unfold fits; simp; omega)]
  rw [show (((l ++ [(s.1, (s.2.1, (s.2.2.1, (s.2.2.2.1, ()))))]).length : Int) - 1) = (l.length : Int) by rw [List.length_append, List.length_singleton]; omega]
theorem first_apart {L : List (List Int)} (hR : Rds g L) {p q r : Int} (hp : 0 ≤ p ∧ p < g.2.1) (hq : 0 ≤ q ∧ q < g.2.1) (h : First L p q r) (hL : L.length ≤ 13) : slices_IndexFunc_4 L p q = some r := by
  obtain ⟨i, e, hi⟩ := index_loop (f := fun c => same_teller_tell_1 c p q) (P := fun c => ¬ cE c p q) (s := L) (by omega) (fun t => slices_IndexFunc_4_L2_eq L p q t) (fun c hc => by
    obtain ⟨k, k0, k1, rfl⟩ := ex_ix (P := fun y => y = c).1 ⟨c, hc, rfl⟩
    have := hR.len k k0 k1
    unfold same_teller_tell_1
    rw [G_pos (by omega), G_pos (by omega)]
    exact Tells.dec Iff.rfl) _ 0 (by omega) (by omega) rfl
  rcases hi with ⟨_, hi⟩ | ⟨i0, i1, i2, i3⟩
  · exact absurd h.2.2.1 (hi r h.1 h.2.1)
  · have hf : First L p q i := ⟨i0, i1, i2, fun j j0 j1 => Classical.byContradiction fun hn => i3 j j0 j1 hn⟩
    rw [h.one hf]; exact e
theorem mfind_ix' {kk : List Ky} {x : Ky} {j : Nat} (h : mfind kk x = some j) : ix kk (j : Int) = x := by
  have h1 := mfind_lt h
  have h2 := mfind_get h
  rw [List.getElem?_eq_getElem h1] at h2
  rw [ix_eq (l := kk) (by omega) (by omega)]
  simpa using h2
theorem tell_spec (ok : GrOk g) {L : List (List Int)} (hR : Rds g L) (hL : L.length ≤ 13) : ∀ (mm : Nat) (p q : Int) (l : List Say) (kk : List Ky) (kv : List Int), Ms g L p q mm → (0 ≤ p ∧ p < g.2.1) → (0 ≤ q ∧ q < g.2.1) → SI g L l kk kv → (l.length : Int) + 2000 * mm ≤ 1000000 →
    ∃ k l' kk' kv', same_teller_tell p q g.1 g.2.1 g.2.2.1 L l kk kv = some (k, g.1, g.2.1, g.2.2.1, L, l', kk', kv') ∧ TO g L l kk mm l' kk' kv' ∧ 0 ≤ k ∧ k < l'.length ∧ tE (evs g l') k p ∧ ¬ tE (evs g l') k q ∧ (l ≠ l' → k = (l'.length : Int) - 1) := by
  have hn := ok.n; have ha := ok.a
  intro mm
  induction mm using Nat.strongRecOn with
  | ind mm ih =>
    intro p q l kk kv hm hp hq h hl
    have e0 : ∀ X, same_teller_tell_B same_teller_tell p q g.1 g.2.1 g.2.2.1 L l kk kv = X → same_teller_tell p q g.1 g.2.1 g.2.2.1 L l kk kv = X := fun X h => by rw [same_teller_tell_eq]; exact h
    by_cases hin : (p, q, ()) ∈ kk
    · -- it is known
      obtain ⟨j, hj⟩ := mfind_mem hin
      have hjl := mfind_lt hj
      obtain ⟨v1, v2, v3, v4⟩ := h.val j hjl
      have hjx := mfind_ix' hj
      rw [hjx] at v3 v4
      have hget : mget kk kv (p, q, ()) 0 = ix kv (j : Int) := by
        unfold mget; rw [hj]
        rw [ix_eq (by omega) (by have := h.len; omega)]
        simp [List.getD_eq_getElem?_getD, List.getElem?_eq_getElem (by have := h.len; omega : j < kv.length)]
      refine ⟨ix kv (j : Int), l, kk, kv, e0 _ ?_, ⟨h, ⟨[], by simp⟩, fun k hk => .inl hk, Nat.le_refl _⟩, v1, v2, v3, v4, fun hne => absurd rfl hne⟩
      unfold same_teller_tell_B
      rw [if_pos (by unfold mhas; rw [hj]; rfl), hget]
    · have hhas : ¬ mhas kk (p, q, ()) = true := fun hh => by
        unfold mhas at hh; rw [mfind_none.2 hin] at hh; cases hh
      obtain ⟨r, hr, hmr⟩ := hm
      have hr1 : 1 ≤ r := by
        have hr0 := hr.1
        refine Classical.byContradiction fun hc => ?_
        have : r = 0 := by omega
        subst this
        exact hr.2.2.1 (by unfold cE; rw [hR.z p hp.1 hp.2, hR.z q hq.1 hq.2])
      have hrL := hr.2.1
      obtain ⟨c, ec⟩ : ∃ c, ix L (r - 1) = c := ⟨_, rfl⟩
      have hcl : (c.length : Int) = g.2.1 := by rw [← ec]; exact hR.len _ (by omega) (by omega)
      have hcpq : cE c p q := by rw [← ec]; exact hr.2.2.2 (r - 1) (by omega) (by omega)
      have hnf : ¬ Fin g c p q := fun hf => hr.2.2.1 (by
        have := (hR.s (r - 1) (by omega) (by omega) p q hp.1 hp.2 hq.1 hq.2).2 (by rw [ec]; exact hf)
        rwa [show r - 1 + 1 = r by omega] at this)
      have hap := first_apart hR hp hq hr hL
      obtain ⟨b, eb, hb⟩ := answered2_tells ok hcl (p := p) (q := q)
      unfold msr at hmr
      rw [ec] at hmr
      have hself : ∀ m', Ms g L p q m' → m' = mm := fun m' hm' => hm'.one ⟨r, hr, by unfold msr; rw [ec]; exact hmr⟩
      have hwk := fun (kk : List Ky) (kv : List Int) (l : List Say) (h : SI g L l kk kv) => wt_le ok h.nd h.rng
      cases b with
      | true =>
        -- the other way round
        have hA := hb.1 rfl
        rw [if_pos hA] at hmr
        have hA2 : ¬ Ans g (cE c) q p := fun h2 => hnf ⟨hcpq, hA, h2⟩
        have hm2 : Ms g L q p ((mm - 1 : Nat) : Int) := ⟨r, hr.symm, by unfold msr; rw [ec, if_neg hA2]; omega⟩
        obtain ⟨k, l1, kk1, kv1, e1, hT, k0, k1, kt, kf, _⟩ := ih (mm - 1) (by omega) q p l kk kv hm2 hq hp h (by omega)
        have hsz := hT.sz
        have hw1 := hwk _ _ _ hT.si
        have hnk : (p, q, ()) ∉ kk1 := fun hk => by
          rcases hT.keys _ hk with hk | ⟨m', hm', hle⟩
          · exact hin hk
          · have := hself m' hm'; omega
        have hVP : VP ((1 : Int), (0 : Int), k, (0 : Int), ()) l1.length := VP1 ⟨k0, k1⟩
        have hS1 := hT.si.snoc hVP
        have hpt : tE (evs g (l1 ++ [((1 : Int), (0 : Int), k, (0 : Int), ())])) l1.length p := (evs_new hp.1 hp.2).2 (.inr (.inl ⟨rfl, kf⟩))
        have hqf : ¬ tE (evs g (l1 ++ [((1 : Int), (0 : Int), k, (0 : Int), ())])) l1.length q := fun hh => by
          rcases (evs_new hq.1 hq.2).1 hh with h | ⟨_, h⟩ | ⟨h, _⟩ | ⟨h, _⟩
          · exact absurd (show (1 : Int) = 0 from h) (by decide)
          · exact h kt
          · exact absurd (show (1 : Int) = 2 from h) (by decide)
          · exact absurd (show (1 : Int) = 3 from h) (by decide)
        obtain ⟨hS2, eK⟩ := hS1.put hnk hp hq ⟨by omega, by rw [List.length_append, List.length_singleton]; omega⟩ hpt hqf
        obtain ⟨z, hz⟩ := hT.pre
        refine ⟨l1.length, _, _, _, e0 _ ?_, ⟨hS2, ⟨z ++ [((1 : Int), (0 : Int), k, (0 : Int), ())], by rw [hz, List.append_assoc]⟩, fun x hx => ?_, ?_⟩, by omega, by rw [List.length_append, List.length_singleton]; omega, hpt, hqf, fun _ => by rw [List.length_append, List.length_singleton]; omega⟩
        · unfold same_teller_tell_B
          have hfin : ((same_teller_tell q p g.1 g.2.1 g.2.2.1 L l kk kv).bind (fun y'_21 =>
            (same_teller_put_1 ((1 : Int), ((0 : Int), (y'_21.1, ((0 : Int), ())))) y'_21.2.1 y'_21.2.2.1 y'_21.2.2.2.1 y'_21.2.2.2.2.1 y'_21.2.2.2.2.2.1 y'_21.2.2.2.2.2.2.1 y'_21.2.2.2.2.2.2.2).bind (fun y'_20 =>
            some (y'_20.1, y'_20.2.1, y'_20.2.2.1, y'_20.2.2.2.1, y'_20.2.2.2.2.1, y'_20.2.2.2.2.2.1, mputK y'_20.2.2.2.2.2.2.1 (p, (q, ())), mputV y'_20.2.2.2.2.2.2.1 y'_20.2.2.2.2.2.2.2 (p, (q, ())) y'_20.1)))) = some ((l1.length : Int), g.1, g.2.1, g.2.2.1, L, l1 ++ [((1 : Int), (0 : Int), k, (0 : Int), ())], mputK kk1 (p, q, ()), mputV kk1 kv1 (p, q, ()) l1.length) := by
            refine bind_to e1 ?_
            refine bind_to (put1_spec (by dsimp only; omega)) rfl
          rw [if_neg hhas]
          refine bind_to hap ?_
          rw [G_pos (by unfold fits; omega), G_pos (by omega), ec]
          refine bind_to eb ?_
          rw [if_pos rfl]
          exact both_to hfin hfin
        · rw [eK] at hx
          rcases List.mem_append.1 hx with hx | hx
          · rcases hT.keys x hx with hx | ⟨m', hm', hle⟩
            · exact .inl hx
            · exact .inr ⟨m', hm', by omega⟩
          · rw [List.mem_singleton.1 hx]
            exact .inr ⟨mm, ⟨r, hr, by unfold msr; rw [ec, if_pos hA]; exact hmr⟩, Int.le_refl _⟩
        · rw [eK, wt_snoc, List.length_append, List.length_singleton]
          unfold cost; omega
      | false =>
        have hA : ¬ Ans g (cE c) p q := fun h2 => by cases hb.2 h2
        rw [if_neg hA] at hmr
        obtain ⟨i, ei, i0, i1, hxp, hxn⟩ := unanswered_spec (L := L) (l := l) (kk := kk) (kv := kv) ok hcl hA
        obtain ⟨x, ex⟩ : ∃ x, ix g.2.2.1 i = x := ⟨_, rfl⟩
        rw [ex] at hxp hxn
        have hxm : x ∈ g.2.2.1 := ex ▸ ix_mem i0 i1
        have hxr := ok.x x hxm
        -- what is so far told apart
        let J : Int → Int → List Say → List Ky → List Int → Prop := fun t all l2 kk2 kv2 => SI g L l2 kk2 kv2 ∧ (∃ z, l2 = l ++ z) ∧ (∀ k ∈ kk2, k ∈ kk ∨ ∃ m', Ms g L k.1 k.2.1 m' ∧ m' < mm) ∧ l2.length + wt g kk ≤ l.length + wt g kk2 + 1 + ((g.2.2.1.take t.toNat).filter (fun y => decide (y.1 = q))).length ∧ (0 ≤ all ∧ all < l2.length) ∧ tE (evs g l2) all x.2.2.1 ∧ ∀ j : Int, 0 ≤ j → j < t → (ix g.2.2.1 j).1 = q → (ix g.2.2.1 j).2.1 = x.2.1 → ¬ tE (evs g l2) all (ix g.2.2.1 j).2.2.1
        have k14 : ∀ (f : Nat) (t all : Int) (l2 : List Say) (kk2 : List Ky) (kv2 : List Int), 0 ≤ t → t + f = g.2.2.1.length → J t all l2 kk2 kv2 →
            ∃ all' l3 kk3 kv3, same_teller_tell_L14 same_teller_tell p q i g.2.2.1 g.2.2.1 all t g.1 g.2.1 g.2.2.1 L l2 kk2 kv2 = same_teller_tell_L14 same_teller_tell p q i g.2.2.1 g.2.2.1 all' g.2.2.1.length g.1 g.2.1 g.2.2.1 L l3 kk3 kv3 ∧ J g.2.2.1.length all' l3 kk3 kv3 := by
          intro f
          induction f with
          | zero =>
            intro t all l2 kk2 kv2 t0 ht hJ
            obtain rfl : t = g.2.2.1.length := by omega
            exact ⟨all, l2, kk2, kv2, rfl, hJ⟩
          | succ f ihf =>
            intro t all l2 kk2 kv2 t0 ht hJ
            obtain ⟨j1, ⟨z, hz⟩, j3, j4, j5, j6, j7⟩ := hJ
            have hym := ix_mem t0 (by omega : t < g.2.2.1.length)
            have hyr := ok.x _ hym
            obtain ⟨y, ey⟩ : ∃ y, ix g.2.2.1 t = y := ⟨_, rfl⟩
            rw [ey] at hym hyr
            have hft : fits (t + 1) := by unfold fits; omega
            have htl : t.toNat < g.2.2.1.length := by omega
            have hgt : g.2.2.1[t.toNat] = y := by rw [← ey, ix_eq t0 (by omega)]
            have htake : g.2.2.1.take (t + 1).toNat = g.2.2.1.take t.toNat ++ [y] := by
              rw [show (t + 1).toNat = t.toNat + 1 by omega, List.take_succ_eq_append_getElem htl, hgt]
            have hcle : ((g.2.2.1.take (t + 1).toNat).filter (fun y => decide (y.1 = q))).length ≤ 60 := Nat.le_trans (List.length_filter_le _ _) (by rw [List.length_take]; omega)
            have hcnt : ((g.2.2.1.take (t + 1).toNat).filter (fun y => decide (y.1 = q))).length = ((g.2.2.1.take t.toNat).filter (fun y => decide (y.1 = q))).length + (if y.1 = q then 1 else 0) := by
              rw [htake, List.filter_append, List.length_append]
              by_cases c : y.1 = q
              · rw [if_pos c, List.filter_cons_of_pos (by simpa using c)]; rfl
              · rw [if_neg c, List.filter_cons_of_neg (by simpa using c)]; rfl
            have hw2 := hwk _ _ _ j1
            have e14 : ∀ X, same_teller_tell_L14_B same_teller_tell p q i g.2.2.1 g.2.2.1 (same_teller_tell_L14 same_teller_tell p q i g.2.2.1 g.2.2.1) all t g.1 g.2.1 g.2.2.1 L l2 kk2 kv2 = X → same_teller_tell_L14 same_teller_tell p q i g.2.2.1 g.2.2.1 all t g.1 g.2.1 g.2.2.1 L l2 kk2 kv2 = X := fun X h => by rw [same_teller_tell_L14_eq]; exact h
            have hskip : same_teller_tell_J16 same_teller_tell i g.2.2.1 g.2.2.1 all t g.1 g.2.1 g.2.2.1 L l2 kk2 kv2 (same_teller_tell_L14 same_teller_tell p q i g.2.2.1 g.2.2.1) false = same_teller_tell_L14 same_teller_tell p q i g.2.2.1 g.2.2.1 all (t + 1) g.1 g.2.1 g.2.2.1 L l2 kk2 kv2 := by
              unfold same_teller_tell_J16 same_teller_tell_J17
              rw [if_neg (by decide), G_pos hft]
            have skip : ¬ (y.1 = q ∧ y.2.1 = x.2.1) → same_teller_tell_L14 same_teller_tell p q i g.2.2.1 g.2.2.1 all t g.1 g.2.1 g.2.2.1 L l2 kk2 kv2 = same_teller_tell_L14 same_teller_tell p q i g.2.2.1 g.2.2.1 all (t + 1) g.1 g.2.1 g.2.2.1 L l2 kk2 kv2 → ∃ all' l3 kk3 kv3, same_teller_tell_L14 same_teller_tell p q i g.2.2.1 g.2.2.1 all t g.1 g.2.1 g.2.2.1 L l2 kk2 kv2 = same_teller_tell_L14 same_teller_tell p q i g.2.2.1 g.2.2.1 all' g.2.2.1.length g.1 g.2.1 g.2.2.1 L l3 kk3 kv3 ∧ J g.2.2.1.length all' l3 kk3 kv3 := by
              intro hno e
              obtain ⟨a', l3, kk3, kv3, e', h'⟩ := ihf (t + 1) all l2 kk2 kv2 (by omega) (by omega) ⟨j1, ⟨z, hz⟩, j3, by omega, j5, j6, fun j j0 jt a b => by
                by_cases ejt : j = t
                · rw [ejt, ey] at a b; exact absurd ⟨a, b⟩ hno
                · exact j7 j j0 (by omega) a b⟩
              exact ⟨a', l3, kk3, kv3, e.trans e', h'⟩
            by_cases c1 : y.1 = q
            · by_cases c2 : y.2.1 = x.2.1
              · -- an arrow like it: its end is told apart
                have hnc : ¬ cE c x.2.2.1 y.2.2.1 := fun hh => hxn ⟨y, hym, c1, c2, hh⟩
                have hexr : ∃ r', First L x.2.2.1 y.2.2.1 r' ∧ r' ≤ ((r - 1).toNat : Nat) := First.of (r - 1).toNat (by omega) (by rw [show (((r - 1).toNat : Nat) : Int) = r - 1 by omega, ec]; exact hnc)
                obtain ⟨r', hr', hrr⟩ := hexr
                have hr0 := hr'.1
                obtain ⟨ms, hms⟩ : ∃ ms : Nat, (ms : Int) = msr g L x.2.2.1 y.2.2.1 r' := by
                  refine ⟨(msr g L x.2.2.1 y.2.2.1 r').toNat, ?_⟩
                  unfold msr; split <;> omega
                have hmlt : ms < mm := by
                  unfold msr at hms; split at hms <;> omega
                obtain ⟨k, l3, kk3, kv3, e3, hT, k0, k1, kt, kf, _⟩ := ih ms hmlt x.2.2.1 y.2.2.1 l2 kk2 kv2 ⟨r', hr', hms⟩ ⟨by omega, by omega⟩ ⟨by omega, by omega⟩ j1 (by omega)
                have hsz := hT.sz
                have hw3 := hwk _ _ _ hT.si
                obtain ⟨z3, hz3⟩ := hT.pre
                have hall3 : all < l3.length := by rw [hz3, List.length_append]; omega
                have holdt : ∀ w : Int, tE (evs g l3) all w ↔ tE (evs g l2) all w := fun w => by rw [hz3]; exact evs_pre j5.1 j5.2
                have hVP : VP ((3 : Int), (0 : Int), k, all, ()) l3.length := VP3 ⟨k0, k1⟩ ⟨j5.1, hall3⟩
                have hnew : ∀ w : Int, 0 ≤ w → w < g.2.1 → (tE (evs g (l3 ++ [((3 : Int), (0 : Int), k, all, ())])) l3.length w ↔ tE (evs g l3) k w ∧ tE (evs g l2) all w) := fun w w0 w1 => by
                  rw [evs_new w0 w1, ← holdt]
                  unfold pv
                  simp
                obtain ⟨a', l4, kk4, kv4, e4, h4⟩ := ihf (t + 1) l3.length (l3 ++ [((3 : Int), (0 : Int), k, all, ())]) kk3 kv3 (by omega) (by omega) ⟨hT.si.snoc hVP, ⟨z ++ z3 ++ [((3 : Int), (0 : Int), k, all, ())], by rw [hz3, hz]; simp [List.append_assoc]⟩, fun kx hkx => by
                  rcases hT.keys kx hkx with hk | ⟨m', hm', hle⟩
                  · exact j3 kx hk
                  · exact .inr ⟨m', hm', by omega⟩, by rw [hcnt, if_pos c1, List.length_append, List.length_singleton]; omega, ⟨by omega, by rw [List.length_append, List.length_singleton]; omega⟩, (hnew _ hxr.2.2.1 hxr.2.2.2.1).2 ⟨kt, j6⟩, fun j j0 jt a b => by
                  have hjr := ok.x _ (ix_mem j0 (by omega : j < g.2.2.1.length))
                  rw [hnew _ hjr.2.2.1 hjr.2.2.2.1]
                  by_cases ejt : j = t
                  · rw [ejt, ey]; exact fun hh => kf hh.1
                  · exact fun hh => j7 j j0 (by omega) a b hh.2⟩
                refine ⟨a', l4, kk4, kv4, (e14 _ ?_).trans e4, h4⟩
                unfold same_teller_tell_L14_B
                rw [if_pos (decide_eq_true (by omega)), G_pos (by omega), ey, if_pos (decide_eq_true c1), ex, decide_eq_true c2]
                unfold same_teller_tell_J16
                rw [if_pos rfl, ex, ey]
                have hfin : ((same_teller_tell x.2.2.1 y.2.2.1 g.1 g.2.1 g.2.2.1 L l2 kk2 kv2).bind (fun y'_80 =>
                  (same_teller_put_1 ((3 : Int), ((0 : Int), (y'_80.1, (all, ())))) y'_80.2.1 y'_80.2.2.1 y'_80.2.2.2.1 y'_80.2.2.2.2.1 y'_80.2.2.2.2.2.1 y'_80.2.2.2.2.2.2.1 y'_80.2.2.2.2.2.2.2).bind (fun y'_79 =>
                  same_teller_tell_J17 t (same_teller_tell_L14 same_teller_tell p q i g.2.2.1 g.2.2.1) y'_79.1 y'_79.2.1 y'_79.2.2.1 y'_79.2.2.2.1 y'_79.2.2.2.2.1 y'_79.2.2.2.2.2.1 y'_79.2.2.2.2.2.2.1 y'_79.2.2.2.2.2.2.2))) = same_teller_tell_L14 same_teller_tell p q i g.2.2.1 g.2.2.1 l3.length (t + 1) g.1 g.2.1 g.2.2.1 L (l3 ++ [((3 : Int), (0 : Int), k, all, ())]) kk3 kv3 := by
                  refine bind_to e3 ?_
                  refine bind_to (put1_spec (by dsimp only; omega)) ?_
                  unfold same_teller_tell_J17
                  rw [G_pos hft]
                exact both_to hfin hfin
              · refine skip (fun hh => c2 hh.2) (e14 _ ?_)
                unfold same_teller_tell_L14_B
                rw [if_pos (decide_eq_true (by omega)), G_pos (by omega), ey, if_pos (decide_eq_true c1), ex, decide_eq_false c2]
                exact hskip
            · refine skip (fun hh => c1 hh.1) (e14 _ ?_)
              unfold same_teller_tell_L14_B
              rw [if_pos (decide_eq_true (by omega)), G_pos (by omega), ey, if_neg (by simpa using c1)]
              exact hskip
        have hVP0 : VP ((0 : Int), (0 : Int), (0 : Int), (0 : Int), ()) l.length := VP0
        obtain ⟨all, l3, kk3, kv3, e14, ⟨j1, ⟨z, hz⟩, j3, j4, j5, j6, j7⟩⟩ := k14 g.2.2.1.length 0 l.length (l ++ [((0 : Int), (0 : Int), (0 : Int), (0 : Int), ())]) kk kv (by omega) (by omega) ⟨h.snoc hVP0, ⟨_, rfl⟩, fun k hk => .inl hk, by rw [List.length_append, List.length_singleton]; simp; omega, ⟨by omega, by rw [List.length_append, List.length_singleton]; omega⟩, (evs_new hxr.2.2.1 hxr.2.2.2.1).2 (.inl rfl), fun j j0 jt => by omega⟩
        rw [Int.toNat_natCast, List.take_length] at j4
        have hw3 := hwk _ _ _ j1
        have hcle : (g.2.2.1.filter (fun y => decide (y.1 = q))).length ≤ 60 := Nat.le_trans (List.length_filter_le _ _) ha
        have hnk : (p, q, ()) ∉ kk3 := fun hk => by
          rcases j3 _ hk with hk | ⟨m', hm', hle⟩
          · exact hin hk
          · have := hself m' hm'; omega
        have hlet := ok.l
        have hVP : VP ((2 : Int), x.2.1, all, (0 : Int), ()) l3.length := VP2 j5 ⟨hxr.2.2.2.2.1, by omega⟩
        have hS1 := j1.snoc hVP
        have hpt : tE (evs g (l3 ++ [((2 : Int), x.2.1, all, (0 : Int), ())])) l3.length p := (evs_new hp.1 hp.2).2 (.inr (.inr (.inl ⟨rfl, x, hxm, hxp, rfl, j6⟩)))
        have hqf : ¬ tE (evs g (l3 ++ [((2 : Int), x.2.1, all, (0 : Int), ())])) l3.length q := fun hh => by
          rcases (evs_new hq.1 hq.2).1 hh with h | ⟨h, _⟩ | ⟨_, y, hy, y1, y2, y3⟩ | ⟨h, _⟩
          · exact absurd (show (2 : Int) = 0 from h) (by decide)
          · exact absurd (show (2 : Int) = 1 from h) (by decide)
          · obtain ⟨j, j0, jt, rfl⟩ := ex_ix (P := fun w => w = y).1 ⟨y, hy, rfl⟩
            exact j7 j j0 jt y1 y2 y3
          · exact absurd (show (2 : Int) = 3 from h) (by decide)
        obtain ⟨hS2, eK⟩ := hS1.put hnk hp hq ⟨by omega, by rw [List.length_append, List.length_singleton]; omega⟩ hpt hqf
        refine ⟨l3.length, _, _, _, e0 _ ?_, ⟨hS2, ⟨z ++ [((2 : Int), x.2.1, all, (0 : Int), ())], by rw [hz, List.append_assoc]⟩, fun kx hx => ?_, ?_⟩, by omega, by rw [List.length_append, List.length_singleton]; omega, hpt, hqf, fun _ => by rw [List.length_append, List.length_singleton]; omega⟩
        · unfold same_teller_tell_B
          rw [if_neg hhas]
          refine bind_to hap ?_
          rw [G_pos (by unfold fits; omega), G_pos (by omega), ec]
          refine bind_to eb ?_
          rw [if_neg (by decide)]
          refine bind_to ei ?_
          rw [G_pos (show 0 ≤ i ∧ i < (g.2.2.1.length : Int) by omega)]
          refine bind_to (put1_spec (by dsimp only; omega)) ?_
          refine e14.trans ?_
          rw [same_teller_tell_L14_eq]; unfold same_teller_tell_L14_B
          rw [if_neg (by simp), ex]
          refine bind_to (put1_spec (by omega)) rfl
        · rw [eK] at hx
          rcases List.mem_append.1 hx with hx | hx
          · rcases j3 kx hx with hx | ⟨m', hm', hle⟩
            · exact .inl hx
            · exact .inr ⟨m', hm', by omega⟩
          · rw [List.mem_singleton.1 hx]
            exact .inr ⟨mm, ⟨r, hr, by unfold msr; rw [ec, if_neg hA]; exact hmr⟩, Int.le_refl _⟩
        · rw [eK, wt_snoc, List.length_append, List.length_singleton]
          have ec : cost g (p, q, ()) = 2 + (g.2.2.1.filter (fun y => decide (y.1 = q))).length := rfl
          omega
end
theorem law_true (g : Gr) (p q : Int) (any : List Say) : law_SameTells g p q any = some true := by
  have eg : (g.1, g.2.1, g.2.2.1, ()) = g := rfl
  have hjoin : ∀ (b : Bool) (e : Int) (l : List Say), e ≠ 0 → law_SameTells_J4 g p q any b e l e = (if b = false ∧ l = [] then some true else some false) := by
    intro b e l he
    unfold law_SameTells_J4
    rw [if_pos (by simpa using he), if_pos (by simp)]
    cases b with
    | true => rw [if_neg (by decide), if_neg (fun h => by cases h.1)]
    | false =>
      rw [if_pos (by decide)]
      cases l with
      | nil => simp
      | cons a l => simp; omega
  unfold law_SameTells
  rw [eg]
  by_cases h0 : grE g = 0
  · have ok := grE_zero h0
    have hn := ok.n
    by_cases hr : (0 ≤ p ∧ p < g.2.1) ∧ (0 ≤ q ∧ q < g.2.1)
    · obtain ⟨hp, hq⟩ := hr
      obtain ⟨L, eL, hL, hL13, hst⟩ := rounds_spec ok
      have hl1 := hL.l
      obtain ⟨t, et, ht⟩ := Table_spec ok true
      have hiff := table_eqv ok ht hL hst
      have hE : Eqv g.2.1 (tE t) := by
        refine ⟨fun p p0 p1 => (hiff p p p0 p1 p0 p1).1 rfl, fun p q p0 p1 q0 q1 h => (hiff q p q0 q1 p0 p1).1 (Eq.symm ((hiff p q p0 p1 q0 q1).2 h)), fun p q r p0 p1 q0 q1 r0 r1 h k => (hiff p r p0 p1 r0 r1).1 (Eq.trans ((hiff p q p0 p1 q0 q1).2 h) ((hiff q r q0 q1 r0 r1).2 k))⟩
      obtain ⟨c, ec, hc1, hc2⟩ := rClasses_spec ok ht hE et
      have hlen := hL.len ((L.length : Int) - 1) (by omega) (by omega)
      have hcc : ix L ((L.length : Int) - 1) = c := by
        refine ix_ext (by omega) fun p p0 p1 => ?_
        exact (hL.c.congr hiff).one hc2 g.2.1.toNat p p0 (by omega) (by omega)
      have hJ4 : ∀ (b : Bool) (l : List Say), law_SameTells_J3 g p q any b 0 l 0 (decide (g.2.1 ≤ q)) = law_SameTells_J4 g p q any b 0 l 0 := fun b l => by
        unfold law_SameTells_J3
        rw [if_neg (by simp only [decide_eq_true_eq]; omega)]
      by_cases hc : ix c p = ix c q
      · have eT : same_Tell g p q = some (false, 0, []) := by
          have hfin : same_Tell_J6 p q g.1 g.2.1 g.2.2.1 L [] [] = some (false, 0, []) := by
            unfold same_Tell_J6
            rw [G_pos (by unfold fits; omega), G_pos (by omega), hcc, G_pos (by omega), G_pos (by omega), if_pos (decide_eq_true hc)]
          unfold same_Tell
          refine bind_to same_Check_spec ?_
          rw [eg, h0, if_neg (by simp), if_neg (by simp only [decide_eq_true_eq]; omega), if_neg (by simp only [decide_eq_true_eq]; omega), if_neg (by simp only [decide_eq_true_eq]; omega), if_neg (by simp only [decide_eq_true_eq]; omega)]
          exact both_to (bind_to eL hfin) (bind_to eL hfin)
        refine bind_to eT (bind_to r20_Check_spec ?_)
        rw [h0, if_pos (by simp), if_neg (by simp only [decide_eq_true_eq]; omega), if_neg (by simp only [decide_eq_true_eq]; omega), if_neg (by simp only [decide_eq_true_eq]; omega)]
        refine (hJ4 false []).trans ?_
        unfold law_SameTells_J4
        rw [if_neg (by simp)]
        refine bind_to ec ?_
        rw [if_neg (by simp), G_pos (by omega), G_pos (by omega), G_pos (by omega), G_pos (by omega), if_neg (by simp [hc]), if_neg (by decide)]
        obtain ⟨e, eS, hS⟩ := Saying_spec any
        refine bind_to eS ?_
        by_cases he : e = 0
        · obtain ⟨hl, hv⟩ := hS.1 he
          rw [if_neg (by simpa using he)]
          refine bind_to (Holds_spec ok hv hl) ?_
          have hel := evs_len (g := g) _ any rfl
          have hrow : ((ix (evs g any) ((any.length : Int) - 1)).length : Int) = g.2.1 := by
            have hne : any ≠ [] := fun e => by rw [e] at hl; simp at hl
            rw [← List.dropLast_concat_getLast hne, evs_snoc]
            have : (((any.dropLast ++ [any.getLast hne]).length : Int) - 1) = ((evs g any.dropLast).length : Int) := by
              rw [evs_len _ _ rfl, List.length_append, List.length_singleton]; omega
            rw [this, ix_append_last, rowOf_len]; omega
          rw [if_pos (by simp), G_pos (by omega), G_pos (by omega)]
          have hpq : tE t p q := (hiff p q hp.1 hp.2 hq.1 hq.2).1 (by unfold cE; rw [hcc]; exact hc)
          have := evs_alike ok (R := tE t) (fun a b a0 a1 b0 b1 h => by
            obtain ⟨h1, h2⟩ := ht.post a b a0 a1 b0 b1 h
            exact ⟨h1, h2 rfl⟩) _ any rfl hv ((any.length : Int) - 1) p q (by omega) (by omega) hp.1 hp.2 hq.1 hq.2 hpq
          unfold tE at this
          rw [← Bool.eq_iff_iff] at this
          rw [this]; simp
        · rw [if_pos (by simpa using he)]; rfl
      · -- they are told apart
        have hex : ∃ r, First L p q r ∧ r ≤ ((L.length - 1 : Nat) : Int) := First.of (L.length - 1) (by omega) (by rw [show ((L.length - 1 : Nat) : Int) = (L.length : Int) - 1 by omega, hcc]; exact hc)
        obtain ⟨r, hr, hrL⟩ := hex
        have hr0 := hr.1
        obtain ⟨m, hm⟩ : ∃ m : Nat, (m : Int) = msr g L p q r := by
          refine ⟨(msr g L p q r).toNat, ?_⟩
          unfold msr; split <;> omega
        have hmb : m ≤ 40 := by unfold msr at hm; split at hm <;> omega
        obtain ⟨k, l, kk, kv, eT1, hT, k0, k1, kt, kf, klast⟩ := tell_spec ok hL hL13 m p q [] [] [] ⟨r, hr, hm⟩ hp hq ⟨fun i i0 i1 => by simp at i1; omega, rfl, by simp, fun k hk => (by cases hk), fun j hj => by simp at hj⟩ (by simp; omega)
        have hw := wt_le ok hT.si.nd hT.si.rng
        have hsz := hT.sz
        have hne : ([] : List Say) ≠ l := fun e => by rw [← e] at k1; simp at k1; omega
        have hkl := klast hne
        have hl1000 : 1 ≤ l.length ∧ l.length ≤ 3000 := by
          unfold wt at hsz hw
          simp at hsz
          omega
        have eT : same_Tell g p q = some (true, 0, l) := by
          have hfin : same_Tell_J6 p q g.1 g.2.1 g.2.2.1 L [] [] = some (true, 0, l) := by
            unfold same_Tell_J6
            rw [G_pos (by unfold fits; omega), G_pos (by omega), hcc, G_pos (by omega), G_pos (by omega), if_neg (by simpa using hc)]
            exact bind_to eT1 rfl
          unfold same_Tell
          refine bind_to same_Check_spec ?_
          rw [eg, h0, if_neg (by simp), if_neg (by simp only [decide_eq_true_eq]; omega), if_neg (by simp only [decide_eq_true_eq]; omega), if_neg (by simp only [decide_eq_true_eq]; omega), if_neg (by simp only [decide_eq_true_eq]; omega)]
          exact both_to (bind_to eL hfin) (bind_to eL hfin)
        refine bind_to eT (bind_to r20_Check_spec ?_)
        rw [h0, if_pos (by simp), if_neg (by simp only [decide_eq_true_eq]; omega), if_neg (by simp only [decide_eq_true_eq]; omega), if_neg (by simp only [decide_eq_true_eq]; omega)]
        refine (hJ4 true l).trans ?_
        unfold law_SameTells_J4
        rw [if_neg (by simp)]
        refine bind_to ec ?_
        rw [if_neg (by simp), G_pos (by omega), G_pos (by omega), G_pos (by omega), G_pos (by omega), if_neg (by simp [hc]), if_pos rfl]
        obtain ⟨e, eS, hS⟩ := Saying_spec l
        have he : e = 0 := hS.2 ⟨hl1000, hT.si.vs⟩
        refine bind_to eS ?_
        rw [if_neg (by simpa using he), eg]
        refine bind_to (Holds_spec ok hT.si.vs hl1000) ?_
        have hrow : ((ix (evs g l) ((l.length : Int) - 1)).length : Int) = g.2.1 := by
          rw [← List.dropLast_concat_getLast hne.symm, evs_snoc]
          have : (((l.dropLast ++ [l.getLast hne.symm]).length : Int) - 1) = ((evs g l.dropLast).length : Int) := by
            rw [evs_len _ _ rfl, List.length_append, List.length_singleton]; omega
          rw [this, ix_append_last, rowOf_len]; omega
        unfold tE at kt kf
        rw [hkl] at kt kf
        rw [G_pos (by omega), if_pos kt, G_pos (by omega)]
        simpa using kf
    · -- no places
      have eT : same_Tell g p q = some (false, 2, []) := by
        unfold same_Tell
        refine bind_to same_Check_spec ?_
        rw [eg, h0, if_neg (by simp)]
        by_cases c1 : p < 0
        · rw [if_pos (decide_eq_true c1)]
        rw [if_neg (by simpa using c1)]
        by_cases c2 : g.2.1 ≤ p
        · rw [if_pos (decide_eq_true c2)]
        rw [if_neg (by simpa using c2)]
        by_cases c3 : q < 0
        · rw [if_pos (decide_eq_true c3)]
        rw [if_neg (by simpa using c3), if_pos (decide_eq_true (by omega))]
      refine bind_to eT (bind_to r20_Check_spec ?_)
      rw [h0, if_pos (by simp)]
      have hJ3 : law_SameTells_J3 g p q any false 2 [] 0 true = some true := by
        unfold law_SameTells_J3
        rw [if_pos rfl, hjoin false 2 [] (by decide), if_pos ⟨rfl, rfl⟩]
      by_cases c1 : p < 0
      · rw [if_pos (decide_eq_true c1)]; exact hJ3
      rw [if_neg (by simpa using c1)]
      by_cases c2 : g.2.1 ≤ p
      · rw [if_pos (decide_eq_true c2)]; exact hJ3
      rw [if_neg (by simpa using c2)]
      by_cases c3 : q < 0
      · rw [if_pos (decide_eq_true c3)]; exact hJ3
      rw [if_neg (by simpa using c3), decide_eq_true (show g.2.1 ≤ q by omega)]; exact hJ3
  · have eT : same_Tell g p q = some (false, grE g, []) := by
      unfold same_Tell
      refine bind_to same_Check_spec ?_
      rw [eg, if_pos (by simpa using h0)]
    refine bind_to eT (bind_to r20_Check_spec ?_)
    rw [if_neg (by simpa using h0)]
    unfold law_SameTells_J3
    rw [if_neg (by decide), hjoin false (grE g) [] h0, if_pos ⟨rfl, rfl⟩]

end Go.Proofs.Ytgfckoeoichfmaa.sameTellsW
