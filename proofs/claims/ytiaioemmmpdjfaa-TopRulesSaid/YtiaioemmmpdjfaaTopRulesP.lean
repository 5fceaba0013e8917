/- The law 'TopRules' of the plain functions. -/
import Derived.Test.YtiaioemmmpdjfaaTopRulesD
set_option maxHeartbeats 1000000
set_option maxRecDepth 20000
set_option linter.unusedSimpArgs false
set_option linter.unusedVariables false
set_option linter.unusedSectionVars false
namespace Go.Proofs.Ytiaioemmmpdjfaa.topRulesW
open Go Go.Ab
/-- The answer is yes just if P. -/
def Tells (o : Option Bool) (P : Prop) : Prop := ∃ b, o = some b ∧ (b = true ↔ P)
theorem Tells.of {b : Bool} {P : Prop} (h : b = true ↔ P) : Tells (some b) P := ⟨b, rfl, h⟩
theorem Tells.dec {P Q : Prop} [Decidable P] (h : P ↔ Q) : Tells (some (decide P)) Q := ⟨_, rfl, by simpa using h⟩
theorem Tells.iff {o : Option Bool} {P Q : Prop} (h : Tells o P) (k : P ↔ Q) : Tells o Q := let ⟨b, h1, h2⟩ := h; ⟨b, h1, h2.trans k⟩
theorem Tells.eq {o : Option Bool} {P : Prop} [Decidable P] (h : Tells o P) : o = some (decide P) := by
  obtain ⟨b, rfl, hb⟩ := h
  by_cases hp : P
  · simp [hp, hb.2 hp]
  · have : b = false := by cases b; rfl; exact absurd (hb.1 rfl) hp
    simp [hp, this]
theorem Tells.to {R : Type} {o : Option Bool} {P : Prop} {k1 k2 x : Option R} (h : Tells o P) (h1 : P → k1 = x) (h2 : ¬ P → k2 = x) : (o.bind fun y => if y = true then k1 else k2) = x := by
  obtain ⟨b, rfl, hb⟩ := h
  refine bind_to rfl ?_
  cases b
  · exact h2 fun hp => by simpa using hb.2 hp
  · exact h1 (hb.1 rfl)
theorem Tells.bind {R : Type} {o : Option Bool} {P : Prop} {k : Bool → Option R} {x : Option R} (h : Tells o P) (h1 : ∀ b, (b = true ↔ P) → k b = x) : o.bind k = x := by
  obtain ⟨b, rfl, hb⟩ := h
  exact h1 b hb
section
variable {α C : Type} [Inhabited α]
theorem ex_ix {l : List α} {P : α → Prop} : (∃ x ∈ l, P x) ↔ ∃ i : Int, 0 ≤ i ∧ i < l.length ∧ P (ix l i) := by
  constructor
  · rintro ⟨x, hx, hp⟩
    obtain ⟨i, hi, rfl⟩ := List.mem_iff_getElem.1 hx
    refine ⟨i, by omega, by omega, ?_⟩
    rwa [ix_eq (by omega) (by omega)]
  · rintro ⟨i, h0, h1, hp⟩
    exact ⟨_, ix_mem h0 h1, hp⟩
theorem index_loop {s : List α} {f : α → Option Bool} {L : Int → Option Int} {P : α → Prop} (hs : s.length ≤ 4611686018427387904)
    (hL : ∀ t, L t = if decide (t < (s.length : Int)) = true then G (0 ≤ t ∧ t < (s.length : Int)) ((f (ix s t)).bind fun y => if y = true then some t else G (fits (t + 1)) (L (t + 1))) else some (-1))
    (hf : ∀ x ∈ s, Tells (f x) (P x)) : ∀ (n : Nat) (t : Int), 0 ≤ t → t ≤ s.length → (s.length - t).toNat = n →
      ∃ i, L t = some i ∧ ((i = -1 ∧ ∀ j : Int, t ≤ j → j < s.length → ¬ P (ix s j)) ∨ (t ≤ i ∧ i < s.length ∧ P (ix s i) ∧ ∀ j : Int, t ≤ j → j < i → ¬ P (ix s j))) := by
  intro n
  induction n with
  | zero =>
    intro t h0 h1 hn
    refine ⟨-1, ?_, .inl ⟨rfl, fun j a b => by omega⟩⟩
    rw [hL, if_neg (by simp; omega)]
  | succ n ih =>
    intro t h0 h1 hn
    rw [hL, if_pos (by simp; omega), G_pos (by omega)]
    obtain ⟨b, hb, hbp⟩ := hf _ (ix_mem h0 (by omega : t < s.length))
    rw [hb]
    cases b with
    | true => exact ⟨t, rfl, .inr ⟨by omega, by omega, hbp.1 rfl, fun j a b => by omega⟩⟩
    | false =>
      have hnp : ¬ P (ix s t) := fun hp => by simpa using hbp.2 hp
      obtain ⟨i, hi, hc⟩ := ih (t + 1) (by omega) (by omega) (by omega)
      refine ⟨i, ?_, ?_⟩
      · refine (if_neg (by simp) : (if false = true then some t else G (fits (t + 1)) (L (t + 1))) = _).trans ?_
        rw [G_pos (by unfold fits; omega), hi]
      · rcases hc with ⟨h2, h3⟩ | ⟨h2, h3, h4, h5⟩
        · refine .inl ⟨h2, fun j a b => ?_⟩
          by_cases e : j = t
          · rw [e]; exact hnp
          · exact h3 j (by omega) b
        · refine .inr ⟨by omega, h3, h4, fun j a b => ?_⟩
          by_cases e : j = t
          · rw [e]; exact hnp
          · exact h5 j (by omega) b
theorem contains_tells {s : List α} {f : α → Option Bool} {L : Int → Option Int} {P : α → Prop}
    (hL : ∀ t, L t = if decide (t < (s.length : Int)) = true then G (0 ≤ t ∧ t < (s.length : Int)) ((f (ix s t)).bind fun y => if y = true then some t else G (fits (t + 1)) (L (t + 1))) else some (-1))
    (hs : s.length ≤ 4611686018427387904) (hf : ∀ x ∈ s, Tells (f x) (P x)) : Tells ((L 0).bind fun y => some (decide ((0 : Int) ≤ y))) (∃ x ∈ s, P x) := by
  obtain ⟨i, hi, hc⟩ := index_loop hs hL hf _ 0 (by omega) (by omega) rfl
  rw [hi]
  refine ⟨decide (0 ≤ i), rfl, ?_⟩
  rw [decide_eq_true_iff, ex_ix]
  rcases hc with ⟨h2, h3⟩ | ⟨h2, h3, h4, h5⟩
  · constructor
    · intro h; omega
    · rintro ⟨j, h0, h1, hp⟩; exact absurd hp (h3 j h0 h1)
  · exact ⟨fun _ => ⟨i, by omega, h3, h4⟩, fun _ => by omega⟩
/-- .. of what carries along what it reads. -/
theorem contains_tells2 {s : List α} {c : C} {f : α → C → Option (Bool × C)} {L : Int → C → Option (Int × C)} {P : α → Prop}
    (hL : ∀ t c, L t c = if decide (t < (s.length : Int)) = true then G (0 ≤ t ∧ t < (s.length : Int)) ((f (ix s t) c).bind fun y => if y.1 = true then some (t, y.2) else G (fits (t + 1)) (L (t + 1) y.2)) else some (-1, c))
    (hs : s.length ≤ 4611686018427387904) (hf : ∀ x ∈ s, ∃ b, f x c = some (b, c) ∧ (b = true ↔ P x)) : ∃ b, ((L 0 c).bind fun y => some (decide ((0 : Int) ≤ y.1), y.2)) = some (b, c) ∧ (b = true ↔ ∃ x ∈ s, P x) := by
  have key : ∀ (n : Nat) (t : Int), 0 ≤ t → t ≤ s.length → (s.length - t).toNat = n →
      ∃ i, L t c = some (i, c) ∧ ((i = -1 ∧ ∀ j : Int, t ≤ j → j < s.length → ¬ P (ix s j)) ∨ (t ≤ i ∧ i < s.length ∧ P (ix s i))) := by
    intro n
    induction n with
    | zero =>
      intro t h0 h1 hn
      refine ⟨-1, ?_, .inl ⟨rfl, fun j a b => by omega⟩⟩
      rw [hL, if_neg (by simp; omega)]
    | succ n ih =>
      intro t h0 h1 hn
      rw [hL, if_pos (by simp; omega), G_pos (by omega)]
      obtain ⟨b, hb, hbp⟩ := hf _ (ix_mem h0 (by omega : t < s.length))
      rw [hb]
      cases b with
      | true => exact ⟨t, rfl, .inr ⟨by omega, by omega, hbp.1 rfl⟩⟩
      | false =>
        have hnp : ¬ P (ix s t) := fun hp => by simpa using hbp.2 hp
        obtain ⟨i, hi, hc⟩ := ih (t + 1) (by omega) (by omega) (by omega)
        refine ⟨i, ?_, ?_⟩
        · refine (if_neg (by simp) : (if false = true then some (t, c) else G (fits (t + 1)) (L (t + 1) c)) = _).trans ?_
          rw [G_pos (by unfold fits; omega), hi]
        · rcases hc with ⟨h2, h3⟩ | ⟨h2, h3, h4⟩
          · refine .inl ⟨h2, fun j a b => ?_⟩
            by_cases e : j = t
            · rw [e]; exact hnp
            · exact h3 j (by omega) b
          · exact .inr ⟨by omega, h3, h4⟩
  obtain ⟨i, hi, hc⟩ := key _ 0 (by omega) (by omega) rfl
  rw [hi]
  refine ⟨decide (0 ≤ i), rfl, ?_⟩
  rw [decide_eq_true_iff, ex_ix]
  rcases hc with ⟨h2, h3⟩ | ⟨h2, h3, h4⟩
  · constructor
    · intro h; omega
    · rintro ⟨j, h0, h1, hp⟩; exact absurd hp (h3 j h0 h1)
  · exact ⟨fun _ => ⟨i, by omega, h3, h4⟩, fun _ => by omega⟩
end
/-- A loop that looks for the first fault. -/
theorem scan_to {R : Type} {len : Int} {L : Int → Option R} {bad : Int → Prop} {x : Option R} {lo : Int} (h0 : lo ≤ len)
    (hs : ∀ t, lo ≤ t → t < len → (bad t → L t = x) ∧ (¬ bad t → L t = L (t + 1))) (hf : (∀ t, lo ≤ t → t < len → ¬ bad t) → L len = x) : L lo = x := by
  have key : ∀ (n : Nat) (t : Int), lo ≤ t → t ≤ len → (len - t).toNat = n → (∀ j, lo ≤ j → j < t → ¬ bad j) → L t = x := by
    intro n
    induction n with
    | zero =>
      intro t h1 h2 hn h
      obtain rfl : t = len := by omega
      exact hf h
    | succ n ih =>
      intro t h1 h2 hn h
      by_cases hb : bad t
      · exact (hs t h1 (by omega)).1 hb
      · rw [(hs t h1 (by omega)).2 hb]
        refine ih (t + 1) (by omega) (by omega) (by omega) fun j a b => ?_
        by_cases e : j = t
        · rw [e]; exact hb
        · exact h j a (by omega)
  exact key _ lo (Int.le_refl _) h0 rfl (fun j a b => by omega)
/-- A loop that counts, with a state. -/
theorem fold_to {R S : Type} {len : Int} {L : Int → S → Option R} {f : Int → S → S} {lo : Int} {I : Int → S → Prop} {s : S} (h0 : lo ≤ len) (hI : I lo s)
    (hs : ∀ t s, lo ≤ t → t < len → I t s → L t s = L (t + 1) (f t s) ∧ I (t + 1) (f t s)) : ∃ s', I len s' ∧ L lo s = L len s' := by
  have key : ∀ (n : Nat) (t : Int) (s : S), lo ≤ t → t ≤ len → (len - t).toNat = n → I t s → ∃ s', I len s' ∧ L t s = L len s' := by
    intro n
    induction n with
    | zero =>
      intro t s h1 h2 hn h
      obtain rfl : t = len := by omega
      exact ⟨s, h, rfl⟩
    | succ n ih =>
      intro t s h1 h2 hn h
      obtain ⟨e, h3⟩ := hs t s h1 (by omega) h
      obtain ⟨s', h4, h5⟩ := ih (t + 1) _ (by omega) (by omega) (by omega) h3
      exact ⟨s', h4, e.trans h5⟩
  exact key _ lo s (Int.le_refl _) h0 rfl hI

/-- A walk over a table. -/
def stp (N : List (List Int)) (q a : Int) : Int := ix (ix N q) a
def wlk (N : List (List Int)) (q : Int) (w : List Int) : Int := w.foldl (stp N) q
/-- The places come by. -/
def trc (N : List (List Int)) : Int → List Int → List Int
  | _, [] => []
  | q, a :: w => stp N q a :: trc N (stp N q a) w
/-- A table of so many letters. -/
structure Tab (L : Int) (N : List (List Int)) : Prop where
  row : ∀ r ∈ N, (r.length : Int) = L
  to : ∀ r ∈ N, ∀ q ∈ r, 0 ≤ q ∧ q < N.length
theorem Tab.stpb {L : Int} {N : List (List Int)} (h : Tab L N) {q a : Int} (q0 : 0 ≤ q) (q1 : q < N.length) (a0 : 0 ≤ a) (a1 : a < L) : 0 ≤ stp N q a ∧ stp N q a < N.length := by
  have h1 := ix_mem q0 q1
  have h2 := h.row _ h1
  exact h.to _ h1 _ (ix_mem a0 (by omega))
theorem Tab.rowlen {L : Int} {N : List (List Int)} (h : Tab L N) {q : Int} (q0 : 0 ≤ q) (q1 : q < N.length) : ((ix N q).length : Int) = L := h.row _ (ix_mem q0 q1)
theorem Tab.wlkb {L : Int} {N : List (List Int)} (h : Tab L N) : ∀ {w : List Int} {q : Int}, 0 ≤ q → q < N.length → (∀ a ∈ w, 0 ≤ a ∧ a < L) → 0 ≤ wlk N q w ∧ wlk N q w < N.length
  | [], q, q0, q1, _ => ⟨q0, q1⟩
  | a :: w, q, q0, q1, hw => by
    have := h.stpb q0 q1 (hw a (by simp)).1 (hw a (by simp)).2
    exact Tab.wlkb h (q := stp N q a) (w := w) this.1 this.2 (fun b hb => hw b (by simp [hb]))
theorem Tab.trcb {L : Int} {N : List (List Int)} (h : Tab L N) : ∀ {w : List Int} {q : Int}, 0 ≤ q → q < N.length → (∀ a ∈ w, 0 ≤ a ∧ a < L) → ∀ p ∈ trc N q w, 0 ≤ p ∧ p < N.length
  | [], q, q0, q1, _, p, hp => by cases hp
  | a :: w, q, q0, q1, hw, p, hp => by
    have := h.stpb q0 q1 (hw a (by simp)).1 (hw a (by simp)).2
    rcases List.mem_cons.1 hp with rfl | hp
    · exact this
    · exact Tab.trcb h this.1 this.2 (fun b hb => hw b (by simp [hb])) p hp

theorem mfind_none {α : Type} : ∀ {ks : List α} {x : α}, mfind ks x = none ↔ x ∉ ks
  | [], x => by simp [mfind]
  | y :: ys, x => by
    unfold mfind
    by_cases h : y = x
    · rw [if_pos h]; simp [h]
    · rw [if_neg h, Option.map_eq_none_iff, mfind_none]
      simp [Ne.symm h]
/-- A map that only marks: all its elements are one. -/
abbrev ones {α : Type} (ks : List α) : List Int := List.replicate ks.length 1
theorem mget_ones {α : Type} {ks : List α} {x : α} : (mget ks (ones ks) x 0 = 0) ↔ x ∉ ks := by
  unfold mget
  cases h : mfind ks x with
  | none => simp [mfind_none.1 h]
  | some j =>
    have hx : x ∈ ks := by
      refine Classical.byContradiction fun hn => ?_
      rw [mfind_none.2 hn] at h; cases h
    have := mfind_lt h
    simp [hx, this]
theorem mputK_new {α : Type} {ks : List α} {x : α} (h : x ∉ ks) : mputK ks x = ks ++ [x] := by
  unfold mputK; rw [mfind_none.2 h]
theorem mputV_new {α : Type} {ks : List α} {x : α} (h : x ∉ ks) : mputV ks (ones ks) x 1 = ones (ks ++ [x]) := by
  unfold mputV; rw [mfind_none.2 h]
  show List.replicate ks.length 1 ++ [1] = List.replicate (ks ++ [x]).length 1
  rw [List.length_append, List.length_singleton, List.replicate_succ']

theorem pigeon {α : Type} [DecidableEq α] : ∀ {l U : List α}, l.Nodup → (∀ x ∈ l, x ∈ U) → l.length ≤ U.length
  | [], _, _, _ => Nat.zero_le _
  | a :: l, U, hn, hs => by
    have ha := hs a (by simp)
    obtain ⟨h1, h2⟩ := List.nodup_cons.1 hn
    have := pigeon (U := U.erase a) h2 (fun x hx => (List.mem_erase_of_ne (by rintro rfl; exact h1 hx)).2 (hs x (by simp [hx])))
    rw [List.length_erase_of_mem ha] at this
    have hp : 0 < U.length := List.length_pos_of_mem ha
    rw [List.length_cons]; omega
theorem pigeon_int {l : List Int} {n : Nat} (h : l.Nodup) (hb : ∀ x ∈ l, 0 ≤ x ∧ x < n) : l.length ≤ n := by
  have := pigeon (U := (List.range n).map Int.ofNat) h (fun x hx => by
    have := hb x hx
    exact List.mem_map.2 ⟨x.toNat, List.mem_range.2 (by omega), by show ((x.toNat : Nat) : Int) = x; omega⟩)
  simpa using this

theorem mfind_mem {α : Type} {ks : List α} {x : α} (h : x ∈ ks) : ∃ j, mfind ks x = some j := by
  cases e : mfind ks x with
  | none => exact absurd h (mfind_none.1 e)
  | some j => exact ⟨j, rfl⟩
theorem mfind_hd {α : Type} (ks : List α) (x : α) : mfind (x :: ks) x = some 0 := by unfold mfind; rw [if_pos rfl]
theorem mfind_tl {α : Type} {ks : List α} {x y : α} (h : y ≠ x) : mfind (y :: ks) x = (mfind ks x).map (· + 1) := by
  rw [mfind, if_neg h]
theorem mfind_app {α : Type} : ∀ {ks : List α} {x : α} {j : Nat} (l : List α), mfind ks x = some j → mfind (ks ++ l) x = some j
  | [], _, _, _, h => by cases h
  | y :: ks, x, j, l, h => by
    rw [List.cons_append]
    by_cases e : y = x
    · subst e; rw [mfind_hd] at h ⊢; exact h
    · rw [mfind_tl e] at h ⊢
      cases hm : mfind ks x with
      | none => rw [hm] at h; cases h
      | some i => rw [hm] at h; rw [mfind_app l hm]; exact h
theorem mfind_new {α : Type} : ∀ {ks : List α} {x : α}, x ∉ ks → mfind (ks ++ [x]) x = some ks.length
  | [], x, _ => mfind_hd _ _
  | y :: ks, x, h => by
    have hy : y ≠ x := by rintro rfl; exact h (by simp)
    rw [List.cons_append, mfind_tl hy, mfind_new (fun hh => h (by simp [hh]))]; rfl
theorem mfind_at {α : Type} : ∀ {ks : List α} {x : α} {k : Nat}, ks[k]? = some x → (∀ j, j < k → ks[j]? ≠ some x) → mfind ks x = some k
  | [], _, _, h, _ => by simp at h
  | y :: ks, x, k, h, hf => by
    cases k with
    | zero =>
      have : y = x := by simpa using h
      subst this; exact mfind_hd _ _
    | succ k =>
      have hy : y ≠ x := by have := hf 0 (by omega); simpa using this
      rw [mfind_tl hy, mfind_at (k := k) (by simpa using h) (fun j hj => by have := hf (j + 1) (by omega); simpa using this)]; rfl
theorem mfind_inj {α : Type} {ks : List α} {x y : α} {j : Nat} (h : mfind ks x = some j) (k : mfind ks y = some j) : x = y := by
  have := mfind_get h; rw [mfind_get k] at this; injection this with this; exact this.symm
theorem mfind_nodup {α : Type} {ks : List α} (hn : ks.Nodup) {j : Nat} (hj : j < ks.length) : mfind ks ks[j] = some j :=
  mfind_at (by simp) fun i hi e => by
    have hi' : i < ks.length := by omega
    rw [List.getElem?_eq_getElem hi'] at e
    exact List.pairwise_iff_getElem.1 hn i j hi' hj hi (Option.some.inj e)
theorem mfind_map {α β : Type} (f : α → β) : ∀ {ks : List α} {x : α}, (∀ y ∈ ks, f y = f x → y = x) → mfind (ks.map f) (f x) = mfind ks x
  | [], _, _ => rfl
  | y :: ks, x, h => by
    have ih := mfind_map f (ks := ks) (x := x) (fun z hz => h z (by simp [hz]))
    rw [List.map_cons]
    by_cases e : y = x
    · subst e; rw [mfind_hd, mfind_hd]
    · rw [mfind_tl e, mfind_tl (fun hh => e (h y (by simp) hh)), ih]
/-- 0, 1, 2, .. -/
def iota (n : Nat) : List Int := (List.range n).map fun j : Nat => (j : Int)
theorem iota_len (n : Nat) : (iota n).length = n := by simp [iota]
theorem iota_succ (n : Nat) : iota (n + 1) = iota n ++ [(n : Int)] := by simp [iota, List.range_succ]
theorem mget_iota {α : Type} {ks : List α} {x : α} {j : Nat} (h : mfind ks x = some j) : mget ks (iota ks.length) x 0 = j := by
  have := mfind_lt h
  unfold mget; rw [h]
  simp [iota, this]
theorem mhas_iff {α : Type} {ks : List α} {x : α} : mhas ks x = true ↔ x ∈ ks := by
  unfold mhas
  cases e : mfind ks x with
  | none => simp [mfind_none.1 e]
  | some j =>
    have := mfind_get e
    simp [List.mem_of_getElem? this]
theorem mputV_iota {α : Type} {ks : List α} {x : α} (h : x ∉ ks) : mputV ks (iota ks.length) x ks.length = iota (ks ++ [x]).length := by
  unfold mputV; rw [mfind_none.2 h, List.length_append, List.length_singleton, iota_succ]
theorem cover_nodup {α : Type} [DecidableEq α] : ∀ {l U : List α}, U.Nodup → (∀ x ∈ U, x ∈ l) → l.length ≤ U.length → l.Nodup
  | [], _, _, _, _ => List.nodup_nil
  | a :: l, U, hU, hs, hl => by
    have ha : a ∉ l := fun ha => by
      have := pigeon (l := U) (U := l) hU (fun x hx => by
        rcases List.mem_cons.1 (hs x hx) with rfl | h
        · exact ha
        · exact h)
      rw [List.length_cons] at hl; omega
    refine List.nodup_cons.2 ⟨ha, ?_⟩
    refine cover_nodup (U := U.erase a) (hU.erase a) (fun x hx => ?_) ?_
    · have hne : x ≠ a := ((List.Nodup.mem_erase_iff hU).1 hx).1
      rcases List.mem_cons.1 (hs x (List.mem_of_mem_erase hx)) with h | h
      · exact absurd h hne
      · exact h
    · have : U.length - 1 ≤ (U.erase a).length := by
        by_cases h : a ∈ U
        · rw [List.length_erase_of_mem h]; omega
        · rw [List.erase_of_not_mem h]; omega
      rw [List.length_cons] at hl; omega

abbrev Dt := Int × Int × (List (List Int)) × (List Int) × Unit
def DBig (mx : Int) (d : Dt) : Prop := d.2.2.1.length < 1 ∨ mx < d.2.2.1.length
def DRag (d : Dt) : Prop := ¬ (d.2.2.2.1.length : Int) = d.2.2.1.length ∨ ∃ r ∈ d.2.2.1, ¬ (r.length : Int) = d.1
def DOut (mb : Int → Prop) (d : Dt) : Prop := (d.2.1 < 0 ∨ (d.2.2.1.length : Int) ≤ d.2.1) ∨ (∃ r ∈ d.2.2.1, ∃ q ∈ r, q < 0 ∨ (d.2.2.1.length : Int) ≤ q) ∨ (∃ s ∈ d.2.2.2.1, mb s)
open Classical in
/-- What is wrong with an automaton of at most so many states, with such marks. -/
noncomputable def detE (mx : Int) (mb : Int → Prop) (d : Dt) : Int := if d.1 < 1 ∨ 4 < d.1 then 2 else if DBig mx d then 1 else if DRag d then 3 else if DOut mb d then 2 else 0
structure DOk (mx : Int) (mb : Int → Prop) (d : Dt) : Prop where
  let1 : 1 ≤ d.1 ∧ d.1 ≤ 4
  n1 : 1 ≤ d.2.2.1.length ∧ (d.2.2.1.length : Int) ≤ mx
  st : 0 ≤ d.2.1 ∧ d.2.1 < d.2.2.1.length
  mkl : (d.2.2.2.1.length : Int) = d.2.2.1.length
  mok : ∀ s ∈ d.2.2.2.1, ¬ mb s
  tab : Tab d.1 d.2.2.1
theorem detE_zero {mx : Int} {mb : Int → Prop} {d : Dt} (h : detE mx mb d = 0) : DOk mx mb d := by
  unfold detE at h
  by_cases c1 : d.1 < 1 ∨ 4 < d.1
  · rw [if_pos c1] at h; omega
  rw [if_neg c1] at h
  by_cases c2 : DBig mx d
  · rw [if_pos c2] at h; omega
  rw [if_neg c2] at h
  by_cases c3 : DRag d
  · rw [if_pos c3] at h; omega
  rw [if_neg c3] at h
  by_cases c4 : DOut mb d
  · rw [if_pos c4] at h; omega
  unfold DBig at c2; unfold DRag at c3; unfold DOut at c4
  refine ⟨by omega, by omega, ?_, ?_, fun s hs hm => c4 (.inr (.inr ⟨s, hs, hm⟩)), fun r hr => ?_, fun r hr q hq => ?_⟩
  · have : ¬ (d.2.1 < 0 ∨ (d.2.2.1.length : Int) ≤ d.2.1) := fun h => c4 (.inl h)
    omega
  · exact Decidable.not_not.1 fun h => c3 (.inl h)
  · by_cases e : (r.length : Int) = d.1
    · exact e
    · exact absurd (.inr ⟨r, hr, e⟩) c3
  · have : ¬ (q < 0 ∨ (d.2.2.1.length : Int) ≤ q) := fun h => c4 (.inr (.inl ⟨r, hr, q, hq, h⟩))
    omega
theorem detE_of {mx : Int} {mb : Int → Prop} {d : Dt} (h : DOk mx mb d) : detE mx mb d = 0 := by
  have h1 := h.let1
  have h2 := h.n1
  have h3 := h.st
  have h4 := h.mkl
  unfold detE
  rw [if_neg (by omega), if_neg (by unfold DBig; omega), if_neg, if_neg]
  · rintro (hh | ⟨r, hr, q, hq, hh⟩ | ⟨s, hs, hh⟩)
    · omega
    · have := h.tab.to r hr q hq
      omega
    · exact h.mok s hs hh
  · rintro (hh | ⟨r, hr, hh⟩)
    · exact hh h4
    · exact hh (h.tab.row r hr)

theorem word_May_L6_spec {letters : Int} {w : List Int} (hL : 1 ≤ letters ∧ letters ≤ 4) (hw : w.length ≤ (60 : Int)) : ∀ (n : Nat) (i : Int), 0 ≤ i → i ≤ w.length → (w.length - i).toNat = n → (∀ j : Int, 0 ≤ j → j < i → 0 ≤ ix w j ∧ ix w j < letters) → word_May_L6 letters w i = some (mayE letters w) := by
  intro n
  induction n with
  | zero =>
    intro i h0 h1 hn h
    rw [word_May_L6_eq]; unfold word_May_L6_B
    (try dsimp only); (repeat' first | (with_reducible refine G_to ?_ ?_; focus (first | omega | (unfold fits; omega) | (unfold room; (try simp only [List.length_append, List.length_cons, List.length_nil]); omega))) | (with_reducible refine both_to ?_ ?_) | (with_reducible refine itet_to ?_) | (with_reducible refine itef_to ?_) | (with_reducible refine ite_to (fun _ => ?_) (fun _ => ?_))) <;> try (exfalso; omega)
    · rw [mayE_ok hL hw (fun j a b => h j a (by omega))]
  | succ n ih =>
    intro i h0 h1 hn h
    rw [word_May_L6_eq]; unfold word_May_L6_B
    (try dsimp only); (repeat' first | (with_reducible refine G_to ?_ ?_; focus (first | omega | (unfold fits; omega) | (unfold room; (try simp only [List.length_append, List.length_cons, List.length_nil]); omega))) | (with_reducible refine both_to ?_ ?_) | (with_reducible refine itet_to ?_) | (with_reducible refine itef_to ?_) | (with_reducible refine ite_to (fun _ => ?_) (fun _ => ?_))) <;> try (exfalso; omega)
    · rw [mayE_bad hL hw (i := i) (by omega) (by omega)]
    · rw [mayE_bad hL hw (i := i) (by omega) (by omega)]
    · exact ih _ (by omega) (by omega) (by omega) (below_succ h (by omega))
theorem word_May_spec {letters : Int} {w : List Int} : word_May letters w = some (mayE letters w) := by
  unfold word_May
  (try dsimp only); (repeat' first | (with_reducible refine G_to ?_ ?_; focus (first | omega | (unfold fits; omega) | (unfold room; (try simp only [List.length_append, List.length_cons, List.length_nil]); omega))) | (with_reducible refine both_to ?_ ?_) | (with_reducible refine itet_to ?_) | (with_reducible refine itef_to ?_) | (with_reducible refine ite_to (fun _ => ?_) (fun _ => ?_))) <;> try (exfalso; omega)
  · rw [mayE_range (by omega)]
  · rw [mayE_range (by omega)]
  · rw [mayE_size (by omega) (by omega)]
  · exact word_May_L6_spec (by omega) (by omega) _ 0 (by omega) (by omega) rfl (fun j a b => by omega)

abbrev badD (m : Int) : Prop := ¬ m = 0 ∧ ¬ m = 1
theorem det_mk (m : Int) : Tells (det_Check_4 m) (badD m) := by
  unfold det_Check_4
  by_cases h : m = 0
  · rw [if_neg (by simpa using h)]; exact Tells.of (by simp [h])
  · rw [if_pos (by simpa using h)]; exact Tells.dec (by simp [h])
theorem det_Check_spec {d : Dt} : det_Check d = some (detE 3000 badD d) := by
  unfold det_Check detE
  by_cases c1 : d.1 < 1 ∨ 4 < d.1
  · rw [if_pos c1]
    (try dsimp only); (repeat' first | (with_reducible refine G_to ?_ ?_; focus (first | omega | (unfold fits; omega) | (unfold room; (try simp only [List.length_append, List.length_cons, List.length_nil]); omega))) | (with_reducible refine both_to ?_ ?_) | (with_reducible refine itet_to ?_) | (with_reducible refine itef_to ?_) | (with_reducible refine ite_to (fun _ => ?_) (fun _ => ?_))) <;> try (exfalso; omega)
    all_goals rfl
  rw [if_neg c1]
  by_cases c2 : DBig 3000 d
  · rw [if_pos c2]; unfold DBig at c2
    (try dsimp only); (repeat' first | (with_reducible refine G_to ?_ ?_; focus (first | omega | (unfold fits; omega) | (unfold room; (try simp only [List.length_append, List.length_cons, List.length_nil]); omega))) | (with_reducible refine both_to ?_ ?_) | (with_reducible refine itet_to ?_) | (with_reducible refine itef_to ?_) | (with_reducible refine ite_to (fun _ => ?_) (fun _ => ?_))) <;> try (exfalso; omega)
    all_goals rfl
  rw [if_neg c2]
  unfold DBig at c2
  by_cases c3 : (d.2.2.2.1.length : Int) = d.2.2.1.length
  case neg =>
    rw [if_pos (show DRag d from .inl c3)]
    (try dsimp only); (repeat' first | (with_reducible refine G_to ?_ ?_; focus (first | omega | (unfold fits; omega) | (unfold room; (try simp only [List.length_append, List.length_cons, List.length_nil]); omega))) | (with_reducible refine both_to ?_ ?_) | (with_reducible refine itet_to ?_) | (with_reducible refine itef_to ?_) | (with_reducible refine ite_to (fun _ => ?_) (fun _ => ?_))) <;> try (exfalso; omega)
    all_goals rfl
  (try dsimp only); (repeat' first | (with_reducible refine G_to ?_ ?_; focus (first | omega | (unfold fits; omega) | (unfold room; (try simp only [List.length_append, List.length_cons, List.length_nil]); omega))) | (with_reducible refine both_to ?_ ?_) | (with_reducible refine itet_to ?_) | (with_reducible refine itef_to ?_) | (with_reducible refine ite_to (fun _ => ?_) (fun _ => ?_))) <;> try (exfalso; omega)
  have k1 : Tells (slices_ContainsFunc d.2.2.1 d) (∃ r ∈ d.2.2.1, ¬ (r.length : Int) = d.1) := contains_tells (f := fun r => det_Check_1 r d) (slices_IndexFunc_L2_eq d.2.2.1 d) (by omega) (fun x _ => Tells.dec Iff.rfl)
  have nn : ∀ q t : Int, Tells (det_Check_2 q t) (q < 0 ∨ t ≤ q) := fun q t => by
    unfold det_Check_2
    by_cases h : q < 0
    · rw [if_pos (decide_eq_true h)]; exact Tells.of (by simp [h])
    · rw [if_neg (by simpa using h)]; exact Tells.dec (by omega)
  have k2 : ∀ r ∈ d.2.2.1, r.length ≤ 1000 → Tells (slices_ContainsFunc_2 r (d.2.2.1.length : Int)) (∃ q ∈ r, q < 0 ∨ (d.2.2.1.length : Int) ≤ q) := fun r _ hr => contains_tells (f := fun q => det_Check_2 q (d.2.2.1.length : Int)) (slices_IndexFunc_2_L2_eq r (d.2.2.1.length : Int)) (by omega) (fun x _ => nn x _)
  have k4 : Tells (slices_ContainsFunc_3 d.2.2.2.1) (∃ s ∈ d.2.2.2.1, (badD) s) := contains_tells (f := fun q => det_Check_4 q) (slices_IndexFunc_3_L2_eq d.2.2.2.1) (by omega) (fun x _ => det_mk x)
  refine k1.to (fun h => by rw [if_pos (show DRag d from .inr h)]) (fun h => ?_)
  rw [if_neg (show ¬ DRag d from fun hh => hh.elim (fun e => e c3) h)]
  have hr : ∀ r ∈ d.2.2.1, r.length ≤ 1000 := fun r hr => by
    by_cases e : (r.length : Int) = d.1
    · omega
    · exact absurd ⟨r, hr, e⟩ h
  refine (nn _ _).to (fun h => by rw [if_pos (show DOut _ d from .inl h)]) (fun h1 => ?_)
  obtain ⟨b, hb, hb2⟩ : ∃ b, slices_ContainsFunc_1 d.2.2.1 (d.2.2.1.length : Int) = some (b, (d.2.2.1.length : Int)) ∧ (b = true ↔ ∃ r ∈ d.2.2.1, ∃ q ∈ r, q < 0 ∨ (d.2.2.1.length : Int) ≤ q) :=
    contains_tells2 (f := det_Check_3) (slices_IndexFunc_1_L2_eq d.2.2.1) (by omega) (fun r hrm => by
      obtain ⟨b, e, e2⟩ := k2 r hrm (hr r hrm)
      exact ⟨b, by unfold det_Check_3; rw [e]; rfl, e2⟩)
  rw [hb]
  refine bind_to rfl ?_
  refine iteb_to (fun h => by rw [if_pos (show DOut _ d from .inr (.inl (hb2.1 h)))]) (fun h2 => ?_)
  refine k4.to (fun h => by rw [if_pos (show DOut _ d from .inr (.inr h))]) (fun h3 => ?_)
  rw [if_neg (show ¬ DOut _ d from fun h => h.elim h1 (fun h => h.elim (fun h => by rw [hb2.2 h] at h2; cases h2) h3))]

theorem det_After_spec {d : Int × Int × List (List Int) × List Int × Unit} {L : Int} (h : Tab L d.2.2.1) {w : List Int} (hw : ∀ a ∈ w, 0 ≤ a ∧ a < L) (hl : w.length ≤ 1000000) {q : Int} (q0 : 0 ≤ q) (q1 : q < d.2.2.1.length) : det_After d q w = some (wlk d.2.2.1 q w) := by
  have key : ∀ (n : Nat) (t q : Int), (w.length - t).toNat = n → 0 ≤ t → t ≤ w.length → 0 ≤ q → q < d.2.2.1.length → det_After_L2 d w q t = some (wlk d.2.2.1 q (w.drop t.toNat)) := by
    intro n
    induction n with
    | zero =>
      intro t q hn h0 h1 q0 q1
      rw [det_After_L2_eq]; unfold det_After_L2_B
      (try dsimp only); (repeat' first | (with_reducible refine G_to ?_ ?_; focus (first | omega | (unfold fits; omega) | (unfold room; (try simp only [List.length_append, List.length_cons, List.length_nil]); omega))) | (with_reducible refine both_to ?_ ?_) | (with_reducible refine itet_to ?_) | (with_reducible refine itef_to ?_) | (with_reducible refine ite_to (fun _ => ?_) (fun _ => ?_))) <;> try (exfalso; omega)
      rw [List.drop_of_length_le (by omega)]; rfl
    | succ n ih =>
      intro t q hn h0 h1 q0 q1
      have ha := hw _ (ix_mem h0 (by omega : t < w.length))
      have hr := h.rowlen q0 q1
      have hs := h.stpb q0 q1 ha.1 ha.2
      rw [det_After_L2_eq]; unfold det_After_L2_B
      (try dsimp only); (repeat' first | (with_reducible refine G_to ?_ ?_; focus (first | omega | (unfold fits; omega) | (unfold room; (try simp only [List.length_append, List.length_cons, List.length_nil]); omega))) | (with_reducible refine both_to ?_ ?_) | (with_reducible refine itet_to ?_) | (with_reducible refine itef_to ?_) | (with_reducible refine ite_to (fun _ => ?_) (fun _ => ?_))) <;> try (exfalso; omega)
      rw [ix_drop h0 (by omega)]
      exact ih (t + 1) _ (by omega) (by omega) (by omega) hs.1 hs.2
  exact key _ 0 q rfl (by omega) (by omega) q0 q1

/- a word's piece is accepted from a state -/
def VA (d : Dt) (w : List Int) : Nat → Int → Int → Prop
  | 0, q, _ => ix d.2.2.2.1 q = 1
  | l + 1, q, i => VA d w l (stp d.2.2.1 q (ix w i)) (i + 1)
abbrev K3 := Int × Int × Int × Unit
abbrev Rul := Int × List Int × Unit
abbrev Chc := Int × List Int × Unit
/-- The other name of the first state. -/
def nm (d : Dt) (q : Int) : Int := if q = d.2.1 then 0 else if q = 0 then d.2.1 else q
section
variable {d : Dt} {w : List Int}
theorem nm_nm (q : Int) : nm d (nm d q) = q := by
  unfold nm
  split <;> split <;> (try split) <;> omega
theorem nm_b (h : DOk 3000 badD d) {q : Int} (q0 : 0 ≤ q) (q1 : q < d.2.2.1.length) : 0 ≤ nm d q ∧ nm d q < d.2.2.1.length := by
  have := h.st
  unfold nm
  split
  · omega
  · split <;> omega
theorem named_spec (h : DOk 3000 badD d) {q : Int} (q0 : 0 ≤ q) (q1 : q < d.2.2.1.length) : top_named d q = some (d.1 + nm d q) := by
  have := h.st; have := h.n1; have := h.let1
  unfold top_named nm
  by_cases c1 : q = d.2.1
  · rw [if_pos (decide_eq_true c1), if_pos c1, Int.add_zero]
  · rw [if_neg (by simpa using c1), if_neg c1]
    by_cases c2 : q = 0
    · rw [if_pos (decide_eq_true c2), if_pos c2, G_pos (by unfold fits; omega)]
    · rw [if_neg (by simpa using c2), if_neg c2, G_pos (by unfold fits; omega)]
/-- The rules of an automaton. -/
structure Rls (d : Dt) (Mk : List Rul) : Prop where
  ln : Mk.length ≤ 20
  r : ∀ k : Int, 0 ≤ k → k < Mk.length → (0 ≤ (ix Mk k).1 ∧ (ix Mk k).1 < d.2.2.1.length) ∧
    (((ix Mk k).2.1 = [] ∧ ix d.2.2.2.1 (nm d (ix Mk k).1) = 1) ∨ ∃ a : Int, 0 ≤ a ∧ a < d.1 ∧ (ix Mk k).2.1 = [a, d.1 + nm d (stp d.2.2.1 (nm d (ix Mk k).1) a)])
  e : ∀ q : Int, 0 ≤ q → q < d.2.2.1.length → ix d.2.2.2.1 q = 1 → ∃ k : Int, 0 ≤ k ∧ k < Mk.length ∧ (ix Mk k).1 = nm d q ∧ (ix Mk k).2.1 = []
  s : ∀ q a : Int, 0 ≤ q → q < d.2.2.1.length → 0 ≤ a → a < d.1 → ∃ k : Int, 0 ≤ k ∧ k < Mk.length ∧ (ix Mk k).1 = nm d q ∧ (ix Mk k).2.1 = [a, d.1 + nm d (stp d.2.2.1 q a)]
/-- What stands in the chart is so. -/
structure CI (d : Dt) (w : List Int) (Mk : List Rul) (ks : List K3) (cv : List Int) (bv : List Chc) : Prop where
  nd : ks.Nodup
  lc : cv.length = ks.length
  lb : bv.length = ks.length
  v : ∀ p : Nat, p < ks.length → (0 ≤ (ix ks (p : Int)).1 ∧ (ix ks (p : Int)).1 < d.2.2.1.length) ∧ (0 ≤ (ix ks (p : Int)).2.1 ∧ (ix ks (p : Int)).2.1 ≤ (ix ks (p : Int)).2.2.1 ∧ (ix ks (p : Int)).2.2.1 ≤ w.length) ∧
    VA d w ((ix ks (p : Int)).2.2.1 - (ix ks (p : Int)).2.1).toNat (nm d (ix ks (p : Int)).1) (ix ks (p : Int)).2.1 ∧ ix cv (p : Int) = (ix ks (p : Int)).2.2.1 - (ix ks (p : Int)).2.1 + 1 ∧
    (0 ≤ (ix bv (p : Int)).1 ∧ (ix bv (p : Int)).1 < Mk.length) ∧
    (((ix ks (p : Int)).2.1 = (ix ks (p : Int)).2.2.1 ∧ (ix Mk (ix bv (p : Int)).1).2.1 = [] ∧ (ix bv (p : Int)).2.1 = []) ∨
      ((ix ks (p : Int)).2.1 < (ix ks (p : Int)).2.2.1 ∧ (ix Mk (ix bv (p : Int)).1).2.1 = [ix w (ix ks (p : Int)).2.1, d.1 + nm d (stp d.2.2.1 (nm d (ix ks (p : Int)).1) (ix w (ix ks (p : Int)).2.1))] ∧ (ix bv (p : Int)).2.1 = [(ix ks (p : Int)).2.1 + 1, (ix ks (p : Int)).2.2.1] ∧
        (nm d (stp d.2.2.1 (nm d (ix ks (p : Int)).1) (ix w (ix ks (p : Int)).2.1)), (ix ks (p : Int)).2.1 + 1, (ix ks (p : Int)).2.2.1, ()) ∈ ks))
/-- All pieces of a size are there. -/
def Cmp (d : Dt) (w : List Int) (ks : List K3) (s : Int) : Prop := ∀ A i : Int, 0 ≤ A → A < d.2.2.1.length → 0 ≤ i → i + s ≤ w.length → VA d w s.toNat (nm d A) i → (A, i, i + s, ()) ∈ ks
abbrev CT := Int × Int × List Rul × List Int × List K3 × List Int × List K3 × List Chc
theorem mfix {ks : List K3} {x : K3} {j : Nat} (h : mfind ks x = some j) : j < ks.length ∧ ix ks (j : Int) = x := by
  have h1 := mfind_lt h
  have h2 := mfind_get h
  refine ⟨h1, ?_⟩
  rw [List.getElem?_eq_getElem h1] at h2
  rw [ix_eq (l := ks) (by omega) (by omega)]
  simpa using h2
theorem of_spec {Mk : List Rul} {ks : List K3} {cv : List Int} {bv : List Chc} (h : CI d w Mk ks cv bv) {A i j n : Int} : gram_chart_of A i j d.1 n Mk w ks cv ks bv = some (if (A, i, j, ()) ∈ ks then j - i + 1 else 1099511627776, d.1, n, Mk, w, ks, cv, ks, bv) := by
  unfold gram_chart_of
  by_cases c : (A, i, j, ()) ∈ ks
  · obtain ⟨p, hp⟩ := mfind_mem c
    obtain ⟨hl, hx⟩ := mfix hp
    rw [if_pos (by unfold mhas; rw [hp]; rfl), if_pos c]
    have hv := (h.v p hl).2.2.2.1
    rw [hx] at hv
    have : mget ks cv (A, i, j, ()) 0 = ix cv (p : Int) := by
      unfold mget; rw [hp]
      rw [ix_eq (by omega) (by have := h.lc; omega)]
      simp [List.getD_eq_getElem?_getD, List.getElem?_eq_getElem (by have := h.lc; omega : p < cv.length)]
    rw [this, hv]
  · rw [if_neg (by unfold mhas; rw [mfind_none.2 c]; simp), if_neg c]
theorem row0 {Mk : List Rul} {n : Int} {ks : List K3} {cv : List Int} {bv : List Chc} {i j : Int} : gram_chart_row [] i j d.1 n Mk w ks cv ks bv = some (if i = j then 0 else 1099511627776, [], d.1, n, Mk, w, ks, cv, ks, bv) := by
  rw [gram_chart_row_eq]; unfold gram_chart_row_B
  rw [if_pos (by simp)]
  by_cases c : i = j
  · rw [if_pos (decide_eq_true c), if_pos c]
  · rw [if_neg (by simpa using c), if_neg c]
theorem row1 (hd : DOk 3000 badD d) {Mk : List Rul} {n : Int} {ks : List K3} {cv : List Int} {bv : List Chc} (h : CI d w Mk ks cv bv) {B i j : Int} (B0 : 0 ≤ B) (B1 : B < d.2.2.1.length) (i0 : 0 ≤ i) (ij : i ≤ j) (jw : j ≤ w.length) (hw : w.length ≤ 60) :
    gram_chart_row [d.1 + B] i j d.1 n Mk w ks cv ks bv = some (if (B, i, j, ()) ∈ ks then j - i + 1 else 1099511627776, if (B, i, j, ()) ∈ ks then [j] else [], d.1, n, Mk, w, ks, cv, ks, bv) := by
  have hl := hd.let1; have hn := hd.n1
  have hcut : cut [d.1 + B] (1 : Int) (([d.1 + B] : List Int).length : Int) = [] := rfl
  have hx0 : ix [d.1 + B] (0 : Int) = d.1 + B := rfl
  -- before the end nothing comes
  have step : ∀ k : Int, i ≤ k → k < j → gram_chart_row_L8 gram_chart_row [d.1 + B] i j 1099511627776 k d.1 n Mk w ks cv ks bv [] = gram_chart_row_L8 gram_chart_row [d.1 + B] i j 1099511627776 (k + 1) d.1 n Mk w ks cv ks bv [] := by
    intro k k0 k1
    conv => lhs; rw [gram_chart_row_L8_eq]; unfold gram_chart_row_L8_B
    rw [hx0, if_pos (decide_eq_true (by omega)), if_pos (decide_eq_true (by omega)), G_pos (by unfold fits; omega), show d.1 + B - d.1 = B by omega]
    refine bind_to (of_spec h) ?_
    unfold gram_chart_row_J14
    dsimp only
    by_cases c : (B, i, k, ()) ∈ ks
    · rw [if_pos c, if_neg (by simp only [decide_eq_true_eq]; omega), G_pos (by simp), hcut]
      refine bind_to row0 ?_
      dsimp only
      rw [if_neg (show ¬ k = j by omega), G_pos (by unfold fits; omega), if_neg (by simp only [decide_eq_true_eq]; omega), G_pos (by unfold fits; omega)]
    · rw [if_neg c, if_pos (by simp), G_pos (by unfold fits; omega)]
  have all : ∀ (m : Nat) (k : Int), i ≤ k → k + m = j → gram_chart_row_L8 gram_chart_row [d.1 + B] i j 1099511627776 k d.1 n Mk w ks cv ks bv [] = gram_chart_row_L8 gram_chart_row [d.1 + B] i j 1099511627776 j d.1 n Mk w ks cv ks bv [] := by
    intro m
    induction m with
    | zero => intro k k0 hk; rw [show k = j by omega]
    | succ m ih => intro k k0 hk; rw [step k k0 (by omega)]; exact ih (k + 1) (by omega) (by omega)
  rw [gram_chart_row_eq]; unfold gram_chart_row_B
  rw [if_neg (by simp), G_pos (by simp), all (j - i).toNat i (Int.le_refl i) (by omega), gram_chart_row_L8_eq]; unfold gram_chart_row_L8_B
  rw [hx0, if_pos (by simp), if_pos (decide_eq_true (by omega)), G_pos (by unfold fits; omega), show d.1 + B - d.1 = B by omega]
  refine bind_to (of_spec h) ?_
  unfold gram_chart_row_J14
  dsimp only
  by_cases c : (B, i, j, ()) ∈ ks
  · rw [if_pos c, if_neg (by simp only [decide_eq_true_eq]; omega), G_pos (by simp), hcut]
    refine bind_to row0 ?_
    dsimp only
    rw [if_pos rfl, G_pos (by unfold fits; omega), if_pos (by simp only [decide_eq_true_eq]; omega), G_pos (by unfold fits; omega), G_pos (by unfold room; simp), G_pos (by unfold fits; omega), gram_chart_row_L8_eq]; unfold gram_chart_row_L8_B
    rw [if_neg (by simp only [decide_eq_true_eq]; omega), if_pos c, Int.add_zero]; rfl
  · rw [if_neg c, if_pos (by simp), G_pos (by unfold fits; omega), gram_chart_row_L8_eq]; unfold gram_chart_row_L8_B
    rw [if_neg (by simp only [decide_eq_true_eq]; omega), if_neg c]
theorem row2 (hd : DOk 3000 badD d) {Mk : List Rul} {n : Int} {ks : List K3} {cv : List Int} {bv : List Chc} (h : CI d w Mk ks cv bv) {a B i j : Int} (a0 : 0 ≤ a) (a1 : a < d.1) (B0 : 0 ≤ B) (B1 : B < d.2.2.1.length) (i0 : 0 ≤ i) (ij : i ≤ j) (jw : j ≤ w.length) (hw : w.length ≤ 60) :
    gram_chart_row [a, d.1 + B] i j d.1 n Mk w ks cv ks bv = some (if i < j ∧ ix w i = a ∧ (B, i + 1, j, ()) ∈ ks then j - i else 1099511627776, if i < j ∧ ix w i = a ∧ (B, i + 1, j, ()) ∈ ks then [i + 1, j] else [], d.1, n, Mk, w, ks, cv, ks, bv) := by
  have hl := hd.let1; have hn := hd.n1
  have hcut : cut [a, d.1 + B] (1 : Int) (([a, d.1 + B] : List Int).length : Int) = [d.1 + B] := rfl
  have hx0 : ix [a, d.1 + B] (0 : Int) = a := rfl
  have J13 : ∀ (best k : Int) (ends : List Int) (r8), gram_chart_row_J13 gram_chart_row [a, d.1 + B] j best k d.1 n Mk w ks cv ks bv ends r8 false = G (fits (k + 1)) (r8 best (k + 1) d.1 n Mk w ks cv ks bv ends) := by
    intro best k ends r8
    unfold gram_chart_row_J13 gram_chart_row_J14
    rw [if_neg (by decide), if_pos (by simp)]
  have step : ∀ (k best : Int) (ends : List Int), i ≤ k → k ≤ j → ¬ k = i + 1 → gram_chart_row_L8 gram_chart_row [a, d.1 + B] i j best k d.1 n Mk w ks cv ks bv ends = gram_chart_row_L8 gram_chart_row [a, d.1 + B] i j best (k + 1) d.1 n Mk w ks cv ks bv ends := by
    intro k best ends k0 k1 k2
    conv => lhs; rw [gram_chart_row_L8_eq]; unfold gram_chart_row_L8_B
    rw [hx0, if_pos (decide_eq_true (by omega)), if_neg (by simp only [decide_eq_true_eq]; omega), G_pos (by unfold fits; omega), if_neg (by simpa using k2), J13, G_pos (by unfold fits; omega)]
  have fin : ∀ (m : Nat) (k best : Int) (ends : List Int), i + 2 ≤ k → k + m = j + 1 → gram_chart_row_L8 gram_chart_row [a, d.1 + B] i j best k d.1 n Mk w ks cv ks bv ends = some (best, ends, d.1, n, Mk, w, ks, cv, ks, bv) := by
    intro m
    induction m with
    | zero =>
      intro k best ends k0 hk
      rw [gram_chart_row_L8_eq]; unfold gram_chart_row_L8_B
      rw [if_neg (by simp only [decide_eq_true_eq]; omega)]
    | succ m ih =>
      intro k best ends k0 hk
      rw [step k best ends (by omega) (by omega) (by omega)]
      exact ih (k + 1) best ends (by omega) (by omega)
  rw [gram_chart_row_eq]; unfold gram_chart_row_B
  rw [if_neg (by simp), G_pos (by simp), step i _ _ (Int.le_refl i) ij (by omega)]
  by_cases c1 : i < j
  · rw [gram_chart_row_L8_eq]; unfold gram_chart_row_L8_B
    rw [hx0, if_pos (decide_eq_true (by omega)), if_neg (by simp only [decide_eq_true_eq]; omega), G_pos (by unfold fits; omega), if_pos (by simp), G_pos (by omega)]
    by_cases c2 : ix w i = a
    · rw [decide_eq_true c2]
      unfold gram_chart_row_J13 gram_chart_row_J14
      rw [if_pos rfl, if_neg (by simp), G_pos (by simp), hcut]
      refine bind_to (row1 hd h B0 B1 (by omega) (by omega) jw hw) ?_
      dsimp only
      by_cases c3 : (B, i + 1, j, ()) ∈ ks
      · rw [if_pos c3, if_pos c3, if_pos (⟨c1, c2, c3⟩ : i < j ∧ ix w i = a ∧ (B, i + 1, j, ()) ∈ ks), if_pos (⟨c1, c2, c3⟩ : i < j ∧ ix w i = a ∧ (B, i + 1, j, ()) ∈ ks), G_pos (by unfold fits; omega), if_pos (by simp only [decide_eq_true_eq]; omega), G_pos (by unfold fits; omega), G_pos (by unfold room; simp), G_pos (by unfold fits; omega), fin (j - i - 1).toNat _ _ _ (by omega) (by omega)]
        rw [show 0 + (j - (i + 1) + 1) = j - i by omega]; rfl
      · rw [if_neg c3, if_neg c3, if_neg (c := i < j ∧ ix w i = a ∧ (B, i + 1, j, ()) ∈ ks) (fun h => c3 h.2.2), if_neg (c := i < j ∧ ix w i = a ∧ (B, i + 1, j, ()) ∈ ks) (fun h => c3 h.2.2), G_pos (by unfold fits; omega), if_neg (by simp only [decide_eq_true_eq]; omega), G_pos (by unfold fits; omega), fin (j - i - 1).toNat _ _ _ (by omega) (by omega)]
    · rw [decide_eq_false c2, J13, G_pos (by unfold fits; omega), fin (j - i - 1).toNat _ _ _ (by omega) (by omega), if_neg (fun h => c2 h.2.1), if_neg (fun h => c2 h.2.1)]
  · rw [gram_chart_row_L8_eq]; unfold gram_chart_row_L8_B
    rw [if_neg (by simp only [decide_eq_true_eq]; omega), if_neg (fun h => c1 h.1), if_neg (fun h => c1 h.1)]
end
section
variable {d : Dt} {w : List Int}
/-- A rule leads to a piece. -/
def Ap (d : Dt) (w : List Int) (Mk : List Rul) (ks : List K3) (k i s : Int) : Prop := ((ix Mk k).2.1 = [] ∧ s = 0) ∨ (0 < s ∧ ∃ B : Int, (0 ≤ B ∧ B < d.2.2.1.length) ∧ (ix Mk k).2.1 = [ix w i, d.1 + B] ∧ (B, i + 1, i + s, ()) ∈ ks)
theorem row_spec (hd : DOk 3000 badD d) {Mk : List Rul} (hR : Rls d Mk) {n : Int} {ks : List K3} {cv : List Int} {bv : List Chc} (h : CI d w Mk ks cv bv) {k i s : Int} (k0 : 0 ≤ k) (k1 : k < Mk.length) (i0 : 0 ≤ i) (s0 : 0 ≤ s) (is : i + s ≤ w.length) (hw : w.length ≤ 60) :
    ∃ m ends, gram_chart_row (ix Mk k).2.1 i (i + s) d.1 n Mk w ks cv ks bv = some (m, ends, d.1, n, Mk, w, ks, cv, ks, bv) ∧ ((Ap d w Mk ks k i s ∧ m = s ∧ ((s = 0 ∧ (ix Mk k).2.1 = [] ∧ ends = []) ∨ (0 < s ∧ ends = [i + 1, i + s]))) ∨ (¬ Ap d w Mk ks k i s ∧ m = 1099511627776)) := by
  obtain ⟨⟨r1, r2⟩, r3⟩ := hR.r k k0 k1
  have hA : nm d (ix Mk k).1 = nm d (ix Mk k).1 := rfl
  rcases r3 with ⟨e, _⟩ | ⟨a, a0, a1, e⟩
  · rw [e]
    refine ⟨_, _, row0, ?_⟩
    by_cases c : s = 0
    · rw [if_pos (by omega)]
      exact .inl ⟨.inl ⟨e, c⟩, c.symm, .inl ⟨c, e ▸ rfl, rfl⟩⟩
    · rw [if_neg (by omega)]
      refine .inr ⟨?_, rfl⟩
      rintro (⟨_, h⟩ | ⟨_, B, _, h, _⟩)
      · exact c h
      · rw [e] at h; cases h
  · have hq := nm_b hd r1 r2
    have hs := hd.tab.stpb hq.1 hq.2 a0 a1
    have hB := nm_b hd hs.1 hs.2
    have e' := e
    rw [e]
    obtain ⟨B, eB⟩ : ∃ B, nm d (stp d.2.2.1 (nm d (ix Mk k).1) a) = B := ⟨_, rfl⟩
    rw [eB] at hB e ⊢
    refine ⟨_, _, row2 hd h a0 a1 hB.1 hB.2 i0 (by omega) is hw, ?_⟩
    by_cases c : i < i + s ∧ ix w i = a ∧ (B, i + 1, i + s, ()) ∈ ks
    · rw [if_pos c, if_pos c]
      exact .inl ⟨.inr ⟨by omega, B, hB, by rw [e, c.2.1], c.2.2⟩, by omega, .inr ⟨by omega, rfl⟩⟩
    · rw [if_neg c]
      refine .inr ⟨?_, rfl⟩
      rintro (⟨h, _⟩ | ⟨h, B2, _, h2, h3⟩)
      · rw [e] at h; cases h
      · rw [e] at h2
        have e1 : a = ix w i := by injection h2
        have e2 : d.1 + B = d.1 + B2 := by injection h2 with _ h2; injection h2
        have : B = B2 := by omega
        subst this
        exact c ⟨by omega, e1.symm, h3⟩
theorem CI.add (hd : DOk 3000 badD d) {Mk : List Rul} (hR : Rls d Mk) {ks : List K3} {cv : List Int} {bv : List Chc} (h : CI d w Mk ks cv bv) {k i s : Int} {ends : List Int} (k0 : 0 ≤ k) (k1 : k < Mk.length) (i0 : 0 ≤ i) (s0 : 0 ≤ s) (is : i + s ≤ w.length) (hw : ∀ x ∈ w, 0 ≤ x ∧ x < d.1) (ha : Ap d w Mk ks k i s) (he : (s = 0 ∧ (ix Mk k).2.1 = [] ∧ ends = []) ∨ (0 < s ∧ ends = [i + 1, i + s]))
    (hn : ((ix Mk k).1, i, i + s, ()) ∉ ks) : CI d w Mk (ks ++ [((ix Mk k).1, i, i + s, ())]) (cv ++ [s + 1]) (bv ++ [(k, ends, ())]) := by
  have hlc := h.lc; have hlb := h.lb
  obtain ⟨⟨r1, r2⟩, r3⟩ := hR.r k k0 k1
  refine ⟨?_, by simp [hlc], by simp [hlb], fun p hp => ?_⟩
  · rw [List.nodup_append]
    exact ⟨h.nd, by simp, fun a ha b hb => by rw [List.mem_singleton] at hb; subst hb; exact fun e => hn (e ▸ ha)⟩
  · rw [List.length_append, List.length_singleton] at hp
    by_cases e : p = ks.length
    · subst e
      have e1 : ix (ks ++ [((ix Mk k).1, i, i + s, ())]) (ks.length : Int) = ((ix Mk k).1, i, i + s, ()) := ix_append_last
      have e2 : ix (cv ++ [s + 1]) (ks.length : Int) = s + 1 := by rw [← hlc, ix_append_last]
      have e3 : ix (bv ++ [(k, ends, ())]) (ks.length : Int) = (k, ends, ()) := by rw [← hlb, ix_append_last]
      rw [e1, e2, e3]
      dsimp only
      refine ⟨⟨r1, r2⟩, ⟨i0, by omega, is⟩, ?_, by omega, ⟨k0, k1⟩, ?_⟩
      · rw [show (i + s - i).toNat = s.toNat by omega]
        rcases ha with ⟨t1, t2⟩ | ⟨t1, B, hB, t2, t3⟩
        · subst t2
          rcases r3 with ⟨_, m⟩ | ⟨a, _, _, e⟩
          · exact m
          · rw [e] at t1; cases t1
        · rcases r3 with ⟨e, _⟩ | ⟨a, a0, a1, e⟩
          · rw [e] at t2; cases t2
          · rw [e] at t2
            have e1 : a = ix w i := by injection t2
            have e2 : d.1 + nm d (stp d.2.2.1 (nm d (ix Mk k).1) a) = d.1 + B := by injection t2 with _ h2; injection h2
            obtain ⟨p, hp⟩ := mfind_mem t3
            obtain ⟨hl, hx⟩ := mfix hp
            have hv := (h.v p hl).2.2.1
            rw [hx] at hv
            dsimp only at hv
            rw [show (i + s - (i + 1)).toNat = s.toNat - 1 by omega] at hv
            have eB : nm d B = stp d.2.2.1 (nm d (ix Mk k).1) (ix w i) := by
              have : B = nm d (stp d.2.2.1 (nm d (ix Mk k).1) a) := by omega
              rw [this, nm_nm, e1]
            rw [eB] at hv
            rw [show s.toNat = (s.toNat - 1) + 1 by omega]
            exact hv
      · rcases ha with ⟨t1, t2⟩ | ⟨t1, B, hB, t2, t3⟩
        · refine .inl ⟨by omega, t1, ?_⟩
          rcases he with ⟨_, _, he⟩ | ⟨he, _⟩
          · exact he
          · omega
        · refine .inr ⟨by omega, ?_, ?_, ?_⟩
          · rcases r3 with ⟨e, _⟩ | ⟨a, a0, a1, e⟩
            · rw [e] at t2; cases t2
            · have e1 : a = ix w i := by rw [e] at t2; injection t2
              rw [e, e1]
          · rcases he with ⟨he, _⟩ | ⟨_, he⟩
            · omega
            · exact he
          · rcases r3 with ⟨e, _⟩ | ⟨a, a0, a1, e⟩
            · rw [e] at t2; cases t2
            · rw [e] at t2
              have e1 : a = ix w i := by injection t2
              have e2 : d.1 + nm d (stp d.2.2.1 (nm d (ix Mk k).1) a) = d.1 + B := by injection t2 with _ h2; injection h2
              have : nm d (stp d.2.2.1 (nm d (ix Mk k).1) (ix w i)) = B := by rw [← e1]; omega
              rw [this]
              exact List.mem_append.2 (.inl t3)
    · have hp' : p < ks.length := by omega
      rw [ix_append_left (by omega) (by omega), ix_append_left (by omega) (by omega), ix_append_left (by omega) (by omega)]
      obtain ⟨v1, v2, v3, v4, v5, v6⟩ := h.v p hp'
      exact ⟨v1, v2, v3, v4, v5, v6.imp id (fun ⟨a, b, c, d⟩ => ⟨a, b, c, List.mem_append.2 (.inl d)⟩)⟩
abbrev R12 := Bool → Int → Int → Int → List Rul → List Int → List K3 → List Int → List K3 → List Chc → Option CT
theorem J16_new {Mk : List Rul} {nn : Int} {ks : List K3} {cv : List Int} {bv : List Chc} (h : CI d w Mk ks cv bv) {k i s m : Int} {ends : List Int} {ag : Bool} {r12 : R12} (hk : 0 ≤ k ∧ k < 1000) (hm : 0 ≤ m ∧ m ≤ 1000) (hn : ((ix Mk k).1, i, i + s, ()) ∉ ks) {g2 : Int × Int × List Rul × Unit} (hg : g2.2.2.1 = Mk) :
    gram_charted_J16 g2 s i ag k r12 m ends true d.1 nn Mk w ks cv ks bv = r12 true (k + 1) d.1 nn Mk w (ks ++ [((ix Mk k).1, i, i + s, ())]) (cv ++ [m + 1]) (ks ++ [((ix Mk k).1, i, i + s, ())]) (bv ++ [(k, ends, ())]) := by
  have hlc := h.lc; have hlb := h.lb
  have e1 : mputK ks ((ix Mk k).1, i, i + s, ()) = ks ++ [((ix Mk k).1, i, i + s, ())] := mputK_new hn
  have e2 : ∀ {β : Type} (vs : List β) (z : β), mputZ ks vs ((ix Mk k).1, i, i + s, ()) z = vs ++ [z] := fun vs z => by unfold mputZ; rw [mfind_none.2 hn]
  have e3 : mpos ks ((ix Mk k).1, i, i + s, ()) = (ks.length : Int) := by unfold mpos; rw [mfind_none.2 hn]
  have e4 : imin (m + 1) 1099511627775 = m + 1 := by unfold imin; split <;> omega
  have e5 : (cv ++ [(0 : Int)]).set ((ks.length : Int)).toNat (m + 1) = cv ++ [m + 1] := by
    rw [Int.toNat_natCast, ← hlc, List.set_append_right _ _ (Nat.le_refl _)]; simp
  have e6 : (bv ++ [((0, ([], ())) : Chc)]).set ((ks.length : Int)).toNat (k, ends, ()) = bv ++ [(k, ends, ())] := by
    rw [Int.toNat_natCast, ← hlb, List.set_append_right _ _ (Nat.le_refl _)]; simp
  have fin : gram_charted_J17 k r12 d.1 nn Mk w (mputK ks ((ix Mk k).1, i, i + s, ())) ((mputZ ks cv ((ix Mk k).1, i, i + s, ()) (0 : Int)).set (mpos ks ((ix Mk k).1, i, i + s, ())).toNat (imin (m + 1) 1099511627775)) (mputK ks ((ix Mk k).1, i, i + s, ())) ((mputZ ks bv ((ix Mk k).1, i, i + s, ()) ((0, ([], ())) : Chc)).set (mpos ks ((ix Mk k).1, i, i + s, ())).toNat (k, ends, ())) = r12 true (k + 1) d.1 nn Mk w (ks ++ [((ix Mk k).1, i, i + s, ())]) (cv ++ [m + 1]) (ks ++ [((ix Mk k).1, i, i + s, ())]) (bv ++ [(k, ends, ())]) := by
    unfold gram_charted_J17
    rw [G_pos (by unfold fits; omega), e1, e2, e2, e3, e4, e5, e6]
  have g1 : 0 ≤ mpos ks ((ix Mk k).1, i, i + s, ()) ∧ mpos ks ((ix Mk k).1, i, i + s, ()) < ((mputZ ks cv ((ix Mk k).1, i, i + s, ()) (0 : Int)).length : Int) := by
    rw [e2, e3, List.length_append, List.length_singleton]; omega
  have g3 : 0 ≤ mpos ks ((ix Mk k).1, i, i + s, ()) ∧ mpos ks ((ix Mk k).1, i, i + s, ()) < ((mputZ ks bv ((ix Mk k).1, i, i + s, ()) ((0, ([], ())) : Chc)).length : Int) := by
    rw [e2, e3, List.length_append, List.length_singleton]; omega
  unfold gram_charted_J16
  rw [if_pos rfl, G_pos (by unfold fits; omega), hg]
  repeat' first | exact G_to g1 (G_to g3 fin) | refine both_to ?_ ?_
theorem J16_old {nn : Int} {Mk : List Rul} {ks : List K3} {cv : List Int} {bv : List Chc} {k i s m : Int} {ends : List Int} {ag : Bool} {r12 : R12} (hk : 0 ≤ k ∧ k < 1000) {g2 : Int × Int × List Rul × Unit} :
    gram_charted_J16 g2 s i ag k r12 m ends false d.1 nn Mk w ks cv ks bv = r12 ag (k + 1) d.1 nn Mk w ks cv ks bv := by
  unfold gram_charted_J16
  rw [if_neg (by decide), G_pos (by unfold fits; omega)]
/-- What a pass leaves behind. -/
structure PO (d : Dt) (w : List Int) (Mk : List Rul) (s : Int) (ag : Bool) (ks : List K3) (cv : List Int) (bv : List Chc) (ag' : Bool) (ks' : List K3) (cv' : List Int) (bv' : List Chc) : Prop where
  ci : CI d w Mk ks' cv' bv'
  mono : ∀ x ∈ ks, x ∈ ks'
  alt : (ag' = ag ∧ ks' = ks ∧ cv' = cv ∧ bv' = bv) ∨ (ag' = true ∧ ¬ Cmp d w ks s)
theorem PO.trans {Mk : List Rul} {s : Int} {a1 a2 a3 : Bool} {k1 k2 k3 : List K3} {c1 c2 c3 : List Int} {b1 b2 b3 : List Chc} (h : PO d w Mk s a1 k1 c1 b1 a2 k2 c2 b2) (k : PO d w Mk s a2 k2 c2 b2 a3 k3 c3 b3) : PO d w Mk s a1 k1 c1 b1 a3 k3 c3 b3 := by
  refine ⟨k.ci, fun x hx => k.mono x (h.mono x hx), ?_⟩
  rcases h.alt with ⟨rfl, rfl, rfl, rfl⟩ | ⟨rfl, hn⟩
  · exact k.alt
  · rcases k.alt with ⟨rfl, _, _, _⟩ | ⟨rfl, _⟩ <;> exact .inr ⟨rfl, hn⟩
theorem L12_spec (hd : DOk 3000 badD d) {Mk : List Rul} (hR : Rls d Mk) {g2 : Int × Int × List Rul × Unit} (hg : g2.2.2.1 = Mk) {nn : Int} {i s : Int} (i0 : 0 ≤ i) (s0 : 0 ≤ s) (is : i + s ≤ w.length) (hw : ∀ x ∈ w, 0 ≤ x ∧ x < d.1) (hwl : w.length ≤ 60) {r9 : R12} : ∀ (m : Nat) (k : Int) (ag : Bool) (ks : List K3) (cv : List Int) (bv : List Chc), 0 ≤ k → k + m = Mk.length → CI d w Mk ks cv bv →
    ∃ ag' ks' cv' bv', gram_charted_L12 g2 s i r9 ag k d.1 nn Mk w ks cv ks bv = r9 ag' (i + 1) d.1 nn Mk w ks' cv' ks' bv' ∧ PO d w Mk s ag ks cv bv ag' ks' cv' bv' ∧ ∀ j : Int, k ≤ j → j < Mk.length → Ap d w Mk ks j i s → ((ix Mk j).1, i, i + s, ()) ∈ ks' := by
  have hln := hR.ln
  intro m
  induction m with
  | zero =>
    intro k ag ks cv bv k0 hk h
    refine ⟨ag, ks, cv, bv, ?_, ⟨h, fun x hx => hx, .inl ⟨rfl, rfl, rfl, rfl⟩⟩, fun j j0 j1 => by omega⟩
    rw [gram_charted_L12_eq]; unfold gram_charted_L12_B
    rw [hg, if_neg (by simp only [decide_eq_true_eq]; omega), G_pos (by unfold fits; omega)]
  | succ m ih =>
    intro k ag ks cv bv k0 hk h
    have k1 : k < Mk.length := by omega
    obtain ⟨mm, ends, er, hr⟩ := row_spec hd hR (n := nn) h k0 k1 i0 s0 is hwl
    have hf1 : fits (i + s) := by unfold fits; omega
    obtain ⟨⟨r1, r2⟩, _⟩ := hR.r k k0 k1
    have e0 : ∀ X, gram_charted_L12_B g2 s i r9 (gram_charted_L12 g2 s i r9) ag k d.1 nn Mk w ks cv ks bv = X → gram_charted_L12 g2 s i r9 ag k d.1 nn Mk w ks cv ks bv = X := fun X h => by rw [gram_charted_L12_eq]; exact h
    have apmono : ∀ (ks' : List K3), (∀ x ∈ ks, x ∈ ks') → ∀ j, Ap d w Mk ks j i s → Ap d w Mk ks' j i s := fun ks' hm j h => h.imp id (fun ⟨a, B, b, c, e⟩ => ⟨a, B, b, c, hm _ e⟩)
    have old : ((ix Mk k).1, i, i + s, ()) ∈ ks ∨ ¬ Ap d w Mk ks k i s → gram_charted_L12 g2 s i r9 ag k d.1 nn Mk w ks cv ks bv = gram_charted_L12 g2 s i r9 ag (k + 1) d.1 nn Mk w ks cv ks bv → ∃ ag' ks' cv' bv', gram_charted_L12 g2 s i r9 ag k d.1 nn Mk w ks cv ks bv = r9 ag' (i + 1) d.1 nn Mk w ks' cv' ks' bv' ∧ PO d w Mk s ag ks cv bv ag' ks' cv' bv' ∧ ∀ j : Int, k ≤ j → j < Mk.length → Ap d w Mk ks j i s → ((ix Mk j).1, i, i + s, ()) ∈ ks' := by
      intro hc e
      obtain ⟨ag', ks', cv', bv', e', hp, ha⟩ := ih (k + 1) ag ks cv bv (by omega) (by omega) h
      refine ⟨ag', ks', cv', bv', e.trans e', hp, fun j j0 j1 hj => ?_⟩
      by_cases ej : j = k
      · rw [ej] at hj ⊢
        rcases hc with hc | hc
        · exact hp.mono _ hc
        · exact absurd hj hc
      · exact ha j (by omega) j1 hj
    rcases hr with ⟨hap, rfl, hends⟩ | ⟨hnap, rfl⟩
    · by_cases c : ((ix Mk k).1, i, i + mm, ()) ∈ ks
      · refine old (.inl c) (e0 _ ?_)
        unfold gram_charted_L12_B
        rw [hg, if_pos (decide_eq_true k1), G_pos (by omega), G_pos hf1]
        refine bind_to er ?_
        rw [G_pos hf1, if_pos (decide_eq_true (show mm < 1099511627776 by omega)), G_pos (show fits (mm + 1) by unfold fits; omega), G_pos hf1]
        refine bind_to (of_spec h) ?_
        dsimp only
        rw [if_pos c, decide_eq_false (by omega)]
        exact J16_old ⟨k0, by omega⟩
      · have hci := h.add hd hR k0 k1 i0 s0 is hw hap hends c
        obtain ⟨ag', ks', cv', bv', e', hp, ha⟩ := ih (k + 1) true _ _ _ (by omega) (by omega) hci
        have hnc : ¬ Cmp d w ks mm := fun hcm => by
          have hv := (hci.v ks.length (by simp)).2.2.1
          rw [ix_append_last] at hv
          dsimp only at hv
          rw [show (i + mm - i).toNat = mm.toNat by omega] at hv
          exact c (hcm _ i r1 r2 i0 is hv)
        refine ⟨ag', ks', cv', bv', (e0 _ ?_).trans e', ⟨hp.ci, fun x hx => hp.mono x (List.mem_append.2 (.inl hx)), ?_⟩, fun j j0 j1 hj => ?_⟩
        · unfold gram_charted_L12_B
          rw [hg, if_pos (decide_eq_true k1), G_pos (by omega), G_pos hf1]
          refine bind_to er ?_
          rw [G_pos hf1, if_pos (decide_eq_true (show mm < 1099511627776 by omega)), G_pos (show fits (mm + 1) by unfold fits; omega), G_pos hf1]
          refine bind_to (of_spec h) ?_
          dsimp only
          rw [if_neg c, decide_eq_true (by omega)]
          exact J16_new h ⟨k0, by omega⟩ ⟨s0, by omega⟩ c hg
        · rcases hp.alt with ⟨rfl, _, _, _⟩ | ⟨rfl, _⟩ <;> exact .inr ⟨rfl, hnc⟩
        · by_cases ej : j = k
          · rw [ej]; exact hp.mono _ (List.mem_append.2 (.inr (List.mem_singleton.2 rfl)))
          · exact ha j (by omega) j1 (apmono _ (fun x hx => List.mem_append.2 (.inl hx)) j hj)
    · refine old (.inr hnap) (e0 _ ?_)
      unfold gram_charted_L12_B
      rw [hg, if_pos (decide_eq_true k1), G_pos (by omega), G_pos hf1]
      refine bind_to er ?_
      rw [G_pos hf1, if_neg (by simp)]
      exact J16_old ⟨k0, by omega⟩
theorem L9_spec (hd : DOk 3000 badD d) {Mk : List Rul} (hR : Rls d Mk) {g2 : Int × Int × List Rul × Unit} (hg : g2.2.2.1 = Mk) {nn : Int} {s : Int} (s0 : 0 ≤ s) (sw : s ≤ w.length) (hw : ∀ x ∈ w, 0 ≤ x ∧ x < d.1) (hwl : w.length ≤ 60) {r6 : Bool → Int → Int → List Rul → List Int → List K3 → List Int → List K3 → List Chc → Option CT} : ∀ (m : Nat) (i : Int) (ag : Bool) (ks : List K3) (cv : List Int) (bv : List Chc), 0 ≤ i → i + m = w.length - s + 1 → CI d w Mk ks cv bv →
    ∃ ag' ks' cv' bv', gram_charted_L9 g2 w s r6 ag i d.1 nn Mk w ks cv ks bv = r6 ag' d.1 nn Mk w ks' cv' ks' bv' ∧ PO d w Mk s ag ks cv bv ag' ks' cv' bv' ∧ ∀ j : Int, i ≤ j → j + s ≤ w.length → ∀ k : Int, 0 ≤ k → k < Mk.length → Ap d w Mk ks k j s → ((ix Mk k).1, j, j + s, ()) ∈ ks' := by
  intro m
  induction m with
  | zero =>
    intro i ag ks cv bv i0 hi h
    refine ⟨ag, ks, cv, bv, ?_, ⟨h, fun x hx => hx, .inl ⟨rfl, rfl, rfl, rfl⟩⟩, fun j j0 j1 => by omega⟩
    rw [gram_charted_L9_eq]; unfold gram_charted_L9_B
    rw [G_pos (by unfold fits; omega), if_neg (by simp only [decide_eq_true_eq]; omega)]
  | succ m ih =>
    intro i ag ks cv bv i0 hi h
    obtain ⟨ag1, ks1, cv1, bv1, e1, p1, a1⟩ := L12_spec hd hR hg (nn := nn) i0 s0 (by omega) hw hwl (r9 := gram_charted_L9 g2 w s r6) Mk.length 0 ag ks cv bv (by omega) (by omega) h
    obtain ⟨ag2, ks2, cv2, bv2, e2, p2, a2⟩ := ih (i + 1) ag1 ks1 cv1 bv1 (by omega) (by omega) p1.ci
    refine ⟨ag2, ks2, cv2, bv2, ?_, p1.trans p2, fun j j0 j1 k k0 k1 hk => ?_⟩
    · rw [← e2]
      conv => lhs; rw [gram_charted_L9_eq]; unfold gram_charted_L9_B
      rw [G_pos (by unfold fits; omega), if_pos (decide_eq_true (by omega)), e1]
    · by_cases ej : j = i
      · rw [ej] at hk ⊢
        exact p2.mono _ (a1 k k0 k1 hk)
      · exact a2 j (by omega) j1 k k0 k1 (hk.imp id (fun ⟨a, B, b, c, e⟩ => ⟨a, B, b, c, p1.mono _ e⟩))
theorem cmp_of (hd : DOk 3000 badD d) {Mk : List Rul} (hR : Rls d Mk) {s : Int} (s0 : 0 ≤ s) (hw : ∀ x ∈ w, 0 ≤ x ∧ x < d.1) {ks ks' : List K3} (hp : 0 < s → Cmp d w ks (s - 1)) (ha : ∀ j : Int, 0 ≤ j → j + s ≤ w.length → ∀ k : Int, 0 ≤ k → k < Mk.length → Ap d w Mk ks k j s → ((ix Mk k).1, j, j + s, ()) ∈ ks') : Cmp d w ks' s := by
  intro A i A0 A1 i0 is hv
  have hq := nm_b hd A0 A1
  by_cases c : s = 0
  · subst c
    obtain ⟨k, k0, k1, k2, k3⟩ := hR.e _ hq.1 hq.2 hv
    have := ha i i0 is k k0 k1 (.inl ⟨k3, rfl⟩)
    rwa [k2, nm_nm] at this
  · have hwi := hw _ (ix_mem i0 (by omega : i < w.length))
    have hs := hd.tab.stpb hq.1 hq.2 hwi.1 hwi.2
    have hB := nm_b hd hs.1 hs.2
    obtain ⟨k, k0, k1, k2, k3⟩ := hR.s _ _ hq.1 hq.2 hwi.1 hwi.2
    rw [show s.toNat = (s - 1).toNat + 1 by omega] at hv
    have hv' : VA d w (s - 1).toNat (stp d.2.2.1 (nm d A) (ix w i)) (i + 1) := hv
    have hm := hp (by omega) (nm d (stp d.2.2.1 (nm d A) (ix w i))) (i + 1) hB.1 hB.2 (by omega) (by omega) (by rw [nm_nm]; exact hv')
    rw [show i + 1 + (s - 1) = i + s by omega] at hm
    have := ha i i0 is k k0 k1 (.inr ⟨by omega, _, hB, k3, hm⟩)
    rwa [k2, nm_nm] at this
theorem charted_spec (hd : DOk 3000 badD d) {Mk : List Rul} (hR : Rls d Mk) {nn : Int} (hw : ∀ x ∈ w, 0 ≤ x ∧ x < d.1) (hwl : w.length ≤ 60) : ∃ ks cv bv, gram_charted (d.1, nn, Mk, ()) w = some (d.1, nn, Mk, w, ks, cv, ks, bv) ∧ CI d w Mk ks cv bv ∧ ∀ s : Int, 0 ≤ s → s ≤ w.length → Cmp d w ks s := by
  have key : ∀ (m : Nat) (s : Int) (ks : List K3) (cv : List Int) (bv : List Chc), 0 ≤ s → s + m = w.length + 1 → CI d w Mk ks cv bv → (∀ t : Int, 0 ≤ t → t < s → Cmp d w ks t) →
      ∃ ks' cv' bv', gram_charted_L3 (d.1, nn, Mk, ()) w s d.1 nn Mk w ks cv ks bv = some (d.1, nn, Mk, w, ks', cv', ks', bv') ∧ CI d w Mk ks' cv' bv' ∧ ∀ t : Int, 0 ≤ t → t ≤ w.length → Cmp d w ks' t := by
    intro m
    induction m with
    | zero =>
      intro s ks cv bv s0 hs h hc
      refine ⟨ks, cv, bv, ?_, h, fun t t0 t1 => hc t t0 (by omega)⟩
      rw [gram_charted_L3_eq]; unfold gram_charted_L3_B
      rw [if_neg (by simp only [decide_eq_true_eq]; omega)]
    | succ m ih =>
      intro s ks cv bv s0 hs h hc
      obtain ⟨ag1, ks1, cv1, bv1, e1, p1, a1⟩ := L9_spec hd hR (g2 := (d.1, nn, Mk, ())) rfl (nn := nn) (s := s) s0 (by omega) hw hwl (r6 := gram_charted_L6 (d.1, nn, Mk, ()) w s (gram_charted_L3 (d.1, nn, Mk, ()) w)) ((w.length : Int) - s + 1).toNat 0 false ks cv bv (by omega) (by omega) h
      have hc1 : Cmp d w ks1 s := cmp_of hd hR s0 hw (fun hp => hc (s - 1) (by omega) (by omega)) (fun j j0 j1 k k0 k1 hk => a1 j j0 j1 k k0 k1 hk)
      have hmono : ∀ t : Int, 0 ≤ t → t < s + 1 → Cmp d w ks1 t := fun t t0 t1 => by
        by_cases e : t = s
        · rw [e]; exact hc1
        · intro A i A0 A1 i0 is hv
          exact p1.mono _ (hc t t0 (by omega) A i A0 A1 i0 is hv)
      obtain ⟨ks', cv', bv', e', h'⟩ := ih (s + 1) ks1 cv1 bv1 (by omega) (by omega) p1.ci hmono
      refine ⟨ks', cv', bv', ?_, h'⟩
      have hend : gram_charted_L6 (d.1, nn, Mk, ()) w s (gram_charted_L3 (d.1, nn, Mk, ()) w) false d.1 nn Mk w ks1 cv1 ks1 bv1 = some (d.1, nn, Mk, w, ks', cv', ks', bv') := by
        rw [gram_charted_L6_eq]; unfold gram_charted_L6_B
        rw [if_neg (by decide), G_pos (by unfold fits; omega)]
        exact e'
      rw [gram_charted_L3_eq]; unfold gram_charted_L3_B
      rw [if_pos (decide_eq_true (by omega)), gram_charted_L6_eq]; unfold gram_charted_L6_B
      rw [if_pos rfl, e1]
      cases ag1 with
      | false => exact hend
      | true =>
        obtain ⟨ag2, ks2, cv2, bv2, e2, p2, _⟩ := L9_spec hd hR (g2 := (d.1, nn, Mk, ())) rfl (nn := nn) (s := s) s0 (by omega) hw hwl (r6 := gram_charted_L6 (d.1, nn, Mk, ()) w s (gram_charted_L3 (d.1, nn, Mk, ()) w)) ((w.length : Int) - s + 1).toNat 0 false ks1 cv1 bv1 (by omega) (by omega) p1.ci
        rw [gram_charted_L6_eq]; unfold gram_charted_L6_B
        rw [if_pos rfl, e2]
        rcases p2.alt with ⟨rfl, rfl, rfl, rfl⟩ | ⟨_, hn⟩
        · exact hend
        · exact absurd hc1 hn
  obtain ⟨ks, cv, bv, e, h⟩ := key (w.length + 1) 0 [] [] [] (by omega) (by omega) ⟨by simp, rfl, rfl, fun p hp => by simp at hp⟩ (fun t t0 t1 => by omega)
  exact ⟨ks, cv, bv, by unfold gram_charted; exact e, h⟩
end
section
variable {d : Dt} {w : List Int}
theorem CI.find {Mk : List Rul} {ks : List K3} {cv : List Int} {bv : List Chc} (h : CI d w Mk ks cv bv) {A i : Int} {n : Nat} (hm : (A, i, i + n, ()) ∈ ks) : ∃ k ends, mget ks bv (A, i, i + (n : Int), ()) ((0, ([], ())) : Chc) = (k, ends, ()) ∧ (0 ≤ k ∧ k < Mk.length) ∧ 0 ≤ i ∧ i + n ≤ w.length ∧ (0 ≤ A ∧ A < d.2.2.1.length) ∧
    ((n = 0 ∧ (ix Mk k).2.1 = [] ∧ ends = []) ∨ (0 < n ∧ (ix Mk k).2.1 = [ix w i, d.1 + nm d (stp d.2.2.1 (nm d A) (ix w i))] ∧ ends = [i + 1, i + n] ∧ (nm d (stp d.2.2.1 (nm d A) (ix w i)), i + 1, i + n, ()) ∈ ks)) := by
  obtain ⟨p, hp⟩ := mfind_mem hm
  obtain ⟨hl, hx⟩ := mfix hp
  have hv := h.v p hl
  rw [hx] at hv
  have e : mget ks bv (A, i, i + (n : Int), ()) ((0, ([], ())) : Chc) = ix bv (p : Int) := by
    unfold mget; rw [hp]
    rw [ix_eq (by omega) (by have := h.lb; omega)]
    simp [List.getD_eq_getElem?_getD, List.getElem?_eq_getElem (by have := h.lb; omega : p < bv.length)]
  obtain ⟨v1, v2, _, _, v5, v6⟩ := hv
  refine ⟨(ix bv (p : Int)).1, (ix bv (p : Int)).2.1, e, v5, v2.1, v2.2.2, v1, ?_⟩
  dsimp only at v6
  rcases v6 with ⟨a, b, c⟩ | ⟨a, b, c, e⟩
  · exact .inl ⟨by omega, b, c⟩
  · exact .inr ⟨by omega, b, c, e⟩
theorem makes1 (hd : DOk 3000 badD d) {Mk : List Rul} {nn : Int} {ks : List K3} {cv : List Int} {bv : List Chc} (h : CI d w Mk ks cv bv) (hw : ∀ x ∈ w, 0 ≤ x ∧ x < d.1) : ∀ (n : Nat) (A i : Int) (out : List Int), (A, i, i + n, ()) ∈ ks → out.length + n ≤ 1000 →
    ∃ z, gram_chart_makes_1 A i (i + n) d.1 nn Mk w out ks cv ks bv = some (out ++ z, d.1, nn, Mk, w, ks, cv, ks, bv) ∧ z.length = n + 1 := by
  have hl := hd.let1
  intro n
  induction n with
  | zero =>
    intro A i out hm ho
    obtain ⟨k, ends, e, hk, i0, iw, hA, hc⟩ := h.find hm
    obtain ⟨_, e1, e2⟩ := hc.resolve_right (fun h => by omega)
    refine ⟨[k], ?_, rfl⟩
    rw [gram_chart_makes_1_eq]; unfold gram_chart_makes_1_B
    rw [e, G_pos (by unfold room; simp; omega), G_pos hk, gram_chart_makes_1_L4_eq]; unfold gram_chart_makes_1_L4_B
    rw [e, e1, if_neg (by simp)]
  | succ n ih =>
    intro A i out hm ho
    obtain ⟨k, ends, e, hk, i0, iw, hA, hc⟩ := h.find hm
    obtain ⟨_, e1, e2, e3⟩ := hc.resolve_left (fun h => by omega)
    have hwi := hw _ (ix_mem i0 (by omega : i < w.length))
    obtain ⟨a, ea⟩ : ∃ a, ix w i = a := ⟨_, rfl⟩
    have hs := hd.tab.stpb (nm_b hd hA.1 hA.2).1 (nm_b hd hA.1 hA.2).2 hwi.1 hwi.2
    have hB := nm_b hd hs.1 hs.2
    obtain ⟨B, eB⟩ : ∃ B, nm d (stp d.2.2.1 (nm d A) (ix w i)) = B := ⟨_, rfl⟩
    rw [eB] at e1 e3 hB
    rw [ea] at e1 hwi
    have ej : i + ((n + 1 : Nat) : Int) = i + 1 + (n : Int) := by omega
    rw [ej] at e e2 e3 ⊢
    obtain ⟨z, ez, lz⟩ := ih B (i + 1) (out ++ [k]) e3 (by simp; omega)
    refine ⟨k :: z, ?_, by simp [lz]⟩
    have hn := hd.n1
    have x0 : ix [a, d.1 + B] (0 : Int) = a := rfl
    have x1 : ix [a, d.1 + B] ((0 : Int) + 1) = d.1 + B := rfl
    have y0 : ix [i + 1, i + 1 + (n : Int)] (0 : Int) = i + 1 := rfl
    have y1 : ix [i + 1, i + 1 + (n : Int)] ((0 : Int) + 1) = i + 1 + (n : Int) := rfl
    rw [gram_chart_makes_1_eq]; unfold gram_chart_makes_1_B
    rw [e, G_pos (by unfold room; simp; omega), G_pos hk, gram_chart_makes_1_L4_eq]; unfold gram_chart_makes_1_L4_B
    dsimp only
    rw [e, e1, e2]
    dsimp only
    rw [x0, y0, if_pos (by simp), G_pos (by simp), if_neg (by simp only [decide_eq_true_eq]; omega)]
    unfold gram_chart_makes_1_J7
    rw [e, e2]
    dsimp only
    rw [y0, G_pos (by simp), G_pos (by unfold fits; omega), gram_chart_makes_1_L4_eq]; unfold gram_chart_makes_1_L4_B
    rw [e, e1, e2]
    dsimp only
    rw [x1, y1, if_pos (by simp), G_pos (by simp), if_pos (decide_eq_true (by omega)), G_pos (by unfold fits; omega), G_pos (by simp), show d.1 + B - d.1 = B by omega]
    refine bind_to ez ?_
    dsimp only
    unfold gram_chart_makes_1_J7
    rw [e, e2]
    dsimp only
    rw [y1, G_pos (by simp), G_pos (by unfold fits; omega), gram_chart_makes_1_L4_eq]; unfold gram_chart_makes_1_L4_B
    rw [e, e1]
    dsimp only
    rw [if_neg (by simp)]
    simp
theorem makes0 (hd : DOk 3000 badD d) {Mk : List Rul} {nn : Int} {ks : List K3} {cv : List Int} {bv : List Chc} (h : CI d w Mk ks cv bv) (hw : ∀ x ∈ w, 0 ≤ x ∧ x < d.1) (n : Nat) (A i : Int) (hm : (A, i, i + n, ()) ∈ ks) (ho : n ≤ 900) :
    ∃ z, gram_chart_makes A i (i + n) d.1 nn Mk w ks cv ks bv = some (z, d.1, nn, Mk, w, ks, cv, ks, bv) ∧ z.length = n + 1 := by
  have hl := hd.let1
  obtain ⟨k, ends, e, hk, i0, iw, hA, hc⟩ := h.find hm
  rcases hc with ⟨rfl, e1, e2⟩ | ⟨_, e1, e2, e3⟩
  · refine ⟨[k], ?_, rfl⟩
    unfold gram_chart_makes
    rw [e, G_pos (by unfold room; simp), G_pos hk, gram_chart_makes_L4_eq]; unfold gram_chart_makes_L4_B
    rw [e, e1, if_neg (by simp)]
  · obtain ⟨n, rfl⟩ : ∃ m, n = m + 1 := ⟨n - 1, by omega⟩
    have hwi := hw _ (ix_mem i0 (by omega : i < w.length))
    obtain ⟨a, ea⟩ : ∃ a, ix w i = a := ⟨_, rfl⟩
    have hs := hd.tab.stpb (nm_b hd hA.1 hA.2).1 (nm_b hd hA.1 hA.2).2 hwi.1 hwi.2
    have hB := nm_b hd hs.1 hs.2
    obtain ⟨B, eB⟩ : ∃ B, nm d (stp d.2.2.1 (nm d A) (ix w i)) = B := ⟨_, rfl⟩
    rw [eB] at e1 e3 hB
    rw [ea] at e1 hwi
    have ej : i + ((n + 1 : Nat) : Int) = i + 1 + (n : Int) := by omega
    rw [ej] at e e2 e3 ⊢
    obtain ⟨z, ez, lz⟩ := makes1 hd (nn := nn) h hw n B (i + 1) [k] e3 (by simp; omega)
    refine ⟨k :: z, ?_, by simp [lz]⟩
    have hn := hd.n1
    have x0 : ix [a, d.1 + B] (0 : Int) = a := rfl
    have x1 : ix [a, d.1 + B] ((0 : Int) + 1) = d.1 + B := rfl
    have y0 : ix [i + 1, i + 1 + (n : Int)] (0 : Int) = i + 1 := rfl
    have y1 : ix [i + 1, i + 1 + (n : Int)] ((0 : Int) + 1) = i + 1 + (n : Int) := rfl
    unfold gram_chart_makes
    rw [e, G_pos (by unfold room; simp), G_pos hk, gram_chart_makes_L4_eq]; unfold gram_chart_makes_L4_B
    dsimp only
    rw [e, e1, e2]
    dsimp only
    rw [x0, y0, if_pos (by simp), G_pos (by simp), if_neg (by simp only [decide_eq_true_eq]; omega)]
    unfold gram_chart_makes_J7
    rw [e, e2]
    dsimp only
    rw [y0, G_pos (by simp), G_pos (by unfold fits; omega), gram_chart_makes_L4_eq]; unfold gram_chart_makes_L4_B
    rw [e, e1, e2]
    dsimp only
    rw [x1, y1, if_pos (by simp), G_pos (by simp), if_pos (decide_eq_true (by omega)), G_pos (by unfold fits; omega), G_pos (by simp), show d.1 + B - d.1 = B by omega]
    refine bind_to ez ?_
    dsimp only
    unfold gram_chart_makes_J7
    rw [e, e2]
    dsimp only
    rw [y1, G_pos (by simp), G_pos (by unfold fits; omega), gram_chart_makes_L4_eq]; unfold gram_chart_makes_L4_B
    rw [e, e1]
    dsimp only
    rw [if_neg (by simp)]
    simp
end
section
variable {d : Dt} {w : List Int}
theorem gcheck (hd : DOk 3000 badD d) (h4 : d.2.2.1.length ≤ 4) {Mk : List Rul} (hR : Rls d Mk) : gram_Check (d.1, (d.2.2.1.length : Int), Mk, ()) = some 0 := by
  have hl := hd.let1; have hn := hd.n1; have hln := hR.ln
  have key : ∀ (m : Nat) (k : Int), 0 ≤ k → k + m = Mk.length → gram_Check_L6 (d.1, (d.2.2.1.length : Int), Mk, ()) k = some 0 := by
    intro m
    induction m with
    | zero =>
      intro k k0 hk
      rw [gram_Check_L6_eq]; unfold gram_Check_L6_B
      rw [if_neg (by simp only [decide_eq_true_eq]; omega)]
    | succ m ih =>
      intro k k0 hk
      obtain ⟨⟨r1, r2⟩, r3⟩ := hR.r k k0 (by omega)
      have hq := nm_b hd r1 r2
      have hlen : (ix Mk k).2.1.length ≤ 2 ∧ ∀ x ∈ (ix Mk k).2.1, 0 ≤ x ∧ x < d.1 + d.2.2.1.length := by
        rcases r3 with ⟨e, _⟩ | ⟨a, a0, a1, e⟩
        · rw [e]; simp
        · have hs := hd.tab.stpb hq.1 hq.2 a0 a1
          have hB := nm_b hd hs.1 hs.2
          rw [e]
          refine ⟨by simp, fun x hx => ?_⟩
          simp only [List.mem_cons, List.not_mem_nil, or_false] at hx
          rcases hx with rfl | rfl <;> omega
      have ht : Tells (slices_ContainsFunc_4 (ix Mk k).2.1 (d.1, (d.2.2.1.length : Int), Mk, ())) (∃ x ∈ (ix Mk k).2.1, x < 0 ∨ d.1 + d.2.2.1.length ≤ x) := contains_tells (f := fun x => gram_Check_1 x (d.1, (d.2.2.1.length : Int), Mk, ())) (slices_IndexFunc_4_L2_eq (ix Mk k).2.1 (d.1, (d.2.2.1.length : Int), Mk, ())) (by omega) (fun x _ => by
        unfold gram_Check_1
        by_cases c : x < 0
        · rw [if_pos (decide_eq_true c)]; exact Tells.of (by simp [c])
        · rw [if_neg (by simpa using c)]
          dsimp only
          rw [G_pos (by unfold fits; omega)]
          exact Tells.dec (by omega))
      rw [gram_Check_L6_eq]; unfold gram_Check_L6_B
      dsimp only
      rw [if_pos (decide_eq_true (by omega)), G_pos (by omega), if_neg (by simp only [decide_eq_true_eq]; omega), if_neg (by simp only [decide_eq_true_eq]; omega), if_neg (by simp only [decide_eq_true_eq]; omega)]
      refine ht.to (fun h => ?_) (fun _ => ?_)
      · obtain ⟨x, hx, hb⟩ := h
        have := hlen.2 x hx
        omega
      · rw [G_pos (by unfold fits; omega)]
        exact ih (k + 1) (by omega) (by omega)
  unfold gram_Check
  dsimp only
  rw [if_neg (by simp only [decide_eq_true_eq]; omega), if_neg (by simp only [decide_eq_true_eq]; omega), if_neg (by simp only [decide_eq_true_eq]; omega), if_neg (by simp only [decide_eq_true_eq]; omega), if_neg (by simp only [decide_eq_true_eq]; omega)]
  exact key Mk.length 0 (by omega) (by omega)
theorem VA_wlk (hd : DOk 3000 badD d) (hw : ∀ x ∈ w, 0 ≤ x ∧ x < d.1) : ∀ (n : Nat) (q i : Int), 0 ≤ i → i + n = w.length → (VA d w n q i ↔ ix d.2.2.2.1 (wlk d.2.2.1 q (w.drop i.toNat)) = 1) := by
  intro n
  induction n with
  | zero =>
    intro q i i0 hi
    rw [List.drop_of_length_le (by omega)]
    exact Iff.rfl
  | succ n ih =>
    intro q i i0 hi
    rw [ix_drop i0 (by omega)]
    exact ih (stp d.2.2.1 q (ix w i)) (i + 1) (by omega) (by omega)
theorem nm_zero : nm d 0 = d.2.1 := by
  unfold nm
  split <;> (try split) <;> simp_all
theorem tells_spec (hd : DOk 3000 badD d) (h4 : d.2.2.1.length ≤ 4) {Mk : List Rul} (hR : Rls d Mk) (hm : mayE d.1 w = 0) (hw : ∀ x ∈ w, 0 ≤ x ∧ x < d.1) (hwl : w.length ≤ 12) :
    ∃ t ms, gram_Tells (d.1, (d.2.2.1.length : Int), Mk, ()) w = some (t, 0, ms) ∧ t = decide (ix d.2.2.2.1 (wlk d.2.2.1 d.2.1 w) = 1) ∧ (t = true → ms.length = w.length + 1) := by
  have hl := hd.let1; have hn := hd.n1
  obtain ⟨ks, cv, bv, e, h, hc⟩ := charted_spec hd hR (nn := (d.2.2.1.length : Int)) hw (by omega)
  have hmem : ((0, 0, (w.length : Int), ()) : K3) ∈ ks ↔ ix d.2.2.2.1 (wlk d.2.2.1 d.2.1 w) = 1 := by
    have hva := VA_wlk hd hw w.length d.2.1 0 (by omega) (by omega)
    rw [show ((0 : Int).toNat) = 0 from rfl, List.drop_zero] at hva
    rw [← hva]
    constructor
    · intro hx
      obtain ⟨p, hp⟩ := mfind_mem hx
      obtain ⟨hpl, hx⟩ := mfix hp
      have hv := (h.v p hpl).2.2.1
      rw [hx] at hv
      dsimp only at hv
      rw [nm_zero, show ((w.length : Int) - 0).toNat = w.length by omega] at hv
      exact hv
    · intro hv
      have := hc w.length (by omega) (by omega) 0 0 (by omega) (by omega) (by omega) (by omega) (by
        rw [nm_zero, Int.toNat_natCast]; exact hv)
      rwa [Int.zero_add] at this
  unfold gram_Tells
  rw [gcheck hd h4 hR]
  by_cases c : ((0, 0, (w.length : Int), ()) : K3) ∈ ks
  · have c' := c
    rw [show (w.length : Int) = 0 + ((w.length : Nat) : Int) by omega] at c'
    obtain ⟨z, ez, lz⟩ := makes0 hd (nn := (d.2.2.1.length : Int)) h hw w.length 0 0 c' (by omega)
    rw [Int.zero_add] at ez
    refine ⟨true, z, ?_, (decide_eq_true (hmem.1 c)).symm, fun _ => lz⟩
    refine bind_to rfl ?_
    rw [if_neg (by simp)]
    refine bind_to word_May_spec ?_
    dsimp only
    rw [hm, if_neg (by simp), if_neg (by simp only [decide_eq_true_eq]; omega)]
    refine bind_to e (bind_to (of_spec h) ?_)
    dsimp only
    rw [if_pos c, if_neg (by simp only [decide_eq_true_eq]; omega), if_neg (by simp only [decide_eq_true_eq]; omega)]
    exact bind_to ez rfl
  · refine ⟨false, [], ?_, (decide_eq_false (fun hx => c (hmem.2 hx))).symm, fun h => by cases h⟩
    refine bind_to rfl ?_
    rw [if_neg (by simp)]
    refine bind_to word_May_spec ?_
    dsimp only
    rw [hm, if_neg (by simp), if_neg (by simp only [decide_eq_true_eq]; omega)]
    refine bind_to e (bind_to (of_spec h) ?_)
    dsimp only
    rw [if_neg c, if_pos (by simp)]
end
section
variable {d : Dt} {w : List Int}
/-- The rules so far. -/
structure BI (d : Dt) (q a : Int) (Mk : List Rul) : Prop where
  ln : (Mk.length : Int) ≤ 5 * q + a
  r : ∀ x ∈ Mk, (0 ≤ x.1 ∧ x.1 < d.2.2.1.length) ∧ ((x.2.1 = [] ∧ ix d.2.2.2.1 (nm d x.1) = 1) ∨ ∃ a : Int, 0 ≤ a ∧ a < d.1 ∧ x.2.1 = [a, d.1 + nm d (stp d.2.2.1 (nm d x.1) a)])
  e : ∀ p : Int, 0 ≤ p → p < q → ix d.2.2.2.1 p = 1 → (nm d p, [], ()) ∈ Mk
  s : ∀ p b : Int, 0 ≤ p → (p < q ∨ p = q ∧ b < a) → 0 ≤ b → b < d.1 → (nm d p, [b, d.1 + nm d (stp d.2.2.1 p b)], ()) ∈ Mk
theorem mem_ix' {α : Type} [Inhabited α] {l : List α} {x : α} (h : x ∈ l) : ∃ k : Int, 0 ≤ k ∧ k < l.length ∧ ix l k = x := by
  obtain ⟨n, hn, e⟩ := List.mem_iff_getElem.1 h
  exact ⟨n, by omega, by omega, by rw [ix_eq (by omega) (by omega)]; simpa using e⟩
theorem BI.rls (hd : DOk 3000 badD d) (h4 : d.2.2.1.length ≤ 4) {Mk : List Rul} (h : BI d d.2.2.1.length 0 Mk) : Rls d Mk := by
  refine ⟨by have := h.ln; omega, fun k k0 k1 => h.r _ (ix_mem k0 k1), fun q q0 q1 hq => ?_, fun q a q0 q1 a0 a1 => ?_⟩
  · obtain ⟨k, k0, k1, e⟩ := mem_ix' (h.e q q0 q1 hq)
    exact ⟨k, k0, k1, by rw [e], by rw [e]⟩
  · obtain ⟨k, k0, k1, e⟩ := mem_ix' (h.s q a q0 (.inl q1) a0 a1)
    exact ⟨k, k0, k1, by rw [e], by rw [e]⟩
theorem BI.next (hd : DOk 3000 badD d) {q a : Int} {Mk : List Rul} (h : BI d q a Mk) (q0 : 0 ≤ q) (q1 : q < d.2.2.1.length) (a0 : 0 ≤ a) (a1 : a < d.1) : BI d q (a + 1) (Mk ++ [(nm d q, [a, d.1 + nm d (stp d.2.2.1 q a)], ())]) := by
  refine ⟨by have := h.ln; simp; omega, fun x hx => ?_, fun p p0 p1 hp => List.mem_append.2 (.inl (h.e p p0 p1 hp)), fun p b p0 hp b0 b1 => ?_⟩
  · rcases List.mem_append.1 hx with hx | hx
    · exact h.r x hx
    · rw [List.mem_singleton.1 hx]
      exact ⟨nm_b hd q0 q1, .inr ⟨a, a0, a1, by dsimp only; rw [nm_nm]⟩⟩
  · by_cases c : p = q ∧ b = a
    · exact List.mem_append.2 (.inr (by rw [c.1, c.2]; exact List.mem_singleton.2 rfl))
    · exact List.mem_append.2 (.inl (h.s p b p0 (by omega) b0 b1))
theorem BI.stop (hd : DOk 3000 badD d) {q : Int} {Mk : List Rul} (h : BI d q d.1 Mk) (q0 : 0 ≤ q) (q1 : q < d.2.2.1.length) : BI d (q + 1) 0 (if ix d.2.2.2.1 q = 1 then Mk ++ [(nm d q, [], ())] else Mk) := by
  have hl := hd.let1
  by_cases c : ix d.2.2.2.1 q = 1
  · rw [if_pos c]
    refine ⟨by have := h.ln; simp; omega, fun x hx => ?_, fun p p0 p1 hp => ?_, fun p b p0 hp b0 b1 => List.mem_append.2 (.inl (h.s p b p0 (by omega) b0 b1))⟩
    · rcases List.mem_append.1 hx with hx | hx
      · exact h.r x hx
      · rw [List.mem_singleton.1 hx]
        exact ⟨nm_b hd q0 q1, .inl ⟨rfl, by dsimp only; rw [nm_nm]; exact c⟩⟩
    · by_cases e : p = q
      · exact List.mem_append.2 (.inr (by rw [e]; exact List.mem_singleton.2 rfl))
      · exact List.mem_append.2 (.inl (h.e p p0 (by omega) hp))
  · rw [if_neg c]
    exact ⟨by have := h.ln; omega, h.r, fun p p0 p1 hp => h.e p p0 (by
      by_cases e : p = q
      · rw [e] at hp; exact absurd hp c
      · omega) hp, fun p b p0 hp b0 b1 => h.s p b p0 (by omega) b0 b1⟩
theorem L13_spec (hd : DOk 3000 badD d) (h4 : d.2.2.1.length ≤ 4) {q g3 g4 : Int} (q0 : 0 ≤ q) (q1 : q < d.2.2.1.length) {r9 : Int → Int → Int → List Rul → Option Bool} : ∀ (m : Nat) (a : Int) (Mk : List Rul), 0 ≤ a → a + m = d.1 → BI d q a Mk → ∃ Mk', top_TopRules_L13 d q r9 (d.1 + nm d q) a g3 g4 Mk = r9 (q + 1) g3 g4 Mk' ∧ BI d (q + 1) 0 Mk' := by
  have hl := hd.let1; have hn := hd.n1; have hmk := hd.mkl
  have ed : (d.1, d.2.1, d.2.2.1, d.2.2.2.1, ()) = d := rfl
  intro m
  induction m with
  | zero =>
    intro a Mk a0 ha h
    have hs := BI.stop hd (show BI d q d.1 Mk from by rw [show d.1 = a by omega]; exact h) q0 q1
    have hln := h.ln
    refine ⟨_, ?_, hs⟩
    rw [top_TopRules_L13_eq]; unfold top_TopRules_L13_B
    rw [if_neg (by simp only [decide_eq_true_eq]; omega), G_pos (by omega)]
    by_cases c : ix d.2.2.2.1 q = 1
    · rw [if_pos (decide_eq_true c), if_pos c, G_pos (by unfold room; simp; omega), G_pos (by unfold fits; omega), show d.1 + nm d q - d.1 = nm d q by omega]
    · rw [if_neg (by simpa using c), if_neg c, G_pos (by unfold fits; omega)]
  | succ m ih =>
    intro a Mk a0 ha h
    have hln := h.ln
    have hs := hd.tab.stpb q0 q1 a0 (show a < d.1 by omega)
    obtain ⟨Mk', e, h'⟩ := ih (a + 1) _ (by omega) (by omega) (h.next hd q0 q1 a0 (by omega))
    refine ⟨Mk', ?_, h'⟩
    rw [← e]
    conv => lhs; rw [top_TopRules_L13_eq]; unfold top_TopRules_L13_B
    rw [if_pos (decide_eq_true (by omega)), G_pos (by omega), G_pos (by have := hd.tab.rowlen q0 q1; omega)]
    rw [ed]
    refine bind_to (named_spec hd hs.1 hs.2) ?_
    rw [G_pos (by unfold room; simp; omega), G_pos (by unfold fits; omega), show d.1 + nm d q - d.1 = nm d q by omega]
    rfl
theorem L9b_spec (hd : DOk 3000 badD d) (h4 : d.2.2.1.length ≤ 4) (hm : mayE d.1 w = 0) (hw : ∀ x ∈ w, 0 ≤ x ∧ x < d.1) (hwl : w.length ≤ 12) : ∀ (m : Nat) (q : Int) (Mk : List Rul), 0 ≤ q → q + m = d.2.2.1.length → BI d q 0 Mk → top_TopRules_L9 d w (decide (ix d.2.2.2.1 (wlk d.2.2.1 d.2.1 w) = 1)) q d.1 d.2.2.1.length Mk = some true := by
  have hl := hd.let1; have hn := hd.n1; have hmk := hd.mkl
  have ed : (d.1, d.2.1, d.2.2.1, d.2.2.2.1, ()) = d := rfl
  intro m
  induction m with
  | zero =>
    intro q Mk q0 hq h
    have hR := BI.rls hd h4 (show BI d d.2.2.1.length 0 Mk from by rw [show (d.2.2.1.length : Int) = q by omega]; exact h)
    obtain ⟨t, ms, e, ht, hms⟩ := tells_spec hd h4 hR hm hw hwl
    rw [top_TopRules_L9_eq]; unfold top_TopRules_L9_B
    rw [if_neg (by simp only [decide_eq_true_eq]; omega)]
    refine bind_to e ?_
    dsimp only
    rw [if_neg (by simp), if_neg (by simp [ht]), ← ht]
    cases t with
    | false => rfl
    | true =>
      rw [if_neg (by simp), G_pos (by unfold fits; omega)]
      have := hms rfl
      rw [decide_eq_true (by omega)]
  | succ m ih =>
    intro q Mk q0 hq h
    obtain ⟨Mk', e, h'⟩ := L13_spec hd h4 (g3 := d.1) (g4 := (d.2.2.1.length : Int)) q0 (by omega) (r9 := top_TopRules_L9 d w (decide (ix d.2.2.2.1 (wlk d.2.2.1 d.2.1 w) = 1))) d.1.toNat 0 Mk (by omega) (by omega) h
    have hnm := nm_b hd q0 (show q < d.2.2.1.length by omega)
    rw [top_TopRules_L9_eq]; unfold top_TopRules_L9_B
    rw [if_pos (decide_eq_true (by omega)), ed]
    refine bind_to (named_spec hd q0 (by omega)) ?_
    rw [G_pos (by unfold fits; omega), e]
    exact ih (q + 1) Mk' (by omega) (by omega) h'
theorem accepts_spec : det_Accepts d w = some (if detE 3000 badD d = 0 then (if mayE d.1 w = 0 then (decide (ix d.2.2.2.1 (wlk d.2.2.1 d.2.1 w) = 1), 0) else (false, mayE d.1 w)) else (false, detE 3000 badD d)) := by
  have ed : (d.1, d.2.1, d.2.2.1, d.2.2.2.1, ()) = d := rfl
  unfold det_Accepts
  rw [ed]
  refine bind_to det_Check_spec ?_
  by_cases c : detE 3000 badD d = 0
  · have h := detE_zero c
    rw [if_neg (by simp [c]), if_pos c]
    refine bind_to word_May_spec ?_
    by_cases c2 : mayE d.1 w = 0
    · obtain ⟨_, hl, hw⟩ := mayE_zero c2
      rw [if_neg (by simp [c2]), if_pos c2]
      have hmk := h.mkl; have hst := h.st
      have hb := h.tab.wlkb hst.1 hst.2 hw
      refine bind_to (det_After_spec h.tab hw (by omega) hst.1 hst.2) ?_
      rw [G_pos (by omega)]
    · rw [if_pos (by simpa using c2), if_neg c2]
  · rw [if_pos (by simpa using c), if_neg c]
theorem one_ok : DOk 3000 badD ((1, 0, [[0]], [1], ()) : Dt) := by
  refine ⟨by simp, by simp, by simp, by simp, ?_, ⟨?_, ?_⟩⟩
  · intro s hs
    rw [List.mem_singleton.1 hs]; unfold badD; omega
  · intro r hr
    rw [List.mem_singleton.1 hr]; rfl
  · intro r hr q hq
    rw [List.mem_singleton.1 hr] at hq
    rw [List.mem_singleton.1 hq]; simp
end
theorem law_true (d : Dt) (w : List Int) : top_TopRules d w = some true := by
  have ed : (d.1, d.2.1, d.2.2.1, d.2.2.2.1, ()) = d := rfl
  have h1 : det_Accepts ((1, 0, [[0]], [1], ()) : Dt) [] = some (true, 0) := by
    rw [accepts_spec, if_pos (detE_of one_ok), if_pos (mayE_ok (by omega) (by simp) (fun j j0 j1 => by simp at j1; omega))]
    rfl
  unfold top_TopRules
  refine bind_to h1 ?_
  rw [if_neg (by simp), if_neg (by simp), ed]
  refine bind_to accepts_spec ?_
  by_cases c : detE 3000 badD d = 0
  · have h := detE_zero c
    rw [if_pos c]
    by_cases c2 : mayE d.1 w = 0
    · obtain ⟨_, hl, hw⟩ := mayE_zero c2
      rw [if_pos c2, if_neg (by simp)]
      by_cases h4 : d.2.2.1.length ≤ 4
      · rw [if_neg (by simp only [decide_eq_true_eq]; omega)]
        by_cases h12 : w.length ≤ 12
        · rw [if_neg (by simp only [decide_eq_true_eq]; omega)]
          exact L9b_spec h h4 c2 hw h12 d.2.2.1.length 0 [] (by omega) (by omega) ⟨by simp, fun x hx => by simp at hx, fun p p0 p1 => by omega, fun p b p0 hp => by omega⟩
        · rw [if_pos (by simp only [decide_eq_true_eq]; omega)]
      · rw [if_pos (by simp only [decide_eq_true_eq]; omega)]
    · rw [if_neg c2, if_pos (by simpa using c2)]
  · rw [if_neg c, if_pos (by simpa using c)]

end Go.Proofs.Ytiaioemmmpdjfaa.topRulesW
