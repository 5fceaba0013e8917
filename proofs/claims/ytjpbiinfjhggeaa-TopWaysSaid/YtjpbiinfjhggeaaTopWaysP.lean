/- The law 'TopWays' of the plain functions. -/
import Derived.Test.YtjpbiinfjhggeaaTopWaysD
set_option maxHeartbeats 1000000
set_option maxRecDepth 20000
set_option linter.unusedSimpArgs false
set_option linter.unusedVariables false
set_option linter.unusedSectionVars false
namespace Go.Proofs.Ytjpbiinfjhggeaa.topWaysW
open Go Go.Ab
theorem wrap_nat {n : Nat} (h : n < 9223372036854775808) : IntKind.wrap .i64 (n : Int) = n := by
  unfold IntKind.wrap
  simp [IntKind.bits, IntKind.signed]
  omega
theorem ofInt_nat (m : Nat) : BitVec.ofInt 64 (m : Int) = BitVec.ofNat 64 m := by
  apply BitVec.eq_of_toNat_eq; simp
theorem iand_nat {m n : Nat} (hm : m < 9223372036854775808) (hn : n < 9223372036854775808) : iand .i64 (m : Int) (n : Int) = ((m &&& n : Nat) : Int) := by
  unfold iand
  have h : (BitVec.ofInt IntKind.i64.bits (m : Int) &&& BitVec.ofInt IntKind.i64.bits (n : Int)).toNat = m &&& n := by
    show (BitVec.ofInt 64 (m : Int) &&& BitVec.ofInt 64 (n : Int)).toNat = m &&& n
    rw [ofInt_nat, ofInt_nat, BitVec.toNat_and, BitVec.toNat_ofNat, BitVec.toNat_ofNat, Nat.mod_eq_of_lt (by omega), Nat.mod_eq_of_lt (by omega)]
  rw [h, wrap_nat (Nat.lt_of_le_of_lt Nat.and_le_left hm)]
theorem ior_nat {m n : Nat} (hm : m < 9223372036854775808) (hn : n < 9223372036854775808) : ior .i64 (m : Int) (n : Int) = ((m ||| n : Nat) : Int) := by
  unfold ior
  have h : (BitVec.ofInt IntKind.i64.bits (m : Int) ||| BitVec.ofInt IntKind.i64.bits (n : Int)).toNat = m ||| n := by
    show (BitVec.ofInt 64 (m : Int) ||| BitVec.ofInt 64 (n : Int)).toNat = m ||| n
    rw [ofInt_nat, ofInt_nat, BitVec.toNat_or, BitVec.toNat_ofNat, BitVec.toNat_ofNat, Nat.mod_eq_of_lt (by omega), Nat.mod_eq_of_lt (by omega)]
  rw [h, wrap_nat (Nat.or_lt_two_pow (n := 63) hm hn)]
theorem ishl_nat {m k : Nat} (hk : k < 63) (h : m * 2 ^ k < 9223372036854775808) : ishl .i64 (m : Int) (k : Int) = ((m <<< k : Nat) : Int) := by
  unfold ishl
  have e : min ((k : Int).toNat) IntKind.i64.bits = k := by
    show min ((k : Int).toNat) 64 = k
    omega
  rw [e, Nat.shiftLeft_eq]
  have : (m : Int) * 2 ^ k = ((m * 2 ^ k : Nat) : Int) := by push_cast; rfl
  rw [this, wrap_nat h]
theorem ishr_nat {m k : Nat} (hk : k ≤ 64) : ishr .i64 (m : Int) (k : Int) = ((m >>> k : Nat) : Int) := by
  unfold ishr
  have e : min ((k : Int).toNat) IntKind.i64.bits = k := by
    show min ((k : Int).toNat) 64 = k
    omega
  rw [e, Nat.shiftRight_eq_div_pow, Int.fdiv_eq_ediv_of_nonneg _ (by exact_mod_cast Nat.zero_le _)]
  push_cast; rfl
/-- Bits: the q-th one is put. -/
theorem ior_bit {m q : Nat} (hm : m < 4611686018427387904) (hq : q < 62) : ior .i64 (m : Int) (ishl .i64 1 (q : Int)) = ((m ||| 2 ^ q : Nat) : Int) ∧ m ||| 2 ^ q < 4611686018427387904 := by
  have h2 : 2 ^ q < 4611686018427387904 := Nat.pow_lt_pow_right (a := 2) (n := 62) (by omega) hq
  have h1 : ishl .i64 1 (q : Int) = ((2 ^ q : Nat) : Int) := by
    have := ishl_nat (m := 1) (k := q) (by omega) (by omega)
    rw [Nat.shiftLeft_eq, Nat.one_mul] at this
    exact this
  rw [h1, ior_nat (by omega) (by omega)]
  exact ⟨rfl, Nat.or_lt_two_pow (n := 62) hm h2⟩

/-- The answer is yes just if P. -/
def Tells (o : Option Bool) (P : Prop) : Prop := ∃ b, o = some b ∧ (b = true ↔ P)
theorem Tells.of {b : Bool} {P : Prop} (h : b = true ↔ P) : Tells (some b) P := ⟨b, rfl, h⟩
theorem Tells.dec {P Q : Prop} [Decidable P] (h : P ↔ Q) : Tells (some (decide P)) Q := ⟨_, rfl, by simpa using h⟩
theorem Tells.iff {o : Option Bool} {P Q : Prop} (h : Tells o P) (k : P ↔ Q) : Tells o Q := let ⟨b, h1, h2⟩ := h; ⟨b, h1, h2.trans k⟩
theorem Tells.eq {o : Option Bool} {P : Prop} [Decidable P] (h : Tells o P) : o = some (decide P) := by
  obtain ⟨b, rfl, hb⟩ := h
  by_cases hp : P
  · simp [hp, hb.2 hp]
  · have : b = false := by cases b; rfl; exact absurd (hb.1 rfl) hp
    simp [hp, this]
theorem Tells.to {R : Type} {o : Option Bool} {P : Prop} {k1 k2 x : Option R} (h : Tells o P) (h1 : P → k1 = x) (h2 : ¬ P → k2 = x) : (o.bind fun y => if y = true then k1 else k2) = x := by
  obtain ⟨b, rfl, hb⟩ := h
  refine bind_to rfl ?_
  cases b
  · exact h2 fun hp => by simpa using hb.2 hp
  · exact h1 (hb.1 rfl)
theorem Tells.bind {R : Type} {o : Option Bool} {P : Prop} {k : Bool → Option R} {x : Option R} (h : Tells o P) (h1 : ∀ b, (b = true ↔ P) → k b = x) : o.bind k = x := by
  obtain ⟨b, rfl, hb⟩ := h
  exact h1 b hb
section
variable {α C : Type} [Inhabited α]
theorem ex_ix {l : List α} {P : α → Prop} : (∃ x ∈ l, P x) ↔ ∃ i : Int, 0 ≤ i ∧ i < l.length ∧ P (ix l i) := by
  constructor
  · rintro ⟨x, hx, hp⟩
    obtain ⟨i, hi, rfl⟩ := List.mem_iff_getElem.1 hx
    refine ⟨i, by omega, by omega, ?_⟩
    rwa [ix_eq (by omega) (by omega)]
  · rintro ⟨i, h0, h1, hp⟩
    exact ⟨_, ix_mem h0 h1, hp⟩
theorem index_loop {s : List α} {f : α → Option Bool} {L : Int → Option Int} {P : α → Prop} (hs : s.length ≤ 4611686018427387904)
    (hL : ∀ t, L t = if decide (t < (s.length : Int)) = true then G (0 ≤ t ∧ t < (s.length : Int)) ((f (ix s t)).bind fun y => if y = true then some t else G (fits (t + 1)) (L (t + 1))) else some (-1))
    (hf : ∀ x ∈ s, Tells (f x) (P x)) : ∀ (n : Nat) (t : Int), 0 ≤ t → t ≤ s.length → (s.length - t).toNat = n →
      ∃ i, L t = some i ∧ ((i = -1 ∧ ∀ j : Int, t ≤ j → j < s.length → ¬ P (ix s j)) ∨ (t ≤ i ∧ i < s.length ∧ P (ix s i) ∧ ∀ j : Int, t ≤ j → j < i → ¬ P (ix s j))) := by
  intro n
  induction n with
  | zero =>
    intro t h0 h1 hn
    refine ⟨-1, ?_, .inl ⟨rfl, fun j a b => by omega⟩⟩
    rw [hL, if_neg (by simp; omega)]
  | succ n ih =>
    intro t h0 h1 hn
    rw [hL, if_pos (by simp; omega), G_pos (by omega)]
    obtain ⟨b, hb, hbp⟩ := hf _ (ix_mem h0 (by omega : t < s.length))
    rw [hb]
    cases b with
    | true => exact ⟨t, rfl, .inr ⟨by omega, by omega, hbp.1 rfl, fun j a b => by omega⟩⟩
    | false =>
      have hnp : ¬ P (ix s t) := fun hp => by simpa using hbp.2 hp
      obtain ⟨i, hi, hc⟩ := ih (t + 1) (by omega) (by omega) (by omega)
      refine ⟨i, ?_, ?_⟩
      · refine (if_neg (by simp) : (if false = true then some t else G (fits (t + 1)) (L (t + 1))) = _).trans ?_
        rw [G_pos (by unfold fits; omega), hi]
      · rcases hc with ⟨h2, h3⟩ | ⟨h2, h3, h4, h5⟩
        · refine .inl ⟨h2, fun j a b => ?_⟩
          by_cases e : j = t
          · rw [e]; exact hnp
          · exact h3 j (by omega) b
        · refine .inr ⟨by omega, h3, h4, fun j a b => ?_⟩
          by_cases e : j = t
          · rw [e]; exact hnp
          · exact h5 j (by omega) b
theorem contains_tells {s : List α} {f : α → Option Bool} {L : Int → Option Int} {P : α → Prop}
    (hL : ∀ t, L t = if decide (t < (s.length : Int)) = true then G (0 ≤ t ∧ t < (s.length : Int)) ((f (ix s t)).bind fun y => if y = true then some t else G (fits (t + 1)) (L (t + 1))) else some (-1))
    (hs : s.length ≤ 4611686018427387904) (hf : ∀ x ∈ s, Tells (f x) (P x)) : Tells ((L 0).bind fun y => some (decide ((0 : Int) ≤ y))) (∃ x ∈ s, P x) := by
  obtain ⟨i, hi, hc⟩ := index_loop hs hL hf _ 0 (by omega) (by omega) rfl
  rw [hi]
  refine ⟨decide (0 ≤ i), rfl, ?_⟩
  rw [decide_eq_true_iff, ex_ix]
  rcases hc with ⟨h2, h3⟩ | ⟨h2, h3, h4, h5⟩
  · constructor
    · intro h; omega
    · rintro ⟨j, h0, h1, hp⟩; exact absurd hp (h3 j h0 h1)
  · exact ⟨fun _ => ⟨i, by omega, h3, h4⟩, fun _ => by omega⟩
/-- .. of what carries along what it reads. -/
theorem contains_tells2 {s : List α} {c : C} {f : α → C → Option (Bool × C)} {L : Int → C → Option (Int × C)} {P : α → Prop}
    (hL : ∀ t c, L t c = if decide (t < (s.length : Int)) = true then G (0 ≤ t ∧ t < (s.length : Int)) ((f (ix s t) c).bind fun y => if y.1 = true then some (t, y.2) else G (fits (t + 1)) (L (t + 1) y.2)) else some (-1, c))
    (hs : s.length ≤ 4611686018427387904) (hf : ∀ x ∈ s, ∃ b, f x c = some (b, c) ∧ (b = true ↔ P x)) : ∃ b, ((L 0 c).bind fun y => some (decide ((0 : Int) ≤ y.1), y.2)) = some (b, c) ∧ (b = true ↔ ∃ x ∈ s, P x) := by
  have key : ∀ (n : Nat) (t : Int), 0 ≤ t → t ≤ s.length → (s.length - t).toNat = n →
      ∃ i, L t c = some (i, c) ∧ ((i = -1 ∧ ∀ j : Int, t ≤ j → j < s.length → ¬ P (ix s j)) ∨ (t ≤ i ∧ i < s.length ∧ P (ix s i))) := by
    intro n
    induction n with
    | zero =>
      intro t h0 h1 hn
      refine ⟨-1, ?_, .inl ⟨rfl, fun j a b => by omega⟩⟩
      rw [hL, if_neg (by simp; omega)]
    | succ n ih =>
      intro t h0 h1 hn
      rw [hL, if_pos (by simp; omega), G_pos (by omega)]
      obtain ⟨b, hb, hbp⟩ := hf _ (ix_mem h0 (by omega : t < s.length))
      rw [hb]
      cases b with
      | true => exact ⟨t, rfl, .inr ⟨by omega, by omega, hbp.1 rfl⟩⟩
      | false =>
        have hnp : ¬ P (ix s t) := fun hp => by simpa using hbp.2 hp
        obtain ⟨i, hi, hc⟩ := ih (t + 1) (by omega) (by omega) (by omega)
        refine ⟨i, ?_, ?_⟩
        · refine (if_neg (by simp) : (if false = true then some (t, c) else G (fits (t + 1)) (L (t + 1) c)) = _).trans ?_
          rw [G_pos (by unfold fits; omega), hi]
        · rcases hc with ⟨h2, h3⟩ | ⟨h2, h3, h4⟩
          · refine .inl ⟨h2, fun j a b => ?_⟩
            by_cases e : j = t
            · rw [e]; exact hnp
            · exact h3 j (by omega) b
          · exact .inr ⟨by omega, h3, h4⟩
  obtain ⟨i, hi, hc⟩ := key _ 0 (by omega) (by omega) rfl
  rw [hi]
  refine ⟨decide (0 ≤ i), rfl, ?_⟩
  rw [decide_eq_true_iff, ex_ix]
  rcases hc with ⟨h2, h3⟩ | ⟨h2, h3, h4⟩
  · constructor
    · intro h; omega
    · rintro ⟨j, h0, h1, hp⟩; exact absurd hp (h3 j h0 h1)
  · exact ⟨fun _ => ⟨i, by omega, h3, h4⟩, fun _ => by omega⟩
end
/-- A loop that looks for the first fault. -/
theorem scan_to {R : Type} {len : Int} {L : Int → Option R} {bad : Int → Prop} {x : Option R} {lo : Int} (h0 : lo ≤ len)
    (hs : ∀ t, lo ≤ t → t < len → (bad t → L t = x) ∧ (¬ bad t → L t = L (t + 1))) (hf : (∀ t, lo ≤ t → t < len → ¬ bad t) → L len = x) : L lo = x := by
  have key : ∀ (n : Nat) (t : Int), lo ≤ t → t ≤ len → (len - t).toNat = n → (∀ j, lo ≤ j → j < t → ¬ bad j) → L t = x := by
    intro n
    induction n with
    | zero =>
      intro t h1 h2 hn h
      obtain rfl : t = len := by omega
      exact hf h
    | succ n ih =>
      intro t h1 h2 hn h
      by_cases hb : bad t
      · exact (hs t h1 (by omega)).1 hb
      · rw [(hs t h1 (by omega)).2 hb]
        refine ih (t + 1) (by omega) (by omega) (by omega) fun j a b => ?_
        by_cases e : j = t
        · rw [e]; exact hb
        · exact h j a (by omega)
  exact key _ lo (Int.le_refl _) h0 rfl (fun j a b => by omega)
/-- A loop that counts, with a state. -/
theorem fold_to {R S : Type} {len : Int} {L : Int → S → Option R} {f : Int → S → S} {lo : Int} {I : Int → S → Prop} {s : S} (h0 : lo ≤ len) (hI : I lo s)
    (hs : ∀ t s, lo ≤ t → t < len → I t s → L t s = L (t + 1) (f t s) ∧ I (t + 1) (f t s)) : ∃ s', I len s' ∧ L lo s = L len s' := by
  have key : ∀ (n : Nat) (t : Int) (s : S), lo ≤ t → t ≤ len → (len - t).toNat = n → I t s → ∃ s', I len s' ∧ L t s = L len s' := by
    intro n
    induction n with
    | zero =>
      intro t s h1 h2 hn h
      obtain rfl : t = len := by omega
      exact ⟨s, h, rfl⟩
    | succ n ih =>
      intro t s h1 h2 hn h
      obtain ⟨e, h3⟩ := hs t s h1 (by omega) h
      obtain ⟨s', h4, h5⟩ := ih (t + 1) _ (by omega) (by omega) (by omega) h3
      exact ⟨s', h4, e.trans h5⟩
  exact key _ lo s (Int.le_refl _) h0 rfl hI


theorem slices_Clone_spec {s : List Int} (hs : s.length * 8 ≤ 140737488355328) : slices_Clone s = some s := by
  have hr : G (room ([] : List Int) s 8) (some (([] : List Int) ++ s)) = some s := by
    rw [G_pos (room_of (by simpa using hs))]; rfl
  unfold slices_Clone
  refine itep_to (fun h => ?_) (fun h => hr)
  obtain rfl : s = [] := List.length_eq_zero_iff.1 h
  rw [hr]; exact both_self (ts := [(.list (.int .i64))]) (some ([] : List Int))

/-- A walk over a table. -/
def stp (N : List (List Int)) (q a : Int) : Int := ix (ix N q) a
def wlk (N : List (List Int)) (q : Int) (w : List Int) : Int := w.foldl (stp N) q
/-- The places come by. -/
def trc (N : List (List Int)) : Int → List Int → List Int
  | _, [] => []
  | q, a :: w => stp N q a :: trc N (stp N q a) w
/-- A table of so many letters. -/
structure Tab (L : Int) (N : List (List Int)) : Prop where
  row : ∀ r ∈ N, (r.length : Int) = L
  to : ∀ r ∈ N, ∀ q ∈ r, 0 ≤ q ∧ q < N.length
theorem Tab.stpb {L : Int} {N : List (List Int)} (h : Tab L N) {q a : Int} (q0 : 0 ≤ q) (q1 : q < N.length) (a0 : 0 ≤ a) (a1 : a < L) : 0 ≤ stp N q a ∧ stp N q a < N.length := by
  have h1 := ix_mem q0 q1
  have h2 := h.row _ h1
  exact h.to _ h1 _ (ix_mem a0 (by omega))
theorem Tab.rowlen {L : Int} {N : List (List Int)} (h : Tab L N) {q : Int} (q0 : 0 ≤ q) (q1 : q < N.length) : ((ix N q).length : Int) = L := h.row _ (ix_mem q0 q1)
theorem Tab.wlkb {L : Int} {N : List (List Int)} (h : Tab L N) : ∀ {w : List Int} {q : Int}, 0 ≤ q → q < N.length → (∀ a ∈ w, 0 ≤ a ∧ a < L) → 0 ≤ wlk N q w ∧ wlk N q w < N.length
  | [], q, q0, q1, _ => ⟨q0, q1⟩
  | a :: w, q, q0, q1, hw => by
    have := h.stpb q0 q1 (hw a (by simp)).1 (hw a (by simp)).2
    exact Tab.wlkb h (q := stp N q a) (w := w) this.1 this.2 (fun b hb => hw b (by simp [hb]))
theorem Tab.trcb {L : Int} {N : List (List Int)} (h : Tab L N) : ∀ {w : List Int} {q : Int}, 0 ≤ q → q < N.length → (∀ a ∈ w, 0 ≤ a ∧ a < L) → ∀ p ∈ trc N q w, 0 ≤ p ∧ p < N.length
  | [], q, q0, q1, _, p, hp => by cases hp
  | a :: w, q, q0, q1, hw, p, hp => by
    have := h.stpb q0 q1 (hw a (by simp)).1 (hw a (by simp)).2
    rcases List.mem_cons.1 hp with rfl | hp
    · exact this
    · exact Tab.trcb h this.1 this.2 (fun b hb => hw b (by simp [hb])) p hp

theorem mfind_none {α : Type} : ∀ {ks : List α} {x : α}, mfind ks x = none ↔ x ∉ ks
  | [], x => by simp [mfind]
  | y :: ys, x => by
    unfold mfind
    by_cases h : y = x
    · rw [if_pos h]; simp [h]
    · rw [if_neg h, Option.map_eq_none_iff, mfind_none]
      simp [Ne.symm h]
/-- A map that only marks: all its elements are one. -/
abbrev ones {α : Type} (ks : List α) : List Int := List.replicate ks.length 1
theorem mget_ones {α : Type} {ks : List α} {x : α} : (mget ks (ones ks) x 0 = 0) ↔ x ∉ ks := by
  unfold mget
  cases h : mfind ks x with
  | none => simp [mfind_none.1 h]
  | some j =>
    have hx : x ∈ ks := by
      refine Classical.byContradiction fun hn => ?_
      rw [mfind_none.2 hn] at h; cases h
    have := mfind_lt h
    simp [hx, this]
theorem mputK_new {α : Type} {ks : List α} {x : α} (h : x ∉ ks) : mputK ks x = ks ++ [x] := by
  unfold mputK; rw [mfind_none.2 h]
theorem mputV_new {α : Type} {ks : List α} {x : α} (h : x ∉ ks) : mputV ks (ones ks) x 1 = ones (ks ++ [x]) := by
  unfold mputV; rw [mfind_none.2 h]
  show List.replicate ks.length 1 ++ [1] = List.replicate (ks ++ [x]).length 1
  rw [List.length_append, List.length_singleton, List.replicate_succ']

theorem pigeon {α : Type} [DecidableEq α] : ∀ {l U : List α}, l.Nodup → (∀ x ∈ l, x ∈ U) → l.length ≤ U.length
  | [], _, _, _ => Nat.zero_le _
  | a :: l, U, hn, hs => by
    have ha := hs a (by simp)
    obtain ⟨h1, h2⟩ := List.nodup_cons.1 hn
    have := pigeon (U := U.erase a) h2 (fun x hx => (List.mem_erase_of_ne (by rintro rfl; exact h1 hx)).2 (hs x (by simp [hx])))
    rw [List.length_erase_of_mem ha] at this
    have hp : 0 < U.length := List.length_pos_of_mem ha
    rw [List.length_cons]; omega
theorem pigeon_int {l : List Int} {n : Nat} (h : l.Nodup) (hb : ∀ x ∈ l, 0 ≤ x ∧ x < n) : l.length ≤ n := by
  have := pigeon (U := (List.range n).map Int.ofNat) h (fun x hx => by
    have := hb x hx
    exact List.mem_map.2 ⟨x.toNat, List.mem_range.2 (by omega), by show ((x.toNat : Nat) : Int) = x; omega⟩)
  simpa using this

theorem mfind_mem {α : Type} {ks : List α} {x : α} (h : x ∈ ks) : ∃ j, mfind ks x = some j := by
  cases e : mfind ks x with
  | none => exact absurd h (mfind_none.1 e)
  | some j => exact ⟨j, rfl⟩
theorem mfind_hd {α : Type} (ks : List α) (x : α) : mfind (x :: ks) x = some 0 := by unfold mfind; rw [if_pos rfl]
theorem mfind_tl {α : Type} {ks : List α} {x y : α} (h : y ≠ x) : mfind (y :: ks) x = (mfind ks x).map (· + 1) := by
  rw [mfind, if_neg h]
theorem mfind_app {α : Type} : ∀ {ks : List α} {x : α} {j : Nat} (l : List α), mfind ks x = some j → mfind (ks ++ l) x = some j
  | [], _, _, _, h => by cases h
  | y :: ks, x, j, l, h => by
    rw [List.cons_append]
    by_cases e : y = x
    · subst e; rw [mfind_hd] at h ⊢; exact h
    · rw [mfind_tl e] at h ⊢
      cases hm : mfind ks x with
      | none => rw [hm] at h; cases h
      | some i => rw [hm] at h; rw [mfind_app l hm]; exact h
theorem mfind_new {α : Type} : ∀ {ks : List α} {x : α}, x ∉ ks → mfind (ks ++ [x]) x = some ks.length
  | [], x, _ => mfind_hd _ _
  | y :: ks, x, h => by
    have hy : y ≠ x := by rintro rfl; exact h (by simp)
    rw [List.cons_append, mfind_tl hy, mfind_new (fun hh => h (by simp [hh]))]; rfl
theorem mfind_at {α : Type} : ∀ {ks : List α} {x : α} {k : Nat}, ks[k]? = some x → (∀ j, j < k → ks[j]? ≠ some x) → mfind ks x = some k
  | [], _, _, h, _ => by simp at h
  | y :: ks, x, k, h, hf => by
    cases k with
    | zero =>
      have : y = x := by simpa using h
      subst this; exact mfind_hd _ _
    | succ k =>
      have hy : y ≠ x := by have := hf 0 (by omega); simpa using this
      rw [mfind_tl hy, mfind_at (k := k) (by simpa using h) (fun j hj => by have := hf (j + 1) (by omega); simpa using this)]; rfl
theorem mfind_inj {α : Type} {ks : List α} {x y : α} {j : Nat} (h : mfind ks x = some j) (k : mfind ks y = some j) : x = y := by
  have := mfind_get h; rw [mfind_get k] at this; injection this with this; exact this.symm
theorem mfind_nodup {α : Type} {ks : List α} (hn : ks.Nodup) {j : Nat} (hj : j < ks.length) : mfind ks ks[j] = some j :=
  mfind_at (by simp) fun i hi e => by
    have hi' : i < ks.length := by omega
    rw [List.getElem?_eq_getElem hi'] at e
    exact List.pairwise_iff_getElem.1 hn i j hi' hj hi (Option.some.inj e)
theorem mfind_map {α β : Type} (f : α → β) : ∀ {ks : List α} {x : α}, (∀ y ∈ ks, f y = f x → y = x) → mfind (ks.map f) (f x) = mfind ks x
  | [], _, _ => rfl
  | y :: ks, x, h => by
    have ih := mfind_map f (ks := ks) (x := x) (fun z hz => h z (by simp [hz]))
    rw [List.map_cons]
    by_cases e : y = x
    · subst e; rw [mfind_hd, mfind_hd]
    · rw [mfind_tl e, mfind_tl (fun hh => e (h y (by simp) hh)), ih]
/-- 0, 1, 2, .. -/
def iota (n : Nat) : List Int := (List.range n).map fun j : Nat => (j : Int)
theorem iota_len (n : Nat) : (iota n).length = n := by simp [iota]
theorem iota_succ (n : Nat) : iota (n + 1) = iota n ++ [(n : Int)] := by simp [iota, List.range_succ]
theorem mget_iota {α : Type} {ks : List α} {x : α} {j : Nat} (h : mfind ks x = some j) : mget ks (iota ks.length) x 0 = j := by
  have := mfind_lt h
  unfold mget; rw [h]
  simp [iota, this]
theorem mhas_iff {α : Type} {ks : List α} {x : α} : mhas ks x = true ↔ x ∈ ks := by
  unfold mhas
  cases e : mfind ks x with
  | none => simp [mfind_none.1 e]
  | some j =>
    have := mfind_get e
    simp [List.mem_of_getElem? this]
theorem mputV_iota {α : Type} {ks : List α} {x : α} (h : x ∉ ks) : mputV ks (iota ks.length) x ks.length = iota (ks ++ [x]).length := by
  unfold mputV; rw [mfind_none.2 h, List.length_append, List.length_singleton, iota_succ]
theorem cover_nodup {α : Type} [DecidableEq α] : ∀ {l U : List α}, U.Nodup → (∀ x ∈ U, x ∈ l) → l.length ≤ U.length → l.Nodup
  | [], _, _, _, _ => List.nodup_nil
  | a :: l, U, hU, hs, hl => by
    have ha : a ∉ l := fun ha => by
      have := pigeon (l := U) (U := l) hU (fun x hx => by
        rcases List.mem_cons.1 (hs x hx) with rfl | h
        · exact ha
        · exact h)
      rw [List.length_cons] at hl; omega
    refine List.nodup_cons.2 ⟨ha, ?_⟩
    refine cover_nodup (U := U.erase a) (hU.erase a) (fun x hx => ?_) ?_
    · have hne : x ≠ a := ((List.Nodup.mem_erase_iff hU).1 hx).1
      rcases List.mem_cons.1 (hs x (List.mem_of_mem_erase hx)) with h | h
      · exact absurd h hne
      · exact h
    · have : U.length - 1 ≤ (U.erase a).length := by
        by_cases h : a ∈ U
        · rw [List.length_erase_of_mem h]; omega
        · rw [List.erase_of_not_mem h]; omega
      rw [List.length_cons] at hl; omega

/-- The bytes of a list of small numbers. -/
def keyL (l : List Int) : List Int := l.flatMap fun x => [IntKind.wrap .u8 x, IntKind.wrap .u8 (ishr .i64 x 8)]
def keyB (l : List Int) : List UInt8 := bstr (keyL l)
theorem wrap_u8 (x : Int) : IntKind.wrap .u8 x = x % 256 := by
  unfold IntKind.wrap
  simp [IntKind.bits, IntKind.signed]
theorem keyB_cons (x : Int) (l : List Int) : keyB (x :: l) = UInt8.ofNat (x % 256).toNat :: UInt8.ofNat (ishr .i64 x 8 % 256).toNat :: keyB l := by
  unfold keyB keyL bstr
  simp [wrap_u8]
theorem u8_inj {a b : Int} (h : UInt8.ofNat (a % 256).toNat = UInt8.ofNat (b % 256).toNat) : a % 256 = b % 256 := by
  have := congrArg UInt8.toNat h
  simp only [UInt8.toNat_ofNat'] at this
  omega
theorem keyB_inj : ∀ {l k : List Int}, (∀ x ∈ l, 0 ≤ x ∧ x < 65536) → (∀ x ∈ k, 0 ≤ x ∧ x < 65536) → keyB l = keyB k → l = k
  | [], [], _, _, _ => rfl
  | [], y :: k, _, _, h => by rw [keyB_cons] at h; cases h
  | x :: l, [], _, _, h => by rw [keyB_cons] at h; cases h
  | x :: l, y :: k, hl, hk, h => by
    rw [keyB_cons, keyB_cons] at h
    injection h with h1 h
    injection h with h2 h
    have hx := hl x (by simp)
    have hy := hk y (by simp)
    have e1 := u8_inj h1
    have e2 := u8_inj h2
    obtain ⟨a, rfl⟩ : ∃ a : Nat, x = a := ⟨x.toNat, by omega⟩
    obtain ⟨b, rfl⟩ : ∃ b : Nat, y = b := ⟨y.toNat, by omega⟩
    rw [show (8 : Int) = ((8 : Nat) : Int) from rfl, ishr_nat (by omega), ishr_nat (by omega), Nat.shiftRight_eq_div_pow, Nat.shiftRight_eq_div_pow] at e2
    have : a = b := by omega
    rw [this, keyB_inj (fun z hz => hl z (by simp [hz])) (fun z hz => hk z (by simp [hz])) h]
theorem keyL_len (l : List Int) : (keyL l).length = 2 * l.length := by
  induction l with
  | nil => rfl
  | cons x l ih => unfold keyL at *; rw [List.flatMap_cons, List.length_append, ih]; simp; omega
/-- A row of so many numbers. -/
def mkR (n : Nat) (g : Int → Int) : List Int := (List.range n).map fun a : Nat => g a
theorem mkR_len (n : Nat) (g : Int → Int) : (mkR n g).length = n := by simp [mkR]
theorem mkR_ix {n : Nat} {g : Int → Int} {a : Int} (h0 : 0 ≤ a) (h1 : a < n) : ix (mkR n g) a = g a := by
  rw [ix_eq h0 (by rw [mkR_len]; exact h1)]
  simp [mkR, Int.toNat_of_nonneg h0]
theorem mkR_of {n : Nat} {g : Int → Int} {l : List Int} (hl : l.length = n) (h : ∀ a : Int, 0 ≤ a → a < n → ix l a = g a) : l = mkR n g :=
  ix_ext (by rw [mkR_len, hl]) fun j j0 j1 => by rw [mkR_ix j0 (by omega), h j j0 (by omega)]

abbrev Dt := Int × Int × (List (List Int)) × (List Int) × Unit
def DBig (mx : Int) (d : Dt) : Prop := d.2.2.1.length < 1 ∨ mx < d.2.2.1.length
def DRag (d : Dt) : Prop := ¬ (d.2.2.2.1.length : Int) = d.2.2.1.length ∨ ∃ r ∈ d.2.2.1, ¬ (r.length : Int) = d.1
def DOut (mb : Int → Prop) (d : Dt) : Prop := (d.2.1 < 0 ∨ (d.2.2.1.length : Int) ≤ d.2.1) ∨ (∃ r ∈ d.2.2.1, ∃ q ∈ r, q < 0 ∨ (d.2.2.1.length : Int) ≤ q) ∨ (∃ s ∈ d.2.2.2.1, mb s)
open Classical in
/-- What is wrong with an automaton of at most so many states, with such marks. -/
noncomputable def detE (mx : Int) (mb : Int → Prop) (d : Dt) : Int := if d.1 < 1 ∨ 4 < d.1 then 2 else if DBig mx d then 1 else if DRag d then 3 else if DOut mb d then 2 else 0
structure DOk (mx : Int) (mb : Int → Prop) (d : Dt) : Prop where
  let1 : 1 ≤ d.1 ∧ d.1 ≤ 4
  n1 : 1 ≤ d.2.2.1.length ∧ (d.2.2.1.length : Int) ≤ mx
  st : 0 ≤ d.2.1 ∧ d.2.1 < d.2.2.1.length
  mkl : (d.2.2.2.1.length : Int) = d.2.2.1.length
  mok : ∀ s ∈ d.2.2.2.1, ¬ mb s
  tab : Tab d.1 d.2.2.1
theorem detE_zero {mx : Int} {mb : Int → Prop} {d : Dt} (h : detE mx mb d = 0) : DOk mx mb d := by
  unfold detE at h
  by_cases c1 : d.1 < 1 ∨ 4 < d.1
  · rw [if_pos c1] at h; omega
  rw [if_neg c1] at h
  by_cases c2 : DBig mx d
  · rw [if_pos c2] at h; omega
  rw [if_neg c2] at h
  by_cases c3 : DRag d
  · rw [if_pos c3] at h; omega
  rw [if_neg c3] at h
  by_cases c4 : DOut mb d
  · rw [if_pos c4] at h; omega
  unfold DBig at c2; unfold DRag at c3; unfold DOut at c4
  refine ⟨by omega, by omega, ?_, ?_, fun s hs hm => c4 (.inr (.inr ⟨s, hs, hm⟩)), fun r hr => ?_, fun r hr q hq => ?_⟩
  · have : ¬ (d.2.1 < 0 ∨ (d.2.2.1.length : Int) ≤ d.2.1) := fun h => c4 (.inl h)
    omega
  · exact Decidable.not_not.1 fun h => c3 (.inl h)
  · by_cases e : (r.length : Int) = d.1
    · exact e
    · exact absurd (.inr ⟨r, hr, e⟩) c3
  · have : ¬ (q < 0 ∨ (d.2.2.1.length : Int) ≤ q) := fun h => c4 (.inr (.inl ⟨r, hr, q, hq, h⟩))
    omega
theorem detE_of {mx : Int} {mb : Int → Prop} {d : Dt} (h : DOk mx mb d) : detE mx mb d = 0 := by
  have h1 := h.let1
  have h2 := h.n1
  have h3 := h.st
  have h4 := h.mkl
  unfold detE
  rw [if_neg (by omega), if_neg (by unfold DBig; omega), if_neg, if_neg]
  · rintro (hh | ⟨r, hr, q, hq, hh⟩ | ⟨s, hs, hh⟩)
    · omega
    · have := h.tab.to r hr q hq
      omega
    · exact h.mok s hs hh
  · rintro (hh | ⟨r, hr, hh⟩)
    · exact hh h4
    · exact hh (h.tab.row r hr)

section
variable {d : Dt} {mb : Int → Prop}
def sigC (d : Dt) (c : List Int) (q : Int) : Int × List Int := (ix c q, (ix d.2.2.1 q).map (ix c))
def ksC (d : Dt) (c : List Int) : Nat → List (Int × List Int)
  | 0 => []
  | t + 1 => if sigC d c (t : Int) ∈ ksC d c t then ksC d c t else ksC d c t ++ [sigC d c (t : Int)]
noncomputable def idxC (d : Dt) (c : List Int) (q : Nat) : Nat := (mfind (ksC d c (q + 1)) (sigC d c (q : Int))).getD 0
noncomputable def rfC (d : Dt) (c : List Int) : List Int := mkR d.2.2.1.length fun q => (idxC d c q.toNat : Int)
theorem ksC_succ (c : List Int) (t : Nat) : ksC d c (t + 1) = if sigC d c (t : Int) ∈ ksC d c t then ksC d c t else ksC d c t ++ [sigC d c (t : Int)] := rfl
theorem ksC_pre (c : List Int) : ∀ t, ∃ x, ksC d c (t + 1) = ksC d c t ++ x := fun t => by
  rw [ksC_succ]
  by_cases h : sigC d c (t : Int) ∈ ksC d c t
  · exact ⟨[], by rw [if_pos h, List.append_nil]⟩
  · exact ⟨_, by rw [if_neg h]⟩
theorem ksC_mem (c : List Int) : ∀ t q : Nat, q < t → sigC d c (q : Int) ∈ ksC d c t
  | t + 1, q, h => by
    rw [ksC_succ]
    by_cases e : q = t
    · subst e
      by_cases h : sigC d c (q : Int) ∈ ksC d c q
      · rw [if_pos h]; exact h
      · rw [if_neg h]; simp
    · have := ksC_mem c t q (by omega)
      by_cases h : sigC d c (t : Int) ∈ ksC d c t
      · rw [if_pos h]; exact this
      · rw [if_neg h]; simp [this]
theorem ksC_of (c : List Int) : ∀ (t : Nat), ∀ k ∈ ksC d c t, ∃ q : Nat, q < t ∧ k = sigC d c (q : Int)
  | 0, k, h => by cases h
  | t + 1, k, h => by
    rw [ksC_succ] at h
    by_cases e : sigC d c (t : Int) ∈ ksC d c t
    · rw [if_pos e] at h
      obtain ⟨q, h1, h2⟩ := ksC_of c t k h
      exact ⟨q, by omega, h2⟩
    · rw [if_neg e] at h
      rcases List.mem_append.1 h with h | h
      · obtain ⟨q, h1, h2⟩ := ksC_of c t k h
        exact ⟨q, by omega, h2⟩
      · exact ⟨t, by omega, List.mem_singleton.1 h⟩
theorem ksC_nodup (c : List Int) : ∀ t, (ksC d c t).Nodup
  | 0 => List.nodup_nil
  | t + 1 => by
    rw [ksC_succ]
    by_cases h : sigC d c (t : Int) ∈ ksC d c t
    · rw [if_pos h]; exact ksC_nodup c t
    · rw [if_neg h, List.nodup_append]
      exact ⟨ksC_nodup c t, by simp, fun a ha b hb => by rw [List.mem_singleton.1 hb]; rintro rfl; exact h ha⟩
theorem ksC_le (c : List Int) : ∀ t, (ksC d c t).length ≤ t
  | 0 => Nat.le_refl _
  | t + 1 => by
    have := ksC_le c t
    rw [ksC_succ]
    split
    · omega
    · rw [List.length_append, List.length_singleton]; omega
theorem idxC_at (c : List Int) (q : Nat) : ∀ t, q < t → mfind (ksC d c t) (sigC d c (q : Int)) = some (idxC d c q)
  | t + 1, h => by
    by_cases e : q = t
    · subst e
      obtain ⟨j, hj⟩ := mfind_mem (ksC_mem (d := d) c (q + 1) q (by omega))
      unfold idxC; rw [hj]; rfl
    · obtain ⟨x, hx⟩ := ksC_pre (d := d) c t
      rw [hx]; exact mfind_app x (idxC_at c q t (by omega))
theorem idxC_iff (c : List Int) {q r : Nat} : idxC d c q = idxC d c r ↔ sigC d c (q : Int) = sigC d c (r : Int) := by
  have h1 := idxC_at (d := d) c q (max q r + 1) (by omega)
  have h2 := idxC_at (d := d) c r (max q r + 1) (by omega)
  constructor
  · intro e; rw [← e] at h2; exact mfind_inj h1 h2
  · intro e; rw [e, h2] at h1; exact (Option.some.inj h1).symm
theorem idxC_lt (c : List Int) {q t : Nat} (h : q < t) : idxC d c q < (ksC d c t).length := mfind_lt (idxC_at c q t h)
theorem idxC_sur (c : List Int) {t j : Nat} (h : j < (ksC d c t).length) : ∃ q, q < t ∧ idxC d c q = j := by
  obtain ⟨q, hq, e⟩ := ksC_of c t _ (List.getElem_mem h)
  refine ⟨q, hq, ?_⟩
  have h1 := idxC_at (d := d) c q t hq
  rw [← e, mfind_nodup (ksC_nodup c t) h] at h1
  exact (Option.some.inj h1).symm
/-- Classes so far: small numbers. -/
structure ClsOk (d : Dt) (c : List Int) : Prop where
  len : c.length = d.2.2.1.length
  b : ∀ q : Int, 0 ≤ q → q < c.length → 0 ≤ ix c q ∧ ix c q < 65536
theorem rfC_len (c : List Int) : (rfC d c).length = d.2.2.1.length := mkR_len _ _
theorem rfC_ix (c : List Int) {q : Int} (h0 : 0 ≤ q) (h1 : q < d.2.2.1.length) : ix (rfC d c) q = idxC d c q.toNat := mkR_ix h0 h1
theorem sigC_len (h : DOk 3000 mb d) (c : List Int) {q : Int} (h0 : 0 ≤ q) (h1 : q < d.2.2.1.length) : ((sigC d c q).2.length : Int) = d.1 := by
  unfold sigC
  rw [List.length_map]; exact h.tab.rowlen h0 h1
theorem sigC_b (h : DOk 3000 mb d) {c : List Int} (hc : ClsOk d c) {q : Int} (h0 : 0 ≤ q) (h1 : q < d.2.2.1.length) : ∀ x ∈ (sigC d c q).2, 0 ≤ x ∧ x < 65536 := by
  intro x hx
  unfold sigC at hx
  obtain ⟨y, hy, rfl⟩ := List.mem_map.1 hx
  have := h.tab.to _ (ix_mem h0 h1) y hy
  exact hc.b y this.1 (by rw [hc.len]; exact this.2)
theorem sigC_row (h : DOk 3000 mb d) (c : List Int) {q a : Int} (h0 : 0 ≤ q) (h1 : q < d.2.2.1.length) (a0 : 0 ≤ a) (a1 : a < d.1) : ix (sigC d c q).2 a = ix c (ix (ix d.2.2.1 q) a) := by
  have := h.tab.rowlen h0 h1
  unfold sigC
  exact ix_map _ a0 (by omega)
theorem sigC_eq (h : DOk 3000 mb d) (c : List Int) {p q : Int} (p0 : 0 ≤ p) (p1 : p < d.2.2.1.length) (q0 : 0 ≤ q) (q1 : q < d.2.2.1.length) : sigC d c p = sigC d c q ↔ ix c p = ix c q ∧ ∀ a : Int, 0 ≤ a → a < d.1 → ix c (ix (ix d.2.2.1 p) a) = ix c (ix (ix d.2.2.1 q) a) := by
  have l1 := sigC_len h c p0 p1
  have l2 := sigC_len h c q0 q1
  constructor
  · intro e
    refine ⟨congrArg Prod.fst e, fun a a0 a1 => ?_⟩
    rw [← sigC_row h c p0 p1 a0 a1, ← sigC_row h c q0 q1 a0 a1, e]
  · rintro ⟨e1, e2⟩
    refine Prod.ext e1 (ix_ext (by omega) fun a a0 a1 => ?_)
    rw [sigC_row h c p0 p1 a0 (by omega), sigC_row h c q0 q1 a0 (by omega)]
    exact e2 a a0 (by omega)
def encK (k : Int × List Int) : Int × List UInt8 × Unit := (k.1, keyB k.2, ())
theorem encK_inj {k l : Int × List Int} (hk : ∀ x ∈ k.2, 0 ≤ x ∧ x < 65536) (hl : ∀ x ∈ l.2, 0 ≤ x ∧ x < 65536) (e : encK k = encK l) : k = l := by
  unfold encK at e
  injection e with e1 e2
  injection e2 with e2 e3
  exact Prod.ext e1 (keyB_inj hk hl e2)
/-- The program's reading of one state. -/
theorem det_Classes_row (h : DOk 3000 mb d) {c : List Int} (hc : ClsOk d c) {t : Nat} (ht : t < d.2.2.1.length) {number : List (Int × List UInt8 × Unit)} {number_1 next' : List Int} {r6} :
    det_Classes_L10 d c t number number_1 next' r6 0 [] = if mhas number (encK (sigC d c t)) = true then det_Classes_J17 c t next' r6 (keyL (sigC d c t).2) number number_1
      else det_Classes_J17 c t next' r6 (keyL (sigC d c t).2) (mputK number (encK (sigC d c t))) (mputV number number_1 (encK (sigC d c t)) (number.length : Int)) := by
  have hrl := h.tab.rowlen (q := (t : Int)) (by omega) (by omega)
  have hlt := h.let1
  have hcl := hc.len
  have key : ∀ (n : Nat) (a : Int), ((ix d.2.2.1 (t : Int)).length - a).toNat = n → 0 ≤ a → a ≤ (ix d.2.2.1 (t : Int)).length →
      det_Classes_L10 d c t number number_1 next' r6 a (keyL ((sigC d c t).2.take a.toNat)) = det_Classes_L10 d c t number number_1 next' r6 (ix d.2.2.1 (t : Int)).length (keyL (sigC d c t).2) := by
    intro n
    induction n with
    | zero =>
      intro a hn a0 a1
      obtain rfl : a = (ix d.2.2.1 (t : Int)).length := by omega
      rw [List.take_of_length_le (by unfold sigC; rw [List.length_map]; omega)]
    | succ n ih =>
      intro a hn a0 a1
      have hst := h.tab.stpb (q := (t : Int)) (a := a) (by omega) (by omega) a0 (by omega)
      unfold stp at hst
      rw [← ih (a + 1) (by omega) (by omega) (by omega)]
      conv => lhs; rw [det_Classes_L10_eq]; unfold det_Classes_L10_B
      have hk := keyL_len ((sigC d c t).2.take a.toNat)
      rw [List.length_take] at hk
      have hsl := sigC_len h c (q := (t : Int)) (by omega) (by omega)
      rw [if_pos (by simp; omega)]
      refine G_to (by omega) (G_to (by omega) (G_to (by omega) (G_to (by omega) (G_to (by omega) (G_to (by omega) (G_to (by unfold room; simp; omega) (G_to (by unfold fits; omega) ?_)))))))
      congr 1
      rw [ix_take a0 (by omega), sigC_row h c (q := (t : Int)) (by omega) (by omega) a0 (by omega)]
      unfold keyL
      rw [List.flatMap_append]; rfl
  refine (key _ 0 rfl (by omega) (by omega)).trans ?_
  rw [det_Classes_L10_eq]; unfold det_Classes_L10_B
  rw [if_neg (by simp)]
  refine G_to (by omega) (G_to (by omega) ?_)
  rw [show (ix c (t : Int), bstr (keyL (sigC d c t).2), ()) = encK (sigC d c t) from rfl]
  by_cases c1 : mhas number (encK (sigC d c t)) = true
  · rw [if_neg (by simp [c1]), if_pos c1]
  · rw [if_pos (by simpa using c1), if_neg c1]
theorem det_Classes_pass (h : DOk 3000 mb d) {c : List Int} (hc : ClsOk d c) {count : Int} {r3} : ∀ (n t : Nat) (next' : List Int), d.2.2.1.length - t = n → t ≤ d.2.2.1.length → next'.length = d.2.2.1.length → (∀ j : Int, 0 ≤ j → j < t → ix next' j = ix (rfC d c) j) →
    det_Classes_L6 d count c r3 t ((ksC d c t).map encK) (iota (ksC d c t).length) next' = if ((ksC d c d.2.2.1.length).length : Int) = count then some (rfC d c) else r3 ((ksC d c d.2.2.1.length).length : Int) (rfC d c) := by
  have hn := h.n1
  intro n
  induction n with
  | zero =>
    intro t next' hn2 ht hl hj
    obtain rfl : t = d.2.2.1.length := by omega
    have : next' = rfC d c := ix_ext (by rw [rfC_len]; exact hl) fun j j0 j1 => hj j j0 (by omega)
    rw [det_Classes_L6_eq]; unfold det_Classes_L6_B
    rw [if_neg (by simp), List.length_map, this]
    by_cases e : ((ksC d c d.2.2.1.length).length : Int) = count
    · rw [if_pos (decide_eq_true e), if_pos e]
    · rw [if_neg (by simpa using e), if_neg e]
  | succ n ih =>
    intro t next' hn2 ht hl hj
    rw [det_Classes_L6_eq]; unfold det_Classes_L6_B
    rw [if_pos (by simp; omega)]
    refine G_to (by omega) ?_
    rw [det_Classes_row h hc (by omega)]
    have inj : ∀ y ∈ ksC d c t, encK y = encK (sigC d c t) → y = sigC d c t := fun y hy e => by
      obtain ⟨q, hq, rfl⟩ := ksC_of c t y hy
      exact encK_inj (sigC_b h hc (by omega) (by omega)) (sigC_b h hc (by omega) (by omega)) e
    have hmem : encK (sigC d c t) ∈ (ksC d c t).map encK ↔ sigC d c t ∈ ksC d c t := by
      rw [List.mem_map]
      exact ⟨fun ⟨y, hy, e⟩ => inj y hy e ▸ hy, fun hy => ⟨_, hy, rfl⟩⟩
    have hat := idxC_at (d := d) c t (t + 1) (by omega)
    have inj' : ∀ y ∈ ksC d c (t + 1), encK y = encK (sigC d c t) → y = sigC d c t := fun y hy e => by
      obtain ⟨q, hq, rfl⟩ := ksC_of c (t + 1) y hy
      exact encK_inj (sigC_b h hc (by omega) (by omega)) (sigC_b h hc (by omega) (by omega)) e
    have hget : mget ((ksC d c (t + 1)).map encK) (iota (ksC d c (t + 1)).length) (encK (sigC d c t)) 0 = idxC d c t := by
      have h1 : mfind ((ksC d c (t + 1)).map encK) (encK (sigC d c t)) = some (idxC d c t) := by rw [mfind_map encK inj', hat]
      have := mget_iota h1
      rwa [List.length_map] at this
    have fin : det_Classes_J17 c t next' (det_Classes_L6 d count c r3) (keyL (sigC d c t).2) ((ksC d c (t + 1)).map encK) (iota (ksC d c (t + 1)).length) = if ((ksC d c d.2.2.1.length).length : Int) = count then some (rfC d c) else r3 ((ksC d c d.2.2.1.length).length : Int) (rfC d c) := by
      unfold det_Classes_J17
      refine G_to (by omega) (G_to (by omega) (G_to (by unfold fits; omega) ?_))
      rw [show (ix c (t : Int), bstr (keyL (sigC d c t).2), ()) = encK (sigC d c t) from rfl, hget]
      refine ih (t + 1) _ (by omega) (by omega) (by rw [List.length_set]; exact hl) (fun j j0 j1 => ?_)
      by_cases e : j = t
      · subst e
        rw [ix_set_same j0 (by omega), rfC_ix c j0 (by omega)]; simp
      · rw [ix_set_ne (by omega) j0 (Ne.symm e)]; exact hj j j0 (by omega)
    by_cases e : sigC d c t ∈ ksC d c t
    · rw [if_pos (mhas_iff.2 (hmem.2 e))]
      rw [ksC_succ, if_pos e] at fin
      exact fin
    · have hne := fun hh => e (hmem.1 hh)
      rw [if_neg (fun hh => hne (mhas_iff.1 hh)), mputK_new hne]
      have hv := mputV_iota hne
      rw [List.length_map] at hv
      rw [List.length_map, hv]
      rw [ksC_succ, if_neg e] at fin
      rw [List.map_append] at fin
      rw [List.length_append, List.length_map]
      rw [List.length_append] at fin
      exact fin
end

section
variable {d : Dt}
abbrev badD (m : Int) : Prop := ¬ m = 0 ∧ ¬ m = 1
/-- No word tells two states apart. -/
def LEq (d : Dt) (q : Int) (e : Dt) (r : Int) : Prop := ∀ w : List Int, (∀ a ∈ w, 0 ≤ a ∧ a < d.1) → ix d.2.2.2.1 (wlk d.2.2.1 q w) = ix e.2.2.2.1 (wlk e.2.2.1 r w)
theorem LEq.step {d e : Dt} {q r : Int} (h : LEq d q e r) {a : Int} (a0 : 0 ≤ a) (a1 : a < d.1) : LEq d (ix (ix d.2.2.1 q) a) e (ix (ix e.2.2.1 r) a) := fun w hw => h (a :: w) (fun b hb => (List.mem_cons.1 hb).elim (fun e => by rw [e]; exact ⟨a0, a1⟩) (hw b))
/-- The classes in the end. -/
structure FinC (d : Dt) (C : List Int) (K : Nat) : Prop where
  len : C.length = d.2.2.1.length
  le : K ≤ d.2.2.1.length
  b : ∀ q : Int, 0 ≤ q → q < d.2.2.1.length → 0 ≤ ix C q ∧ ix C q < K
  sur : ∀ v : Int, 0 ≤ v → v < K → ∃ q : Int, 0 ≤ q ∧ q < d.2.2.1.length ∧ ix C q = v
  mark : ∀ q r : Int, 0 ≤ q → q < d.2.2.1.length → 0 ≤ r → r < d.2.2.1.length → ix C q = ix C r → ix d.2.2.2.1 q = ix d.2.2.2.1 r
  stable : ∀ q r : Int, 0 ≤ q → q < d.2.2.1.length → 0 ≤ r → r < d.2.2.1.length → ix C q = ix C r → ∀ a : Int, 0 ≤ a → a < d.1 → ix C (ix (ix d.2.2.1 q) a) = ix C (ix (ix d.2.2.1 r) a)
  coarse : ∀ q r : Int, 0 ≤ q → q < d.2.2.1.length → 0 ≤ r → r < d.2.2.1.length → LEq d q d r → ix C q = ix C r
theorem rfC_same {c : List Int} {q r : Int} (q0 : 0 ≤ q) (q1 : q < d.2.2.1.length) (r0 : 0 ≤ r) (r1 : r < d.2.2.1.length) : ix (rfC d c) q = ix (rfC d c) r ↔ sigC d c q = sigC d c r := by
  rw [rfC_ix c q0 q1, rfC_ix c r0 r1]
  have := idxC_iff (d := d) c (q := q.toNat) (r := r.toNat)
  rw [Int.toNat_of_nonneg q0, Int.toNat_of_nonneg r0] at this
  rw [← this]
  exact ⟨fun e => by exact_mod_cast e, fun e => by rw [e]⟩
theorem iota_mem {n : Nat} {v : Int} : v ∈ iota n ↔ 0 ≤ v ∧ v < n := by
  unfold iota
  rw [List.mem_map]
  constructor
  · rintro ⟨j, hj, rfl⟩; have := List.mem_range.1 hj; omega
  · rintro ⟨h0, h1⟩; exact ⟨v.toNat, List.mem_range.2 (by omega), by omega⟩
theorem iota_nodup (n : Nat) : (iota n).Nodup := by
  unfold iota
  refine List.Pairwise.map _ (fun a b (h : a ≠ b) => by omega) (List.nodup_range (n := n))
theorem classes_iter (h : DOk 3000 badD d) : ∀ (f k : Nat) (c : List Int), d.2.2.1.length - k = f → ClsOk d c →
    (∀ q r : Int, 0 ≤ q → q < d.2.2.1.length → 0 ≤ r → r < d.2.2.1.length → ix c q = ix c r → ix d.2.2.2.1 q = ix d.2.2.2.1 r) → (∀ v : Int, 0 ≤ v → v < k → ∃ q : Int, 0 ≤ q ∧ q < d.2.2.1.length ∧ ix c q = v) → (∀ q r : Int, 0 ≤ q → q < d.2.2.1.length → 0 ≤ r → r < d.2.2.1.length → LEq d q d r → ix c q = ix c r) →
    ∃ C K, FinC d C K ∧ det_Classes_L3 d (k : Int) c = some C := by
  have hn := h.n1
  intro f
  induction f using Nat.strongRecOn with
  | ind f ih =>
  intro k c hf hc hm hs hco
  have hcl := hc.len
  have hK := ksC_le (d := d) c d.2.2.1.length
  have hcov : ∀ x ∈ iota k, x ∈ (ksC d c d.2.2.1.length).map Prod.fst := fun x hx => by
    obtain ⟨x0, x1⟩ := iota_mem.1 hx
    obtain ⟨q, q0, q1, e⟩ := hs x x0 x1
    have := ksC_mem (d := d) c d.2.2.1.length q.toNat (by omega)
    rw [Int.toNat_of_nonneg q0] at this
    exact List.mem_map.2 ⟨_, this, e⟩
  have hge : k ≤ (ksC d c d.2.2.1.length).length := by
    have := pigeon (iota_nodup k) hcov
    rwa [iota_len, List.length_map] at this
  have hpos : 0 < (ksC d c d.2.2.1.length).length := List.length_pos_of_mem (ksC_mem (d := d) c d.2.2.1.length 0 (by omega))
  have eP : det_Classes_L3 d (k : Int) c = if ((ksC d c d.2.2.1.length).length : Int) = k then some (rfC d c) else det_Classes_L3 d ((ksC d c d.2.2.1.length).length : Int) (rfC d c) := by
    conv => lhs; rw [det_Classes_L3_eq]; unfold det_Classes_L3_B
    refine G_to (by unfold mkOK; omega) ?_
    exact det_Classes_pass h hc _ 0 _ rfl (by omega) (by simp; omega) (fun j j0 j1 => by omega)
  have b' : ∀ q : Int, 0 ≤ q → q < d.2.2.1.length → 0 ≤ ix (rfC d c) q ∧ ix (rfC d c) q < (ksC d c d.2.2.1.length).length := fun q q0 q1 => by
    rw [rfC_ix c q0 q1]
    have := idxC_lt (d := d) c (q := q.toNat) (t := d.2.2.1.length) (by omega)
    omega
  have sur' : ∀ v : Int, 0 ≤ v → v < (ksC d c d.2.2.1.length).length → ∃ q : Int, 0 ≤ q ∧ q < d.2.2.1.length ∧ ix (rfC d c) q = v := fun v v0 v1 => by
    obtain ⟨q, hq, e⟩ := idxC_sur (d := d) c (t := d.2.2.1.length) (j := v.toNat) (by omega)
    refine ⟨q, by omega, by omega, ?_⟩
    rw [rfC_ix c (by omega) (by omega), Int.toNat_natCast, e]; omega
  have m' : ∀ q r : Int, 0 ≤ q → q < d.2.2.1.length → 0 ≤ r → r < d.2.2.1.length → ix (rfC d c) q = ix (rfC d c) r → ix d.2.2.2.1 q = ix d.2.2.2.1 r := fun q r q0 q1 r0 r1 e =>
    hm q r q0 q1 r0 r1 (congrArg Prod.fst ((rfC_same q0 q1 r0 r1).1 e))
  have co' : ∀ q r : Int, 0 ≤ q → q < d.2.2.1.length → 0 ≤ r → r < d.2.2.1.length → LEq d q d r → ix (rfC d c) q = ix (rfC d c) r := fun q r q0 q1 r0 r1 hq => by
    refine (rfC_same q0 q1 r0 r1).2 ((sigC_eq h c q0 q1 r0 r1).2 ⟨hco q r q0 q1 r0 r1 hq, fun a a0 a1 => ?_⟩)
    have sq := h.tab.stpb q0 q1 a0 a1
    have sr := h.tab.stpb r0 r1 a0 a1
    exact hco _ _ sq.1 sq.2 sr.1 sr.2 (hq.step a0 a1)
  by_cases e : ((ksC d c d.2.2.1.length).length : Int) = k
  · rw [if_pos e] at eP
    refine ⟨rfC d c, _, ⟨rfC_len c, hK, b', sur', m', fun q r q0 q1 r0 r1 he a a0 a1 => ?_, co'⟩, eP⟩
    have hnd : ((ksC d c d.2.2.1.length).map Prod.fst).Nodup := cover_nodup (iota_nodup k) hcov (by rw [List.length_map, iota_len]; omega)
    have tot : ∀ x y : Int, 0 ≤ x → x < d.2.2.1.length → 0 ≤ y → y < d.2.2.1.length → ix c x = ix c y → ix (rfC d c) x = ix (rfC d c) y := fun x y x0 x1 y0 y1 exy => by
      rw [rfC_same x0 x1 y0 y1]
      have hx := ksC_mem (d := d) c d.2.2.1.length x.toNat (by omega)
      have hy := ksC_mem (d := d) c d.2.2.1.length y.toNat (by omega)
      rw [Int.toNat_of_nonneg x0] at hx
      rw [Int.toNat_of_nonneg y0] at hy
      obtain ⟨i, hi, ei⟩ := List.mem_iff_getElem.1 hx
      obtain ⟨j, hj, ej⟩ := List.mem_iff_getElem.1 hy
      have key : ∀ i j : Nat, (hi : i < (ksC d c d.2.2.1.length).length) → (hj : j < (ksC d c d.2.2.1.length).length) → i < j → (ksC d c d.2.2.1.length)[i].1 ≠ (ksC d c d.2.2.1.length)[j].1 := fun i j hi hj hlt hh => by
        have := List.pairwise_iff_getElem.1 hnd i j (by rw [List.length_map]; exact hi) (by rw [List.length_map]; exact hj) hlt
        rw [List.getElem_map, List.getElem_map] at this
        exact this hh
      have hfst : (ksC d c d.2.2.1.length)[i].1 = (ksC d c d.2.2.1.length)[j].1 := by rw [ei, ej]; exact exy
      have : i = j := by
        rcases Nat.lt_trichotomy i j with hlt | rfl | hlt
        · exact absurd hfst (key i j hi hj hlt)
        · rfl
        · exact absurd hfst.symm (key j i hj hi hlt)
      subst this
      rw [← ei, ej]
    have hsig := (sigC_eq h c q0 q1 r0 r1).1 ((rfC_same q0 q1 r0 r1).1 he)
    have sq := h.tab.stpb q0 q1 a0 a1
    have sr := h.tab.stpb r0 r1 a0 a1
    unfold stp at sq sr
    exact tot _ _ sq.1 sq.2 sr.1 sr.2 (hsig.2 a a0 a1)
  · rw [if_neg e] at eP
    rw [eP]
    have hlt : k < (ksC d c d.2.2.1.length).length := by omega
    exact ih (d.2.2.1.length - (ksC d c d.2.2.1.length).length) (by omega) _ (rfC d c) rfl ⟨rfC_len c, fun q q0 q1 => by
      rw [rfC_len] at q1
      have := b' q q0 q1
      omega⟩ m' sur' co'
theorem classes_both (h : DOk 3000 badD d) : ∃ C K, FinC d C K ∧ det_Classes d = some C := by
  have hn := h.n1
  have hmk := h.mkl
  have hc : ClsOk d d.2.2.2.1 := ⟨by omega, fun q q0 q1 => by
    have := h.mok _ (ix_mem q0 q1)
    omega⟩
  obtain ⟨C, K, h1, h2⟩ := classes_iter h _ 0 d.2.2.2.1 rfl hc (fun q r _ _ _ _ e => e) (fun v v0 v1 => by omega) (fun q r _ _ _ _ e => e [] (fun a ha => by cases ha))
  refine ⟨C, K, h1, ?_⟩
  unfold det_Classes
  exact bind_to (slices_Clone_spec (by omega)) h2
end

/-- Going by keys: the keys met, and a row, after so many letters. -/
noncomputable def xRow {α : Type} (nx : α → Int → α) (s : α) (l : List α) : Nat → List α × List Int
  | 0 => (l, [])
  | t + 1 => match mfind (xRow nx s l t).1 (nx s (t : Int)) with
    | some j => ((xRow nx s l t).1, (xRow nx s l t).2 ++ [(j : Int)])
    | none => ((xRow nx s l t).1 ++ [nx s (t : Int)], (xRow nx s l t).2 ++ [((xRow nx s l t).1.length : Int)])
/-- .. after so many keys. -/
noncomputable def xSt {α : Type} [Inhabited α] (nx : α → Int → α) (mk : α → Int) (L : Nat) (first : α) : Nat → List α × List (List Int) × List Int
  | 0 => ([first], [], [])
  | i + 1 => ((xRow nx (ix (xSt nx mk L first i).1 (i : Int)) (xSt nx mk L first i).1 L).1, (xSt nx mk L first i).2.1 ++ [(xRow nx (ix (xSt nx mk L first i).1 (i : Int)) (xSt nx mk L first i).1 L).2], (xSt nx mk L first i).2.2 ++ [mk (ix (xSt nx mk L first i).1 (i : Int))])
theorem xRow_some {α : Type} {nx : α → Int → α} {s : α} {l : List α} {t j : Nat} (h : mfind (xRow nx s l t).1 (nx s (t : Int)) = some j) : xRow nx s l (t + 1) = ((xRow nx s l t).1, (xRow nx s l t).2 ++ [(j : Int)]) := by
  rw [xRow, h]
theorem xRow_none {α : Type} {nx : α → Int → α} {s : α} {l : List α} {t : Nat} (h : mfind (xRow nx s l t).1 (nx s (t : Int)) = none) : xRow nx s l (t + 1) = ((xRow nx s l t).1 ++ [nx s (t : Int)], (xRow nx s l t).2 ++ [((xRow nx s l t).1.length : Int)]) := by
  rw [xRow, h]
section
variable {α : Type} [Inhabited α] {nx : α → Int → α} {mk : α → Int} {L : Nat} {first : α} {B : Nat} {P : α → Prop}
/-- Keys are small numbers of a kind. -/
structure XOk {α : Type} (nx : α → Int → α) (mk : α → Int) (L : Nat) (first : α) (B : Nat) (P : α → Prop) : Prop where
  b : ∀ l : List α, l.Nodup → (∀ x ∈ l, P x) → l.length ≤ B
  f : P first
  n : ∀ s, P s → ∀ t : Int, 0 ≤ t → t < L → P (nx s t)
  m : ∀ s, P s → mk s = 0 ∨ mk s = 1
theorem XOk.int {nx : Int → Int → Int} {mk : Int → Int} {L : Nat} {first : Int} {B : Nat} {P : Int → Prop} (b : ∀ s, P s → 0 ≤ s ∧ s < B) (f : P first) (n : ∀ s, P s → ∀ t : Int, 0 ≤ t → t < L → P (nx s t)) (m : ∀ s, P s → mk s = 0 ∨ mk s = 1) : XOk nx mk L first B P :=
  ⟨fun l hn hp => pigeon_int hn (fun x hx => b x (hp x hx)), f, n, m⟩
structure LiOk {α : Type} (B : Nat) (P : α → Prop) (l : List α) : Prop where
  nd : l.Nodup
  p : ∀ x ∈ l, P x
theorem LiOk.len (h : XOk nx mk L first B P) {l : List α} (k : LiOk B P l) : l.length ≤ B := h.b l k.nd k.p
structure XR {α : Type} [Inhabited α] (nx : α → Int → α) (s : α) (l : List α) (t : Nat) (r : List α × List Int) : Prop where
  pre : ∃ x, r.1 = l ++ x
  len : r.2.length = t
  to : ∀ a : Int, 0 ≤ a → a < t → 0 ≤ ix r.2 a ∧ ix r.2 a < r.1.length ∧ ix r.1 (ix r.2 a) = nx s a
theorem mfind_ix {l : List α} {x : α} {j : Nat} (h : mfind l x = some j) : (j : Int) < l.length ∧ ix l (j : Int) = x := by
  have h1 := mfind_lt h
  have h2 := mfind_get h
  refine ⟨by omega, ?_⟩
  rw [List.getElem?_eq_getElem h1] at h2
  rw [ix_eq (l := l) (by omega) (by omega)]
  simpa using h2
theorem xRow_ok (h : XOk nx mk L first B P) {s : α} (hs : P s) {l : List α} (hl : LiOk B P l) : ∀ t : Nat, t ≤ L → LiOk B P (xRow nx s l t).1 ∧ XR nx s l t (xRow nx s l t)
  | 0, _ => ⟨hl, ⟨[], by simp [xRow]⟩, rfl, fun a a0 a1 => by omega⟩
  | t + 1, ht => by
    obtain ⟨h1, ⟨⟨x, hx⟩, h2, h3⟩⟩ := xRow_ok h hs hl t (by omega)
    have hp := h.n s hs (t : Int) (by omega) (by omega)
    unfold xRow
    cases e : mfind (xRow nx s l t).1 (nx s (t : Int)) with
    | some j =>
      obtain ⟨j1, j2⟩ := mfind_ix e
      refine ⟨h1, ⟨⟨x, hx⟩, by simp [h2], fun a a0 a1 => ?_⟩⟩
      show 0 ≤ ix ((xRow nx s l t).2 ++ [(j : Int)]) a ∧ _
      by_cases c : a < t
      · rw [ix_append_left a0 (by omega)]; exact h3 a a0 c
      · obtain rfl : a = ((xRow nx s l t).2.length : Int) := by omega
        rw [ix_append_last]
        refine ⟨by omega, j1, ?_⟩
        show ix (xRow nx s l t).1 (j : Int) = _
        rw [j2, h2]
    | none =>
      have hn := mfind_none.1 e
      refine ⟨⟨?_, fun y hy => (List.mem_append.1 hy).elim (h1.p y) (fun e2 => by rw [List.mem_singleton.1 e2]; exact hp)⟩, ⟨⟨x ++ [nx s (t : Int)], by show (xRow nx s l t).1 ++ _ = _; rw [hx, List.append_assoc]⟩, by simp [h2], fun a a0 a1 => ?_⟩⟩
      · show ((xRow nx s l t).1 ++ [nx s (t : Int)]).Nodup
        rw [List.nodup_append]
        exact ⟨h1.nd, by simp, fun u hu v hv => by rw [List.mem_singleton.1 hv]; rintro rfl; exact hn hu⟩
      · show 0 ≤ ix ((xRow nx s l t).2 ++ [((xRow nx s l t).1.length : Int)]) a ∧ ix ((xRow nx s l t).2 ++ [((xRow nx s l t).1.length : Int)]) a < (((xRow nx s l t).1 ++ [nx s (t : Int)]).length : Int) ∧ ix ((xRow nx s l t).1 ++ [nx s (t : Int)]) (ix ((xRow nx s l t).2 ++ [((xRow nx s l t).1.length : Int)]) a) = nx s a
        rw [List.length_append, List.length_singleton]
        by_cases c : a < t
        · obtain ⟨g1, g2, g3⟩ := h3 a a0 c
          rw [ix_append_left a0 (by omega), ix_append_left g1 g2]
          exact ⟨g1, by omega, g3⟩
        · obtain rfl : a = ((xRow nx s l t).2.length : Int) := by omega
          rw [ix_append_last, ix_append_last, h2]
          exact ⟨by omega, by omega, rfl⟩
structure XS {α : Type} [Inhabited α] (nx : α → Int → α) (mk : α → Int) (L : Nat) (first : α) (i : Nat) (x : List α × List (List Int) × List Int) : Prop where
  z : ix x.1 0 = first
  r : x.2.1.length = i
  m : x.2.2.length = i
  row : ∀ k : Int, 0 ≤ k → k < i → (ix x.2.1 k).length = L ∧ ∀ a : Int, 0 ≤ a → a < L → 0 ≤ ix (ix x.2.1 k) a ∧ ix (ix x.2.1 k) a < x.1.length ∧ ix x.1 (ix (ix x.2.1 k) a) = nx (ix x.1 k) a
  mark : ∀ k : Int, 0 ≤ k → k < i → ix x.2.2 k = mk (ix x.1 k)
/-- It goes on until i. -/
def XGo {α : Type} [Inhabited α] (nx : α → Int → α) (mk : α → Int) (L : Nat) (first : α) (i : Nat) : Prop := ∀ k < i, k < (xSt nx mk L first k).1.length
theorem xSt_ok (h : XOk nx mk L first B P) : ∀ i : Nat, XGo nx mk L first i → LiOk B P (xSt nx mk L first i).1 ∧ i ≤ (xSt nx mk L first i).1.length ∧ XS nx mk L first i (xSt nx mk L first i)
  | 0, _ => ⟨⟨by simp [xSt], fun x hx => by
      have : x = first := by simpa [xSt] using hx
      rw [this]; exact h.f⟩, by omega, rfl, rfl, rfl, fun k k0 k1 => by omega, fun k k0 k1 => by omega⟩
  | i + 1, hg => by
    obtain ⟨h1, h2, h3⟩ := xSt_ok h i (fun k hk => hg k (by omega))
    have hi := hg i (by omega)
    have hP := h1.p _ (ix_mem (by omega) (by omega : (i : Int) < (xSt nx mk L first i).1.length))
    obtain ⟨g1, ⟨⟨x, hx⟩, g2, g3⟩⟩ := xRow_ok h hP h1 L (Nat.le_refl _)
    unfold xSt
    generalize hX : xSt nx mk L first i = X at *
    generalize hR : xRow nx (ix X.1 (i : Int)) X.1 L = R at *
    have pre : ∀ k : Int, 0 ≤ k → k < X.1.length → ix R.1 k = ix X.1 k := fun k k0 k1 => by rw [hx, ix_append_left k0 k1]
    have lenR : X.1.length ≤ R.1.length := by rw [hx, List.length_append]; omega
    refine ⟨g1, by show i + 1 ≤ R.1.length; omega, ?_, by simp [h3.r], by simp [h3.m], fun k k0 k1 => ?_, fun k k0 k1 => ?_⟩
    · show ix R.1 0 = first
      rw [pre 0 (by omega) (by omega)]; exact h3.z
    · show (ix (X.2.1 ++ [R.2]) k).length = L ∧ ∀ a : Int, 0 ≤ a → a < L → 0 ≤ ix (ix (X.2.1 ++ [R.2]) k) a ∧ ix (ix (X.2.1 ++ [R.2]) k) a < R.1.length ∧ ix R.1 (ix (ix (X.2.1 ++ [R.2]) k) a) = nx (ix R.1 k) a
      have hr := h3.r
      by_cases c : k < i
      · obtain ⟨r1, r2⟩ := h3.row k k0 c
        rw [ix_append_left k0 (by omega), pre k k0 (by omega)]
        refine ⟨r1, fun a a0 a1 => ?_⟩
        obtain ⟨s1, s2, s3⟩ := r2 a a0 a1
        rw [pre _ s1 s2]
        exact ⟨s1, by omega, s3⟩
      · have hk : k = (X.2.1.length : Int) := by omega
        rw [hk, ix_append_last, hr, pre (i : Int) (by omega) (by omega)]
        exact ⟨g2, fun a a0 a1 => g3 a a0 a1⟩
    · show ix (X.2.2 ++ [mk (ix X.1 (i : Int))]) k = mk (ix R.1 k)
      have hm := h3.m
      rw [pre k k0 (by omega)]
      by_cases c : k < i
      · rw [ix_append_left k0 (by omega)]; exact h3.mark k k0 c
      · have hk : k = (X.2.2.length : Int) := by omega
        rw [hk, ix_append_last, hm]
theorem xSt_stops (h : XOk nx mk L first B P) : ∃ n, n ≤ B ∧ XGo nx mk L first n ∧ (xSt nx mk L first n).1.length = n := by
  have key : ∀ f i : Nat, B - i = f → XGo nx mk L first i → ∃ n, n ≤ B ∧ XGo nx mk L first n ∧ (xSt nx mk L first n).1.length = n := by
    intro f
    induction f with
    | zero =>
      intro i hf hg
      obtain ⟨h1, h2, _⟩ := xSt_ok h i hg
      have := h1.len h
      exact ⟨i, by omega, hg, by omega⟩
    | succ f ih =>
      intro i hf hg
      obtain ⟨h1, h2, _⟩ := xSt_ok h i hg
      have := h1.len h
      by_cases c : (xSt nx mk L first i).1.length = i
      · exact ⟨i, by omega, hg, c⟩
      · refine ih (i + 1) (by omega) (fun k hk => ?_)
        by_cases e : k = i
        · subst e; omega
        · exact hg k (by omega)
  exact key _ 0 rfl (fun k hk => by omega)
/-- The automaton that comes of it. -/
noncomputable def xAut {α : Type} [Inhabited α] (nx : α → Int → α) (mk : α → Int) (L : Nat) (first : α) (n : Nat) : Dt := ((L : Int), 0, (xSt nx mk L first n).2.1, (xSt nx mk L first n).2.2, ())
theorem xAut_ok (h : XOk nx mk L first B P) (hL : 1 ≤ L ∧ L ≤ 4) (hB : B ≤ 3000) {n : Nat} (hg : XGo nx mk L first n) (hn : (xSt nx mk L first n).1.length = n) : DOk 3000 badD (xAut nx mk L first n) := by
  obtain ⟨h1, h2, h3⟩ := xSt_ok h n hg
  have hb := h1.len h
  have hr := h3.r
  have hm := h3.m
  have hpos : 0 < n := by
    refine Nat.pos_of_ne_zero fun e => ?_
    subst e
    simp [xSt] at hn
  refine ⟨by show 1 ≤ (L : Int) ∧ (L : Int) ≤ 4; omega, ?_, ?_, ?_, fun s hs => ?_, ⟨fun r hr2 => ?_, fun r hr2 q hq => ?_⟩⟩
  · show 1 ≤ (xSt nx mk L first n).2.1.length ∧ ((xSt nx mk L first n).2.1.length : Int) ≤ 3000
    omega
  · show (0 : Int) ≤ 0 ∧ (0 : Int) < ((xSt nx mk L first n).2.1.length : Int)
    omega
  · show ((xSt nx mk L first n).2.2.length : Int) = ((xSt nx mk L first n).2.1.length : Int)
    omega
  · obtain ⟨k, k0, k1, rfl⟩ := (ex_ix (P := fun x => x = s)).1 ⟨s, hs, rfl⟩
    have hk : k < n := by
      have : k < ((xSt nx mk L first n).2.2.length : Int) := k1
      omega
    have e : ix (xAut nx mk L first n).2.2.2.1 k = mk (ix (xSt nx mk L first n).1 k) := h3.mark k k0 hk
    rw [e]
    have := h.m _ (h1.p _ (ix_mem k0 (by omega)))
    omega
  · obtain ⟨k, k0, k1, rfl⟩ := (ex_ix (P := fun x => x = r)).1 ⟨r, hr2, rfl⟩
    have hk : k < n := by
      have : k < ((xSt nx mk L first n).2.1.length : Int) := k1
      omega
    have := (h3.row k k0 hk).1
    show ((ix (xSt nx mk L first n).2.1 k).length : Int) = (L : Int)
    omega
  · obtain ⟨k, k0, k1, rfl⟩ := (ex_ix (P := fun x => x = r)).1 ⟨r, hr2, rfl⟩
    have hk : k < n := by
      have : k < ((xSt nx mk L first n).2.1.length : Int) := k1
      omega
    obtain ⟨r1, r2⟩ := h3.row k k0 hk
    obtain ⟨a, a0, a1, rfl⟩ := (ex_ix (P := fun x => x = q)).1 ⟨q, hq, rfl⟩
    have ha : a < (L : Int) := by
      have : a < ((ix (xSt nx mk L first n).2.1 k).length : Int) := a1
      omega
    obtain ⟨s1, s2, s3⟩ := r2 a a0 ha
    show 0 ≤ ix (ix (xSt nx mk L first n).2.1 k) a ∧ ix (ix (xSt nx mk L first n).2.1 k) a < ((xSt nx mk L first n).2.1.length : Int)
    omega
/-- A walk in it is a walk by keys. -/
theorem xAut_walk (h : XOk nx mk L first B P) {n : Nat} (hg : XGo nx mk L first n) (hn : (xSt nx mk L first n).1.length = n) : ∀ (w : List Int) (q : Int), 0 ≤ q → q < n → (∀ a ∈ w, 0 ≤ a ∧ a < (L : Int)) →
    0 ≤ wlk (xAut nx mk L first n).2.2.1 q w ∧ wlk (xAut nx mk L first n).2.2.1 q w < n ∧ ix (xSt nx mk L first n).1 (wlk (xAut nx mk L first n).2.2.1 q w) = w.foldl nx (ix (xSt nx mk L first n).1 q)
  | [], q, q0, q1, _ => ⟨q0, q1, rfl⟩
  | a :: w, q, q0, q1, hw => by
    obtain ⟨_, _, h3⟩ := xSt_ok h n hg
    have ha := hw a (by simp)
    obtain ⟨s1, s2, s3⟩ := (h3.row q q0 q1).2 a ha.1 ha.2
    have := xAut_walk h hg hn w (ix (ix (xSt nx mk L first n).2.1 q) a) s1 (by omega) (fun b hb => hw b (by simp [hb]))
    rw [s3] at this
    exact this
end

section
variable {d : Dt}
structure RowOk (d : Dt) (C Q : List Int) (i : Int) (row : List Int) : Prop where
  len : (row.length : Int) = d.1
  to : ∀ a : Int, 0 ≤ a → a < d.1 → 0 ≤ ix row a ∧ ix row a < Q.length ∧ ix C (ix Q (ix row a)) = ix C (ix (ix d.2.2.1 (ix Q i)) a)
structure QOk (d : Dt) (C Q : List Int) : Prop where
  b : ∀ q : Int, q ∈ Q → 0 ≤ q ∧ q < d.2.2.1.length
  nd : (Q.map (ix C)).Nodup
  z : 0 < Q.length ∧ ix Q 0 = d.2.1
structure PartOk (d : Dt) (C Q : List Int) (D2 : List (List Int)) (D3 : List Int) : Prop where
  q : QOk d C Q
  l2 : D2.length ≤ Q.length
  l3 : D3.length = D2.length
  row : ∀ i : Int, 0 ≤ i → i < D2.length → RowOk d C Q i (ix D2 i)
  mark : ∀ i : Int, 0 ≤ i → i < D2.length → ix D3 i = ix d.2.2.2.1 (ix Q i)
theorem QOk.le {C Q : List Int} {K : Nat} (hC : FinC d C K) (h : QOk d C Q) : Q.length ≤ K := by
  have := pigeon_int (n := K) h.nd (fun v hv => by
    obtain ⟨q, hq, rfl⟩ := List.mem_map.1 hv
    have := h.b q hq
    exact hC.b q this.1 this.2)
  rwa [List.length_map] at this
theorem RowOk.ext {C Q : List Int} {i : Int} {row : List Int} (h : RowOk d C Q i row) (i0 : 0 ≤ i) (i1 : i < Q.length) (x : List Int) : RowOk d C (Q ++ x) i row :=
  ⟨h.len, fun a a0 a1 => by
    obtain ⟨h1, h2, h3⟩ := h.to a a0 a1
    rw [ix_append_left h1 h2, ix_append_left i0 i1]
    exact ⟨h1, by rw [List.length_append]; omega, h3⟩⟩
structure OfOk (d : Dt) (C l : List Int) (K : Nat) : Prop where
  len : l.length = d.2.2.1.length
  b : ∀ v : Int, 0 ≤ v → v < K → 0 ≤ ix l v ∧ ix l v < d.2.2.1.length ∧ ix C (ix l v) = v
/-- Going by classes. -/
noncomputable def nxC (d : Dt) (C l : List Int) (v a : Int) : Int := ix C (ix (ix d.2.2.1 (ix l v)) a)
noncomputable def mkC (d : Dt) (l : List Int) (v : Int) : Int := ix d.2.2.2.1 (ix l v)
/-- A least automaton, and of which states its states are. -/
structure LeastOk (d o : Dt) (C Q : List Int) (K : Nat) : Prop where
  fin : FinC d C K
  part : PartOk d C Q o.2.2.1 o.2.2.2.1
  all : o.2.2.1.length = Q.length
  let1 : o.1 = d.1
  st : o.2.1 = 0
  by1 : ∃ (l : List Int) (n : Nat), OfOk d C l K ∧ XGo (nxC d C l) (mkC d l) d.1.toNat (ix C d.2.1) n ∧ (xSt (nxC d C l) (mkC d l) d.1.toNat (ix C d.2.1) n).1.length = n ∧ o = xAut (nxC d C l) (mkC d l) d.1.toNat (ix C d.2.1) n
/-- What numbers stand for classes. -/
def NumOk (d : Dt) (C Q NA : List Int) : Prop := NA.length = d.2.2.1.length ∧ ∀ v : Int, 0 ≤ v → v < d.2.2.1.length → ix NA v = match mfind (Q.map (ix C)) v with
  | some j => (j : Int)
  | none => -1
theorem take_set_succ {row : List Int} {t : Nat} {v : Int} (h : t < row.length) : (row.set t v).take (t + 1) = row.take t ++ [v] := by
  rw [List.take_add_one, List.take_set_of_le (Nat.le_refl _), List.getElem?_set_self h]; rfl
theorem least_letters (h : DOk 3000 badD d) {C l Q0 : List Int} {K : Nat} (hC : FinC d C K) (hl : OfOk d C l K) {L0 : List Int} {D2 : List (List Int)} {D3 : List Int} {r4} {lk : List Int} {i : Int} (hi : i = D2.length) (eL : ix L0 i = ix C (ix Q0 i)) :
    ∀ (f : Nat) (t : Int) (Q NA row : List Int), (d.1 - t).toNat = f → 0 ≤ t → t ≤ d.1 → PartOk d C Q D2 D3 → i < Q.length → ix Q i = ix Q0 i → NumOk d C Q NA → (row.length : Int) = d.1 →
      (∀ a : Int, 0 ≤ a → a < t → 0 ≤ ix row a ∧ ix row a < Q.length ∧ ix C (ix Q (ix row a)) = ix C (ix (ix d.2.2.1 (ix Q i)) a)) → xRow (nxC d C l) (ix C (ix Q0 i)) lk t.toNat = (Q.map (ix C), row.take t.toNat) →
    ∃ x NA' row', xRow (nxC d C l) (ix C (ix Q0 i)) lk d.1.toNat = ((Q ++ x).map (ix C), row') ∧ PartOk d C (Q ++ x) (D2 ++ [row']) (D3 ++ [ix d.2.2.2.1 (ix Q i)]) ∧ NumOk d C (Q ++ x) NA' ∧
      det_Explore_L8 d.1 C d l d l ((C.length : Int) + 1) d.1 0 L0 D2 D3 r4 t (Q.map (ix C)) (iota (Q.map (ix C)).length) (Q.map (ix C)) row = r4 d.1 0 ((Q ++ x).map (ix C)) (iota ((Q ++ x).map (ix C)).length) ((Q ++ x).map (ix C)) (D2 ++ [row']) (D3 ++ [ix d.2.2.2.1 (ix Q i)]) := by
  have hn := h.n1
  have hlt := h.let1
  have hmk := h.mkl
  have hcl := hC.len
  have hK := hC.le
  intro f
  induction f with
  | zero =>
    intro t Q NA row hf t0 t1 hP hiQ eQ hN hrl hrow hxr
    obtain rfl : t = d.1 := by omega
    have hQK := hP.q.le hC
    have hq := hP.q.b _ (ix_mem (by omega) hiQ)
    have hv := hC.b _ hq.1 hq.2
    obtain ⟨o1, o2, o3⟩ := hl.b _ hv.1 hv.2
    have hl3 := hP.l3
    have hll := hl.len
    have hmark : ix d.2.2.2.1 (ix l (ix C (ix Q i))) = ix d.2.2.2.1 (ix Q i) := hC.mark _ _ o1 o2 hq.1 hq.2 o3
    refine ⟨[], NA, row, by rw [hxr, List.append_nil, List.take_of_length_le (by omega)], ⟨by simpa using hP.q, by rw [List.length_append, List.length_append, List.length_singleton]; omega, by rw [List.length_append, List.length_append, List.length_singleton, List.length_singleton]; omega, fun j j0 j1 => ?_, fun j j0 j1 => ?_⟩, by simpa using hN, ?_⟩
    · rw [List.length_append, List.length_singleton] at j1
      rw [List.append_nil]
      by_cases e : j < D2.length
      · rw [ix_append_left j0 e]; exact hP.row j j0 e
      · obtain rfl : j = D2.length := by omega
        rw [ix_append_last, ← hi]; exact ⟨hrl, hrow⟩
    · rw [List.length_append, List.length_singleton] at j1
      rw [List.append_nil]
      by_cases e : j < D2.length
      · rw [ix_append_left j0 (by omega)]; exact hP.mark j j0 e
      · have e1 : j = D3.length := by omega
        have e2 : j = i := by omega
        rw [e1, ix_append_last, ← e1, e2]
    · rw [det_Explore_L8_eq]; unfold det_Explore_L8_B det_Smallest_2
      rw [if_neg (by simp), ← hi, eL, ← eQ, List.append_nil]
      refine G_to (by unfold room; simp; have := hP.l2; omega) ?_
      refine bind_to (y := ix d.2.2.2.1 (ix Q i)) ?_ ?_
      · rw [← hmark]
        exact G_to (by omega) (G_to (by omega) rfl)
      · exact G_to (by unfold room; simp; have := hP.l2; omega) rfl
  | succ f ih =>
    intro t Q NA row hf t0 t1 hP hiQ eQ hN hrl hrow hxr
    have hQK := hP.q.le hC
    have hq := hP.q.b _ (ix_mem (by omega) hiQ)
    have hv := hC.b _ hq.1 hq.2
    obtain ⟨o1, o2, o3⟩ := hl.b _ hv.1 hv.2
    have hll := hl.len
    have hr1 := h.tab.rowlen hq.1 hq.2
    have hr2 := h.tab.rowlen o1 o2
    have hx := h.tab.stpb hq.1 hq.2 t0 (by omega)
    have hy := h.tab.stpb o1 o2 t0 (by omega)
    unfold stp at hx hy
    have hst := hC.stable _ _ o1 o2 hq.1 hq.2 o3 t t0 (by omega)
    have hw := hC.b _ hx.1 hx.2
    have hNx := hN.2 _ hw.1 (by omega : _ < (d.2.2.1.length : Int))
    have hNl := hN.1
    -- the next state and its class
    obtain ⟨x, hxd⟩ : ∃ x, x = ix (ix d.2.2.1 (ix Q i)) t := ⟨_, rfl⟩
    rw [← hxd] at hx hst hw hNx
    have hnx : nxC d C l (ix C (ix Q0 i)) (t.toNat : Int) = ix C x := by
      unfold nxC
      rw [← eQ, Int.toNat_of_nonneg t0]; exact hst
    have s1 : det_Smallest_1 (ix L0 (D2.length : Int)) t C d l = some (ix C x) := by
      unfold det_Smallest_1
      rw [← hi, eL, ← eQ, ← hst]
      exact G_to (by omega) (G_to (by omega) (G_to (by omega) (G_to (by omega) rfl)))
    have hP1 : det_Explore_L8 d.1 C d l d l ((C.length : Int) + 1) d.1 0 L0 D2 D3 r4 t (Q.map (ix C)) (iota (Q.map (ix C)).length) (Q.map (ix C)) row =
        if ix C x ∈ Q.map (ix C) then det_Explore_L8 d.1 C d l d l ((C.length : Int) + 1) d.1 0 L0 D2 D3 r4 (t + 1) (Q.map (ix C)) (iota (Q.map (ix C)).length) (Q.map (ix C)) (row.set t.toNat (mget (Q.map (ix C)) (iota (Q.map (ix C)).length) (ix C x) 0))
        else det_Explore_L8 d.1 C d l d l ((C.length : Int) + 1) d.1 0 L0 D2 D3 r4 (t + 1) ((Q ++ [x]).map (ix C)) (iota ((Q ++ [x]).map (ix C)).length) ((Q ++ [x]).map (ix C)) (row.set t.toNat (Q.length : Int)) := by
      conv => lhs; rw [det_Explore_L8_eq]; unfold det_Explore_L8_B
      rw [if_pos (by simp; omega)]
      refine bind_to s1 ?_
      unfold det_Explore_J17
      by_cases c : ix C x ∈ Q.map (ix C)
      · rw [if_neg (by rw [mhas_iff.2 c]; simp), if_pos c]
        exact G_to (by omega) (G_to (by omega) (G_to (by unfold fits; omega) rfl))
      · have hh : mhas (Q.map (ix C)) (ix C x) = false := by
          cases e : mhas (Q.map (ix C)) (ix C x) with
          | false => rfl
          | true => exact absurd (mhas_iff.1 e) c
        rw [if_pos (by rw [hh]; rfl), if_neg c, if_neg (by rw [decide_eq_true_iff, List.length_map]; omega), mputK_new c, mputV_iota c, List.map_append, List.map_singleton, List.length_map]
        exact G_to (by unfold room; simp; omega) (G_to (by omega) (G_to (by omega) (G_to (by unfold fits; omega) rfl)))
    rw [hP1]
    have rowstep : ∀ (Q' : List Int) (v : Int), (∀ j : Int, 0 ≤ j → j < Q.length → ix Q' j = ix Q j) → Q.length ≤ Q'.length → 0 ≤ v → v < Q'.length → ix C (ix Q' v) = ix C x →
        ∀ a : Int, 0 ≤ a → a < t + 1 → 0 ≤ ix (row.set t.toNat v) a ∧ ix (row.set t.toNat v) a < Q'.length ∧ ix C (ix Q' (ix (row.set t.toNat v) a)) = ix C (ix (ix d.2.2.1 (ix Q' i)) a) := fun Q' v hQ' hle v0 v1 hv' a a0 a1 => by
      by_cases e : a = t
      · subst e
        rw [ix_set_same a0 (by omega), hQ' i (by omega) hiQ, ← hxd]; exact ⟨v0, v1, hv'⟩
      · obtain ⟨h1, h2, h3⟩ := hrow a a0 (by omega)
        rw [ix_set_ne t0 a0 (Ne.symm e), hQ' _ h1 h2, hQ' i (by omega) hiQ]
        exact ⟨h1, by omega, h3⟩
    by_cases c : ix C x ∈ Q.map (ix C)
    · obtain ⟨j, hj⟩ := mfind_mem c
      have hjl := mfind_lt hj
      rw [List.length_map] at hjl
      have hjx : ix C (ix Q j) = ix C x := by
        have := mfind_get hj
        rw [List.getElem?_map, List.getElem?_eq_getElem hjl, Option.map_some] at this
        have e2 : ix Q (j : Int) = Q[j] := by rw [ix_eq (l := Q) (by omega) (by omega)]; simp
        rw [e2]
        exact Option.some.inj this
      rw [hj] at hNx
      have hNx : ix NA (ix C x) = (j : Int) := hNx
      rw [if_pos c, mget_iota hj]
      refine ih (t + 1) Q NA _ (by omega) (by omega) (by omega) hP hiQ eQ hN (by rw [List.length_set]; exact hrl) (rowstep Q j (fun _ _ _ => rfl) (Nat.le_refl _) (by omega) (by omega) hjx) ?_
      rw [show (t + 1).toNat = t.toNat + 1 by omega, xRow_some (j := j) (by rw [hxr, hnx]; exact hj), hxr, take_set_succ (by omega)]
    · rw [mfind_none.2 c] at hNx
      have hNx : ix NA (ix C x) = -1 := hNx
      rw [if_neg c]
      have hQ' : ∀ j : Int, 0 ≤ j → j < Q.length → ix (Q ++ [x]) j = ix Q j := fun j j0 j1 => ix_append_left j0 j1
      have hP' : PartOk d C (Q ++ [x]) D2 D3 := by
        refine ⟨⟨fun q hq => (List.mem_append.1 hq).elim (hP.q.b q) (fun e => by rw [List.mem_singleton.1 e]; exact hx), ?_, ?_⟩, by rw [List.length_append]; have := hP.l2; omega, hP.l3, fun j j0 j1 => ?_, fun j j0 j1 => ?_⟩
        · rw [List.map_append, List.nodup_append]
          exact ⟨hP.q.nd, by simp, fun u hu w hw => by rw [List.map_singleton, List.mem_singleton] at hw; rw [hw]; rintro rfl; exact c hu⟩
        · have := hP.q.z
          exact ⟨by simp, by rw [hQ' 0 (by omega) (by omega)]; exact this.2⟩
        · exact (hP.row j j0 j1).ext j0 (by have := hP.l2; omega) _
        · rw [hQ' j j0 (by have := hP.l2; omega)]; exact hP.mark j j0 j1
      have hN' : NumOk d C (Q ++ [x]) (NA.set (ix C x).toNat (Q.length : Int)) := by
        refine ⟨by rw [List.length_set]; exact hN.1, fun v v0 v1 => ?_⟩
        rw [List.map_append, List.map_singleton]
        by_cases e : v = ix C x
        · subst e
          rw [ix_set_same v0 (by omega), mfind_new c]
          simp
        · rw [ix_set_ne hw.1 v0 (Ne.symm e), hN.2 v v0 v1]
          cases hm : mfind (Q.map (ix C)) v with
          | some j => rw [mfind_app _ hm]
          | none =>
            rw [mfind_none.2 (fun hh => by
              rcases List.mem_append.1 hh with hh | hh
              · exact mfind_none.1 hm hh
              · exact e (List.mem_singleton.1 hh))]
      obtain ⟨y, NA', row', z0, z1, z2, z3⟩ := ih (t + 1) (Q ++ [x]) _ (row.set t.toNat (Q.length : Int)) (by omega) (by omega) (by omega) hP' (by rw [List.length_append]; omega) (by rw [hQ' i (by omega) hiQ]; exact eQ) hN' (by rw [List.length_set]; exact hrl)
        (rowstep (Q ++ [x]) (Q.length : Int) hQ' (by rw [List.length_append]; omega) (by omega) (by rw [List.length_append, List.length_singleton]; omega) (by rw [ix_append_last])) (by rw [show (t + 1).toNat = t.toNat + 1 by omega, xRow_none (by rw [hxr, hnx]; exact mfind_none.2 c), hxr, hnx, take_set_succ (by omega), List.length_map, List.map_append, List.map_singleton])
      rw [hQ' i (by omega) hiQ] at z1 z3
      rw [List.append_assoc] at z0 z1 z2 z3
      exact ⟨_, NA', row', z0, z1, z2, z3⟩
theorem least_main (h : DOk 3000 badD d) {C l : List Int} {K : Nat} (hC : FinC d C K) (hl : OfOk d C l K) : ∀ (f : Nat) (Q NA : List Int) (D2 : List (List Int)) (D3 : List Int), 3000 - D2.length = f → PartOk d C Q D2 D3 → NumOk d C Q NA → XGo (nxC d C l) (mkC d l) d.1.toNat (ix C d.2.1) D2.length → xSt (nxC d C l) (mkC d l) d.1.toNat (ix C d.2.1) D2.length = (Q.map (ix C), D2, D3) →
    ∃ o Q', LeastOk d o C Q' K ∧ det_Explore_L4 d.1 C d l d l ((C.length : Int) + 1) d.1 0 (Q.map (ix C)) (iota (Q.map (ix C)).length) (Q.map (ix C)) D2 D3 = some (o, true) := by
  have hn := h.n1
  have hlt := h.let1
  intro f
  induction f using Nat.strongRecOn with
  | ind f ih =>
  intro Q NA D2 D3 hf hP hN hgo hxs
  have hQK := hP.q.le hC
  have hK := hC.le
  rw [det_Explore_L4_eq]; unfold det_Explore_L4_B
  by_cases e : D2.length < Q.length
  · have e1 : ix (Q.map (ix C)) (D2.length : Int) = ix C (ix Q (D2.length : Int)) := ix_map _ (by omega) (by omega)
    obtain ⟨x, NA', row', z0, z1, z2, z3⟩ := least_letters (lk := Q.map (ix C)) (r4 := det_Explore_L4 d.1 C d l d l ((C.length : Int) + 1)) h hC hl (L0 := Q.map (ix C)) (Q0 := Q) (D2 := D2) (D3 := D3) rfl e1 _ 0 Q NA (List.replicate d.1.toNat 0) rfl (by omega) (by omega) hP (by omega) rfl hN (by rw [List.length_replicate]; omega) (fun a a0 a1 => by omega) (by simp [xRow])
    have hq := hP.q.b _ (ix_mem (by omega) (by omega : (D2.length : Int) < Q.length))
    have hv := hC.b _ hq.1 hq.2
    obtain ⟨o1, o2, o3⟩ := hl.b _ hv.1 hv.2
    have hmark : mkC d l (ix C (ix Q (D2.length : Int))) = ix d.2.2.2.1 (ix Q (D2.length : Int)) := hC.mark _ _ o1 o2 hq.1 hq.2 o3
    have hgo' : XGo (nxC d C l) (mkC d l) d.1.toNat (ix C d.2.1) (D2 ++ [row']).length := fun k hk => by
      rw [List.length_append, List.length_singleton] at hk
      by_cases c : k < D2.length
      · exact hgo k c
      · obtain rfl : k = D2.length := by omega
        rw [hxs, List.length_map]; exact e
    have hxs' : xSt (nxC d C l) (mkC d l) d.1.toNat (ix C d.2.1) (D2 ++ [row']).length = ((Q ++ x).map (ix C), D2 ++ [row'], D3 ++ [ix d.2.2.2.1 (ix Q (D2.length : Int))]) := by
      rw [List.length_append, List.length_singleton, xSt, hxs]
      show ((xRow _ (ix (Q.map (ix C)) (D2.length : Int)) (Q.map (ix C)) d.1.toNat).1, D2 ++ [(xRow _ (ix (Q.map (ix C)) (D2.length : Int)) (Q.map (ix C)) d.1.toNat).2], D3 ++ [mkC d l (ix (Q.map (ix C)) (D2.length : Int))]) = _
      rw [e1, z0, hmark]
    obtain ⟨o, Q', w1, w2⟩ := ih (3000 - (D2 ++ [row']).length) (by rw [List.length_append, List.length_singleton]; have := z1.q.le hC; have := z1.l2; rw [List.length_append, List.length_singleton] at this; omega) (Q ++ x) NA' (D2 ++ [row']) _ rfl z1 z2 hgo' hxs'
    refine ⟨o, Q', w1, ?_⟩
    rw [if_pos (by simp; omega)]
    exact G_to (by rw [List.length_map]; omega) (G_to (by rw [List.length_map]; omega) (G_to (by unfold mkOK; omega) (z3.trans w2)))
  · refine ⟨(d.1, 0, D2, D3, ()), Q, ⟨hC, hP, by have := hP.l2; show D2.length = Q.length; omega, rfl, rfl, l, D2.length, hl, hgo, by rw [hxs, List.length_map]; have := hP.l2; omega, by unfold xAut; rw [hxs, Int.toNat_of_nonneg (by omega)]⟩, ?_⟩
    rw [if_neg (by rw [decide_eq_true_iff, List.length_map]; omega)]
theorem Smallest_of (h : DOk 3000 badD d) {C : List Int} {K : Nat} (hC : FinC d C K) : ∃ l, OfOk d C l K ∧ det_Smallest_L4 d C 0 (List.replicate C.length 0) = det_Smallest_L4 d C (C.length : Int) l := by
  have hn := h.n1
  have hcl := hC.len
  have hK := hC.le
  have key : ∀ (f : Nat) (t : Int) (l : List Int), (C.length - t).toNat = f → 0 ≤ t → t ≤ C.length → l.length = C.length → (∀ v : Int, 0 ≤ v → v < K → (∃ q : Int, 0 ≤ q ∧ q < t ∧ ix C q = v) → 0 ≤ ix l v ∧ ix l v < d.2.2.1.length ∧ ix C (ix l v) = v) →
      ∃ l', OfOk d C l' K ∧ det_Smallest_L4 d C t l = det_Smallest_L4 d C (C.length : Int) l' := by
    intro f
    induction f with
    | zero =>
      intro t l hf t0 t1 hll hv
      obtain rfl : t = C.length := by omega
      exact ⟨l, ⟨by omega, fun v v0 v1 => by
        obtain ⟨q, q0, q1, e⟩ := hC.sur v v0 v1
        exact hv v v0 v1 ⟨q, q0, by omega, e⟩⟩, rfl⟩
    | succ f ih =>
      intro t l hf t0 t1 hll hv
      have hb := hC.b t t0 (by omega)
      obtain ⟨l', h1, h2⟩ := ih (t + 1) (l.set (ix C t).toNat t) (by omega) (by omega) (by omega) (by rw [List.length_set]; exact hll) (fun v v0 v1 ⟨q, q0, q1, e⟩ => by
        by_cases e2 : v = ix C t
        · subst e2
          rw [ix_set_same v0 (by omega)]; exact ⟨t0, by omega, rfl⟩
        · rw [ix_set_ne hb.1 v0 (Ne.symm e2)]
          refine hv v v0 v1 ⟨q, q0, ?_, e⟩
          by_cases e3 : q = t
          · subst e3; exact absurd e.symm e2
          · omega)
      refine ⟨l', h1, ?_⟩
      rw [← h2]
      conv => lhs; rw [det_Smallest_L4_eq]; unfold det_Smallest_L4_B
      rw [if_pos (by simp; omega)]
      exact G_to (by omega) (G_to (by omega) (G_to (by omega) (G_to (by omega) (G_to (by unfold fits; omega) rfl))))
  exact key _ 0 _ rfl (by omega) (by omega) (by rw [List.length_replicate]) (fun v v0 v1 ⟨q, q0, q1, _⟩ => by omega)
/-- The program's least automaton and the document's are one. -/
theorem least_both (h : DOk 3000 badD d) : ∃ o C Q K, LeastOk d o C Q K ∧ det_Smallest d = some o := by
  have hn := h.n1
  obtain ⟨C, K, hC, c1⟩ := classes_both h
  obtain ⟨l, hl, l1⟩ := Smallest_of h hC
  have hs := h.st
  have hcl := hC.len
  have hb := hC.b _ hs.1 hs.2
  have hK := hC.le
  have hP : PartOk d C [d.2.1] [] [] := ⟨⟨fun q hq => by rw [List.mem_singleton.1 hq]; exact hs, by simp, by simp, rfl⟩, by simp, rfl, fun i i0 i1 => by simp at i1; omega, fun i i0 i1 => by simp at i1; omega⟩
  have hN : NumOk d C [d.2.1] ((List.replicate C.length (-1 : Int)).set (ix C d.2.1).toNat 0) := by
    refine ⟨by rw [List.length_set, List.length_replicate]; exact hcl, fun v v0 v1 => ?_⟩
    rw [List.map_singleton]
    by_cases e : v = ix C d.2.1
    · subst e
      rw [ix_set_same v0 (by rw [List.length_replicate]; omega), mfind_hd]; rfl
    · rw [ix_set_ne hb.1 v0 (Ne.symm e), ix_replicate v0 (by omega), mfind_none.2 (by simpa using e)]
  obtain ⟨o, Q, w1, w2⟩ := least_main h hC hl _ [d.2.1] _ [] [] rfl hP hN (fun k hk => by simp at hk) rfl
  have ed : (d.1, d.2.1, d.2.2.1, d.2.2.2.1, ()) = d := rfl
  refine ⟨o, C, Q, K, w1, ?_⟩
  · unfold det_Smallest
    rw [ed]
    refine bind_to c1 ?_
    refine G_to (by unfold mkOK; omega) ?_
    rw [Int.toNat_natCast, l1, det_Smallest_L4_eq]; unfold det_Smallest_L4_B
    rw [if_neg (by simp)]
    refine G_to (by omega) (G_to (by omega) (G_to (by unfold fits; omega) ?_))
    have hE : det_Explore d.1 (ix C d.2.1) C d l d l ((C.length : Int) + 1) = some (o, true) := w2
    refine both_to ?_ ?_
    · rw [ed]
      exact bind_to hE rfl
    · rw [ed]
      exact bind_to hE rfl
end

/-- The least automaton goes along. -/
theorem least_walk {d o : Dt} {C Q : List Int} {K : Nat} (hd : DOk 3000 badD d) (h : LeastOk d o C Q K) : ∀ (w : List Int) (i q : Int), 0 ≤ i → i < Q.length → 0 ≤ q → q < d.2.2.1.length → ix C (ix Q i) = ix C q → (∀ a ∈ w, 0 ≤ a ∧ a < d.1) →
    0 ≤ wlk o.2.2.1 i w ∧ wlk o.2.2.1 i w < Q.length ∧ ix C (ix Q (wlk o.2.2.1 i w)) = ix C (wlk d.2.2.1 q w)
  | [], i, q, i0, i1, _, _, e, _ => ⟨i0, i1, e⟩
  | a :: w, i, q, i0, i1, q0, q1, e, hw => by
    have ha := hw a (by simp)
    have hr := h.part.row i i0 (by rw [h.all]; exact i1)
    obtain ⟨t1, t2, t3⟩ := hr.to a ha.1 ha.2
    have hq := h.part.q.b _ (ix_mem i0 i1)
    have hs := hd.tab.stpb q0 q1 ha.1 ha.2
    have hst := h.fin.stable _ _ hq.1 hq.2 q0 q1 e a ha.1 ha.2
    exact least_walk hd h w (ix (ix o.2.2.1 i) a) (stp d.2.2.1 q a) t1 t2 hs.1 hs.2 (t3.trans hst) (fun b hb => hw b (by simp [hb]))
theorem least_mark {d o : Dt} {C Q : List Int} {K : Nat} (hd : DOk 3000 badD d) (h : LeastOk d o C Q K) {w : List Int} (hw : ∀ a ∈ w, 0 ≤ a ∧ a < d.1) : 0 ≤ wlk o.2.2.1 o.2.1 w ∧ wlk o.2.2.1 o.2.1 w < o.2.2.1.length ∧ ix o.2.2.2.1 (wlk o.2.2.1 o.2.1 w) = ix d.2.2.2.1 (wlk d.2.2.1 d.2.1 w) := by
  have hz := h.part.q.z
  have hst := hd.st
  obtain ⟨h1, h2, h3⟩ := least_walk hd h w 0 d.2.1 (by omega) (by omega) hst.1 hst.2 (by rw [hz.2]) hw
  rw [h.st]
  refine ⟨h1, by rw [h.all]; exact h2, ?_⟩
  rw [h.part.mark _ h1 (by rw [h.all]; exact h2)]
  have hq := h.part.q.b _ (ix_mem h1 h2)
  have hw2 := hd.tab.wlkb hst.1 hst.2 hw
  exact h.fin.mark _ _ hq.1 hq.2 hw2.1 hw2.2 h3
theorem LeastOk.tab' {d o : Dt} {C Q : List Int} {K : Nat} (h : LeastOk d o C Q K) : Tab o.1 o.2.2.1 := by
  refine ⟨fun r hr => ?_, fun r hr q hq => ?_⟩
  · obtain ⟨j, j0, j1, rfl⟩ := (ex_ix (P := fun x => x = r)).1 ⟨r, hr, rfl⟩
    rw [h.let1]; exact (h.part.row j j0 j1).len
  · obtain ⟨j, j0, j1, rfl⟩ := (ex_ix (P := fun x => x = r)).1 ⟨r, hr, rfl⟩
    have hr := h.part.row j j0 j1
    obtain ⟨k, k0, k1, rfl⟩ := (ex_ix (P := fun x => x = q)).1 ⟨q, hq, rfl⟩
    have := hr.to k k0 (by rw [← hr.len]; exact k1)
    rw [h.all]; exact ⟨this.1, this.2.1⟩

/- One language, one least automaton. -/
theorem xRow_map {nx nx' : Int → Int → Int} {f : Int → Int} {P : Int → Prop} {L : Nat} (hinj : ∀ x y, P x → P y → f x = f y → x = y) (hn : ∀ s, P s → ∀ t : Int, 0 ≤ t → t < L → P (nx s t) ∧ f (nx s t) = nx' (f s) t) {s : Int} (hs : P s) {l : List Int} (hl : ∀ x ∈ l, P x) : ∀ t : Nat, t ≤ L →
    (∀ x ∈ (xRow nx s l t).1, P x) ∧ xRow nx' (f s) (l.map f) t = ((xRow nx s l t).1.map f, (xRow nx s l t).2)
  | 0, _ => ⟨hl, rfl⟩
  | t + 1, ht => by
    obtain ⟨h1, h2⟩ := xRow_map hinj hn hs hl t (by omega)
    obtain ⟨p1, p2⟩ := hn s hs t (by omega) (by omega)
    have e : mfind ((xRow nx s l t).1.map f) (nx' (f s) t) = mfind (xRow nx s l t).1 (nx s t) := by
      rw [← p2]
      exact mfind_map f (fun y hy he => hinj _ _ (h1 y hy) p1 he)
    cases c : mfind (xRow nx s l t).1 (nx s t) with
    | some j =>
      rw [xRow_some c, xRow_some (j := j) (by rw [h2, e, c]), h2]
      exact ⟨h1, rfl⟩
    | none =>
      rw [xRow_none c, xRow_none (by rw [h2, e, c]), h2]
      refine ⟨fun x hx => (List.mem_append.1 hx).elim (h1 x) (fun hh => by rw [List.mem_singleton.1 hh]; exact p1), ?_⟩
      rw [← p2]; simp
theorem xSt_map {nx nx' : Int → Int → Int} {mk mk' : Int → Int} {f : Int → Int} {P : Int → Prop} {L : Nat} {first : Int} (hf : P first) (hinj : ∀ x y, P x → P y → f x = f y → x = y) (hn : ∀ s, P s → ∀ t : Int, 0 ≤ t → t < L → P (nx s t) ∧ f (nx s t) = nx' (f s) t) (hm : ∀ s, P s → mk' (f s) = mk s) : ∀ i : Nat, XGo nx mk L first i →
    (∀ x ∈ (xSt nx mk L first i).1, P x) ∧ xSt nx' mk' L (f first) i = ((xSt nx mk L first i).1.map f, (xSt nx mk L first i).2.1, (xSt nx mk L first i).2.2)
  | 0, _ => ⟨fun x hx => by
      have : x = first := by simpa [xSt] using hx
      rw [this]; exact hf, rfl⟩
  | i + 1, hg => by
    obtain ⟨h1, h2⟩ := xSt_map hf hinj hn hm i (fun k hk => hg k (by omega))
    have hi := hg i (by omega)
    have hP := h1 _ (ix_mem (i := (i : Int)) (by omega) (by omega))
    have e : ix ((xSt nx mk L first i).1.map f) (i : Int) = f (ix (xSt nx mk L first i).1 (i : Int)) := ix_map _ (by omega) (by omega)
    obtain ⟨g1, g2⟩ := xRow_map hinj hn hP h1 L (Nat.le_refl _)
    refine ⟨g1, ?_⟩
    rw [xSt, h2]
    show ((xRow nx' (ix ((xSt nx mk L first i).1.map f) (i : Int)) ((xSt nx mk L first i).1.map f) L).1, (xSt nx mk L first i).2.1 ++ [(xRow nx' (ix ((xSt nx mk L first i).1.map f) (i : Int)) ((xSt nx mk L first i).1.map f) L).2], (xSt nx mk L first i).2.2 ++ [mk' (ix ((xSt nx mk L first i).1.map f) (i : Int))]) = _
    rw [e, g2, hm _ hP]
    rfl
theorem LEq.symm {d e : Dt} {q r : Int} (hL : d.1 = e.1) (h : LEq d q e r) : LEq e r d q := fun w hw => (h w (fun a ha => by rw [hL]; exact hw a ha)).symm
theorem LEq.trans {d e f : Dt} {q r s : Int} (hL : d.1 = e.1) (h : LEq d q e r) (k : LEq e r f s) : LEq d q f s := fun w hw => (h w hw).trans (k w (fun a ha => by rw [← hL]; exact hw a ha))
theorem cls_LEq {d : Dt} (hd : DOk 3000 badD d) {C : List Int} {K : Nat} (hC : FinC d C K) {q r : Int} (q0 : 0 ≤ q) (q1 : q < d.2.2.1.length) (r0 : 0 ≤ r) (r1 : r < d.2.2.1.length) (h : ix C q = ix C r) : LEq d q d r := by
  intro w
  induction w generalizing q r with
  | nil => intro _; exact hC.mark _ _ q0 q1 r0 r1 h
  | cons a w ih =>
    intro hw
    have ha := hw a (by simp)
    have sq := hd.tab.stpb q0 q1 ha.1 ha.2
    have sr := hd.tab.stpb r0 r1 ha.1 ha.2
    exact ih sq.1 sq.2 sr.1 sr.2 (hC.stable _ _ q0 q1 r0 r1 h a ha.1 ha.2) (fun b hb => hw b (by simp [hb]))
theorem least_one {d e o p : Dt} {C Q C' Q' : List Int} {K K' : Nat} (hd : DOk 3000 badD d) (he : DOk 3000 badD e) (h : LeastOk d o C Q K) (k : LeastOk e p C' Q' K') (hL : d.1 = e.1) (hq : LEq d d.2.1 e e.2.1) : o = p := by
  obtain ⟨l, n, hl, go, gn, rfl⟩ := h.by1
  obtain ⟨l', n', hl', go', gn', rfl⟩ := k.by1
  have hC := h.fin
  have hC' := k.fin
  have hds := hd.st
  have hes := he.st
  let P : Int → Prop := fun v => 0 ≤ v ∧ v < K ∧ ∃ v' : Int, 0 ≤ v' ∧ v' < K' ∧ LEq d (ix l v) e (ix l' v')
  let f : Int → Int := fun v => Classical.epsilon fun v' : Int => 0 ≤ v' ∧ v' < K' ∧ LEq d (ix l v) e (ix l' v')
  have fs : ∀ v, P v → 0 ≤ f v ∧ f v < K' ∧ LEq d (ix l v) e (ix l' (f v)) := fun v hv => Classical.epsilon_spec hv.2.2
  have cl : ∀ x y : Int, 0 ≤ x → x < K → 0 ≤ y → y < K → LEq d (ix l x) d (ix l y) → x = y := fun x y x0 x1 y0 y1 hxy => by
    obtain ⟨a1, a2, a3⟩ := hl.b x x0 x1
    obtain ⟨b1, b2, b3⟩ := hl.b y y0 y1
    rw [← a3, ← b3]
    exact hC.coarse _ _ a1 a2 b1 b2 hxy
  have cl' : ∀ x y : Int, 0 ≤ x → x < K' → 0 ≤ y → y < K' → LEq e (ix l' x) e (ix l' y) → x = y := fun x y x0 x1 y0 y1 hxy => by
    obtain ⟨a1, a2, a3⟩ := hl'.b x x0 x1
    obtain ⟨b1, b2, b3⟩ := hl'.b y y0 y1
    rw [← a3, ← b3]
    exact hC'.coarse _ _ a1 a2 b1 b2 hxy
  have hinj : ∀ x y, P x → P y → f x = f y → x = y := fun x y hx hy hxy => by
    obtain ⟨_, _, a3⟩ := fs x hx
    obtain ⟨_, _, b3⟩ := fs y hy
    rw [hxy] at a3
    exact cl x y hx.1 hx.2.1 hy.1 hy.2.1 (a3.trans hL (b3.symm hL))
  -- of two states that no word tells apart, the classes
  have link : ∀ q r : Int, 0 ≤ q → q < d.2.2.1.length → 0 ≤ r → r < e.2.2.1.length → LEq d q e r → P (ix C q) ∧ f (ix C q) = ix C' r := fun q r q0 q1 r0 r1 hqr => by
    have bq := hC.b q q0 q1
    have br := hC'.b r r0 r1
    obtain ⟨a1, a2, a3⟩ := hl.b _ bq.1 bq.2
    obtain ⟨b1, b2, b3⟩ := hl'.b _ br.1 br.2
    have h1 : LEq d (ix l (ix C q)) d q := cls_LEq hd hC a1 a2 q0 q1 a3
    have h2 : LEq e (ix l' (ix C' r)) e r := cls_LEq he hC' b1 b2 r0 r1 b3
    have h3 : LEq d (ix l (ix C q)) e (ix l' (ix C' r)) := (h1.trans rfl hqr).trans hL (h2.symm rfl)
    have hP : P (ix C q) := ⟨bq.1, bq.2, _, br.1, br.2, h3⟩
    obtain ⟨c1, c2, c3⟩ := fs _ hP
    exact ⟨hP, cl' _ _ c1 c2 br.1 br.2 ((c3.symm hL).trans hL.symm h3)⟩
  have hn : ∀ s, P s → ∀ t : Int, 0 ≤ t → t < d.1.toNat → P (nxC d C l s t) ∧ f (nxC d C l s t) = nxC e C' l' (f s) t := fun s hs t t0 t1 => by
    obtain ⟨c1, c2, c3⟩ := fs s hs
    obtain ⟨a1, a2, _⟩ := hl.b s hs.1 hs.2.1
    obtain ⟨b1, b2, _⟩ := hl'.b _ c1 c2
    have sq := hd.tab.stpb a1 a2 t0 (by omega)
    have sr := he.tab.stpb b1 b2 t0 (by omega)
    exact link _ _ sq.1 sq.2 sr.1 sr.2 (c3.step t0 (by omega))
  have hm : ∀ s, P s → mkC e l' (f s) = mkC d l s := fun s hs => by
    obtain ⟨_, _, c3⟩ := fs s hs
    exact (c3 [] (fun a ha => by cases ha)).symm
  obtain ⟨hf, ef⟩ := link _ _ hds.1 hds.2 hes.1 hes.2 hq
  have hm' := fun i hi => xSt_map (nx := nxC d C l) (nx' := nxC e C' l') (mk := mkC d l) (mk' := mkC e l') (f := f) (L := d.1.toNat) hf hinj hn hm i hi
  rw [ef] at hm'
  rw [← hL] at go' gn' ⊢
  have hnn : n = n' := by
    rcases Nat.lt_trichotomy n n' with c | c | c
    · have := go' n c
      rw [(hm' n go).2, List.length_map] at this
      omega
    · exact c
    · have := go n' c
      rw [(hm' n' (fun k hk => go k (by omega))).2, List.length_map] at gn'
      omega
  subst hnn
  unfold xAut
  rw [(hm' n go).2]

theorem ix_inj {α : Type} [Inhabited α] {l : List α} (h : l.Nodup) {i j : Int} (i0 : 0 ≤ i) (i1 : i < l.length) (j0 : 0 ≤ j) (j1 : j < l.length) (e : ix l i = ix l j) : i = j := by
  rw [ix_eq i0 i1, ix_eq j0 j1] at e
  have key : ∀ a b : Nat, (ha : a < l.length) → (hb : b < l.length) → a < b → l[a] ≠ l[b] := fun a b ha hb hlt => List.pairwise_iff_getElem.1 h a b ha hb hlt
  rcases Nat.lt_trichotomy i.toNat j.toNat with c | c | c
  · exact absurd e (key _ _ (by omega) (by omega) c)
  · omega
  · exact absurd e.symm (key _ _ (by omega) (by omega) c)

/- A least automaton is one itself; its states are come to, and told apart. -/
theorem xRow_from {nx : Int → Int → Int} {s : Int} {l : List Int} : ∀ t : Nat, ∀ x ∈ (xRow nx s l t).1, x ∈ l ∨ ∃ a : Int, 0 ≤ a ∧ a < t ∧ x = nx s a
  | 0, x, hx => .inl hx
  | t + 1, x, hx => by
    have ih := xRow_from (nx := nx) (s := s) (l := l) t
    have up : (x ∈ l ∨ ∃ a : Int, 0 ≤ a ∧ a < t ∧ x = nx s a) → (x ∈ l ∨ ∃ a : Int, 0 ≤ a ∧ a < ((t + 1 : Nat) : Int) ∧ x = nx s a) := fun h => h.imp id (fun ⟨a, a0, a1, e⟩ => ⟨a, a0, by omega, e⟩)
    cases c : mfind (xRow nx s l t).1 (nx s t) with
    | some j => rw [xRow_some c] at hx; exact up (ih x hx)
    | none =>
      rw [xRow_none c] at hx
      rcases List.mem_append.1 hx with hx | hx
      · exact up (ih x hx)
      · rw [List.mem_singleton.1 hx]; exact .inr ⟨t, by omega, by omega, rfl⟩
theorem xSt_from {nx : Int → Int → Int} {mk : Int → Int} {L : Nat} {first : Int} : ∀ i : Nat, XGo nx mk L first i → ∀ x ∈ (xSt nx mk L first i).1, ∃ w : List Int, (∀ a ∈ w, 0 ≤ a ∧ a < (L : Int)) ∧ x = w.foldl nx first
  | 0, _, x, hx => ⟨[], (fun a ha => by cases ha), by simpa [xSt] using hx⟩
  | i + 1, hg, x, hx => by
    have ih := xSt_from i (fun k hk => hg k (by omega))
    have hi := hg i (by omega)
    rcases xRow_from L x hx with h | ⟨a, a0, a1, rfl⟩
    · exact ih x h
    · obtain ⟨w, w1, w2⟩ := ih _ (ix_mem (i := (i : Int)) (by omega) (by omega))
      refine ⟨w ++ [a], fun b hb => (List.mem_append.1 hb).elim (w1 b) (fun e => by rw [List.mem_singleton.1 e]; exact ⟨a0, a1⟩), ?_⟩
      rw [List.foldl_append, ← w2]; rfl
section
variable {d o : Dt} {C Q : List Int} {K : Nat}
theorem LeastOk.xok (hd : DOk 3000 badD d) (h : LeastOk d o C Q K) {l : List Int} (hl : OfOk d C l K) : XOk (nxC d C l) (mkC d l) d.1.toNat (ix C d.2.1) K (fun v => 0 ≤ v ∧ v < K) := by
  have hlt := hd.let1
  have hmk := hd.mkl
  refine XOk.int (fun s hs => hs) (h.fin.b _ hd.st.1 hd.st.2) (fun s hs t t0 t1 => ?_) (fun s hs => ?_)
  · obtain ⟨a1, a2, _⟩ := hl.b s hs.1 hs.2
    have := hd.tab.stpb a1 a2 t0 (by omega)
    exact h.fin.b _ this.1 this.2
  · obtain ⟨a1, a2, _⟩ := hl.b s hs.1 hs.2
    have := hd.mok _ (ix_mem a1 (by omega : ix l s < d.2.2.2.1.length))
    unfold badD at this
    unfold mkC
    omega
theorem LeastOk.dok (hd : DOk 3000 badD d) (h : LeastOk d o C Q K) : DOk 3000 badD o := by
  obtain ⟨l, n, hl, go, gn, rfl⟩ := h.by1
  have hlt := hd.let1
  have hn := hd.n1
  have hK := h.fin.le
  exact xAut_ok (h.xok hd hl) (by omega) (by omega) go gn
theorem LeastOk.reach (hd : DOk 3000 badD d) (h : LeastOk d o C Q K) {q : Int} (q0 : 0 ≤ q) (q1 : q < o.2.2.1.length) : ∃ w : List Int, (∀ a ∈ w, 0 ≤ a ∧ a < d.1) ∧ wlk o.2.2.1 o.2.1 w = q := by
  obtain ⟨l, n, hl, go, gn, rfl⟩ := h.by1
  have hlt := hd.let1
  have hx := h.xok hd hl
  obtain ⟨k1, k2, k3⟩ := xSt_ok hx n go
  have hr := k3.r
  have q1' : q < ((xSt (nxC d C l) (mkC d l) d.1.toNat (ix C d.2.1) n).1.length : Int) := by
    have : q < ((xSt (nxC d C l) (mkC d l) d.1.toNat (ix C d.2.1) n).2.1.length : Int) := q1
    omega
  obtain ⟨w, w1, w2⟩ := xSt_from n go _ (ix_mem q0 q1')
  obtain ⟨y1, y2, y3⟩ := xAut_walk hx go gn w 0 (by omega) (by omega) w1
  rw [k3.z, ← w2] at y3
  refine ⟨w, fun a ha => by have := w1 a ha; omega, ?_⟩
  show wlk _ 0 w = q
  exact ix_inj k1.nd y1 (by omega) q0 q1' y3
theorem LeastOk.apart (hd : DOk 3000 badD d) (h : LeastOk d o C Q K) {p q : Int} (p0 : 0 ≤ p) (p1 : p < o.2.2.1.length) (q0 : 0 ≤ q) (q1 : q < o.2.2.1.length) (hpq : LEq o p o q) : p = q := by
  have ha := h.all
  have hl1 := h.let1
  have bp := h.part.q.b _ (ix_mem p0 (by omega))
  have bq := h.part.q.b _ (ix_mem q0 (by omega))
  have e : ∀ {p : Int}, 0 ≤ p → p < o.2.2.1.length → ∀ w : List Int, (∀ a ∈ w, 0 ≤ a ∧ a < d.1) → ix o.2.2.2.1 (wlk o.2.2.1 p w) = ix d.2.2.2.1 (wlk d.2.2.1 (ix Q p) w) := fun {p} p0 p1 w hw => by
    have bp := h.part.q.b _ (ix_mem p0 (by omega))
    obtain ⟨h1, h2, h3⟩ := least_walk hd h w p (ix Q p) p0 (by omega) bp.1 bp.2 rfl hw
    rw [h.part.mark _ h1 (by rw [h.all]; exact h2)]
    have hq := h.part.q.b _ (ix_mem h1 h2)
    have hw2 := hd.tab.wlkb bp.1 bp.2 hw
    exact h.fin.mark _ _ hq.1 hq.2 hw2.1 hw2.2 h3
  have hL : LEq d (ix Q p) d (ix Q q) := fun w hw => by
    rw [← e p0 p1 w hw, ← e q0 q1 w hw]
    exact hpq w (fun a ha => by rw [hl1]; exact hw a ha)
  have hc := h.fin.coarse _ _ bp.1 bp.2 bq.1 bq.2 hL
  have hnd := h.part.q.nd
  refine ix_inj hnd p0 (by rw [List.length_map]; omega) q0 (by rw [List.length_map]; omega) ?_
  rw [ix_map _ p0 (by omega), ix_map _ q0 (by omega), hc]
end

/- Lists by a rule. -/
def RW {α : Type} (f : Int → α) (k : Nat) : List α := (List.range k).map fun j : Nat => f j
theorem RW_succ {α : Type} (f : Int → α) (k : Nat) : RW f (k + 1) = RW f k ++ [f k] := by unfold RW; simp [List.range_succ]
theorem RW_len {α : Type} (f : Int → α) (k : Nat) : (RW f k).length = k := by simp [RW]
theorem RW_ix {α : Type} [Inhabited α] {f : Int → α} {k : Nat} {j : Int} (h0 : 0 ≤ j) (h1 : j < k) : ix (RW f k) j = f j := by
  unfold RW ix
  rw [List.getD_eq_getElem?_getD, List.getElem?_map, List.getElem?_range (by omega)]
  show f ((j.toNat : Nat) : Int) = f j
  rw [Int.toNat_of_nonneg h0]
theorem RW_mem {α : Type} [Inhabited α] {f : Int → α} {k : Nat} {x : α} (h : x ∈ RW f k) : ∃ j : Int, 0 ≤ j ∧ j < k ∧ x = f j := by
  unfold RW at h
  obtain ⟨j, hj, rfl⟩ := List.mem_map.1 h
  have := List.mem_range.1 hj
  exact ⟨j, by omega, by omega, rfl⟩

theorem det_mk (m : Int) : Tells (det_Check_4 m) (badD m) := by
  unfold det_Check_4
  by_cases h : m = 0
  · rw [if_neg (by simpa using h)]; exact Tells.of (by simp [h])
  · rw [if_pos (by simpa using h)]; exact Tells.dec (by simp [h])
theorem det_Check_spec {d : Dt} : det_Check d = some (detE 3000 badD d) := by
  unfold det_Check detE
  by_cases c1 : d.1 < 1 ∨ 4 < d.1
  · rw [if_pos c1]
    (try dsimp only); (repeat' first | (with_reducible refine G_to ?_ ?_; focus (first | omega | (unfold fits; omega) | (unfold room; (try simp only [List.length_append, List.length_cons, List.length_nil]); omega))) | (with_reducible refine both_to ?_ ?_) | (with_reducible refine itet_to ?_) | (with_reducible refine itef_to ?_) | (with_reducible refine ite_to (fun _ => ?_) (fun _ => ?_))) <;> try (exfalso; omega)
    all_goals rfl
  rw [if_neg c1]
  by_cases c2 : DBig 3000 d
  · rw [if_pos c2]; unfold DBig at c2
    (try dsimp only); (repeat' first | (with_reducible refine G_to ?_ ?_; focus (first | omega | (unfold fits; omega) | (unfold room; (try simp only [List.length_append, List.length_cons, List.length_nil]); omega))) | (with_reducible refine both_to ?_ ?_) | (with_reducible refine itet_to ?_) | (with_reducible refine itef_to ?_) | (with_reducible refine ite_to (fun _ => ?_) (fun _ => ?_))) <;> try (exfalso; omega)
    all_goals rfl
  rw [if_neg c2]
  unfold DBig at c2
  by_cases c3 : (d.2.2.2.1.length : Int) = d.2.2.1.length
  case neg =>
    rw [if_pos (show DRag d from .inl c3)]
    (try dsimp only); (repeat' first | (with_reducible refine G_to ?_ ?_; focus (first | omega | (unfold fits; omega) | (unfold room; (try simp only [List.length_append, List.length_cons, List.length_nil]); omega))) | (with_reducible refine both_to ?_ ?_) | (with_reducible refine itet_to ?_) | (with_reducible refine itef_to ?_) | (with_reducible refine ite_to (fun _ => ?_) (fun _ => ?_))) <;> try (exfalso; omega)
    all_goals rfl
  (try dsimp only); (repeat' first | (with_reducible refine G_to ?_ ?_; focus (first | omega | (unfold fits; omega) | (unfold room; (try simp only [List.length_append, List.length_cons, List.length_nil]); omega))) | (with_reducible refine both_to ?_ ?_) | (with_reducible refine itet_to ?_) | (with_reducible refine itef_to ?_) | (with_reducible refine ite_to (fun _ => ?_) (fun _ => ?_))) <;> try (exfalso; omega)
  have k1 : Tells (slices_ContainsFunc d.2.2.1 d) (∃ r ∈ d.2.2.1, ¬ (r.length : Int) = d.1) := contains_tells (f := fun r => det_Check_1 r d) (slices_IndexFunc_L2_eq d.2.2.1 d) (by omega) (fun x _ => Tells.dec Iff.rfl)
  have nn : ∀ q t : Int, Tells (det_Check_2 q t) (q < 0 ∨ t ≤ q) := fun q t => by
    unfold det_Check_2
    by_cases h : q < 0
    · rw [if_pos (decide_eq_true h)]; exact Tells.of (by simp [h])
    · rw [if_neg (by simpa using h)]; exact Tells.dec (by omega)
  have k2 : ∀ r ∈ d.2.2.1, r.length ≤ 1000 → Tells (slices_ContainsFunc_2 r (d.2.2.1.length : Int)) (∃ q ∈ r, q < 0 ∨ (d.2.2.1.length : Int) ≤ q) := fun r _ hr => contains_tells (f := fun q => det_Check_2 q (d.2.2.1.length : Int)) (slices_IndexFunc_2_L2_eq r (d.2.2.1.length : Int)) (by omega) (fun x _ => nn x _)
  have k4 : Tells (slices_ContainsFunc_3 d.2.2.2.1) (∃ s ∈ d.2.2.2.1, (badD) s) := contains_tells (f := fun q => det_Check_4 q) (slices_IndexFunc_3_L2_eq d.2.2.2.1) (by omega) (fun x _ => det_mk x)
  refine k1.to (fun h => by rw [if_pos (show DRag d from .inr h)]) (fun h => ?_)
  rw [if_neg (show ¬ DRag d from fun hh => hh.elim (fun e => e c3) h)]
  have hr : ∀ r ∈ d.2.2.1, r.length ≤ 1000 := fun r hr => by
    by_cases e : (r.length : Int) = d.1
    · omega
    · exact absurd ⟨r, hr, e⟩ h
  refine (nn _ _).to (fun h => by rw [if_pos (show DOut _ d from .inl h)]) (fun h1 => ?_)
  obtain ⟨b, hb, hb2⟩ : ∃ b, slices_ContainsFunc_1 d.2.2.1 (d.2.2.1.length : Int) = some (b, (d.2.2.1.length : Int)) ∧ (b = true ↔ ∃ r ∈ d.2.2.1, ∃ q ∈ r, q < 0 ∨ (d.2.2.1.length : Int) ≤ q) :=
    contains_tells2 (f := det_Check_3) (slices_IndexFunc_1_L2_eq d.2.2.1) (by omega) (fun r hrm => by
      obtain ⟨b, e, e2⟩ := k2 r hrm (hr r hrm)
      exact ⟨b, by unfold det_Check_3; rw [e]; rfl, e2⟩)
  rw [hb]
  refine bind_to rfl ?_
  refine iteb_to (fun h => by rw [if_pos (show DOut _ d from .inr (.inl (hb2.1 h)))]) (fun h2 => ?_)
  refine k4.to (fun h => by rw [if_pos (show DOut _ d from .inr (.inr h))]) (fun h3 => ?_)
  rw [if_neg (show ¬ DOut _ d from fun h => h.elim h1 (fun h => h.elim (fun h => by rw [hb2.2 h] at h2; cases h2) h3))]

abbrev Tb := Int × Int × Int × Int × Int × Unit
abbrev Tw := Int × Int × List (List (Int × Int × Unit)) × List Int × Unit
abbrev At := Int × Int × List (List (List (List Int))) × List Int × Unit
/- The program's exploring of tables that hang on a state: det_Explore_1. -/
theorem det_Explore_1_row {s : Tb} {l : List Tb} {nx : Tb → Int → Tb} {mk : Tb → Int} {first : Tb} {B : Nat} {P : Tb → Prop} {g m : Int} {t0 : Tw} (hx : XOk nx mk g.toNat first B P) (hB : B < 1048576) (hB3 : B ≤ 3000) (h1 : 1 ≤ g ∧ g ≤ 4) (hnx : ∀ s, P s → ∀ t, 0 ≤ t → t < g → two_Det_2 s t m m t0 = some (nx s t, m, t0)) (hmk : ∀ s, P s → two_Det_3 s t0 m t0 = some (mk s, m, t0)) {L0 : List Tb} {D2 : List (List Int)} {D3 : List Int} {r4} (hs : P s) (hl : LiOk B P l) (eL : ix L0 (D2.length : Int) = s) (h2 : D2.length ≤ 3000) (h3 : D3.length ≤ 3000) :
    det_Explore_1_L8 g 1048576 g 0 L0 D2 D3 r4 m t0 0 m t0 l (iota l.length) l (List.replicate g.toNat 0) =
      r4 m t0 m t0 g 0 (xRow nx s l g.toNat).1 (iota (xRow nx s l g.toNat).1.length) (xRow nx s l g.toNat).1 (D2 ++ [(xRow nx s l g.toNat).2]) (D3 ++ [mk s]) := by
  have key : ∀ (n t : Nat) (row : List Int), g.toNat - t = n → t ≤ g.toNat → row.length = g.toNat → (∀ j : Int, 0 ≤ j → j < t → ix row j = ix (xRow nx s l t).2 j) →
      det_Explore_1_L8 g 1048576 g 0 L0 D2 D3 r4 m t0 t m t0 (xRow nx s l t).1 (iota (xRow nx s l t).1.length) (xRow nx s l t).1 row =
      r4 m t0 m t0 g 0 (xRow nx s l g.toNat).1 (iota (xRow nx s l g.toNat).1.length) (xRow nx s l g.toNat).1 (D2 ++ [(xRow nx s l g.toNat).2]) (D3 ++ [mk s]) := by
    intro n
    induction n with
    | zero =>
      intro t row hn ht hr hj
      obtain rfl : t = g.toNat := by omega
      obtain ⟨g1, ⟨_, g2, _⟩⟩ := xRow_ok hx hs hl g.toNat (Nat.le_refl _)
      have : row = (xRow nx s l g.toNat).2 := ix_ext (by omega) fun j j0 j1 => hj j j0 (by omega)
      rw [det_Explore_1_L8_eq]; unfold det_Explore_1_L8_B
      rw [if_neg (by simp; omega), this]
      refine G_to (by unfold room; simp; omega) ?_
      rw [eL]
      have hk : (two_Det_3 (s.1, s.2.1, s.2.2.1, s.2.2.2.1, s.2.2.2.2.1, ()) t0 m t0) = some (mk s, m, t0) := hmk s hs
      refine both_to ?_ ?_
      · exact bind_to hk (G_to (by unfold room; simp; omega) rfl)
      · exact bind_to hk (G_to (by unfold room; simp; omega) rfl)
    | succ n ih =>
      intro t row hn ht hr hj
      obtain ⟨g1, ⟨_, g2, _⟩⟩ := xRow_ok hx hs hl t (by omega)
      have hlen := g1.len hx
      have ih' := fun row => ih (t + 1) row (by omega) (by omega)
      rw [det_Explore_1_L8_eq]; unfold det_Explore_1_L8_B det_Explore_1_J17
      rw [if_pos (by simp; omega), eL]
      have hk : two_Det_2 (s.1, s.2.1, s.2.2.1, s.2.2.2.1, s.2.2.2.2.1, ()) (t : Int) m m t0 = some (nx s t, m, t0) := hnx s hs t (by omega) (by omega)
      refine bind_to hk ?_
      show (if (!(mhas (xRow nx s l t).1 (nx s t))) = true then
        if decide (((xRow nx s l t).1.length : Int) = 1048576) = true then _ else
          G (room (xRow nx s l t).1 [nx s t] _) (G _ (G _ (G _ (det_Explore_1_L8 g 1048576 g 0 L0 D2 D3 r4 m t0 (t + 1) m t0 (mputK (xRow nx s l t).1 (nx s t)) (mputV (xRow nx s l t).1 (iota (xRow nx s l t).1.length) (nx s t) ((xRow nx s l t).1.length : Int)) ((xRow nx s l t).1 ++ [nx s t]) (row.set ((t : Int)).toNat ((xRow nx s l t).1.length : Int)))))) else
        G _ (G _ (G _ (det_Explore_1_L8 g 1048576 g 0 L0 D2 D3 r4 m t0 (t + 1) m t0 _ _ _ (row.set ((t : Int)).toNat (mget (xRow nx s l t).1 (iota (xRow nx s l t).1.length) (nx s t) 0)))))) = _
      cases e : mfind (xRow nx s l t).1 (nx s t) with
      | some j =>
        rw [xRow_some e] at ih'
        have hm : mhas (xRow nx s l t).1 (nx s t) = true := by unfold mhas; rw [e]; rfl
        rw [if_neg (by rw [hm]; simp), mget_iota e]
        refine G_to (by omega) (G_to (by omega) (G_to (by unfold fits; omega) ?_))
        refine ih' (row.set ((t : Int)).toNat (j : Int)) (by rw [List.length_set]; exact hr) (fun k k0 k1 => ?_)
        by_cases c : k < t
        · rw [ix_set_ne (by omega) k0 (by omega), ix_append_left k0 (by omega)]; exact hj k k0 c
        · obtain rfl : k = (t : Int) := by omega
          rw [ix_set_same k0 (by omega)]
          have : (t : Int) = ((xRow nx s l t).2.length : Int) := by omega
          rw [this, ix_append_last]
      | none =>
        rw [xRow_none e] at ih'
        have hnm := mfind_none.1 e
        have hm : mhas (xRow nx s l t).1 (nx s t) = false := by unfold mhas; rw [e]; rfl
        rw [if_pos (by rw [hm]; rfl), if_neg (by simp; omega), mputK_new hnm, mputV_iota hnm]
        refine G_to (by unfold room; simp; omega) (G_to (by omega) (G_to (by omega) (G_to (by unfold fits; omega) ?_)))
        refine ih' (row.set ((t : Int)).toNat ((xRow nx s l t).1.length : Int)) (by rw [List.length_set]; exact hr) (fun k k0 k1 => ?_)
        by_cases c : k < t
        · rw [ix_set_ne (by omega) k0 (by omega), ix_append_left k0 (by omega)]; exact hj k k0 c
        · obtain rfl : k = (t : Int) := by omega
          rw [ix_set_same k0 (by omega)]
          have : (t : Int) = ((xRow nx s l t).2.length : Int) := by omega
          rw [this, ix_append_last]
  exact key _ 0 _ rfl (by omega) (by rw [List.length_replicate]) (fun j j0 j1 => by omega)
theorem det_Explore_1_prog {nx : Tb → Int → Tb} {mk : Tb → Int} {first : Tb} {B : Nat} {P : Tb → Prop} {g m : Int} {t0 : Tw} (hx : XOk nx mk g.toNat first B P) (hB : B < 1048576) (hB3 : B ≤ 3000) (h1 : 1 ≤ g ∧ g ≤ 4) (hnx : ∀ s, P s → ∀ t, 0 ≤ t → t < g → two_Det_2 s t m m t0 = some (nx s t, m, t0)) (hmk : ∀ s, P s → two_Det_3 s t0 m t0 = some (mk s, m, t0)) {n : Nat} (hg : XGo nx mk g.toNat first n) (hn : (xSt nx mk g.toNat first n).1.length = n) : det_Explore_1 g first m t0 1048576 m t0 = some (xAut nx mk g.toNat first n, true) := by
  have key : ∀ (f i : Nat), n - i = f → i ≤ n → det_Explore_1_L4 g 1048576 m t0 m t0 g 0 (xSt nx mk g.toNat first i).1 (iota (xSt nx mk g.toNat first i).1.length) (xSt nx mk g.toNat first i).1 (xSt nx mk g.toNat first i).2.1 (xSt nx mk g.toNat first i).2.2 = some (xAut nx mk g.toNat first n, true) := by
    intro f
    induction f with
    | zero =>
      intro i hf hi
      obtain rfl : i = n := by omega
      obtain ⟨g1, g2, g3⟩ := xSt_ok hx i hg
      have hr := g3.r
      rw [det_Explore_1_L4_eq]; unfold det_Explore_1_L4_B det_Explore_1_J21
      rw [if_neg (by rw [decide_eq_true_iff]; omega)]
      unfold xAut
      rw [Int.toNat_of_nonneg (by omega)]
    | succ f ih =>
      intro i hf hi
      obtain ⟨g1, g2, g3⟩ := xSt_ok hx i (fun k hk => hg k (by omega))
      have hlt := hg i (by omega)
      have hr := g3.r
      have hm := g3.m
      have hlen := g1.len hx
      have hP := g1.p _ (ix_mem (i := (i : Int)) (by omega) (by omega))
      rw [det_Explore_1_L4_eq]; unfold det_Explore_1_L4_B
      rw [if_pos (by rw [decide_eq_true_iff]; omega)]
      refine G_to (by omega) (G_to (by omega) (G_to (by unfold mkOK; omega) ?_))
      rw [det_Explore_1_row hx hB hB3 h1 hnx hmk hP g1 (by rw [hr]) (by omega) (by omega)]
      exact ih (i + 1) (by omega) (by omega)
  exact key _ 0 rfl (by omega)

/- The program's exploring, by keys that stand for numbers: det_Explore_2. -/
theorem mfind_dec {α : Type} {dec : Int → α} {P : Int → Prop} (hinj : ∀ x y, P x → P y → dec x = dec y → x = y) {ks : List Int} (hk : ∀ x ∈ ks, P x) {x : Int} (hx : P x) : mfind (ks.map dec) (dec x) = mfind ks x := mfind_map dec (fun y hy he => hinj _ _ (hk y hy) hx he)
theorem det_Explore_2_row {dec : Int → Int} {s : Int} {l : List Int} {nx : Int → Int → Int} {mk : Int → Int} {first : Int} {B : Nat} {P : Int → Prop} {g : Int} {c : At} {y : Int} (hinj : ∀ x y, P x → P y → dec x = dec y → x = y) (hx : XOk nx mk g.toNat first B P) (hB : B < 131072) (h1 : 1 ≤ g ∧ g ≤ 4) (hnx : ∀ s, P s → ∀ t, 0 ≤ t → t < g → alter_Det_1 (dec s) t c = some (dec (nx s t))) (hmk : ∀ s, P s → alter_Det_2 (dec s) y = some (mk s)) {L0 : List Int} {D2 : List (List Int)} {D3 : List Int} {r4} (hs : P s) (hl : LiOk B P l) (eL : ix L0 (D2.length : Int) = dec s) (h2 : D2.length ≤ 3000) (h3 : D3.length ≤ 3000) :
    det_Explore_2_L8 g c y 131072 g 0 L0 D2 D3 r4 0 (l.map dec) (iota l.length) (l.map dec) (List.replicate g.toNat 0) =
      r4 g 0 ((xRow nx s l g.toNat).1.map dec) (iota (xRow nx s l g.toNat).1.length) ((xRow nx s l g.toNat).1.map dec) (D2 ++ [(xRow nx s l g.toNat).2]) (D3 ++ [mk s]) := by
  have key : ∀ (n t : Nat) (row : List Int), g.toNat - t = n → t ≤ g.toNat → row.length = g.toNat → (∀ j : Int, 0 ≤ j → j < t → ix row j = ix (xRow nx s l t).2 j) →
      det_Explore_2_L8 g c y 131072 g 0 L0 D2 D3 r4 t ((xRow nx s l t).1.map dec) (iota (xRow nx s l t).1.length) ((xRow nx s l t).1.map dec) row =
      r4 g 0 ((xRow nx s l g.toNat).1.map dec) (iota (xRow nx s l g.toNat).1.length) ((xRow nx s l g.toNat).1.map dec) (D2 ++ [(xRow nx s l g.toNat).2]) (D3 ++ [mk s]) := by
    intro n
    induction n with
    | zero =>
      intro t row hn ht hr hj
      obtain rfl : t = g.toNat := by omega
      obtain ⟨g1, ⟨_, g2, _⟩⟩ := xRow_ok hx hs hl g.toNat (Nat.le_refl _)
      have : row = (xRow nx s l g.toNat).2 := ix_ext (by omega) fun j j0 j1 => hj j j0 (by omega)
      rw [det_Explore_2_L8_eq]; unfold det_Explore_2_L8_B
      rw [if_neg (by simp; omega), this]
      refine G_to (by unfold room; simp; omega) ?_
      rw [eL]
      refine bind_to (hmk s hs) ?_
      exact G_to (by unfold room; simp; omega) rfl
    | succ n ih =>
      intro t row hn ht hr hj
      obtain ⟨g1, ⟨_, g2, _⟩⟩ := xRow_ok hx hs hl t (by omega)
      have hlen := g1.len hx
      have hPn := hx.n s hs t (by omega) (by omega)
      have ih' := fun row => ih (t + 1) row (by omega) (by omega)
      rw [det_Explore_2_L8_eq]; unfold det_Explore_2_L8_B det_Explore_2_J17
      rw [if_pos (by simp; omega), eL]
      refine bind_to (hnx s hs t (by omega) (by omega)) ?_
      show (if (!(mhas ((xRow nx s l t).1.map dec) (dec (nx s t)))) = true then
        if decide ((((xRow nx s l t).1.map dec).length : Int) = 131072) = true then _ else
          G (room ((xRow nx s l t).1.map dec) [dec (nx s t)] _) (G _ (G _ (G _ (det_Explore_2_L8 g c y 131072 g 0 L0 D2 D3 r4 (t + 1) (mputK ((xRow nx s l t).1.map dec) (dec (nx s t))) (mputV ((xRow nx s l t).1.map dec) (iota (xRow nx s l t).1.length) (dec (nx s t)) (((xRow nx s l t).1.map dec).length : Int)) ((xRow nx s l t).1.map dec ++ [dec (nx s t)]) (row.set ((t : Int)).toNat (((xRow nx s l t).1.map dec).length : Int)))))) else
        G _ (G _ (G _ (det_Explore_2_L8 g c y 131072 g 0 L0 D2 D3 r4 (t + 1) _ _ _ (row.set ((t : Int)).toNat (mget ((xRow nx s l t).1.map dec) (iota (xRow nx s l t).1.length) (dec (nx s t)) 0)))))) = _
      have hmf := mfind_dec hinj g1.p hPn
      have hil : iota (xRow nx s l t).1.length = iota ((xRow nx s l t).1.map dec).length := by rw [List.length_map]
      cases e : mfind (xRow nx s l t).1 (nx s t) with
      | some j =>
        rw [e] at hmf
        rw [xRow_some e] at ih'
        have hm : mhas ((xRow nx s l t).1.map dec) (dec (nx s t)) = true := by unfold mhas; rw [hmf]; rfl
        rw [if_neg (by rw [hm]; simp), hil, mget_iota hmf, ← hil]
        refine G_to (by omega) (G_to (by omega) (G_to (by unfold fits; omega) ?_))
        refine ih' (row.set ((t : Int)).toNat (j : Int)) (by rw [List.length_set]; exact hr) (fun k k0 k1 => ?_)
        by_cases c : k < t
        · rw [ix_set_ne (by omega) k0 (by omega), ix_append_left k0 (by omega)]; exact hj k k0 c
        · obtain rfl : k = (t : Int) := by omega
          rw [ix_set_same k0 (by omega)]
          have : (t : Int) = ((xRow nx s l t).2.length : Int) := by omega
          rw [this, ix_append_last]
      | none =>
        rw [e] at hmf
        rw [xRow_none e] at ih'
        have hnm := mfind_none.1 hmf
        have hm : mhas ((xRow nx s l t).1.map dec) (dec (nx s t)) = false := by unfold mhas; rw [hmf]; rfl
        rw [if_pos (by rw [hm]; rfl), if_neg (by rw [List.length_map]; simp; omega), hil, mputK_new hnm, mputV_iota hnm]
        refine G_to (by unfold room; simp; omega) (G_to (by omega) (G_to (by omega) (G_to (by unfold fits; omega) ?_)))
        have ih2 := ih' (row.set ((t : Int)).toNat ((xRow nx s l t).1.length : Int)) (by rw [List.length_set]; exact hr) (fun k k0 k1 => by
          by_cases c : k < t
          · rw [ix_set_ne (by omega) k0 (by omega), ix_append_left k0 (by omega)]; exact hj k k0 c
          · obtain rfl : k = (t : Int) := by omega
            rw [ix_set_same k0 (by omega)]
            have : (t : Int) = ((xRow nx s l t).2.length : Int) := by omega
            rw [this, ix_append_last])
        rw [List.map_append, List.map_singleton] at ih2
        rw [List.length_append, List.length_map, List.length_singleton]
        rw [List.length_append, List.length_singleton] at ih2
        exact ih2
  exact key _ 0 _ rfl (by omega) (by rw [List.length_replicate]) (fun j j0 j1 => by omega)
theorem det_Explore_2_prog {dec : Int → Int} {nx : Int → Int → Int} {mk : Int → Int} {first : Int} {B : Nat} {P : Int → Prop} {g : Int} {c : At} {y : Int} (hinj : ∀ x y, P x → P y → dec x = dec y → x = y) (hx : XOk nx mk g.toNat first B P) (hB : B < 131072) (h1 : 1 ≤ g ∧ g ≤ 4) (hB3 : B ≤ 3000) (hnx : ∀ s, P s → ∀ t, 0 ≤ t → t < g → alter_Det_1 (dec s) t c = some (dec (nx s t))) (hmk : ∀ s, P s → alter_Det_2 (dec s) y = some (mk s)) {n : Nat} (hg : XGo nx mk g.toNat first n) (hn : (xSt nx mk g.toNat first n).1.length = n) : det_Explore_2 g (dec first) c y 131072 = some (xAut nx mk g.toNat first n, true) := by
  have key : ∀ (f i : Nat), n - i = f → i ≤ n → det_Explore_2_L4 g c y 131072 g 0 ((xSt nx mk g.toNat first i).1.map dec) (iota (xSt nx mk g.toNat first i).1.length) ((xSt nx mk g.toNat first i).1.map dec) (xSt nx mk g.toNat first i).2.1 (xSt nx mk g.toNat first i).2.2 = some (xAut nx mk g.toNat first n, true) := by
    intro f
    induction f with
    | zero =>
      intro i hf hi
      obtain rfl : i = n := by omega
      obtain ⟨g1, g2, g3⟩ := xSt_ok hx i hg
      have hr := g3.r
      rw [det_Explore_2_L4_eq]; unfold det_Explore_2_L4_B
      rw [if_neg (by rw [decide_eq_true_iff, List.length_map]; omega)]
      unfold xAut
      rw [Int.toNat_of_nonneg (by omega)]
    | succ f ih =>
      intro i hf hi
      obtain ⟨g1, g2, g3⟩ := xSt_ok hx i (fun k hk => hg k (by omega))
      have hlt := hg i (by omega)
      have hr := g3.r
      have hm := g3.m
      have hlen := g1.len hx
      have hP := g1.p _ (ix_mem (i := (i : Int)) (by omega) (by omega))
      rw [det_Explore_2_L4_eq]; unfold det_Explore_2_L4_B
      rw [if_pos (by rw [decide_eq_true_iff, List.length_map]; omega)]
      refine G_to (by rw [List.length_map]; omega) (G_to (by rw [List.length_map]; omega) (G_to (by unfold mkOK; omega) ?_))
      rw [det_Explore_2_row hinj hx hB h1 hnx hmk hP g1 (by rw [hr, ix_map _ (by omega) (by omega)]) (by omega) (by omega)]
      exact ih (i + 1) (by omega) (by omega)
  exact key _ 0 rfl (by omega)

/- The automaton, as one that goes to and fro, and as one with choices. -/
def rowT (d : Dt) (q : Int) : List (Int × Int × Unit) := RW (fun k => (stp d.2.2.1 q k, (1 : Int), ())) d.1.toNat ++ [(q, 1, ()), (q, 1, ())]
def tOf (d : Dt) : Tw := (d.1, d.2.1, RW (rowT d) d.2.2.1.length, d.2.2.2.1, ())
def rowA (d : Dt) (q : Int) : List (List (List Int)) := RW (fun k => [[stp d.2.2.1 q k]]) d.1.toNat
def aOf (d : Dt) : At := (d.1, d.2.1, RW (rowA d) d.2.2.1.length, d.2.2.2.1, ())
section
variable {d : Dt}
theorem rowT_len (d : Dt) (q : Int) (h : 1 ≤ d.1) : ((rowT d q).length : Int) = d.1 + 2 := by
  unfold rowT; rw [List.length_append, RW_len]; simp; omega
theorem rowT_ix {q k : Int} (k0 : 0 ≤ k) (k1 : k < d.1) : ix (rowT d q) k = (stp d.2.2.1 q k, 1, ()) := by
  unfold rowT; rw [ix_append_left k0 (by rw [RW_len]; omega), RW_ix k0 (by omega)]
theorem rowT_end {q k : Int} (h : 1 ≤ d.1) (k0 : d.1 ≤ k) (k1 : k < d.1 + 2) : ix (rowT d q) k = (q, 1, ()) := by
  unfold rowT
  rw [ix_append_right (by rw [RW_len]; omega), RW_len]
  rcases (by omega : k - (d.1.toNat : Nat) = 0 ∨ k - (d.1.toNat : Nat) = 1) with e | e <;> rw [e] <;> rfl
theorem tOf_row {q : Int} (q0 : 0 ≤ q) (q1 : q < d.2.2.1.length) : ix (tOf d).2.2.1 q = rowT d q := RW_ix q0 q1
theorem tOf_len : (tOf d).2.2.1.length = d.2.2.1.length := RW_len _ _
theorem aOf_row {q : Int} (q0 : 0 ≤ q) (q1 : q < d.2.2.1.length) : ix (aOf d).2.2.1 q = rowA d q := RW_ix q0 q1
theorem aOf_len : (aOf d).2.2.1.length = d.2.2.1.length := RW_len _ _
theorem rowA_len (d : Dt) (q : Int) (h : 1 ≤ d.1) : ((rowA d q).length : Int) = d.1 := by unfold rowA; rw [RW_len]; omega
theorem rowA_ix {q k : Int} (k0 : 0 ≤ k) (k1 : k < d.1) : ix (rowA d q) k = [[stp d.2.2.1 q k]] := by unfold rowA; rw [RW_ix k0 (by omega)]
/- building them -/
theorem build_row (h : DOk 3000 badD d) (h4 : d.2.2.1.length ≤ 4) {y : Dt} {q : Nat} (hq : q < d.2.2.1.length) : ∀ (f k : Nat), d.1.toNat - k = f → k ≤ d.1.toNat →
    top_TopWays_L15 d q d.1 d.2.1 d.2.2.2.1 d.1 d.2.1 d.2.2.2.1 (RW (rowT d) q) (RW (rowA d) q) (top_TopWays_L10 d y) k (RW (fun k => (stp d.2.2.1 q k, (1 : Int), ())) k) (RW (fun k => [[stp d.2.2.1 q k]]) k) =
    top_TopWays_L10 d y (q + 1) d.1 d.2.1 d.2.2.2.1 d.1 d.2.1 d.2.2.2.1 (RW (rowT d) (q + 1)) (RW (rowA d) (q + 1)) := by
  have hl := h.let1
  have hr := h.tab.rowlen (q := (q : Int)) (by omega) (by omega)
  intro f
  induction f with
  | zero =>
    intro k hf hk
    obtain rfl : k = d.1.toNat := by omega
    rw [top_TopWays_L15_eq]; unfold top_TopWays_L15_B
    rw [if_neg (by simp; omega), RW_succ, RW_succ]
    exact G_to (by unfold room; rw [RW_len]; simp; omega) (G_to (by unfold room; rw [RW_len]; simp; omega) (G_to (by unfold room; rw [RW_len]; simp; omega) (G_to (by unfold fits; omega) rfl)))
  | succ f ih =>
    intro k hf hk
    have ih' := ih (k + 1) (by omega) (by omega)
    rw [RW_succ, RW_succ] at ih'
    rw [← ih', top_TopWays_L15_eq]; unfold top_TopWays_L15_B
    rw [if_pos (by simp; omega)]
    exact G_to (by omega) (G_to (by omega) (G_to (by unfold room; rw [RW_len]; simp; omega) (G_to (by omega) (G_to (by omega) (G_to (by unfold room; rw [RW_len]; simp; omega) (G_to (by unfold fits; omega) rfl))))))
theorem build_all (h : DOk 3000 badD d) (h4 : d.2.2.1.length ≤ 4) {y : Dt} : ∀ (f q : Nat), d.2.2.1.length - q = f → q ≤ d.2.2.1.length →
    top_TopWays_L10 d y q d.1 d.2.1 d.2.2.2.1 d.1 d.2.1 d.2.2.2.1 (RW (rowT d) q) (RW (rowA d) q) = top_TopWays_L10 d y d.2.2.1.length d.1 d.2.1 d.2.2.2.1 d.1 d.2.1 d.2.2.2.1 (tOf d).2.2.1 (aOf d).2.2.1 := by
  intro f
  induction f with
  | zero =>
    intro q hf hq
    obtain rfl : q = d.2.2.1.length := by omega
    rfl
  | succ f ih =>
    intro q hf hq
    refine Eq.trans ?_ (ih (q + 1) (by omega) (by omega))
    conv => lhs; rw [top_TopWays_L10_eq]; unfold top_TopWays_L10_B
    rw [if_pos (by simp; omega)]
    exact build_row h h4 (by omega) _ 0 rfl (by omega)
/- checks -/
theorem two_ok (h : DOk 3000 badD d) (h4 : d.2.2.1.length ≤ 4) : two_Check (tOf d) = some 0 := by
  have hl := h.let1
  have hn := h.n1
  have hst := h.st
  have hmk := h.mkl
  have tl := tOf_len (d := d)
  have t3 : (tOf d).2.2.2.1 = d.2.2.2.1 := rfl
  have t1 : (tOf d).1 = d.1 := rfl
  have t2 : (tOf d).2.1 = d.2.1 := rfl
  have mem : ∀ r ∈ (tOf d).2.2.1, ∃ q : Int, 0 ≤ q ∧ q < d.2.2.1.length ∧ r = rowT d q := fun r hr => RW_mem hr
  unfold two_Check
  rw [t1, t2, t3, tl, if_neg (by simp; omega), if_neg (by simp; omega), if_neg (by simp; omega), if_neg (by simp; omega), if_neg (by simp; omega)]
  have nn : ∀ q t : Int, Tells (two_Check_2 q t) (q < 0 ∨ t ≤ q) := fun q t => by
    unfold two_Check_2
    by_cases c : q < 0
    · rw [if_pos (decide_eq_true c)]; exact Tells.of (by simp [c])
    · rw [if_neg (by simpa using c)]; exact Tells.dec (by omega)
  have k1 : Tells (slices_ContainsFunc_4 (tOf d).2.2.1 (tOf d)) (∃ r ∈ (tOf d).2.2.1, ¬ (r.length : Int) = d.1 + 2) := contains_tells (f := fun r => two_Check_1 r (tOf d)) (slices_IndexFunc_4_L2_eq (tOf d).2.2.1 (tOf d)) (by omega) (fun x _ => by
    unfold two_Check_1
    rw [t1, G_pos (by unfold fits; omega)]
    exact Tells.dec Iff.rfl)
  refine k1.to (fun hh => ?_) (fun _ => ?_)
  · obtain ⟨r, hr, hh⟩ := hh
    obtain ⟨q, _, _, rfl⟩ := mem r hr
    exact absurd (rowT_len d q hl.1) hh
  refine (nn _ _).to (fun hh => by omega) (fun _ => ?_)
  have good : ∀ q : Int, 0 ≤ q → q < d.2.2.1.length → ∀ x ∈ rowT d q, (0 ≤ x.1 ∧ x.1 < d.2.2.1.length) ∧ x.2.1 = 1 := fun q q0 q1 x hx => by
    unfold rowT at hx
    rcases List.mem_append.1 hx with hx | hx
    · obtain ⟨k, k0, k1, rfl⟩ := RW_mem hx
      exact ⟨h.tab.stpb q0 q1 k0 (by omega), rfl⟩
    · have : x = (q, 1, ()) := by simpa using hx
      rw [this]; exact ⟨⟨q0, q1⟩, rfl⟩
  have k2 : ∃ b, slices_ContainsFunc_5 (tOf d).2.2.1 (d.2.2.1.length : Int) = some (b, (d.2.2.1.length : Int)) ∧ (b = true ↔ ∃ r ∈ (tOf d).2.2.1, ∃ x ∈ r, False) :=
    contains_tells2 (f := two_Check_3) (slices_IndexFunc_5_L2_eq (tOf d).2.2.1) (by omega) (fun r hrm => by
      obtain ⟨q, q0, q1, rfl⟩ := mem r hrm
      have hrl := rowT_len d q hl.1
      obtain ⟨b, e, e2⟩ : ∃ b, slices_ContainsFunc_6 (rowT d q) (d.2.2.1.length : Int) = some (b, (d.2.2.1.length : Int)) ∧ (b = true ↔ ∃ x ∈ rowT d q, False) :=
        contains_tells2 (f := two_Check_3_1) (slices_IndexFunc_6_L2_eq (rowT d q)) (by omega) (fun x hx => by
          have hg := good q q0 q1 x hx
          refine ⟨false, ?_, by simp⟩
          unfold two_Check_3_1
          refine (nn _ _).to (fun hh => by omega) (fun _ => ?_)
          rw [if_neg (by simpa using hg.2)])
      exact ⟨b, by unfold two_Check_3; rw [e]; rfl, e2⟩)
  obtain ⟨b, hb, hb2⟩ := k2
  have : b = false := by
    cases b with
    | false => rfl
    | true => obtain ⟨_, _, _, _, hf⟩ := hb2.1 rfl; exact hf.elim
  subst this
  refine bind_to hb ?_
  rw [if_neg (by simp)]
  have k4 : Tells (slices_ContainsFunc_7 d.2.2.2.1) (∃ s ∈ d.2.2.2.1, badD s) := contains_tells (f := fun q => two_Check_4 q) (slices_IndexFunc_7_L2_eq d.2.2.2.1) (by omega) (fun m _ => by
    unfold two_Check_4
    by_cases c : m = 0
    · rw [if_neg (by simpa using c)]; exact Tells.of (by simp [c])
    · rw [if_pos (by simpa using c)]; exact Tells.dec (by simp [c]))
  refine k4.to (fun hh => ?_) (fun _ => rfl)
  obtain ⟨s, hs, hh⟩ := hh
  exact absurd hh (h.mok s hs)
theorem alter_ok (h : DOk 3000 badD d) (h4 : d.2.2.1.length ≤ 4) : alter_Check (aOf d) = some 0 := by
  have hl := h.let1
  have hn := h.n1
  have hst := h.st
  have hmk := h.mkl
  have tl := aOf_len (d := d)
  have t3 : (aOf d).2.2.2.1 = d.2.2.2.1 := rfl
  have t1 : (aOf d).1 = d.1 := rfl
  have t2 : (aOf d).2.1 = d.2.1 := rfl
  have mem : ∀ r ∈ (aOf d).2.2.1, ∃ q : Int, 0 ≤ q ∧ q < d.2.2.1.length ∧ r = rowA d q := fun r hr => RW_mem hr
  unfold alter_Check
  rw [t1, t3, tl, if_neg (by simp; omega), if_neg (by simp; omega), if_neg (by simp; omega), if_neg (by simp; omega), if_neg (by simp; omega)]
  have nn : ∀ q t : Int, Tells (alter_Check_2 q t) (q < 0 ∨ t ≤ q) := fun q t => by
    unfold alter_Check_2
    by_cases c : q < 0
    · rw [if_pos (decide_eq_true c)]; exact Tells.of (by simp [c])
    · rw [if_neg (by simpa using c)]; exact Tells.dec (by omega)
  have k1 : Tells (slices_ContainsFunc_8 (aOf d).2.2.1 (aOf d)) (∃ r ∈ (aOf d).2.2.1, ¬ (r.length : Int) = d.1) := contains_tells (f := fun r => alter_Check_1 r (aOf d)) (slices_IndexFunc_8_L2_eq (aOf d).2.2.1 (aOf d)) (by omega) (fun x _ => Tells.dec Iff.rfl)
  refine k1.to (fun hh => ?_) (fun _ => ?_)
  · obtain ⟨r, hr, hh⟩ := hh
    obtain ⟨q, _, _, rfl⟩ := mem r hr
    exact absurd (rowA_len d q hl.1) hh
  have row : ∀ (t : Int), 0 ≤ t → t < d.2.2.1.length → ∀ (f : Nat) (k : Int), (d.1 - k).toNat = f → 0 ≤ k → k ≤ d.1 → alter_Check_L14 (aOf d) t (alter_Check_L11 (aOf d)) false k d.2.2.1.length = alter_Check_L11 (aOf d) false (t + 1) d.2.2.1.length := by
    intro t t0 t1' f
    have er := aOf_row (d := d) t0 t1'
    have hrl := rowA_len d t hl.1
    induction f with
    | zero =>
      intro k hf k0 k1
      rw [alter_Check_L14_eq]; unfold alter_Check_L14_B
      rw [er, if_neg (by simp; omega)]
      exact G_to (by unfold fits; omega) rfl
    | succ f ih =>
      intro k hf k0 k1
      have hs := h.tab.stpb t0 t1' k0 (by omega)
      have x1 : (d.1 - (k + 1)).toNat = f := by omega
      have x2 : 0 ≤ k + 1 := by omega
      have x3 : k + 1 ≤ d.1 := by omega
      have x4 : fits (k + 1) := by unfold fits; omega
      rw [alter_Check_L14_eq]; unfold alter_Check_L14_B
      rw [er, if_pos (by simp; omega), rowA_ix k0 (by omega), G_pos (by omega), if_neg (by simp)]
      have c9 : Tells (slices_ContainsFunc_9 [[stp d.2.2.1 t k]]) (∃ c ∈ [[stp d.2.2.1 t k]], 4 < (c.length : Int)) := contains_tells (f := fun c => alter_Check_3 c) (slices_IndexFunc_9_L2_eq [[stp d.2.2.1 t k]]) (by simp) (fun x _ => Tells.dec Iff.rfl)
      refine c9.to (fun hh => ?_) (fun _ => ?_)
      · obtain ⟨c, hc, hh⟩ := hh
        rw [List.mem_singleton.1 hc] at hh
        simp at hh
      rw [if_neg (by simp)]
      obtain ⟨b, hb, hb2⟩ : ∃ b, slices_ContainsFunc_10 [[stp d.2.2.1 t k]] (d.2.2.1.length : Int) = some (b, (d.2.2.1.length : Int)) ∧ (b = true ↔ ∃ c ∈ [[stp d.2.2.1 t k]], ∃ q ∈ c, q < 0 ∨ (d.2.2.1.length : Int) ≤ q) :=
        contains_tells2 (f := alter_Check_4) (slices_IndexFunc_10_L2_eq [[stp d.2.2.1 t k]]) (by simp) (fun c hc => by
          rw [List.mem_singleton.1 hc]
          obtain ⟨b, e, e2⟩ : Tells (slices_ContainsFunc_11 [stp d.2.2.1 t k] (d.2.2.1.length : Int)) (∃ q ∈ [stp d.2.2.1 t k], q < 0 ∨ (d.2.2.1.length : Int) ≤ q) := contains_tells (f := fun q => alter_Check_2 q (d.2.2.1.length : Int)) (slices_IndexFunc_11_L2_eq [stp d.2.2.1 t k] (d.2.2.1.length : Int)) (by simp) (fun x _ => nn x _)
          exact ⟨b, by unfold alter_Check_4; rw [e]; rfl, e2⟩)
      have : b = false := by
        cases b with
        | false => rfl
        | true =>
          obtain ⟨c, hc, q, hq, hf⟩ := hb2.1 rfl
          rw [List.mem_singleton.1 hc] at hq
          rw [List.mem_singleton.1 hq] at hf
          omega
      subst this
      refine bind_to hb (G_to x4 ?_)
      exact ih (k + 1) x1 x2 x3
  have all : ∀ (f : Nat) (t : Int), (d.2.2.1.length - t).toNat = f → 0 ≤ t → t ≤ d.2.2.1.length → alter_Check_L11 (aOf d) false t d.2.2.1.length = some 0 := by
    intro f
    induction f with
    | zero =>
      intro t hf t0 t1'
      rw [alter_Check_L11_eq]; unfold alter_Check_L11_B
      rw [tl, if_neg (by simp; omega), if_neg (by simp), t2, t3]
      refine (nn _ _).to (fun hh => by omega) (fun _ => ?_)
      have k4 : Tells (slices_ContainsFunc_12 d.2.2.2.1) (∃ s ∈ d.2.2.2.1, badD s) := contains_tells (f := fun q => alter_Check_5 q) (slices_IndexFunc_12_L2_eq d.2.2.2.1) (by omega) (fun m _ => by
        unfold alter_Check_5
        by_cases c : m = 0
        · rw [if_neg (by simpa using c)]; exact Tells.of (by simp [c])
        · rw [if_pos (by simpa using c)]; exact Tells.dec (by simp [c]))
      refine k4.to (fun hh => ?_) (fun _ => rfl)
      obtain ⟨s, hs, hh⟩ := hh
      exact absurd hh (h.mok s hs)
    | succ f ih =>
      intro t hf t0 t1'
      rw [alter_Check_L11_eq]; unfold alter_Check_L11_B
      rw [tl, if_pos (by simp; omega), G_pos (by omega), row t t0 (by omega) _ 0 rfl (by omega) (by omega)]
      exact ih (t + 1) (by omega) (by omega) (by omega)
  exact all _ 0 rfl (by omega) (by omega)
end
/- tables -/
section
variable {d : Dt}
/-- All moves are to the right. -/
theorem leaves_spec (h : DOk 3000 badD d) (h4 : d.2.2.1.length ≤ 4) {s : Tb} {first : Bool} {q k : Int} (q0 : 0 ≤ q) (q1 : q < d.2.2.1.length) (k0 : 0 ≤ k) (k1 : k < d.1 + 2) : two_Det_1 s first q k d.2.2.1.length (tOf d) = some (ix (rowT d q) k).1 ∧ (ix (rowT d q) k).2.1 = 1 := by
  have hl := h.let1
  have e1 : (ix (rowT d q) k).2.1 = 1 := by
    by_cases c : k < d.1
    · rw [rowT_ix k0 c]
    · rw [rowT_end hl.1 (by omega) k1]
  refine ⟨?_, e1⟩
  unfold two_Det_1
  rw [G_pos (by unfold fits; omega), two_Det_1_L2_eq]; unfold two_Det_1_L2_B
  have tl := tOf_len (d := d)
  have hrl := rowT_len d q hl.1
  rw [if_pos (by rw [decide_eq_true_iff]; omega), tOf_row q0 q1]
  exact G_to (by omega) (G_to (by omega) (by rw [if_pos (decide_eq_true e1)]))
def fT (d : Dt) (a j : Int) : Int := if j < d.2.2.1.length then stp d.2.2.1 j a else -1
def tbl (d : Dt) (a p : Int) : Tb := (fT d a 0, fT d a 1, fT d a 2, fT d a 3, p, ())
def b0 (d : Dt) (j : Int) : Int := if j < d.2.2.1.length then j else -1
def beg (d : Dt) : Tb := (b0 d 0, b0 d 1, b0 d 2, b0 d 3, d.2.1, ())
theorem two_next (h : DOk 3000 badD d) (h4 : d.2.2.1.length ≤ 4) {s : Tb} (hs : 0 ≤ s.2.2.2.2.1 ∧ s.2.2.2.2.1 < d.2.2.1.length) {a : Int} (a0 : 0 ≤ a) (a1 : a < d.1) : two_Det_2 s a d.2.2.1.length d.2.2.1.length (tOf d) = some (tbl d a (stp d.2.2.1 s.2.2.2.2.1 a), (d.2.2.1.length : Int), tOf d) := by
  have hn := h.n1
  let st : Nat → Int → Int := fun k j => if j < k then stp d.2.2.1 j a else -1
  have key : ∀ (f k : Nat), d.2.2.1.length - k = f → k ≤ d.2.2.1.length → two_Det_2_L3 s a d.2.2.1.length d.2.2.1.length (tOf d) k (st k 0) (st k 1) (st k 2) (st k 3) (-1) = some (tbl d a (stp d.2.2.1 s.2.2.2.2.1 a), (d.2.2.1.length : Int), tOf d) := by
    intro f
    induction f with
    | zero =>
      intro k hf hk
      obtain rfl : k = d.2.2.1.length := by omega
      rw [two_Det_2_L3_eq]; unfold two_Det_2_L3_B
      rw [if_neg (by simp), if_pos (by simpa using hs.1)]
      refine bind_to (leaves_spec h h4 hs.1 hs.2 a0 (by omega)).1 ?_
      rw [rowT_ix a0 a1]
      rfl
    | succ f ih =>
      intro k hf hk
      have ih' := ih (k + 1) (by omega) (by omega)
      rw [two_Det_2_L3_eq]; unfold two_Det_2_L3_B
      rw [if_pos (by simp; omega)]
      refine bind_to (leaves_spec h h4 (q := (k : Int)) (by omega) (by omega) a0 (by omega)).1 ?_
      rw [rowT_ix a0 a1]
      refine G_to (by omega) (G_to (by omega) (G_to (by unfold fits; omega) ?_))
      rw [← ih']
      have hk4 : k = 0 ∨ k = 1 ∨ k = 2 ∨ k = 3 := by omega
      rcases hk4 with rfl | rfl | rfl | rfl <;> simp [st]
  unfold two_Det_2
  exact key _ 0 rfl (by omega)
theorem two_mark (h : DOk 3000 badD d) (h4 : d.2.2.1.length ≤ 4) {s : Tb} (hs : 0 ≤ s.2.2.2.2.1 ∧ s.2.2.2.2.1 < d.2.2.1.length) : two_Det_3 s (tOf d) d.2.2.1.length (tOf d) = some (ix d.2.2.2.1 s.2.2.2.2.1, (d.2.2.1.length : Int), tOf d) := by
  have hl := h.let1
  have hmk := h.mkl
  have t1 : (tOf d).1 = d.1 := rfl
  have t3 : (tOf d).2.2.2.1 = d.2.2.2.1 := rfl
  unfold two_Det_3
  rw [if_neg (by simp; omega), t1, G_pos (by unfold fits; omega)]
  refine bind_to (leaves_spec h h4 hs.1 hs.2 (by omega) (by omega)).1 ?_
  rw [rowT_end hl.1 (by omega) (by omega), if_pos (by simpa using hs.1), t3]
  exact G_to (by omega) rfl
def nxT (d : Dt) (s : Tb) (a : Int) : Tb := tbl d a (stp d.2.2.1 s.2.2.2.2.1 a)
def mkT (d : Dt) (s : Tb) : Int := ix d.2.2.2.1 s.2.2.2.2.1
def PT (d : Dt) (s : Tb) : Prop := (0 ≤ s.2.2.2.2.1 ∧ s.2.2.2.2.1 < d.2.2.1.length) ∧ (s = beg d ∨ ∃ a p : Int, 0 ≤ a ∧ a < 4 ∧ 0 ≤ p ∧ p < 4 ∧ s = tbl d a p)
theorem T_xok (h : DOk 3000 badD d) (h4 : d.2.2.1.length ≤ 4) : XOk (nxT d) (mkT d) d.1.toNat (beg d) 17 (PT d) := by
  have hl := h.let1
  have hst := h.st
  have hmk := h.mkl
  refine ⟨fun l hn hp => ?_, ⟨hst, .inl rfl⟩, fun s hs a a0 a1 => ?_, fun s hs => ?_⟩
  · have := pigeon (U := beg d :: (List.range 16).map fun i : Nat => tbl d ((i / 4 : Nat) : Int) ((i % 4 : Nat) : Int)) hn (fun s hs => by
      rcases (hp s hs).2 with rfl | ⟨a, p, a0, a1, p0, p1, rfl⟩
      · exact List.mem_cons_self
      · refine List.mem_cons_of_mem _ (List.mem_map.2 ⟨a.toNat * 4 + p.toNat, List.mem_range.2 (by omega), ?_⟩)
        have e1 : (((a.toNat * 4 + p.toNat) / 4 : Nat) : Int) = a := by omega
        have e2 : (((a.toNat * 4 + p.toNat) % 4 : Nat) : Int) = p := by omega
        rw [e1, e2])
    simpa using this
  · have hs' := h.tab.stpb hs.1.1 hs.1.2 a0 (by omega)
    exact ⟨hs', .inr ⟨a, _, a0, by omega, hs'.1, by omega, rfl⟩⟩
  · have hs2 := hs.1.2
    have := h.mok _ (ix_mem hs.1.1 (by omega : s.2.2.2.2.1 < d.2.2.2.1.length))
    unfold badD at this
    unfold mkT
    omega
theorem T_fold (d : Dt) : ∀ (w : List Int) (s : Tb), (w.foldl (nxT d) s).2.2.2.2.1 = wlk d.2.2.1 s.2.2.2.2.1 w
  | [], s => rfl
  | a :: w, s => T_fold d w (nxT d s a)
theorem two_begin (h : DOk 3000 badD d) (h4 : d.2.2.1.length ≤ 4) : two_Det (tOf d) = two_Det_L8 (tOf d) 4 (b0 d 0) (b0 d 1) (b0 d 2) (b0 d 3) 0 := by
  have hn := h.n1
  have hl := h.let1
  have tl := tOf_len (d := d)
  let st : Nat → Int → Int := fun k j => if j < k then b0 d j else 0
  have key : ∀ (f k : Nat), 4 - k = f → k ≤ 4 → two_Det_L8 (tOf d) k (st k 0) (st k 1) (st k 2) (st k 3) 0 = two_Det_L8 (tOf d) 4 (b0 d 0) (b0 d 1) (b0 d 2) (b0 d 3) 0 := by
    intro f
    induction f with
    | zero =>
      intro k hf hk
      obtain rfl : k = 4 := by omega
      rfl
    | succ f ih =>
      intro k hf hk
      rw [← ih (k + 1) (by omega) (by omega)]
      conv => lhs; rw [two_Det_L8_eq]; unfold two_Det_L8_B two_Det_J12
      rw [if_pos (by simp; omega), G_pos (by omega), G_pos (by omega), tl]
      have hk4 : k = 0 ∨ k = 1 ∨ k = 2 ∨ k = 3 := by omega
      by_cases c : (k : Int) < d.2.2.1.length
      · rw [if_pos (decide_eq_true c)]
        refine bind_to (leaves_spec h h4 (q := (k : Int)) (by omega) c (by show 0 ≤ d.1; omega) (by show d.1 < d.1 + 2; omega)).1 ?_
        rw [show (tOf d).1 = d.1 from rfl, rowT_end hl.1 (by omega) (by omega)]
        refine G_to (by omega) (G_to (by omega) (G_to (by unfold fits; omega) ?_))
        have hb : b0 d k = k := by unfold b0; rw [if_pos c]
        rcases hk4 with rfl | rfl | rfl | rfl <;> simp [st] <;> simp at hb <;> simp [hb]
      · rw [if_neg (by simpa using c)]
        refine G_to (by unfold fits; omega) ?_
        have hb : b0 d k = -1 := by unfold b0; rw [if_neg c]
        rcases hk4 with rfl | rfl | rfl | rfl <;> simp [st] <;> simp at hb <;> simp [hb]
  unfold two_Det
  refine bind_to (two_ok h h4) ?_
  rw [if_neg (by simp)]
  exact key _ 0 rfl (by omega)
theorem two_Det_spec (h : DOk 3000 badD d) (h4 : d.2.2.1.length ≤ 4) {o : Dt} {C Q : List Int} {K : Nat} (ho : LeastOk d o C Q K) : two_Det (tOf d) = some (o, 0) := by
  have hn := h.n1
  have hl := h.let1
  have hst := h.st
  have hx := T_xok h h4
  obtain ⟨n, n1, n2, n3⟩ := xSt_stops hx
  have hd := xAut_ok hx (by omega) (by omega) n2 n3
  obtain ⟨o', C', Q', K', g1, g2⟩ := least_both hd
  obtain ⟨_, _, x3⟩ := xSt_ok hx n n2
  have hpos : 0 < n := by
    refine Nat.pos_of_ne_zero fun e => ?_
    subst e
    simp [xSt] at n3
  have hL : (xAut (nxT d) (mkT d) d.1.toNat (beg d) n).1 = d.1 := by show (d.1.toNat : Int) = d.1; omega
  have hlang : LEq (xAut (nxT d) (mkT d) d.1.toNat (beg d) n) (xAut (nxT d) (mkT d) d.1.toNat (beg d) n).2.1 d d.2.1 := fun w hw => by
    obtain ⟨w1, w2, w3⟩ := xAut_walk hx n2 n3 w 0 (by omega) (by omega) hw
    have em := x3.mark _ w1 w2
    show ix (xSt (nxT d) (mkT d) d.1.toNat (beg d) n).2.2 (wlk (xAut (nxT d) (mkT d) d.1.toNat (beg d) n).2.2.1 0 w) = _
    rw [em, w3, x3.z]
    unfold mkT
    rw [T_fold]; rfl
  have hoo : o' = o := least_one hd h g1 ho hL hlang
  subst hoo
  have tl := tOf_len (d := d)
  have hsz := ho.part.q.le ho.fin
  have hK := ho.fin.le
  have hall := ho.all
  rw [two_begin h h4, two_Det_L8_eq]; unfold two_Det_L8_B
  rw [if_neg (by simp), tl]
  refine bind_to (leaves_spec h h4 (q := d.2.1) hst.1 hst.2 (by show 0 ≤ d.1; omega) (by show d.1 < d.1 + 2; omega)).1 ?_
  rw [show (tOf d).1 = d.1 from rfl, rowT_end hl.1 (by omega) (by omega)]
  have hp := det_Explore_1_prog (g := d.1) (m := (d.2.2.1.length : Int)) (t0 := tOf d) hx (by omega) (by omega) hl (fun s hs t t0 t1 => two_next h h4 hs.1 t0 t1) (fun s hs => two_mark h h4 hs.1) n2 n3
  refine bind_to hp (bind_to g2 ?_)
  rw [if_neg (by simp), if_neg (by simp; omega)]
end
/- sets, as bits -/
def upto (f : Nat → Bool) : Nat → Nat
  | 0 => 0
  | t + 1 => if f t = true then upto f t ||| 2 ^ t else upto f t
theorem upto_lt (f : Nat → Bool) : ∀ t, upto f t < 2 ^ t
  | 0 => by simp [upto]
  | t + 1 => by
    have ih := upto_lt f t
    have h2 : 2 ^ t < 2 ^ (t + 1) := Nat.pow_lt_pow_right (by omega) (by omega)
    unfold upto
    split
    · exact Nat.or_lt_two_pow (by omega) h2
    · omega
theorem upto_bit (f : Nat → Bool) : ∀ t j, (upto f t).testBit j = (decide (j < t) && f j)
  | 0, j => by simp [upto]
  | t + 1, j => by
    have ih := upto_bit f t j
    unfold upto
    by_cases c : f t = true
    · rw [if_pos c, Nat.testBit_or, ih, Nat.testBit_two_pow]
      by_cases e : t = j
      · subst e; simp [c]
      · simp [e]
        by_cases c1 : j < t
        · simp [c1, show j < t + 1 by omega]
        · simp [c1, show ¬ j < t + 1 by omega]
    · rw [if_neg c, ih]
      by_cases e : t = j
      · subst e; simp [c]
      · by_cases c1 : j < t
        · simp [c1, show j < t + 1 by omega]
        · simp [c1, show ¬ j < t + 1 by omega]
theorem upto_congr {f g : Nat → Bool} : ∀ {t : Nat}, (∀ j, j < t → f j = g j) → upto f t = upto g t
  | 0, _ => rfl
  | t + 1, h => by
    unfold upto
    rw [upto_congr (fun j hj => h j (by omega)), h t (by omega)]
theorem bit_test {m k : Nat} (hm : m < 1000000) (hk : k ≤ 60) : iand .i64 (ishr .i64 (m : Int) (k : Int)) 1 = if m.testBit k = true then 1 else 0 := by
  have hs : m >>> k ≤ m := Nat.shiftRight_le m k
  rw [ishr_nat (by omega), show (1 : Int) = ((1 : Nat) : Int) from rfl, iand_nat (by omega) (by omega), Nat.and_one_is_mod, Nat.testBit]
  rw [show (1 &&& m >>> k) = (m >>> k) % 2 by rw [Nat.and_comm, Nat.and_one_is_mod]]
  rcases Nat.mod_two_eq_zero_or_one (m >>> k) with e | e <;> simp [e]
def GB (p : Nat) : Nat := upto (fun s => s.testBit p) 16
theorem GB_lt (p : Nat) : GB p < 65536 := upto_lt _ 16
def hd (d : Dt) (a : Int) (s : Nat) : Nat := upto (fun q => s.testBit (stp d.2.2.1 q a).toNat) d.2.2.1.length
def en (d : Dt) : Nat := upto (fun q => decide (ix d.2.2.2.1 q = 1)) d.2.2.1.length
section
variable {d : Dt}
theorem pow4 {n : Nat} (h : n ≤ 4) : 2 ^ n ≤ 16 := Nat.pow_le_pow_right (n := 2) (by omega) h
theorem hd_lt (h4 : d.2.2.1.length ≤ 4) (a : Int) (s : Nat) : hd d a s < 16 := Nat.lt_of_lt_of_le (upto_lt _ _) (pow4 h4)
theorem en_lt (h4 : d.2.2.1.length ≤ 4) : en d < 16 := Nat.lt_of_lt_of_le (upto_lt _ _) (pow4 h4)
theorem meets (h : DOk 3000 badD d) (h4 : d.2.2.1.length ≤ 4) {q : Nat} (hq : q < d.2.2.1.length) {a : Int} (a0 : 0 ≤ a) (a1 : a < d.1) {s : Nat} (hs : s < 16) : Tells (slices_ContainsFunc_13 [[stp d.2.2.1 q a]] (s : Int)) (s.testBit (stp d.2.2.1 q a).toNat = true) := by
  have hb := h.tab.stpb (q := (q : Int)) (by omega) (by omega) a0 a1
  obtain ⟨p, hp⟩ : ∃ p : Nat, stp d.2.2.1 q a = p := ⟨(stp d.2.2.1 q a).toNat, by omega⟩
  rw [hp, Int.toNat_natCast]
  have one : ∀ c ∈ [[(p : Int)]], Tells (alter_ahead_1 c (s : Int)) (s.testBit p = true) := fun c hc => by
    rw [List.mem_singleton.1 hc]
    have k : Tells (slices_ContainsFunc_14 [(p : Int)] (s : Int)) (∃ x ∈ [(p : Int)], ¬ s.testBit p = true) := contains_tells (f := fun x => alter_ahead_1_1 x (s : Int)) (slices_IndexFunc_14_L2_eq [(p : Int)] (s : Int)) (by simp) (fun x hx => by
      rw [List.mem_singleton.1 hx]
      unfold alter_ahead_1_1
      rw [G_pos (by omega), bit_test (by omega) (by omega)]
      refine Tells.dec ?_
      by_cases c : s.testBit p = true
      · rw [if_pos c]; simp [c]
      · rw [if_neg c]; simp [c])
    obtain ⟨b, hb1, hb2⟩ := k
    unfold alter_ahead_1
    rw [hb1]
    refine ⟨!b, rfl, ?_⟩
    cases b with
    | true => obtain ⟨_, _, hf⟩ := hb2.1 rfl; simp [hf]
    | false =>
      by_cases c : s.testBit p = true
      · simp [c]
      · have := hb2.2 ⟨_, List.mem_singleton.2 rfl, c⟩; cases this
  have := contains_tells (P := fun _ : List Int => s.testBit p = true) (f := fun c => alter_ahead_1 c (s : Int)) (slices_IndexFunc_13_L2_eq [[(p : Int)]] (s : Int)) (by simp) one
  exact this.iff ⟨fun ⟨_, _, h⟩ => h, fun h => ⟨_, List.mem_singleton.2 rfl, h⟩⟩
theorem ahead_spec (h : DOk 3000 badD d) (h4 : d.2.2.1.length ≤ 4) {a : Int} (a0 : 0 ≤ a) (a1 : a < d.1) {s : Nat} (hs : s < 16) : alter_ahead (aOf d) (s : Int) a = some (hd d a s : Int) := by
  have hl := h.let1
  have tl := aOf_len (d := d)
  have key : ∀ (f t : Nat), d.2.2.1.length - t = f → t ≤ d.2.2.1.length → alter_ahead_L3 (aOf d) (s : Int) a (upto (fun q => s.testBit (stp d.2.2.1 q a).toNat) t : Nat) t = some (hd d a s : Int) := by
    intro f
    induction f with
    | zero =>
      intro t hf ht
      obtain rfl : t = d.2.2.1.length := by omega
      rw [alter_ahead_L3_eq]; unfold alter_ahead_L3_B
      rw [if_neg (by simp; omega)]; rfl
    | succ f ih =>
      intro t hf ht
      have ih' := ih (t + 1) (by omega) (by omega)
      have hlt := upto_lt (fun q : Nat => s.testBit (stp d.2.2.1 q a).toNat) t
      have h16 := pow4 (n := t) (by omega)
      rw [alter_ahead_L3_eq]; unfold alter_ahead_L3_B
      rw [if_pos (by simp; omega), aOf_row (q := (t : Int)) (by omega) (by omega), rowA_ix a0 a1]
      have hrl := rowA_len d t hl.1
      refine G_to (by omega) (G_to (by omega) ((meets h h4 (by omega) a0 a1 hs).to (fun c => ?_) (fun c => ?_)))
      · refine G_to (by omega) (G_to (by unfold fits; omega) ?_)
        rw [(ior_bit (m := upto (fun q : Nat => s.testBit (stp d.2.2.1 q a).toNat) t) (q := t) (by omega) (by omega)).1]
        rw [upto, if_pos c] at ih'
        exact ih'
      · refine G_to (by unfold fits; omega) ?_
        rw [upto, if_neg c] at ih'
        exact ih'
  unfold alter_ahead
  exact key _ 0 rfl (by omega)
theorem next_spec (h : DOk 3000 badD d) (h4 : d.2.2.1.length ≤ 4) {a : Int} (a0 : 0 ≤ a) (a1 : a < d.1) {p : Nat} (hp : p < d.2.2.1.length) : alter_Det_1 (GB p : Int) a (aOf d) = some (GB (stp d.2.2.1 p a).toNat : Int) := by
  have hgl := GB_lt p
  have hb := h.tab.stpb (q := (p : Int)) (by omega) (by omega) a0 a1
  have bit : ∀ s : Nat, s < 16 → (GB p).testBit (hd d a s) = s.testBit (stp d.2.2.1 p a).toNat := fun s hs => by
    have h1 := hd_lt h4 a s
    unfold GB
    rw [upto_bit]
    simp only [h1, decide_true, Bool.true_and]
    unfold hd
    rw [upto_bit]
    simp [hp]
  have key : ∀ (f t : Nat), 16 - t = f → t ≤ 16 → alter_Det_1_L3 (GB p : Int) a (aOf d) (upto (fun s => s.testBit (stp d.2.2.1 p a).toNat) t : Nat) t = some (GB (stp d.2.2.1 p a).toNat : Int) := by
    intro f
    induction f with
    | zero =>
      intro t hf ht
      obtain rfl : t = 16 := by omega
      rw [alter_Det_1_L3_eq]; unfold alter_Det_1_L3_B
      rw [if_neg (by simp)]; rfl
    | succ f ih =>
      intro t hf ht
      have ih' := ih (t + 1) (by omega) (by omega)
      have hlt := upto_lt (fun s : Nat => s.testBit (stp d.2.2.1 p a).toNat) t
      have h16 : 2 ^ t ≤ 2 ^ 16 := Nat.pow_le_pow_right (by omega) (by omega)
      have h1 := hd_lt h4 a t
      rw [alter_Det_1_L3_eq]; unfold alter_Det_1_L3_B
      rw [if_pos (by simp; omega)]
      refine bind_to (ahead_spec h h4 a0 a1 (by omega)) ?_
      refine G_to (by omega) ?_
      rw [bit_test (by omega) (by omega), bit t (by omega)]
      by_cases c : t.testBit (stp d.2.2.1 p a).toNat = true
      · rw [if_pos c, if_pos (by simp)]
        refine G_to (by omega) (G_to (by unfold fits; omega) ?_)
        rw [(ior_bit (m := upto (fun s : Nat => s.testBit (stp d.2.2.1 p a).toNat) t) (q := t) (by omega) (by omega)).1]
        rw [upto, if_pos c] at ih'
        exact ih'
      · rw [if_neg c, if_neg (by simp)]
        refine G_to (by unfold fits; omega) ?_
        rw [upto, if_neg c] at ih'
        exact ih'
  unfold alter_Det_1
  exact key _ 0 rfl (by omega)
theorem ends_spec (h : DOk 3000 badD d) (h4 : d.2.2.1.length ≤ 4) : alter_ends (aOf d) = some (en d : Int) := by
  have hmk := h.mkl
  have t3 : (aOf d).2.2.2.1 = d.2.2.2.1 := rfl
  have key : ∀ (f t : Nat), d.2.2.1.length - t = f → t ≤ d.2.2.1.length → alter_ends_L3 (aOf d) (upto (fun q => decide (ix d.2.2.2.1 q = 1)) t : Nat) t = some (en d : Int) := by
    intro f
    induction f with
    | zero =>
      intro t hf ht
      obtain rfl : t = d.2.2.1.length := by omega
      rw [alter_ends_L3_eq]; unfold alter_ends_L3_B
      rw [t3, if_neg (by simp; omega)]; rfl
    | succ f ih =>
      intro t hf ht
      have ih' := ih (t + 1) (by omega) (by omega)
      have hlt := upto_lt (fun q : Nat => decide (ix d.2.2.2.1 q = 1)) t
      have h16 := pow4 (n := t) (by omega)
      have hm := h.mok _ (ix_mem (l := d.2.2.2.1) (i := (t : Int)) (by omega) (by omega))
      unfold badD at hm
      rw [alter_ends_L3_eq]; unfold alter_ends_L3_B
      rw [t3, if_pos (by simp; omega)]
      refine G_to (by omega) (G_to (by omega) (G_to (by unfold fits; omega) ?_))
      by_cases c : ix d.2.2.2.1 t = 1
      · rw [c, (ior_bit (m := upto (fun q : Nat => decide (ix d.2.2.2.1 q = 1)) t) (q := t) (by omega) (by omega)).1]
        rw [upto, if_pos (by simpa using c)] at ih'
        exact ih'
      · have c0 : ix d.2.2.2.1 t = 0 := by omega
        have e := ishl_nat (m := 0) (k := t) (by omega) (by omega)
        rw [Nat.zero_shiftLeft] at e
        rw [c0, show (0 : Int) = ((0 : Nat) : Int) from rfl, e, ior_nat (by omega) (by omega), Nat.or_zero]
        rw [upto, if_neg (by simpa using c)] at ih'
        exact ih'
  unfold alter_ends
  exact key _ 0 rfl (by omega)
theorem amark_spec (h : DOk 3000 badD d) (h4 : d.2.2.1.length ≤ 4) {p : Nat} (hp : p < d.2.2.1.length) : alter_Det_2 (GB p : Int) (en d : Int) = some (ix d.2.2.2.1 p) := by
  have hgl := GB_lt p
  have hel := en_lt (d := d) h4
  have hmk := h.mkl
  have hm := h.mok _ (ix_mem (l := d.2.2.2.1) (i := (p : Int)) (by omega) (by omega))
  unfold badD at hm
  unfold alter_Det_2
  rw [G_pos (by omega), bit_test (by omega) (by omega)]
  have e : (GB p).testBit (en d) = decide (ix d.2.2.2.1 p = 1) := by
    unfold GB
    rw [upto_bit]
    simp only [hel, decide_true, Bool.true_and]
    unfold en
    rw [upto_bit]
    simp [hp]
  rw [e]
  by_cases c : ix d.2.2.2.1 p = 1
  · rw [if_pos (by simpa using c), c]
  · rw [if_neg (by simpa using c)]
    have : ix d.2.2.2.1 p = 0 := by omega
    rw [this]
theorem first_spec (h : DOk 3000 badD d) (h4 : d.2.2.1.length ≤ 4) : alter_Det (aOf d) = alter_Det_L6 (aOf d) (GB d.2.1.toNat : Int) 16 := by
  have hst := h.st
  have t2 : (aOf d).2.1 = d.2.1 := rfl
  obtain ⟨p, hp⟩ : ∃ p : Nat, d.2.1 = p := ⟨d.2.1.toNat, by omega⟩
  have key : ∀ (f t : Nat), 16 - t = f → t ≤ 16 → alter_Det_L6 (aOf d) (upto (fun s => s.testBit p) t : Nat) t = alter_Det_L6 (aOf d) (GB p : Int) 16 := by
    intro f
    induction f with
    | zero =>
      intro t hf ht
      obtain rfl : t = 16 := by omega
      rfl
    | succ f ih =>
      intro t hf ht
      have ih' := ih (t + 1) (by omega) (by omega)
      have hlt := upto_lt (fun s : Nat => s.testBit p) t
      have h16 : 2 ^ t ≤ 2 ^ 16 := Nat.pow_le_pow_right (by omega) (by omega)
      rw [← ih']
      conv => lhs; rw [alter_Det_L6_eq]; unfold alter_Det_L6_B
      rw [if_pos (by simp; omega), t2, hp, G_pos (by omega), bit_test (by omega) (by omega)]
      by_cases c : t.testBit p = true
      · rw [if_pos c, if_pos (by simp)]
        refine G_to (by omega) (G_to (by unfold fits; omega) ?_)
        rw [(ior_bit (m := upto (fun s : Nat => s.testBit p) t) (q := t) (by omega) (by omega)).1, upto, if_pos c]
        rfl
      · rw [if_neg c, if_neg (by simp)]
        refine G_to (by unfold fits; omega) ?_
        rw [upto, if_neg c]
        rfl
  unfold alter_Det
  refine bind_to (alter_ok h h4) ?_
  rw [if_neg (by simp), hp, Int.toNat_natCast]
  exact key _ 0 rfl (by omega)
noncomputable def nxB (d : Dt) (v a : Int) : Int := (alter_Det_1 v a (aOf d)).getD 0
noncomputable def mkB (d : Dt) (v : Int) : Int := (alter_Det_2 v (en d)).getD 0
def PB (d : Dt) (v : Int) : Prop := ∃ p : Nat, p < d.2.2.1.length ∧ v = (GB p : Int)
theorem nxB_at (h : DOk 3000 badD d) (h4 : d.2.2.1.length ≤ 4) {a : Int} (a0 : 0 ≤ a) (a1 : a < d.1) {p : Nat} (hp : p < d.2.2.1.length) : nxB d (GB p) a = (GB (stp d.2.2.1 p a).toNat : Int) := by
  unfold nxB; rw [next_spec h h4 a0 a1 hp]; rfl
theorem mkB_at (h : DOk 3000 badD d) (h4 : d.2.2.1.length ≤ 4) {p : Nat} (hp : p < d.2.2.1.length) : mkB d (GB p) = ix d.2.2.2.1 p := by
  unfold mkB; rw [amark_spec h h4 hp]; rfl
theorem B_xok (h : DOk 3000 badD d) (h4 : d.2.2.1.length ≤ 4) : XOk (nxB d) (mkB d) d.1.toNat (GB d.2.1.toNat : Int) 4 (PB d) := by
  have hl := h.let1
  have hst := h.st
  have hmk := h.mkl
  refine ⟨fun l hn hp => ?_, ⟨d.2.1.toNat, by omega, rfl⟩, fun s hs a a0 a1 => ?_, fun s hs => ?_⟩
  · have := pigeon (U := (List.range 4).map fun i : Nat => (GB i : Int)) hn (fun s hs => by
      obtain ⟨p, hp, rfl⟩ := hp s hs
      exact List.mem_map.2 ⟨p, List.mem_range.2 (by omega), rfl⟩)
    simpa using this
  · obtain ⟨p, hp, rfl⟩ := hs
    have hb := h.tab.stpb (q := (p : Int)) (by omega) (by omega) a0 (by omega : a < d.1)
    rw [nxB_at h h4 a0 (by omega) hp]
    exact ⟨_, by omega, rfl⟩
  · obtain ⟨p, hp, rfl⟩ := hs
    rw [mkB_at h h4 hp]
    have := h.mok _ (ix_mem (l := d.2.2.2.1) (i := (p : Int)) (by omega) (by omega))
    unfold badD at this
    omega
theorem B_fold (h : DOk 3000 badD d) (h4 : d.2.2.1.length ≤ 4) : ∀ (w : List Int) (p : Nat), p < d.2.2.1.length → (∀ a ∈ w, 0 ≤ a ∧ a < d.1) → w.foldl (nxB d) (GB p : Int) = (GB (wlk d.2.2.1 p w).toNat : Int)
  | [], p, _, _ => by show (GB p : Int) = (GB ((p : Int)).toNat : Int); rw [Int.toNat_natCast]
  | a :: w, p, hp, hw => by
    have ha := hw a (by simp)
    have hb := h.tab.stpb (q := (p : Int)) (by omega) (by omega) ha.1 ha.2
    have ih := B_fold h h4 w (stp d.2.2.1 p a).toNat (by omega) (fun b hb => hw b (by simp [hb]))
    show w.foldl (nxB d) (nxB d (GB p) a) = _
    rw [nxB_at h h4 ha.1 ha.2 hp, ih, Int.toNat_of_nonneg hb.1]
    rfl
theorem alter_Det_spec (h : DOk 3000 badD d) (h4 : d.2.2.1.length ≤ 4) {o : Dt} {C Q : List Int} {K : Nat} (ho : LeastOk d o C Q K) : alter_Det (aOf d) = some (o, 0) := by
  have hn := h.n1
  have hl := h.let1
  have hst := h.st
  have hx := B_xok h h4
  obtain ⟨n, n1, n2, n3⟩ := xSt_stops hx
  have hd := xAut_ok hx (by omega) (by omega) n2 n3
  obtain ⟨o', C', Q', K', g1, g2⟩ := least_both hd
  obtain ⟨_, _, x3⟩ := xSt_ok hx n n2
  have hpos : 0 < n := by
    refine Nat.pos_of_ne_zero fun e => ?_
    subst e
    simp [xSt] at n3
  have hL : (xAut (nxB d) (mkB d) d.1.toNat (GB d.2.1.toNat : Int) n).1 = d.1 := by show (d.1.toNat : Int) = d.1; omega
  have hlang : LEq (xAut (nxB d) (mkB d) d.1.toNat (GB d.2.1.toNat : Int) n) (xAut (nxB d) (mkB d) d.1.toNat (GB d.2.1.toNat : Int) n).2.1 d d.2.1 := fun w hw => by
    have hw' : ∀ a ∈ w, 0 ≤ a ∧ a < d.1 := fun a ha => by have := hw a ha; rw [hL] at this; exact this
    obtain ⟨w1, w2, w3⟩ := xAut_walk hx n2 n3 w 0 (by omega) (by omega) hw
    have em := x3.mark _ w1 w2
    have hb := h.tab.wlkb hst.1 hst.2 hw'
    have hfold := B_fold h h4 w d.2.1.toNat (by omega) hw'
    rw [Int.toNat_of_nonneg hst.1] at hfold
    show ix (xSt (nxB d) (mkB d) d.1.toNat (GB d.2.1.toNat : Int) n).2.2 (wlk (xAut (nxB d) (mkB d) d.1.toNat (GB d.2.1.toNat : Int) n).2.2.1 0 w) = _
    rw [em, w3, x3.z, hfold, mkB_at h h4 (by omega), Int.toNat_of_nonneg hb.1]
  have hoo : o' = o := least_one hd h g1 ho hL hlang
  subst hoo
  have hsz := ho.part.q.le ho.fin
  have hK := ho.fin.le
  have hall := ho.all
  rw [first_spec h h4, alter_Det_L6_eq]; unfold alter_Det_L6_B
  rw [if_neg (by simp)]
  refine bind_to (ends_spec h h4) ?_
  have hp := det_Explore_2_prog (dec := fun v : Int => v) (g := d.1) (c := aOf d) (y := (en d : Int)) (fun x y _ _ e => e) hx (by omega) hl (by omega) (fun s hs t t0 t1 => by
    obtain ⟨p, hp, rfl⟩ := hs
    show alter_Det_1 (GB p : Int) t (aOf d) = some (nxB d (GB p) t)
    rw [next_spec h h4 t0 t1 hp, nxB_at h h4 t0 t1 hp]) (fun s hs => by
    obtain ⟨p, hp, rfl⟩ := hs
    show alter_Det_2 (GB p : Int) (en d : Int) = some (mkB d (GB p))
    rw [amark_spec h h4 hp, mkB_at h h4 hp]) n2 n3
  refine bind_to hp (bind_to g2 ?_)
  rw [if_neg (by simp), if_neg (by simp; omega)]
end
theorem det_Least_bad {d : Dt} (hm : ¬ detE 3000 badD d = 0) : det_Least d = some ((0, 0, [], [], ()), detE 3000 badD d) := by
  unfold det_Least
  refine bind_to det_Check_spec ?_
  rw [show detE 3000 badD (d.1, d.2.1, d.2.2.1, d.2.2.2.1, ()) = detE 3000 badD d from rfl]
  rw [if_pos (decide_eq_true hm)]
theorem det_Least_good {d : Dt} (hm : detE 3000 badD d = 0) {o : Dt} (ho : det_Smallest d = some o) : det_Least d = some (o, 0) := by
  unfold det_Least
  refine bind_to det_Check_spec ?_
  rw [show detE 3000 badD (d.1, d.2.1, d.2.2.1, d.2.2.2.1, ()) = 0 from hm, if_neg (by simp)]
  exact bind_to ho rfl
theorem words_refl {a : List Int} (h : a.length ≤ 1000000) : top_sameWords a a = some true := by
  have key : ∀ (f : Nat) (i : Int), (a.length - i).toNat = f → 0 ≤ i → i ≤ a.length → top_sameWords_L4 a a i = some true := by
    intro f
    induction f with
    | zero =>
      intro i hf i0 i1
      rw [top_sameWords_L4_eq]; unfold top_sameWords_L4_B
      rw [if_neg (by simp; omega)]
    | succ f ih =>
      intro i hf i0 i1
      rw [top_sameWords_L4_eq]; unfold top_sameWords_L4_B
      rw [if_pos (by simp; omega), G_pos (by omega), G_pos (by omega), if_neg (by simp)]
      exact G_to (by unfold fits; omega) (ih (i + 1) (by omega) (by omega) (by omega))
  unfold top_sameWords
  rw [if_neg (by simp)]
  exact key _ 0 rfl (by omega) (by omega)
theorem alike_refl {o : Dt} (h1 : o.2.2.1.length ≤ 1000000) (h2 : o.2.2.2.1.length ≤ 1000000) (h3 : ∀ r ∈ o.2.2.1, r.length ≤ 1000000) : top_alike o o = some true := by
  have key : ∀ (f : Nat) (i : Int), (o.2.2.1.length - i).toNat = f → 0 ≤ i → i ≤ o.2.2.1.length → top_alike_L5 o o true i = some true := by
    intro f
    induction f with
    | zero =>
      intro i hf i0 i1
      rw [top_alike_L5_eq]; unfold top_alike_L5_B
      rw [if_neg (by simp; omega)]
    | succ f ih =>
      intro i hf i0 i1
      rw [top_alike_L5_eq]; unfold top_alike_L5_B
      rw [if_pos (by simp; omega), if_pos rfl, G_pos (by omega), G_pos (by omega)]
      refine bind_to (words_refl (h3 _ (ix_mem i0 (by omega)))) ?_
      exact G_to (by unfold fits; omega) (ih (i + 1) (by omega) (by omega) (by omega))
  unfold top_alike
  rw [if_neg (by simp), if_neg (by simp), if_neg (by simp)]
  exact bind_to (words_refl h2) (key _ 0 rfl (by omega) (by omega))
def cD : Dt := (1, 0, [[1], [0]], [1, 1], ())
theorem cD_ok : DOk 3000 badD cD := by
  refine ⟨by decide, by decide, by decide, by decide, fun s hs => ?_, ⟨fun r hr => ?_, fun r hr q hq => ?_⟩⟩
  · have : s = 1 := by simpa [cD] using hs
    subst this
    unfold badD; omega
  · have : r = [1] ∨ r = [0] := by simpa [cD] using hr
    rcases this with rfl | rfl <;> rfl
  · have : r = [1] ∨ r = [0] := by simpa [cD] using hr
    rcases this with rfl | rfl
    · rw [List.mem_singleton.1 hq]; decide
    · rw [List.mem_singleton.1 hq]; decide
theorem cD_least : ∃ o, det_Least cD = some (o, 0) ∧ o.2.2.1.length = 1 := by
  obtain ⟨o, C, Q, K, h1, h2⟩ := least_both cD_ok
  refine ⟨o, det_Least_good (detE_of cD_ok) h2, ?_⟩
  have hz := h1.part.q.z
  have hall := h1.all
  have one : ∀ q : Int, 0 ≤ q → q < cD.2.2.1.length → ix cD.2.2.2.1 q = 1 := fun q q0 q1 => by
    have q1 : q < 2 := q1
    rcases (by omega : q = 0 ∨ q = 1) with rfl | rfl <;> rfl
  have heq : ∀ q r : Int, 0 ≤ q → q < cD.2.2.1.length → 0 ≤ r → r < cD.2.2.1.length → ix C q = ix C r := fun q r q0 q1 r0 r1 => by
    refine h1.fin.coarse q r q0 q1 r0 r1 (fun w hw => ?_)
    have a := cD_ok.tab.wlkb q0 q1 hw
    have b := cD_ok.tab.wlkb r0 r1 hw
    rw [one _ a.1 a.2, one _ b.1 b.2]
  by_cases c : Q.length = 1
  · omega
  · have b0 := h1.part.q.b _ (ix_mem (l := Q) (i := 0) (by omega) (by omega))
    have b1 := h1.part.q.b _ (ix_mem (l := Q) (i := 1) (by omega) (by omega))
    have := ix_inj h1.part.q.nd (i := 0) (j := 1) (by omega) (by rw [List.length_map]; omega) (by omega) (by rw [List.length_map]; omega) (by
      rw [ix_map _ (by omega) (by omega), ix_map _ (by omega) (by omega)]
      exact heq _ _ b0.1 b0.2 b1.1 b1.2)
    omega
theorem law_true (d : Dt) : top_TopWays d = some true := by
  obtain ⟨c, hc, hc1⟩ := cD_least
  have ed : (d.1, d.2.1, d.2.2.1, d.2.2.2.1, ()) = d := rfl
  unfold top_TopWays
  refine bind_to (show det_Least (1, 0, [[1], [0]], [1, 1], ()) = _ from hc) ?_
  rw [if_neg (by simp), if_neg (by simp [hc1]), ed]
  by_cases hm : detE 3000 badD d = 0
  · have h := detE_zero hm
    obtain ⟨o, C, Q, K, w1, w2⟩ := least_both h
    refine bind_to (det_Least_good hm w2) ?_
    rw [if_neg (by simp)]
    by_cases h4 : d.2.2.1.length ≤ 4
    · rw [if_neg (by simp; omega)]
      have hb := build_all h h4 (y := o) _ 0 rfl (by omega)
      refine Eq.trans hb ?_
      rw [top_TopWays_L10_eq]; unfold top_TopWays_L10_B
      rw [if_neg (by simp)]
      have e1 := two_Det_spec h h4 w1
      have e2 := alter_Det_spec h h4 w1
      refine bind_to (show two_Det (d.1, d.2.1, (tOf d).2.2.1, d.2.2.2.1, ()) = _ from e1) (bind_to (show alter_Det (d.1, d.2.1, (aOf d).2.2.1, d.2.2.2.1, ()) = _ from e2) ?_)
      rw [if_neg (by simp), if_neg (by simp)]
      have hdo := w1.dok h
      have n1 := hdo.n1
      have m1 := hdo.mkl
      have l1 := hdo.let1
      have hr := alike_refl (o := o) (by omega) (by omega) (fun r hr => by have := hdo.tab.row r hr; omega)
      refine bind_to (show top_alike o o = _ from hr) (bind_to (show top_alike o o = _ from hr) ?_)
      rw [if_pos rfl]
    · rw [if_pos (by simp; omega)]
  · refine bind_to (det_Least_bad hm) ?_
    rw [if_pos (by simpa using hm)]

end Go.Proofs.Ytjpbiinfjhggeaa.topWaysW
