/- The law 'TwoDet' of the plain functions. -/
import Derived.Test.YtmlohdkgmabfdaaTwoDetD
set_option maxHeartbeats 1000000
set_option maxRecDepth 20000
set_option linter.unusedSimpArgs false
set_option linter.unusedVariables false
set_option linter.unusedSectionVars false
namespace Go.Proofs.Ytmlohdkgmabfdaa.twoDetW
open Go Go.Ab
theorem wrap_nat {n : Nat} (h : n < 9223372036854775808) : IntKind.wrap .i64 (n : Int) = n := by
  unfold IntKind.wrap
  simp [IntKind.bits, IntKind.signed]
  omega
theorem ofInt_nat (m : Nat) : BitVec.ofInt 64 (m : Int) = BitVec.ofNat 64 m := by
  apply BitVec.eq_of_toNat_eq; simp
theorem iand_nat {m n : Nat} (hm : m < 9223372036854775808) (hn : n < 9223372036854775808) : iand .i64 (m : Int) (n : Int) = ((m &&& n : Nat) : Int) := by
  unfold iand
  have h : (BitVec.ofInt IntKind.i64.bits (m : Int) &&& BitVec.ofInt IntKind.i64.bits (n : Int)).toNat = m &&& n := by
    show (BitVec.ofInt 64 (m : Int) &&& BitVec.ofInt 64 (n : Int)).toNat = m &&& n
    rw [ofInt_nat, ofInt_nat, BitVec.toNat_and, BitVec.toNat_ofNat, BitVec.toNat_ofNat, Nat.mod_eq_of_lt (by omega), Nat.mod_eq_of_lt (by omega)]
  rw [h, wrap_nat (Nat.lt_of_le_of_lt Nat.and_le_left hm)]
theorem ior_nat {m n : Nat} (hm : m < 9223372036854775808) (hn : n < 9223372036854775808) : ior .i64 (m : Int) (n : Int) = ((m ||| n : Nat) : Int) := by
  unfold ior
  have h : (BitVec.ofInt IntKind.i64.bits (m : Int) ||| BitVec.ofInt IntKind.i64.bits (n : Int)).toNat = m ||| n := by
    show (BitVec.ofInt 64 (m : Int) ||| BitVec.ofInt 64 (n : Int)).toNat = m ||| n
    rw [ofInt_nat, ofInt_nat, BitVec.toNat_or, BitVec.toNat_ofNat, BitVec.toNat_ofNat, Nat.mod_eq_of_lt (by omega), Nat.mod_eq_of_lt (by omega)]
  rw [h, wrap_nat (Nat.or_lt_two_pow (n := 63) hm hn)]
theorem ishl_nat {m k : Nat} (hk : k < 63) (h : m * 2 ^ k < 9223372036854775808) : ishl .i64 (m : Int) (k : Int) = ((m <<< k : Nat) : Int) := by
  unfold ishl
  have e : min ((k : Int).toNat) IntKind.i64.bits = k := by
    show min ((k : Int).toNat) 64 = k
    omega
  rw [e, Nat.shiftLeft_eq]
  have : (m : Int) * 2 ^ k = ((m * 2 ^ k : Nat) : Int) := by push_cast; rfl
  rw [this, wrap_nat h]
theorem ishr_nat {m k : Nat} (hk : k ≤ 64) : ishr .i64 (m : Int) (k : Int) = ((m >>> k : Nat) : Int) := by
  unfold ishr
  have e : min ((k : Int).toNat) IntKind.i64.bits = k := by
    show min ((k : Int).toNat) 64 = k
    omega
  rw [e, Nat.shiftRight_eq_div_pow, Int.fdiv_eq_ediv_of_nonneg _ (by exact_mod_cast Nat.zero_le _)]
  push_cast; rfl
/-- Bits: the q-th one is put. -/
theorem ior_bit {m q : Nat} (hm : m < 4611686018427387904) (hq : q < 62) : ior .i64 (m : Int) (ishl .i64 1 (q : Int)) = ((m ||| 2 ^ q : Nat) : Int) ∧ m ||| 2 ^ q < 4611686018427387904 := by
  have h2 : 2 ^ q < 4611686018427387904 := Nat.pow_lt_pow_right (a := 2) (n := 62) (by omega) hq
  have h1 : ishl .i64 1 (q : Int) = ((2 ^ q : Nat) : Int) := by
    have := ishl_nat (m := 1) (k := q) (by omega) (by omega)
    rw [Nat.shiftLeft_eq, Nat.one_mul] at this
    exact this
  rw [h1, ior_nat (by omega) (by omega)]
  exact ⟨rfl, Nat.or_lt_two_pow (n := 62) hm h2⟩

/-- The answer is yes just if P. -/
def Tells (o : Option Bool) (P : Prop) : Prop := ∃ b, o = some b ∧ (b = true ↔ P)
theorem Tells.of {b : Bool} {P : Prop} (h : b = true ↔ P) : Tells (some b) P := ⟨b, rfl, h⟩
theorem Tells.dec {P Q : Prop} [Decidable P] (h : P ↔ Q) : Tells (some (decide P)) Q := ⟨_, rfl, by simpa using h⟩
theorem Tells.iff {o : Option Bool} {P Q : Prop} (h : Tells o P) (k : P ↔ Q) : Tells o Q := let ⟨b, h1, h2⟩ := h; ⟨b, h1, h2.trans k⟩
theorem Tells.eq {o : Option Bool} {P : Prop} [Decidable P] (h : Tells o P) : o = some (decide P) := by
  obtain ⟨b, rfl, hb⟩ := h
  by_cases hp : P
  · simp [hp, hb.2 hp]
  · have : b = false := by cases b; rfl; exact absurd (hb.1 rfl) hp
    simp [hp, this]
theorem Tells.to {R : Type} {o : Option Bool} {P : Prop} {k1 k2 x : Option R} (h : Tells o P) (h1 : P → k1 = x) (h2 : ¬ P → k2 = x) : (o.bind fun y => if y = true then k1 else k2) = x := by
  obtain ⟨b, rfl, hb⟩ := h
  refine bind_to rfl ?_
  cases b
  · exact h2 fun hp => by simpa using hb.2 hp
  · exact h1 (hb.1 rfl)
theorem Tells.bind {R : Type} {o : Option Bool} {P : Prop} {k : Bool → Option R} {x : Option R} (h : Tells o P) (h1 : ∀ b, (b = true ↔ P) → k b = x) : o.bind k = x := by
  obtain ⟨b, rfl, hb⟩ := h
  exact h1 b hb
section
variable {α C : Type} [Inhabited α]
theorem ex_ix {l : List α} {P : α → Prop} : (∃ x ∈ l, P x) ↔ ∃ i : Int, 0 ≤ i ∧ i < l.length ∧ P (ix l i) := by
  constructor
  · rintro ⟨x, hx, hp⟩
    obtain ⟨i, hi, rfl⟩ := List.mem_iff_getElem.1 hx
    refine ⟨i, by omega, by omega, ?_⟩
    rwa [ix_eq (by omega) (by omega)]
  · rintro ⟨i, h0, h1, hp⟩
    exact ⟨_, ix_mem h0 h1, hp⟩
theorem index_loop {s : List α} {f : α → Option Bool} {L : Int → Option Int} {P : α → Prop} (hs : s.length ≤ 4611686018427387904)
    (hL : ∀ t, L t = if decide (t < (s.length : Int)) = true then G (0 ≤ t ∧ t < (s.length : Int)) ((f (ix s t)).bind fun y => if y = true then some t else G (fits (t + 1)) (L (t + 1))) else some (-1))
    (hf : ∀ x ∈ s, Tells (f x) (P x)) : ∀ (n : Nat) (t : Int), 0 ≤ t → t ≤ s.length → (s.length - t).toNat = n →
      ∃ i, L t = some i ∧ ((i = -1 ∧ ∀ j : Int, t ≤ j → j < s.length → ¬ P (ix s j)) ∨ (t ≤ i ∧ i < s.length ∧ P (ix s i) ∧ ∀ j : Int, t ≤ j → j < i → ¬ P (ix s j))) := by
  intro n
  induction n with
  | zero =>
    intro t h0 h1 hn
    refine ⟨-1, ?_, .inl ⟨rfl, fun j a b => by omega⟩⟩
    rw [hL, if_neg (by simp; omega)]
  | succ n ih =>
    intro t h0 h1 hn
    rw [hL, if_pos (by simp; omega), G_pos (by omega)]
    obtain ⟨b, hb, hbp⟩ := hf _ (ix_mem h0 (by omega : t < s.length))
    rw [hb]
    cases b with
    | true => exact ⟨t, rfl, .inr ⟨by omega, by omega, hbp.1 rfl, fun j a b => by omega⟩⟩
    | false =>
      have hnp : ¬ P (ix s t) := fun hp => by simpa using hbp.2 hp
      obtain ⟨i, hi, hc⟩ := ih (t + 1) (by omega) (by omega) (by omega)
      refine ⟨i, ?_, ?_⟩
      · refine (if_neg (by simp) : (if false = true then some t else G (fits (t + 1)) (L (t + 1))) = _).trans ?_
        rw [G_pos (by unfold fits; omega), hi]
      · rcases hc with ⟨h2, h3⟩ | ⟨h2, h3, h4, h5⟩
        · refine .inl ⟨h2, fun j a b => ?_⟩
          by_cases e : j = t
          · rw [e]; exact hnp
          · exact h3 j (by omega) b
        · refine .inr ⟨by omega, h3, h4, fun j a b => ?_⟩
          by_cases e : j = t
          · rw [e]; exact hnp
          · exact h5 j (by omega) b
theorem contains_tells {s : List α} {f : α → Option Bool} {L : Int → Option Int} {P : α → Prop}
    (hL : ∀ t, L t = if decide (t < (s.length : Int)) = true then G (0 ≤ t ∧ t < (s.length : Int)) ((f (ix s t)).bind fun y => if y = true then some t else G (fits (t + 1)) (L (t + 1))) else some (-1))
    (hs : s.length ≤ 4611686018427387904) (hf : ∀ x ∈ s, Tells (f x) (P x)) : Tells ((L 0).bind fun y => some (decide ((0 : Int) ≤ y))) (∃ x ∈ s, P x) := by
  obtain ⟨i, hi, hc⟩ := index_loop hs hL hf _ 0 (by omega) (by omega) rfl
  rw [hi]
  refine ⟨decide (0 ≤ i), rfl, ?_⟩
  rw [decide_eq_true_iff, ex_ix]
  rcases hc with ⟨h2, h3⟩ | ⟨h2, h3, h4, h5⟩
  · constructor
    · intro h; omega
    · rintro ⟨j, h0, h1, hp⟩; exact absurd hp (h3 j h0 h1)
  · exact ⟨fun _ => ⟨i, by omega, h3, h4⟩, fun _ => by omega⟩
/-- .. of what carries along what it reads. -/
theorem contains_tells2 {s : List α} {c : C} {f : α → C → Option (Bool × C)} {L : Int → C → Option (Int × C)} {P : α → Prop}
    (hL : ∀ t c, L t c = if decide (t < (s.length : Int)) = true then G (0 ≤ t ∧ t < (s.length : Int)) ((f (ix s t) c).bind fun y => if y.1 = true then some (t, y.2) else G (fits (t + 1)) (L (t + 1) y.2)) else some (-1, c))
    (hs : s.length ≤ 4611686018427387904) (hf : ∀ x ∈ s, ∃ b, f x c = some (b, c) ∧ (b = true ↔ P x)) : ∃ b, ((L 0 c).bind fun y => some (decide ((0 : Int) ≤ y.1), y.2)) = some (b, c) ∧ (b = true ↔ ∃ x ∈ s, P x) := by
  have key : ∀ (n : Nat) (t : Int), 0 ≤ t → t ≤ s.length → (s.length - t).toNat = n →
      ∃ i, L t c = some (i, c) ∧ ((i = -1 ∧ ∀ j : Int, t ≤ j → j < s.length → ¬ P (ix s j)) ∨ (t ≤ i ∧ i < s.length ∧ P (ix s i))) := by
    intro n
    induction n with
    | zero =>
      intro t h0 h1 hn
      refine ⟨-1, ?_, .inl ⟨rfl, fun j a b => by omega⟩⟩
      rw [hL, if_neg (by simp; omega)]
    | succ n ih =>
      intro t h0 h1 hn
      rw [hL, if_pos (by simp; omega), G_pos (by omega)]
      obtain ⟨b, hb, hbp⟩ := hf _ (ix_mem h0 (by omega : t < s.length))
      rw [hb]
      cases b with
      | true => exact ⟨t, rfl, .inr ⟨by omega, by omega, hbp.1 rfl⟩⟩
      | false =>
        have hnp : ¬ P (ix s t) := fun hp => by simpa using hbp.2 hp
        obtain ⟨i, hi, hc⟩ := ih (t + 1) (by omega) (by omega) (by omega)
        refine ⟨i, ?_, ?_⟩
        · refine (if_neg (by simp) : (if false = true then some (t, c) else G (fits (t + 1)) (L (t + 1) c)) = _).trans ?_
          rw [G_pos (by unfold fits; omega), hi]
        · rcases hc with ⟨h2, h3⟩ | ⟨h2, h3, h4⟩
          · refine .inl ⟨h2, fun j a b => ?_⟩
            by_cases e : j = t
            · rw [e]; exact hnp
            · exact h3 j (by omega) b
          · exact .inr ⟨by omega, h3, h4⟩
  obtain ⟨i, hi, hc⟩ := key _ 0 (by omega) (by omega) rfl
  rw [hi]
  refine ⟨decide (0 ≤ i), rfl, ?_⟩
  rw [decide_eq_true_iff, ex_ix]
  rcases hc with ⟨h2, h3⟩ | ⟨h2, h3, h4⟩
  · constructor
    · intro h; omega
    · rintro ⟨j, h0, h1, hp⟩; exact absurd hp (h3 j h0 h1)
  · exact ⟨fun _ => ⟨i, by omega, h3, h4⟩, fun _ => by omega⟩
end
/-- A loop that looks for the first fault. -/
theorem scan_to {R : Type} {len : Int} {L : Int → Option R} {bad : Int → Prop} {x : Option R} {lo : Int} (h0 : lo ≤ len)
    (hs : ∀ t, lo ≤ t → t < len → (bad t → L t = x) ∧ (¬ bad t → L t = L (t + 1))) (hf : (∀ t, lo ≤ t → t < len → ¬ bad t) → L len = x) : L lo = x := by
  have key : ∀ (n : Nat) (t : Int), lo ≤ t → t ≤ len → (len - t).toNat = n → (∀ j, lo ≤ j → j < t → ¬ bad j) → L t = x := by
    intro n
    induction n with
    | zero =>
      intro t h1 h2 hn h
      obtain rfl : t = len := by omega
      exact hf h
    | succ n ih =>
      intro t h1 h2 hn h
      by_cases hb : bad t
      · exact (hs t h1 (by omega)).1 hb
      · rw [(hs t h1 (by omega)).2 hb]
        refine ih (t + 1) (by omega) (by omega) (by omega) fun j a b => ?_
        by_cases e : j = t
        · rw [e]; exact hb
        · exact h j a (by omega)
  exact key _ lo (Int.le_refl _) h0 rfl (fun j a b => by omega)
/-- A loop that counts, with a state. -/
theorem fold_to {R S : Type} {len : Int} {L : Int → S → Option R} {f : Int → S → S} {lo : Int} {I : Int → S → Prop} {s : S} (h0 : lo ≤ len) (hI : I lo s)
    (hs : ∀ t s, lo ≤ t → t < len → I t s → L t s = L (t + 1) (f t s) ∧ I (t + 1) (f t s)) : ∃ s', I len s' ∧ L lo s = L len s' := by
  have key : ∀ (n : Nat) (t : Int) (s : S), lo ≤ t → t ≤ len → (len - t).toNat = n → I t s → ∃ s', I len s' ∧ L t s = L len s' := by
    intro n
    induction n with
    | zero =>
      intro t s h1 h2 hn h
      obtain rfl : t = len := by omega
      exact ⟨s, h, rfl⟩
    | succ n ih =>
      intro t s h1 h2 hn h
      obtain ⟨e, h3⟩ := hs t s h1 (by omega) h
      obtain ⟨s', h4, h5⟩ := ih (t + 1) _ (by omega) (by omega) (by omega) h3
      exact ⟨s', h4, e.trans h5⟩
  exact key _ lo s (Int.le_refl _) h0 rfl hI

theorem r1_Words_L4_spec {a b : List Int} (hl : a.length = b.length) : ∀ (n : Nat) (i : Int), 0 ≤ i → i ≤ a.length → (a.length - i).toNat = n → a.length ≤ 2305843009213693951 → (∀ j : Int, 0 ≤ j → j < i → ix a j = ix b j) → r1_Words_L4 a b i = some (decide (a = b)) := by
  intro n
  induction n with
  | zero =>
    intro i h0 h1 hn hs h
    rw [r1_Words_L4_eq]; unfold r1_Words_L4_B
    (try dsimp only); (repeat' first | (with_reducible refine G_to ?_ ?_; focus (first | omega | (unfold fits; omega) | (unfold room; (try simp only [List.length_append, List.length_cons, List.length_nil]); omega))) | (with_reducible refine both_to ?_ ?_) | (with_reducible refine itet_to ?_) | (with_reducible refine itef_to ?_) | (with_reducible refine ite_to (fun _ => ?_) (fun _ => ?_))) <;> try (exfalso; omega)
    · rw [Option.some_inj, eq_comm, decide_eq_true_iff]; exact ix_ext hl (fun j a b => h j a (by omega))
  | succ n ih =>
    intro i h0 h1 hn hs h
    rw [r1_Words_L4_eq]; unfold r1_Words_L4_B
    (try dsimp only); (repeat' first | (with_reducible refine G_to ?_ ?_; focus (first | omega | (unfold fits; omega) | (unfold room; (try simp only [List.length_append, List.length_cons, List.length_nil]); omega))) | (with_reducible refine both_to ?_ ?_) | (with_reducible refine itet_to ?_) | (with_reducible refine itef_to ?_) | (with_reducible refine ite_to (fun _ => ?_) (fun _ => ?_))) <;> try (exfalso; omega)
    · rw [Option.some_inj, eq_comm, decide_eq_false_iff_not]; rintro rfl; contradiction
    · rename_i hx; exact ih _ (by omega) (by omega) (by omega) hs (below_succ h (Decidable.not_not.1 hx))
theorem r1_Words_spec {a b : List Int} (hs : a.length ≤ 2305843009213693951) : r1_Words a b = some (decide (a = b)) := by
  unfold r1_Words
  (try dsimp only); (repeat' first | (with_reducible refine G_to ?_ ?_; focus (first | omega | (unfold fits; omega) | (unfold room; (try simp only [List.length_append, List.length_cons, List.length_nil]); omega))) | (with_reducible refine both_to ?_ ?_) | (with_reducible refine itet_to ?_) | (with_reducible refine itef_to ?_) | (with_reducible refine ite_to (fun _ => ?_) (fun _ => ?_))) <;> try (exfalso; omega)
  · rw [Option.some_inj, eq_comm, decide_eq_false_iff_not]; rintro rfl; contradiction
  · exact r1_Words_L4_spec (by omega) _ 0 (by omega) (by omega) rfl hs (fun j a b => by omega)

theorem slices_Clone_spec {s : List Int} (hs : s.length * 8 ≤ 140737488355328) : slices_Clone s = some s := by
  have hr : G (room ([] : List Int) s 8) (some (([] : List Int) ++ s)) = some s := by
    rw [G_pos (room_of (by simpa using hs))]; rfl
  unfold slices_Clone
  refine itep_to (fun h => ?_) (fun h => hr)
  obtain rfl : s = [] := List.length_eq_zero_iff.1 h
  rw [hr]; exact both_self (ts := [(.list (.int .i64))]) (some ([] : List Int))

/-- A walk over a table. -/
def stp (N : List (List Int)) (q a : Int) : Int := ix (ix N q) a
def wlk (N : List (List Int)) (q : Int) (w : List Int) : Int := w.foldl (stp N) q
/-- The places come by. -/
def trc (N : List (List Int)) : Int → List Int → List Int
  | _, [] => []
  | q, a :: w => stp N q a :: trc N (stp N q a) w
/-- A table of so many letters. -/
structure Tab (L : Int) (N : List (List Int)) : Prop where
  row : ∀ r ∈ N, (r.length : Int) = L
  to : ∀ r ∈ N, ∀ q ∈ r, 0 ≤ q ∧ q < N.length
theorem Tab.stpb {L : Int} {N : List (List Int)} (h : Tab L N) {q a : Int} (q0 : 0 ≤ q) (q1 : q < N.length) (a0 : 0 ≤ a) (a1 : a < L) : 0 ≤ stp N q a ∧ stp N q a < N.length := by
  have h1 := ix_mem q0 q1
  have h2 := h.row _ h1
  exact h.to _ h1 _ (ix_mem a0 (by omega))
theorem Tab.rowlen {L : Int} {N : List (List Int)} (h : Tab L N) {q : Int} (q0 : 0 ≤ q) (q1 : q < N.length) : ((ix N q).length : Int) = L := h.row _ (ix_mem q0 q1)
theorem Tab.wlkb {L : Int} {N : List (List Int)} (h : Tab L N) : ∀ {w : List Int} {q : Int}, 0 ≤ q → q < N.length → (∀ a ∈ w, 0 ≤ a ∧ a < L) → 0 ≤ wlk N q w ∧ wlk N q w < N.length
  | [], q, q0, q1, _ => ⟨q0, q1⟩
  | a :: w, q, q0, q1, hw => by
    have := h.stpb q0 q1 (hw a (by simp)).1 (hw a (by simp)).2
    exact Tab.wlkb h (q := stp N q a) (w := w) this.1 this.2 (fun b hb => hw b (by simp [hb]))
theorem Tab.trcb {L : Int} {N : List (List Int)} (h : Tab L N) : ∀ {w : List Int} {q : Int}, 0 ≤ q → q < N.length → (∀ a ∈ w, 0 ≤ a ∧ a < L) → ∀ p ∈ trc N q w, 0 ≤ p ∧ p < N.length
  | [], q, q0, q1, _, p, hp => by cases hp
  | a :: w, q, q0, q1, hw, p, hp => by
    have := h.stpb q0 q1 (hw a (by simp)).1 (hw a (by simp)).2
    rcases List.mem_cons.1 hp with rfl | hp
    · exact this
    · exact Tab.trcb h this.1 this.2 (fun b hb => hw b (by simp [hb])) p hp

theorem mfind_none {α : Type} : ∀ {ks : List α} {x : α}, mfind ks x = none ↔ x ∉ ks
  | [], x => by simp [mfind]
  | y :: ys, x => by
    unfold mfind
    by_cases h : y = x
    · rw [if_pos h]; simp [h]
    · rw [if_neg h, Option.map_eq_none_iff, mfind_none]
      simp [Ne.symm h]
/-- A map that only marks: all its elements are one. -/
abbrev ones {α : Type} (ks : List α) : List Int := List.replicate ks.length 1
theorem mget_ones {α : Type} {ks : List α} {x : α} : (mget ks (ones ks) x 0 = 0) ↔ x ∉ ks := by
  unfold mget
  cases h : mfind ks x with
  | none => simp [mfind_none.1 h]
  | some j =>
    have hx : x ∈ ks := by
      refine Classical.byContradiction fun hn => ?_
      rw [mfind_none.2 hn] at h; cases h
    have := mfind_lt h
    simp [hx, this]
theorem mputK_new {α : Type} {ks : List α} {x : α} (h : x ∉ ks) : mputK ks x = ks ++ [x] := by
  unfold mputK; rw [mfind_none.2 h]
theorem mputV_new {α : Type} {ks : List α} {x : α} (h : x ∉ ks) : mputV ks (ones ks) x 1 = ones (ks ++ [x]) := by
  unfold mputV; rw [mfind_none.2 h]
  show List.replicate ks.length 1 ++ [1] = List.replicate (ks ++ [x]).length 1
  rw [List.length_append, List.length_singleton, List.replicate_succ']

theorem pigeon {α : Type} [DecidableEq α] : ∀ {l U : List α}, l.Nodup → (∀ x ∈ l, x ∈ U) → l.length ≤ U.length
  | [], _, _, _ => Nat.zero_le _
  | a :: l, U, hn, hs => by
    have ha := hs a (by simp)
    obtain ⟨h1, h2⟩ := List.nodup_cons.1 hn
    have := pigeon (U := U.erase a) h2 (fun x hx => (List.mem_erase_of_ne (by rintro rfl; exact h1 hx)).2 (hs x (by simp [hx])))
    rw [List.length_erase_of_mem ha] at this
    have hp : 0 < U.length := List.length_pos_of_mem ha
    rw [List.length_cons]; omega
theorem pigeon_int {l : List Int} {n : Nat} (h : l.Nodup) (hb : ∀ x ∈ l, 0 ≤ x ∧ x < n) : l.length ≤ n := by
  have := pigeon (U := (List.range n).map Int.ofNat) h (fun x hx => by
    have := hb x hx
    exact List.mem_map.2 ⟨x.toNat, List.mem_range.2 (by omega), by show ((x.toNat : Nat) : Int) = x; omega⟩)
  simpa using this

theorem mfind_mem {α : Type} {ks : List α} {x : α} (h : x ∈ ks) : ∃ j, mfind ks x = some j := by
  cases e : mfind ks x with
  | none => exact absurd h (mfind_none.1 e)
  | some j => exact ⟨j, rfl⟩
theorem mfind_hd {α : Type} (ks : List α) (x : α) : mfind (x :: ks) x = some 0 := by unfold mfind; rw [if_pos rfl]
theorem mfind_tl {α : Type} {ks : List α} {x y : α} (h : y ≠ x) : mfind (y :: ks) x = (mfind ks x).map (· + 1) := by
  rw [mfind, if_neg h]
theorem mfind_app {α : Type} : ∀ {ks : List α} {x : α} {j : Nat} (l : List α), mfind ks x = some j → mfind (ks ++ l) x = some j
  | [], _, _, _, h => by cases h
  | y :: ks, x, j, l, h => by
    rw [List.cons_append]
    by_cases e : y = x
    · subst e; rw [mfind_hd] at h ⊢; exact h
    · rw [mfind_tl e] at h ⊢
      cases hm : mfind ks x with
      | none => rw [hm] at h; cases h
      | some i => rw [hm] at h; rw [mfind_app l hm]; exact h
theorem mfind_new {α : Type} : ∀ {ks : List α} {x : α}, x ∉ ks → mfind (ks ++ [x]) x = some ks.length
  | [], x, _ => mfind_hd _ _
  | y :: ks, x, h => by
    have hy : y ≠ x := by rintro rfl; exact h (by simp)
    rw [List.cons_append, mfind_tl hy, mfind_new (fun hh => h (by simp [hh]))]; rfl
theorem mfind_at {α : Type} : ∀ {ks : List α} {x : α} {k : Nat}, ks[k]? = some x → (∀ j, j < k → ks[j]? ≠ some x) → mfind ks x = some k
  | [], _, _, h, _ => by simp at h
  | y :: ks, x, k, h, hf => by
    cases k with
    | zero =>
      have : y = x := by simpa using h
      subst this; exact mfind_hd _ _
    | succ k =>
      have hy : y ≠ x := by have := hf 0 (by omega); simpa using this
      rw [mfind_tl hy, mfind_at (k := k) (by simpa using h) (fun j hj => by have := hf (j + 1) (by omega); simpa using this)]; rfl
theorem mfind_inj {α : Type} {ks : List α} {x y : α} {j : Nat} (h : mfind ks x = some j) (k : mfind ks y = some j) : x = y := by
  have := mfind_get h; rw [mfind_get k] at this; injection this with this; exact this.symm
theorem mfind_nodup {α : Type} {ks : List α} (hn : ks.Nodup) {j : Nat} (hj : j < ks.length) : mfind ks ks[j] = some j :=
  mfind_at (by simp) fun i hi e => by
    have hi' : i < ks.length := by omega
    rw [List.getElem?_eq_getElem hi'] at e
    exact List.pairwise_iff_getElem.1 hn i j hi' hj hi (Option.some.inj e)
theorem mfind_map {α β : Type} (f : α → β) : ∀ {ks : List α} {x : α}, (∀ y ∈ ks, f y = f x → y = x) → mfind (ks.map f) (f x) = mfind ks x
  | [], _, _ => rfl
  | y :: ks, x, h => by
    have ih := mfind_map f (ks := ks) (x := x) (fun z hz => h z (by simp [hz]))
    rw [List.map_cons]
    by_cases e : y = x
    · subst e; rw [mfind_hd, mfind_hd]
    · rw [mfind_tl e, mfind_tl (fun hh => e (h y (by simp) hh)), ih]
/-- 0, 1, 2, .. -/
def iota (n : Nat) : List Int := (List.range n).map fun j : Nat => (j : Int)
theorem iota_len (n : Nat) : (iota n).length = n := by simp [iota]
theorem iota_succ (n : Nat) : iota (n + 1) = iota n ++ [(n : Int)] := by simp [iota, List.range_succ]
theorem mget_iota {α : Type} {ks : List α} {x : α} {j : Nat} (h : mfind ks x = some j) : mget ks (iota ks.length) x 0 = j := by
  have := mfind_lt h
  unfold mget; rw [h]
  simp [iota, this]
theorem mhas_iff {α : Type} {ks : List α} {x : α} : mhas ks x = true ↔ x ∈ ks := by
  unfold mhas
  cases e : mfind ks x with
  | none => simp [mfind_none.1 e]
  | some j =>
    have := mfind_get e
    simp [List.mem_of_getElem? this]
theorem mputV_iota {α : Type} {ks : List α} {x : α} (h : x ∉ ks) : mputV ks (iota ks.length) x ks.length = iota (ks ++ [x]).length := by
  unfold mputV; rw [mfind_none.2 h, List.length_append, List.length_singleton, iota_succ]
theorem cover_nodup {α : Type} [DecidableEq α] : ∀ {l U : List α}, U.Nodup → (∀ x ∈ U, x ∈ l) → l.length ≤ U.length → l.Nodup
  | [], _, _, _, _ => List.nodup_nil
  | a :: l, U, hU, hs, hl => by
    have ha : a ∉ l := fun ha => by
      have := pigeon (l := U) (U := l) hU (fun x hx => by
        rcases List.mem_cons.1 (hs x hx) with rfl | h
        · exact ha
        · exact h)
      rw [List.length_cons] at hl; omega
    refine List.nodup_cons.2 ⟨ha, ?_⟩
    refine cover_nodup (U := U.erase a) (hU.erase a) (fun x hx => ?_) ?_
    · have hne : x ≠ a := ((List.Nodup.mem_erase_iff hU).1 hx).1
      rcases List.mem_cons.1 (hs x (List.mem_of_mem_erase hx)) with h | h
      · exact absurd h hne
      · exact h
    · have : U.length - 1 ≤ (U.erase a).length := by
        by_cases h : a ∈ U
        · rw [List.length_erase_of_mem h]; omega
        · rw [List.erase_of_not_mem h]; omega
      rw [List.length_cons] at hl; omega

/-- The bytes of a list of small numbers. -/
def keyL (l : List Int) : List Int := l.flatMap fun x => [IntKind.wrap .u8 x, IntKind.wrap .u8 (ishr .i64 x 8)]
def keyB (l : List Int) : List UInt8 := bstr (keyL l)
theorem wrap_u8 (x : Int) : IntKind.wrap .u8 x = x % 256 := by
  unfold IntKind.wrap
  simp [IntKind.bits, IntKind.signed]
theorem keyB_cons (x : Int) (l : List Int) : keyB (x :: l) = UInt8.ofNat (x % 256).toNat :: UInt8.ofNat (ishr .i64 x 8 % 256).toNat :: keyB l := by
  unfold keyB keyL bstr
  simp [wrap_u8]
theorem u8_inj {a b : Int} (h : UInt8.ofNat (a % 256).toNat = UInt8.ofNat (b % 256).toNat) : a % 256 = b % 256 := by
  have := congrArg UInt8.toNat h
  simp only [UInt8.toNat_ofNat'] at this
  omega
theorem keyB_inj : ∀ {l k : List Int}, (∀ x ∈ l, 0 ≤ x ∧ x < 65536) → (∀ x ∈ k, 0 ≤ x ∧ x < 65536) → keyB l = keyB k → l = k
  | [], [], _, _, _ => rfl
  | [], y :: k, _, _, h => by rw [keyB_cons] at h; cases h
  | x :: l, [], _, _, h => by rw [keyB_cons] at h; cases h
  | x :: l, y :: k, hl, hk, h => by
    rw [keyB_cons, keyB_cons] at h
    injection h with h1 h
    injection h with h2 h
    have hx := hl x (by simp)
    have hy := hk y (by simp)
    have e1 := u8_inj h1
    have e2 := u8_inj h2
    obtain ⟨a, rfl⟩ : ∃ a : Nat, x = a := ⟨x.toNat, by omega⟩
    obtain ⟨b, rfl⟩ : ∃ b : Nat, y = b := ⟨y.toNat, by omega⟩
    rw [show (8 : Int) = ((8 : Nat) : Int) from rfl, ishr_nat (by omega), ishr_nat (by omega), Nat.shiftRight_eq_div_pow, Nat.shiftRight_eq_div_pow] at e2
    have : a = b := by omega
    rw [this, keyB_inj (fun z hz => hl z (by simp [hz])) (fun z hz => hk z (by simp [hz])) h]
theorem keyL_len (l : List Int) : (keyL l).length = 2 * l.length := by
  induction l with
  | nil => rfl
  | cons x l ih => unfold keyL at *; rw [List.flatMap_cons, List.length_append, ih]; simp; omega
/-- A row of so many numbers. -/
def mkR (n : Nat) (g : Int → Int) : List Int := (List.range n).map fun a : Nat => g a
theorem mkR_len (n : Nat) (g : Int → Int) : (mkR n g).length = n := by simp [mkR]
theorem mkR_ix {n : Nat} {g : Int → Int} {a : Int} (h0 : 0 ≤ a) (h1 : a < n) : ix (mkR n g) a = g a := by
  rw [ix_eq h0 (by rw [mkR_len]; exact h1)]
  simp [mkR, Int.toNat_of_nonneg h0]
theorem mkR_of {n : Nat} {g : Int → Int} {l : List Int} (hl : l.length = n) (h : ∀ a : Int, 0 ≤ a → a < n → ix l a = g a) : l = mkR n g :=
  ix_ext (by rw [mkR_len, hl]) fun j j0 j1 => by rw [mkR_ix j0 (by omega), h j j0 (by omega)]

abbrev Dt := Int × Int × (List (List Int)) × (List Int) × Unit
def DBig (mx : Int) (d : Dt) : Prop := d.2.2.1.length < 1 ∨ mx < d.2.2.1.length
def DRag (d : Dt) : Prop := ¬ (d.2.2.2.1.length : Int) = d.2.2.1.length ∨ ∃ r ∈ d.2.2.1, ¬ (r.length : Int) = d.1
def DOut (mb : Int → Prop) (d : Dt) : Prop := (d.2.1 < 0 ∨ (d.2.2.1.length : Int) ≤ d.2.1) ∨ (∃ r ∈ d.2.2.1, ∃ q ∈ r, q < 0 ∨ (d.2.2.1.length : Int) ≤ q) ∨ (∃ s ∈ d.2.2.2.1, mb s)
open Classical in
/-- What is wrong with an automaton of at most so many states, with such marks. -/
noncomputable def detE (mx : Int) (mb : Int → Prop) (d : Dt) : Int := if d.1 < 1 ∨ 4 < d.1 then 2 else if DBig mx d then 1 else if DRag d then 3 else if DOut mb d then 2 else 0
structure DOk (mx : Int) (mb : Int → Prop) (d : Dt) : Prop where
  let1 : 1 ≤ d.1 ∧ d.1 ≤ 4
  n1 : 1 ≤ d.2.2.1.length ∧ (d.2.2.1.length : Int) ≤ mx
  st : 0 ≤ d.2.1 ∧ d.2.1 < d.2.2.1.length
  mkl : (d.2.2.2.1.length : Int) = d.2.2.1.length
  mok : ∀ s ∈ d.2.2.2.1, ¬ mb s
  tab : Tab d.1 d.2.2.1
theorem detE_zero {mx : Int} {mb : Int → Prop} {d : Dt} (h : detE mx mb d = 0) : DOk mx mb d := by
  unfold detE at h
  by_cases c1 : d.1 < 1 ∨ 4 < d.1
  · rw [if_pos c1] at h; omega
  rw [if_neg c1] at h
  by_cases c2 : DBig mx d
  · rw [if_pos c2] at h; omega
  rw [if_neg c2] at h
  by_cases c3 : DRag d
  · rw [if_pos c3] at h; omega
  rw [if_neg c3] at h
  by_cases c4 : DOut mb d
  · rw [if_pos c4] at h; omega
  unfold DBig at c2; unfold DRag at c3; unfold DOut at c4
  refine ⟨by omega, by omega, ?_, ?_, fun s hs hm => c4 (.inr (.inr ⟨s, hs, hm⟩)), fun r hr => ?_, fun r hr q hq => ?_⟩
  · have : ¬ (d.2.1 < 0 ∨ (d.2.2.1.length : Int) ≤ d.2.1) := fun h => c4 (.inl h)
    omega
  · exact Decidable.not_not.1 fun h => c3 (.inl h)
  · by_cases e : (r.length : Int) = d.1
    · exact e
    · exact absurd (.inr ⟨r, hr, e⟩) c3
  · have : ¬ (q < 0 ∨ (d.2.2.1.length : Int) ≤ q) := fun h => c4 (.inr (.inl ⟨r, hr, q, hq, h⟩))
    omega
theorem detE_of {mx : Int} {mb : Int → Prop} {d : Dt} (h : DOk mx mb d) : detE mx mb d = 0 := by
  have h1 := h.let1
  have h2 := h.n1
  have h3 := h.st
  have h4 := h.mkl
  unfold detE
  rw [if_neg (by omega), if_neg (by unfold DBig; omega), if_neg, if_neg]
  · rintro (hh | ⟨r, hr, q, hq, hh⟩ | ⟨s, hs, hh⟩)
    · omega
    · have := h.tab.to r hr q hq
      omega
    · exact h.mok s hs hh
  · rintro (hh | ⟨r, hr, hh⟩)
    · exact hh h4
    · exact hh (h.tab.row r hr)

section
variable {d : Dt} {mb : Int → Prop}
def sigC (d : Dt) (c : List Int) (q : Int) : Int × List Int := (ix c q, (ix d.2.2.1 q).map (ix c))
def ksC (d : Dt) (c : List Int) : Nat → List (Int × List Int)
  | 0 => []
  | t + 1 => if sigC d c (t : Int) ∈ ksC d c t then ksC d c t else ksC d c t ++ [sigC d c (t : Int)]
noncomputable def idxC (d : Dt) (c : List Int) (q : Nat) : Nat := (mfind (ksC d c (q + 1)) (sigC d c (q : Int))).getD 0
noncomputable def rfC (d : Dt) (c : List Int) : List Int := mkR d.2.2.1.length fun q => (idxC d c q.toNat : Int)
theorem ksC_succ (c : List Int) (t : Nat) : ksC d c (t + 1) = if sigC d c (t : Int) ∈ ksC d c t then ksC d c t else ksC d c t ++ [sigC d c (t : Int)] := rfl
theorem ksC_pre (c : List Int) : ∀ t, ∃ x, ksC d c (t + 1) = ksC d c t ++ x := fun t => by
  rw [ksC_succ]
  by_cases h : sigC d c (t : Int) ∈ ksC d c t
  · exact ⟨[], by rw [if_pos h, List.append_nil]⟩
  · exact ⟨_, by rw [if_neg h]⟩
theorem ksC_mem (c : List Int) : ∀ t q : Nat, q < t → sigC d c (q : Int) ∈ ksC d c t
  | t + 1, q, h => by
    rw [ksC_succ]
    by_cases e : q = t
    · subst e
      by_cases h : sigC d c (q : Int) ∈ ksC d c q
      · rw [if_pos h]; exact h
      · rw [if_neg h]; simp
    · have := ksC_mem c t q (by omega)
      by_cases h : sigC d c (t : Int) ∈ ksC d c t
      · rw [if_pos h]; exact this
      · rw [if_neg h]; simp [this]
theorem ksC_of (c : List Int) : ∀ (t : Nat), ∀ k ∈ ksC d c t, ∃ q : Nat, q < t ∧ k = sigC d c (q : Int)
  | 0, k, h => by cases h
  | t + 1, k, h => by
    rw [ksC_succ] at h
    by_cases e : sigC d c (t : Int) ∈ ksC d c t
    · rw [if_pos e] at h
      obtain ⟨q, h1, h2⟩ := ksC_of c t k h
      exact ⟨q, by omega, h2⟩
    · rw [if_neg e] at h
      rcases List.mem_append.1 h with h | h
      · obtain ⟨q, h1, h2⟩ := ksC_of c t k h
        exact ⟨q, by omega, h2⟩
      · exact ⟨t, by omega, List.mem_singleton.1 h⟩
theorem ksC_nodup (c : List Int) : ∀ t, (ksC d c t).Nodup
  | 0 => List.nodup_nil
  | t + 1 => by
    rw [ksC_succ]
    by_cases h : sigC d c (t : Int) ∈ ksC d c t
    · rw [if_pos h]; exact ksC_nodup c t
    · rw [if_neg h, List.nodup_append]
      exact ⟨ksC_nodup c t, by simp, fun a ha b hb => by rw [List.mem_singleton.1 hb]; rintro rfl; exact h ha⟩
theorem ksC_le (c : List Int) : ∀ t, (ksC d c t).length ≤ t
  | 0 => Nat.le_refl _
  | t + 1 => by
    have := ksC_le c t
    rw [ksC_succ]
    split
    · omega
    · rw [List.length_append, List.length_singleton]; omega
theorem idxC_at (c : List Int) (q : Nat) : ∀ t, q < t → mfind (ksC d c t) (sigC d c (q : Int)) = some (idxC d c q)
  | t + 1, h => by
    by_cases e : q = t
    · subst e
      obtain ⟨j, hj⟩ := mfind_mem (ksC_mem (d := d) c (q + 1) q (by omega))
      unfold idxC; rw [hj]; rfl
    · obtain ⟨x, hx⟩ := ksC_pre (d := d) c t
      rw [hx]; exact mfind_app x (idxC_at c q t (by omega))
theorem idxC_iff (c : List Int) {q r : Nat} : idxC d c q = idxC d c r ↔ sigC d c (q : Int) = sigC d c (r : Int) := by
  have h1 := idxC_at (d := d) c q (max q r + 1) (by omega)
  have h2 := idxC_at (d := d) c r (max q r + 1) (by omega)
  constructor
  · intro e; rw [← e] at h2; exact mfind_inj h1 h2
  · intro e; rw [e, h2] at h1; exact (Option.some.inj h1).symm
theorem idxC_lt (c : List Int) {q t : Nat} (h : q < t) : idxC d c q < (ksC d c t).length := mfind_lt (idxC_at c q t h)
theorem idxC_sur (c : List Int) {t j : Nat} (h : j < (ksC d c t).length) : ∃ q, q < t ∧ idxC d c q = j := by
  obtain ⟨q, hq, e⟩ := ksC_of c t _ (List.getElem_mem h)
  refine ⟨q, hq, ?_⟩
  have h1 := idxC_at (d := d) c q t hq
  rw [← e, mfind_nodup (ksC_nodup c t) h] at h1
  exact (Option.some.inj h1).symm
/-- Classes so far: small numbers. -/
structure ClsOk (d : Dt) (c : List Int) : Prop where
  len : c.length = d.2.2.1.length
  b : ∀ q : Int, 0 ≤ q → q < c.length → 0 ≤ ix c q ∧ ix c q < 65536
theorem rfC_len (c : List Int) : (rfC d c).length = d.2.2.1.length := mkR_len _ _
theorem rfC_ix (c : List Int) {q : Int} (h0 : 0 ≤ q) (h1 : q < d.2.2.1.length) : ix (rfC d c) q = idxC d c q.toNat := mkR_ix h0 h1
theorem sigC_len (h : DOk 4000 mb d) (c : List Int) {q : Int} (h0 : 0 ≤ q) (h1 : q < d.2.2.1.length) : ((sigC d c q).2.length : Int) = d.1 := by
  unfold sigC
  rw [List.length_map]; exact h.tab.rowlen h0 h1
theorem sigC_b (h : DOk 4000 mb d) {c : List Int} (hc : ClsOk d c) {q : Int} (h0 : 0 ≤ q) (h1 : q < d.2.2.1.length) : ∀ x ∈ (sigC d c q).2, 0 ≤ x ∧ x < 65536 := by
  intro x hx
  unfold sigC at hx
  obtain ⟨y, hy, rfl⟩ := List.mem_map.1 hx
  have := h.tab.to _ (ix_mem h0 h1) y hy
  exact hc.b y this.1 (by rw [hc.len]; exact this.2)
theorem sigC_row (h : DOk 4000 mb d) (c : List Int) {q a : Int} (h0 : 0 ≤ q) (h1 : q < d.2.2.1.length) (a0 : 0 ≤ a) (a1 : a < d.1) : ix (sigC d c q).2 a = ix c (ix (ix d.2.2.1 q) a) := by
  have := h.tab.rowlen h0 h1
  unfold sigC
  exact ix_map _ a0 (by omega)
theorem sigC_eq (h : DOk 4000 mb d) (c : List Int) {p q : Int} (p0 : 0 ≤ p) (p1 : p < d.2.2.1.length) (q0 : 0 ≤ q) (q1 : q < d.2.2.1.length) : sigC d c p = sigC d c q ↔ ix c p = ix c q ∧ ∀ a : Int, 0 ≤ a → a < d.1 → ix c (ix (ix d.2.2.1 p) a) = ix c (ix (ix d.2.2.1 q) a) := by
  have l1 := sigC_len h c p0 p1
  have l2 := sigC_len h c q0 q1
  constructor
  · intro e
    refine ⟨congrArg Prod.fst e, fun a a0 a1 => ?_⟩
    rw [← sigC_row h c p0 p1 a0 a1, ← sigC_row h c q0 q1 a0 a1, e]
  · rintro ⟨e1, e2⟩
    refine Prod.ext e1 (ix_ext (by omega) fun a a0 a1 => ?_)
    rw [sigC_row h c p0 p1 a0 (by omega), sigC_row h c q0 q1 a0 (by omega)]
    exact e2 a a0 (by omega)
def encK (k : Int × List Int) : Int × List UInt8 × Unit := (k.1, keyB k.2, ())
theorem encK_inj {k l : Int × List Int} (hk : ∀ x ∈ k.2, 0 ≤ x ∧ x < 65536) (hl : ∀ x ∈ l.2, 0 ≤ x ∧ x < 65536) (e : encK k = encK l) : k = l := by
  unfold encK at e
  injection e with e1 e2
  injection e2 with e2 e3
  exact Prod.ext e1 (keyB_inj hk hl e2)
/-- The program's reading of one state. -/
theorem det_Classes_row (h : DOk 4000 mb d) {c : List Int} (hc : ClsOk d c) {t : Nat} (ht : t < d.2.2.1.length) {number : List (Int × List UInt8 × Unit)} {number_1 next' : List Int} {r6} :
    det_Classes_L10 d c t number number_1 next' r6 0 [] = if mhas number (encK (sigC d c t)) = true then det_Classes_J17 c t next' r6 (keyL (sigC d c t).2) number number_1
      else det_Classes_J17 c t next' r6 (keyL (sigC d c t).2) (mputK number (encK (sigC d c t))) (mputV number number_1 (encK (sigC d c t)) (number.length : Int)) := by
  have hrl := h.tab.rowlen (q := (t : Int)) (by omega) (by omega)
  have hlt := h.let1
  have hcl := hc.len
  have key : ∀ (n : Nat) (a : Int), ((ix d.2.2.1 (t : Int)).length - a).toNat = n → 0 ≤ a → a ≤ (ix d.2.2.1 (t : Int)).length →
      det_Classes_L10 d c t number number_1 next' r6 a (keyL ((sigC d c t).2.take a.toNat)) = det_Classes_L10 d c t number number_1 next' r6 (ix d.2.2.1 (t : Int)).length (keyL (sigC d c t).2) := by
    intro n
    induction n with
    | zero =>
      intro a hn a0 a1
      obtain rfl : a = (ix d.2.2.1 (t : Int)).length := by omega
      rw [List.take_of_length_le (by unfold sigC; rw [List.length_map]; omega)]
    | succ n ih =>
      intro a hn a0 a1
      have hst := h.tab.stpb (q := (t : Int)) (a := a) (by omega) (by omega) a0 (by omega)
      unfold stp at hst
      rw [← ih (a + 1) (by omega) (by omega) (by omega)]
      conv => lhs; rw [det_Classes_L10_eq]; unfold det_Classes_L10_B
      have hk := keyL_len ((sigC d c t).2.take a.toNat)
      rw [List.length_take] at hk
      have hsl := sigC_len h c (q := (t : Int)) (by omega) (by omega)
      rw [if_pos (by simp; omega)]
      refine G_to (by omega) (G_to (by omega) (G_to (by omega) (G_to (by omega) (G_to (by omega) (G_to (by omega) (G_to (by unfold room; simp; omega) (G_to (by unfold fits; omega) ?_)))))))
      congr 1
      rw [ix_take a0 (by omega), sigC_row h c (q := (t : Int)) (by omega) (by omega) a0 (by omega)]
      unfold keyL
      rw [List.flatMap_append]; rfl
  refine (key _ 0 rfl (by omega) (by omega)).trans ?_
  rw [det_Classes_L10_eq]; unfold det_Classes_L10_B
  rw [if_neg (by simp)]
  refine G_to (by omega) (G_to (by omega) ?_)
  rw [show (ix c (t : Int), bstr (keyL (sigC d c t).2), ()) = encK (sigC d c t) from rfl]
  by_cases c1 : mhas number (encK (sigC d c t)) = true
  · rw [if_neg (by simp [c1]), if_pos c1]
  · rw [if_pos (by simpa using c1), if_neg c1]
theorem det_Classes_pass (h : DOk 4000 mb d) {c : List Int} (hc : ClsOk d c) {count : Int} {r3} : ∀ (n t : Nat) (next' : List Int), d.2.2.1.length - t = n → t ≤ d.2.2.1.length → next'.length = d.2.2.1.length → (∀ j : Int, 0 ≤ j → j < t → ix next' j = ix (rfC d c) j) →
    det_Classes_L6 d count c r3 t ((ksC d c t).map encK) (iota (ksC d c t).length) next' = if ((ksC d c d.2.2.1.length).length : Int) = count then some (rfC d c) else r3 ((ksC d c d.2.2.1.length).length : Int) (rfC d c) := by
  have hn := h.n1
  intro n
  induction n with
  | zero =>
    intro t next' hn2 ht hl hj
    obtain rfl : t = d.2.2.1.length := by omega
    have : next' = rfC d c := ix_ext (by rw [rfC_len]; exact hl) fun j j0 j1 => hj j j0 (by omega)
    rw [det_Classes_L6_eq]; unfold det_Classes_L6_B
    rw [if_neg (by simp), List.length_map, this]
    by_cases e : ((ksC d c d.2.2.1.length).length : Int) = count
    · rw [if_pos (decide_eq_true e), if_pos e]
    · rw [if_neg (by simpa using e), if_neg e]
  | succ n ih =>
    intro t next' hn2 ht hl hj
    rw [det_Classes_L6_eq]; unfold det_Classes_L6_B
    rw [if_pos (by simp; omega)]
    refine G_to (by omega) ?_
    rw [det_Classes_row h hc (by omega)]
    have inj : ∀ y ∈ ksC d c t, encK y = encK (sigC d c t) → y = sigC d c t := fun y hy e => by
      obtain ⟨q, hq, rfl⟩ := ksC_of c t y hy
      exact encK_inj (sigC_b h hc (by omega) (by omega)) (sigC_b h hc (by omega) (by omega)) e
    have hmem : encK (sigC d c t) ∈ (ksC d c t).map encK ↔ sigC d c t ∈ ksC d c t := by
      rw [List.mem_map]
      exact ⟨fun ⟨y, hy, e⟩ => inj y hy e ▸ hy, fun hy => ⟨_, hy, rfl⟩⟩
    have hat := idxC_at (d := d) c t (t + 1) (by omega)
    have inj' : ∀ y ∈ ksC d c (t + 1), encK y = encK (sigC d c t) → y = sigC d c t := fun y hy e => by
      obtain ⟨q, hq, rfl⟩ := ksC_of c (t + 1) y hy
      exact encK_inj (sigC_b h hc (by omega) (by omega)) (sigC_b h hc (by omega) (by omega)) e
    have hget : mget ((ksC d c (t + 1)).map encK) (iota (ksC d c (t + 1)).length) (encK (sigC d c t)) 0 = idxC d c t := by
      have h1 : mfind ((ksC d c (t + 1)).map encK) (encK (sigC d c t)) = some (idxC d c t) := by rw [mfind_map encK inj', hat]
      have := mget_iota h1
      rwa [List.length_map] at this
    have fin : det_Classes_J17 c t next' (det_Classes_L6 d count c r3) (keyL (sigC d c t).2) ((ksC d c (t + 1)).map encK) (iota (ksC d c (t + 1)).length) = if ((ksC d c d.2.2.1.length).length : Int) = count then some (rfC d c) else r3 ((ksC d c d.2.2.1.length).length : Int) (rfC d c) := by
      unfold det_Classes_J17
      refine G_to (by omega) (G_to (by omega) (G_to (by unfold fits; omega) ?_))
      rw [show (ix c (t : Int), bstr (keyL (sigC d c t).2), ()) = encK (sigC d c t) from rfl, hget]
      refine ih (t + 1) _ (by omega) (by omega) (by rw [List.length_set]; exact hl) (fun j j0 j1 => ?_)
      by_cases e : j = t
      · subst e
        rw [ix_set_same j0 (by omega), rfC_ix c j0 (by omega)]; simp
      · rw [ix_set_ne (by omega) j0 (Ne.symm e)]; exact hj j j0 (by omega)
    by_cases e : sigC d c t ∈ ksC d c t
    · rw [if_pos (mhas_iff.2 (hmem.2 e))]
      rw [ksC_succ, if_pos e] at fin
      exact fin
    · have hne := fun hh => e (hmem.1 hh)
      rw [if_neg (fun hh => hne (mhas_iff.1 hh)), mputK_new hne]
      have hv := mputV_iota hne
      rw [List.length_map] at hv
      rw [List.length_map, hv]
      rw [ksC_succ, if_neg e] at fin
      rw [List.map_append] at fin
      rw [List.length_append, List.length_map]
      rw [List.length_append] at fin
      exact fin
/-- The second one's: is it alike? -/
theorem r3_Classes_L14_spec (h : DOk 4000 mb d) {c : List Int} (hc : ClsOk d c) {n q : Int} {next' first : List Int} {r7 k r10} (q0 : 0 ≤ q) (q1 : q < d.2.2.1.length) (p0 : 0 ≤ ix first k) (p1 : ix first k < d.2.2.1.length) (hk : 0 ≤ k ∧ k ≤ 100000) : ∀ (f : Nat) (same : Bool) (a : Int), (d.1 - a).toNat = f → 0 ≤ a → a ≤ d.1 →
    (same = true ↔ ix c (ix first k) = ix c q ∧ ∀ b : Int, 0 ≤ b → b < a → ix c (ix (ix d.2.2.1 (ix first k)) b) = ix c (ix (ix d.2.2.1 q) b)) ∨ (same = false ∧ sigC d c (ix first k) ≠ sigC d c q) →
    r3_Classes_L14 d c n q next' first r7 k r10 same a = if sigC d c (ix first k) = sigC d c q then r3_Classes_J18 n q next' first r7 k else r10 (k + 1) := by
  have hlt := h.let1
  have hcl := hc.len
  have bad : ∀ a : Int, a ≤ d.1 → sigC d c (ix first k) ≠ sigC d c q → r3_Classes_L14 d c n q next' first r7 k r10 false a = if sigC d c (ix first k) = sigC d c q then r3_Classes_J18 n q next' first r7 k else r10 (k + 1) := fun a _ hne => by
    rw [if_neg hne, r3_Classes_L14_eq]; unfold r3_Classes_L14_B r3_Classes_J15
    simp only [Bool.false_eq_true, if_false, ite_self]
    exact G_to (by unfold fits; omega) rfl
  intro f
  induction f with
  | zero =>
    intro same a hf a0 a1 hs
    obtain rfl : a = d.1 := by omega
    rcases hs with hs | ⟨rfl, hs⟩
    · rw [← sigC_eq h c p0 p1 q0 q1] at hs
      cases same with
      | false => exact bad _ (by omega) (fun e => by have := hs.2 e; cases this)
      | true =>
        rw [if_pos (hs.1 rfl), r3_Classes_L14_eq]; unfold r3_Classes_L14_B r3_Classes_J15
        rw [if_neg (by simp), if_pos rfl]
    · exact bad _ (by omega) hs
  | succ f ih =>
    intro same a hf a0 a1 hs
    rcases hs with hs | ⟨rfl, hs⟩
    · cases same with
      | false =>
        refine bad _ a1 (fun e => ?_)
        rw [sigC_eq h c p0 p1 q0 q1] at e
        have := hs.2 ⟨e.1, fun b b0 b1 => e.2 b b0 (by omega)⟩
        cases this
      | true =>
        have hp := h.tab.rowlen p0 p1
        have hq := h.tab.rowlen q0 q1
        have sp := h.tab.stpb p0 p1 a0 (by omega)
        have sq := h.tab.stpb q0 q1 a0 (by omega)
        unfold stp at sp sq
        rw [r3_Classes_L14_eq]; unfold r3_Classes_L14_B r3_Classes_J15
        rw [if_pos (by simp; omega), if_pos rfl]
        refine G_to (by omega) (G_to (by omega) (G_to (by omega) (G_to (by omega) (G_to (by omega) (G_to (by omega) (G_to (by omega) (G_to (by omega) (G_to (by unfold fits; omega) ?_))))))))
        refine ih _ (a + 1) (by omega) (by omega) (by omega) (.inl ?_)
        rw [decide_eq_true_iff]
        have hs' := hs.1 rfl
        constructor
        · intro e
          refine ⟨hs'.1, fun b b0 b1 => ?_⟩
          by_cases e2 : b = a
          · rw [e2]; exact e
          · exact hs'.2 b b0 (by omega)
        · intro e; exact e.2 a a0 (by omega)
    · exact bad _ a1 hs
theorem r3_Classes_search (h : DOk 4000 mb d) {c : List Int} (hc : ClsOk d c) {t : Nat} (ht : t < d.2.2.1.length) {next' first : List Int} {r7} (hl : next'.length = d.2.2.1.length) (hf : first.map (sigC d c) = ksC d c t) (hb : ∀ p : Int, p ∈ first → 0 ≤ p ∧ p < d.2.2.1.length) :
    ∃ first' : List Int, first'.map (sigC d c) = ksC d c (t + 1) ∧ (∀ p : Int, p ∈ first' → 0 ≤ p ∧ p < d.2.2.1.length) ∧ r3_Classes_L10 d c (first.length : Int) t next' first r7 0 = r7 (first'.length : Int) ((t : Int) + 1) (next'.set t (idxC d c t : Int)) first' := by
  have hn := h.n1
  have hfl : first.length = (ksC d c t).length := by rw [← hf, List.length_map]
  have hle := ksC_le (d := d) c t
  have hcl := hc.len
  have key : ∀ (f : Nat) (k : Int), (first.length - k).toNat = f → 0 ≤ k → k ≤ first.length → (∀ j : Int, 0 ≤ j → j < k → sigC d c (ix first j) ≠ sigC d c t) →
      ∃ first' : List Int, first'.map (sigC d c) = ksC d c (t + 1) ∧ (∀ p : Int, p ∈ first' → 0 ≤ p ∧ p < d.2.2.1.length) ∧ r3_Classes_L10 d c (first.length : Int) t next' first r7 k = r7 (first'.length : Int) ((t : Int) + 1) (next'.set t (idxC d c t : Int)) first' := by
    intro f
    induction f with
    | zero =>
      intro k hk k0 k1 hj
      obtain rfl : k = first.length := by omega
      have hnot : sigC d c t ∉ ksC d c t := fun hm => by
        rw [← hf] at hm
        obtain ⟨p, hp, e⟩ := List.mem_map.1 hm
        obtain ⟨j, j0, j1, rfl⟩ := (ex_ix (P := fun x => x = p)).1 ⟨p, hp, rfl⟩
        exact hj j j0 j1 e
      have hidx : idxC d c t = first.length := by
        have h1 := idxC_at (d := d) c t (t + 1) (by omega)
        rw [ksC_succ, if_neg hnot, mfind_new hnot] at h1
        rw [hfl]; exact (Option.some.inj h1).symm
      refine ⟨first ++ [(t : Int)], by rw [List.map_append, hf, ksC_succ, if_neg hnot]; rfl, fun p hp => (List.mem_append.1 hp).elim (hb p) (fun e => by rw [List.mem_singleton.1 e]; omega), ?_⟩
      rw [r3_Classes_L10_eq]; unfold r3_Classes_L10_B r3_Classes_J18 r3_Classes_J21
      rw [if_neg (by simp), if_pos (by simp), hidx]
      refine G_to (by unfold room; simp; omega) (G_to (by unfold fits; omega) (G_to (by omega) (G_to (by omega) (G_to (by unfold fits; omega) ?_))))
      rw [List.length_append, List.length_singleton]; rfl
    | succ f ih =>
      intro k hk k0 k1 hj
      have hp := hb _ (ix_mem k0 (by omega : k < first.length))
      rw [r3_Classes_L10_eq]; unfold r3_Classes_L10_B
      rw [if_pos (by simp; omega)]
      have hL := r3_Classes_L14_spec (n := (first.length : Int)) (next' := next') (first := first) (r7 := r7) (k := k) (r10 := r3_Classes_L10 d c (first.length : Int) t next' first r7) h hc (q := (t : Int)) (by omega) (by omega) hp.1 hp.2 (by omega) _ (decide (ix c (ix first k) = ix c (t : Int))) 0 rfl (by omega) (by have := h.let1; omega) (.inl (by
        rw [decide_eq_true_iff]
        exact ⟨fun e => ⟨e, fun b b0 b1 => by omega⟩, fun e => e.1⟩))
      have hG : ∀ x : Option (List Int), G (0 ≤ k ∧ k < (first.length : Int)) (G (k.toNat < first.length) (G (0 ≤ ix first k ∧ ix first k < (c.length : Int)) (G ((ix first k).toNat < c.length) (G (0 ≤ (t : Int) ∧ (t : Int) < (c.length : Int)) (G (((t : Int)).toNat < c.length) x))))) = x := fun x =>
        G_to (by omega) (G_to (by omega) (G_to (by omega) (G_to (by omega) (G_to (by omega) (G_to (by omega) rfl)))))
      rw [hG, hL]
      by_cases e : sigC d c (ix first k) = sigC d c t
      · rw [if_pos e]
        have hget : (ksC d c t)[k.toNat]? = some (sigC d c t) := by
          rw [← hf, List.getElem?_map, ix_some k0 (by omega), Option.map_some, e]
        have hin : sigC d c t ∈ ksC d c t := List.mem_of_getElem? hget
        have hidx : (idxC d c t : Int) = k := by
          have h1 := idxC_at (d := d) c t (t + 1) (by omega)
          rw [ksC_succ, if_pos hin, mfind_at hget (fun j hj2 e2 => by
            have h3 := hj (j : Int) (by omega) (by omega)
            rw [← hf, List.getElem?_map, ← Int.toNat_natCast j, ix_some (by omega) (by omega), Option.map_some] at e2
            exact h3 (Option.some.inj e2))] at h1
          have := Option.some.inj h1
          omega
        refine ⟨first, by rw [hf, ksC_succ, if_pos hin], hb, ?_⟩
        unfold r3_Classes_J18 r3_Classes_J21
        rw [if_neg (by simp; omega), hidx]
        exact G_to (by omega) (G_to (by omega) (G_to (by unfold fits; omega) rfl))
      · rw [if_neg e]
        refine ih (k + 1) (by omega) (by omega) (by omega) (fun j j0 j1 => ?_)
        by_cases e2 : j = k
        · rw [e2]; exact e
        · exact hj j j0 (by omega)
  exact key _ 0 rfl (by omega) (by omega) (fun j j0 j1 => by omega)
theorem r3_Classes_pass (h : DOk 4000 mb d) {c : List Int} (hc : ClsOk d c) {count : Int} {r3} : ∀ (n t : Nat) (next' first : List Int), d.2.2.1.length - t = n → t ≤ d.2.2.1.length → next'.length = d.2.2.1.length → (∀ j : Int, 0 ≤ j → j < t → ix next' j = ix (rfC d c) j) → first.map (sigC d c) = ksC d c t → (∀ p : Int, p ∈ first → 0 ≤ p ∧ p < d.2.2.1.length) →
    r3_Classes_L7 d count c r3 (first.length : Int) t next' first = if ((ksC d c d.2.2.1.length).length : Int) = count then some (rfC d c) else r3 ((ksC d c d.2.2.1.length).length : Int) (rfC d c) := by
  have hn := h.n1
  have hcl := hc.len
  intro n
  induction n with
  | zero =>
    intro t next' first hn2 ht hl hj hf hb
    obtain rfl : t = d.2.2.1.length := by omega
    have : next' = rfC d c := ix_ext (by rw [rfC_len]; exact hl) fun j j0 j1 => hj j j0 (by omega)
    have hfl : first.length = (ksC d c d.2.2.1.length).length := by rw [← hf, List.length_map]
    rw [r3_Classes_L7_eq]; unfold r3_Classes_L7_B
    rw [if_neg (by simp; omega), this, hfl]
    by_cases e : ((ksC d c d.2.2.1.length).length : Int) = count
    · rw [if_pos (decide_eq_true e), if_pos e]
    · rw [if_neg (by simpa using e), if_neg e]
  | succ n ih =>
    intro t next' first hn2 ht hl hj hf hb
    rw [r3_Classes_L7_eq]; unfold r3_Classes_L7_B
    rw [if_pos (by simp; omega)]
    obtain ⟨first', f1, f2, f3⟩ := r3_Classes_search (r7 := r3_Classes_L7 d count c r3) h hc (by omega : t < d.2.2.1.length) hl hf hb
    refine f3.trans ?_
    refine ih (t + 1) _ first' (by omega) (by omega) (by rw [List.length_set]; exact hl) (fun j j0 j1 => ?_) f1 f2
    by_cases e : j = t
    · subst e
      have := ix_set_same (l := next') (i := (t : Int)) (x := (idxC d c t : Int)) (by omega) (by omega)
      rw [Int.toNat_natCast] at this
      rw [this, rfC_ix c j0 (by omega), Int.toNat_natCast]
    · have := ix_set_ne (l := next') (i := (t : Int)) (j := j) (x := (idxC d c t : Int)) (by omega) j0 (Ne.symm e)
      rw [Int.toNat_natCast] at this
      rw [this]; exact hj j j0 (by omega)
end

section
variable {d : Dt}
abbrev badD (m : Int) : Prop := ¬ m = 0 ∧ ¬ m = 1
/-- No word tells two states apart. -/
def LEq (d : Dt) (q : Int) (e : Dt) (r : Int) : Prop := ∀ w : List Int, (∀ a ∈ w, 0 ≤ a ∧ a < d.1) → ix d.2.2.2.1 (wlk d.2.2.1 q w) = ix e.2.2.2.1 (wlk e.2.2.1 r w)
theorem LEq.step {d e : Dt} {q r : Int} (h : LEq d q e r) {a : Int} (a0 : 0 ≤ a) (a1 : a < d.1) : LEq d (ix (ix d.2.2.1 q) a) e (ix (ix e.2.2.1 r) a) := fun w hw => h (a :: w) (fun b hb => (List.mem_cons.1 hb).elim (fun e => by rw [e]; exact ⟨a0, a1⟩) (hw b))
/-- The classes in the end. -/
structure FinC (d : Dt) (C : List Int) (K : Nat) : Prop where
  len : C.length = d.2.2.1.length
  le : K ≤ d.2.2.1.length
  b : ∀ q : Int, 0 ≤ q → q < d.2.2.1.length → 0 ≤ ix C q ∧ ix C q < K
  sur : ∀ v : Int, 0 ≤ v → v < K → ∃ q : Int, 0 ≤ q ∧ q < d.2.2.1.length ∧ ix C q = v
  mark : ∀ q r : Int, 0 ≤ q → q < d.2.2.1.length → 0 ≤ r → r < d.2.2.1.length → ix C q = ix C r → ix d.2.2.2.1 q = ix d.2.2.2.1 r
  stable : ∀ q r : Int, 0 ≤ q → q < d.2.2.1.length → 0 ≤ r → r < d.2.2.1.length → ix C q = ix C r → ∀ a : Int, 0 ≤ a → a < d.1 → ix C (ix (ix d.2.2.1 q) a) = ix C (ix (ix d.2.2.1 r) a)
  coarse : ∀ q r : Int, 0 ≤ q → q < d.2.2.1.length → 0 ≤ r → r < d.2.2.1.length → LEq d q d r → ix C q = ix C r
theorem rfC_same {c : List Int} {q r : Int} (q0 : 0 ≤ q) (q1 : q < d.2.2.1.length) (r0 : 0 ≤ r) (r1 : r < d.2.2.1.length) : ix (rfC d c) q = ix (rfC d c) r ↔ sigC d c q = sigC d c r := by
  rw [rfC_ix c q0 q1, rfC_ix c r0 r1]
  have := idxC_iff (d := d) c (q := q.toNat) (r := r.toNat)
  rw [Int.toNat_of_nonneg q0, Int.toNat_of_nonneg r0] at this
  rw [← this]
  exact ⟨fun e => by exact_mod_cast e, fun e => by rw [e]⟩
theorem iota_mem {n : Nat} {v : Int} : v ∈ iota n ↔ 0 ≤ v ∧ v < n := by
  unfold iota
  rw [List.mem_map]
  constructor
  · rintro ⟨j, hj, rfl⟩; have := List.mem_range.1 hj; omega
  · rintro ⟨h0, h1⟩; exact ⟨v.toNat, List.mem_range.2 (by omega), by omega⟩
theorem iota_nodup (n : Nat) : (iota n).Nodup := by
  unfold iota
  refine List.Pairwise.map _ (fun a b (h : a ≠ b) => by omega) (List.nodup_range (n := n))
theorem classes_iter (h : DOk 4000 badD d) : ∀ (f k : Nat) (c : List Int), d.2.2.1.length - k = f → ClsOk d c →
    (∀ q r : Int, 0 ≤ q → q < d.2.2.1.length → 0 ≤ r → r < d.2.2.1.length → ix c q = ix c r → ix d.2.2.2.1 q = ix d.2.2.2.1 r) → (∀ v : Int, 0 ≤ v → v < k → ∃ q : Int, 0 ≤ q ∧ q < d.2.2.1.length ∧ ix c q = v) → (∀ q r : Int, 0 ≤ q → q < d.2.2.1.length → 0 ≤ r → r < d.2.2.1.length → LEq d q d r → ix c q = ix c r) →
    ∃ C K, FinC d C K ∧ det_Classes_L3 d (k : Int) c = some C ∧ r3_Classes_L3 d (k : Int) c = some C := by
  have hn := h.n1
  intro f
  induction f using Nat.strongRecOn with
  | ind f ih =>
  intro k c hf hc hm hs hco
  have hcl := hc.len
  have hK := ksC_le (d := d) c d.2.2.1.length
  have hcov : ∀ x ∈ iota k, x ∈ (ksC d c d.2.2.1.length).map Prod.fst := fun x hx => by
    obtain ⟨x0, x1⟩ := iota_mem.1 hx
    obtain ⟨q, q0, q1, e⟩ := hs x x0 x1
    have := ksC_mem (d := d) c d.2.2.1.length q.toNat (by omega)
    rw [Int.toNat_of_nonneg q0] at this
    exact List.mem_map.2 ⟨_, this, e⟩
  have hge : k ≤ (ksC d c d.2.2.1.length).length := by
    have := pigeon (iota_nodup k) hcov
    rwa [iota_len, List.length_map] at this
  have hpos : 0 < (ksC d c d.2.2.1.length).length := List.length_pos_of_mem (ksC_mem (d := d) c d.2.2.1.length 0 (by omega))
  have eP : det_Classes_L3 d (k : Int) c = if ((ksC d c d.2.2.1.length).length : Int) = k then some (rfC d c) else det_Classes_L3 d ((ksC d c d.2.2.1.length).length : Int) (rfC d c) := by
    conv => lhs; rw [det_Classes_L3_eq]; unfold det_Classes_L3_B
    refine G_to (by unfold mkOK; omega) ?_
    exact det_Classes_pass h hc _ 0 _ rfl (by omega) (by simp; omega) (fun j j0 j1 => by omega)
  have eR : r3_Classes_L3 d (k : Int) c = if ((ksC d c d.2.2.1.length).length : Int) = k then some (rfC d c) else r3_Classes_L3 d ((ksC d c d.2.2.1.length).length : Int) (rfC d c) := by
    conv => lhs; rw [r3_Classes_L3_eq]; unfold r3_Classes_L3_B
    refine G_to (by unfold mkOK; omega) ?_
    exact r3_Classes_pass h hc _ 0 _ [] rfl (by omega) (by simp; omega) (fun j j0 j1 => by omega) rfl (fun p hp => by cases hp)
  have b' : ∀ q : Int, 0 ≤ q → q < d.2.2.1.length → 0 ≤ ix (rfC d c) q ∧ ix (rfC d c) q < (ksC d c d.2.2.1.length).length := fun q q0 q1 => by
    rw [rfC_ix c q0 q1]
    have := idxC_lt (d := d) c (q := q.toNat) (t := d.2.2.1.length) (by omega)
    omega
  have sur' : ∀ v : Int, 0 ≤ v → v < (ksC d c d.2.2.1.length).length → ∃ q : Int, 0 ≤ q ∧ q < d.2.2.1.length ∧ ix (rfC d c) q = v := fun v v0 v1 => by
    obtain ⟨q, hq, e⟩ := idxC_sur (d := d) c (t := d.2.2.1.length) (j := v.toNat) (by omega)
    refine ⟨q, by omega, by omega, ?_⟩
    rw [rfC_ix c (by omega) (by omega), Int.toNat_natCast, e]; omega
  have m' : ∀ q r : Int, 0 ≤ q → q < d.2.2.1.length → 0 ≤ r → r < d.2.2.1.length → ix (rfC d c) q = ix (rfC d c) r → ix d.2.2.2.1 q = ix d.2.2.2.1 r := fun q r q0 q1 r0 r1 e =>
    hm q r q0 q1 r0 r1 (congrArg Prod.fst ((rfC_same q0 q1 r0 r1).1 e))
  have co' : ∀ q r : Int, 0 ≤ q → q < d.2.2.1.length → 0 ≤ r → r < d.2.2.1.length → LEq d q d r → ix (rfC d c) q = ix (rfC d c) r := fun q r q0 q1 r0 r1 hq => by
    refine (rfC_same q0 q1 r0 r1).2 ((sigC_eq h c q0 q1 r0 r1).2 ⟨hco q r q0 q1 r0 r1 hq, fun a a0 a1 => ?_⟩)
    have sq := h.tab.stpb q0 q1 a0 a1
    have sr := h.tab.stpb r0 r1 a0 a1
    exact hco _ _ sq.1 sq.2 sr.1 sr.2 (hq.step a0 a1)
  by_cases e : ((ksC d c d.2.2.1.length).length : Int) = k
  · rw [if_pos e] at eP eR
    refine ⟨rfC d c, _, ⟨rfC_len c, hK, b', sur', m', fun q r q0 q1 r0 r1 he a a0 a1 => ?_, co'⟩, eP, eR⟩
    have hnd : ((ksC d c d.2.2.1.length).map Prod.fst).Nodup := cover_nodup (iota_nodup k) hcov (by rw [List.length_map, iota_len]; omega)
    have tot : ∀ x y : Int, 0 ≤ x → x < d.2.2.1.length → 0 ≤ y → y < d.2.2.1.length → ix c x = ix c y → ix (rfC d c) x = ix (rfC d c) y := fun x y x0 x1 y0 y1 exy => by
      rw [rfC_same x0 x1 y0 y1]
      have hx := ksC_mem (d := d) c d.2.2.1.length x.toNat (by omega)
      have hy := ksC_mem (d := d) c d.2.2.1.length y.toNat (by omega)
      rw [Int.toNat_of_nonneg x0] at hx
      rw [Int.toNat_of_nonneg y0] at hy
      obtain ⟨i, hi, ei⟩ := List.mem_iff_getElem.1 hx
      obtain ⟨j, hj, ej⟩ := List.mem_iff_getElem.1 hy
      have key : ∀ i j : Nat, (hi : i < (ksC d c d.2.2.1.length).length) → (hj : j < (ksC d c d.2.2.1.length).length) → i < j → (ksC d c d.2.2.1.length)[i].1 ≠ (ksC d c d.2.2.1.length)[j].1 := fun i j hi hj hlt hh => by
        have := List.pairwise_iff_getElem.1 hnd i j (by rw [List.length_map]; exact hi) (by rw [List.length_map]; exact hj) hlt
        rw [List.getElem_map, List.getElem_map] at this
        exact this hh
      have hfst : (ksC d c d.2.2.1.length)[i].1 = (ksC d c d.2.2.1.length)[j].1 := by rw [ei, ej]; exact exy
      have : i = j := by
        rcases Nat.lt_trichotomy i j with hlt | rfl | hlt
        · exact absurd hfst (key i j hi hj hlt)
        · rfl
        · exact absurd hfst.symm (key j i hj hi hlt)
      subst this
      rw [← ei, ej]
    have hsig := (sigC_eq h c q0 q1 r0 r1).1 ((rfC_same q0 q1 r0 r1).1 he)
    have sq := h.tab.stpb q0 q1 a0 a1
    have sr := h.tab.stpb r0 r1 a0 a1
    unfold stp at sq sr
    exact tot _ _ sq.1 sq.2 sr.1 sr.2 (hsig.2 a a0 a1)
  · rw [if_neg e] at eP eR
    rw [eP, eR]
    have hlt : k < (ksC d c d.2.2.1.length).length := by omega
    exact ih (d.2.2.1.length - (ksC d c d.2.2.1.length).length) (by omega) _ (rfC d c) rfl ⟨rfC_len c, fun q q0 q1 => by
      rw [rfC_len] at q1
      have := b' q q0 q1
      omega⟩ m' sur' co'
theorem classes_both (h : DOk 4000 badD d) : ∃ C K, FinC d C K ∧ det_Classes d = some C ∧ r3_Classes d = some C := by
  have hn := h.n1
  have hmk := h.mkl
  have hc : ClsOk d d.2.2.2.1 := ⟨by omega, fun q q0 q1 => by
    have := h.mok _ (ix_mem q0 q1)
    omega⟩
  obtain ⟨C, K, h1, h2, h3⟩ := classes_iter h _ 0 d.2.2.2.1 rfl hc (fun q r _ _ _ _ e => e) (fun v v0 v1 => by omega) (fun q r _ _ _ _ e => e [] (fun a ha => by cases ha))
  refine ⟨C, K, h1, ?_, ?_⟩
  · unfold det_Classes
    exact bind_to (slices_Clone_spec (by omega)) h2
  · unfold r3_Classes
    exact G_to (by unfold room; simp; omega) h3
end

/-- Going by keys: the keys met, and a row, after so many letters. -/
noncomputable def xRow {α : Type} (nx : α → Int → α) (s : α) (l : List α) : Nat → List α × List Int
  | 0 => (l, [])
  | t + 1 => match mfind (xRow nx s l t).1 (nx s (t : Int)) with
    | some j => ((xRow nx s l t).1, (xRow nx s l t).2 ++ [(j : Int)])
    | none => ((xRow nx s l t).1 ++ [nx s (t : Int)], (xRow nx s l t).2 ++ [((xRow nx s l t).1.length : Int)])
/-- .. after so many keys. -/
noncomputable def xSt {α : Type} [Inhabited α] (nx : α → Int → α) (mk : α → Int) (L : Nat) (first : α) : Nat → List α × List (List Int) × List Int
  | 0 => ([first], [], [])
  | i + 1 => ((xRow nx (ix (xSt nx mk L first i).1 (i : Int)) (xSt nx mk L first i).1 L).1, (xSt nx mk L first i).2.1 ++ [(xRow nx (ix (xSt nx mk L first i).1 (i : Int)) (xSt nx mk L first i).1 L).2], (xSt nx mk L first i).2.2 ++ [mk (ix (xSt nx mk L first i).1 (i : Int))])
theorem xRow_some {α : Type} {nx : α → Int → α} {s : α} {l : List α} {t j : Nat} (h : mfind (xRow nx s l t).1 (nx s (t : Int)) = some j) : xRow nx s l (t + 1) = ((xRow nx s l t).1, (xRow nx s l t).2 ++ [(j : Int)]) := by
  rw [xRow, h]
theorem xRow_none {α : Type} {nx : α → Int → α} {s : α} {l : List α} {t : Nat} (h : mfind (xRow nx s l t).1 (nx s (t : Int)) = none) : xRow nx s l (t + 1) = ((xRow nx s l t).1 ++ [nx s (t : Int)], (xRow nx s l t).2 ++ [((xRow nx s l t).1.length : Int)]) := by
  rw [xRow, h]
section
variable {α : Type} [Inhabited α] {nx : α → Int → α} {mk : α → Int} {L : Nat} {first : α} {B : Nat} {P : α → Prop}
/-- Keys are small numbers of a kind. -/
structure XOk {α : Type} (nx : α → Int → α) (mk : α → Int) (L : Nat) (first : α) (B : Nat) (P : α → Prop) : Prop where
  b : ∀ l : List α, l.Nodup → (∀ x ∈ l, P x) → l.length ≤ B
  f : P first
  n : ∀ s, P s → ∀ t : Int, 0 ≤ t → t < L → P (nx s t)
  m : ∀ s, P s → mk s = 0 ∨ mk s = 1
theorem XOk.int {nx : Int → Int → Int} {mk : Int → Int} {L : Nat} {first : Int} {B : Nat} {P : Int → Prop} (b : ∀ s, P s → 0 ≤ s ∧ s < B) (f : P first) (n : ∀ s, P s → ∀ t : Int, 0 ≤ t → t < L → P (nx s t)) (m : ∀ s, P s → mk s = 0 ∨ mk s = 1) : XOk nx mk L first B P :=
  ⟨fun l hn hp => pigeon_int hn (fun x hx => b x (hp x hx)), f, n, m⟩
structure LiOk {α : Type} (B : Nat) (P : α → Prop) (l : List α) : Prop where
  nd : l.Nodup
  p : ∀ x ∈ l, P x
theorem LiOk.len (h : XOk nx mk L first B P) {l : List α} (k : LiOk B P l) : l.length ≤ B := h.b l k.nd k.p
structure XR {α : Type} [Inhabited α] (nx : α → Int → α) (s : α) (l : List α) (t : Nat) (r : List α × List Int) : Prop where
  pre : ∃ x, r.1 = l ++ x
  len : r.2.length = t
  to : ∀ a : Int, 0 ≤ a → a < t → 0 ≤ ix r.2 a ∧ ix r.2 a < r.1.length ∧ ix r.1 (ix r.2 a) = nx s a
theorem mfind_ix {l : List α} {x : α} {j : Nat} (h : mfind l x = some j) : (j : Int) < l.length ∧ ix l (j : Int) = x := by
  have h1 := mfind_lt h
  have h2 := mfind_get h
  refine ⟨by omega, ?_⟩
  rw [List.getElem?_eq_getElem h1] at h2
  rw [ix_eq (l := l) (by omega) (by omega)]
  simpa using h2
theorem xRow_ok (h : XOk nx mk L first B P) {s : α} (hs : P s) {l : List α} (hl : LiOk B P l) : ∀ t : Nat, t ≤ L → LiOk B P (xRow nx s l t).1 ∧ XR nx s l t (xRow nx s l t)
  | 0, _ => ⟨hl, ⟨[], by simp [xRow]⟩, rfl, fun a a0 a1 => by omega⟩
  | t + 1, ht => by
    obtain ⟨h1, ⟨⟨x, hx⟩, h2, h3⟩⟩ := xRow_ok h hs hl t (by omega)
    have hp := h.n s hs (t : Int) (by omega) (by omega)
    unfold xRow
    cases e : mfind (xRow nx s l t).1 (nx s (t : Int)) with
    | some j =>
      obtain ⟨j1, j2⟩ := mfind_ix e
      refine ⟨h1, ⟨⟨x, hx⟩, by simp [h2], fun a a0 a1 => ?_⟩⟩
      show 0 ≤ ix ((xRow nx s l t).2 ++ [(j : Int)]) a ∧ _
      by_cases c : a < t
      · rw [ix_append_left a0 (by omega)]; exact h3 a a0 c
      · obtain rfl : a = ((xRow nx s l t).2.length : Int) := by omega
        rw [ix_append_last]
        refine ⟨by omega, j1, ?_⟩
        show ix (xRow nx s l t).1 (j : Int) = _
        rw [j2, h2]
    | none =>
      have hn := mfind_none.1 e
      refine ⟨⟨?_, fun y hy => (List.mem_append.1 hy).elim (h1.p y) (fun e2 => by rw [List.mem_singleton.1 e2]; exact hp)⟩, ⟨⟨x ++ [nx s (t : Int)], by show (xRow nx s l t).1 ++ _ = _; rw [hx, List.append_assoc]⟩, by simp [h2], fun a a0 a1 => ?_⟩⟩
      · show ((xRow nx s l t).1 ++ [nx s (t : Int)]).Nodup
        rw [List.nodup_append]
        exact ⟨h1.nd, by simp, fun u hu v hv => by rw [List.mem_singleton.1 hv]; rintro rfl; exact hn hu⟩
      · show 0 ≤ ix ((xRow nx s l t).2 ++ [((xRow nx s l t).1.length : Int)]) a ∧ ix ((xRow nx s l t).2 ++ [((xRow nx s l t).1.length : Int)]) a < (((xRow nx s l t).1 ++ [nx s (t : Int)]).length : Int) ∧ ix ((xRow nx s l t).1 ++ [nx s (t : Int)]) (ix ((xRow nx s l t).2 ++ [((xRow nx s l t).1.length : Int)]) a) = nx s a
        rw [List.length_append, List.length_singleton]
        by_cases c : a < t
        · obtain ⟨g1, g2, g3⟩ := h3 a a0 c
          rw [ix_append_left a0 (by omega), ix_append_left g1 g2]
          exact ⟨g1, by omega, g3⟩
        · obtain rfl : a = ((xRow nx s l t).2.length : Int) := by omega
          rw [ix_append_last, ix_append_last, h2]
          exact ⟨by omega, by omega, rfl⟩
structure XS {α : Type} [Inhabited α] (nx : α → Int → α) (mk : α → Int) (L : Nat) (first : α) (i : Nat) (x : List α × List (List Int) × List Int) : Prop where
  z : ix x.1 0 = first
  r : x.2.1.length = i
  m : x.2.2.length = i
  row : ∀ k : Int, 0 ≤ k → k < i → (ix x.2.1 k).length = L ∧ ∀ a : Int, 0 ≤ a → a < L → 0 ≤ ix (ix x.2.1 k) a ∧ ix (ix x.2.1 k) a < x.1.length ∧ ix x.1 (ix (ix x.2.1 k) a) = nx (ix x.1 k) a
  mark : ∀ k : Int, 0 ≤ k → k < i → ix x.2.2 k = mk (ix x.1 k)
/-- It goes on until i. -/
def XGo {α : Type} [Inhabited α] (nx : α → Int → α) (mk : α → Int) (L : Nat) (first : α) (i : Nat) : Prop := ∀ k < i, k < (xSt nx mk L first k).1.length
theorem xSt_ok (h : XOk nx mk L first B P) : ∀ i : Nat, XGo nx mk L first i → LiOk B P (xSt nx mk L first i).1 ∧ i ≤ (xSt nx mk L first i).1.length ∧ XS nx mk L first i (xSt nx mk L first i)
  | 0, _ => ⟨⟨by simp [xSt], fun x hx => by
      have : x = first := by simpa [xSt] using hx
      rw [this]; exact h.f⟩, by omega, rfl, rfl, rfl, fun k k0 k1 => by omega, fun k k0 k1 => by omega⟩
  | i + 1, hg => by
    obtain ⟨h1, h2, h3⟩ := xSt_ok h i (fun k hk => hg k (by omega))
    have hi := hg i (by omega)
    have hP := h1.p _ (ix_mem (by omega) (by omega : (i : Int) < (xSt nx mk L first i).1.length))
    obtain ⟨g1, ⟨⟨x, hx⟩, g2, g3⟩⟩ := xRow_ok h hP h1 L (Nat.le_refl _)
    unfold xSt
    generalize hX : xSt nx mk L first i = X at *
    generalize hR : xRow nx (ix X.1 (i : Int)) X.1 L = R at *
    have pre : ∀ k : Int, 0 ≤ k → k < X.1.length → ix R.1 k = ix X.1 k := fun k k0 k1 => by rw [hx, ix_append_left k0 k1]
    have lenR : X.1.length ≤ R.1.length := by rw [hx, List.length_append]; omega
    refine ⟨g1, by show i + 1 ≤ R.1.length; omega, ?_, by simp [h3.r], by simp [h3.m], fun k k0 k1 => ?_, fun k k0 k1 => ?_⟩
    · show ix R.1 0 = first
      rw [pre 0 (by omega) (by omega)]; exact h3.z
    · show (ix (X.2.1 ++ [R.2]) k).length = L ∧ ∀ a : Int, 0 ≤ a → a < L → 0 ≤ ix (ix (X.2.1 ++ [R.2]) k) a ∧ ix (ix (X.2.1 ++ [R.2]) k) a < R.1.length ∧ ix R.1 (ix (ix (X.2.1 ++ [R.2]) k) a) = nx (ix R.1 k) a
      have hr := h3.r
      by_cases c : k < i
      · obtain ⟨r1, r2⟩ := h3.row k k0 c
        rw [ix_append_left k0 (by omega), pre k k0 (by omega)]
        refine ⟨r1, fun a a0 a1 => ?_⟩
        obtain ⟨s1, s2, s3⟩ := r2 a a0 a1
        rw [pre _ s1 s2]
        exact ⟨s1, by omega, s3⟩
      · have hk : k = (X.2.1.length : Int) := by omega
        rw [hk, ix_append_last, hr, pre (i : Int) (by omega) (by omega)]
        exact ⟨g2, fun a a0 a1 => g3 a a0 a1⟩
    · show ix (X.2.2 ++ [mk (ix X.1 (i : Int))]) k = mk (ix R.1 k)
      have hm := h3.m
      rw [pre k k0 (by omega)]
      by_cases c : k < i
      · rw [ix_append_left k0 (by omega)]; exact h3.mark k k0 c
      · have hk : k = (X.2.2.length : Int) := by omega
        rw [hk, ix_append_last, hm]
theorem xSt_stops (h : XOk nx mk L first B P) : ∃ n, n ≤ B ∧ XGo nx mk L first n ∧ (xSt nx mk L first n).1.length = n := by
  have key : ∀ f i : Nat, B - i = f → XGo nx mk L first i → ∃ n, n ≤ B ∧ XGo nx mk L first n ∧ (xSt nx mk L first n).1.length = n := by
    intro f
    induction f with
    | zero =>
      intro i hf hg
      obtain ⟨h1, h2, _⟩ := xSt_ok h i hg
      have := h1.len h
      exact ⟨i, by omega, hg, by omega⟩
    | succ f ih =>
      intro i hf hg
      obtain ⟨h1, h2, _⟩ := xSt_ok h i hg
      have := h1.len h
      by_cases c : (xSt nx mk L first i).1.length = i
      · exact ⟨i, by omega, hg, c⟩
      · refine ih (i + 1) (by omega) (fun k hk => ?_)
        by_cases e : k = i
        · subst e; omega
        · exact hg k (by omega)
  exact key _ 0 rfl (fun k hk => by omega)
/-- The automaton that comes of it. -/
noncomputable def xAut {α : Type} [Inhabited α] (nx : α → Int → α) (mk : α → Int) (L : Nat) (first : α) (n : Nat) : Dt := ((L : Int), 0, (xSt nx mk L first n).2.1, (xSt nx mk L first n).2.2, ())
theorem xAut_ok (h : XOk nx mk L first B P) (hL : 1 ≤ L ∧ L ≤ 4) (hB : B ≤ 4000) {n : Nat} (hg : XGo nx mk L first n) (hn : (xSt nx mk L first n).1.length = n) : DOk 4000 badD (xAut nx mk L first n) := by
  obtain ⟨h1, h2, h3⟩ := xSt_ok h n hg
  have hb := h1.len h
  have hr := h3.r
  have hm := h3.m
  have hpos : 0 < n := by
    refine Nat.pos_of_ne_zero fun e => ?_
    subst e
    simp [xSt] at hn
  refine ⟨by show 1 ≤ (L : Int) ∧ (L : Int) ≤ 4; omega, ?_, ?_, ?_, fun s hs => ?_, ⟨fun r hr2 => ?_, fun r hr2 q hq => ?_⟩⟩
  · show 1 ≤ (xSt nx mk L first n).2.1.length ∧ ((xSt nx mk L first n).2.1.length : Int) ≤ 4000
    omega
  · show (0 : Int) ≤ 0 ∧ (0 : Int) < ((xSt nx mk L first n).2.1.length : Int)
    omega
  · show ((xSt nx mk L first n).2.2.length : Int) = ((xSt nx mk L first n).2.1.length : Int)
    omega
  · obtain ⟨k, k0, k1, rfl⟩ := (ex_ix (P := fun x => x = s)).1 ⟨s, hs, rfl⟩
    have hk : k < n := by
      have : k < ((xSt nx mk L first n).2.2.length : Int) := k1
      omega
    have e : ix (xAut nx mk L first n).2.2.2.1 k = mk (ix (xSt nx mk L first n).1 k) := h3.mark k k0 hk
    rw [e]
    have := h.m _ (h1.p _ (ix_mem k0 (by omega)))
    omega
  · obtain ⟨k, k0, k1, rfl⟩ := (ex_ix (P := fun x => x = r)).1 ⟨r, hr2, rfl⟩
    have hk : k < n := by
      have : k < ((xSt nx mk L first n).2.1.length : Int) := k1
      omega
    have := (h3.row k k0 hk).1
    show ((ix (xSt nx mk L first n).2.1 k).length : Int) = (L : Int)
    omega
  · obtain ⟨k, k0, k1, rfl⟩ := (ex_ix (P := fun x => x = r)).1 ⟨r, hr2, rfl⟩
    have hk : k < n := by
      have : k < ((xSt nx mk L first n).2.1.length : Int) := k1
      omega
    obtain ⟨r1, r2⟩ := h3.row k k0 hk
    obtain ⟨a, a0, a1, rfl⟩ := (ex_ix (P := fun x => x = q)).1 ⟨q, hq, rfl⟩
    have ha : a < (L : Int) := by
      have : a < ((ix (xSt nx mk L first n).2.1 k).length : Int) := a1
      omega
    obtain ⟨s1, s2, s3⟩ := r2 a a0 ha
    show 0 ≤ ix (ix (xSt nx mk L first n).2.1 k) a ∧ ix (ix (xSt nx mk L first n).2.1 k) a < ((xSt nx mk L first n).2.1.length : Int)
    omega
/-- A walk in it is a walk by keys. -/
theorem xAut_walk (h : XOk nx mk L first B P) {n : Nat} (hg : XGo nx mk L first n) (hn : (xSt nx mk L first n).1.length = n) : ∀ (w : List Int) (q : Int), 0 ≤ q → q < n → (∀ a ∈ w, 0 ≤ a ∧ a < (L : Int)) →
    0 ≤ wlk (xAut nx mk L first n).2.2.1 q w ∧ wlk (xAut nx mk L first n).2.2.1 q w < n ∧ ix (xSt nx mk L first n).1 (wlk (xAut nx mk L first n).2.2.1 q w) = w.foldl nx (ix (xSt nx mk L first n).1 q)
  | [], q, q0, q1, _ => ⟨q0, q1, rfl⟩
  | a :: w, q, q0, q1, hw => by
    obtain ⟨_, _, h3⟩ := xSt_ok h n hg
    have ha := hw a (by simp)
    obtain ⟨s1, s2, s3⟩ := (h3.row q q0 q1).2 a ha.1 ha.2
    have := xAut_walk h hg hn w (ix (ix (xSt nx mk L first n).2.1 q) a) s1 (by omega) (fun b hb => hw b (by simp [hb]))
    rw [s3] at this
    exact this
end

section
variable {d : Dt}
structure RowOk (d : Dt) (C Q : List Int) (i : Int) (row : List Int) : Prop where
  len : (row.length : Int) = d.1
  to : ∀ a : Int, 0 ≤ a → a < d.1 → 0 ≤ ix row a ∧ ix row a < Q.length ∧ ix C (ix Q (ix row a)) = ix C (ix (ix d.2.2.1 (ix Q i)) a)
structure QOk (d : Dt) (C Q : List Int) : Prop where
  b : ∀ q : Int, q ∈ Q → 0 ≤ q ∧ q < d.2.2.1.length
  nd : (Q.map (ix C)).Nodup
  z : 0 < Q.length ∧ ix Q 0 = d.2.1
structure PartOk (d : Dt) (C Q : List Int) (D2 : List (List Int)) (D3 : List Int) : Prop where
  q : QOk d C Q
  l2 : D2.length ≤ Q.length
  l3 : D3.length = D2.length
  row : ∀ i : Int, 0 ≤ i → i < D2.length → RowOk d C Q i (ix D2 i)
  mark : ∀ i : Int, 0 ≤ i → i < D2.length → ix D3 i = ix d.2.2.2.1 (ix Q i)
theorem QOk.le {C Q : List Int} {K : Nat} (hC : FinC d C K) (h : QOk d C Q) : Q.length ≤ K := by
  have := pigeon_int (n := K) h.nd (fun v hv => by
    obtain ⟨q, hq, rfl⟩ := List.mem_map.1 hv
    have := h.b q hq
    exact hC.b q this.1 this.2)
  rwa [List.length_map] at this
theorem RowOk.ext {C Q : List Int} {i : Int} {row : List Int} (h : RowOk d C Q i row) (i0 : 0 ≤ i) (i1 : i < Q.length) (x : List Int) : RowOk d C (Q ++ x) i row :=
  ⟨h.len, fun a a0 a1 => by
    obtain ⟨h1, h2, h3⟩ := h.to a a0 a1
    rw [ix_append_left h1 h2, ix_append_left i0 i1]
    exact ⟨h1, by rw [List.length_append]; omega, h3⟩⟩
structure OfOk (d : Dt) (C l : List Int) (K : Nat) : Prop where
  len : l.length = d.2.2.1.length
  b : ∀ v : Int, 0 ≤ v → v < K → 0 ≤ ix l v ∧ ix l v < d.2.2.1.length ∧ ix C (ix l v) = v
/-- Going by classes. -/
noncomputable def nxC (d : Dt) (C l : List Int) (v a : Int) : Int := ix C (ix (ix d.2.2.1 (ix l v)) a)
noncomputable def mkC (d : Dt) (l : List Int) (v : Int) : Int := ix d.2.2.2.1 (ix l v)
/-- A least automaton, and of which states its states are. -/
structure LeastOk (d o : Dt) (C Q : List Int) (K : Nat) : Prop where
  fin : FinC d C K
  part : PartOk d C Q o.2.2.1 o.2.2.2.1
  all : o.2.2.1.length = Q.length
  let1 : o.1 = d.1
  st : o.2.1 = 0
  by1 : ∃ (l : List Int) (n : Nat), OfOk d C l K ∧ XGo (nxC d C l) (mkC d l) d.1.toNat (ix C d.2.1) n ∧ (xSt (nxC d C l) (mkC d l) d.1.toNat (ix C d.2.1) n).1.length = n ∧ o = xAut (nxC d C l) (mkC d l) d.1.toNat (ix C d.2.1) n
/-- What numbers stand for classes. -/
def NumOk (d : Dt) (C Q NA : List Int) : Prop := NA.length = d.2.2.1.length ∧ ∀ v : Int, 0 ≤ v → v < d.2.2.1.length → ix NA v = match mfind (Q.map (ix C)) v with
  | some j => (j : Int)
  | none => -1
theorem take_set_succ {row : List Int} {t : Nat} {v : Int} (h : t < row.length) : (row.set t v).take (t + 1) = row.take t ++ [v] := by
  rw [List.take_add_one, List.take_set_of_le (Nat.le_refl _), List.getElem?_set_self h]; rfl
theorem least_letters (h : DOk 4000 badD d) {C l Q0 : List Int} {K : Nat} (hC : FinC d C K) (hl : OfOk d C l K) {L0 : List Int} {D2 : List (List Int)} {D3 : List Int} {r4 r11} {lk : List Int} {i : Int} (hi : i = D2.length) (eL : ix L0 i = ix C (ix Q0 i)) :
    ∀ (f : Nat) (t : Int) (Q NA row : List Int), (d.1 - t).toNat = f → 0 ≤ t → t ≤ d.1 → PartOk d C Q D2 D3 → i < Q.length → ix Q i = ix Q0 i → NumOk d C Q NA → (row.length : Int) = d.1 →
      (∀ a : Int, 0 ≤ a → a < t → 0 ≤ ix row a ∧ ix row a < Q.length ∧ ix C (ix Q (ix row a)) = ix C (ix (ix d.2.2.1 (ix Q i)) a)) → xRow (nxC d C l) (ix C (ix Q0 i)) lk t.toNat = (Q.map (ix C), row.take t.toNat) →
    ∃ x NA' row', xRow (nxC d C l) (ix C (ix Q0 i)) lk d.1.toNat = ((Q ++ x).map (ix C), row') ∧ PartOk d C (Q ++ x) (D2 ++ [row']) (D3 ++ [ix d.2.2.2.1 (ix Q i)]) ∧ NumOk d C (Q ++ x) NA' ∧
      det_Explore_1_L8 d.1 C d l d l ((C.length : Int) + 1) d.1 0 L0 D2 D3 r4 t (Q.map (ix C)) (iota (Q.map (ix C)).length) (Q.map (ix C)) row = r4 d.1 0 ((Q ++ x).map (ix C)) (iota ((Q ++ x).map (ix C)).length) ((Q ++ x).map (ix C)) (D2 ++ [row']) (D3 ++ [ix d.2.2.2.1 (ix Q i)]) ∧
      r3_Least_L15 d C i d.1 0 D2 D3 r11 t NA Q row = r11 (i + 1) NA' (Q ++ x) d.1 0 (D2 ++ [row']) (D3 ++ [ix d.2.2.2.1 (ix Q i)]) := by
  have hn := h.n1
  have hlt := h.let1
  have hmk := h.mkl
  have hcl := hC.len
  have hK := hC.le
  intro f
  induction f with
  | zero =>
    intro t Q NA row hf t0 t1 hP hiQ eQ hN hrl hrow hxr
    obtain rfl : t = d.1 := by omega
    have hQK := hP.q.le hC
    have hq := hP.q.b _ (ix_mem (by omega) hiQ)
    have hv := hC.b _ hq.1 hq.2
    obtain ⟨o1, o2, o3⟩ := hl.b _ hv.1 hv.2
    have hl3 := hP.l3
    have hll := hl.len
    have hmark : ix d.2.2.2.1 (ix l (ix C (ix Q i))) = ix d.2.2.2.1 (ix Q i) := hC.mark _ _ o1 o2 hq.1 hq.2 o3
    refine ⟨[], NA, row, by rw [hxr, List.append_nil, List.take_of_length_le (by omega)], ⟨by simpa using hP.q, by rw [List.length_append, List.length_append, List.length_singleton]; omega, by rw [List.length_append, List.length_append, List.length_singleton, List.length_singleton]; omega, fun j j0 j1 => ?_, fun j j0 j1 => ?_⟩, by simpa using hN, ?_, ?_⟩
    · rw [List.length_append, List.length_singleton] at j1
      rw [List.append_nil]
      by_cases e : j < D2.length
      · rw [ix_append_left j0 e]; exact hP.row j j0 e
      · obtain rfl : j = D2.length := by omega
        rw [ix_append_last, ← hi]; exact ⟨hrl, hrow⟩
    · rw [List.length_append, List.length_singleton] at j1
      rw [List.append_nil]
      by_cases e : j < D2.length
      · rw [ix_append_left j0 (by omega)]; exact hP.mark j j0 e
      · have e1 : j = D3.length := by omega
        have e2 : j = i := by omega
        rw [e1, ix_append_last, ← e1, e2]
    · rw [det_Explore_1_L8_eq]; unfold det_Explore_1_L8_B det_Smallest_2
      rw [if_neg (by simp), ← hi, eL, ← eQ, List.append_nil]
      refine G_to (by unfold room; simp; have := hP.l2; omega) ?_
      refine bind_to (y := ix d.2.2.2.1 (ix Q i)) ?_ ?_
      · rw [← hmark]
        exact G_to (by omega) (G_to (by omega) rfl)
      · exact G_to (by unfold room; simp; have := hP.l2; omega) rfl
    · rw [r3_Least_L15_eq]; unfold r3_Least_L15_B
      rw [if_neg (by simp), List.append_nil]
      exact G_to (by unfold room; simp; have := hP.l2; omega) (G_to (by omega) (G_to (by omega) (G_to (by omega) (G_to (by unfold room; simp; have := hP.l2; omega) (G_to (by unfold fits; omega) rfl)))))
  | succ f ih =>
    intro t Q NA row hf t0 t1 hP hiQ eQ hN hrl hrow hxr
    have hQK := hP.q.le hC
    have hq := hP.q.b _ (ix_mem (by omega) hiQ)
    have hv := hC.b _ hq.1 hq.2
    obtain ⟨o1, o2, o3⟩ := hl.b _ hv.1 hv.2
    have hll := hl.len
    have hr1 := h.tab.rowlen hq.1 hq.2
    have hr2 := h.tab.rowlen o1 o2
    have hx := h.tab.stpb hq.1 hq.2 t0 (by omega)
    have hy := h.tab.stpb o1 o2 t0 (by omega)
    unfold stp at hx hy
    have hst := hC.stable _ _ o1 o2 hq.1 hq.2 o3 t t0 (by omega)
    have hw := hC.b _ hx.1 hx.2
    have hNx := hN.2 _ hw.1 (by omega : _ < (d.2.2.1.length : Int))
    have hNl := hN.1
    -- the next state and its class
    obtain ⟨x, hxd⟩ : ∃ x, x = ix (ix d.2.2.1 (ix Q i)) t := ⟨_, rfl⟩
    rw [← hxd] at hx hst hw hNx
    have hnx : nxC d C l (ix C (ix Q0 i)) (t.toNat : Int) = ix C x := by
      unfold nxC
      rw [← eQ, Int.toNat_of_nonneg t0]; exact hst
    have s1 : det_Smallest_1 (ix L0 (D2.length : Int)) t C d l = some (ix C x) := by
      unfold det_Smallest_1
      rw [← hi, eL, ← eQ, ← hst]
      exact G_to (by omega) (G_to (by omega) (G_to (by omega) (G_to (by omega) rfl)))
    have hP1 : det_Explore_1_L8 d.1 C d l d l ((C.length : Int) + 1) d.1 0 L0 D2 D3 r4 t (Q.map (ix C)) (iota (Q.map (ix C)).length) (Q.map (ix C)) row =
        if ix C x ∈ Q.map (ix C) then det_Explore_1_L8 d.1 C d l d l ((C.length : Int) + 1) d.1 0 L0 D2 D3 r4 (t + 1) (Q.map (ix C)) (iota (Q.map (ix C)).length) (Q.map (ix C)) (row.set t.toNat (mget (Q.map (ix C)) (iota (Q.map (ix C)).length) (ix C x) 0))
        else det_Explore_1_L8 d.1 C d l d l ((C.length : Int) + 1) d.1 0 L0 D2 D3 r4 (t + 1) ((Q ++ [x]).map (ix C)) (iota ((Q ++ [x]).map (ix C)).length) ((Q ++ [x]).map (ix C)) (row.set t.toNat (Q.length : Int)) := by
      conv => lhs; rw [det_Explore_1_L8_eq]; unfold det_Explore_1_L8_B
      rw [if_pos (by simp; omega)]
      refine bind_to s1 ?_
      unfold det_Explore_1_J17
      by_cases c : ix C x ∈ Q.map (ix C)
      · rw [if_neg (by rw [mhas_iff.2 c]; simp), if_pos c]
        exact G_to (by omega) (G_to (by omega) (G_to (by unfold fits; omega) rfl))
      · have hh : mhas (Q.map (ix C)) (ix C x) = false := by
          cases e : mhas (Q.map (ix C)) (ix C x) with
          | false => rfl
          | true => exact absurd (mhas_iff.1 e) c
        rw [if_pos (by rw [hh]; rfl), if_neg c, if_neg (by rw [decide_eq_true_iff, List.length_map]; omega), mputK_new c, mputV_iota c, List.map_append, List.map_singleton, List.length_map]
        exact G_to (by unfold room; simp; omega) (G_to (by omega) (G_to (by omega) (G_to (by unfold fits; omega) rfl)))
    have hR1 : r3_Least_L15 d C i d.1 0 D2 D3 r11 t NA Q row =
        if ix NA (ix C x) < 0 then r3_Least_L15 d C i d.1 0 D2 D3 r11 (t + 1) (NA.set (ix C x).toNat (Q.length : Int)) (Q ++ [x]) (row.set t.toNat (Q.length : Int))
        else r3_Least_L15 d C i d.1 0 D2 D3 r11 (t + 1) NA Q (row.set t.toNat (ix NA (ix C x))) := by
      conv => lhs; rw [r3_Least_L15_eq]; unfold r3_Least_L15_B
      rw [if_pos (by simp; omega), ← hxd]
      refine G_to (by omega) (G_to (by omega) (G_to (by omega) (G_to (by omega) (G_to (by omega) (G_to (by omega) (G_to (by omega) (G_to (by omega) ?_)))))))
      unfold r3_Least_J20
      by_cases c : ix NA (ix C x) < 0
      · rw [if_pos (decide_eq_true c), if_pos c]
        refine G_to (by omega) (G_to (by omega) (G_to (by omega) (G_to (by omega) (G_to (by unfold room; simp; omega) ?_))))
        rw [← hxd, ix_set_same hw.1 (by omega)]
        exact G_to (by omega) (G_to (by omega) (G_to (by rw [List.length_set]; omega) (G_to (by rw [List.length_set]; omega) (G_to (by omega) (G_to (by omega) (G_to (by unfold fits; omega) rfl))))))
      · rw [if_neg (by simpa using c), if_neg c, ← hxd]
        exact G_to (by omega) (G_to (by omega) (G_to (by omega) (G_to (by omega) (G_to (by omega) (G_to (by omega) (G_to (by unfold fits; omega) rfl))))))
    rw [hP1, hR1]
    have rowstep : ∀ (Q' : List Int) (v : Int), (∀ j : Int, 0 ≤ j → j < Q.length → ix Q' j = ix Q j) → Q.length ≤ Q'.length → 0 ≤ v → v < Q'.length → ix C (ix Q' v) = ix C x →
        ∀ a : Int, 0 ≤ a → a < t + 1 → 0 ≤ ix (row.set t.toNat v) a ∧ ix (row.set t.toNat v) a < Q'.length ∧ ix C (ix Q' (ix (row.set t.toNat v) a)) = ix C (ix (ix d.2.2.1 (ix Q' i)) a) := fun Q' v hQ' hle v0 v1 hv' a a0 a1 => by
      by_cases e : a = t
      · subst e
        rw [ix_set_same a0 (by omega), hQ' i (by omega) hiQ, ← hxd]; exact ⟨v0, v1, hv'⟩
      · obtain ⟨h1, h2, h3⟩ := hrow a a0 (by omega)
        rw [ix_set_ne t0 a0 (Ne.symm e), hQ' _ h1 h2, hQ' i (by omega) hiQ]
        exact ⟨h1, by omega, h3⟩
    by_cases c : ix C x ∈ Q.map (ix C)
    · obtain ⟨j, hj⟩ := mfind_mem c
      have hjl := mfind_lt hj
      rw [List.length_map] at hjl
      have hjx : ix C (ix Q j) = ix C x := by
        have := mfind_get hj
        rw [List.getElem?_map, List.getElem?_eq_getElem hjl, Option.map_some] at this
        have e2 : ix Q (j : Int) = Q[j] := by rw [ix_eq (l := Q) (by omega) (by omega)]; simp
        rw [e2]
        exact Option.some.inj this
      rw [hj] at hNx
      have hNx : ix NA (ix C x) = (j : Int) := hNx
      rw [if_pos c, if_neg (by omega), mget_iota hj, hNx]
      refine ih (t + 1) Q NA _ (by omega) (by omega) (by omega) hP hiQ eQ hN (by rw [List.length_set]; exact hrl) (rowstep Q j (fun _ _ _ => rfl) (Nat.le_refl _) (by omega) (by omega) hjx) ?_
      rw [show (t + 1).toNat = t.toNat + 1 by omega, xRow_some (j := j) (by rw [hxr, hnx]; exact hj), hxr, take_set_succ (by omega)]
    · rw [mfind_none.2 c] at hNx
      have hNx : ix NA (ix C x) = -1 := hNx
      rw [if_neg c, if_pos (by omega)]
      have hQ' : ∀ j : Int, 0 ≤ j → j < Q.length → ix (Q ++ [x]) j = ix Q j := fun j j0 j1 => ix_append_left j0 j1
      have hP' : PartOk d C (Q ++ [x]) D2 D3 := by
        refine ⟨⟨fun q hq => (List.mem_append.1 hq).elim (hP.q.b q) (fun e => by rw [List.mem_singleton.1 e]; exact hx), ?_, ?_⟩, by rw [List.length_append]; have := hP.l2; omega, hP.l3, fun j j0 j1 => ?_, fun j j0 j1 => ?_⟩
        · rw [List.map_append, List.nodup_append]
          exact ⟨hP.q.nd, by simp, fun u hu w hw => by rw [List.map_singleton, List.mem_singleton] at hw; rw [hw]; rintro rfl; exact c hu⟩
        · have := hP.q.z
          exact ⟨by simp, by rw [hQ' 0 (by omega) (by omega)]; exact this.2⟩
        · exact (hP.row j j0 j1).ext j0 (by have := hP.l2; omega) _
        · rw [hQ' j j0 (by have := hP.l2; omega)]; exact hP.mark j j0 j1
      have hN' : NumOk d C (Q ++ [x]) (NA.set (ix C x).toNat (Q.length : Int)) := by
        refine ⟨by rw [List.length_set]; exact hN.1, fun v v0 v1 => ?_⟩
        rw [List.map_append, List.map_singleton]
        by_cases e : v = ix C x
        · subst e
          rw [ix_set_same v0 (by omega), mfind_new c]
          simp
        · rw [ix_set_ne hw.1 v0 (Ne.symm e), hN.2 v v0 v1]
          cases hm : mfind (Q.map (ix C)) v with
          | some j => rw [mfind_app _ hm]
          | none =>
            rw [mfind_none.2 (fun hh => by
              rcases List.mem_append.1 hh with hh | hh
              · exact mfind_none.1 hm hh
              · exact e (List.mem_singleton.1 hh))]
      obtain ⟨y, NA', row', z0, z1, z2, z3, z4⟩ := ih (t + 1) (Q ++ [x]) _ (row.set t.toNat (Q.length : Int)) (by omega) (by omega) (by omega) hP' (by rw [List.length_append]; omega) (by rw [hQ' i (by omega) hiQ]; exact eQ) hN' (by rw [List.length_set]; exact hrl)
        (rowstep (Q ++ [x]) (Q.length : Int) hQ' (by rw [List.length_append]; omega) (by omega) (by rw [List.length_append, List.length_singleton]; omega) (by rw [ix_append_last])) (by rw [show (t + 1).toNat = t.toNat + 1 by omega, xRow_none (by rw [hxr, hnx]; exact mfind_none.2 c), hxr, hnx, take_set_succ (by omega), List.length_map, List.map_append, List.map_singleton])
      rw [hQ' i (by omega) hiQ] at z1 z3 z4
      rw [List.append_assoc] at z0 z1 z2 z3 z4
      exact ⟨_, NA', row', z0, z1, z2, z3, z4⟩
theorem least_main (h : DOk 4000 badD d) {C l : List Int} {K : Nat} (hC : FinC d C K) (hl : OfOk d C l K) : ∀ (f : Nat) (Q NA : List Int) (D2 : List (List Int)) (D3 : List Int), 4000 - D2.length = f → PartOk d C Q D2 D3 → NumOk d C Q NA → XGo (nxC d C l) (mkC d l) d.1.toNat (ix C d.2.1) D2.length → xSt (nxC d C l) (mkC d l) d.1.toNat (ix C d.2.1) D2.length = (Q.map (ix C), D2, D3) →
    ∃ o Q', LeastOk d o C Q' K ∧ det_Explore_1_L4 d.1 C d l d l ((C.length : Int) + 1) d.1 0 (Q.map (ix C)) (iota (Q.map (ix C)).length) (Q.map (ix C)) D2 D3 = some (o, true) ∧ r3_Least_L11 d C (D2.length : Int) NA Q d.1 0 D2 D3 = some o := by
  have hn := h.n1
  have hlt := h.let1
  intro f
  induction f using Nat.strongRecOn with
  | ind f ih =>
  intro Q NA D2 D3 hf hP hN hgo hxs
  have hQK := hP.q.le hC
  have hK := hC.le
  rw [det_Explore_1_L4_eq, r3_Least_L11_eq]; unfold det_Explore_1_L4_B r3_Least_L11_B
  by_cases e : D2.length < Q.length
  · have e1 : ix (Q.map (ix C)) (D2.length : Int) = ix C (ix Q (D2.length : Int)) := ix_map _ (by omega) (by omega)
    obtain ⟨x, NA', row', z0, z1, z2, z3, z4⟩ := least_letters (lk := Q.map (ix C)) (r4 := det_Explore_1_L4 d.1 C d l d l ((C.length : Int) + 1)) (r11 := r3_Least_L11 d C) h hC hl (L0 := Q.map (ix C)) (Q0 := Q) (D2 := D2) (D3 := D3) rfl e1 _ 0 Q NA (List.replicate d.1.toNat 0) rfl (by omega) (by omega) hP (by omega) rfl hN (by rw [List.length_replicate]; omega) (fun a a0 a1 => by omega) (by simp [xRow])
    have hq := hP.q.b _ (ix_mem (by omega) (by omega : (D2.length : Int) < Q.length))
    have hv := hC.b _ hq.1 hq.2
    obtain ⟨o1, o2, o3⟩ := hl.b _ hv.1 hv.2
    have hmark : mkC d l (ix C (ix Q (D2.length : Int))) = ix d.2.2.2.1 (ix Q (D2.length : Int)) := hC.mark _ _ o1 o2 hq.1 hq.2 o3
    have hgo' : XGo (nxC d C l) (mkC d l) d.1.toNat (ix C d.2.1) (D2 ++ [row']).length := fun k hk => by
      rw [List.length_append, List.length_singleton] at hk
      by_cases c : k < D2.length
      · exact hgo k c
      · obtain rfl : k = D2.length := by omega
        rw [hxs, List.length_map]; exact e
    have hxs' : xSt (nxC d C l) (mkC d l) d.1.toNat (ix C d.2.1) (D2 ++ [row']).length = ((Q ++ x).map (ix C), D2 ++ [row'], D3 ++ [ix d.2.2.2.1 (ix Q (D2.length : Int))]) := by
      rw [List.length_append, List.length_singleton, xSt, hxs]
      show ((xRow _ (ix (Q.map (ix C)) (D2.length : Int)) (Q.map (ix C)) d.1.toNat).1, D2 ++ [(xRow _ (ix (Q.map (ix C)) (D2.length : Int)) (Q.map (ix C)) d.1.toNat).2], D3 ++ [mkC d l (ix (Q.map (ix C)) (D2.length : Int))]) = _
      rw [e1, z0, hmark]
    obtain ⟨o, Q', w1, w2, w3⟩ := ih (4000 - (D2 ++ [row']).length) (by rw [List.length_append, List.length_singleton]; have := z1.q.le hC; have := z1.l2; rw [List.length_append, List.length_singleton] at this; omega) (Q ++ x) NA' (D2 ++ [row']) _ rfl z1 z2 hgo' hxs'
    refine ⟨o, Q', w1, ?_, ?_⟩
    · rw [if_pos (by simp; omega)]
      exact G_to (by rw [List.length_map]; omega) (G_to (by rw [List.length_map]; omega) (G_to (by unfold mkOK; omega) (z3.trans w2)))
    · rw [if_pos (by simp; omega)]
      refine G_to (by unfold mkOK; omega) (z4.trans ?_)
      rw [List.length_append, List.length_singleton] at w3
      exact w3
  · refine ⟨(d.1, 0, D2, D3, ()), Q, ⟨hC, hP, by have := hP.l2; show D2.length = Q.length; omega, rfl, rfl, l, D2.length, hl, hgo, by rw [hxs, List.length_map]; have := hP.l2; omega, by unfold xAut; rw [hxs, Int.toNat_of_nonneg (by omega)]⟩, ?_, ?_⟩
    · rw [if_neg (by rw [decide_eq_true_iff, List.length_map]; omega)]
    · rw [if_neg (by simp; omega)]
theorem Smallest_of (h : DOk 4000 badD d) {C : List Int} {K : Nat} (hC : FinC d C K) : ∃ l, OfOk d C l K ∧ det_Smallest_L4 d C 0 (List.replicate C.length 0) = det_Smallest_L4 d C (C.length : Int) l := by
  have hn := h.n1
  have hcl := hC.len
  have hK := hC.le
  have key : ∀ (f : Nat) (t : Int) (l : List Int), (C.length - t).toNat = f → 0 ≤ t → t ≤ C.length → l.length = C.length → (∀ v : Int, 0 ≤ v → v < K → (∃ q : Int, 0 ≤ q ∧ q < t ∧ ix C q = v) → 0 ≤ ix l v ∧ ix l v < d.2.2.1.length ∧ ix C (ix l v) = v) →
      ∃ l', OfOk d C l' K ∧ det_Smallest_L4 d C t l = det_Smallest_L4 d C (C.length : Int) l' := by
    intro f
    induction f with
    | zero =>
      intro t l hf t0 t1 hll hv
      obtain rfl : t = C.length := by omega
      exact ⟨l, ⟨by omega, fun v v0 v1 => by
        obtain ⟨q, q0, q1, e⟩ := hC.sur v v0 v1
        exact hv v v0 v1 ⟨q, q0, by omega, e⟩⟩, rfl⟩
    | succ f ih =>
      intro t l hf t0 t1 hll hv
      have hb := hC.b t t0 (by omega)
      obtain ⟨l', h1, h2⟩ := ih (t + 1) (l.set (ix C t).toNat t) (by omega) (by omega) (by omega) (by rw [List.length_set]; exact hll) (fun v v0 v1 ⟨q, q0, q1, e⟩ => by
        by_cases e2 : v = ix C t
        · subst e2
          rw [ix_set_same v0 (by omega)]; exact ⟨t0, by omega, rfl⟩
        · rw [ix_set_ne hb.1 v0 (Ne.symm e2)]
          refine hv v v0 v1 ⟨q, q0, ?_, e⟩
          by_cases e3 : q = t
          · subst e3; exact absurd e.symm e2
          · omega)
      refine ⟨l', h1, ?_⟩
      rw [← h2]
      conv => lhs; rw [det_Smallest_L4_eq]; unfold det_Smallest_L4_B
      rw [if_pos (by simp; omega)]
      exact G_to (by omega) (G_to (by omega) (G_to (by omega) (G_to (by omega) (G_to (by unfold fits; omega) rfl))))
  exact key _ 0 _ rfl (by omega) (by omega) (by rw [List.length_replicate]) (fun v v0 v1 ⟨q, q0, q1, _⟩ => by omega)
theorem Least_num (h : DOk 4000 badD d) {C : List Int} {K : Nat} (hC : FinC d C K) : r3_Least_L4 d C 0 (List.replicate C.length 0) = r3_Least_L4 d C (C.length : Int) (List.replicate C.length (-1)) := by
  have hn := h.n1
  have hcl := hC.len
  have key : ∀ (f : Nat) (t : Int) (l : List Int), (C.length - t).toNat = f → 0 ≤ t → t ≤ C.length → l.length = C.length → (∀ v : Int, 0 ≤ v → v < t → ix l v = -1) → r3_Least_L4 d C t l = r3_Least_L4 d C (C.length : Int) (List.replicate C.length (-1)) := by
    intro f
    induction f with
    | zero =>
      intro t l hf t0 t1 hll hv
      obtain rfl : t = C.length := by omega
      rw [show l = List.replicate C.length (-1) from ix_ext (by rw [List.length_replicate]; exact hll) fun j j0 j1 => by rw [ix_replicate j0 (by omega), hv j j0 (by omega)]]
    | succ f ih =>
      intro t l hf t0 t1 hll hv
      rw [← ih (t + 1) (l.set t.toNat (-1)) (by omega) (by omega) (by omega) (by rw [List.length_set]; exact hll) (fun v v0 v1 => by
        by_cases e2 : v = t
        · subst e2; rw [ix_set_same v0 (by omega)]
        · rw [ix_set_ne t0 v0 (Ne.symm e2)]; exact hv v v0 (by omega))]
      conv => lhs; rw [r3_Least_L4_eq]; unfold r3_Least_L4_B
      rw [if_pos (by simp; omega)]
      exact G_to (by omega) (G_to (by omega) (G_to (by unfold fits; omega) rfl))
  exact key _ 0 _ rfl (by omega) (by omega) (by rw [List.length_replicate]) (fun v v0 v1 => by omega)
/-- The program's least automaton and the document's are one. -/
theorem least_both (h : DOk 4000 badD d) : ∃ o C Q K, LeastOk d o C Q K ∧ det_Smallest d = some o ∧ r3_Least d = some o := by
  have hn := h.n1
  obtain ⟨C, K, hC, c1, c2⟩ := classes_both h
  obtain ⟨l, hl, l1⟩ := Smallest_of h hC
  have hs := h.st
  have hcl := hC.len
  have hb := hC.b _ hs.1 hs.2
  have hK := hC.le
  have hP : PartOk d C [d.2.1] [] [] := ⟨⟨fun q hq => by rw [List.mem_singleton.1 hq]; exact hs, by simp, by simp, rfl⟩, by simp, rfl, fun i i0 i1 => by simp at i1; omega, fun i i0 i1 => by simp at i1; omega⟩
  have hN : NumOk d C [d.2.1] ((List.replicate C.length (-1 : Int)).set (ix C d.2.1).toNat 0) := by
    refine ⟨by rw [List.length_set, List.length_replicate]; exact hcl, fun v v0 v1 => ?_⟩
    rw [List.map_singleton]
    by_cases e : v = ix C d.2.1
    · subst e
      rw [ix_set_same v0 (by rw [List.length_replicate]; omega), mfind_hd]; rfl
    · rw [ix_set_ne hb.1 v0 (Ne.symm e), ix_replicate v0 (by omega), mfind_none.2 (by simpa using e)]
  obtain ⟨o, Q, w1, w2, w3⟩ := least_main h hC hl _ [d.2.1] _ [] [] rfl hP hN (fun k hk => by simp at hk) rfl
  have ed : (d.1, d.2.1, d.2.2.1, d.2.2.2.1, ()) = d := rfl
  refine ⟨o, C, Q, K, w1, ?_, ?_⟩
  · unfold det_Smallest
    rw [ed]
    refine bind_to c1 ?_
    refine G_to (by unfold mkOK; omega) ?_
    rw [Int.toNat_natCast, l1, det_Smallest_L4_eq]; unfold det_Smallest_L4_B
    rw [if_neg (by simp)]
    refine G_to (by omega) (G_to (by omega) (G_to (by unfold fits; omega) ?_))
    have hE : det_Explore_1 d.1 (ix C d.2.1) C d l d l ((C.length : Int) + 1) = some (o, true) := w2
    refine both_to ?_ ?_
    · rw [ed]
      exact bind_to hE rfl
    · rw [ed]
      exact bind_to hE rfl
  · unfold r3_Least
    rw [ed]
    refine bind_to c2 ?_
    refine G_to (by unfold mkOK; omega) ?_
    rw [Int.toNat_natCast, Least_num h hC, r3_Least_L4_eq]; unfold r3_Least_L4_B
    rw [if_neg (by simp)]
    exact G_to (by omega) (G_to (by omega) (G_to (by rw [List.length_replicate]; omega) (G_to (by rw [List.length_replicate]; omega) w3)))
end

/-- The least automaton goes along. -/
theorem least_walk {d o : Dt} {C Q : List Int} {K : Nat} (hd : DOk 4000 badD d) (h : LeastOk d o C Q K) : ∀ (w : List Int) (i q : Int), 0 ≤ i → i < Q.length → 0 ≤ q → q < d.2.2.1.length → ix C (ix Q i) = ix C q → (∀ a ∈ w, 0 ≤ a ∧ a < d.1) →
    0 ≤ wlk o.2.2.1 i w ∧ wlk o.2.2.1 i w < Q.length ∧ ix C (ix Q (wlk o.2.2.1 i w)) = ix C (wlk d.2.2.1 q w)
  | [], i, q, i0, i1, _, _, e, _ => ⟨i0, i1, e⟩
  | a :: w, i, q, i0, i1, q0, q1, e, hw => by
    have ha := hw a (by simp)
    have hr := h.part.row i i0 (by rw [h.all]; exact i1)
    obtain ⟨t1, t2, t3⟩ := hr.to a ha.1 ha.2
    have hq := h.part.q.b _ (ix_mem i0 i1)
    have hs := hd.tab.stpb q0 q1 ha.1 ha.2
    have hst := h.fin.stable _ _ hq.1 hq.2 q0 q1 e a ha.1 ha.2
    exact least_walk hd h w (ix (ix o.2.2.1 i) a) (stp d.2.2.1 q a) t1 t2 hs.1 hs.2 (t3.trans hst) (fun b hb => hw b (by simp [hb]))
theorem least_mark {d o : Dt} {C Q : List Int} {K : Nat} (hd : DOk 4000 badD d) (h : LeastOk d o C Q K) {w : List Int} (hw : ∀ a ∈ w, 0 ≤ a ∧ a < d.1) : 0 ≤ wlk o.2.2.1 o.2.1 w ∧ wlk o.2.2.1 o.2.1 w < o.2.2.1.length ∧ ix o.2.2.2.1 (wlk o.2.2.1 o.2.1 w) = ix d.2.2.2.1 (wlk d.2.2.1 d.2.1 w) := by
  have hz := h.part.q.z
  have hst := hd.st
  obtain ⟨h1, h2, h3⟩ := least_walk hd h w 0 d.2.1 (by omega) (by omega) hst.1 hst.2 (by rw [hz.2]) hw
  rw [h.st]
  refine ⟨h1, by rw [h.all]; exact h2, ?_⟩
  rw [h.part.mark _ h1 (by rw [h.all]; exact h2)]
  have hq := h.part.q.b _ (ix_mem h1 h2)
  have hw2 := hd.tab.wlkb hst.1 hst.2 hw
  exact h.fin.mark _ _ hq.1 hq.2 hw2.1 hw2.2 h3
theorem LeastOk.tab' {d o : Dt} {C Q : List Int} {K : Nat} (h : LeastOk d o C Q K) : Tab o.1 o.2.2.1 := by
  refine ⟨fun r hr => ?_, fun r hr q hq => ?_⟩
  · obtain ⟨j, j0, j1, rfl⟩ := (ex_ix (P := fun x => x = r)).1 ⟨r, hr, rfl⟩
    rw [h.let1]; exact (h.part.row j j0 j1).len
  · obtain ⟨j, j0, j1, rfl⟩ := (ex_ix (P := fun x => x = r)).1 ⟨r, hr, rfl⟩
    have hr := h.part.row j j0 j1
    obtain ⟨k, k0, k1, rfl⟩ := (ex_ix (P := fun x => x = q)).1 ⟨q, hq, rfl⟩
    have := hr.to k k0 (by rw [← hr.len]; exact k1)
    rw [h.all]; exact ⟨this.1, this.2.1⟩

theorem r3_Same_refl {d : Dt} (h1 : (d.2.2.1.length : Int) ≤ 1000000) (h2 : (d.2.2.2.1.length : Int) ≤ 1000000) (h3 : ∀ r ∈ d.2.2.1, (r.length : Int) ≤ 1000000) : r3_Same d d = some true := by
  have k14 : ∀ (i : Int) {r9}, 0 ≤ i → i < d.2.2.1.length → ∀ (n : Nat) (k : Int), ((ix d.2.2.1 i).length - k).toNat = n → 0 ≤ k → k ≤ (ix d.2.2.1 i).length → r3_Same_L14 d d i r9 k = r9 (i + 1) := by
    intro i r9 i0 i1 n
    have hr := h3 _ (ix_mem i0 i1)
    induction n with
    | zero =>
      intro k hn k0 k1
      rw [r3_Same_L14_eq]; unfold r3_Same_L14_B
      rw [G_pos (by omega), if_neg (by simp; omega)]
      exact G_to (by unfold fits; omega) rfl
    | succ n ih =>
      intro k hn k0 k1
      rw [r3_Same_L14_eq]; unfold r3_Same_L14_B
      rw [G_pos (by omega), if_pos (by simp; omega), if_neg (by simp)]
      exact G_to (by omega) (G_to (by omega) (G_to (by omega) (G_to (by omega) (G_to (by unfold fits; omega) (ih (k + 1) (by omega) (by omega) (by omega))))))
  have k9 : ∀ (n : Nat) (i : Int), (d.2.2.1.length - i).toNat = n → 0 ≤ i → i ≤ d.2.2.1.length → r3_Same_L9 d d i = some true := by
    intro n
    induction n with
    | zero =>
      intro i hn i0 i1
      rw [r3_Same_L9_eq]; unfold r3_Same_L9_B
      rw [if_neg (by simp; omega)]
    | succ n ih =>
      intro i hn i0 i1
      rw [r3_Same_L9_eq]; unfold r3_Same_L9_B
      rw [if_pos (by simp; omega), if_neg (by simp)]
      refine G_to (by omega) (G_to (by omega) ?_)
      rw [k14 i i0 (by omega) _ 0 rfl (by omega) (by omega)]
      exact ih (i + 1) (by omega) (by omega) (by omega)
  have k4 : ∀ (n : Nat) (i : Int), (d.2.2.2.1.length - i).toNat = n → 0 ≤ i → i ≤ d.2.2.2.1.length → r3_Same_L4 d d i = some true := by
    intro n
    induction n with
    | zero =>
      intro i hn i0 i1
      rw [r3_Same_L4_eq]; unfold r3_Same_L4_B
      rw [if_neg (by simp; omega)]
      exact k9 _ 0 rfl (by omega) (by omega)
    | succ n ih =>
      intro i hn i0 i1
      rw [r3_Same_L4_eq]; unfold r3_Same_L4_B
      rw [if_pos (by simp; omega), if_neg (by simp)]
      exact G_to (by omega) (G_to (by omega) (G_to (by unfold fits; omega) (ih (i + 1) (by omega) (by omega) (by omega))))
  unfold r3_Same
  rw [if_neg (by simp), if_neg (by simp), if_neg (by simp), if_neg (by simp)]
  exact k4 _ 0 rfl (by omega) (by omega)
theorem noDet_none : law_noDet (0, 0, [], [], ()) = some true := by
  unfold law_noDet
  rw [if_pos (by simp), if_pos (by simp), G_pos (by unfold fits; simp)]
  rfl
theorem LeastOk.sizes {d o : Dt} {C Q : List Int} {K : Nat} (hd : DOk 4000 badD d) (h : LeastOk d o C Q K) : (o.2.2.1.length : Int) ≤ 4000 ∧ (o.2.2.2.1.length : Int) ≤ 4000 ∧ ∀ r ∈ o.2.2.1, (r.length : Int) ≤ 4 := by
  have h1 := h.part.q.le h.fin
  have h2 := h.fin.le
  have h3 := hd.n1
  have h4 := h.all
  have h5 := h.part.l3
  have h6 := hd.let1
  refine ⟨by omega, by omega, fun r hr => ?_⟩
  obtain ⟨j, j0, j1, rfl⟩ := (ex_ix (P := fun x => x = r)).1 ⟨r, hr, rfl⟩
  have := (h.part.row j j0 j1).len
  omega

theorem r1_May_L6_spec {letters : Int} {w : List Int} (hL : 1 ≤ letters ∧ letters ≤ 4) (hw : w.length ≤ (60 : Int)) : ∀ (n : Nat) (i : Int), 0 ≤ i → i ≤ w.length → (w.length - i).toNat = n → (∀ j : Int, 0 ≤ j → j < i → 0 ≤ ix w j ∧ ix w j < letters) → r1_May_L6 letters w i = some (mayE letters w) := by
  intro n
  induction n with
  | zero =>
    intro i h0 h1 hn h
    rw [r1_May_L6_eq]; unfold r1_May_L6_B
    (try dsimp only); (repeat' first | (with_reducible refine G_to ?_ ?_; focus (first | omega | (unfold fits; omega) | (unfold room; (try simp only [List.length_append, List.length_cons, List.length_nil]); omega))) | (with_reducible refine both_to ?_ ?_) | (with_reducible refine itet_to ?_) | (with_reducible refine itef_to ?_) | (with_reducible refine ite_to (fun _ => ?_) (fun _ => ?_))) <;> try (exfalso; omega)
    · rw [mayE_ok hL hw (fun j a b => h j a (by omega))]
  | succ n ih =>
    intro i h0 h1 hn h
    rw [r1_May_L6_eq]; unfold r1_May_L6_B
    (try dsimp only); (repeat' first | (with_reducible refine G_to ?_ ?_; focus (first | omega | (unfold fits; omega) | (unfold room; (try simp only [List.length_append, List.length_cons, List.length_nil]); omega))) | (with_reducible refine both_to ?_ ?_) | (with_reducible refine itet_to ?_) | (with_reducible refine itef_to ?_) | (with_reducible refine ite_to (fun _ => ?_) (fun _ => ?_))) <;> try (exfalso; omega)
    · rw [mayE_bad hL hw (i := i) (by omega) (by omega)]
    · rw [mayE_bad hL hw (i := i) (by omega) (by omega)]
    · exact ih _ (by omega) (by omega) (by omega) (below_succ h (by omega))
theorem r1_May_spec {letters : Int} {w : List Int} : r1_May letters w = some (mayE letters w) := by
  unfold r1_May
  (try dsimp only); (repeat' first | (with_reducible refine G_to ?_ ?_; focus (first | omega | (unfold fits; omega) | (unfold room; (try simp only [List.length_append, List.length_cons, List.length_nil]); omega))) | (with_reducible refine both_to ?_ ?_) | (with_reducible refine itet_to ?_) | (with_reducible refine itef_to ?_) | (with_reducible refine ite_to (fun _ => ?_) (fun _ => ?_))) <;> try (exfalso; omega)
  · rw [mayE_range (by omega)]
  · rw [mayE_range (by omega)]
  · rw [mayE_size (by omega) (by omega)]
  · exact r1_May_L6_spec (by omega) (by omega) _ 0 (by omega) (by omega) rfl (fun j a b => by omega)

theorem r3_After_spec {d : Int × Int × List (List Int) × List Int × Unit} {L : Int} (h : Tab L d.2.2.1) {w : List Int} (hw : ∀ a ∈ w, 0 ≤ a ∧ a < L) (hl : w.length ≤ 1000000) {q : Int} (q0 : 0 ≤ q) (q1 : q < d.2.2.1.length) : r3_After d q w = some (wlk d.2.2.1 q w) := by
  have key : ∀ (n : Nat) (t q : Int), (w.length - t).toNat = n → 0 ≤ t → t ≤ w.length → 0 ≤ q → q < d.2.2.1.length → r3_After_L2 d w q t = some (wlk d.2.2.1 q (w.drop t.toNat)) := by
    intro n
    induction n with
    | zero =>
      intro t q hn h0 h1 q0 q1
      rw [r3_After_L2_eq]; unfold r3_After_L2_B
      (try dsimp only); (repeat' first | (with_reducible refine G_to ?_ ?_; focus (first | omega | (unfold fits; omega) | (unfold room; (try simp only [List.length_append, List.length_cons, List.length_nil]); omega))) | (with_reducible refine both_to ?_ ?_) | (with_reducible refine itet_to ?_) | (with_reducible refine itef_to ?_) | (with_reducible refine ite_to (fun _ => ?_) (fun _ => ?_))) <;> try (exfalso; omega)
      rw [List.drop_of_length_le (by omega)]; rfl
    | succ n ih =>
      intro t q hn h0 h1 q0 q1
      have ha := hw _ (ix_mem h0 (by omega : t < w.length))
      have hr := h.rowlen q0 q1
      have hs := h.stpb q0 q1 ha.1 ha.2
      rw [r3_After_L2_eq]; unfold r3_After_L2_B
      (try dsimp only); (repeat' first | (with_reducible refine G_to ?_ ?_; focus (first | omega | (unfold fits; omega) | (unfold room; (try simp only [List.length_append, List.length_cons, List.length_nil]); omega))) | (with_reducible refine both_to ?_ ?_) | (with_reducible refine itet_to ?_) | (with_reducible refine itef_to ?_) | (with_reducible refine ite_to (fun _ => ?_) (fun _ => ?_))) <;> try (exfalso; omega)
      rw [ix_drop h0 (by omega)]
      exact ih (t + 1) _ (by omega) (by omega) (by omega) hs.1 hs.2
  exact key _ 0 q rfl (by omega) (by omega) q0 q1

abbrev Row2 := List (Int × Int × Unit)
abbrev Tw := Int × Int × (List Row2) × (List Int) × Unit
def TBig (d : Tw) : Prop := d.2.2.1.length < 1 ∨ 4 < d.2.2.1.length
def TRag (d : Tw) : Prop := ¬ (d.2.2.2.1.length : Int) = d.2.2.1.length ∨ ∃ r ∈ d.2.2.1, ¬ (r.length : Int) = d.1 + 2
def badX (n : Int) (x : Int × Int × Unit) : Prop := (x.1 < 0 ∨ n ≤ x.1) ∨ (¬ x.2.1 = 1 ∧ ¬ x.2.1 = -1)
def TOut (d : Tw) : Prop := (d.2.1 < 0 ∨ (d.2.2.1.length : Int) ≤ d.2.1) ∨ (∃ r ∈ d.2.2.1, ∃ x ∈ r, badX (d.2.2.1.length : Int) x) ∨ (∃ s ∈ d.2.2.2.1, ¬ s = 0 ∧ ¬ s = 1)
open Classical in
noncomputable def twE (d : Tw) : Int := if d.1 < 1 ∨ 4 < d.1 then 2 else if TBig d then 1 else if TRag d then 3 else if TOut d then 2 else 0
structure TOk (d : Tw) : Prop where
  let1 : 1 ≤ d.1 ∧ d.1 ≤ 4
  n1 : 1 ≤ d.2.2.1.length ∧ d.2.2.1.length ≤ 4
  st : 0 ≤ d.2.1 ∧ d.2.1 < d.2.2.1.length
  mkl : (d.2.2.2.1.length : Int) = d.2.2.1.length
  row : ∀ r ∈ d.2.2.1, (r.length : Int) = d.1 + 2
  to : ∀ r ∈ d.2.2.1, ∀ x ∈ r, ¬ badX (d.2.2.1.length : Int) x
theorem twE_zero {d : Tw} (h : twE d = 0) : TOk d := by
  unfold twE at h
  by_cases c1 : d.1 < 1 ∨ 4 < d.1
  · rw [if_pos c1] at h; omega
  rw [if_neg c1] at h
  by_cases c2 : TBig d
  · rw [if_pos c2] at h; omega
  rw [if_neg c2] at h
  by_cases c3 : TRag d
  · rw [if_pos c3] at h; omega
  rw [if_neg c3] at h
  by_cases c4 : TOut d
  · rw [if_pos c4] at h; omega
  unfold TBig at c2; unfold TRag at c3; unfold TOut at c4
  refine ⟨by omega, by omega, ?_, ?_, fun r hr => ?_, fun r hr x hx hb => c4 (.inr (.inl ⟨r, hr, x, hx, hb⟩))⟩
  · have : ¬ (d.2.1 < 0 ∨ (d.2.2.1.length : Int) ≤ d.2.1) := fun h => c4 (.inl h)
    omega
  · exact Decidable.not_not.1 fun h => c3 (.inl h)
  · by_cases e : (r.length : Int) = d.1 + 2
    · exact e
    · exact absurd (.inr ⟨r, hr, e⟩) c3
theorem two_Check_spec {d : Tw} : two_Check d = some (twE d) := by
  unfold two_Check twE
  by_cases c1 : d.1 < 1 ∨ 4 < d.1
  · rw [if_pos c1]
    (try dsimp only); (repeat' first | (with_reducible refine G_to ?_ ?_; focus (first | omega | (unfold fits; omega) | (unfold room; (try simp only [List.length_append, List.length_cons, List.length_nil]); omega))) | (with_reducible refine both_to ?_ ?_) | (with_reducible refine itet_to ?_) | (with_reducible refine itef_to ?_) | (with_reducible refine ite_to (fun _ => ?_) (fun _ => ?_))) <;> try (exfalso; omega)
    all_goals rfl
  rw [if_neg c1]
  by_cases c2 : TBig d
  · rw [if_pos c2]; unfold TBig at c2
    (try dsimp only); (repeat' first | (with_reducible refine G_to ?_ ?_; focus (first | omega | (unfold fits; omega) | (unfold room; (try simp only [List.length_append, List.length_cons, List.length_nil]); omega))) | (with_reducible refine both_to ?_ ?_) | (with_reducible refine itet_to ?_) | (with_reducible refine itef_to ?_) | (with_reducible refine ite_to (fun _ => ?_) (fun _ => ?_))) <;> try (exfalso; omega)
    all_goals rfl
  rw [if_neg c2]
  unfold TBig at c2
  by_cases c3 : (d.2.2.2.1.length : Int) = d.2.2.1.length
  case neg =>
    rw [if_pos (show TRag d from .inl c3)]
    (try dsimp only); (repeat' first | (with_reducible refine G_to ?_ ?_; focus (first | omega | (unfold fits; omega) | (unfold room; (try simp only [List.length_append, List.length_cons, List.length_nil]); omega))) | (with_reducible refine both_to ?_ ?_) | (with_reducible refine itet_to ?_) | (with_reducible refine itef_to ?_) | (with_reducible refine ite_to (fun _ => ?_) (fun _ => ?_))) <;> try (exfalso; omega)
    all_goals rfl
  (try dsimp only); (repeat' first | (with_reducible refine G_to ?_ ?_; focus (first | omega | (unfold fits; omega) | (unfold room; (try simp only [List.length_append, List.length_cons, List.length_nil]); omega))) | (with_reducible refine both_to ?_ ?_) | (with_reducible refine itet_to ?_) | (with_reducible refine itef_to ?_) | (with_reducible refine ite_to (fun _ => ?_) (fun _ => ?_))) <;> try (exfalso; omega)
  have k1 : Tells (slices_ContainsFunc d.2.2.1 d) (∃ r ∈ d.2.2.1, ¬ (r.length : Int) = d.1 + 2) := contains_tells (f := fun r => two_Check_1 r d) (slices_IndexFunc_L2_eq d.2.2.1 d) (by omega) (fun x _ => by unfold two_Check_1; rw [G_pos (by unfold fits; omega)]; exact Tells.dec Iff.rfl)
  have nn : ∀ q t : Int, Tells (two_Check_2 q t) (q < 0 ∨ t ≤ q) := fun q t => by
    unfold two_Check_2
    by_cases h : q < 0
    · rw [if_pos (decide_eq_true h)]; exact Tells.of (by simp [h])
    · rw [if_neg (by simpa using h)]; exact Tells.dec (by omega)
  have k31 : ∀ (x : Int × Int × Unit) (n : Int), ∃ b, two_Check_3_1 x n = some (b, n) ∧ (b = true ↔ badX n x) := fun x n => by
    unfold two_Check_3_1 badX
    obtain ⟨b, hb, hb2⟩ := nn x.1 n
    rw [hb]
    cases b with
    | true => exact ⟨true, rfl, by simp [hb2.1 rfl]⟩
    | false =>
      have hnn : ¬ (x.1 < 0 ∨ n ≤ x.1) := fun h => by have := hb2.2 h; cases this
      show ∃ b, (if (false = true) then some (true, n) else if decide (¬ x.2.1 = 1) = true then some (decide (¬ x.2.1 = -1), n) else some (false, n)) = some (b, n) ∧ _
      rw [if_neg (by simp)]
      by_cases h1 : x.2.1 = 1
      · rw [if_neg (by simp [h1])]; exact ⟨false, rfl, by simp [h1]; omega⟩
      · rw [if_pos (by simp [h1])]; exact ⟨_, rfl, by simp [h1]; omega⟩
  have k3 : ∀ r ∈ d.2.2.1, r.length ≤ 1000 → ∃ b, two_Check_3 r (d.2.2.1.length : Int) = some (b, (d.2.2.1.length : Int)) ∧ (b = true ↔ ∃ x ∈ r, badX (d.2.2.1.length : Int) x) := fun r _ hr => by
    obtain ⟨b, hb, hb2⟩ := contains_tells2 (f := two_Check_3_1) (c := (d.2.2.1.length : Int)) (P := badX (d.2.2.1.length : Int)) (slices_IndexFunc_2_L2_eq r) (by omega) (fun x _ => k31 x _)
    refine ⟨b, ?_, hb2⟩
    unfold two_Check_3
    exact bind_to hb rfl
  have k4 : Tells (slices_ContainsFunc_3 d.2.2.2.1) (∃ s ∈ d.2.2.2.1, ¬ s = 0 ∧ ¬ s = 1) := contains_tells (f := fun q => two_Check_4 q) (slices_IndexFunc_3_L2_eq d.2.2.2.1) (by omega) (fun x _ => by
    unfold two_Check_4
    by_cases h : x = 0
    · rw [if_neg (by simp [h])]; exact Tells.of (by simp [h])
    · rw [if_pos (by simp [h])]; exact Tells.dec (by simp [h]))
  refine k1.to (fun h => by rw [if_pos (show TRag d from .inr h)]) (fun h => ?_)
  rw [if_neg (show ¬ TRag d from fun hh => hh.elim (fun e => e c3) h)]
  have hr : ∀ r ∈ d.2.2.1, r.length ≤ 1000 := fun r hr => by
    by_cases e : (r.length : Int) = d.1 + 2
    · omega
    · exact absurd ⟨r, hr, e⟩ h
  refine (nn _ _).to (fun h => by rw [if_pos (show TOut d from .inl h)]) (fun h1 => ?_)
  obtain ⟨b, hb, hb2⟩ : ∃ b, slices_ContainsFunc_1 d.2.2.1 (d.2.2.1.length : Int) = some (b, (d.2.2.1.length : Int)) ∧ (b = true ↔ ∃ r ∈ d.2.2.1, ∃ q ∈ r, badX (d.2.2.1.length : Int) q) :=
    contains_tells2 (f := two_Check_3) (slices_IndexFunc_1_L2_eq d.2.2.1) (by omega) (fun r hrm => k3 r hrm (hr r hrm))
  rw [hb]
  refine bind_to rfl ?_
  refine iteb_to (fun h => by rw [if_pos (show TOut d from .inr (.inl (hb2.1 h)))]) (fun h2 => ?_)
  refine k4.to (fun h => by rw [if_pos (show TOut d from .inr (.inr h))]) (fun h3 => ?_)
  rw [if_neg (show ¬ TOut d from fun h => h.elim h1 (fun h => h.elim (fun h => by rw [hb2.2 h] at h2; cases h2) h3))]
theorem r25_Check_spec {d : Tw} : r25_Check d = some (twE d) := by
  unfold r25_Check twE
  by_cases c1 : d.1 < 1 ∨ 4 < d.1
  · rw [if_pos c1]
    (try dsimp only); (repeat' first | (with_reducible refine G_to ?_ ?_; focus (first | omega | (unfold fits; omega) | (unfold room; (try simp only [List.length_append, List.length_cons, List.length_nil]); omega))) | (with_reducible refine both_to ?_ ?_) | (with_reducible refine itet_to ?_) | (with_reducible refine itef_to ?_) | (with_reducible refine ite_to (fun _ => ?_) (fun _ => ?_))) <;> try (exfalso; omega)
    all_goals rfl
  rw [if_neg c1]
  by_cases c2 : TBig d
  · rw [if_pos c2]; unfold TBig at c2
    (try dsimp only); (repeat' first | (with_reducible refine G_to ?_ ?_; focus (first | omega | (unfold fits; omega) | (unfold room; (try simp only [List.length_append, List.length_cons, List.length_nil]); omega))) | (with_reducible refine both_to ?_ ?_) | (with_reducible refine itet_to ?_) | (with_reducible refine itef_to ?_) | (with_reducible refine ite_to (fun _ => ?_) (fun _ => ?_))) <;> try (exfalso; omega)
    all_goals rfl
  rw [if_neg c2]
  unfold TBig at c2
  by_cases c3 : (d.2.2.2.1.length : Int) = d.2.2.1.length
  case neg =>
    rw [if_pos (show TRag d from .inl c3)]
    (try dsimp only); (repeat' first | (with_reducible refine G_to ?_ ?_; focus (first | omega | (unfold fits; omega) | (unfold room; (try simp only [List.length_append, List.length_cons, List.length_nil]); omega))) | (with_reducible refine both_to ?_ ?_) | (with_reducible refine itet_to ?_) | (with_reducible refine itef_to ?_) | (with_reducible refine ite_to (fun _ => ?_) (fun _ => ?_))) <;> try (exfalso; omega)
    all_goals rfl
  (try dsimp only); (repeat' first | (with_reducible refine G_to ?_ ?_; focus (first | omega | (unfold fits; omega) | (unfold room; (try simp only [List.length_append, List.length_cons, List.length_nil]); omega))) | (with_reducible refine both_to ?_ ?_) | (with_reducible refine itet_to ?_) | (with_reducible refine itef_to ?_) | (with_reducible refine ite_to (fun _ => ?_) (fun _ => ?_))) <;> try (exfalso; omega)
  refine scan_to (len := (d.2.2.1.length : Int)) (bad := fun t => ¬ ((ix d.2.2.1 t).length : Int) = d.1 + 2) (by omega) (fun t h0 h1 => ⟨fun hb => ?_, fun hb => ?_⟩) (fun hh => ?_)
  · rw [r25_Check_L9_eq]; unfold r25_Check_L9_B
    (try dsimp only); (repeat' first | (with_reducible refine G_to ?_ ?_; focus (first | omega | (unfold fits; omega) | (unfold room; (try simp only [List.length_append, List.length_cons, List.length_nil]); omega))) | (with_reducible refine both_to ?_ ?_) | (with_reducible refine itet_to ?_) | (with_reducible refine itef_to ?_) | (with_reducible refine ite_to (fun _ => ?_) (fun _ => ?_))) <;> try (exfalso; omega)
    rw [if_pos (show TRag d from .inr (ex_ix.2 ⟨t, by omega, by omega, hb⟩))]
  · conv => lhs; rw [r25_Check_L9_eq]; unfold r25_Check_L9_B
    (try dsimp only); (repeat' first | (with_reducible refine G_to ?_ ?_; focus (first | omega | (unfold fits; omega) | (unfold room; (try simp only [List.length_append, List.length_cons, List.length_nil]); omega))) | (with_reducible refine both_to ?_ ?_) | (with_reducible refine itet_to ?_) | (with_reducible refine itef_to ?_) | (with_reducible refine ite_to (fun _ => ?_) (fun _ => ?_))) <;> try (exfalso; omega)
    all_goals first | rfl | (exfalso; exact hb ‹_›) | (exfalso; exact absurd ‹_› hb)
  rw [if_neg (show ¬ TRag d from fun h => h.elim (fun e => e c3) (fun h => by obtain ⟨i, i0, i1, i2⟩ := ex_ix.1 h; exact hh i i0 i1 i2))]
  rw [r25_Check_L9_eq]; unfold r25_Check_L9_B
  by_cases c4 : d.2.1 < 0 ∨ (d.2.2.1.length : Int) ≤ d.2.1
  · rw [if_pos (show TOut d from .inl c4)]
    (try dsimp only); (repeat' first | (with_reducible refine G_to ?_ ?_; focus (first | omega | (unfold fits; omega) | (unfold room; (try simp only [List.length_append, List.length_cons, List.length_nil]); omega))) | (with_reducible refine both_to ?_ ?_) | (with_reducible refine itet_to ?_) | (with_reducible refine itef_to ?_) | (with_reducible refine ite_to (fun _ => ?_) (fun _ => ?_))) <;> try (exfalso; omega)
    all_goals rfl
  (try dsimp only); (repeat' first | (with_reducible refine G_to ?_ ?_; focus (first | omega | (unfold fits; omega) | (unfold room; (try simp only [List.length_append, List.length_cons, List.length_nil]); omega))) | (with_reducible refine both_to ?_ ?_) | (with_reducible refine itet_to ?_) | (with_reducible refine itef_to ?_) | (with_reducible refine ite_to (fun _ => ?_) (fun _ => ?_))) <;> try (exfalso; omega)
  have hlen : ∀ t : Int, 0 ≤ t → t < d.2.2.1.length → ((ix d.2.2.1 t).length : Int) = d.1 + 2 := fun t a b => Decidable.not_not.1 (hh t a b)
  refine scan_to (len := (d.2.2.1.length : Int)) (bad := fun t => (∃ q ∈ ix d.2.2.1 t, badX (d.2.2.1.length : Int) q) ∨ (¬ ix d.2.2.2.1 t = 0 ∧ ¬ ix d.2.2.2.1 t = 1)) (by omega) (fun t h0 h1 => ⟨fun hb => ?_, fun hb => ?_⟩) (fun hh2 => ?_)
  · have hout : TOut d := by
      rcases hb with hb | hb
      · exact .inr (.inl (ex_ix.2 ⟨t, h0, h1, hb⟩))
      · exact .inr (.inr (ex_ix.2 ⟨t, h0, by omega, hb⟩))
    rw [if_pos hout]
    rw [r25_Check_L16_eq]; unfold r25_Check_L16_B
    (try dsimp only); (repeat' first | (with_reducible refine G_to ?_ ?_; focus (first | omega | (unfold fits; omega) | (unfold room; (try simp only [List.length_append, List.length_cons, List.length_nil]); omega))) | (with_reducible refine both_to ?_ ?_) | (with_reducible refine itet_to ?_) | (with_reducible refine itef_to ?_) | (with_reducible refine ite_to (fun _ => ?_) (fun _ => ?_))) <;> try (exfalso; omega)
    have hlt := hlen t h0 h1
    refine scan_to (len := d.1 + 2) (bad := fun a => badX (d.2.2.1.length : Int) (ix (ix d.2.2.1 t) a)) (by omega) (fun a a0 a1 => ⟨fun hb => ?_, fun hb => ?_⟩) (fun hh3 => ?_)
    · unfold badX at hb
      rw [r25_Check_L19_eq]; unfold r25_Check_L19_B
      (try dsimp only); (repeat' first | (with_reducible refine G_to ?_ ?_; focus (first | omega | (unfold fits; omega) | (unfold room; (try simp only [List.length_append, List.length_cons, List.length_nil]); omega))) | (with_reducible refine both_to ?_ ?_) | (with_reducible refine itet_to ?_) | (with_reducible refine itef_to ?_) | (with_reducible refine ite_to (fun _ => ?_) (fun _ => ?_))) <;> try (exfalso; omega)
      all_goals first | rfl | (exfalso; exact absurd ‹_› ‹_›) | skip
      all_goals (exfalso; omega)
    · unfold badX at hb
      conv => lhs; rw [r25_Check_L19_eq]; unfold r25_Check_L19_B
      (try dsimp only); (repeat' first | (with_reducible refine G_to ?_ ?_; focus (first | omega | (unfold fits; omega) | (unfold room; (try simp only [List.length_append, List.length_cons, List.length_nil]); omega))) | (with_reducible refine both_to ?_ ?_) | (with_reducible refine itet_to ?_) | (with_reducible refine itef_to ?_) | (with_reducible refine ite_to (fun _ => ?_) (fun _ => ?_))) <;> try (exfalso; omega)
      all_goals first | rfl | (exfalso; omega)
    · rcases hb with hb | hb
      · exfalso
        obtain ⟨i, i0, i1, i2⟩ := ex_ix.1 hb
        exact hh3 i i0 (by omega) i2
      · rw [r25_Check_L19_eq]; unfold r25_Check_L19_B
        (try dsimp only); (repeat' first | (with_reducible refine G_to ?_ ?_; focus (first | omega | (unfold fits; omega) | (unfold room; (try simp only [List.length_append, List.length_cons, List.length_nil]); omega))) | (with_reducible refine both_to ?_ ?_) | (with_reducible refine itet_to ?_) | (with_reducible refine itef_to ?_) | (with_reducible refine ite_to (fun _ => ?_) (fun _ => ?_))) <;> try (exfalso; omega)
        all_goals first | rfl | (exfalso; exact hb.1 ‹_›) | (exfalso; exact hb.2 (Decidable.not_not.1 ‹_›)) | (exfalso; exact hb.2 ‹_›) | (exfalso; exact hb.1 (Decidable.not_not.1 ‹_›))
  · have hlt := hlen t h0 h1
    have hb1 : ¬ ∃ q ∈ ix d.2.2.1 t, badX (d.2.2.1.length : Int) q := fun h => hb (.inl h)
    have hb2 : ¬ (¬ ix d.2.2.2.1 t = 0 ∧ ¬ ix d.2.2.2.1 t = 1) := fun h => hb (.inr h)
    conv => lhs; rw [r25_Check_L16_eq]; unfold r25_Check_L16_B
    (try dsimp only); (repeat' first | (with_reducible refine G_to ?_ ?_; focus (first | omega | (unfold fits; omega) | (unfold room; (try simp only [List.length_append, List.length_cons, List.length_nil]); omega))) | (with_reducible refine both_to ?_ ?_) | (with_reducible refine itet_to ?_) | (with_reducible refine itef_to ?_) | (with_reducible refine ite_to (fun _ => ?_) (fun _ => ?_))) <;> try (exfalso; omega)
    refine scan_to (len := d.1 + 2) (bad := fun a => badX (d.2.2.1.length : Int) (ix (ix d.2.2.1 t) a)) (by omega) (fun a a0 a1 => ⟨fun hb' => ?_, fun hb => ?_⟩) (fun hh3 => ?_)
    · exfalso; exact hb1 (ex_ix.2 ⟨a, a0, by omega, hb'⟩)
    · unfold badX at hb
      conv => lhs; rw [r25_Check_L19_eq]; unfold r25_Check_L19_B
      (try dsimp only); (repeat' first | (with_reducible refine G_to ?_ ?_; focus (first | omega | (unfold fits; omega) | (unfold room; (try simp only [List.length_append, List.length_cons, List.length_nil]); omega))) | (with_reducible refine both_to ?_ ?_) | (with_reducible refine itet_to ?_) | (with_reducible refine itef_to ?_) | (with_reducible refine ite_to (fun _ => ?_) (fun _ => ?_))) <;> try (exfalso; omega)
      all_goals first | rfl | (exfalso; omega)
    · rw [r25_Check_L19_eq]; unfold r25_Check_L19_B
      (try dsimp only); (repeat' first | (with_reducible refine G_to ?_ ?_; focus (first | omega | (unfold fits; omega) | (unfold room; (try simp only [List.length_append, List.length_cons, List.length_nil]); omega))) | (with_reducible refine both_to ?_ ?_) | (with_reducible refine itet_to ?_) | (with_reducible refine itef_to ?_) | (with_reducible refine ite_to (fun _ => ?_) (fun _ => ?_))) <;> try (exfalso; omega)
      all_goals first | rfl | (exfalso; exact hb2 ⟨‹_›, ‹_›⟩)
  rw [if_neg (show ¬ TOut d from fun h => h.elim c4 (fun h => h.elim (fun h => by
    obtain ⟨t, h0, h1, hb⟩ := ex_ix.1 h
    exact hh2 t h0 h1 (.inl hb)) (fun h => by
    obtain ⟨t, h0, h1, hb⟩ := ex_ix.1 h
    exact hh2 t h0 (by omega) (.inr hb))))]
  rw [r25_Check_L16_eq]; unfold r25_Check_L16_B
  (try dsimp only); (repeat' first | (with_reducible refine G_to ?_ ?_; focus (first | omega | (unfold fits; omega) | (unfold room; (try simp only [List.length_append, List.length_cons, List.length_nil]); omega))) | (with_reducible refine both_to ?_ ?_) | (with_reducible refine itet_to ?_) | (with_reducible refine itef_to ?_) | (with_reducible refine ite_to (fun _ => ?_) (fun _ => ?_))) <;> try (exfalso; omega)
  all_goals rfl

theorem pigeonF : ∀ (n : Nat) (g : Nat → Nat), (∀ i, i ≤ n → g i < n) → ∃ i j, i < j ∧ j ≤ n ∧ g i = g j
  | 0, g, h => absurd (h 0 (Nat.le_refl _)) (by omega)
  | n + 1, g, h => by
    by_cases he : ∃ i, i ≤ n ∧ g i = g (n + 1)
    · obtain ⟨i, h1, h2⟩ := he; exact ⟨i, n + 1, by omega, by omega, h2⟩
    · have hne : ∀ i, i ≤ n → g i ≠ g (n + 1) := fun i hi e => he ⟨i, hi, e⟩
      obtain ⟨i, j, h1, h2, h3⟩ := pigeonF n (fun i => if g i < g (n + 1) then g i else g i - 1) (fun i hi => by
        have := h i (by omega); have := h (n + 1) (by omega); have := hne i hi
        show (if g i < g (n + 1) then g i else g i - 1) < n
        split <;> omega)
      refine ⟨i, j, h1, by omega, ?_⟩
      have a := hne i (by omega); have b := hne j (by omega)
      split at h3 <;> split at h3 <;> omega
def itn {A : Type} (f : A → A) : Nat → A → A
  | 0, q => q
  | k + 1, q => f (itn f k q)
theorem itn_add {A : Type} (f : A → A) (a : Nat) : ∀ (b : Nat) (q : A), itn f (a + b) q = itn f a (itn f b q) := by
  induction a with
  | zero => intro b q; rw [Nat.zero_add]; rfl
  | succ a ih => intro b q; rw [Nat.succ_add]; show f _ = f _; rw [ih]
theorem itn_succ {A : Type} (f : A → A) (k : Nat) (q : A) : itn f (k + 1) q = itn f k (f q) := itn_add f k 1 q
theorem itn_mul {A : Type} {f : A → A} {p : Nat} {q : A} (h : itn f p q = q) : ∀ k, itn f (k * p) q = q
  | 0 => by rw [Nat.zero_mul]; rfl
  | k + 1 => by rw [Nat.succ_mul, itn_add, h, itn_mul h k]
theorem itn_fix {A : Type} {f : A → A} {q : A} (h : f q = q) : ∀ k, itn f k q = q
  | 0 => rfl
  | k + 1 => by show f (itn f k q) = q; rw [itn_fix h k, h]
/-- What halts at all halts in as many steps as there are places. -/
theorem halts {A : Type} {f : A → A} {S : A → Prop} {e : A → Nat} {n : Nat} {x : A} (hS : ∀ y, S y → f y = y) (he : ∀ i, i ≤ n → ¬ S (itn f i x) → e (itn f i x) < n)
    (hi : ∀ i j, i ≤ n → j ≤ n → ¬ S (itn f i x) → ¬ S (itn f j x) → e (itn f i x) = e (itn f j x) → itn f i x = itn f j x) {m : Nat} (hm : S (itn f m x)) : S (itn f n x) := by
  refine Classical.byContradiction fun hn => ?_
  have hno : ∀ i, i ≤ n → ¬ S (itn f i x) := fun i hin hs => hn (by
    have : n = (n - i) + i := by omega
    rw [this, itn_add, itn_fix (hS _ hs)]; exact hs)
  obtain ⟨i, j, h1, h2, h3⟩ := pigeonF n (fun i => e (itn f i x)) (fun i hin => he i hin (hno i hin))
  have h4 := hi i j (by omega) h2 (hno i (by omega)) (hno j h2) h3
  have hp : itn f (j - i) (itn f i x) = itn f i x := by
    rw [← itn_add, show j - i + i = j from by omega, ← h4]
  have hk := itn_mul hp m
  have hge : m ≤ m * (j - i) + i := by
    have : m * 1 ≤ m * (j - i) := Nat.mul_le_mul_left m (by omega)
    omega
  rw [← itn_add] at hk
  have e2 : m * (j - i) + i = (m * (j - i) + i - m) + m := by omega
  rw [e2, itn_add, itn_fix (hS _ hm)] at hk
  exact hno i (by omega) (by rw [← hk]; exact hm)

/- SHEPHERDSON: tables of what goes to and fro. -/
noncomputable def nq (t : Tw) (q a : Int) : Int := (ix (ix t.2.2.1 q) a).1
noncomputable def dr (t : Tw) (q a : Int) : Int := (ix (ix t.2.2.1 q) a).2.1
open Classical in
noncomputable def beh (t : Tw) (A : Int → Int) (a : Int) : Nat → Int → Int
  | 0, _ => -1
  | m + 1, q => if dr t q a = 1 then nq t q a else if A (nq t q a) < 0 then -1 else beh t A a m (A (nq t q a))
def StR (t : Tw) (q : Int) : Prop := 0 ≤ q ∧ q < t.2.2.1.length
theorem TOk.cell {t : Tw} (h : TOk t) {q a : Int} (hq : StR t q) (a0 : 0 ≤ a) (a1 : a < t.1 + 2) : StR t (nq t q a) ∧ (dr t q a = 1 ∨ dr t q a = -1) := by
  have hr := ix_mem hq.1 hq.2
  have hl := h.row _ hr
  have hb := h.to _ hr _ (ix_mem (l := ix t.2.2.1 q) a0 (by omega))
  unfold badX at hb
  unfold StR nq dr
  omega
open Classical in
/-- One step on the places up to k. -/
noncomputable def sk (t : Tw) (tp : Int → Int) (k : Int) (c : Int × Int) : Int × Int := if 0 ≤ c.2 ∧ c.2 ≤ k then (nq t c.1 (tp c.2), c.2 + dr t c.1 (tp c.2)) else c
theorem sk_in {t : Tw} {tp : Int → Int} {k : Int} {c : Int × Int} (h : 0 ≤ c.2 ∧ c.2 ≤ k) : sk t tp k c = (nq t c.1 (tp c.2), c.2 + dr t c.1 (tp c.2)) := by unfold sk; rw [if_pos h]
theorem sk_out {t : Tw} {tp : Int → Int} {k : Int} {c : Int × Int} (h : ¬ (0 ≤ c.2 ∧ c.2 ≤ k)) : sk t tp k c = c := by unfold sk; rw [if_neg h]
/-- One leaves the first places to the right in a state. -/
def Lv (t : Tw) (tp : Int → Int) (k : Int) (c : Int × Int) (q : Int) : Prop := ∃ n, itn (sk t tp k) n c = (q, k + 1)
section
variable {t : Tw} {tp : Int → Int}
theorem Lv.uniq {k : Int} {c : Int × Int} {q r : Int} (h : Lv t tp k c q) (g : Lv t tp k c r) : q = r := by
  obtain ⟨n, hn⟩ := h; obtain ⟨m, hm⟩ := g
  have hf : ∀ (x : Int) (j : Nat), itn (sk t tp k) j (x, k + 1) = (x, k + 1) := fun x j => itn_fix (sk_out (by show ¬ (0 ≤ k + 1 ∧ k + 1 ≤ k); omega)) j
  rcases Nat.le_total n m with h | h
  · have : m = (m - n) + n := by omega
    rw [this, itn_add, hn, hf] at hm
    exact (Prod.mk.inj hm).1
  · have : n = (n - m) + m := by omega
    rw [this, itn_add, hm, hf] at hn
    exact (Prod.mk.inj hn).1.symm
theorem Lv.up {k q : Int} : ∀ {n : Nat} {c : Int × Int}, itn (sk t tp k) n c = (q, k + 1) → ∃ m, itn (sk t tp (k + 1)) m c = (q, k + 1)
  | 0, c, h => ⟨0, h⟩
  | n + 1, c, h => by
    rw [itn_succ] at h
    by_cases e : 0 ≤ c.2 ∧ c.2 ≤ k
    · obtain ⟨m, hm⟩ := Lv.up h
      refine ⟨m + 1, ?_⟩
      rw [itn_succ, sk_in (k := k + 1) (by omega), ← sk_in (t := t) (tp := tp) e]; exact hm
    · rw [sk_out e] at h; exact Lv.up h
theorem Lv.trans {k q : Int} {c e : Int × Int} (h : ∃ m, itn (sk t tp k) m c = e) (g : Lv t tp k e q) : Lv t tp k c q := by
  obtain ⟨m, hm⟩ := h; obtain ⟨n, hn⟩ := g
  exact ⟨n + m, by rw [itn_add, hm]; exact hn⟩
theorem Lv.down (h : TOk t) {k q : Int} (hk : -1 ≤ k) (ht : ∀ p, 0 ≤ p → p ≤ k → 0 ≤ tp p ∧ tp p < t.1 + 2) : ∀ {n : Nat} {c : Int × Int}, StR t c.1 → c.2 ≤ k + 1 → itn (sk t tp (k + 1)) n c = (q, k + 2) →
    ∃ r m, m ≤ n ∧ StR t r ∧ Lv t tp k c r ∧ itn (sk t tp (k + 1)) m (r, k + 1) = (q, k + 2)
  | 0, c, hc, hp, h0 => by
    have : c = (q, k + 2) := h0
    rw [this] at hp; exact absurd hp (by show ¬ (k + 2 ≤ k + 1); omega)
  | n + 1, c, hc, hp, h0 => by
    by_cases e : c.2 = k + 1
    · refine ⟨c.1, n + 1, Nat.le_refl _, hc, ⟨0, ?_⟩, ?_⟩
      · show c = (c.1, k + 1); rw [← e]
      · have e3 : ((c.1, k + 1) : Int × Int) = c := by rw [← e]
        rw [e3]; exact h0
    by_cases e2 : 0 ≤ c.2
    · have hin : 0 ≤ c.2 ∧ c.2 ≤ k := by omega
      rw [itn_succ, sk_in (k := k + 1) (by omega)] at h0
      have hcell := h.cell hc (ht _ hin.1 hin.2).1 (ht _ hin.1 hin.2).2
      obtain ⟨r, m, h1, h2, ⟨j, h3⟩, h4⟩ := Lv.down h hk ht (c := (nq t c.1 (tp c.2), c.2 + dr t c.1 (tp c.2))) hcell.1 (by show c.2 + dr t c.1 (tp c.2) ≤ k + 1; have := hcell.2; omega) h0
      exact ⟨r, m, by omega, h2, ⟨j + 1, by rw [itn_succ, sk_in hin]; exact h3⟩, h4⟩
    · rw [itn_fix (sk_out (by omega))] at h0
      rw [h0] at hp; exact absurd hp (by show ¬ (k + 2 ≤ k + 1); omega)
/-- What a table says of the places up to k. -/
structure TC (t : Tw) (tp : Int → Int) (k : Int) (A : Int → Int) : Prop where
  r : ∀ q, StR t q → A q = -1 ∨ StR t (A q)
  y : ∀ q, StR t q → 0 ≤ A q → Lv t tp k (q, k) (A q)
  n : ∀ q, StR t q → A q < 0 → ∀ r, ¬ Lv t tp k (q, k) r
theorem TC.none : TC t tp (-1) (fun _ => -1) := ⟨fun _ _ => .inl rfl, fun _ _ h => absurd h (by simp), fun q _ _ r ⟨n, hn⟩ => by
  rw [itn_fix (sk_out (by simp))] at hn
  have := (Prod.mk.inj hn).2
  omega⟩
theorem beh_r (h : TOk t) {A : Int → Int} (hA : ∀ q, StR t q → A q = -1 ∨ StR t (A q)) {a : Int} (a0 : 0 ≤ a) (a1 : a < t.1 + 2) : ∀ (m : Nat) (q : Int), StR t q → beh t A a m q = -1 ∨ StR t (beh t A a m q)
  | 0, q, hq => .inl rfl
  | m + 1, q, hq => by
    have hc := h.cell hq a0 a1
    unfold beh
    split
    · exact .inr hc.1
    · split
      · exact .inl rfl
      · rename_i h1 h2
        exact beh_r h hA a0 a1 m _ ((hA _ hc.1).resolve_left (fun e => h2 (by omega)))
theorem beh_y (h : TOk t) {A : Int → Int} {k : Int} (hk : -1 ≤ k) (hA : TC t tp k A) (ht : 0 ≤ tp (k + 1) ∧ tp (k + 1) < t.1 + 2) : ∀ (m : Nat) (q : Int), StR t q → 0 ≤ beh t A (tp (k + 1)) m q → Lv t tp (k + 1) (q, k + 1) (beh t A (tp (k + 1)) m q)
  | 0, q, hq, h0 => absurd h0 (by simp [beh])
  | m + 1, q, hq, h0 => by
    have hc := h.cell hq ht.1 ht.2
    have hs : sk t tp (k + 1) (q, k + 1) = (nq t q (tp (k + 1)), k + 1 + dr t q (tp (k + 1))) := sk_in (c := (q, k + 1)) (by show 0 ≤ k + 1 ∧ k + 1 ≤ k + 1; omega)
    unfold beh at h0 ⊢
    by_cases e : dr t q (tp (k + 1)) = 1
    · rw [if_pos e]
      exact ⟨1, by show sk t tp (k + 1) (q, k + 1) = _; rw [hs, e]⟩
    · rw [if_neg e] at h0 ⊢
      have e1 : dr t q (tp (k + 1)) = -1 := by have := hc.2; omega
      by_cases e2 : A (nq t q (tp (k + 1))) < 0
      · rw [if_pos e2] at h0; omega
      · rw [if_neg e2] at h0 ⊢
        have h1 := hA.y _ hc.1 (by omega)
        obtain ⟨n, hn⟩ := h1
        obtain ⟨j, hj⟩ := Lv.up hn
        refine Lv.trans ⟨j + 1, ?_⟩ (beh_y h hk hA ht m _ ((hA.r _ hc.1).resolve_left (fun e => e2 (by omega))) h0)
        rw [itn_succ, hs, e1, show k + 1 + -1 = k from by omega]
        exact hj
theorem beh_n (h : TOk t) {A : Int → Int} {k : Int} (hk : -1 ≤ k) (hA : TC t tp k A) (hts : ∀ p, 0 ≤ p → p ≤ k + 1 → 0 ≤ tp p ∧ tp p < t.1 + 2) {r : Int} : ∀ (n : Nat) (q : Int), StR t q → itn (sk t tp (k + 1)) n (q, k + 1) = (r, k + 2) → ∃ m, beh t A (tp (k + 1)) m q = r ∧ StR t r := by
  intro n
  induction n using Nat.strongRecOn with
  | ind n ih =>
    intro q hq h0
    have ht := hts (k + 1) (by omega) (by omega)
    have hc := h.cell hq ht.1 ht.2
    cases n with
    | zero => have := (Prod.mk.inj h0).2; omega
    | succ n =>
      rw [itn_succ, sk_in (c := (q, k + 1)) (by show 0 ≤ k + 1 ∧ k + 1 ≤ k + 1; omega)] at h0
      by_cases e : dr t q (tp (k + 1)) = 1
      · refine ⟨1, ?_⟩
        have e3 : (nq t q (tp (k + 1)), k + 1 + dr t q (tp (k + 1))) = ((nq t q (tp (k + 1)), k + 2) : Int × Int) := by rw [e]; congr 1; omega
        have h1 : itn (sk t tp (k + 1)) n (nq t q (tp (k + 1)), k + 2) = (r, k + 2) := by rw [← e3]; exact h0
        rw [itn_fix (sk_out (by show ¬ (0 ≤ k + 2 ∧ k + 2 ≤ k + 1); omega))] at h1
        have h2 := (Prod.mk.inj h1).1
        unfold beh
        rw [if_pos e]
        exact ⟨h2, h2 ▸ hc.1⟩
      · have e1 : dr t q (tp (k + 1)) = -1 := by have := hc.2; omega
        have e3 : (nq t q (tp (k + 1)), k + 1 + dr t q (tp (k + 1))) = ((nq t q (tp (k + 1)), k) : Int × Int) := by rw [e1]; congr 1; omega
        have h1 : itn (sk t tp (k + 1)) n (nq t q (tp (k + 1)), k) = (r, k + 2) := by rw [← e3]; exact h0
        obtain ⟨s, m, m1, m2, m3, m4⟩ := Lv.down h hk (fun p p0 p1 => hts p p0 (by omega)) (c := (nq t q (tp (k + 1)), k)) hc.1 (by show k ≤ k + 1; omega) h1
        have hAn : ¬ A (nq t q (tp (k + 1))) < 0 := fun hn => hA.n _ hc.1 hn s m3
        have es : A (nq t q (tp (k + 1))) = s := (hA.y _ hc.1 (by omega)).uniq m3
        obtain ⟨j, j1, j2⟩ := ih m (by omega) s m2 m4
        refine ⟨j + 1, ?_, j2⟩
        unfold beh
        rw [if_neg e, if_neg hAn, es]; exact j1
open Classical in
noncomputable def gS (t : Tw) (A : Int → Int) (a q : Int) : Int := if dr t q a = 1 ∨ A (nq t q a) < 0 then q else A (nq t q a)
open Classical in
noncomputable def outS (t : Tw) (a q : Int) : Int := if dr t q a = 1 then nq t q a else -1
theorem beh_it {A : Int → Int} {a : Int} : ∀ (m : Nat) (q : Int), beh t A a (m + 1) q = outS t a (itn (gS t A a) m q)
  | m, q => by
    unfold beh
    by_cases e : dr t q a = 1
    · rw [if_pos e, itn_fix (by unfold gS; rw [if_pos (.inl e)])]; unfold outS; rw [if_pos e]
    · rw [if_neg e]
      by_cases e2 : A (nq t q a) < 0
      · rw [if_pos e2, itn_fix (by unfold gS; rw [if_pos (.inr e2)])]; unfold outS; rw [if_neg e]
      · rw [if_neg e2]
        cases m with
        | zero => show -1 = outS t a q; unfold outS; rw [if_neg e]
        | succ m =>
          rw [beh_it m, itn_succ]
          have : gS t A a q = A (nq t q a) := by unfold gS; rw [if_neg (by rintro (h | h) <;> contradiction)]
          rw [this]
theorem beh_end (h : TOk t) {A : Int → Int} (hA : ∀ q, StR t q → A q = -1 ∨ StR t (A q)) {a : Int} (a0 : 0 ≤ a) (a1 : a < t.1 + 2) {m : Nat} {q : Int} (hq : StR t q) (hb : 0 ≤ beh t A a m q) : beh t A a (t.2.2.1.length + 1) q = beh t A a m q := by
  cases m with
  | zero => exact absurd hb (by simp [beh])
  | succ m =>
    rw [beh_it] at hb ⊢
    rw [beh_it]
    have hS : dr t (itn (gS t A a) m q) a = 1 := by
      unfold outS at hb
      split at hb
      · assumption
      · omega
    have hr : ∀ i, StR t (itn (gS t A a) i q) := by
      intro i
      induction i with
      | zero => exact hq
      | succ i ih =>
        show StR t (gS t A a (itn (gS t A a) i q))
        generalize itn (gS t A a) i q = y at ih ⊢
        unfold gS
        split
        · exact ih
        · rename_i hn
          exact (hA _ (h.cell ih a0 a1).1).resolve_left (fun e => hn (.inr (by omega)))
    have hfix : ∀ y, dr t y a = 1 → gS t A a y = y := fun y hy => by unfold gS; rw [if_pos (.inl hy)]
    have hh := halts (f := gS t A a) (S := fun y => dr t y a = 1) (e := Int.toNat) (n := t.2.2.1.length) (x := q) hfix (fun i _ _ => by have := hr i; unfold StR at this; omega)
      (fun i j _ _ _ _ e => by have a := hr i; have b := hr j; unfold StR at a b; omega) hS
    have one : ∀ i j : Nat, i ≤ j → dr t (itn (gS t A a) i q) a = 1 → itn (gS t A a) j q = itn (gS t A a) i q := fun i j hij hi => by
      have : j = (j - i) + i := by omega
      rw [this, itn_add, itn_fix (hfix _ hi)]
    rcases Nat.le_total m t.2.2.1.length with hle | hle
    · rw [one _ _ hle hS]
    · rw [one _ _ hle hh]
/-- The table behind one more letter. -/
theorem TC.next (h : TOk t) {A : Int → Int} {k : Int} (hk : -1 ≤ k) (hA : TC t tp k A) (hts : ∀ p, 0 ≤ p → p ≤ k + 1 → 0 ≤ tp p ∧ tp p < t.1 + 2) {B : Int → Int} (hB : ∀ q, StR t q → B q = beh t A (tp (k + 1)) (t.2.2.1.length + 1) q) : TC t tp (k + 1) B := by
  have ht := hts (k + 1) (by omega) (by omega)
  refine ⟨fun q hq => by rw [hB q hq]; exact beh_r h hA.r ht.1 ht.2 _ q hq, fun q hq h0 => ?_, fun q hq h0 r ⟨n, hn⟩ => ?_⟩
  · rw [hB q hq] at h0 ⊢; exact beh_y h hk hA ht _ q hq h0
  · obtain ⟨m, m1, m2⟩ := beh_n h hk hA hts n q hq (by rw [hn]; congr 1; omega)
    have := beh_end h hA.r ht.1 ht.2 (m := m) hq (by rw [m1]; exact m2.1)
    rw [hB q hq, this, m1] at h0
    exact absurd m2.1 (by omega)
/-- .. and of who began at the left. -/
structure LC (t : Tw) (tp : Int → Int) (k : Int) (l : Int) : Prop where
  r : l = -1 ∨ StR t l
  y : 0 ≤ l → Lv t tp k (t.2.1, 0) l
  n : l < 0 → ∀ r, ¬ Lv t tp k (t.2.1, 0) r
theorem LC.first (h : TOk t) : LC t tp (-1) t.2.1 := ⟨.inr h.st, fun _ => ⟨0, rfl⟩, fun hn => by have := h.st; omega⟩
theorem LC.next (h : TOk t) {A : Int → Int} {k l : Int} (hk : -1 ≤ k) (hA : TC t tp k A) (hl : LC t tp k l) (hts : ∀ p, 0 ≤ p → p ≤ k + 1 → 0 ≤ tp p ∧ tp p < t.1 + 2) : LC t tp (k + 1) (if 0 ≤ l then beh t A (tp (k + 1)) (t.2.2.1.length + 1) l else -1) := by
  have ht := hts (k + 1) (by omega) (by omega)
  have down : ∀ r, Lv t tp (k + 1) (t.2.1, 0) r → 0 ≤ l ∧ ∃ m, beh t A (tp (k + 1)) m l = r ∧ StR t r := fun r ⟨n, hn⟩ => by
    obtain ⟨s, m, m1, m2, m3, m4⟩ := Lv.down h hk (fun p p0 p1 => hts p p0 (by omega)) (c := (t.2.1, 0)) h.st (by show 0 ≤ k + 1; omega) (by rw [hn]; congr 1; omega)
    by_cases e : 0 ≤ l
    · have es := (hl.y e).uniq m3
      subst es
      exact ⟨e, beh_n h hk hA hts m l m2 m4⟩
    · exact absurd m3 (hl.n (by omega) s)
  by_cases e : 0 ≤ l
  · rw [if_pos e]
    have hq : StR t l := hl.r.resolve_left (by omega)
    refine ⟨beh_r h hA.r ht.1 ht.2 _ l hq, fun h0 => ?_, fun h0 r hr => ?_⟩
    · obtain ⟨n, hn⟩ := hl.y e
      exact Lv.trans (Lv.up hn) (beh_y h hk hA ht _ l hq h0)
    · obtain ⟨_, m, m1, m2⟩ := down r hr
      have := beh_end h hA.r ht.1 ht.2 (m := m) hq (by rw [m1]; exact m2.1)
      rw [this, m1] at h0
      exact absurd m2.1 (by omega)
  · rw [if_neg e]
    exact ⟨.inl rfl, fun h0 => absurd h0 (by omega), fun _ r hr => e (down r hr).1⟩
theorem beh_congr (h : TOk t) {A B : Int → Int} (hA : ∀ q, StR t q → A q = -1 ∨ StR t (A q)) (hAB : ∀ q, StR t q → A q = B q) {a : Int} (a0 : 0 ≤ a) (a1 : a < t.1 + 2) : ∀ (m : Nat) (q : Int), StR t q → beh t A a m q = beh t B a m q
  | 0, _, _ => rfl
  | m + 1, q, hq => by
    have hc := h.cell hq a0 a1
    unfold beh
    rw [← hAB _ hc.1]
    split
    · rfl
    · split
      · rfl
      · rename_i h1 h2
        exact beh_congr h hA hAB a0 a1 m _ ((hA _ hc.1).resolve_left (fun e => h2 (by omega)))
end

abbrev Tb := Int × Int × Int × Int × Int × Unit
def tpe (t : Tw) (w : List Int) : List Int := ([t.1] ++ w) ++ [t.1 + 1]
section
variable {t : Tw} {w : List Int}
theorem tpe_len : (tpe t w).length = w.length + 2 := by simp [tpe]
theorem tpe_let (h1 : 1 ≤ t.1) (hw : ∀ a ∈ w, 0 ≤ a ∧ a < t.1) : ∀ a ∈ tpe t w, 0 ≤ a ∧ a < t.1 + 2 := by
  intro a ha
  simp only [tpe, List.mem_append, List.mem_singleton] at ha
  rcases ha with (rfl | ha) | rfl
  · omega
  · have := hw a ha; omega
  · omega
theorem tpe_tp (h1 : 1 ≤ t.1) (hw : ∀ a ∈ w, 0 ≤ a ∧ a < t.1) {k : Int} (hk : k < w.length + 2) : ∀ p, 0 ≤ p → p ≤ k → 0 ≤ ix (tpe t w) p ∧ ix (tpe t w) p < t.1 + 2 :=
  fun p p0 p1 => tpe_let h1 hw _ (ix_mem p0 (by rw [tpe_len]; omega))
theorem it_ok (h : TOk t) {tp : Int → Int} {K : Int} (h0 : 0 ≤ K) (hts : ∀ p, 0 ≤ p → p ≤ K → 0 ≤ tp p ∧ tp p < t.1 + 2) : ∀ k, StR t (itn (sk t tp K) k (t.2.1, 0)).1 ∧ -1 ≤ (itn (sk t tp K) k (t.2.1, 0)).2 ∧ (itn (sk t tp K) k (t.2.1, 0)).2 ≤ K + 1
  | 0 => ⟨h.st, by show (-1 : Int) ≤ 0; omega, by show (0 : Int) ≤ K + 1; omega⟩
  | k + 1 => by
    have ih := it_ok h h0 hts k
    show StR t (sk t tp K (itn (sk t tp K) k (t.2.1, 0))).1 ∧ -1 ≤ (sk t tp K (itn (sk t tp K) k (t.2.1, 0))).2 ∧ (sk t tp K (itn (sk t tp K) k (t.2.1, 0))).2 ≤ K + 1
    generalize itn (sk t tp K) k (t.2.1, 0) = c at ih ⊢
    by_cases e : 0 ≤ c.2 ∧ c.2 ≤ K
    · rw [sk_in e]
      have hc := h.cell ih.1 (hts _ e.1 e.2).1 (hts _ e.1 e.2).2
      exact ⟨hc.1, by show -1 ≤ c.2 + dr t c.1 (tp c.2); omega, by show c.2 + dr t c.1 (tp c.2) ≤ K + 1; omega⟩
    · rw [sk_out e]; exact ih
open Classical in
theorem run_spec (h : TOk t) (hw : ∀ a ∈ w, 0 ≤ a ∧ a < t.1) (hl : w.length ≤ 1000) {P : Prop} (hP : P ↔ ∃ q, Lv t (ix (tpe t w)) ((w.length : Int) + 1) (t.2.1, 0) q ∧ ix t.2.2.2.1 q = 1) : ∃ m, r25_Run t w = some (decide P, m) := by
  have hn := h.n1
  have h1 := h.let1
  have hm := h.mkl
  have hts := tpe_tp (w := w) (k := (w.length : Int) + 1) h1.1 hw (by omega)
  have hok := it_ok h (K := (w.length : Int) + 1) (by omega) hts
  have hB : ((tpe t w).length : Int) * (t.2.2.1.length : Int) = (((tpe t w).length * t.2.2.1.length : Nat) : Int) := by simp
  have hBs : (tpe t w).length * t.2.2.1.length ≤ 1002 * 4 := Nat.mul_le_mul (by rw [tpe_len]; omega) hn.2
  have fz : ∀ {k m : Nat}, k ≤ m → ¬ (0 ≤ (itn (sk t (ix (tpe t w)) ((w.length : Int) + 1)) k (t.2.1, 0)).2 ∧ (itn (sk t (ix (tpe t w)) ((w.length : Int) + 1)) k (t.2.1, 0)).2 ≤ (w.length : Int) + 1) → itn (sk t (ix (tpe t w)) ((w.length : Int) + 1)) m (t.2.1, 0) = itn (sk t (ix (tpe t w)) ((w.length : Int) + 1)) k (t.2.1, 0) := by
    intro k m hkm ho
    have : m = (m - k) + k := by omega
    rw [this, itn_add, itn_fix (sk_out ho)]
  have key : ∀ (f k : Nat), (tpe t w).length * t.2.2.1.length + 1 - k = f → k ≤ (tpe t w).length * t.2.2.1.length + 1 → (∀ j, j < k → 0 ≤ (itn (sk t (ix (tpe t w)) ((w.length : Int) + 1)) j (t.2.1, 0)).2 ∧ (itn (sk t (ix (tpe t w)) ((w.length : Int) + 1)) j (t.2.1, 0)).2 ≤ (w.length : Int) + 1) →
      ∃ m, r25_Run_L7 t w (itn (sk t (ix (tpe t w)) ((w.length : Int) + 1)) k (t.2.1, 0)).1 (itn (sk t (ix (tpe t w)) ((w.length : Int) + 1)) k (t.2.1, 0)).2 k = some (decide P, m) := by
    intro f
    induction f with
    | zero =>
      intro k hf hk hin
      obtain rfl : k = (tpe t w).length * t.2.2.1.length + 1 := by omega
      have hno : ¬ P := fun hp => by
        obtain ⟨q, ⟨m, hm⟩, _⟩ := hP.1 hp
        have hb := hin ((tpe t w).length * t.2.2.1.length) (by omega)
        refine absurd hb (halts (f := sk t (ix (tpe t w)) ((w.length : Int) + 1)) (S := fun c => ¬ (0 ≤ c.2 ∧ c.2 ≤ (w.length : Int) + 1)) (e := fun c => c.1.toNat * (tpe t w).length + c.2.toNat) (n := (tpe t w).length * t.2.2.1.length) (x := (t.2.1, 0)) (fun y hy => sk_out hy) (fun i _ hi => ?_) (fun i j _ _ hi hj e => ?_) (m := m) ?_)
        · have ho := hok i
          have hi' := Decidable.not_not.1 hi
          generalize itn (sk t (ix (tpe t w)) ((w.length : Int) + 1)) i (t.2.1, 0) = c at ho hi' ⊢
          obtain ⟨⟨o1, o2⟩, o3, o4⟩ := ho
          have e1 : c.2.toNat < (tpe t w).length := by rw [tpe_len]; omega
          have e2 : c.1.toNat + 1 ≤ t.2.2.1.length := by omega
          have e3 : (c.1.toNat + 1) * (tpe t w).length ≤ t.2.2.1.length * (tpe t w).length := Nat.mul_le_mul_right _ e2
          rw [Nat.succ_mul] at e3
          rw [Nat.mul_comm (tpe t w).length t.2.2.1.length]
          show c.1.toNat * (tpe t w).length + c.2.toNat < _
          omega
        · have hoi := hok i
          have hi' := Decidable.not_not.1 hi
          have hoj := hok j
          have hj' := Decidable.not_not.1 hj
          generalize itn (sk t (ix (tpe t w)) ((w.length : Int) + 1)) i (t.2.1, 0) = c at hoi hi' e ⊢
          generalize itn (sk t (ix (tpe t w)) ((w.length : Int) + 1)) j (t.2.1, 0) = d at hoj hj' e ⊢
          obtain ⟨⟨o1, o2⟩, o3, o4⟩ := hoi
          obtain ⟨⟨p1, p2⟩, p3, p4⟩ := hoj
          have e' : c.1.toNat * (tpe t w).length + c.2.toNat = d.1.toNat * (tpe t w).length + d.2.toNat := e
          have l1 : c.2.toNat < (tpe t w).length := by rw [tpe_len]; omega
          have l2 : d.2.toNat < (tpe t w).length := by rw [tpe_len]; omega
          have hpos : 0 < (tpe t w).length := by omega
          have q1 := congrArg (· / (tpe t w).length) e'
          have q2 := congrArg (· % (tpe t w).length) e'
          simp only [Nat.mul_add_mod', Nat.mod_eq_of_lt l1, Nat.mod_eq_of_lt l2, Nat.mul_comm _ (tpe t w).length, Nat.mul_add_div hpos, Nat.div_eq_of_lt l1, Nat.div_eq_of_lt l2, Nat.mul_add_mod] at q1 q2
          exact Prod.ext (by omega) (by omega)
        · rw [hm]; show ¬ (0 ≤ (w.length : Int) + 1 + 1 ∧ (w.length : Int) + 1 + 1 ≤ (w.length : Int) + 1); omega
      refine ⟨0, ?_⟩
      rw [r25_Run_L7_eq]; unfold r25_Run_L7_B
      have e : ((([t.1] ++ w) ++ [t.1 + 1]).length : Int) * (t.2.2.1.length : Int) = (((tpe t w).length * t.2.2.1.length : Nat) : Int) := hB
      rw [e, decide_eq_false hno]
      (try dsimp only); (repeat' first | (with_reducible refine G_to ?_ ?_; focus (first | omega | (unfold fits; omega) | (unfold room; (try simp only [List.length_append, List.length_cons, List.length_nil]); omega))) | (with_reducible refine both_to ?_ ?_) | (with_reducible refine itet_to ?_) | (with_reducible refine itef_to ?_) | (with_reducible refine ite_to (fun _ => ?_) (fun _ => ?_))) <;> try (exfalso; omega)
      all_goals rfl
    | succ f ih =>
      intro k hf hk hin
      have ho := hok k
      by_cases hi : 0 ≤ (itn (sk t (ix (tpe t w)) ((w.length : Int) + 1)) k (t.2.1, 0)).2 ∧ (itn (sk t (ix (tpe t w)) ((w.length : Int) + 1)) k (t.2.1, 0)).2 ≤ (w.length : Int) + 1
      · obtain ⟨m, hm2⟩ := ih (k + 1) (by omega) (by omega) (fun j hj => by
          by_cases e : j = k
          · rw [e]; exact hi
          · exact hin j (by omega))
        refine ⟨m, ?_⟩
        rw [← hm2]
        have es : itn (sk t (ix (tpe t w)) ((w.length : Int) + 1)) (k + 1) (t.2.1, 0) = sk t (ix (tpe t w)) ((w.length : Int) + 1) (itn (sk t (ix (tpe t w)) ((w.length : Int) + 1)) k (t.2.1, 0)) := rfl
        rw [es, sk_in hi]
        have hlet := hts _ hi.1 hi.2
        generalize itn (sk t (ix (tpe t w)) ((w.length : Int) + 1)) k (t.2.1, 0) = c at ho hi hlet ⊢
        have hc := h.cell ho.1 hlet.1 hlet.2
        have hrow := h.row _ (ix_mem ho.1.1 ho.1.2)
        have hq := ho.1
        unfold StR at hq
        have tl := tpe_len (t := t) (w := w)
        conv => lhs; rw [r25_Run_L7_eq]; unfold r25_Run_L7_B
        have e : ((([t.1] ++ w) ++ [t.1 + 1]).length : Int) * (t.2.2.1.length : Int) = (((tpe t w).length * t.2.2.1.length : Nat) : Int) := hB
        rw [e]
        have et : ([t.1] ++ w) ++ [t.1 + 1] = tpe t w := rfl
        rw [et]
        have hd := hc.2
        unfold dr at hd
        refine G_to (by unfold fits; omega) ?_
        rw [if_pos (by simp; omega), if_neg (by simp; omega), if_neg (by simp; omega)]
        refine G_to (by omega) (G_to (by omega) (G_to (by omega) (G_to (by omega) (G_to (by unfold fits; omega) (G_to (by unfold fits; omega) rfl)))))
      · by_cases hneg : (itn (sk t (ix (tpe t w)) ((w.length : Int) + 1)) k (t.2.1, 0)).2 < 0
        · have hno : ¬ P := fun hp => by
            obtain ⟨q, ⟨m, hm⟩, _⟩ := hP.1 hp
            rcases Nat.le_total k m with c | c
            · rw [fz c hi] at hm; rw [hm] at hneg; exact absurd hneg (by show ¬ (w.length : Int) + 1 + 1 < 0; omega)
            · have hfm := fz c (by rw [hm]; show ¬ (0 ≤ (w.length : Int) + 1 + 1 ∧ (w.length : Int) + 1 + 1 ≤ (w.length : Int) + 1); omega)
              rw [hfm, hm] at hneg; exact absurd hneg (by show ¬ (w.length : Int) + 1 + 1 < 0; omega)
          refine ⟨k, ?_⟩
          rw [r25_Run_L7_eq]; unfold r25_Run_L7_B
          have e : ((([t.1] ++ w) ++ [t.1 + 1]).length : Int) * (t.2.2.1.length : Int) = (((tpe t w).length * t.2.2.1.length : Nat) : Int) := hB
          rw [e, decide_eq_false hno]
          refine G_to (by unfold fits; omega) ?_
          rw [if_pos (by simp; omega), if_pos (by simpa using hneg)]
        · have hpos : (itn (sk t (ix (tpe t w)) ((w.length : Int) + 1)) k (t.2.1, 0)).2 = (w.length : Int) + 1 + 1 := by omega
          have hPk : P ↔ ix t.2.2.2.1 (itn (sk t (ix (tpe t w)) ((w.length : Int) + 1)) k (t.2.1, 0)).1 = 1 := by
            have hL : Lv t (ix (tpe t w)) ((w.length : Int) + 1) (t.2.1, 0) (itn (sk t (ix (tpe t w)) ((w.length : Int) + 1)) k (t.2.1, 0)).1 := ⟨k, Prod.ext rfl hpos⟩
            refine hP.trans ⟨fun ⟨q, h1, h2⟩ => ?_, fun hm1 => ⟨_, hL, hm1⟩⟩
            rw [hL.uniq h1]; exact h2
          refine ⟨k, ?_⟩
          have hq := ho.1
          unfold StR at hq
          rw [r25_Run_L7_eq]; unfold r25_Run_L7_B
          have e : ((([t.1] ++ w) ++ [t.1 + 1]).length : Int) * (t.2.2.1.length : Int) = (((tpe t w).length * t.2.2.1.length : Nat) : Int) := hB
          rw [e]
          have et : ([t.1] ++ w) ++ [t.1 + 1] = tpe t w := rfl
          rw [et]
          have tl := tpe_len (t := t) (w := w)
          refine G_to (by unfold fits; omega) ?_
          rw [if_pos (by simp; omega), if_neg (by simpa using hneg), if_pos (by simp; omega)]
          refine G_to (by omega) ?_
          simp only [hPk]
  obtain ⟨m, hm⟩ := key _ 0 rfl (by omega) (fun j hj => by omega)
  refine ⟨m, ?_⟩
  unfold r25_Run
  have tl := tpe_len (t := t) (w := w)
  refine G_to (by unfold room; simp; omega) (G_to (by unfold fits; omega) (G_to (by unfold room; simp; omega) hm))
end
/-! ### tables -/
def get5 (s : Tb) (j : Int) : Int := [s.1, s.2.1, s.2.2.1, s.2.2.2.1, s.2.2.2.2.1].getD j.toNat 0
section
variable {t : Tw}
theorem det1_spec (h : TOk t) {s : Tb} {first : Bool} {A : Int → Int} (hA : ∀ q, StR t q → A q = -1 ∨ StR t (A q)) (hf : first = true → ∀ q, A q = -1) (hs : first = false → ∀ q, StR t q → get5 s q = A q) {a : Int} (a0 : 0 ≤ a) (a1 : a < t.1 + 2) {q : Int} (hq : StR t q) : two_Det_1 s first q a t.2.2.1.length t = some (beh t A a (t.2.2.1.length + 1) q) := by
  have hn := h.n1
  have key : ∀ (m k : Nat) (q : Int), t.2.2.1.length + 1 - k = m → k ≤ t.2.2.1.length + 1 → StR t q → two_Det_1_L2 s first a t.2.2.1.length t q k = some (beh t A a m q) := by
    intro m
    induction m with
    | zero =>
      intro k q hm hk hq
      rw [two_Det_1_L2_eq]; unfold two_Det_1_L2_B
      rw [if_neg (by simp; omega)]; rfl
    | succ m ih =>
      intro k q hm hk hq
      have hc := h.cell hq a0 a1
      have hrow := h.row _ (ix_mem hq.1 hq.2)
      rw [two_Det_1_L2_eq]; unfold two_Det_1_L2_B
      rw [if_pos (by simp; omega)]
      refine G_to hq (G_to (by omega) ?_)
      unfold beh
      by_cases e : dr t q a = 1
      · rw [if_pos e, if_pos (decide_eq_true (show (ix (ix t.2.2.1 q) a).2.1 = 1 from e))]; rfl
      · rw [if_neg e, if_neg (by rw [decide_eq_true_iff]; exact e)]
        cases first with
        | true => rw [if_pos rfl, if_pos (by rw [hf rfl]; omega)]
        | false =>
          rw [if_neg (by simp)]
          have hcr := hc.1
          have e5 := hs rfl _ hc.1
          unfold StR nq at hcr
          unfold get5 nq at e5
          refine G_to (by omega) (G_to (by omega) ?_)
          rw [e5]
          by_cases e2 : A (nq t q a) < 0
          · rw [if_pos e2, if_pos (by rw [decide_eq_true_iff]; exact e2)]
          · rw [if_neg e2, if_neg (by rw [decide_eq_true_iff]; exact e2)]
            refine G_to (by unfold fits; omega) ?_
            exact ih (k + 1) _ (by omega) (by omega) ((hA _ hc.1).resolve_left (fun e => e2 (by omega)))
  unfold two_Det_1
  exact G_to (by unfold fits; omega) (key _ 0 q rfl (by omega) hq)
theorem behind_spec (h : TOk t) {s : List Int} {first : Bool} {A : Int → Int} (hA : ∀ q, StR t q → A q = -1 ∨ StR t (A q)) (hf : first = true → ∀ q, A q = -1) (hs : first = false → t.2.2.1.length < s.length ∧ ∀ q, StR t q → ix s q = A q) {a : Int} (a0 : 0 ≤ a) (a1 : a < t.1 + 2) {q : Int} (hq : StR t q) : r25_Behind t s first q a = some (beh t A a (t.2.2.1.length + 1) q) := by
  have hn := h.n1
  have key : ∀ (m k : Nat) (q : Int), t.2.2.1.length + 1 - k = m → k ≤ t.2.2.1.length + 1 → StR t q → r25_Behind_L2 t s first a q k = some (beh t A a m q) := by
    intro m
    induction m with
    | zero =>
      intro k q hm hk hq
      rw [r25_Behind_L2_eq]; unfold r25_Behind_L2_B
      rw [if_neg (by simp; omega)]; rfl
    | succ m ih =>
      intro k q hm hk hq
      have hc := h.cell hq a0 a1
      have hrow := h.row _ (ix_mem hq.1 hq.2)
      rw [r25_Behind_L2_eq]; unfold r25_Behind_L2_B
      rw [if_pos (by simp; omega)]
      refine G_to hq (G_to (by omega) ?_)
      unfold beh
      by_cases e : dr t q a = 1
      · rw [if_pos e, if_pos (decide_eq_true (show (ix (ix t.2.2.1 q) a).2.1 = 1 from e))]; rfl
      · rw [if_neg e, if_neg (by rw [decide_eq_true_iff]; exact e)]
        cases first with
        | true => rw [if_pos rfl, if_pos (by rw [hf rfl]; omega)]
        | false =>
          rw [if_neg (by simp)]
          have hcr := hc.1
          obtain ⟨hl, e5⟩ := hs rfl
          have e5 := e5 _ hc.1
          unfold StR nq at hcr
          unfold nq at e5
          refine G_to (by omega) ?_
          rw [e5]
          by_cases e2 : A (nq t q a) < 0
          · rw [if_pos e2, if_pos (by rw [decide_eq_true_iff]; exact e2)]
          · rw [if_neg e2, if_neg (by rw [decide_eq_true_iff]; exact e2)]
            refine G_to (by omega) (G_to (by unfold fits; omega) ?_)
            exact ih (k + 1) _ (by omega) (by omega) ((hA _ hc.1).resolve_left (fun e => e2 (by omega)))
  unfold r25_Behind
  exact key _ 0 q rfl (by omega) hq
def mkLs (n : Nat) (f : Int → Int) (l : Int) : List Int := (iota n).map f ++ [l]
theorem mkLs_len (n : Nat) (f : Int → Int) (l : Int) : (mkLs n f l).length = n + 1 := by simp [mkLs, iota_len]
theorem mkLs_ix {n : Nat} {f : Int → Int} {l j : Int} (j0 : 0 ≤ j) (j1 : j < n) : ix (mkLs n f l) j = f j := by
  unfold mkLs
  rw [ix_append_left j0 (by simp [iota_len]; omega), ix_map _ j0 (by rw [iota_len]; omega)]
  congr 1
  rw [ix_eq j0 (by rw [iota_len]; omega)]
  simp [iota]; omega
theorem mkLs_last {n : Nat} {f : Int → Int} {l : Int} : ix (mkLs n f l) n = l := by
  unfold mkLs
  rw [ix_append_right (by simp [iota_len])]
  simp [iota_len, ix]
theorem table_spec (h : TOk t) {s : List Int} {first : Bool} {A : Int → Int} (hA : ∀ q, StR t q → A q = -1 ∨ StR t (A q)) (hf : first = true → ∀ q, A q = -1) (hs : first = false → t.2.2.1.length < s.length ∧ ∀ q, StR t q → ix s q = A q) {a : Int} (a0 : 0 ≤ a) (a1 : a < t.1 + 2) {l : Int} (hl : l = -1 ∨ StR t l) :
    r25_Table t s first l a = some (mkLs t.2.2.1.length (beh t A a (t.2.2.1.length + 1)) (if 0 ≤ l then beh t A a (t.2.2.1.length + 1) l else -1)) := by
  have hn := h.n1
  have key : ∀ (m k : Nat), t.2.2.1.length - k = m → k ≤ t.2.2.1.length → r25_Table_L3 t s first l a k ((iota k).map (beh t A a (t.2.2.1.length + 1))) = some (mkLs t.2.2.1.length (beh t A a (t.2.2.1.length + 1)) (if 0 ≤ l then beh t A a (t.2.2.1.length + 1) l else -1)) := by
    intro m
    induction m with
    | zero =>
      intro k hm hk
      obtain rfl : k = t.2.2.1.length := by omega
      rw [r25_Table_L3_eq]; unfold r25_Table_L3_B
      rw [if_neg (by simp)]
      by_cases e : 0 ≤ l
      · rw [if_pos e, if_pos (decide_eq_true e)]
        refine bind_to (behind_spec h hA hf hs a0 a1 (hl.resolve_left (by omega))) (G_to (by unfold room; simp [iota_len]; omega) rfl)
      · rw [if_neg e, if_neg (by simpa using e)]
        exact G_to (by unfold room; simp [iota_len]; omega) rfl
    | succ m ih =>
      intro k hm hk
      rw [r25_Table_L3_eq]; unfold r25_Table_L3_B
      rw [if_pos (by simp; omega)]
      refine bind_to (behind_spec h hA hf hs a0 a1 (q := (k : Int)) ⟨by omega, by omega⟩) (G_to (by unfold room; simp [iota_len]; omega) (G_to (by unfold fits; omega) ?_))
      have := ih (k + 1) (by omega) (by omega)
      rw [iota_succ, List.map_append] at this
      exact this
  unfold r25_Table
  exact key _ 0 rfl (by omega)
end
/- The program's exploring of tables that hang on a state: det_Explore. -/
theorem det_Explore_row {s : Tb} {l : List Tb} {nx : Tb → Int → Tb} {mk : Tb → Int} {first : Tb} {B : Nat} {P : Tb → Prop} {g m : Int} {t0 : Tw} (hx : XOk nx mk g.toNat first B P) (hB : B < 1048576) (hB3 : B ≤ 4000) (h1 : 1 ≤ g ∧ g ≤ 4) (hnx : ∀ s, P s → ∀ t, 0 ≤ t → t < g → two_Det_2 s t m m t0 = some (nx s t, m, t0)) (hmk : ∀ s, P s → two_Det_3 s t0 m t0 = some (mk s, m, t0)) {L0 : List Tb} {D2 : List (List Int)} {D3 : List Int} {r4} (hs : P s) (hl : LiOk B P l) (eL : ix L0 (D2.length : Int) = s) (h2 : D2.length ≤ 4000) (h3 : D3.length ≤ 4000) :
    det_Explore_L8 g 1048576 g 0 L0 D2 D3 r4 m t0 0 m t0 l (iota l.length) l (List.replicate g.toNat 0) =
      r4 m t0 m t0 g 0 (xRow nx s l g.toNat).1 (iota (xRow nx s l g.toNat).1.length) (xRow nx s l g.toNat).1 (D2 ++ [(xRow nx s l g.toNat).2]) (D3 ++ [mk s]) := by
  have key : ∀ (n t : Nat) (row : List Int), g.toNat - t = n → t ≤ g.toNat → row.length = g.toNat → (∀ j : Int, 0 ≤ j → j < t → ix row j = ix (xRow nx s l t).2 j) →
      det_Explore_L8 g 1048576 g 0 L0 D2 D3 r4 m t0 t m t0 (xRow nx s l t).1 (iota (xRow nx s l t).1.length) (xRow nx s l t).1 row =
      r4 m t0 m t0 g 0 (xRow nx s l g.toNat).1 (iota (xRow nx s l g.toNat).1.length) (xRow nx s l g.toNat).1 (D2 ++ [(xRow nx s l g.toNat).2]) (D3 ++ [mk s]) := by
    intro n
    induction n with
    | zero =>
      intro t row hn ht hr hj
      obtain rfl : t = g.toNat := by omega
      obtain ⟨g1, ⟨_, g2, _⟩⟩ := xRow_ok hx hs hl g.toNat (Nat.le_refl _)
      have : row = (xRow nx s l g.toNat).2 := ix_ext (by omega) fun j j0 j1 => hj j j0 (by omega)
      rw [det_Explore_L8_eq]; unfold det_Explore_L8_B
      rw [if_neg (by simp; omega), this]
      refine G_to (by unfold room; simp; omega) ?_
      rw [eL]
      have hk : (two_Det_3 (s.1, s.2.1, s.2.2.1, s.2.2.2.1, s.2.2.2.2.1, ()) t0 m t0) = some (mk s, m, t0) := hmk s hs
      refine both_to ?_ ?_
      · exact bind_to hk (G_to (by unfold room; simp; omega) rfl)
      · exact bind_to hk (G_to (by unfold room; simp; omega) rfl)
    | succ n ih =>
      intro t row hn ht hr hj
      obtain ⟨g1, ⟨_, g2, _⟩⟩ := xRow_ok hx hs hl t (by omega)
      have hlen := g1.len hx
      have ih' := fun row => ih (t + 1) row (by omega) (by omega)
      rw [det_Explore_L8_eq]; unfold det_Explore_L8_B det_Explore_J17
      rw [if_pos (by simp; omega), eL]
      have hk : two_Det_2 (s.1, s.2.1, s.2.2.1, s.2.2.2.1, s.2.2.2.2.1, ()) (t : Int) m m t0 = some (nx s t, m, t0) := hnx s hs t (by omega) (by omega)
      refine bind_to hk ?_
      show (if (!(mhas (xRow nx s l t).1 (nx s t))) = true then
        if decide (((xRow nx s l t).1.length : Int) = 1048576) = true then _ else
          G (room (xRow nx s l t).1 [nx s t] _) (G _ (G _ (G _ (det_Explore_L8 g 1048576 g 0 L0 D2 D3 r4 m t0 (t + 1) m t0 (mputK (xRow nx s l t).1 (nx s t)) (mputV (xRow nx s l t).1 (iota (xRow nx s l t).1.length) (nx s t) ((xRow nx s l t).1.length : Int)) ((xRow nx s l t).1 ++ [nx s t]) (row.set ((t : Int)).toNat ((xRow nx s l t).1.length : Int)))))) else
        G _ (G _ (G _ (det_Explore_L8 g 1048576 g 0 L0 D2 D3 r4 m t0 (t + 1) m t0 _ _ _ (row.set ((t : Int)).toNat (mget (xRow nx s l t).1 (iota (xRow nx s l t).1.length) (nx s t) 0)))))) = _
      cases e : mfind (xRow nx s l t).1 (nx s t) with
      | some j =>
        rw [xRow_some e] at ih'
        have hm : mhas (xRow nx s l t).1 (nx s t) = true := by unfold mhas; rw [e]; rfl
        rw [if_neg (by rw [hm]; simp), mget_iota e]
        refine G_to (by omega) (G_to (by omega) (G_to (by unfold fits; omega) ?_))
        refine ih' (row.set ((t : Int)).toNat (j : Int)) (by rw [List.length_set]; exact hr) (fun k k0 k1 => ?_)
        by_cases c : k < t
        · rw [ix_set_ne (by omega) k0 (by omega), ix_append_left k0 (by omega)]; exact hj k k0 c
        · obtain rfl : k = (t : Int) := by omega
          rw [ix_set_same k0 (by omega)]
          have : (t : Int) = ((xRow nx s l t).2.length : Int) := by omega
          rw [this, ix_append_last]
      | none =>
        rw [xRow_none e] at ih'
        have hnm := mfind_none.1 e
        have hm : mhas (xRow nx s l t).1 (nx s t) = false := by unfold mhas; rw [e]; rfl
        rw [if_pos (by rw [hm]; rfl), if_neg (by simp; omega), mputK_new hnm, mputV_iota hnm]
        refine G_to (by unfold room; simp; omega) (G_to (by omega) (G_to (by omega) (G_to (by unfold fits; omega) ?_)))
        refine ih' (row.set ((t : Int)).toNat ((xRow nx s l t).1.length : Int)) (by rw [List.length_set]; exact hr) (fun k k0 k1 => ?_)
        by_cases c : k < t
        · rw [ix_set_ne (by omega) k0 (by omega), ix_append_left k0 (by omega)]; exact hj k k0 c
        · obtain rfl : k = (t : Int) := by omega
          rw [ix_set_same k0 (by omega)]
          have : (t : Int) = ((xRow nx s l t).2.length : Int) := by omega
          rw [this, ix_append_last]
  exact key _ 0 _ rfl (by omega) (by rw [List.length_replicate]) (fun j j0 j1 => by omega)
theorem det_Explore_prog {nx : Tb → Int → Tb} {mk : Tb → Int} {first : Tb} {B : Nat} {P : Tb → Prop} {g m : Int} {t0 : Tw} (hx : XOk nx mk g.toNat first B P) (hB : B < 1048576) (hB3 : B ≤ 4000) (h1 : 1 ≤ g ∧ g ≤ 4) (hnx : ∀ s, P s → ∀ t, 0 ≤ t → t < g → two_Det_2 s t m m t0 = some (nx s t, m, t0)) (hmk : ∀ s, P s → two_Det_3 s t0 m t0 = some (mk s, m, t0)) {n : Nat} (hg : XGo nx mk g.toNat first n) (hn : (xSt nx mk g.toNat first n).1.length = n) : det_Explore g first m t0 1048576 m t0 = some (xAut nx mk g.toNat first n, true) := by
  have key : ∀ (f i : Nat), n - i = f → i ≤ n → det_Explore_L4 g 1048576 m t0 m t0 g 0 (xSt nx mk g.toNat first i).1 (iota (xSt nx mk g.toNat first i).1.length) (xSt nx mk g.toNat first i).1 (xSt nx mk g.toNat first i).2.1 (xSt nx mk g.toNat first i).2.2 = some (xAut nx mk g.toNat first n, true) := by
    intro f
    induction f with
    | zero =>
      intro i hf hi
      obtain rfl : i = n := by omega
      obtain ⟨g1, g2, g3⟩ := xSt_ok hx i hg
      have hr := g3.r
      rw [det_Explore_L4_eq]; unfold det_Explore_L4_B det_Explore_J21
      rw [if_neg (by rw [decide_eq_true_iff]; omega)]
      unfold xAut
      rw [Int.toNat_of_nonneg (by omega)]
    | succ f ih =>
      intro i hf hi
      obtain ⟨g1, g2, g3⟩ := xSt_ok hx i (fun k hk => hg k (by omega))
      have hlt := hg i (by omega)
      have hr := g3.r
      have hm := g3.m
      have hlen := g1.len hx
      have hP := g1.p _ (ix_mem (i := (i : Int)) (by omega) (by omega))
      rw [det_Explore_L4_eq]; unfold det_Explore_L4_B
      rw [if_pos (by rw [decide_eq_true_iff]; omega)]
      refine G_to (by omega) (G_to (by omega) (G_to (by unfold mkOK; omega) ?_))
      rw [det_Explore_row hx hB hB3 h1 hnx hmk hP g1 (by rw [hr]) (by omega) (by omega)]
      exact ih (i + 1) (by omega) (by omega)
  exact key _ 0 rfl (by omega)

section
variable {t : Tw}
theorem mkLs_congr {n : Nat} {f g : Int → Int} {l l' : Int} (h : ∀ j : Int, 0 ≤ j → j < n → f j = g j) (hl : l = l') : mkLs n f l = mkLs n g l' := by
  have e : (iota n).map f = (iota n).map g := List.map_congr_left fun j hj => h j (iota_mem.1 hj).1 (iota_mem.1 hj).2
  unfold mkLs
  rw [hl, e]
def mkTb (n : Nat) (f : Int → Int) (l : Int) : Tb := (if (0 : Int) < n then f 0 else -1, if (1 : Int) < n then f 1 else -1, if (2 : Int) < n then f 2 else -1, if (3 : Int) < n then f 3 else -1, l, ())
theorem get5_mk {n : Nat} {f : Int → Int} {l j : Int} (j0 : 0 ≤ j) (j1 : j < 4) : get5 (mkTb n f l) j = if j < n then f j else -1 := by
  have : j = 0 ∨ j = 1 ∨ j = 2 ∨ j = 3 := by omega
  rcases this with rfl | rfl | rfl | rfl <;> rfl
noncomputable def nxT (t : Tw) (s : Tb) (a : Int) : Tb := mkTb t.2.2.1.length (beh t (get5 s) a (t.2.2.1.length + 1)) (if 0 ≤ s.2.2.2.2.1 then beh t (get5 s) a (t.2.2.1.length + 1) s.2.2.2.2.1 else -1)
noncomputable def mkT (t : Tw) (s : Tb) : Int := if 0 ≤ (if 0 ≤ s.2.2.2.2.1 then beh t (get5 s) (t.1 + 1) (t.2.2.1.length + 1) s.2.2.2.2.1 else -1) then ix t.2.2.2.1 (if 0 ≤ s.2.2.2.2.1 then beh t (get5 s) (t.1 + 1) (t.2.2.1.length + 1) s.2.2.2.2.1 else -1) else 0
noncomputable def beg (t : Tw) : Tb := mkTb t.2.2.1.length (beh t (fun _ => -1) t.1 (t.2.2.1.length + 1)) (beh t (fun _ => -1) t.1 (t.2.2.1.length + 1) t.2.1)
structure PT (t : Tw) (s : Tb) : Prop where
  r : ∀ j, StR t j → get5 s j = -1 ∨ StR t (get5 s j)
  o : ∀ j : Int, 0 ≤ j → j < 4 → (t.2.2.1.length : Int) ≤ j → get5 s j = -1
  l : s.2.2.2.2.1 = -1 ∨ StR t s.2.2.2.2.1
theorem PT.mk' (h : TOk t) {f : Int → Int} {l : Int} (hf : ∀ j, StR t j → f j = -1 ∨ StR t (f j)) (hl : l = -1 ∨ StR t l) : PT t (mkTb t.2.2.1.length f l) := by
  have hn := h.n1
  refine ⟨fun j hj => ?_, fun j j0 j1 j2 => ?_, hl⟩
  · have hj2 := hj
    unfold StR at hj2
    rw [get5_mk hj2.1 (by omega), if_pos hj2.2]; exact hf j hj
  · rw [get5_mk j0 j1, if_neg (by omega)]
theorem PT.next (h : TOk t) {s : Tb} (hs : PT t s) {a : Int} (a0 : 0 ≤ a) (a1 : a < t.1 + 2) : PT t (nxT t s a) := by
  refine PT.mk' h (fun j hj => beh_r h hs.r a0 a1 _ j hj) ?_
  split
  · rename_i e; exact beh_r h hs.r a0 a1 _ _ (hs.l.resolve_left (by omega))
  · exact .inl rfl
theorem PT.beg (h : TOk t) : PT t (beg t) := by
  have h1 := h.let1
  exact PT.mk' h (fun j hj => beh_r h (fun _ _ => .inl rfl) (by omega) (by omega) _ j hj) (beh_r h (fun _ _ => .inl rfl) (by omega) (by omega) _ _ h.st)
theorem mark_r (h : TOk t) {s : Tb} (hs : PT t s) : (if 0 ≤ s.2.2.2.2.1 then beh t (get5 s) (t.1 + 1) (t.2.2.1.length + 1) s.2.2.2.2.1 else -1) = -1 ∨ StR t (if 0 ≤ s.2.2.2.2.1 then beh t (get5 s) (t.1 + 1) (t.2.2.1.length + 1) s.2.2.2.2.1 else -1) := by
  have h1 := h.let1
  split
  · rename_i e; exact beh_r h hs.r (by omega) (by omega) _ _ (hs.l.resolve_left (by omega))
  · exact .inl rfl
theorem T_xok (h : TOk t) (hm : ∀ s ∈ t.2.2.2.1, s = 0 ∨ s = 1) : XOk (nxT t) (mkT t) t.1.toNat (beg t) 3125 (PT t) := by
  have hn := h.n1
  have h1 := h.let1
  have hmk := h.mkl
  refine ⟨fun l hn2 hp => ?_, PT.beg h, fun s hs a a0 a1 => hs.next h a0 (by omega), fun s hs => ?_⟩
  · have := pigeon (U := (List.range 3125).map fun i : Nat => (((i % 5 : Nat) : Int) - 1, ((i / 5 % 5 : Nat) : Int) - 1, ((i / 25 % 5 : Nat) : Int) - 1, ((i / 125 % 5 : Nat) : Int) - 1, ((i / 625 : Nat) : Int) - 1, ())) hn2 (fun s hs => by
      have hP := hp s hs
      have b : ∀ j : Int, 0 ≤ j → j < 4 → -1 ≤ get5 s j ∧ get5 s j < 4 := fun j j0 j1 => by
        by_cases e : j < t.2.2.1.length
        · have := hP.r j ⟨j0, e⟩; unfold StR at this; omega
        · have := hP.o j j0 j1 (by omega); omega
      have b0 : -1 ≤ s.1 ∧ s.1 < 4 := b 0 (by omega) (by omega)
      have b1 : -1 ≤ s.2.1 ∧ s.2.1 < 4 := b 1 (by omega) (by omega)
      have b2 : -1 ≤ s.2.2.1 ∧ s.2.2.1 < 4 := b 2 (by omega) (by omega)
      have b3 : -1 ≤ s.2.2.2.1 ∧ s.2.2.2.1 < 4 := b 3 (by omega) (by omega)
      have b4 : -1 ≤ s.2.2.2.2.1 ∧ s.2.2.2.2.1 < 4 := by have := hP.l; unfold StR at this; omega
      obtain ⟨s0, s1, s2, s3, s4, u⟩ := s
      simp only at b0 b1 b2 b3 b4
      refine List.mem_map.2 ⟨(s0 + 1).toNat + (s1 + 1).toNat * 5 + (s2 + 1).toNat * 25 + (s3 + 1).toNat * 125 + (s4 + 1).toNat * 625, List.mem_range.2 (by omega), ?_⟩
      generalize hx : (s0 + 1).toNat + (s1 + 1).toNat * 5 + (s2 + 1).toNat * 25 + (s3 + 1).toNat * 125 + (s4 + 1).toNat * 625 = x
      have e0 : ((x % 5 : Nat) : Int) - 1 = s0 := by omega
      have e1 : ((x / 5 % 5 : Nat) : Int) - 1 = s1 := by omega
      have e2 : ((x / 25 % 5 : Nat) : Int) - 1 = s2 := by omega
      have e3 : ((x / 125 % 5 : Nat) : Int) - 1 = s3 := by omega
      have e4 : ((x / 625 : Nat) : Int) - 1 = s4 := by omega
      simp only [e0, e1, e2, e3, e4])
    simpa using this
  · unfold mkT
    have hr := mark_r h hs
    generalize (if 0 ≤ s.2.2.2.2.1 then beh t (get5 s) (t.1 + 1) (t.2.2.1.length + 1) s.2.2.2.2.1 else -1) = q at hr ⊢
    split
    · rename_i e
      have hq := hr.resolve_left (by omega)
      unfold StR at hq
      exact hm _ (ix_mem hq.1 (by omega))
    · exact .inl rfl
theorem two_next (h : TOk t) {s : Tb} (hs : PT t s) {a : Int} (a0 : 0 ≤ a) (a1 : a < t.1) : two_Det_2 s a t.2.2.1.length t.2.2.1.length t = some (nxT t s a, (t.2.2.1.length : Int), t) := by
  have hn := h.n1
  have hd : ∀ q, StR t q → two_Det_1 s false q a t.2.2.1.length t = some (beh t (get5 s) a (t.2.2.1.length + 1) q) := fun q hq => det1_spec h hs.r (fun e => by cases e) (fun _ _ _ => rfl) a0 (by omega) hq
  let st : Nat → Int → Int := fun k j => if j < k then beh t (get5 s) a (t.2.2.1.length + 1) j else -1
  have key : ∀ (f k : Nat), t.2.2.1.length - k = f → k ≤ t.2.2.1.length → two_Det_2_L3 s a t.2.2.1.length t.2.2.1.length t k (st k 0) (st k 1) (st k 2) (st k 3) (-1) = some (nxT t s a, (t.2.2.1.length : Int), t) := by
    intro f
    induction f with
    | zero =>
      intro k hf hk
      obtain rfl : k = t.2.2.1.length := by omega
      rw [two_Det_2_L3_eq]; unfold two_Det_2_L3_B
      rw [if_neg (by simp)]
      unfold nxT
      by_cases e : 0 ≤ s.2.2.2.2.1
      · rw [if_pos (decide_eq_true e), if_pos e]
        exact bind_to (hd _ (hs.l.resolve_left (by omega))) rfl
      · rw [if_neg (by simpa using e), if_neg e]
        rfl
    | succ f ih =>
      intro k hf hk
      have ih' := ih (k + 1) (by omega) (by omega)
      rw [two_Det_2_L3_eq]; unfold two_Det_2_L3_B
      rw [if_pos (by simp; omega)]
      refine bind_to (hd (k : Int) ⟨by omega, by omega⟩) ?_
      refine G_to (by omega) (G_to (by omega) (G_to (by unfold fits; omega) ?_))
      rw [← ih']
      have hk4 : k = 0 ∨ k = 1 ∨ k = 2 ∨ k = 3 := by omega
      rcases hk4 with rfl | rfl | rfl | rfl <;> simp [st]
  unfold two_Det_2
  exact key _ 0 rfl (by omega)
theorem two_mark (h : TOk t) {s : Tb} (hs : PT t s) : two_Det_3 s t t.2.2.1.length t = some (mkT t s, (t.2.2.1.length : Int), t) := by
  have h1 := h.let1
  have hmk := h.mkl
  have hr := mark_r h hs
  unfold two_Det_3 mkT
  by_cases e : 0 ≤ s.2.2.2.2.1
  · rw [if_neg (by simpa using e)]
    rw [if_pos e] at hr ⊢
    refine G_to (by unfold fits; omega) ?_
    refine bind_to (det1_spec h hs.r (fun e => by cases e) (fun _ _ _ => rfl) (by omega) (by omega) (hs.l.resolve_left (by omega))) ?_
    by_cases e2 : 0 ≤ beh t (get5 s) (t.1 + 1) (t.2.2.1.length + 1) s.2.2.2.2.1
    · rw [if_pos (decide_eq_true e2), if_pos e2]
      have hq := hr.resolve_left (by omega)
      unfold StR at hq
      exact G_to (by omega) rfl
    · rw [if_neg (by simpa using e2), if_neg e2]
  · rw [if_pos (by simpa using e), if_neg e, if_neg (by omega)]
def phi (t : Tw) (s : Tb) : List Int := mkLs t.2.2.1.length (get5 s) s.2.2.2.2.1
theorem phi_mk (h : TOk t) {f : Int → Int} {l : Int} : phi t (mkTb t.2.2.1.length f l) = mkLs t.2.2.1.length f l := by
  have hn := h.n1
  exact mkLs_congr (fun j j0 j1 => by rw [get5_mk j0 (by omega), if_pos j1]) rfl
theorem phi_inj (h : TOk t) {x y : Tb} (hx : PT t x) (hy : PT t y) (e : phi t x = phi t y) : x = y := by
  have hn := h.n1
  have g : ∀ j : Int, 0 ≤ j → j < 4 → get5 x j = get5 y j := fun j j0 j1 => by
    by_cases c : j < t.2.2.1.length
    · have := congrArg (fun l => ix l j) e
      simp only [phi, mkLs_ix j0 c] at this
      exact this
    · rw [hx.o j j0 j1 (by omega), hy.o j j0 j1 (by omega)]
  have g4 : x.2.2.2.2.1 = y.2.2.2.2.1 := by
    have := congrArg (fun l => ix l (t.2.2.1.length : Int)) e
    simp only [phi, mkLs_last] at this
    exact this
  have g0 : x.1 = y.1 := g 0 (by omega) (by omega)
  have g1 : x.2.1 = y.2.1 := g 1 (by omega) (by omega)
  have g2 : x.2.2.1 = y.2.2.1 := g 2 (by omega) (by omega)
  have g3 : x.2.2.2.1 = y.2.2.2.1 := g 3 (by omega) (by omega)
  obtain ⟨x0, x1, x2, x3, x4, u⟩ := x
  obtain ⟨y0, y1, y2, y3, y4, v⟩ := y
  simp only at g0 g1 g2 g3 g4
  simp only [g0, g1, g2, g3, g4]
theorem find14 {LL : List (List Int)} {y row : List Int} {a : Int} {r10} (hl : LL.length ≤ 4000) (hs : ∀ x ∈ LL, x.length ≤ 1000) : r25_Det_L14 a LL row r10 y 0 = r25_Det_J17 a LL row r10 y (match mfind LL y with
    | some j => (j : Int)
    | none => (LL.length : Int)) := by
  have key : ∀ (f k : Nat), LL.length - k = f → k ≤ LL.length → (∀ j, j < k → LL[j]? ≠ some y) → r25_Det_L14 a LL row r10 y k = r25_Det_J17 a LL row r10 y (match mfind LL y with
    | some j => (j : Int)
    | none => (LL.length : Int)) := by
    intro f
    induction f with
    | zero =>
      intro k hf hk hb
      obtain rfl : k = LL.length := by omega
      have : mfind LL y = none := mfind_none.2 (fun hm => by
        obtain ⟨j, hj, e⟩ := List.getElem_of_mem hm
        exact hb j hj (by rw [List.getElem?_eq_getElem hj, e]))
      rw [this, r25_Det_L14_eq]; unfold r25_Det_L14_B
      rw [if_neg (by simp)]
    | succ f ih =>
      intro k hf hk hb
      have hmem := ix_mem (l := LL) (i := (k : Int)) (by omega) (by omega)
      have hsm := hs _ hmem
      have hsome := ix_some (l := LL) (i := (k : Int)) (by omega) (by omega)
      rw [Int.toNat_natCast] at hsome
      by_cases e : ix LL (k : Int) = y
      · have hf2 : mfind LL y = some k := mfind_at (by rw [hsome, e]) hb
        rw [hf2, r25_Det_L14_eq]; unfold r25_Det_L14_B
        rw [if_pos (by simp; omega)]
        refine G_to (by omega) (G_to (by omega) (bind_to (r1_Words_spec (by omega)) ?_))
        rw [if_pos (by simpa using e)]
      · rw [← ih (k + 1) (by omega) (by omega) (fun j hj => by
          by_cases c : j = k
          · subst c; rw [hsome]; intro hh; exact e (Option.some.inj hh)
          · exact hb j (by omega))]
        conv => lhs; rw [r25_Det_L14_eq]; unfold r25_Det_L14_B
        rw [if_pos (by simp; omega)]
        refine G_to (by omega) (G_to (by omega) (bind_to (r1_Words_spec (by omega)) ?_))
        rw [if_neg (by simpa using e)]
        exact G_to (by unfold fits; omega) rfl
  exact key _ 0 rfl (by omega) (fun j hj => by omega)
theorem ref_row (h : TOk t) (hm : ∀ s ∈ t.2.2.2.1, s = 0 ∨ s = 1) {i : Int} {l : List Tb} {D2 : List (List Int)} {D3 : List Int} {o o1 : Int} {r6} (hl : LiOk 3125 (PT t) l) (hl2 : l.length ≤ 1500) (i0 : 0 ≤ i) (i1 : i < l.length) (h2 : D2.length ≤ 4000) (h3 : D3.length ≤ 4000) :
    ((xRow (nxT t) (ix l i) l t.1.toNat).1.length ≤ 1500 ∧ r25_Det_L10 t i o o1 D2 D3 r6 0 (l.map (phi t)) [] = r6 (i + 1) ((xRow (nxT t) (ix l i) l t.1.toNat).1.map (phi t)) o o1 (D2 ++ [(xRow (nxT t) (ix l i) l t.1.toNat).2]) (D3 ++ [mkT t (ix l i)])) ∨
      ∃ x, r25_Det_L10 t i o o1 D2 D3 r6 0 (l.map (phi t)) [] = some (x, true) := by
  have hx := T_xok h hm
  have hs := hl.p _ (ix_mem i0 i1)
  have hn := h.n1
  have h1 := h.let1
  have hmk := h.mkl
  have key : ∀ (f a : Nat), t.1.toNat - a = f → a ≤ t.1.toNat → (xRow (nxT t) (ix l i) l a).1.length ≤ 1500 →
      ((xRow (nxT t) (ix l i) l t.1.toNat).1.length ≤ 1500 ∧ r25_Det_L10 t i o o1 D2 D3 r6 a ((xRow (nxT t) (ix l i) l a).1.map (phi t)) (xRow (nxT t) (ix l i) l a).2 = r6 (i + 1) ((xRow (nxT t) (ix l i) l t.1.toNat).1.map (phi t)) o o1 (D2 ++ [(xRow (nxT t) (ix l i) l t.1.toNat).2]) (D3 ++ [mkT t (ix l i)])) ∨
      ∃ x, r25_Det_L10 t i o o1 D2 D3 r6 a ((xRow (nxT t) (ix l i) l a).1.map (phi t)) (xRow (nxT t) (ix l i) l a).2 = some (x, true) := by
    intro f
    induction f with
    | zero =>
      intro a hf ha hlen
      obtain rfl : a = t.1.toNat := by omega
      refine .inl ⟨hlen, ?_⟩
      obtain ⟨g1, ⟨⟨x, hpre⟩, g2, _⟩⟩ := xRow_ok hx hs hl t.1.toNat (Nat.le_refl _)
      have hil : i < ((xRow (nxT t) (ix l i) l t.1.toNat).1.length : Int) := by rw [hpre, List.length_append]; omega
      have hix : ix ((xRow (nxT t) (ix l i) l t.1.toNat).1.map (phi t)) i = phi t (ix l i) := by
        rw [ix_map _ i0 hil]
        congr 1
        rw [hpre, ix_append_left i0 i1]
      have hml : (((xRow (nxT t) (ix l i) l t.1.toNat).1.map (phi t)).length : Int) = ((xRow (nxT t) (ix l i) l t.1.toNat).1.length : Int) := by simp
      have hpl : ((phi t (ix l i)).length : Int) = (t.2.2.1.length : Int) + 1 := by unfold phi; rw [mkLs_len]; omega
      have hlast : ix (phi t (ix l i)) (t.2.2.1.length : Int) = (ix l i).2.2.2.2.1 := mkLs_last
      rw [r25_Det_L10_eq]; unfold r25_Det_L10_B
      rw [if_neg (by simp; omega), hix, hlast]
      refine G_to (by unfold room; simp; omega) (G_to (by omega) (G_to (by omega) (G_to (by omega) ?_)))
      have hr := mark_r h hs
      unfold mkT
      by_cases e : 0 ≤ (ix l i).2.2.2.2.1
      · rw [if_pos (decide_eq_true e)]
        rw [if_pos e] at hr ⊢
        refine G_to (by omega) (G_to (by omega) (G_to (by omega) (G_to (by omega) (G_to (by omega) (G_to (by unfold fits; omega) ?_)))))
        refine bind_to (behind_spec (A := get5 (ix l i)) h hs.r (fun e => by cases e) (fun _ => ⟨by have := mkLs_len t.2.2.1.length (get5 (ix l i)) (ix l i).2.2.2.2.1; omega, fun q hq => mkLs_ix hq.1 hq.2⟩) (by omega) (by omega) (hs.l.resolve_left (by omega))) ?_
        by_cases e2 : 0 ≤ beh t (get5 (ix l i)) (t.1 + 1) (t.2.2.1.length + 1) (ix l i).2.2.2.2.1
        · rw [if_pos (decide_eq_true e2), if_pos e2]
          have hq := hr.resolve_left (by omega)
          unfold StR at hq
          exact G_to (by omega) (G_to (by unfold room; simp; omega) (G_to (by unfold fits; omega) rfl))
        · rw [if_neg (by simpa using e2), if_neg e2]
          exact G_to (by unfold room; simp; omega) (G_to (by unfold fits; omega) rfl)
      · rw [if_neg (by simpa using e), if_neg e, if_neg (by omega)]
        exact G_to (by unfold room; simp; omega) (G_to (by unfold fits; omega) rfl)
    | succ f ih =>
      intro a hf ha hlen
      obtain ⟨g1, ⟨⟨x, hpre⟩, g2, _⟩⟩ := xRow_ok hx hs hl a (by omega)
      have hil : i < ((xRow (nxT t) (ix l i) l a).1.length : Int) := by rw [hpre, List.length_append]; omega
      have hix : ix ((xRow (nxT t) (ix l i) l a).1.map (phi t)) i = phi t (ix l i) := by
        rw [ix_map _ i0 hil]
        congr 1
        rw [hpre, ix_append_left i0 i1]
      have hml : (((xRow (nxT t) (ix l i) l a).1.map (phi t)).length : Int) = ((xRow (nxT t) (ix l i) l a).1.length : Int) := by simp
      have hpl : ((phi t (ix l i)).length : Int) = (t.2.2.1.length : Int) + 1 := by unfold phi; rw [mkLs_len]; omega
      have hlast : ix (phi t (ix l i)) (t.2.2.1.length : Int) = (ix l i).2.2.2.2.1 := mkLs_last
      have ht : r25_Table t (phi t (ix l i)) false (ix l i).2.2.2.2.1 (a : Int) = some (phi t (nxT t (ix l i) a)) := by
        unfold nxT
        rw [phi_mk h]
        exact table_spec (A := get5 (ix l i)) h hs.r (fun e => by cases e) (fun _ => ⟨by have := mkLs_len t.2.2.1.length (get5 (ix l i)) (ix l i).2.2.2.2.1; omega, fun q hq => mkLs_ix hq.1 hq.2⟩) (by omega) (by omega) hs.l
      have hP := hx.n _ hs (a : Int) (by omega) (by omega)
      have ef : mfind ((xRow (nxT t) (ix l i) l a).1.map (phi t)) (phi t (nxT t (ix l i) a)) = mfind (xRow (nxT t) (ix l i) l a).1 (nxT t (ix l i) a) := mfind_map (phi t) (fun y hy he => phi_inj h (g1.p y hy) hP he)
      have ih' := ih (a + 1) (by omega) (by omega)
      rw [r25_Det_L10_eq]; unfold r25_Det_L10_B
      rw [if_pos (by simp; omega), hix, hlast]
      rw [G_pos (by omega), G_pos (by omega), G_pos (by omega), G_pos (by omega), G_pos (by omega)]
      rw [show (t.1, t.2.1, t.2.2.1, t.2.2.2.1, ()) = t from rfl, ht]
      rw [show ∀ (g : List Int → Option (Dt × Bool)) (y : List Int), (some y).bind g = g y from fun _ _ => rfl]
      rw [find14 (by omega) (fun x hx => by
        obtain ⟨s, hs, rfl⟩ := List.mem_map.1 hx
        unfold phi; rw [mkLs_len]; omega), ef]
      cases e : mfind (xRow (nxT t) (ix l i) l a).1 (nxT t (ix l i) a) with
      | some j =>
        rw [xRow_some e] at ih'
        have hj := (mfind_ix e).1
        unfold r25_Det_J17
        rw [if_neg (by simp; omega), G_pos (by unfold room; simp; omega), G_pos (by unfold fits; omega)]
        exact ih' hlen
      | none =>
        rw [xRow_none e] at ih'
        unfold r25_Det_J17
        rw [if_pos (by simp)]
        by_cases c : (xRow (nxT t) (ix l i) l a).1.length = 1500
        · right
          rw [if_pos (by simp; omega)]
          exact ⟨_, rfl⟩
        · rw [if_neg (by simp; omega), G_pos (by unfold room; simp; omega), G_pos (by unfold room; simp; omega), G_pos (by unfold fits; omega)]
          have := ih' (by simp; omega)
          rw [List.map_append] at this
          simp only [hml] at this ⊢
          exact this
  exact key _ 0 rfl (by omega) hl2
theorem ref_all (h : TOk t) (hm : ∀ s ∈ t.2.2.2.1, s = 0 ∨ s = 1) {n : Nat} (hg : XGo (nxT t) (mkT t) t.1.toNat (beg t) n) (hn : (xSt (nxT t) (mkT t) t.1.toNat (beg t) n).1.length = n) {o : Dt} (ho : r3_Least (xAut (nxT t) (mkT t) t.1.toNat (beg t) n) = some o) :
    (n ≤ 1500 ∧ r25_Det t = some (o, false)) ∨ ∃ x, r25_Det t = some (x, true) := by
  have hx := T_xok h hm
  have h1 := h.let1
  have key : ∀ (f i : Nat), n - i = f → i ≤ n → (xSt (nxT t) (mkT t) t.1.toNat (beg t) i).1.length ≤ 1500 →
      (n ≤ 1500 ∧ r25_Det_L6 t i ((xSt (nxT t) (mkT t) t.1.toNat (beg t) i).1.map (phi t)) t.1 0 (xSt (nxT t) (mkT t) t.1.toNat (beg t) i).2.1 (xSt (nxT t) (mkT t) t.1.toNat (beg t) i).2.2 = some (o, false)) ∨
      ∃ x, r25_Det_L6 t i ((xSt (nxT t) (mkT t) t.1.toNat (beg t) i).1.map (phi t)) t.1 0 (xSt (nxT t) (mkT t) t.1.toNat (beg t) i).2.1 (xSt (nxT t) (mkT t) t.1.toNat (beg t) i).2.2 = some (x, true) := by
    intro f
    induction f with
    | zero =>
      intro i hf hi hlen
      obtain rfl : i = n := by omega
      refine .inl ⟨by omega, ?_⟩
      rw [r25_Det_L6_eq]; unfold r25_Det_L6_B
      rw [if_neg (by simp; omega)]
      have e : (t.1, (0 : Int), (xSt (nxT t) (mkT t) t.1.toNat (beg t) i).2.1, (xSt (nxT t) (mkT t) t.1.toNat (beg t) i).2.2, ()) = xAut (nxT t) (mkT t) t.1.toNat (beg t) i := by
        unfold xAut; rw [Int.toNat_of_nonneg (by omega)]
      rw [e]
      exact bind_to ho rfl
    | succ f ih =>
      intro i hf hi hlen
      obtain ⟨g1, g2, g3⟩ := xSt_ok hx i (fun k hk => hg k (by omega))
      have hlt := hg i (by omega)
      have hr := g3.r
      have hmm := g3.m
      have ih' := ih (i + 1) (by omega) (by omega)
      rw [r25_Det_L6_eq]; unfold r25_Det_L6_B
      rw [if_pos (by simp; omega)]
      rcases ref_row (i := (i : Int)) (D2 := (xSt (nxT t) (mkT t) t.1.toNat (beg t) i).2.1) (D3 := (xSt (nxT t) (mkT t) t.1.toNat (beg t) i).2.2) (o := t.1) (o1 := 0) (r6 := r25_Det_L6 t) h hm g1 hlen (by omega) (by omega) (by omega) (by omega) with ⟨q1, q2⟩ | q
      · rw [q2]
        exact ih' q1
      · exact .inr q
  have hb : r25_Table t [] true t.2.1 t.1 = some (phi t (beg t)) := by
    unfold beg
    rw [phi_mk h]
    have := table_spec (A := fun _ => -1) (s := []) (first := true) (l := t.2.1) (a := t.1) h (fun _ _ => .inl rfl) (fun _ _ => rfl) (fun e => by cases e) (by omega) (by omega) (.inr h.st)
    rw [if_pos h.st.1] at this
    exact this
  unfold r25_Det
  rw [show (t.1, t.2.1, t.2.2.1, t.2.2.2.1, ()) = t from rfl, hb]
  rw [show ∀ (g : List Int → Option (Dt × Bool)) (y : List Int), (some y).bind g = g y from fun _ _ => rfl]
  exact key _ 0 rfl (by omega) (by simp [xSt])
end
theorem twE_mark {t : Tw} (h : twE t = 0) : ∀ s ∈ t.2.2.2.1, s = 0 ∨ s = 1 := by
  intro s hs
  unfold twE at h
  by_cases c1 : t.1 < 1 ∨ 4 < t.1
  · rw [if_pos c1] at h; omega
  rw [if_neg c1] at h
  by_cases c2 : TBig t
  · rw [if_pos c2] at h; omega
  rw [if_neg c2] at h
  by_cases c3 : TRag t
  · rw [if_pos c3] at h; omega
  rw [if_neg c3] at h
  by_cases c4 : TOut t
  · rw [if_pos c4] at h; omega
  unfold TOut at c4
  have : ¬ (¬ s = 0 ∧ ¬ s = 1) := fun hh => c4 (.inr (.inr ⟨s, hs, hh⟩))
  omega
section
variable {t : Tw}
noncomputable def b0 (t : Tw) (j : Int) : Int := if j < t.2.2.1.length then beh t (fun _ => -1) t.1 (t.2.2.1.length + 1) j else -1
theorem two_begin (h : TOk t) (he : twE t = 0) : two_Det t = two_Det_L8 t 4 (b0 t 0) (b0 t 1) (b0 t 2) (b0 t 3) 0 := by
  have hn := h.n1
  have hl := h.let1
  let st : Nat → Int → Int := fun k j => if j < k then b0 t j else 0
  have key : ∀ (f k : Nat), 4 - k = f → k ≤ 4 → two_Det_L8 t k (st k 0) (st k 1) (st k 2) (st k 3) 0 = two_Det_L8 t 4 (b0 t 0) (b0 t 1) (b0 t 2) (b0 t 3) 0 := by
    intro f
    induction f with
    | zero =>
      intro k hf hk
      obtain rfl : k = 4 := by omega
      rfl
    | succ f ih =>
      intro k hf hk
      rw [← ih (k + 1) (by omega) (by omega)]
      conv => lhs; rw [two_Det_L8_eq]; unfold two_Det_L8_B two_Det_J12
      rw [if_pos (by simp; omega), G_pos (by omega), G_pos (by omega)]
      have hk4 : k = 0 ∨ k = 1 ∨ k = 2 ∨ k = 3 := by omega
      by_cases c : (k : Int) < t.2.2.1.length
      · rw [if_pos (decide_eq_true c)]
        refine bind_to (det1_spec (A := fun _ => -1) (q := (k : Int)) h (fun _ _ => .inl rfl) (fun _ _ => rfl) (fun e => by cases e) (by omega) (by omega) ⟨by omega, c⟩) ?_
        refine G_to (by omega) (G_to (by omega) (G_to (by unfold fits; omega) ?_))
        have hb : b0 t k = beh t (fun _ => -1) t.1 (t.2.2.1.length + 1) k := by unfold b0; rw [if_pos c]
        rw [← hb]
        rcases hk4 with rfl | rfl | rfl | rfl <;> simp [st]
      · rw [if_neg (by simpa using c)]
        refine G_to (by unfold fits; omega) ?_
        have hb : b0 t k = -1 := by unfold b0; rw [if_neg c]
        rcases hk4 with rfl | rfl | rfl | rfl <;> simp [st] <;> simp at hb <;> simp [hb]
  unfold two_Det
  refine bind_to two_Check_spec ?_
  rw [show twE (t.1, t.2.1, t.2.2.1, t.2.2.2.1, ()) = 0 from he, if_neg (by simp)]
  exact key _ 0 rfl (by omega)
theorem two_Det_spec (h : TOk t) (he : twE t = 0) {n : Nat} (n2 : XGo (nxT t) (mkT t) t.1.toNat (beg t) n) (n3 : (xSt (nxT t) (mkT t) t.1.toNat (beg t) n).1.length = n) {o : Dt} (ho : det_Smallest (xAut (nxT t) (mkT t) t.1.toNat (beg t) n) = some o) :
    two_Det t = some (if (3000 : Int) < (o.2.2.1.length : Int) then ((0, 0, [], [], ()), 7) else (o, 0)) := by
  have hm := twE_mark he
  have hn := h.n1
  have hl := h.let1
  have hx := T_xok h hm
  rw [two_begin h he, two_Det_L8_eq]; unfold two_Det_L8_B
  rw [if_neg (by simp)]
  refine bind_to (det1_spec (A := fun _ => -1) (q := t.2.1) h (fun _ _ => .inl rfl) (fun _ _ => rfl) (fun e => by cases e) (by omega) (by omega) h.st) ?_
  have hp := det_Explore_prog (g := t.1) (m := (t.2.2.1.length : Int)) (t0 := t) hx (by omega) (by omega) hl (fun s hs a a0 a1 => two_next h hs a0 a1) (fun s hs => two_mark h hs) n2 n3
  refine bind_to hp (bind_to ho ?_)
  rw [if_neg (by simp)]
  by_cases c : (3000 : Int) < (o.2.2.1.length : Int)
  · rw [if_pos (by simpa using c), if_pos c]
  · rw [if_neg (by simpa using c), if_neg c]
theorem T_walk (h : TOk t) {tp : Int → Int} : ∀ (v : List Int) (k : Int) (s : Tb), -1 ≤ k → PT t s → TC t tp k (get5 s) → LC t tp k s.2.2.2.2.1 → (∀ j : Int, 0 ≤ j → j < v.length → tp (k + 1 + j) = ix v j) → (∀ p, 0 ≤ p → p ≤ k + v.length → 0 ≤ tp p ∧ tp p < t.1 + 2) →
    PT t (v.foldl (nxT t) s) ∧ TC t tp (k + v.length) (get5 (v.foldl (nxT t) s)) ∧ LC t tp (k + v.length) (v.foldl (nxT t) s).2.2.2.2.1
  | [], k, s, hk, hp, ht, hl, _, _ => by
    have : k + (([] : List Int).length : Int) = k := by simp
    rw [this]; exact ⟨hp, ht, hl⟩
  | a :: v, k, s, hk, hp, ht, hl, hv, hts => by
    have hn := h.n1
    have ea : tp (k + 1) = a := by
      have := hv 0 (by omega) (by simp <;> omega)
      rw [show k + 1 + 0 = k + 1 from by omega] at this
      exact this
    have hr := hts (k + 1) (by omega) (by simp; omega)
    have hts1 : ∀ p, 0 ≤ p → p ≤ k + 1 → 0 ≤ tp p ∧ tp p < t.1 + 2 := fun p p0 p1 => hts p p0 (by simp <;> omega)
    have e : k + ((a :: v).length : Int) = k + 1 + (v.length : Int) := by simp; omega
    rw [e]
    rw [e] at hts
    refine T_walk h v (k + 1) (nxT t s a) (by omega) (hp.next h (by omega) (by omega)) (ht.next h hk hts1 (fun q hq => ?_)) ?_ (fun j j0 j1 => ?_) hts
    · unfold StR at hq
      unfold nxT
      rw [get5_mk hq.1 (by omega), if_pos hq.2, ea]
    · have := hl.next h hk ht hts1
      rw [ea] at this
      exact this
    · have := hv (j + 1) (by omega) (by simp; omega)
      rw [show k + 1 + 1 + j = k + 1 + (j + 1) from by omega, this, ix_cons_succ (by omega)]
      congr 1; omega
theorem T_acc (h : TOk t) {w : List Int} (hw : ∀ a ∈ w, 0 ≤ a ∧ a < t.1) : mkT t (w.foldl (nxT t) (beg t)) = 1 ↔ ∃ q, Lv t (ix (tpe t w)) ((w.length : Int) + 1) (t.2.1, 0) q ∧ ix t.2.2.2.1 q = 1 := by
  have hn := h.n1
  have hl := h.let1
  have hts := tpe_tp (w := w) (k := (w.length : Int) + 1) hl.1 hw (by omega)
  have t0 : ix (tpe t w) 0 = t.1 := rfl
  have tj : ∀ j : Int, 0 ≤ j → j < w.length → ix (tpe t w) (0 + 1 + j) = ix w j := fun j j0 j1 => by
    unfold tpe
    rw [ix_append_left (by omega) (by simp; omega)]
    show ix (t.1 :: w) _ = _
    rw [ix_cons_succ (by omega)]
    congr 1; omega
  have tn : ix (tpe t w) ((w.length : Int) + 1) = t.1 + 1 := by
    unfold tpe
    have : ((w.length : Int) + 1) = (([t.1] ++ w).length : Int) := by simp
    rw [this, ix_append_last]
  have hA : TC t (ix (tpe t w)) (-1 + 1) (get5 (beg t)) := TC.none.next h (by omega) (fun p p0 p1 => hts p p0 (by omega)) (fun q hq => by
    unfold StR at hq
    unfold beg
    rw [get5_mk hq.1 (by omega), if_pos hq.2]; rfl)
  have hB : LC t (ix (tpe t w)) (-1 + 1) (beg t).2.2.2.2.1 := by
    have := (LC.first (tp := ix (tpe t w)) h).next h (by omega) TC.none (fun p p0 p1 => hts p p0 (by omega))
    rw [if_pos h.st.1] at this
    exact this
  obtain ⟨p1, p2, p3⟩ := T_walk h w 0 (beg t) (by omega) (PT.beg h) hA hB tj (fun p p0 p1 => hts p p0 (by omega))
  generalize w.foldl (nxT t) (beg t) = s at p1 p2 p3 ⊢
  rw [show (0 : Int) + (w.length : Int) = (w.length : Int) from by omega] at p2 p3
  have hL := p3.next h (by omega) p2 hts
  rw [tn] at hL
  unfold mkT
  generalize (if 0 ≤ s.2.2.2.2.1 then beh t (get5 s) (t.1 + 1) (t.2.2.1.length + 1) s.2.2.2.2.1 else -1) = r at hL ⊢
  by_cases e : 0 ≤ r
  · rw [if_pos e]
    refine ⟨fun hm => ⟨r, hL.y e, hm⟩, fun ⟨q, q1, q2⟩ => ?_⟩
    rw [(hL.y e).uniq q1]; exact q2
  · rw [if_neg e]
    exact ⟨fun hh => absurd hh (by omega), fun ⟨q, q1, _⟩ => absurd q1 (hL.n (by omega) q)⟩
end
theorem law_true (t : Tw) (w : List Int) : law_TwoDet t w = some true := by
  unfold law_TwoDet
  by_cases he : twE t = 0
  · have h := twE_zero he
    have hm := twE_mark he
    have hl := h.let1
    have hx := T_xok h hm
    obtain ⟨n, n1, n2, n3⟩ := xSt_stops hx
    have hd := xAut_ok hx (by omega) (by omega) n2 n3
    obtain ⟨o, C, Q, K, g1, g2, g3⟩ := least_both hd
    obtain ⟨s1, s2, s3⟩ := g1.sizes hd
    obtain ⟨_, _, x3⟩ := xSt_ok hx n n2
    have htd := two_Det_spec h he n2 n3 g2
    have hpos : 0 < n := by
      refine Nat.pos_of_ne_zero fun e => ?_
      subst e
      simp [xSt] at n3
    have hno : ∀ d : Dt, (d.2.2.1.length : Int) ≤ 4000 → (d.2.2.2.1.length : Int) ≤ 4000 → ∃ v, law_noDet d = some v := fun d h1 h2 => by
      unfold law_noDet
      split
      · split
        · rw [G_pos (by unfold fits; omega)]; exact ⟨_, rfl⟩
        · exact ⟨_, rfl⟩
      · exact ⟨_, rfl⟩
    refine bind_to htd ?_
    obtain ⟨v, hv⟩ := hno (if (3000 : Int) < (o.2.2.1.length : Int) then (((0 : Int), (0 : Int), ([] : List (List Int)), ([] : List Int), ()), (7 : Int)) else (o, 0)).1 (by split <;> simp <;> omega) (by split <;> simp <;> omega)
    refine bind_to hv (bind_to r25_Check_spec ?_)
    rw [show twE (t.1, t.2.1, t.2.2.1, t.2.2.2.1, ()) = 0 from he, if_neg (by simp)]
    rcases ref_all h hm n2 n3 g3 with ⟨hn, hr⟩ | ⟨x, hr⟩
    · refine bind_to hr ?_
      have hK : (o.2.2.1.length : Int) ≤ 1500 := by
        have w1 := g1.part.q.le g1.fin
        have w2 := g1.fin.le
        have w3 := g1.all
        have w4 := x3.r
        have w5 : (xAut (nxT t) (mkT t) t.1.toNat (beg t) n).2.2.1.length = n := w4
        omega
      rw [if_neg (by simp), if_neg (show ¬ (3000 : Int) < (o.2.2.1.length : Int) by omega)]
      refine bind_to (r3_Same_refl (d := o) (by omega) (by omega) (fun r hr => by have := s3 r hr; omega)) ?_
      rw [if_neg (by simp), if_neg (by simp)]
      refine bind_to r1_May_spec ?_
      by_cases hw : mayE t.1 w = 0
      · obtain ⟨_, hlen, hlet⟩ := mayE_zero hw
        rw [if_neg (by simpa using hw)]
        obtain ⟨m, hrun⟩ := run_spec h hlet (by omega) (T_acc h hlet)
        refine bind_to hrun ?_
        have hlet' : ∀ a ∈ w, 0 ≤ a ∧ a < (xAut (nxT t) (mkT t) t.1.toNat (beg t) n).1 := fun a ha => by
          have := hlet a ha
          show 0 ≤ a ∧ a < (t.1.toNat : Int)
          omega
        obtain ⟨k0, k1, k2⟩ := least_mark hd g1 hlet'
        obtain ⟨w1, w2, w3⟩ := xAut_walk hx n2 n3 w 0 (by omega) (by omega) hlet'
        have em := x3.mark _ w1 w2
        have hmark : ix o.2.2.2.1 (wlk o.2.2.1 o.2.1 w) = mkT t (w.foldl (nxT t) (beg t)) := by
          rw [k2]
          show ix (xSt (nxT t) (mkT t) t.1.toNat (beg t) n).2.2 (wlk (xAut (nxT t) (mkT t) t.1.toNat (beg t) n).2.2.1 0 w) = _
          rw [em, w3, x3.z]
        have hst : 0 ≤ o.2.1 ∧ o.2.1 < o.2.2.1.length := by
          have w1 := g1.st
          have w3 := g1.all
          have w4 : 0 < o.2.2.1.length := by omega
          omega
        have hl3 := g1.part.l3
        have hall := g1.all
        have hLo : o.1 = t.1 := by rw [g1.let1]; show (t.1.toNat : Int) = t.1; omega
        refine bind_to (y := decide (mkT t (w.foldl (nxT t) (beg t)) = 1)) ?_ (by simp)
        unfold r3_Accepts
        refine bind_to (r3_After_spec (d := o) g1.tab' (fun a ha => by rw [hLo]; exact hlet a ha) (by omega) hst.1 hst.2) ?_
        rw [hmark]
        exact G_to (show 0 ≤ wlk o.2.2.1 o.2.1 w ∧ wlk o.2.2.1 o.2.1 w < (o.2.2.2.1.length : Int) by omega) rfl
      · rw [if_pos (by simpa using hw)]
    · refine bind_to hr ?_
      rw [if_pos rfl]
  · have htd : two_Det t = some ((0, 0, [], [], ()), twE t) := by
      unfold two_Det
      refine bind_to two_Check_spec ?_
      rw [show twE (t.1, t.2.1, t.2.2.1, t.2.2.2.1, ()) = twE t from rfl, if_pos (by simpa using he)]
    refine bind_to htd (bind_to noDet_none (bind_to r25_Check_spec ?_))
    rw [show twE (t.1, t.2.1, t.2.2.1, t.2.2.2.1, ()) = twE t from rfl, if_pos (by simpa using he), if_pos (by simp)]

end Go.Proofs.Ytmlohdkgmabfdaa.twoDetW
