/- The law 'CodeSync' of the plain functions. -/
import Derived.Test.YtogcngcbpkjdfaaCodeSyncD
set_option maxHeartbeats 1000000
set_option maxRecDepth 20000
set_option linter.unusedSimpArgs false
set_option linter.unusedVariables false
namespace Go.Proofs.Ytogcngcbpkjdfaa.codeSyncW
open Go Go.Ab
theorem wrap_nat {n : Nat} (h : n < 9223372036854775808) : IntKind.wrap .i64 (n : Int) = n := by
  unfold IntKind.wrap
  simp [IntKind.bits, IntKind.signed]
  omega
theorem ofInt_nat (m : Nat) : BitVec.ofInt 64 (m : Int) = BitVec.ofNat 64 m := by
  apply BitVec.eq_of_toNat_eq; simp
theorem iand_nat {m n : Nat} (hm : m < 9223372036854775808) (hn : n < 9223372036854775808) : iand .i64 (m : Int) (n : Int) = ((m &&& n : Nat) : Int) := by
  unfold iand
  have h : (BitVec.ofInt IntKind.i64.bits (m : Int) &&& BitVec.ofInt IntKind.i64.bits (n : Int)).toNat = m &&& n := by
    show (BitVec.ofInt 64 (m : Int) &&& BitVec.ofInt 64 (n : Int)).toNat = m &&& n
    rw [ofInt_nat, ofInt_nat, BitVec.toNat_and, BitVec.toNat_ofNat, BitVec.toNat_ofNat, Nat.mod_eq_of_lt (by omega), Nat.mod_eq_of_lt (by omega)]
  rw [h, wrap_nat (Nat.lt_of_le_of_lt Nat.and_le_left hm)]
theorem ior_nat {m n : Nat} (hm : m < 9223372036854775808) (hn : n < 9223372036854775808) : ior .i64 (m : Int) (n : Int) = ((m ||| n : Nat) : Int) := by
  unfold ior
  have h : (BitVec.ofInt IntKind.i64.bits (m : Int) ||| BitVec.ofInt IntKind.i64.bits (n : Int)).toNat = m ||| n := by
    show (BitVec.ofInt 64 (m : Int) ||| BitVec.ofInt 64 (n : Int)).toNat = m ||| n
    rw [ofInt_nat, ofInt_nat, BitVec.toNat_or, BitVec.toNat_ofNat, BitVec.toNat_ofNat, Nat.mod_eq_of_lt (by omega), Nat.mod_eq_of_lt (by omega)]
  rw [h, wrap_nat (Nat.or_lt_two_pow (n := 63) hm hn)]
theorem ishl_nat {m k : Nat} (hk : k < 63) (h : m * 2 ^ k < 9223372036854775808) : ishl .i64 (m : Int) (k : Int) = ((m <<< k : Nat) : Int) := by
  unfold ishl
  have e : min ((k : Int).toNat) IntKind.i64.bits = k := by
    show min ((k : Int).toNat) 64 = k
    omega
  rw [e, Nat.shiftLeft_eq]
  have : (m : Int) * 2 ^ k = ((m * 2 ^ k : Nat) : Int) := by push_cast; rfl
  rw [this, wrap_nat h]
theorem ishr_nat {m k : Nat} (hk : k ≤ 64) : ishr .i64 (m : Int) (k : Int) = ((m >>> k : Nat) : Int) := by
  unfold ishr
  have e : min ((k : Int).toNat) IntKind.i64.bits = k := by
    show min ((k : Int).toNat) 64 = k
    omega
  rw [e, Nat.shiftRight_eq_div_pow, Int.fdiv_eq_ediv_of_nonneg _ (by exact_mod_cast Nat.zero_le _)]
  push_cast; rfl
/-- Bits: the q-th one is put. -/
theorem ior_bit {m q : Nat} (hm : m < 4611686018427387904) (hq : q < 62) : ior .i64 (m : Int) (ishl .i64 1 (q : Int)) = ((m ||| 2 ^ q : Nat) : Int) ∧ m ||| 2 ^ q < 4611686018427387904 := by
  have h2 : 2 ^ q < 4611686018427387904 := Nat.pow_lt_pow_right (a := 2) (n := 62) (by omega) hq
  have h1 : ishl .i64 1 (q : Int) = ((2 ^ q : Nat) : Int) := by
    have := ishl_nat (m := 1) (k := q) (by omega) (by omega)
    rw [Nat.shiftLeft_eq, Nat.one_mul] at this
    exact this
  rw [h1, ior_nat (by omega) (by omega)]
  exact ⟨rfl, Nat.or_lt_two_pow (n := 62) hm h2⟩

/-- The answer is yes just if P. -/
def Tells (o : Option Bool) (P : Prop) : Prop := ∃ b, o = some b ∧ (b = true ↔ P)
theorem Tells.of {b : Bool} {P : Prop} (h : b = true ↔ P) : Tells (some b) P := ⟨b, rfl, h⟩
theorem Tells.dec {P Q : Prop} [Decidable P] (h : P ↔ Q) : Tells (some (decide P)) Q := ⟨_, rfl, by simpa using h⟩
theorem Tells.iff {o : Option Bool} {P Q : Prop} (h : Tells o P) (k : P ↔ Q) : Tells o Q := let ⟨b, h1, h2⟩ := h; ⟨b, h1, h2.trans k⟩
theorem Tells.eq {o : Option Bool} {P : Prop} [Decidable P] (h : Tells o P) : o = some (decide P) := by
  obtain ⟨b, rfl, hb⟩ := h
  by_cases hp : P
  · simp [hp, hb.2 hp]
  · have : b = false := by cases b; rfl; exact absurd (hb.1 rfl) hp
    simp [hp, this]
theorem Tells.to {R : Type} {o : Option Bool} {P : Prop} {k1 k2 x : Option R} (h : Tells o P) (h1 : P → k1 = x) (h2 : ¬ P → k2 = x) : (o.bind fun y => if y = true then k1 else k2) = x := by
  obtain ⟨b, rfl, hb⟩ := h
  refine bind_to rfl ?_
  cases b
  · exact h2 fun hp => by simpa using hb.2 hp
  · exact h1 (hb.1 rfl)
theorem Tells.bind {R : Type} {o : Option Bool} {P : Prop} {k : Bool → Option R} {x : Option R} (h : Tells o P) (h1 : ∀ b, (b = true ↔ P) → k b = x) : o.bind k = x := by
  obtain ⟨b, rfl, hb⟩ := h
  exact h1 b hb
section
variable {α C : Type} [Inhabited α]
theorem ex_ix {l : List α} {P : α → Prop} : (∃ x ∈ l, P x) ↔ ∃ i : Int, 0 ≤ i ∧ i < l.length ∧ P (ix l i) := by
  constructor
  · rintro ⟨x, hx, hp⟩
    obtain ⟨i, hi, rfl⟩ := List.mem_iff_getElem.1 hx
    refine ⟨i, by omega, by omega, ?_⟩
    rwa [ix_eq (by omega) (by omega)]
  · rintro ⟨i, h0, h1, hp⟩
    exact ⟨_, ix_mem h0 h1, hp⟩
theorem index_loop {s : List α} {f : α → Option Bool} {L : Int → Option Int} {P : α → Prop} (hs : s.length ≤ 4611686018427387904)
    (hL : ∀ t, L t = if decide (t < (s.length : Int)) = true then G (0 ≤ t ∧ t < (s.length : Int)) ((f (ix s t)).bind fun y => if y = true then some t else G (fits (t + 1)) (L (t + 1))) else some (-1))
    (hf : ∀ x ∈ s, Tells (f x) (P x)) : ∀ (n : Nat) (t : Int), 0 ≤ t → t ≤ s.length → (s.length - t).toNat = n →
      ∃ i, L t = some i ∧ ((i = -1 ∧ ∀ j : Int, t ≤ j → j < s.length → ¬ P (ix s j)) ∨ (t ≤ i ∧ i < s.length ∧ P (ix s i) ∧ ∀ j : Int, t ≤ j → j < i → ¬ P (ix s j))) := by
  intro n
  induction n with
  | zero =>
    intro t h0 h1 hn
    refine ⟨-1, ?_, .inl ⟨rfl, fun j a b => by omega⟩⟩
    rw [hL, if_neg (by simp; omega)]
  | succ n ih =>
    intro t h0 h1 hn
    rw [hL, if_pos (by simp; omega), G_pos (by omega)]
    obtain ⟨b, hb, hbp⟩ := hf _ (ix_mem h0 (by omega : t < s.length))
    rw [hb]
    cases b with
    | true => exact ⟨t, rfl, .inr ⟨by omega, by omega, hbp.1 rfl, fun j a b => by omega⟩⟩
    | false =>
      have hnp : ¬ P (ix s t) := fun hp => by simpa using hbp.2 hp
      obtain ⟨i, hi, hc⟩ := ih (t + 1) (by omega) (by omega) (by omega)
      refine ⟨i, ?_, ?_⟩
      · refine (if_neg (by simp) : (if false = true then some t else G (fits (t + 1)) (L (t + 1))) = _).trans ?_
        rw [G_pos (by unfold fits; omega), hi]
      · rcases hc with ⟨h2, h3⟩ | ⟨h2, h3, h4, h5⟩
        · refine .inl ⟨h2, fun j a b => ?_⟩
          by_cases e : j = t
          · rw [e]; exact hnp
          · exact h3 j (by omega) b
        · refine .inr ⟨by omega, h3, h4, fun j a b => ?_⟩
          by_cases e : j = t
          · rw [e]; exact hnp
          · exact h5 j (by omega) b
theorem contains_tells {s : List α} {f : α → Option Bool} {L : Int → Option Int} {P : α → Prop}
    (hL : ∀ t, L t = if decide (t < (s.length : Int)) = true then G (0 ≤ t ∧ t < (s.length : Int)) ((f (ix s t)).bind fun y => if y = true then some t else G (fits (t + 1)) (L (t + 1))) else some (-1))
    (hs : s.length ≤ 4611686018427387904) (hf : ∀ x ∈ s, Tells (f x) (P x)) : Tells ((L 0).bind fun y => some (decide ((0 : Int) ≤ y))) (∃ x ∈ s, P x) := by
  obtain ⟨i, hi, hc⟩ := index_loop hs hL hf _ 0 (by omega) (by omega) rfl
  rw [hi]
  refine ⟨decide (0 ≤ i), rfl, ?_⟩
  rw [decide_eq_true_iff, ex_ix]
  rcases hc with ⟨h2, h3⟩ | ⟨h2, h3, h4, h5⟩
  · constructor
    · intro h; omega
    · rintro ⟨j, h0, h1, hp⟩; exact absurd hp (h3 j h0 h1)
  · exact ⟨fun _ => ⟨i, by omega, h3, h4⟩, fun _ => by omega⟩
/-- .. of what carries along what it reads. -/
theorem contains_tells2 {s : List α} {c : C} {f : α → C → Option (Bool × C)} {L : Int → C → Option (Int × C)} {P : α → Prop}
    (hL : ∀ t c, L t c = if decide (t < (s.length : Int)) = true then G (0 ≤ t ∧ t < (s.length : Int)) ((f (ix s t) c).bind fun y => if y.1 = true then some (t, y.2) else G (fits (t + 1)) (L (t + 1) y.2)) else some (-1, c))
    (hs : s.length ≤ 4611686018427387904) (hf : ∀ x ∈ s, ∃ b, f x c = some (b, c) ∧ (b = true ↔ P x)) : ∃ b, ((L 0 c).bind fun y => some (decide ((0 : Int) ≤ y.1), y.2)) = some (b, c) ∧ (b = true ↔ ∃ x ∈ s, P x) := by
  have key : ∀ (n : Nat) (t : Int), 0 ≤ t → t ≤ s.length → (s.length - t).toNat = n →
      ∃ i, L t c = some (i, c) ∧ ((i = -1 ∧ ∀ j : Int, t ≤ j → j < s.length → ¬ P (ix s j)) ∨ (t ≤ i ∧ i < s.length ∧ P (ix s i))) := by
    intro n
    induction n with
    | zero =>
      intro t h0 h1 hn
      refine ⟨-1, ?_, .inl ⟨rfl, fun j a b => by omega⟩⟩
      rw [hL, if_neg (by simp; omega)]
    | succ n ih =>
      intro t h0 h1 hn
      rw [hL, if_pos (by simp; omega), G_pos (by omega)]
      obtain ⟨b, hb, hbp⟩ := hf _ (ix_mem h0 (by omega : t < s.length))
      rw [hb]
      cases b with
      | true => exact ⟨t, rfl, .inr ⟨by omega, by omega, hbp.1 rfl⟩⟩
      | false =>
        have hnp : ¬ P (ix s t) := fun hp => by simpa using hbp.2 hp
        obtain ⟨i, hi, hc⟩ := ih (t + 1) (by omega) (by omega) (by omega)
        refine ⟨i, ?_, ?_⟩
        · refine (if_neg (by simp) : (if false = true then some (t, c) else G (fits (t + 1)) (L (t + 1) c)) = _).trans ?_
          rw [G_pos (by unfold fits; omega), hi]
        · rcases hc with ⟨h2, h3⟩ | ⟨h2, h3, h4⟩
          · refine .inl ⟨h2, fun j a b => ?_⟩
            by_cases e : j = t
            · rw [e]; exact hnp
            · exact h3 j (by omega) b
          · exact .inr ⟨by omega, h3, h4⟩
  obtain ⟨i, hi, hc⟩ := key _ 0 (by omega) (by omega) rfl
  rw [hi]
  refine ⟨decide (0 ≤ i), rfl, ?_⟩
  rw [decide_eq_true_iff, ex_ix]
  rcases hc with ⟨h2, h3⟩ | ⟨h2, h3, h4⟩
  · constructor
    · intro h; omega
    · rintro ⟨j, h0, h1, hp⟩; exact absurd hp (h3 j h0 h1)
  · exact ⟨fun _ => ⟨i, by omega, h3, h4⟩, fun _ => by omega⟩
end
/-- A loop that looks for the first fault. -/
theorem scan_to {R : Type} {len : Int} {L : Int → Option R} {bad : Int → Prop} {x : Option R} {lo : Int} (h0 : lo ≤ len)
    (hs : ∀ t, lo ≤ t → t < len → (bad t → L t = x) ∧ (¬ bad t → L t = L (t + 1))) (hf : (∀ t, lo ≤ t → t < len → ¬ bad t) → L len = x) : L lo = x := by
  have key : ∀ (n : Nat) (t : Int), lo ≤ t → t ≤ len → (len - t).toNat = n → (∀ j, lo ≤ j → j < t → ¬ bad j) → L t = x := by
    intro n
    induction n with
    | zero =>
      intro t h1 h2 hn h
      obtain rfl : t = len := by omega
      exact hf h
    | succ n ih =>
      intro t h1 h2 hn h
      by_cases hb : bad t
      · exact (hs t h1 (by omega)).1 hb
      · rw [(hs t h1 (by omega)).2 hb]
        refine ih (t + 1) (by omega) (by omega) (by omega) fun j a b => ?_
        by_cases e : j = t
        · rw [e]; exact hb
        · exact h j a (by omega)
  exact key _ lo (Int.le_refl _) h0 rfl (fun j a b => by omega)
/-- A loop that counts, with a state. -/
theorem fold_to {R S : Type} {len : Int} {L : Int → S → Option R} {f : Int → S → S} {lo : Int} {I : Int → S → Prop} {s : S} (h0 : lo ≤ len) (hI : I lo s)
    (hs : ∀ t s, lo ≤ t → t < len → I t s → L t s = L (t + 1) (f t s) ∧ I (t + 1) (f t s)) : ∃ s', I len s' ∧ L lo s = L len s' := by
  have key : ∀ (n : Nat) (t : Int) (s : S), lo ≤ t → t ≤ len → (len - t).toNat = n → I t s → ∃ s', I len s' ∧ L t s = L len s' := by
    intro n
    induction n with
    | zero =>
      intro t s h1 h2 hn h
      obtain rfl : t = len := by omega
      exact ⟨s, h, rfl⟩
    | succ n ih =>
      intro t s h1 h2 hn h
      obtain ⟨e, h3⟩ := hs t s h1 (by omega) h
      obtain ⟨s', h4, h5⟩ := ih (t + 1) _ (by omega) (by omega) (by omega) h3
      exact ⟨s', h4, e.trans h5⟩
  exact key _ lo s (Int.le_refl _) h0 rfl hI

theorem r1_Words_L4_spec {a b : List Int} (hl : a.length = b.length) : ∀ (n : Nat) (i : Int), 0 ≤ i → i ≤ a.length → (a.length - i).toNat = n → a.length ≤ 2305843009213693951 → (∀ j : Int, 0 ≤ j → j < i → ix a j = ix b j) → r1_Words_L4 a b i = some (decide (a = b)) := by
  intro n
  induction n with
  | zero =>
    intro i h0 h1 hn hs h
    rw [r1_Words_L4_eq]; unfold r1_Words_L4_B
    (try dsimp only); (repeat' first | (with_reducible refine G_to ?_ ?_; focus (first | omega | (unfold fits; omega) | (unfold room; (try simp only [List.length_append, List.length_cons, List.length_nil]); omega))) | (with_reducible refine both_to ?_ ?_) | (with_reducible refine itet_to ?_) | (with_reducible refine itef_to ?_) | (with_reducible refine ite_to (fun _ => ?_) (fun _ => ?_))) <;> try (exfalso; omega)
    · rw [Option.some_inj, eq_comm, decide_eq_true_iff]; exact ix_ext hl (fun j a b => h j a (by omega))
  | succ n ih =>
    intro i h0 h1 hn hs h
    rw [r1_Words_L4_eq]; unfold r1_Words_L4_B
    (try dsimp only); (repeat' first | (with_reducible refine G_to ?_ ?_; focus (first | omega | (unfold fits; omega) | (unfold room; (try simp only [List.length_append, List.length_cons, List.length_nil]); omega))) | (with_reducible refine both_to ?_ ?_) | (with_reducible refine itet_to ?_) | (with_reducible refine itef_to ?_) | (with_reducible refine ite_to (fun _ => ?_) (fun _ => ?_))) <;> try (exfalso; omega)
    · rw [Option.some_inj, eq_comm, decide_eq_false_iff_not]; rintro rfl; contradiction
    · rename_i hx; exact ih _ (by omega) (by omega) (by omega) hs (below_succ h (Decidable.not_not.1 hx))
theorem r1_Words_spec {a b : List Int} (hs : a.length ≤ 2305843009213693951) : r1_Words a b = some (decide (a = b)) := by
  unfold r1_Words
  (try dsimp only); (repeat' first | (with_reducible refine G_to ?_ ?_; focus (first | omega | (unfold fits; omega) | (unfold room; (try simp only [List.length_append, List.length_cons, List.length_nil]); omega))) | (with_reducible refine both_to ?_ ?_) | (with_reducible refine itet_to ?_) | (with_reducible refine itef_to ?_) | (with_reducible refine ite_to (fun _ => ?_) (fun _ => ?_))) <;> try (exfalso; omega)
  · rw [Option.some_inj, eq_comm, decide_eq_false_iff_not]; rintro rfl; contradiction
  · exact r1_Words_L4_spec (by omega) _ 0 (by omega) (by omega) rfl hs (fun j a b => by omega)

theorem slices_Clone_spec {s : List Int} (hs : s.length * 8 ≤ 140737488355328) : slices_Clone s = some s := by
  have hr : G (room ([] : List Int) s 8) (some (([] : List Int) ++ s)) = some s := by
    rw [G_pos (room_of (by simpa using hs))]; rfl
  unfold slices_Clone
  refine itep_to (fun h => ?_) (fun h => hr)
  obtain rfl : s = [] := List.length_eq_zero_iff.1 h
  rw [hr]; exact both_self (ts := [(.list (.int .i64))]) (some ([] : List Int))

/-- A walk over a table. -/
def stp (N : List (List Int)) (q a : Int) : Int := ix (ix N q) a
def wlk (N : List (List Int)) (q : Int) (w : List Int) : Int := w.foldl (stp N) q
/-- The places come by. -/
def trc (N : List (List Int)) : Int → List Int → List Int
  | _, [] => []
  | q, a :: w => stp N q a :: trc N (stp N q a) w
/-- A table of so many letters. -/
structure Tab (L : Int) (N : List (List Int)) : Prop where
  row : ∀ r ∈ N, (r.length : Int) = L
  to : ∀ r ∈ N, ∀ q ∈ r, 0 ≤ q ∧ q < N.length
theorem Tab.stpb {L : Int} {N : List (List Int)} (h : Tab L N) {q a : Int} (q0 : 0 ≤ q) (q1 : q < N.length) (a0 : 0 ≤ a) (a1 : a < L) : 0 ≤ stp N q a ∧ stp N q a < N.length := by
  have h1 := ix_mem q0 q1
  have h2 := h.row _ h1
  exact h.to _ h1 _ (ix_mem a0 (by omega))
theorem Tab.rowlen {L : Int} {N : List (List Int)} (h : Tab L N) {q : Int} (q0 : 0 ≤ q) (q1 : q < N.length) : ((ix N q).length : Int) = L := h.row _ (ix_mem q0 q1)
theorem Tab.wlkb {L : Int} {N : List (List Int)} (h : Tab L N) : ∀ {w : List Int} {q : Int}, 0 ≤ q → q < N.length → (∀ a ∈ w, 0 ≤ a ∧ a < L) → 0 ≤ wlk N q w ∧ wlk N q w < N.length
  | [], q, q0, q1, _ => ⟨q0, q1⟩
  | a :: w, q, q0, q1, hw => by
    have := h.stpb q0 q1 (hw a (by simp)).1 (hw a (by simp)).2
    exact Tab.wlkb h (q := stp N q a) (w := w) this.1 this.2 (fun b hb => hw b (by simp [hb]))
theorem Tab.trcb {L : Int} {N : List (List Int)} (h : Tab L N) : ∀ {w : List Int} {q : Int}, 0 ≤ q → q < N.length → (∀ a ∈ w, 0 ≤ a ∧ a < L) → ∀ p ∈ trc N q w, 0 ≤ p ∧ p < N.length
  | [], q, q0, q1, _, p, hp => by cases hp
  | a :: w, q, q0, q1, hw, p, hp => by
    have := h.stpb q0 q1 (hw a (by simp)).1 (hw a (by simp)).2
    rcases List.mem_cons.1 hp with rfl | hp
    · exact this
    · exact Tab.trcb h this.1 this.2 (fun b hb => hw b (by simp [hb])) p hp

theorem mfind_none {α : Type} : ∀ {ks : List α} {x : α}, mfind ks x = none ↔ x ∉ ks
  | [], x => by simp [mfind]
  | y :: ys, x => by
    unfold mfind
    by_cases h : y = x
    · rw [if_pos h]; simp [h]
    · rw [if_neg h, Option.map_eq_none_iff, mfind_none]
      simp [Ne.symm h]
/-- A map that only marks: all its elements are one. -/
abbrev ones {α : Type} (ks : List α) : List Int := List.replicate ks.length 1
theorem mget_ones {α : Type} {ks : List α} {x : α} : (mget ks (ones ks) x 0 = 0) ↔ x ∉ ks := by
  unfold mget
  cases h : mfind ks x with
  | none => simp [mfind_none.1 h]
  | some j =>
    have hx : x ∈ ks := by
      refine Classical.byContradiction fun hn => ?_
      rw [mfind_none.2 hn] at h; cases h
    have := mfind_lt h
    simp [hx, this]
theorem mputK_new {α : Type} {ks : List α} {x : α} (h : x ∉ ks) : mputK ks x = ks ++ [x] := by
  unfold mputK; rw [mfind_none.2 h]
theorem mputV_new {α : Type} {ks : List α} {x : α} (h : x ∉ ks) : mputV ks (ones ks) x 1 = ones (ks ++ [x]) := by
  unfold mputV; rw [mfind_none.2 h]
  show List.replicate ks.length 1 ++ [1] = List.replicate (ks ++ [x]).length 1
  rw [List.length_append, List.length_singleton, List.replicate_succ']

theorem pigeon {α : Type} [DecidableEq α] : ∀ {l U : List α}, l.Nodup → (∀ x ∈ l, x ∈ U) → l.length ≤ U.length
  | [], _, _, _ => Nat.zero_le _
  | a :: l, U, hn, hs => by
    have ha := hs a (by simp)
    obtain ⟨h1, h2⟩ := List.nodup_cons.1 hn
    have := pigeon (U := U.erase a) h2 (fun x hx => (List.mem_erase_of_ne (by rintro rfl; exact h1 hx)).2 (hs x (by simp [hx])))
    rw [List.length_erase_of_mem ha] at this
    have hp : 0 < U.length := List.length_pos_of_mem ha
    rw [List.length_cons]; omega
theorem pigeon_int {l : List Int} {n : Nat} (h : l.Nodup) (hb : ∀ x ∈ l, 0 ≤ x ∧ x < n) : l.length ≤ n := by
  have := pigeon (U := (List.range n).map Int.ofNat) h (fun x hx => by
    have := hb x hx
    exact List.mem_map.2 ⟨x.toNat, List.mem_range.2 (by omega), by show ((x.toNat : Nat) : Int) = x; omega⟩)
  simpa using this

abbrev Dt := Int × Int × (List (List Int)) × (List Int) × Unit
def DBig (mx : Int) (d : Dt) : Prop := d.2.2.1.length < 1 ∨ mx < d.2.2.1.length
def DRag (d : Dt) : Prop := ¬ (d.2.2.2.1.length : Int) = d.2.2.1.length ∨ ∃ r ∈ d.2.2.1, ¬ (r.length : Int) = d.1
def DOut (mb : Int → Prop) (d : Dt) : Prop := (d.2.1 < 0 ∨ (d.2.2.1.length : Int) ≤ d.2.1) ∨ (∃ r ∈ d.2.2.1, ∃ q ∈ r, q < 0 ∨ (d.2.2.1.length : Int) ≤ q) ∨ (∃ s ∈ d.2.2.2.1, mb s)
open Classical in
/-- What is wrong with an automaton of at most so many states, with such marks. -/
noncomputable def detE (mx : Int) (mb : Int → Prop) (d : Dt) : Int := if d.1 < 1 ∨ 4 < d.1 then 2 else if DBig mx d then 1 else if DRag d then 3 else if DOut mb d then 2 else 0
structure DOk (mx : Int) (mb : Int → Prop) (d : Dt) : Prop where
  let1 : 1 ≤ d.1 ∧ d.1 ≤ 4
  n1 : 1 ≤ d.2.2.1.length ∧ (d.2.2.1.length : Int) ≤ mx
  st : 0 ≤ d.2.1 ∧ d.2.1 < d.2.2.1.length
  mkl : (d.2.2.2.1.length : Int) = d.2.2.1.length
  mok : ∀ s ∈ d.2.2.2.1, ¬ mb s
  tab : Tab d.1 d.2.2.1
theorem detE_zero {mx : Int} {mb : Int → Prop} {d : Dt} (h : detE mx mb d = 0) : DOk mx mb d := by
  unfold detE at h
  by_cases c1 : d.1 < 1 ∨ 4 < d.1
  · rw [if_pos c1] at h; omega
  rw [if_neg c1] at h
  by_cases c2 : DBig mx d
  · rw [if_pos c2] at h; omega
  rw [if_neg c2] at h
  by_cases c3 : DRag d
  · rw [if_pos c3] at h; omega
  rw [if_neg c3] at h
  by_cases c4 : DOut mb d
  · rw [if_pos c4] at h; omega
  unfold DBig at c2; unfold DRag at c3; unfold DOut at c4
  refine ⟨by omega, by omega, ?_, ?_, fun s hs hm => c4 (.inr (.inr ⟨s, hs, hm⟩)), fun r hr => ?_, fun r hr q hq => ?_⟩
  · have : ¬ (d.2.1 < 0 ∨ (d.2.2.1.length : Int) ≤ d.2.1) := fun h => c4 (.inl h)
    omega
  · exact Decidable.not_not.1 fun h => c3 (.inl h)
  · by_cases e : (r.length : Int) = d.1
    · exact e
    · exact absurd (.inr ⟨r, hr, e⟩) c3
  · have : ¬ (q < 0 ∨ (d.2.2.1.length : Int) ≤ q) := fun h => c4 (.inr (.inl ⟨r, hr, q, hq, h⟩))
    omega

abbrev badD (m : Int) : Prop := ¬ m = 0 ∧ ¬ m = 1
theorem det_mk (m : Int) : Tells (det_Check_4 m) (badD m) := by
  unfold det_Check_4
  by_cases h : m = 0
  · rw [if_neg (by simpa using h)]; exact Tells.of (by simp [h])
  · rw [if_pos (by simpa using h)]; exact Tells.dec (by simp [h])
theorem det_Check_spec {d : Dt} : det_Check d = some (detE 3000 badD d) := by
  unfold det_Check detE
  by_cases c1 : d.1 < 1 ∨ 4 < d.1
  · rw [if_pos c1]
    (try dsimp only); (repeat' first | (with_reducible refine G_to ?_ ?_; focus (first | omega | (unfold fits; omega) | (unfold room; (try simp only [List.length_append, List.length_cons, List.length_nil]); omega))) | (with_reducible refine both_to ?_ ?_) | (with_reducible refine itet_to ?_) | (with_reducible refine itef_to ?_) | (with_reducible refine ite_to (fun _ => ?_) (fun _ => ?_))) <;> try (exfalso; omega)
    all_goals rfl
  rw [if_neg c1]
  by_cases c2 : DBig 3000 d
  · rw [if_pos c2]; unfold DBig at c2
    (try dsimp only); (repeat' first | (with_reducible refine G_to ?_ ?_; focus (first | omega | (unfold fits; omega) | (unfold room; (try simp only [List.length_append, List.length_cons, List.length_nil]); omega))) | (with_reducible refine both_to ?_ ?_) | (with_reducible refine itet_to ?_) | (with_reducible refine itef_to ?_) | (with_reducible refine ite_to (fun _ => ?_) (fun _ => ?_))) <;> try (exfalso; omega)
    all_goals rfl
  rw [if_neg c2]
  unfold DBig at c2
  by_cases c3 : (d.2.2.2.1.length : Int) = d.2.2.1.length
  case neg =>
    rw [if_pos (show DRag d from .inl c3)]
    (try dsimp only); (repeat' first | (with_reducible refine G_to ?_ ?_; focus (first | omega | (unfold fits; omega) | (unfold room; (try simp only [List.length_append, List.length_cons, List.length_nil]); omega))) | (with_reducible refine both_to ?_ ?_) | (with_reducible refine itet_to ?_) | (with_reducible refine itef_to ?_) | (with_reducible refine ite_to (fun _ => ?_) (fun _ => ?_))) <;> try (exfalso; omega)
    all_goals rfl
  (try dsimp only); (repeat' first | (with_reducible refine G_to ?_ ?_; focus (first | omega | (unfold fits; omega) | (unfold room; (try simp only [List.length_append, List.length_cons, List.length_nil]); omega))) | (with_reducible refine both_to ?_ ?_) | (with_reducible refine itet_to ?_) | (with_reducible refine itef_to ?_) | (with_reducible refine ite_to (fun _ => ?_) (fun _ => ?_))) <;> try (exfalso; omega)
  have k1 : Tells (slices_ContainsFunc d.2.2.1 d) (∃ r ∈ d.2.2.1, ¬ (r.length : Int) = d.1) := contains_tells (f := fun r => det_Check_1 r d) (slices_IndexFunc_L2_eq d.2.2.1 d) (by omega) (fun x _ => Tells.dec Iff.rfl)
  have nn : ∀ q t : Int, Tells (det_Check_2 q t) (q < 0 ∨ t ≤ q) := fun q t => by
    unfold det_Check_2
    by_cases h : q < 0
    · rw [if_pos (decide_eq_true h)]; exact Tells.of (by simp [h])
    · rw [if_neg (by simpa using h)]; exact Tells.dec (by omega)
  have k2 : ∀ r ∈ d.2.2.1, r.length ≤ 1000 → Tells (slices_ContainsFunc_2 r (d.2.2.1.length : Int)) (∃ q ∈ r, q < 0 ∨ (d.2.2.1.length : Int) ≤ q) := fun r _ hr => contains_tells (f := fun q => det_Check_2 q (d.2.2.1.length : Int)) (slices_IndexFunc_2_L2_eq r (d.2.2.1.length : Int)) (by omega) (fun x _ => nn x _)
  have k4 : Tells (slices_ContainsFunc_3 d.2.2.2.1) (∃ s ∈ d.2.2.2.1, (badD) s) := contains_tells (f := fun q => det_Check_4 q) (slices_IndexFunc_3_L2_eq d.2.2.2.1) (by omega) (fun x _ => det_mk x)
  refine k1.to (fun h => by rw [if_pos (show DRag d from .inr h)]) (fun h => ?_)
  rw [if_neg (show ¬ DRag d from fun hh => hh.elim (fun e => e c3) h)]
  have hr : ∀ r ∈ d.2.2.1, r.length ≤ 1000 := fun r hr => by
    by_cases e : (r.length : Int) = d.1
    · omega
    · exact absurd ⟨r, hr, e⟩ h
  refine (nn _ _).to (fun h => by rw [if_pos (show DOut _ d from .inl h)]) (fun h1 => ?_)
  obtain ⟨b, hb, hb2⟩ : ∃ b, slices_ContainsFunc_1 d.2.2.1 (d.2.2.1.length : Int) = some (b, (d.2.2.1.length : Int)) ∧ (b = true ↔ ∃ r ∈ d.2.2.1, ∃ q ∈ r, q < 0 ∨ (d.2.2.1.length : Int) ≤ q) :=
    contains_tells2 (f := det_Check_3) (slices_IndexFunc_1_L2_eq d.2.2.1) (by omega) (fun r hrm => by
      obtain ⟨b, e, e2⟩ := k2 r hrm (hr r hrm)
      exact ⟨b, by unfold det_Check_3; rw [e]; rfl, e2⟩)
  rw [hb]
  refine bind_to rfl ?_
  refine iteb_to (fun h => by rw [if_pos (show DOut _ d from .inr (.inl (hb2.1 h)))]) (fun h2 => ?_)
  refine k4.to (fun h => by rw [if_pos (show DOut _ d from .inr (.inr h))]) (fun h3 => ?_)
  rw [if_neg (show ¬ DOut _ d from fun h => h.elim h1 (fun h => h.elim (fun h => by rw [hb2.2 h] at h2; cases h2) h3))]

theorem r3_Check_spec {d : Dt} : r3_Check d = some (detE 3000 badD d) := by
  unfold r3_Check detE
  by_cases c1 : d.1 < 1 ∨ 4 < d.1
  · rw [if_pos c1]
    (try dsimp only); (repeat' first | (with_reducible refine G_to ?_ ?_; focus (first | omega | (unfold fits; omega) | (unfold room; (try simp only [List.length_append, List.length_cons, List.length_nil]); omega))) | (with_reducible refine both_to ?_ ?_) | (with_reducible refine itet_to ?_) | (with_reducible refine itef_to ?_) | (with_reducible refine ite_to (fun _ => ?_) (fun _ => ?_))) <;> try (exfalso; omega)
    all_goals rfl
  rw [if_neg c1]
  by_cases c2 : DBig 3000 d
  · rw [if_pos c2]; unfold DBig at c2
    (try dsimp only); (repeat' first | (with_reducible refine G_to ?_ ?_; focus (first | omega | (unfold fits; omega) | (unfold room; (try simp only [List.length_append, List.length_cons, List.length_nil]); omega))) | (with_reducible refine both_to ?_ ?_) | (with_reducible refine itet_to ?_) | (with_reducible refine itef_to ?_) | (with_reducible refine ite_to (fun _ => ?_) (fun _ => ?_))) <;> try (exfalso; omega)
    all_goals rfl
  rw [if_neg c2]
  unfold DBig at c2
  by_cases c3 : (d.2.2.2.1.length : Int) = d.2.2.1.length
  case neg =>
    rw [if_pos (show DRag d from .inl c3)]
    (try dsimp only); (repeat' first | (with_reducible refine G_to ?_ ?_; focus (first | omega | (unfold fits; omega) | (unfold room; (try simp only [List.length_append, List.length_cons, List.length_nil]); omega))) | (with_reducible refine both_to ?_ ?_) | (with_reducible refine itet_to ?_) | (with_reducible refine itef_to ?_) | (with_reducible refine ite_to (fun _ => ?_) (fun _ => ?_))) <;> try (exfalso; omega)
    all_goals rfl
  (try dsimp only); (repeat' first | (with_reducible refine G_to ?_ ?_; focus (first | omega | (unfold fits; omega) | (unfold room; (try simp only [List.length_append, List.length_cons, List.length_nil]); omega))) | (with_reducible refine both_to ?_ ?_) | (with_reducible refine itet_to ?_) | (with_reducible refine itef_to ?_) | (with_reducible refine ite_to (fun _ => ?_) (fun _ => ?_))) <;> try (exfalso; omega)
  refine scan_to (len := (d.2.2.1.length : Int)) (bad := fun t => ¬ ((ix d.2.2.1 t).length : Int) = d.1) (by omega) (fun t h0 h1 => ⟨fun hb => ?_, fun hb => ?_⟩) (fun hh => ?_)
  · rw [r3_Check_L9_eq]; unfold r3_Check_L9_B
    (try dsimp only); (repeat' first | (with_reducible refine G_to ?_ ?_; focus (first | omega | (unfold fits; omega) | (unfold room; (try simp only [List.length_append, List.length_cons, List.length_nil]); omega))) | (with_reducible refine both_to ?_ ?_) | (with_reducible refine itet_to ?_) | (with_reducible refine itef_to ?_) | (with_reducible refine ite_to (fun _ => ?_) (fun _ => ?_))) <;> try (exfalso; omega)
    rw [if_pos (show DRag d from .inr (ex_ix.2 ⟨t, by omega, by omega, hb⟩))]
  · conv => lhs; rw [r3_Check_L9_eq]; unfold r3_Check_L9_B
    (try dsimp only); (repeat' first | (with_reducible refine G_to ?_ ?_; focus (first | omega | (unfold fits; omega) | (unfold room; (try simp only [List.length_append, List.length_cons, List.length_nil]); omega))) | (with_reducible refine both_to ?_ ?_) | (with_reducible refine itet_to ?_) | (with_reducible refine itef_to ?_) | (with_reducible refine ite_to (fun _ => ?_) (fun _ => ?_))) <;> try (exfalso; omega)
    all_goals first | rfl | (exfalso; exact hb ‹_›) | (exfalso; exact absurd ‹_› hb)
  rw [if_neg (show ¬ DRag d from fun h => h.elim (fun e => e c3) (fun h => by obtain ⟨i, i0, i1, i2⟩ := ex_ix.1 h; exact hh i i0 i1 i2))]
  rw [r3_Check_L9_eq]; unfold r3_Check_L9_B
  by_cases c4 : d.2.1 < 0 ∨ (d.2.2.1.length : Int) ≤ d.2.1
  · rw [if_pos (show DOut _ d from .inl c4)]
    (try dsimp only); (repeat' first | (with_reducible refine G_to ?_ ?_; focus (first | omega | (unfold fits; omega) | (unfold room; (try simp only [List.length_append, List.length_cons, List.length_nil]); omega))) | (with_reducible refine both_to ?_ ?_) | (with_reducible refine itet_to ?_) | (with_reducible refine itef_to ?_) | (with_reducible refine ite_to (fun _ => ?_) (fun _ => ?_))) <;> try (exfalso; omega)
    all_goals rfl
  (try dsimp only); (repeat' first | (with_reducible refine G_to ?_ ?_; focus (first | omega | (unfold fits; omega) | (unfold room; (try simp only [List.length_append, List.length_cons, List.length_nil]); omega))) | (with_reducible refine both_to ?_ ?_) | (with_reducible refine itet_to ?_) | (with_reducible refine itef_to ?_) | (with_reducible refine ite_to (fun _ => ?_) (fun _ => ?_))) <;> try (exfalso; omega)
  have hlen : ∀ t : Int, 0 ≤ t → t < d.2.2.1.length → ((ix d.2.2.1 t).length : Int) = d.1 := fun t a b => Decidable.not_not.1 (hh t a b)
  refine scan_to (len := (d.2.2.1.length : Int)) (bad := fun t => ∃ q ∈ ix d.2.2.1 t, q < 0 ∨ (d.2.2.1.length : Int) ≤ q) (by omega) (fun t h0 h1 => ⟨fun hb => ?_, fun hb => ?_⟩) (fun hh2 => ?_)
  · rw [r3_Check_L16_eq]; unfold r3_Check_L16_B
    (try dsimp only); (repeat' first | (with_reducible refine G_to ?_ ?_; focus (first | omega | (unfold fits; omega) | (unfold room; (try simp only [List.length_append, List.length_cons, List.length_nil]); omega))) | (with_reducible refine both_to ?_ ?_) | (with_reducible refine itet_to ?_) | (with_reducible refine itef_to ?_) | (with_reducible refine ite_to (fun _ => ?_) (fun _ => ?_))) <;> try (exfalso; omega)
    have hlt := hlen t h0 h1
    refine scan_to (len := d.1) (bad := fun a => ix (ix d.2.2.1 t) a < 0 ∨ (d.2.2.1.length : Int) ≤ ix (ix d.2.2.1 t) a) (by omega) (fun a a0 a1 => ⟨fun hb => ?_, fun hb => ?_⟩) (fun hh3 => ?_)
    · rw [r3_Check_L19_eq]; unfold r3_Check_L19_B
      (try dsimp only); (repeat' first | (with_reducible refine G_to ?_ ?_; focus (first | omega | (unfold fits; omega) | (unfold room; (try simp only [List.length_append, List.length_cons, List.length_nil]); omega))) | (with_reducible refine both_to ?_ ?_) | (with_reducible refine itet_to ?_) | (with_reducible refine itef_to ?_) | (with_reducible refine ite_to (fun _ => ?_) (fun _ => ?_))) <;> try (exfalso; omega)
      all_goals rw [if_pos (show DOut _ d from .inr (.inl (ex_ix.2 ⟨t, h0, h1, ex_ix.2 ⟨a, a0, by omega, hb⟩⟩)))]
    · conv => lhs; rw [r3_Check_L19_eq]; unfold r3_Check_L19_B
      (try dsimp only); (repeat' first | (with_reducible refine G_to ?_ ?_; focus (first | omega | (unfold fits; omega) | (unfold room; (try simp only [List.length_append, List.length_cons, List.length_nil]); omega))) | (with_reducible refine both_to ?_ ?_) | (with_reducible refine itet_to ?_) | (with_reducible refine itef_to ?_) | (with_reducible refine ite_to (fun _ => ?_) (fun _ => ?_))) <;> try (exfalso; omega)
      all_goals rfl
    · exfalso
      obtain ⟨i, i0, i1, i2⟩ := ex_ix.1 hb
      exact hh3 i i0 (by omega) i2
  · conv => lhs; rw [r3_Check_L16_eq]; unfold r3_Check_L16_B
    (try dsimp only); (repeat' first | (with_reducible refine G_to ?_ ?_; focus (first | omega | (unfold fits; omega) | (unfold room; (try simp only [List.length_append, List.length_cons, List.length_nil]); omega))) | (with_reducible refine both_to ?_ ?_) | (with_reducible refine itet_to ?_) | (with_reducible refine itef_to ?_) | (with_reducible refine ite_to (fun _ => ?_) (fun _ => ?_))) <;> try (exfalso; omega)
    have hlt := hlen t h0 h1
    refine scan_to (len := d.1) (bad := fun a => ix (ix d.2.2.1 t) a < 0 ∨ (d.2.2.1.length : Int) ≤ ix (ix d.2.2.1 t) a) (by omega) (fun a a0 a1 => ⟨fun hb' => ?_, fun hb => ?_⟩) (fun hh3 => ?_)
    · exfalso; exact hb (ex_ix.2 ⟨a, a0, by omega, hb'⟩)
    · conv => lhs; rw [r3_Check_L19_eq]; unfold r3_Check_L19_B
      (try dsimp only); (repeat' first | (with_reducible refine G_to ?_ ?_; focus (first | omega | (unfold fits; omega) | (unfold room; (try simp only [List.length_append, List.length_cons, List.length_nil]); omega))) | (with_reducible refine both_to ?_ ?_) | (with_reducible refine itet_to ?_) | (with_reducible refine itef_to ?_) | (with_reducible refine ite_to (fun _ => ?_) (fun _ => ?_))) <;> try (exfalso; omega)
      all_goals rfl
    · rw [r3_Check_L19_eq]; unfold r3_Check_L19_B
      (try dsimp only); (repeat' first | (with_reducible refine G_to ?_ ?_; focus (first | omega | (unfold fits; omega) | (unfold room; (try simp only [List.length_append, List.length_cons, List.length_nil]); omega))) | (with_reducible refine both_to ?_ ?_) | (with_reducible refine itet_to ?_) | (with_reducible refine itef_to ?_) | (with_reducible refine ite_to (fun _ => ?_) (fun _ => ?_))) <;> try (exfalso; omega)
      all_goals rfl
  have hnr : ¬ ∃ r ∈ d.2.2.1, ∃ q ∈ r, q < 0 ∨ (d.2.2.1.length : Int) ≤ q := fun h => by
    obtain ⟨t, h0, h1, hb⟩ := ex_ix.1 h
    exact hh2 t h0 h1 hb
  rw [r3_Check_L16_eq]; unfold r3_Check_L16_B
  (try dsimp only); (repeat' first | (with_reducible refine G_to ?_ ?_; focus (first | omega | (unfold fits; omega) | (unfold room; (try simp only [List.length_append, List.length_cons, List.length_nil]); omega))) | (with_reducible refine both_to ?_ ?_) | (with_reducible refine itet_to ?_) | (with_reducible refine itef_to ?_) | (with_reducible refine ite_to (fun _ => ?_) (fun _ => ?_))) <;> try (exfalso; omega)
  refine scan_to (len := (d.2.2.1.length : Int)) (bad := fun t => (badD) (ix d.2.2.2.1 t)) (by omega) (fun t h0 h1 => ⟨fun hb => ?_, fun hb => ?_⟩) (fun hh3 => ?_)
  · rw [if_pos (show DOut _ d from .inr (.inr (ex_ix.2 ⟨t, h0, by omega, hb⟩)))]
    rw [r3_Check_L24_eq]; unfold r3_Check_L24_B
    try dsimp only at hb
    (try dsimp only); (repeat' first | (with_reducible refine G_to ?_ ?_; focus (first | omega | (unfold fits; omega) | (unfold room; (try simp only [List.length_append, List.length_cons, List.length_nil]); omega))) | (with_reducible refine both_to ?_ ?_) | (with_reducible refine itet_to ?_) | (with_reducible refine itef_to ?_) | (with_reducible refine ite_to (fun _ => ?_) (fun _ => ?_))) <;> try (exfalso; omega)
    all_goals first | rfl | (exfalso; exact hb.1 ‹_›) | (exfalso; exact hb.2 ‹_›)
  · conv => lhs; rw [r3_Check_L24_eq]; unfold r3_Check_L24_B
    try dsimp only at hb
    (try dsimp only); (repeat' first | (with_reducible refine G_to ?_ ?_; focus (first | omega | (unfold fits; omega) | (unfold room; (try simp only [List.length_append, List.length_cons, List.length_nil]); omega))) | (with_reducible refine both_to ?_ ?_) | (with_reducible refine itet_to ?_) | (with_reducible refine itef_to ?_) | (with_reducible refine ite_to (fun _ => ?_) (fun _ => ?_))) <;> try (exfalso; omega)
    all_goals first | rfl | (exfalso; exact hb ⟨‹_›, ‹_›⟩)
  rw [if_neg (show ¬ DOut _ d from fun h => h.elim c4 (fun h => h.elim hnr (fun h => by
    obtain ⟨t, h0, h1, hb⟩ := ex_ix.1 h
    exact hh3 t h0 (by omega) hb)))]
  rw [r3_Check_L24_eq]; unfold r3_Check_L24_B
  (try dsimp only); (repeat' first | (with_reducible refine G_to ?_ ?_; focus (first | omega | (unfold fits; omega) | (unfold room; (try simp only [List.length_append, List.length_cons, List.length_nil]); omega))) | (with_reducible refine both_to ?_ ?_) | (with_reducible refine itet_to ?_) | (with_reducible refine itef_to ?_) | (with_reducible refine ite_to (fun _ => ?_) (fun _ => ?_))) <;> try (exfalso; omega)
  all_goals rfl

/-- Bits of a small number. -/
def cntf (m : Nat) : Nat → Nat
  | 0 => 0
  | q + 1 => cntf m q + ((m >>> q) &&& 1)
theorem cntf_succ (m q : Nat) : cntf m (q + 1) = cntf m q + ((m >>> q) &&& 1) := rfl
theorem bit_some : ∀ n < 9, ∀ m < 256, m < 2 ^ n → 0 < m → ∃ q < n, ((m >>> q) &&& 1) = 1 := by decide +kernel
theorem cnt_goal : ∀ n < 9, ∀ m < 256, m < 2 ^ n → 0 < m → (cntf m n = 1 ↔ m &&& (m - 1) = 0) := by decide +kernel
theorem cntf_le (m : Nat) : ∀ q, cntf m q ≤ q
  | 0 => Nat.le_refl _
  | q + 1 => by have := cntf_le m q; unfold cntf; rw [Nat.and_one_is_mod]; omega
section
variable {d : Dt}
/-- The next set, of the first states. -/
noncomputable def nxf (d : Dt) (s a : Int) : Nat → Int
  | 0 => 0
  | q + 1 => if iand .i64 (ishr .i64 s (q : Int)) 1 = 1 then ior .i64 (nxf d s a q) (ishl .i64 1 (ix (ix d.2.2.1 (q : Int)) a)) else nxf d s a q
theorem nxf_succ (d : Dt) (s a : Int) (q : Nat) : nxf d s a (q + 1) = if iand .i64 (ishr .i64 s (q : Int)) 1 = 1 then ior .i64 (nxf d s a q) (ishl .i64 1 (ix (ix d.2.2.1 (q : Int)) a)) else nxf d s a q := rfl
noncomputable abbrev nx (d : Dt) (s a : Int) : Int := nxf d s a d.2.2.1.length
def Set1 (d : Dt) (s : Int) : Prop := ∃ m : Nat, s = m ∧ 0 < m ∧ m < 2 ^ d.2.2.1.length
noncomputable def goal (s : Int) : Prop := iand .i64 s (s - 1) = 0
structure SyOk (d : Dt) : Prop where
  ok : DOk 3000 badD d
  eight : d.2.2.1.length ≤ 8
theorem SyOk.pow (h : SyOk d) : 2 ^ d.2.2.1.length ≤ 256 := Nat.pow_le_pow_right (n := 2) (by omega) h.eight
theorem Set1.bit {s : Int} {m : Nat} (h : SyOk d) (e : s = m) (hm : m < 2 ^ d.2.2.1.length) {q : Nat} (hq : q ≤ 8) : iand .i64 (ishr .i64 s (q : Int)) 1 = (((m >>> q) &&& 1 : Nat) : Int) := by
  have := h.pow
  have hs : m >>> q ≤ m := Nat.shiftRight_le m q
  rw [e, ishr_nat (by omega), show (1 : Int) = ((1 : Nat) : Int) from rfl, iand_nat (by omega) (by omega)]
theorem goal_iff {s : Int} {m : Nat} (h : SyOk d) (e : s = m) (h0 : 0 < m) (hm : m < 2 ^ d.2.2.1.length) : goal s ↔ cntf m d.2.2.1.length = 1 := by
  have := h.pow
  have h8 := h.eight
  rw [cnt_goal _ (by omega) m (by omega) hm h0]
  unfold goal
  rw [e, show (m : Int) - 1 = ((m - 1 : Nat) : Int) by omega, iand_nat (by omega) (by omega)]
  omega
theorem nxf_spec (h : SyOk d) {s a : Int} {m : Nat} (e : s = m) (hm : m < 2 ^ d.2.2.1.length) (a0 : 0 ≤ a) (a1 : a < d.1) : ∀ q : Nat, q ≤ d.2.2.1.length → ∃ k : Nat, nxf d s a q = k ∧ k < 2 ^ d.2.2.1.length ∧ ((∃ j < q, ((m >>> j) &&& 1) = 1) → 0 < k)
  | 0, _ => ⟨0, rfl, Nat.two_pow_pos _, fun ⟨j, hj, _⟩ => by omega⟩
  | q + 1, hq => by
    obtain ⟨k, k1, k2, k3⟩ := nxf_spec h e hm a0 a1 q (by omega)
    have hp := h.pow
    have h8 := h.eight
    have hs := h.ok.tab.stpb (q := (q : Int)) (by omega) (by omega) a0 a1
    rw [nxf_succ, Set1.bit h e hm (by omega)]
    by_cases c : ((m >>> q) &&& 1) = 1
    · obtain ⟨r, hr⟩ : ∃ r : Nat, ix (ix d.2.2.1 (q : Int)) a = r := ⟨(stp d.2.2.1 q a).toNat, by unfold stp at *; omega⟩
      rw [show stp d.2.2.1 (q : Int) a = r from hr] at hs
      rw [if_pos (by rw [c]; rfl), k1, hr]
      obtain ⟨b1, b2⟩ := ior_bit (m := k) (q := r) (by omega) (by omega)
      refine ⟨_, b1, Nat.or_lt_two_pow k2 (Nat.pow_lt_pow_right (by omega) (by omega)), fun _ => ?_⟩
      have : 2 ^ r ≤ k ||| 2 ^ r := Nat.right_le_or
      have := Nat.two_pow_pos r
      omega
    · rw [if_neg (fun hh => c (by exact_mod_cast hh))]
      refine ⟨k, k1, k2, fun ⟨j, hj, hb⟩ => k3 ⟨j, ?_, hb⟩⟩
      by_cases ej : j = q
      · subst ej; exact absurd hb c
      · omega
theorem nx_set (h : SyOk d) {s a : Int} (hs : Set1 d s) (a0 : 0 ≤ a) (a1 : a < d.1) : Set1 d (nx d s a) := by
  obtain ⟨m, e, m0, m1⟩ := hs
  obtain ⟨k, k1, k2, k3⟩ := nxf_spec h e m1 a0 a1 _ (Nat.le_refl _)
  have := h.pow
  have := h.eight
  exact ⟨k, k1, k3 (bit_some _ (by omega) m (by omega) m1 m0), k2⟩
theorem Set1.b (h : SyOk d) {s : Int} (hs : Set1 d s) : 0 < s ∧ s < 256 := by
  obtain ⟨m, e, m0, m1⟩ := hs
  have := h.pow
  omega
abbrev It := Int × List Int × Unit
/-- What the reading loops come to. -/
theorem L18_spec (h : SyOk d) {l : List It} {t : Int} {ks vs : List Int} {l1 : List It} {r14} (hs : Set1 d (ix l 0).1) (a0 : 0 ≤ t) (a1 : t < d.1) : code_Sync_L18 d l t ks vs l1 r14 0 0 =
    if mget ks vs (nx d (ix l 0).1 t) 0 = 0 then (slices_Clone (ix l 0).2.1).bind fun y => G (room y [t] 8) (G (room l1 [(nx d (ix l 0).1 t, y ++ [t], ())] 32) (G (fits (t + 1)) (r14 (t + 1) (mputK ks (nx d (ix l 0).1 t)) (mputV ks vs (nx d (ix l 0).1 t) 1) (l1 ++ [(nx d (ix l 0).1 t, y ++ [t], ())]))))
    else G (fits (t + 1)) (r14 (t + 1) ks vs l1) := by
  have h8 := h.eight
  have key : ∀ (n q : Nat), d.2.2.1.length - q = n → q ≤ d.2.2.1.length → code_Sync_L18 d l t ks vs l1 r14 (nxf d (ix l 0).1 t q) q = code_Sync_L18 d l t ks vs l1 r14 (nx d (ix l 0).1 t) d.2.2.1.length := by
    intro n
    induction n with
    | zero =>
      intro q hn hq
      obtain rfl : q = d.2.2.1.length := by omega
      rfl
    | succ n ih =>
      intro q hn hq
      rw [← ih (q + 1) (by omega) (by omega)]
      conv => lhs; rw [code_Sync_L18_eq]; unfold code_Sync_L18_B
      have hr := h.ok.tab.rowlen (q := (q : Int)) (by omega) (by omega)
      have hst := h.ok.tab.stpb (q := (q : Int)) (by omega) (by omega) a0 a1
      unfold stp at hst
      rw [nxf_succ]
      rw [if_pos (by simp; omega)]
      refine G_to (by omega) (G_to (by omega) ?_)
      by_cases c : iand .i64 (ishr .i64 (ix l 0).1 (q : Int)) 1 = 1
      · rw [if_pos (by simpa using c), if_pos c]
        refine G_to (by omega) (G_to (by omega) (G_to (by unfold fits; omega) ?_))
        rfl
      · rw [if_neg (by simpa using c), if_neg c]
        refine G_to (by unfold fits; omega) ?_
        rfl
  refine (key _ 0 rfl (by omega)).trans ?_
  rw [code_Sync_L18_eq]; unfold code_Sync_L18_B
  rw [if_neg (by simp)]
  by_cases c : mget ks vs (nx d (ix l 0).1 t) 0 = 0
  · rw [if_pos (by simpa using c), if_pos c]
  · rw [if_neg (by simpa using c), if_neg c]
theorem L21_spec (h : SyOk d) {i t : Int} {seen : List Bool} {sets : List Int} {words : List (List Int)} {r17} (i0 : 0 ≤ i) (i1 : i < sets.length) (hs : Set1 d (ix sets i)) (hl : seen.length = 256) (a0 : 0 ≤ t) (a1 : t < d.1) (hw : words.length = sets.length) (hw2 : ∀ w ∈ words, w.length ≤ 256) (hw3 : sets.length ≤ 256) (ht : t ≤ 100) : r24_Sync_L21 d i t seen sets words r17 0 0 =
    if ix seen (nx d (ix sets i) t) = false then r17 (t + 1) (seen.set (nx d (ix sets i) t).toNat true) (sets ++ [nx d (ix sets i) t]) (words ++ [ix words i ++ [t]]) else r17 (t + 1) seen sets words := by
  have h8 := h.eight
  have key : ∀ (n q : Nat), d.2.2.1.length - q = n → q ≤ d.2.2.1.length → r24_Sync_L21 d i t seen sets words r17 (nxf d (ix sets i) t q) q = r24_Sync_L21 d i t seen sets words r17 (nx d (ix sets i) t) d.2.2.1.length := by
    intro n
    induction n with
    | zero =>
      intro q hn hq
      obtain rfl : q = d.2.2.1.length := by omega
      rfl
    | succ n ih =>
      intro q hn hq
      rw [← ih (q + 1) (by omega) (by omega)]
      conv => lhs; rw [r24_Sync_L21_eq]; unfold r24_Sync_L21_B
      have hr := h.ok.tab.rowlen (q := (q : Int)) (by omega) (by omega)
      have hst := h.ok.tab.stpb (q := (q : Int)) (by omega) (by omega) a0 a1
      unfold stp at hst
      rw [nxf_succ]
      rw [if_pos (by simp; omega)]
      refine G_to (by omega) (G_to (by omega) (G_to (by omega) ?_))
      by_cases c : iand .i64 (ishr .i64 (ix sets i) (q : Int)) 1 = 1
      · rw [if_pos (by simpa using c), if_pos c]
        refine G_to (by omega) (G_to (by omega) (G_to (by omega) (G_to (by unfold fits; omega) ?_)))
        rfl
      · rw [if_neg (by simpa using c), if_neg c]
        refine G_to (by unfold fits; omega) ?_
        rfl
  have hn := (nx_set h hs a0 a1).b h
  have hwi := hw2 _ (ix_mem i0 (by omega : i < words.length))
  refine (key _ 0 rfl (by omega)).trans ?_
  rw [r24_Sync_L21_eq]; unfold r24_Sync_L21_B
  rw [if_neg (by simp)]
  refine G_to (by omega) (G_to (by omega) ?_)
  unfold r24_Sync_J30
  by_cases c : ix seen (nx d (ix sets i) t) = false
  · rw [if_pos (by simp [c]), if_pos c]
    (try dsimp only); (repeat' first | (with_reducible refine G_to ?_ ?_; focus (first | omega | (unfold fits; omega) | (unfold room; (try simp only [List.length_append, List.length_cons, List.length_nil]); omega))) | (with_reducible refine both_to ?_ ?_) | (with_reducible refine itet_to ?_) | (with_reducible refine itef_to ?_) | (with_reducible refine ite_to (fun _ => ?_) (fun _ => ?_))) <;> try (exfalso; omega)
    rfl
  · rw [if_neg (by simpa using c), if_neg c]
    (try dsimp only); (repeat' first | (with_reducible refine G_to ?_ ?_; focus (first | omega | (unfold fits; omega) | (unfold room; (try simp only [List.length_append, List.length_cons, List.length_nil]); omega))) | (with_reducible refine both_to ?_ ?_) | (with_reducible refine itet_to ?_) | (with_reducible refine itef_to ?_) | (with_reducible refine ite_to (fun _ => ?_) (fun _ => ?_))) <;> try (exfalso; omega)
    all_goals rfl
theorem L11_spec (h : SyOk d) {i : Int} {seen : List Bool} {sets : List Int} {words : List (List Int)} {r7} (i0 : 0 ≤ i) (i1 : i < sets.length) (hs : Set1 d (ix sets i)) (hw : words.length = sets.length) : (goal (ix sets i) → r24_Sync_L11 d i seen sets words r7 0 0 = some (ix words i, true)) ∧ (¬ goal (ix sets i) → r24_Sync_L11 d i seen sets words r7 0 0 = r24_Sync_L17 d i r7 0 seen sets words) := by
  have h8 := h.eight
  obtain ⟨m, e, m0, m1⟩ := hs
  have key : ∀ (n q : Nat), d.2.2.1.length - q = n → q ≤ d.2.2.1.length → r24_Sync_L11 d i seen sets words r7 (cntf m q) q = r24_Sync_L11 d i seen sets words r7 (cntf m d.2.2.1.length) d.2.2.1.length := by
    intro n
    induction n with
    | zero =>
      intro q hn hq
      obtain rfl : q = d.2.2.1.length := by omega
      rfl
    | succ n ih =>
      intro q hn hq
      rw [← ih (q + 1) (by omega) (by omega)]
      conv => lhs; rw [r24_Sync_L11_eq]; unfold r24_Sync_L11_B
      have := cntf_le m q
      have hb := Nat.and_one_is_mod (m >>> q)
      rw [Set1.bit h e m1 (by omega), if_pos (by simp; omega)]
      rw [cntf_succ]
      refine G_to (by omega) (G_to (by omega) (G_to (by omega) (G_to (by unfold fits; omega) (G_to (by unfold fits; omega) ?_))))
      push_cast
      rfl
  rw [goal_iff h e m0 m1]
  have k0 := key _ 0 rfl (by omega)
  constructor
  · intro hg
    refine Eq.trans k0 ?_
    rw [r24_Sync_L11_eq]; unfold r24_Sync_L11_B
    rw [if_neg (by simp), if_pos (by rw [hg]; rfl)]
    (try dsimp only); (repeat' first | (with_reducible refine G_to ?_ ?_; focus (first | omega | (unfold fits; omega) | (unfold room; (try simp only [List.length_append, List.length_cons, List.length_nil]); omega))) | (with_reducible refine both_to ?_ ?_) | (with_reducible refine itet_to ?_) | (with_reducible refine itef_to ?_) | (with_reducible refine ite_to (fun _ => ?_) (fun _ => ?_))) <;> try (exfalso; omega)
    rfl
  · intro hg
    refine Eq.trans k0 ?_
    rw [r24_Sync_L11_eq]; unfold r24_Sync_L11_B
    rw [if_neg (by simp), if_neg (by simp; exact_mod_cast hg)]
/-- The set of all states. -/
noncomputable def allS (d : Dt) : Int := ishl .i64 1 (d.2.2.1.length : Int) - 1
theorem allS_set (h : SyOk d) : Set1 d (allS d) ∧ ishl .i64 1 (d.2.2.1.length : Int) ≤ 256 := by
  have hp := h.pow
  have h8 := h.eight
  have h1 := h.ok.n1.1
  have e := ishl_nat (m := 1) (k := d.2.2.1.length) (by omega) (by omega)
  rw [Nat.shiftLeft_eq, Nat.one_mul, show ((1 : Nat) : Int) = 1 from rfl] at e
  have : 2 ^ 1 ≤ 2 ^ d.2.2.1.length := Nat.pow_le_pow_right (by omega) h1
  refine ⟨⟨2 ^ d.2.2.1.length - 1, ?_, by omega, by omega⟩, by rw [e]; omega⟩
  unfold allS; rw [e]; omega
abbrev rest (sets : List Int) (words : List (List Int)) (j : Int) : List It := ((sets.zip words).drop j.toNat).map fun x => (x.1, x.2, ())
theorem rest_cons {sets : List Int} {words : List (List Int)} {i : Int} (hl : words.length = sets.length) (i0 : 0 ≤ i) (i1 : i < sets.length) : rest sets words i = (ix sets i, ix words i, ()) :: rest sets words (i + 1) := by
  unfold rest
  have e : (sets.zip words).drop i.toNat = (ix sets i, ix words i) :: (sets.zip words).drop (i + 1).toNat := by
    have := ix_drop (l := sets.zip words) i0 (by rw [List.length_zip]; omega)
    rw [this, ix_eq i0 (by rw [List.length_zip]; omega), List.getElem_zip, ix_eq i0 i1, ix_eq i0 (by omega)]
  rw [e, List.map_cons]
theorem rest_nil {sets : List Int} {words : List (List Int)} {i : Int} (hl : words.length = sets.length) (i1 : (sets.length : Int) ≤ i) : rest sets words i = [] := by
  unfold rest
  rw [List.drop_of_length_le (by rw [List.length_zip]; omega)]; rfl
theorem rest_push {sets : List Int} {words : List (List Int)} {i s : Int} {w : List Int} (hl : words.length = sets.length) (i0 : 0 ≤ i) (i1 : i ≤ sets.length) : rest (sets ++ [s]) (words ++ [w]) i = rest sets words i ++ [(s, w, ())] := by
  unfold rest
  rw [List.zip_append hl.symm, List.drop_append_of_le_length (by rw [List.length_zip]; omega), List.map_append]
  rfl
structure Rel (d : Dt) (j : Int) (ks : List Int) (Q : List It) (seen : List Bool) (sets : List Int) (words : List (List Int)) (E : Bool) : Prop where
  len : words.length = sets.length
  sl : seen.length = 256
  sI : ∀ x : Int, 0 ≤ x → x < 256 → (ix seen x = true ↔ x ∈ sets)
  nd : sets.Nodup
  ok : ∀ s ∈ sets, Set1 d s
  fst : allS d ∈ sets
  wl : ∀ j : Int, 0 ≤ j → j < words.length → (ix words j).length ≤ j
  ksI : ∀ x, x ≠ allS d → (x ∈ ks ↔ x ∈ sets)
  q : (E = false ∧ Q = rest sets words j) ∨ (E = true ∧ allS d ∈ ks ∧ ∃ u v w, w.length ≤ 256 ∧ rest sets words j = u ++ v ∧ Q = u ++ (allS d, w, ()) :: v)
theorem Rel.small {j : Int} {ks : List Int} {Q : List It} {seen : List Bool} {sets : List Int} {words : List (List Int)} {E : Bool} (h : SyOk d) (r : Rel d j ks Q seen sets words E) : sets.length ≤ 256 := by
  refine pigeon_int r.nd (fun x hx => ?_)
  have := (r.ok x hx).b h
  omega
theorem Rel.Qlen {j : Int} {ks : List Int} {Q : List It} {seen : List Bool} {sets : List Int} {words : List (List Int)} {E : Bool} (h : SyOk d) (r : Rel d j ks Q seen sets words E) : Q.length ≤ 257 := by
  have e : (rest sets words j).length ≤ 256 := by
    have := r.small h
    unfold rest
    rw [List.length_map, List.length_drop, List.length_zip]; omega
  rcases r.q with ⟨_, rfl⟩ | ⟨_, _, u, v, w, _, e2, rfl⟩
  · omega
  · rw [e2, List.length_append] at e
    rw [List.length_append, List.length_cons]; omega
theorem letters (h : SyOk d) {l : List It} {i : Int} {r8 r7} {s : Int} {p : List Int} (i0 : 0 ≤ i) (e1 : ix l 0 = (s, p, ())) : ∀ (n : Nat) (t : Int), (d.1 - t).toNat = n → 0 ≤ t → t ≤ d.1 →
    ∀ (ks : List Int) (Q : List It) (seen : List Bool) (sets : List Int) (words : List (List Int)) (E : Bool), Rel d (i + 1) ks Q seen sets words E → i < sets.length → ix sets i = s → ix words i = p → (∀ a, 0 ≤ a → a < t → nx d s a ∈ sets) →
    ∃ ks' Q' seen' sets' words' E', Rel d (i + 1) ks' Q' seen' sets' words' E' ∧ (∀ x ∈ sets, x ∈ sets') ∧ i < sets'.length ∧ (∀ a, 0 ≤ a → a < d.1 → nx d s a ∈ sets') ∧
      code_Sync_L14 d l r8 t ks (ones ks) ((s, p, ()) :: Q) = r8 ks' (ones ks') Q' ∧ r24_Sync_L17 d i r7 t seen sets words = r7 (i + 1) seen' sets' words' := by
  intro n
  induction n with
  | zero =>
    intro t hn t0 t1 ks Q seen sets words E r i1 es ep ha
    have hsm := r.small h
    refine ⟨ks, Q, seen, sets, words, E, r, fun _ hx => hx, i1, fun a a0 a1 => ha a a0 (by omega), ?_, ?_⟩
    · rw [code_Sync_L14_eq]; unfold code_Sync_L14_B
      rw [if_neg (by simp; omega)]
      exact G_to (by simp; omega) rfl
    · rw [r24_Sync_L17_eq]; unfold r24_Sync_L17_B
      (try dsimp only); (repeat' first | (with_reducible refine G_to ?_ ?_; focus (first | omega | (unfold fits; omega) | (unfold room; (try simp only [List.length_append, List.length_cons, List.length_nil]); omega))) | (with_reducible refine both_to ?_ ?_) | (with_reducible refine itet_to ?_) | (with_reducible refine itef_to ?_) | (with_reducible refine ite_to (fun _ => ?_) (fun _ => ?_))) <;> try (exfalso; omega)
      rfl
  | succ n ih =>
    intro t hn t0 t1 ks Q seen sets words E r i1 es ep ha
    have hsm := r.small h
    have hql := r.Qlen h
    have hs : Set1 d s := es ▸ r.ok _ (ix_mem i0 i1)
    have hx := nx_set h hs t0 (by omega)
    have hxb := hx.b h
    have hpl : p.length ≤ i := ep ▸ r.wl i i0 (by rw [r.len]; exact i1)
    have hd1 := h.ok.let1
    have c1 : slices_Clone p = some p := slices_Clone_spec (by omega)
    rw [code_Sync_L14_eq, r24_Sync_L17_eq]; unfold code_Sync_L14_B r24_Sync_L17_B
    rw [if_pos (by simp; omega), if_pos (by simp; omega), L18_spec h (by rw [e1]; exact hs) t0 (by omega), e1,
      L21_spec h i0 i1 (by rw [es]; exact hs) r.sl t0 (by omega) r.len (fun w hw => by
        obtain ⟨j, j0, j1, rfl⟩ := (ex_ix (P := fun x => x = w)).1 ⟨w, hw, rfl⟩
        have := r.wl j j0 j1
        have := r.len
        omega) hsm (by omega), es, ep]
    generalize hnx : nx d s t = x at *
    have hP : x ∉ ks → (if mget ks (ones ks) x 0 = 0 then (slices_Clone p).bind fun y => G (room y [t] 8) (G (room ((s, p, ()) :: Q) [(x, y ++ [t], ())] 32) (G (fits (t + 1)) (code_Sync_L14 d l r8 (t + 1) (mputK ks x) (mputV ks (ones ks) x 1) (((s, p, ()) :: Q) ++ [(x, y ++ [t], ())]))))
        else G (fits (t + 1)) (code_Sync_L14 d l r8 (t + 1) ks (ones ks) ((s, p, ()) :: Q))) = code_Sync_L14 d l r8 (t + 1) (ks ++ [x]) (ones (ks ++ [x])) ((s, p, ()) :: (Q ++ [(x, p ++ [t], ())])) := by
      intro hk
      rw [if_pos (mget_ones.2 hk), c1, mputK_new hk, mputV_new hk]
      refine bind_to rfl ?_
      refine G_to (by unfold room; simp; omega) (G_to (by unfold room; simp; omega) (G_to (by unfold fits; omega) ?_))
      rfl
    have hPn : x ∈ ks → (if mget ks (ones ks) x 0 = 0 then (slices_Clone p).bind fun y => G (room y [t] 8) (G (room ((s, p, ()) :: Q) [(x, y ++ [t], ())] 32) (G (fits (t + 1)) (code_Sync_L14 d l r8 (t + 1) (mputK ks x) (mputV ks (ones ks) x 1) (((s, p, ()) :: Q) ++ [(x, y ++ [t], ())]))))
        else G (fits (t + 1)) (code_Sync_L14 d l r8 (t + 1) ks (ones ks) ((s, p, ()) :: Q))) = code_Sync_L14 d l r8 (t + 1) ks (ones ks) ((s, p, ()) :: Q) := by
      intro hk
      rw [if_neg (fun hh => mget_ones.1 hh hk)]
      exact G_to (by unfold fits; omega) rfl
    have sI := r.sI x (by omega) (by omega)
    by_cases hin : x ∈ sets
    · -- known to the second
      have ha' : ∀ a, 0 ≤ a → a < t + 1 → nx d s a ∈ sets := fun a a0 a1 => by
        by_cases e : a = t
        · rw [e, hnx]; exact hin
        · exact ha a a0 (by omega)
      by_cases hk : x ∈ ks
      · rw [hPn hk, if_neg (by rw [sI.2 hin]; simp)]
        exact ih (t + 1) (by omega) (by omega) (by omega) ks Q seen sets words E r i1 es ep ha'
      · have hxA : x = allS d := Classical.byContradiction fun hne => hk ((r.ksI x hne).2 hin)
        rw [hP hk, if_neg (by rw [sI.2 hin]; simp)]
        refine ih (t + 1) (by omega) (by omega) (by omega) _ (Q ++ [(x, p ++ [t], ())]) seen sets words true ⟨r.len, r.sl, r.sI, r.nd, r.ok, r.fst, r.wl, fun y hy => ?_, .inr ⟨rfl, by simp [hxA], ?_⟩⟩ i1 es ep ha'
        · rw [List.mem_append, List.mem_singleton, r.ksI y hy, hxA]
          exact ⟨fun hh => hh.elim id (fun e => absurd e hy), .inl⟩
        · rcases r.q with ⟨_, hq⟩ | ⟨_, hq, _⟩
          · exact ⟨rest sets words (i + 1), [], p ++ [t], by simp; omega, by simp, by rw [hq, hxA]⟩
          · exact absurd (hxA ▸ hq) hk
    · have hxA : x ≠ allS d := fun e => hin (e ▸ r.fst)
      have hk : x ∉ ks := fun hk => hin ((r.ksI x hxA).1 hk)
      rw [hP hk, if_pos (by cases hc : ix seen x; rfl; exact absurd (sI.1 hc) hin)]
      have hi2 : i < (sets ++ [x]).length := by rw [List.length_append, List.length_singleton]; omega
      obtain ⟨ks', Q', seen', sets', words', E', r', hsub, rest'⟩ := ih (t + 1) (by omega) (by omega) (by omega) (ks ++ [x]) (Q ++ [(x, p ++ [t], ())]) (seen.set x.toNat true) (sets ++ [x]) (words ++ [p ++ [t]]) E
        { len := by simp [r.len]
          sl := by rw [List.length_set]; exact r.sl
          sI := fun y y0 y1 => by
            rw [List.mem_append, List.mem_singleton]
            by_cases e : y = x
            · subst e
              rw [ix_set_same y0 (by rw [r.sl]; omega)]; simp
            · rw [ix_set_ne (by omega) y0 (Ne.symm e), r.sI y y0 y1]
              exact ⟨.inl, fun hh => hh.elim id (fun e' => absurd e' e)⟩
          nd := by
            rw [List.nodup_append]
            exact ⟨r.nd, by simp, fun a ha b hb => by rw [List.mem_singleton.1 hb]; rintro rfl; exact hin ha⟩
          ok := fun y hy => by
            rcases List.mem_append.1 hy with hy | hy
            · exact r.ok y hy
            · rw [List.mem_singleton.1 hy]; exact hx
          fst := by simp [r.fst]
          wl := fun j j0 j1 => by
            rw [List.length_append, List.length_singleton] at j1
            by_cases e : j < words.length
            · rw [ix_append_left j0 e]; exact r.wl j j0 e
            · obtain rfl : j = words.length := by omega
              rw [ix_append_last, List.length_append, List.length_singleton]
              have := r.len
              omega
          ksI := fun y hy => by rw [List.mem_append, List.mem_append, r.ksI y hy]
          q := by
            have hr := rest_push (s := x) (w := p ++ [t]) r.len (by omega : 0 ≤ i + 1) (by omega)
            rcases r.q with ⟨hE, hq⟩ | ⟨hE, hA, u, v, w, hw, hq, hq2⟩
            · exact .inl ⟨hE, by rw [hr, hq]⟩
            · exact .inr ⟨hE, by simp [hA], u, v ++ [(x, p ++ [t], ())], w, hw, by rw [hr, hq, List.append_assoc], by rw [hq2]; simp⟩ }
        hi2 (by rw [ix_append_left i0 i1]; exact es) (by rw [ix_append_left i0 (by rw [r.len]; exact i1)]; exact ep) (fun a a0 a1 => by
          by_cases e : a = t
          · rw [e, hnx]; simp
          · exact List.mem_append.2 (.inl (ha a a0 (by omega))))
      exact ⟨ks', Q', seen', sets', words', E', r', fun y hy => hsub y (by simp [hy]), rest'⟩
theorem letters_extra (h : SyOk d) {l : List It} {r8} {s : Int} {p : List Int} {ks : List Int} {Q : List It} (e1 : ix l 0 = (s, p, ())) (hs : Set1 d s) (hk : ∀ a, 0 ≤ a → a < d.1 → nx d s a ∈ ks) : ∀ (n : Nat) (t : Int), (d.1 - t).toNat = n → 0 ≤ t → t ≤ d.1 → code_Sync_L14 d l r8 t ks (ones ks) ((s, p, ()) :: Q) = r8 ks (ones ks) Q := by
  intro n
  induction n with
  | zero =>
    intro t hn t0 t1
    rw [code_Sync_L14_eq]; unfold code_Sync_L14_B
    rw [if_neg (by simp; omega)]
    exact G_to (by simp; omega) rfl
  | succ n ih =>
    intro t hn t0 t1
    have hd1 := h.ok.let1
    rw [code_Sync_L14_eq]; unfold code_Sync_L14_B
    rw [if_pos (by simp; omega), L18_spec h (by rw [e1]; exact hs) t0 (by omega), e1, if_neg (fun hh => mget_ones.1 hh (hk t t0 (by omega)))]
    exact G_to (by unfold fits; omega) (ih (t + 1) (by omega) (by omega) (by omega))
theorem sync_main (h : SyOk d) : ∀ (N : Nat) (i : Int) (ks : List Int) (Q : List It) (seen : List Bool) (sets : List Int) (words : List (List Int)) (E : Bool), Rel d i ks Q seen sets words E → 0 ≤ i → i ≤ sets.length →
    (1 ≤ i → ¬ goal (allS d) ∧ ∀ a, 0 ≤ a → a < d.1 → nx d (allS d) a ∈ sets) → (i = 0 → E = false ∧ ix sets 0 = allS d) → 2 * (256 - i).toNat + E.toNat ≤ N →
    ∃ w b, w.length ≤ 256 ∧ code_Sync_L8 d ks (ones ks) Q = some (w, b, 0) ∧ r24_Sync_L7 d i seen sets words = some (w, b) := by
  intro N
  induction N using Nat.strongRecOn with
  | ind N ih =>
  intro i ks Q seen sets words E r i0 i1 hA hz hN
  have hsm := r.small h
  have proc : ∀ Q1, i < sets.length → Q = (ix sets i, ix words i, ()) :: Q1 → Rel d (i + 1) ks Q1 seen sets words E → ∃ w b, w.length ≤ 256 ∧ code_Sync_L8 d ks (ones ks) Q = some (w, b, 0) ∧ r24_Sync_L7 d i seen sets words = some (w, b) := by
    intro Q1 hi hQ r1
    have hs := r.ok _ (ix_mem i0 hi)
    have hsb := hs.b h
    have hwl := r.wl i i0 (by rw [r.len]; exact hi)
    obtain ⟨g1, g2⟩ := L11_spec (seen := seen) (r7 := r24_Sync_L7 d) h i0 hi hs r.len
    have e0 : ix Q 0 = (ix sets i, ix words i, ()) := by rw [hQ]; rfl
    have hql : 0 < Q.length := by rw [hQ]; simp
    have p8 : code_Sync_L8 d ks (ones ks) Q = if decide (iand .i64 (ix sets i) (ix sets i - 1) = 0) = true then some (ix words i, true, 0) else code_Sync_L14 d Q (code_Sync_L8 d) 0 ks (ones ks) Q := by
      rw [code_Sync_L8_eq]; unfold code_Sync_L8_B
      rw [if_pos (by simp; omega), e0]
      exact G_to (by omega) (G_to (by omega) (G_to (by unfold fits; dsimp only; omega) rfl))
    have r7 : r24_Sync_L7 d i seen sets words = r24_Sync_L11 d i seen sets words (r24_Sync_L7 d) 0 0 := by
      rw [r24_Sync_L7_eq]; unfold r24_Sync_L7_B
      rw [if_pos (by simp; omega)]
    rw [p8, r7]
    by_cases hg : goal (ix sets i)
    · refine ⟨ix words i, true, by omega, ?_, ?_⟩
      · rw [if_pos (by unfold goal at hg; simpa using hg)]
      · exact g1 hg
    · obtain ⟨ks', Q', seen', sets', words', E', r', hsub, hi', hnx, p1, p2⟩ := letters (r8 := code_Sync_L8 d) (r7 := r24_Sync_L7 d) h i0 e0 _ 0 rfl (by omega) (by have := h.ok.let1; omega) ks Q1 seen sets words E r1 hi rfl rfl (fun a a0 a1 => by omega)
      obtain ⟨w, b, hw, q1, q2⟩ := ih (2 * (256 - (i + 1)).toNat + E'.toNat) (by cases E' <;> simp <;> omega) (i + 1) ks' Q' seen' sets' words' E' r' (by omega) (by omega) (fun _ => by
        by_cases e : i = 0
        · have := (hz e).2
          subst e
          rw [this] at hg hnx
          exact ⟨hg, hnx⟩
        · obtain ⟨a1, a2⟩ := hA (by omega)
          exact ⟨a1, fun a a0 b1 => hsub _ (a2 a a0 b1)⟩) (fun e => by omega) (Nat.le_refl _)
      refine ⟨w, b, hw, ?_, ?_⟩
      · rw [if_neg (by unfold goal at hg; simpa using hg)]
        rw [← hQ] at p1
        exact p1.trans q1
      · exact ((g2 hg).trans p2).trans q2
  have step : ∀ {Q1}, i < sets.length → Rel d i ks Q seen sets words E → ((E = false ∧ Q1 = rest sets words (i + 1)) ∨ (E = true ∧ allS d ∈ ks ∧ ∃ u v w, w.length ≤ 256 ∧ rest sets words (i + 1) = u ++ v ∧ Q1 = u ++ (allS d, w, ()) :: v)) → Rel d (i + 1) ks Q1 seen sets words E :=
    fun _ r hq => ⟨r.len, r.sl, r.sI, r.nd, r.ok, r.fst, r.wl, r.ksI, hq⟩
  rcases r.q with ⟨hE, hq⟩ | ⟨hE, hAk, u, v, w, hw, hq, hq2⟩
  · by_cases hi : i < sets.length
    · exact proc _ hi (by rw [hq, rest_cons r.len i0 hi]) (step hi r (.inl ⟨hE, rfl⟩))
    · rw [rest_nil r.len (by omega)] at hq
      refine ⟨[], false, by simp, ?_, ?_⟩
      · rw [code_Sync_L8_eq, hq]; rfl
      · rw [r24_Sync_L7_eq]; unfold r24_Sync_L7_B
        rw [if_neg (by simp; omega)]
  · cases u with
    | nil =>
      have hi1 : 1 ≤ i := by
        by_cases e : i = 0
        · rw [(hz e).1] at hE; cases hE
        · omega
      obtain ⟨a1, a2⟩ := hA hi1
      have hks : ∀ x ∈ sets, x ∈ ks := fun x hx => by
        by_cases e : x = allS d
        · rw [e]; exact hAk
        · exact (r.ksI x e).2 hx
      have hAs := (allS_set h).1
      have hsb := hAs.b h
      obtain ⟨w', b', hw', q1, q2⟩ := ih (2 * (256 - i).toNat) (by rw [hE] at hN; simp at hN; omega) i ks v seen sets words false ⟨r.len, r.sl, r.sI, r.nd, r.ok, r.fst, r.wl, r.ksI, .inl ⟨rfl, by rw [hq]; rfl⟩⟩ i0 i1 hA (fun e => by omega) (by simp)
      refine ⟨w', b', hw', ?_, q2⟩
      rw [code_Sync_L8_eq]; unfold code_Sync_L8_B
      have e0 : ix Q 0 = (allS d, w, ()) := by rw [hq2]; rfl
      have hql : 0 < Q.length := by rw [hq2]; simp
      rw [if_pos (by simp; omega), e0]
      refine G_to (by omega) (G_to (by omega) (G_to (by unfold fits; dsimp only; omega) ?_))
      rw [if_neg (by unfold goal at a1; simpa using a1)]
      have := letters_extra (r8 := code_Sync_L8 d) (Q := v) (p := w) h e0 hAs (fun a a0 b1 => hks _ (a2 a a0 b1)) _ 0 rfl (by omega) (by have := h.ok.let1; omega)
      rw [hq2] at this ⊢
      exact this.trans q1
    | cons hd u =>
      have hi : i < sets.length := by
        refine Classical.byContradiction fun hn => ?_
        rw [rest_nil r.len (by omega)] at hq; cases hq
      rw [rest_cons r.len i0 hi] at hq
      injection hq with hq3 hq4
      exact proc (u ++ (allS d, w, ()) :: v) hi (by rw [hq2, ← hq3]; rfl) (step hi r (.inr ⟨hE, hAk, u, v, w, hw, hq4, rfl⟩))
theorem sync_both (hm : detE 3000 badD d = 0) (h8 : d.2.2.1.length ≤ 8) : ∃ w b, w.length ≤ 256 ∧ code_Sync d = some (w, b, 0) ∧ r24_Sync d = some (w, b) := by
  have h : SyOk d := ⟨detE_zero hm, h8⟩
  obtain ⟨hA, hA2⟩ := allS_set h
  have hb := hA.b h
  obtain ⟨w, b, hw, p1, p2⟩ := sync_main h (2 * 256) 0 [] [(allS d, [], ())] ((List.replicate ((256 : Int)).toNat (false : Bool)).set (allS d).toNat true) [allS d] [[]] false
    { len := rfl
      sl := by simp
      sI := fun x x0 x1 => by
        rw [List.mem_singleton]
        by_cases e : x = allS d
        · subst e
          rw [ix_set_same x0 (by simp; omega)]; simp
        · rw [ix_set_ne (by omega) x0 (Ne.symm e), ix_replicate x0 (by omega)]; simp [e]
      nd := by simp
      ok := fun s hs => by rw [List.mem_singleton.1 hs]; exact hA
      fst := by simp
      wl := fun j j0 j1 => by
        obtain rfl : j = 0 := by simp at j1; omega
        simp [ix]
      ksI := fun x hx => by simp [hx]
      q := .inl ⟨rfl, rfl⟩ } (by omega) (by simp) (fun e => by omega) (fun _ => ⟨rfl, rfl⟩) (by simp)
  refine ⟨w, b, hw, ?_, ?_⟩
  · unfold code_Sync
    refine bind_to det_Check_spec ?_
    rw [show detE 3000 badD (d.1, d.2.1, d.2.2.1, d.2.2.2.1, ()) = 0 from hm]
    (try dsimp only); (repeat' first | (with_reducible refine G_to ?_ ?_; focus (first | omega | (unfold fits; omega) | (unfold room; (try simp only [List.length_append, List.length_cons, List.length_nil]); omega))) | (with_reducible refine both_to ?_ ?_) | (with_reducible refine itet_to ?_) | (with_reducible refine itef_to ?_) | (with_reducible refine ite_to (fun _ => ?_) (fun _ => ?_))) <;> try (exfalso; omega)
    have hA' := hb
    unfold allS at hA'
    exact G_to (by unfold fits; omega) p1
  · unfold r24_Sync
    have hA' := hb
    unfold allS at hA'
    refine G_to (by unfold mkOK; simp) (G_to (by omega) (G_to (by unfold fits; omega) (G_to (by simp; omega) (G_to (by simp; omega) ?_))))
    exact p2
end
theorem law_true (d : Dt) : law_CodeSync d = some true := by
  unfold law_CodeSync
  have e : (d.1, d.2.1, d.2.2.1, d.2.2.2.1, ()) = d := rfl
  rw [e]
  by_cases hm : detE 3000 badD d = 0
  · by_cases h8 : d.2.2.1.length ≤ 8
    · obtain ⟨w, b, hw, p1, p2⟩ := sync_both hm h8
      refine bind_to p1 ?_
      refine bind_to r3_Check_spec ?_
      rw [hm]
      unfold law_CodeSync_J3 law_CodeSync_J4
      (try dsimp only); (repeat' first | (with_reducible refine G_to ?_ ?_; focus (first | omega | (unfold fits; omega) | (unfold room; (try simp only [List.length_append, List.length_cons, List.length_nil]); omega))) | (with_reducible refine both_to ?_ ?_) | (with_reducible refine itet_to ?_) | (with_reducible refine itef_to ?_) | (with_reducible refine ite_to (fun _ => ?_) (fun _ => ?_))) <;> try (exfalso; omega)
      rw [e]
      refine bind_to p2 ?_
      refine bind_to (r1_Words_spec (by omega)) ?_
      (try dsimp only); (repeat' first | (with_reducible refine G_to ?_ ?_; focus (first | omega | (unfold fits; omega) | (unfold room; (try simp only [List.length_append, List.length_cons, List.length_nil]); omega))) | (with_reducible refine both_to ?_ ?_) | (with_reducible refine itet_to ?_) | (with_reducible refine itef_to ?_) | (with_reducible refine ite_to (fun _ => ?_) (fun _ => ?_))) <;> try (exfalso; omega)
      all_goals first | (exfalso; exact absurd rfl ‹¬ b = b›) | simp
    · have p1 : code_Sync d = some ([], false, 1) := by
        unfold code_Sync
        refine bind_to det_Check_spec ?_
        rw [show detE 3000 badD (d.1, d.2.1, d.2.2.1, d.2.2.2.1, ()) = 0 from hm]
        (try dsimp only); (repeat' first | (with_reducible refine G_to ?_ ?_; focus (first | omega | (unfold fits; omega) | (unfold room; (try simp only [List.length_append, List.length_cons, List.length_nil]); omega))) | (with_reducible refine both_to ?_ ?_) | (with_reducible refine itet_to ?_) | (with_reducible refine itef_to ?_) | (with_reducible refine ite_to (fun _ => ?_) (fun _ => ?_))) <;> try (exfalso; omega)
        all_goals rfl
      refine bind_to p1 ?_
      refine bind_to r3_Check_spec ?_
      rw [hm]
      unfold law_CodeSync_J3 law_CodeSync_J4
      (try dsimp only); (repeat' first | (with_reducible refine G_to ?_ ?_; focus (first | omega | (unfold fits; omega) | (unfold room; (try simp only [List.length_append, List.length_cons, List.length_nil]); omega))) | (with_reducible refine both_to ?_ ?_) | (with_reducible refine itet_to ?_) | (with_reducible refine itef_to ?_) | (with_reducible refine ite_to (fun _ => ?_) (fun _ => ?_))) <;> try (exfalso; omega)
      all_goals simp
  · have p1 : code_Sync d = some ([], false, detE 3000 badD d) := by
      unfold code_Sync
      refine bind_to det_Check_spec ?_
      rw [show detE 3000 badD (d.1, d.2.1, d.2.2.1, d.2.2.2.1, ()) = detE 3000 badD d from rfl]
      rw [if_pos (decide_eq_true hm)]
    refine bind_to p1 ?_
    refine bind_to r3_Check_spec ?_
    rw [if_neg (by simpa using hm)]
    unfold law_CodeSync_J3 law_CodeSync_J4
    rw [if_neg (by simp), if_pos (decide_eq_true hm), if_pos (decide_eq_true rfl)]
    rfl

end Go.Proofs.Ytogcngcbpkjdfaa.codeSyncW
