/- The law 'HigmanCloses' of the plain functions. -/
import Derived.Test.YtbbnolplpmnghaaHigmanClosesD
set_option maxHeartbeats 1000000
set_option maxRecDepth 20000
set_option linter.unusedSimpArgs false
set_option linter.unusedVariables false
namespace Go.Proofs.Ytbbnolplpmnghaa.higmanClosesW
open Go Go.Ab
theorem wrap_nat {n : Nat} (h : n < 9223372036854775808) : IntKind.wrap .i64 (n : Int) = n := by
  unfold IntKind.wrap
  simp [IntKind.bits, IntKind.signed]
  omega
theorem ofInt_nat (m : Nat) : BitVec.ofInt 64 (m : Int) = BitVec.ofNat 64 m := by
  apply BitVec.eq_of_toNat_eq; simp
theorem iand_nat {m n : Nat} (hm : m < 9223372036854775808) (hn : n < 9223372036854775808) : iand .i64 (m : Int) (n : Int) = ((m &&& n : Nat) : Int) := by
  unfold iand
  have h : (BitVec.ofInt IntKind.i64.bits (m : Int) &&& BitVec.ofInt IntKind.i64.bits (n : Int)).toNat = m &&& n := by
    show (BitVec.ofInt 64 (m : Int) &&& BitVec.ofInt 64 (n : Int)).toNat = m &&& n
    rw [ofInt_nat, ofInt_nat, BitVec.toNat_and, BitVec.toNat_ofNat, BitVec.toNat_ofNat, Nat.mod_eq_of_lt (by omega), Nat.mod_eq_of_lt (by omega)]
  rw [h, wrap_nat (Nat.lt_of_le_of_lt Nat.and_le_left hm)]
theorem ior_nat {m n : Nat} (hm : m < 9223372036854775808) (hn : n < 9223372036854775808) : ior .i64 (m : Int) (n : Int) = ((m ||| n : Nat) : Int) := by
  unfold ior
  have h : (BitVec.ofInt IntKind.i64.bits (m : Int) ||| BitVec.ofInt IntKind.i64.bits (n : Int)).toNat = m ||| n := by
    show (BitVec.ofInt 64 (m : Int) ||| BitVec.ofInt 64 (n : Int)).toNat = m ||| n
    rw [ofInt_nat, ofInt_nat, BitVec.toNat_or, BitVec.toNat_ofNat, BitVec.toNat_ofNat, Nat.mod_eq_of_lt (by omega), Nat.mod_eq_of_lt (by omega)]
  rw [h, wrap_nat (Nat.or_lt_two_pow (n := 63) hm hn)]
theorem ishl_nat {m k : Nat} (hk : k < 63) (h : m * 2 ^ k < 9223372036854775808) : ishl .i64 (m : Int) (k : Int) = ((m <<< k : Nat) : Int) := by
  unfold ishl
  have e : min ((k : Int).toNat) IntKind.i64.bits = k := by
    show min ((k : Int).toNat) 64 = k
    omega
  rw [e, Nat.shiftLeft_eq]
  have : (m : Int) * 2 ^ k = ((m * 2 ^ k : Nat) : Int) := by push_cast; rfl
  rw [this, wrap_nat h]
theorem ishr_nat {m k : Nat} (hk : k ≤ 64) : ishr .i64 (m : Int) (k : Int) = ((m >>> k : Nat) : Int) := by
  unfold ishr
  have e : min ((k : Int).toNat) IntKind.i64.bits = k := by
    show min ((k : Int).toNat) 64 = k
    omega
  rw [e, Nat.shiftRight_eq_div_pow, Int.fdiv_eq_ediv_of_nonneg _ (by exact_mod_cast Nat.zero_le _)]
  push_cast; rfl
/-- Bits: the q-th one is put. -/
theorem ior_bit {m q : Nat} (hm : m < 4611686018427387904) (hq : q < 62) : ior .i64 (m : Int) (ishl .i64 1 (q : Int)) = ((m ||| 2 ^ q : Nat) : Int) ∧ m ||| 2 ^ q < 4611686018427387904 := by
  have h2 : 2 ^ q < 4611686018427387904 := Nat.pow_lt_pow_right (a := 2) (n := 62) (by omega) hq
  have h1 : ishl .i64 1 (q : Int) = ((2 ^ q : Nat) : Int) := by
    have := ishl_nat (m := 1) (k := q) (by omega) (by omega)
    rw [Nat.shiftLeft_eq, Nat.one_mul] at this
    exact this
  rw [h1, ior_nat (by omega) (by omega)]
  exact ⟨rfl, Nat.or_lt_two_pow (n := 62) hm h2⟩

/-- A state's bit in a set. -/
def bitP (s q : Int) : Prop := iand .i64 (ishr .i64 s q) 1 = 1
theorem pow_le16 {N : Nat} (hN : N ≤ 16) : 2 ^ N ≤ 65536 := by
  have : 2 ^ N ≤ 2 ^ 16 := Nat.pow_le_pow_right (by omega) hN
  omega
theorem bitP_nat {m : Nat} (hm : m < 65536) {q : Nat} (hq : q ≤ 16) : bitP (m : Int) (q : Int) ↔ m.testBit q = true := by
  have hs : m >>> q ≤ m := Nat.shiftRight_le m q
  unfold bitP
  rw [ishr_nat (by omega), show (1 : Int) = ((1 : Nat) : Int) from rfl, iand_nat (by omega) (by omega), Nat.and_one_is_mod, Nat.testBit]
  rw [show (1 &&& m >>> q) = (m >>> q) % 2 by rw [Nat.and_comm, Nat.and_one_is_mod]]
  simp only [bne_iff_ne, ne_eq]
  omega
def SetN (N : Nat) (s : Int) : Prop := N ≤ 16 ∧ ∃ m : Nat, s = m ∧ m < 2 ^ N
section
variable {N : Nat} {s t : Int}
theorem SetN.b (h : SetN N s) : 0 ≤ s ∧ s < ((2 ^ N : Nat) : Int) := by
  obtain ⟨hN, m, rfl, hm⟩ := h
  omega
theorem SetN.or (hs : SetN N s) {q : Int} (q0 : 0 ≤ q) (q1 : q < N) : SetN N (ior .i64 s (ishl .i64 1 q)) ∧ s ≤ ior .i64 s (ishl .i64 1 q) ∧ ∀ r : Int, 0 ≤ r → r < N → (bitP (ior .i64 s (ishl .i64 1 q)) r ↔ bitP s r ∨ r = q) := by
  obtain ⟨hN, m, rfl, hm⟩ := hs
  have hp := pow_le16 hN
  obtain ⟨k, rfl⟩ : ∃ k : Nat, q = k := ⟨q.toNat, by omega⟩
  obtain ⟨b1, b2⟩ := ior_bit (m := m) (q := k) (by omega) (by omega)
  have h2 : 2 ^ k < 2 ^ N := Nat.pow_lt_pow_right (by omega) (by omega)
  have hlt : m ||| 2 ^ k < 2 ^ N := Nat.or_lt_two_pow (n := N) hm h2
  have hle : m ≤ m ||| 2 ^ k := Nat.left_le_or
  rw [b1]
  refine ⟨⟨hN, _, rfl, hlt⟩, by omega, fun r r0 r1 => ?_⟩
  obtain ⟨j, rfl⟩ : ∃ j : Nat, r = j := ⟨r.toNat, by omega⟩
  rw [bitP_nat (by omega) (by omega), bitP_nat (by omega) (by omega), Nat.testBit_or, Bool.or_eq_true, Nat.testBit_two_pow, decide_eq_true_iff]
  exact or_congr Iff.rfl (by omega)
theorem SetN.union (hs : SetN N s) (ht : SetN N t) : SetN N (ior .i64 s t) ∧ ∀ r : Int, 0 ≤ r → r < N → (bitP (ior .i64 s t) r ↔ bitP s r ∨ bitP t r) := by
  obtain ⟨hN, m, rfl, hm⟩ := hs
  obtain ⟨_, k, rfl, hk⟩ := ht
  have hp := pow_le16 hN
  have hlt : m ||| k < 2 ^ N := Nat.or_lt_two_pow (n := N) hm hk
  rw [ior_nat (by omega) (by omega)]
  refine ⟨⟨hN, _, rfl, hlt⟩, fun r r0 r1 => ?_⟩
  obtain ⟨j, rfl⟩ : ∃ j : Nat, r = j := ⟨r.toNat, by omega⟩
  rw [bitP_nat (by omega) (by omega), bitP_nat (by omega) (by omega), bitP_nat (by omega) (by omega), Nat.testBit_or, Bool.or_eq_true]
theorem SetN.zero (hN : N ≤ 16) : SetN N 0 ∧ ∀ r : Int, 0 ≤ r → r < N → ¬ bitP 0 r := by
  refine ⟨⟨hN, 0, rfl, Nat.pow_pos (by omega)⟩, fun r r0 r1 => ?_⟩
  obtain ⟨j, rfl⟩ : ∃ j : Nat, r = j := ⟨r.toNat, by omega⟩
  have := bitP_nat (m := 0) (by omega) (q := j) (by omega)
  rw [show ((0 : Nat) : Int) = 0 from rfl] at this
  rw [this]; simp
theorem SetN.ext (hs : SetN N s) (ht : SetN N t) (h : ∀ r : Int, 0 ≤ r → r < N → (bitP s r ↔ bitP t r)) : s = t := by
  obtain ⟨hN, m, rfl, hm⟩ := hs
  obtain ⟨_, k, rfl, hk⟩ := ht
  have hp := pow_le16 hN
  congr 1
  refine Nat.eq_of_testBit_eq fun b => ?_
  by_cases hb : b < N
  · have := h b (by omega) (by omega)
    rw [bitP_nat (by omega) (by omega), bitP_nat (by omega) (by omega)] at this
    rw [Bool.eq_iff_iff]; exact this
  · rw [Nat.testBit_lt_two_pow (Nat.lt_of_lt_of_le hm (Nat.pow_le_pow_right (by omega) (by omega))), Nat.testBit_lt_two_pow (Nat.lt_of_lt_of_le hk (Nat.pow_le_pow_right (by omega) (by omega)))]
theorem SetN.meet (hs : SetN N s) (ht : SetN N t) : (¬ iand .i64 s t = 0 ↔ ∃ r : Int, 0 ≤ r ∧ r < N ∧ bitP s r ∧ bitP t r) := by
  obtain ⟨hN, m, rfl, hm⟩ := hs
  obtain ⟨_, k, rfl, hk⟩ := ht
  have hp := pow_le16 hN
  rw [iand_nat (by omega) (by omega)]
  constructor
  · intro h
    have hne : m &&& k ≠ 0 := by omega
    obtain ⟨j, hj⟩ := Nat.exists_testBit_of_ne_zero hne
    have hle : m &&& k ≤ m := Nat.and_le_left
    have hj8 : j < N := by
      refine Nat.lt_of_not_le fun h8 => ?_
      have : m &&& k < 2 ^ j := Nat.lt_of_lt_of_le (by omega : m &&& k < 2 ^ N) (Nat.pow_le_pow_right (by omega) h8)
      rw [Nat.testBit_lt_two_pow this] at hj; cases hj
    rw [Nat.testBit_and, Bool.and_eq_true] at hj
    exact ⟨j, by omega, by omega, (bitP_nat (by omega) (by omega)).2 hj.1, (bitP_nat (by omega) (by omega)).2 hj.2⟩
  · rintro ⟨r, r0, r1, h1, h2⟩ h
    obtain ⟨j, rfl⟩ : ∃ j : Nat, r = j := ⟨r.toNat, by omega⟩
    have hz : m &&& k = 0 := by omega
    have : (m &&& k).testBit j = true := by rw [Nat.testBit_and, (bitP_nat (by omega) (by omega)).1 h1, (bitP_nat (by omega) (by omega)).1 h2]; rfl
    rw [hz] at this; simp at this
end
open Classical in
/-- The set of those below k. -/
noncomputable def setOf (p : Int → Prop) : Nat → Int
  | 0 => 0
  | k + 1 => if p (k : Int) then ior .i64 (setOf p k) (ishl .i64 1 (k : Int)) else setOf p k
open Classical in
theorem setOf_succ (p : Int → Prop) (k : Nat) : setOf p (k + 1) = if p (k : Int) then ior .i64 (setOf p k) (ishl .i64 1 (k : Int)) else setOf p k := rfl
theorem setOf_ok {N : Nat} (hN : N ≤ 16) (p : Int → Prop) : ∀ k : Nat, k ≤ N → SetN N (setOf p k) ∧ ∀ r : Int, 0 ≤ r → r < N → (bitP (setOf p k) r ↔ r < k ∧ p r)
  | 0, _ => ⟨(SetN.zero hN).1, fun r r0 r1 => ⟨fun h => absurd h ((SetN.zero hN).2 r r0 r1), fun h => by omega⟩⟩
  | k + 1, hk => by
    obtain ⟨h1, h2⟩ := setOf_ok hN p k (by omega)
    unfold setOf
    by_cases c : p (k : Int)
    · rw [if_pos c]
      obtain ⟨h3, _, h4⟩ := h1.or (q := (k : Int)) (by omega) (by omega)
      refine ⟨h3, fun r r0 r1 => ?_⟩
      rw [h4 r r0 r1, h2 r r0 r1]
      constructor
      · rintro (⟨g1, g2⟩ | rfl)
        · exact ⟨by omega, g2⟩
        · exact ⟨by omega, c⟩
      · rintro ⟨g1, g2⟩
        by_cases e : r = k
        · exact .inr e
        · exact .inl ⟨by omega, g2⟩
    · rw [if_neg c]
      refine ⟨h1, fun r r0 r1 => ?_⟩
      rw [h2 r r0 r1]
      constructor
      · rintro ⟨g1, g2⟩; exact ⟨by omega, g2⟩
      · rintro ⟨g1, g2⟩
        by_cases e : r = k
        · subst e; exact absurd g2 c
        · exact ⟨by omega, g2⟩
theorem SetN.one {N : Nat} (hN : N ≤ 16) {q : Int} (q0 : 0 ≤ q) (q1 : q < N) : SetN N (ishl .i64 1 q) ∧ ∀ r : Int, 0 ≤ r → r < N → (bitP (ishl .i64 1 q) r ↔ r = q) := by
  obtain ⟨h1, _, h3⟩ := (SetN.zero hN).1.or q0 q1
  have e : ior .i64 0 (ishl .i64 1 q) = ishl .i64 1 q := by
    obtain ⟨k, rfl⟩ : ∃ k : Nat, q = k := ⟨q.toNat, by omega⟩
    have hp : 2 ^ k ≤ 2 ^ 16 := Nat.pow_le_pow_right (by omega) (by omega)
    have h1 : ishl .i64 1 (k : Int) = ((2 ^ k : Nat) : Int) := by
      have := ishl_nat (m := 1) (k := k) (by omega) (by omega)
      rw [Nat.shiftLeft_eq, Nat.one_mul] at this
      exact this
    rw [h1, show (0 : Int) = ((0 : Nat) : Int) from rfl, ior_nat (by omega) (by omega), Nat.zero_or]
  rw [e] at h1 h3
  refine ⟨h1, fun r r0 r1 => (h3 r r0 r1).trans ⟨fun h => h.elim (fun z => absurd z ((SetN.zero hN).2 r r0 r1)) id, .inr⟩⟩

/-- The answer is yes just if P. -/
def Tells (o : Option Bool) (P : Prop) : Prop := ∃ b, o = some b ∧ (b = true ↔ P)
theorem Tells.of {b : Bool} {P : Prop} (h : b = true ↔ P) : Tells (some b) P := ⟨b, rfl, h⟩
theorem Tells.dec {P Q : Prop} [Decidable P] (h : P ↔ Q) : Tells (some (decide P)) Q := ⟨_, rfl, by simpa using h⟩
theorem Tells.iff {o : Option Bool} {P Q : Prop} (h : Tells o P) (k : P ↔ Q) : Tells o Q := let ⟨b, h1, h2⟩ := h; ⟨b, h1, h2.trans k⟩
theorem Tells.eq {o : Option Bool} {P : Prop} [Decidable P] (h : Tells o P) : o = some (decide P) := by
  obtain ⟨b, rfl, hb⟩ := h
  by_cases hp : P
  · simp [hp, hb.2 hp]
  · have : b = false := by cases b; rfl; exact absurd (hb.1 rfl) hp
    simp [hp, this]
theorem Tells.to {R : Type} {o : Option Bool} {P : Prop} {k1 k2 x : Option R} (h : Tells o P) (h1 : P → k1 = x) (h2 : ¬ P → k2 = x) : (o.bind fun y => if y = true then k1 else k2) = x := by
  obtain ⟨b, rfl, hb⟩ := h
  refine bind_to rfl ?_
  cases b
  · exact h2 fun hp => by simpa using hb.2 hp
  · exact h1 (hb.1 rfl)
theorem Tells.bind {R : Type} {o : Option Bool} {P : Prop} {k : Bool → Option R} {x : Option R} (h : Tells o P) (h1 : ∀ b, (b = true ↔ P) → k b = x) : o.bind k = x := by
  obtain ⟨b, rfl, hb⟩ := h
  exact h1 b hb
section
variable {α C : Type} [Inhabited α]
theorem ex_ix {l : List α} {P : α → Prop} : (∃ x ∈ l, P x) ↔ ∃ i : Int, 0 ≤ i ∧ i < l.length ∧ P (ix l i) := by
  constructor
  · rintro ⟨x, hx, hp⟩
    obtain ⟨i, hi, rfl⟩ := List.mem_iff_getElem.1 hx
    refine ⟨i, by omega, by omega, ?_⟩
    rwa [ix_eq (by omega) (by omega)]
  · rintro ⟨i, h0, h1, hp⟩
    exact ⟨_, ix_mem h0 h1, hp⟩
theorem index_loop {s : List α} {f : α → Option Bool} {L : Int → Option Int} {P : α → Prop} (hs : s.length ≤ 4611686018427387904)
    (hL : ∀ t, L t = if decide (t < (s.length : Int)) = true then G (0 ≤ t ∧ t < (s.length : Int)) ((f (ix s t)).bind fun y => if y = true then some t else G (fits (t + 1)) (L (t + 1))) else some (-1))
    (hf : ∀ x ∈ s, Tells (f x) (P x)) : ∀ (n : Nat) (t : Int), 0 ≤ t → t ≤ s.length → (s.length - t).toNat = n →
      ∃ i, L t = some i ∧ ((i = -1 ∧ ∀ j : Int, t ≤ j → j < s.length → ¬ P (ix s j)) ∨ (t ≤ i ∧ i < s.length ∧ P (ix s i) ∧ ∀ j : Int, t ≤ j → j < i → ¬ P (ix s j))) := by
  intro n
  induction n with
  | zero =>
    intro t h0 h1 hn
    refine ⟨-1, ?_, .inl ⟨rfl, fun j a b => by omega⟩⟩
    rw [hL, if_neg (by simp; omega)]
  | succ n ih =>
    intro t h0 h1 hn
    rw [hL, if_pos (by simp; omega), G_pos (by omega)]
    obtain ⟨b, hb, hbp⟩ := hf _ (ix_mem h0 (by omega : t < s.length))
    rw [hb]
    cases b with
    | true => exact ⟨t, rfl, .inr ⟨by omega, by omega, hbp.1 rfl, fun j a b => by omega⟩⟩
    | false =>
      have hnp : ¬ P (ix s t) := fun hp => by simpa using hbp.2 hp
      obtain ⟨i, hi, hc⟩ := ih (t + 1) (by omega) (by omega) (by omega)
      refine ⟨i, ?_, ?_⟩
      · refine (if_neg (by simp) : (if false = true then some t else G (fits (t + 1)) (L (t + 1))) = _).trans ?_
        rw [G_pos (by unfold fits; omega), hi]
      · rcases hc with ⟨h2, h3⟩ | ⟨h2, h3, h4, h5⟩
        · refine .inl ⟨h2, fun j a b => ?_⟩
          by_cases e : j = t
          · rw [e]; exact hnp
          · exact h3 j (by omega) b
        · refine .inr ⟨by omega, h3, h4, fun j a b => ?_⟩
          by_cases e : j = t
          · rw [e]; exact hnp
          · exact h5 j (by omega) b
theorem contains_tells {s : List α} {f : α → Option Bool} {L : Int → Option Int} {P : α → Prop}
    (hL : ∀ t, L t = if decide (t < (s.length : Int)) = true then G (0 ≤ t ∧ t < (s.length : Int)) ((f (ix s t)).bind fun y => if y = true then some t else G (fits (t + 1)) (L (t + 1))) else some (-1))
    (hs : s.length ≤ 4611686018427387904) (hf : ∀ x ∈ s, Tells (f x) (P x)) : Tells ((L 0).bind fun y => some (decide ((0 : Int) ≤ y))) (∃ x ∈ s, P x) := by
  obtain ⟨i, hi, hc⟩ := index_loop hs hL hf _ 0 (by omega) (by omega) rfl
  rw [hi]
  refine ⟨decide (0 ≤ i), rfl, ?_⟩
  rw [decide_eq_true_iff, ex_ix]
  rcases hc with ⟨h2, h3⟩ | ⟨h2, h3, h4, h5⟩
  · constructor
    · intro h; omega
    · rintro ⟨j, h0, h1, hp⟩; exact absurd hp (h3 j h0 h1)
  · exact ⟨fun _ => ⟨i, by omega, h3, h4⟩, fun _ => by omega⟩
/-- .. of what carries along what it reads. -/
theorem contains_tells2 {s : List α} {c : C} {f : α → C → Option (Bool × C)} {L : Int → C → Option (Int × C)} {P : α → Prop}
    (hL : ∀ t c, L t c = if decide (t < (s.length : Int)) = true then G (0 ≤ t ∧ t < (s.length : Int)) ((f (ix s t) c).bind fun y => if y.1 = true then some (t, y.2) else G (fits (t + 1)) (L (t + 1) y.2)) else some (-1, c))
    (hs : s.length ≤ 4611686018427387904) (hf : ∀ x ∈ s, ∃ b, f x c = some (b, c) ∧ (b = true ↔ P x)) : ∃ b, ((L 0 c).bind fun y => some (decide ((0 : Int) ≤ y.1), y.2)) = some (b, c) ∧ (b = true ↔ ∃ x ∈ s, P x) := by
  have key : ∀ (n : Nat) (t : Int), 0 ≤ t → t ≤ s.length → (s.length - t).toNat = n →
      ∃ i, L t c = some (i, c) ∧ ((i = -1 ∧ ∀ j : Int, t ≤ j → j < s.length → ¬ P (ix s j)) ∨ (t ≤ i ∧ i < s.length ∧ P (ix s i))) := by
    intro n
    induction n with
    | zero =>
      intro t h0 h1 hn
      refine ⟨-1, ?_, .inl ⟨rfl, fun j a b => by omega⟩⟩
      rw [hL, if_neg (by simp; omega)]
    | succ n ih =>
      intro t h0 h1 hn
      rw [hL, if_pos (by simp; omega), G_pos (by omega)]
      obtain ⟨b, hb, hbp⟩ := hf _ (ix_mem h0 (by omega : t < s.length))
      rw [hb]
      cases b with
      | true => exact ⟨t, rfl, .inr ⟨by omega, by omega, hbp.1 rfl⟩⟩
      | false =>
        have hnp : ¬ P (ix s t) := fun hp => by simpa using hbp.2 hp
        obtain ⟨i, hi, hc⟩ := ih (t + 1) (by omega) (by omega) (by omega)
        refine ⟨i, ?_, ?_⟩
        · refine (if_neg (by simp) : (if false = true then some (t, c) else G (fits (t + 1)) (L (t + 1) c)) = _).trans ?_
          rw [G_pos (by unfold fits; omega), hi]
        · rcases hc with ⟨h2, h3⟩ | ⟨h2, h3, h4⟩
          · refine .inl ⟨h2, fun j a b => ?_⟩
            by_cases e : j = t
            · rw [e]; exact hnp
            · exact h3 j (by omega) b
          · exact .inr ⟨by omega, h3, h4⟩
  obtain ⟨i, hi, hc⟩ := key _ 0 (by omega) (by omega) rfl
  rw [hi]
  refine ⟨decide (0 ≤ i), rfl, ?_⟩
  rw [decide_eq_true_iff, ex_ix]
  rcases hc with ⟨h2, h3⟩ | ⟨h2, h3, h4⟩
  · constructor
    · intro h; omega
    · rintro ⟨j, h0, h1, hp⟩; exact absurd hp (h3 j h0 h1)
  · exact ⟨fun _ => ⟨i, by omega, h3, h4⟩, fun _ => by omega⟩
end
/-- A loop that looks for the first fault. -/
theorem scan_to {R : Type} {len : Int} {L : Int → Option R} {bad : Int → Prop} {x : Option R} {lo : Int} (h0 : lo ≤ len)
    (hs : ∀ t, lo ≤ t → t < len → (bad t → L t = x) ∧ (¬ bad t → L t = L (t + 1))) (hf : (∀ t, lo ≤ t → t < len → ¬ bad t) → L len = x) : L lo = x := by
  have key : ∀ (n : Nat) (t : Int), lo ≤ t → t ≤ len → (len - t).toNat = n → (∀ j, lo ≤ j → j < t → ¬ bad j) → L t = x := by
    intro n
    induction n with
    | zero =>
      intro t h1 h2 hn h
      obtain rfl : t = len := by omega
      exact hf h
    | succ n ih =>
      intro t h1 h2 hn h
      by_cases hb : bad t
      · exact (hs t h1 (by omega)).1 hb
      · rw [(hs t h1 (by omega)).2 hb]
        refine ih (t + 1) (by omega) (by omega) (by omega) fun j a b => ?_
        by_cases e : j = t
        · rw [e]; exact hb
        · exact h j a (by omega)
  exact key _ lo (Int.le_refl _) h0 rfl (fun j a b => by omega)
/-- A loop that counts, with a state. -/
theorem fold_to {R S : Type} {len : Int} {L : Int → S → Option R} {f : Int → S → S} {lo : Int} {I : Int → S → Prop} {s : S} (h0 : lo ≤ len) (hI : I lo s)
    (hs : ∀ t s, lo ≤ t → t < len → I t s → L t s = L (t + 1) (f t s) ∧ I (t + 1) (f t s)) : ∃ s', I len s' ∧ L lo s = L len s' := by
  have key : ∀ (n : Nat) (t : Int) (s : S), lo ≤ t → t ≤ len → (len - t).toNat = n → I t s → ∃ s', I len s' ∧ L t s = L len s' := by
    intro n
    induction n with
    | zero =>
      intro t s h1 h2 hn h
      obtain rfl : t = len := by omega
      exact ⟨s, h, rfl⟩
    | succ n ih =>
      intro t s h1 h2 hn h
      obtain ⟨e, h3⟩ := hs t s h1 (by omega) h
      obtain ⟨s', h4, h5⟩ := ih (t + 1) _ (by omega) (by omega) (by omega) h3
      exact ⟨s', h4, e.trans h5⟩
  exact key _ lo s (Int.le_refl _) h0 rfl hI

theorem slices_Clone_spec {s : List Int} (hs : s.length * 8 ≤ 140737488355328) : slices_Clone s = some s := by
  have hr : G (room ([] : List Int) s 8) (some (([] : List Int) ++ s)) = some s := by
    rw [G_pos (room_of (by simpa using hs))]; rfl
  unfold slices_Clone
  refine itep_to (fun h => ?_) (fun h => hr)
  obtain rfl : s = [] := List.length_eq_zero_iff.1 h
  rw [hr]; exact both_self (ts := [(.list (.int .i64))]) (some ([] : List Int))

/-- A walk over a table. -/
def stp (N : List (List Int)) (q a : Int) : Int := ix (ix N q) a
def wlk (N : List (List Int)) (q : Int) (w : List Int) : Int := w.foldl (stp N) q
/-- The places come by. -/
def trc (N : List (List Int)) : Int → List Int → List Int
  | _, [] => []
  | q, a :: w => stp N q a :: trc N (stp N q a) w
/-- A table of so many letters. -/
structure Tab (L : Int) (N : List (List Int)) : Prop where
  row : ∀ r ∈ N, (r.length : Int) = L
  to : ∀ r ∈ N, ∀ q ∈ r, 0 ≤ q ∧ q < N.length
theorem Tab.stpb {L : Int} {N : List (List Int)} (h : Tab L N) {q a : Int} (q0 : 0 ≤ q) (q1 : q < N.length) (a0 : 0 ≤ a) (a1 : a < L) : 0 ≤ stp N q a ∧ stp N q a < N.length := by
  have h1 := ix_mem q0 q1
  have h2 := h.row _ h1
  exact h.to _ h1 _ (ix_mem a0 (by omega))
theorem Tab.rowlen {L : Int} {N : List (List Int)} (h : Tab L N) {q : Int} (q0 : 0 ≤ q) (q1 : q < N.length) : ((ix N q).length : Int) = L := h.row _ (ix_mem q0 q1)
theorem Tab.wlkb {L : Int} {N : List (List Int)} (h : Tab L N) : ∀ {w : List Int} {q : Int}, 0 ≤ q → q < N.length → (∀ a ∈ w, 0 ≤ a ∧ a < L) → 0 ≤ wlk N q w ∧ wlk N q w < N.length
  | [], q, q0, q1, _ => ⟨q0, q1⟩
  | a :: w, q, q0, q1, hw => by
    have := h.stpb q0 q1 (hw a (by simp)).1 (hw a (by simp)).2
    exact Tab.wlkb h (q := stp N q a) (w := w) this.1 this.2 (fun b hb => hw b (by simp [hb]))
theorem Tab.trcb {L : Int} {N : List (List Int)} (h : Tab L N) : ∀ {w : List Int} {q : Int}, 0 ≤ q → q < N.length → (∀ a ∈ w, 0 ≤ a ∧ a < L) → ∀ p ∈ trc N q w, 0 ≤ p ∧ p < N.length
  | [], q, q0, q1, _, p, hp => by cases hp
  | a :: w, q, q0, q1, hw, p, hp => by
    have := h.stpb q0 q1 (hw a (by simp)).1 (hw a (by simp)).2
    rcases List.mem_cons.1 hp with rfl | hp
    · exact this
    · exact Tab.trcb h this.1 this.2 (fun b hb => hw b (by simp [hb])) p hp

theorem mfind_none {α : Type} : ∀ {ks : List α} {x : α}, mfind ks x = none ↔ x ∉ ks
  | [], x => by simp [mfind]
  | y :: ys, x => by
    unfold mfind
    by_cases h : y = x
    · rw [if_pos h]; simp [h]
    · rw [if_neg h, Option.map_eq_none_iff, mfind_none]
      simp [Ne.symm h]
/-- A map that only marks: all its elements are one. -/
abbrev ones {α : Type} (ks : List α) : List Int := List.replicate ks.length 1
theorem mget_ones {α : Type} {ks : List α} {x : α} : (mget ks (ones ks) x 0 = 0) ↔ x ∉ ks := by
  unfold mget
  cases h : mfind ks x with
  | none => simp [mfind_none.1 h]
  | some j =>
    have hx : x ∈ ks := by
      refine Classical.byContradiction fun hn => ?_
      rw [mfind_none.2 hn] at h; cases h
    have := mfind_lt h
    simp [hx, this]
theorem mputK_new {α : Type} {ks : List α} {x : α} (h : x ∉ ks) : mputK ks x = ks ++ [x] := by
  unfold mputK; rw [mfind_none.2 h]
theorem mputV_new {α : Type} {ks : List α} {x : α} (h : x ∉ ks) : mputV ks (ones ks) x 1 = ones (ks ++ [x]) := by
  unfold mputV; rw [mfind_none.2 h]
  show List.replicate ks.length 1 ++ [1] = List.replicate (ks ++ [x]).length 1
  rw [List.length_append, List.length_singleton, List.replicate_succ']

theorem pigeon {α : Type} [DecidableEq α] : ∀ {l U : List α}, l.Nodup → (∀ x ∈ l, x ∈ U) → l.length ≤ U.length
  | [], _, _, _ => Nat.zero_le _
  | a :: l, U, hn, hs => by
    have ha := hs a (by simp)
    obtain ⟨h1, h2⟩ := List.nodup_cons.1 hn
    have := pigeon (U := U.erase a) h2 (fun x hx => (List.mem_erase_of_ne (by rintro rfl; exact h1 hx)).2 (hs x (by simp [hx])))
    rw [List.length_erase_of_mem ha] at this
    have hp : 0 < U.length := List.length_pos_of_mem ha
    rw [List.length_cons]; omega
theorem pigeon_int {l : List Int} {n : Nat} (h : l.Nodup) (hb : ∀ x ∈ l, 0 ≤ x ∧ x < n) : l.length ≤ n := by
  have := pigeon (U := (List.range n).map Int.ofNat) h (fun x hx => by
    have := hb x hx
    exact List.mem_map.2 ⟨x.toNat, List.mem_range.2 (by omega), by show ((x.toNat : Nat) : Int) = x; omega⟩)
  simpa using this

theorem mfind_mem {α : Type} {ks : List α} {x : α} (h : x ∈ ks) : ∃ j, mfind ks x = some j := by
  cases e : mfind ks x with
  | none => exact absurd h (mfind_none.1 e)
  | some j => exact ⟨j, rfl⟩
theorem mfind_hd {α : Type} (ks : List α) (x : α) : mfind (x :: ks) x = some 0 := by unfold mfind; rw [if_pos rfl]
theorem mfind_tl {α : Type} {ks : List α} {x y : α} (h : y ≠ x) : mfind (y :: ks) x = (mfind ks x).map (· + 1) := by
  rw [mfind, if_neg h]
theorem mfind_app {α : Type} : ∀ {ks : List α} {x : α} {j : Nat} (l : List α), mfind ks x = some j → mfind (ks ++ l) x = some j
  | [], _, _, _, h => by cases h
  | y :: ks, x, j, l, h => by
    rw [List.cons_append]
    by_cases e : y = x
    · subst e; rw [mfind_hd] at h ⊢; exact h
    · rw [mfind_tl e] at h ⊢
      cases hm : mfind ks x with
      | none => rw [hm] at h; cases h
      | some i => rw [hm] at h; rw [mfind_app l hm]; exact h
theorem mfind_new {α : Type} : ∀ {ks : List α} {x : α}, x ∉ ks → mfind (ks ++ [x]) x = some ks.length
  | [], x, _ => mfind_hd _ _
  | y :: ks, x, h => by
    have hy : y ≠ x := by rintro rfl; exact h (by simp)
    rw [List.cons_append, mfind_tl hy, mfind_new (fun hh => h (by simp [hh]))]; rfl
theorem mfind_at {α : Type} : ∀ {ks : List α} {x : α} {k : Nat}, ks[k]? = some x → (∀ j, j < k → ks[j]? ≠ some x) → mfind ks x = some k
  | [], _, _, h, _ => by simp at h
  | y :: ks, x, k, h, hf => by
    cases k with
    | zero =>
      have : y = x := by simpa using h
      subst this; exact mfind_hd _ _
    | succ k =>
      have hy : y ≠ x := by have := hf 0 (by omega); simpa using this
      rw [mfind_tl hy, mfind_at (k := k) (by simpa using h) (fun j hj => by have := hf (j + 1) (by omega); simpa using this)]; rfl
theorem mfind_inj {α : Type} {ks : List α} {x y : α} {j : Nat} (h : mfind ks x = some j) (k : mfind ks y = some j) : x = y := by
  have := mfind_get h; rw [mfind_get k] at this; injection this with this; exact this.symm
theorem mfind_nodup {α : Type} {ks : List α} (hn : ks.Nodup) {j : Nat} (hj : j < ks.length) : mfind ks ks[j] = some j :=
  mfind_at (by simp) fun i hi e => by
    have hi' : i < ks.length := by omega
    rw [List.getElem?_eq_getElem hi'] at e
    exact List.pairwise_iff_getElem.1 hn i j hi' hj hi (Option.some.inj e)
theorem mfind_map {α β : Type} (f : α → β) : ∀ {ks : List α} {x : α}, (∀ y ∈ ks, f y = f x → y = x) → mfind (ks.map f) (f x) = mfind ks x
  | [], _, _ => rfl
  | y :: ks, x, h => by
    have ih := mfind_map f (ks := ks) (x := x) (fun z hz => h z (by simp [hz]))
    rw [List.map_cons]
    by_cases e : y = x
    · subst e; rw [mfind_hd, mfind_hd]
    · rw [mfind_tl e, mfind_tl (fun hh => e (h y (by simp) hh)), ih]
/-- 0, 1, 2, .. -/
def iota (n : Nat) : List Int := (List.range n).map fun j : Nat => (j : Int)
theorem iota_len (n : Nat) : (iota n).length = n := by simp [iota]
theorem iota_succ (n : Nat) : iota (n + 1) = iota n ++ [(n : Int)] := by simp [iota, List.range_succ]
theorem mget_iota {α : Type} {ks : List α} {x : α} {j : Nat} (h : mfind ks x = some j) : mget ks (iota ks.length) x 0 = j := by
  have := mfind_lt h
  unfold mget; rw [h]
  simp [iota, this]
theorem mhas_iff {α : Type} {ks : List α} {x : α} : mhas ks x = true ↔ x ∈ ks := by
  unfold mhas
  cases e : mfind ks x with
  | none => simp [mfind_none.1 e]
  | some j =>
    have := mfind_get e
    simp [List.mem_of_getElem? this]
theorem mputV_iota {α : Type} {ks : List α} {x : α} (h : x ∉ ks) : mputV ks (iota ks.length) x ks.length = iota (ks ++ [x]).length := by
  unfold mputV; rw [mfind_none.2 h, List.length_append, List.length_singleton, iota_succ]
theorem cover_nodup {α : Type} [DecidableEq α] : ∀ {l U : List α}, U.Nodup → (∀ x ∈ U, x ∈ l) → l.length ≤ U.length → l.Nodup
  | [], _, _, _, _ => List.nodup_nil
  | a :: l, U, hU, hs, hl => by
    have ha : a ∉ l := fun ha => by
      have := pigeon (l := U) (U := l) hU (fun x hx => by
        rcases List.mem_cons.1 (hs x hx) with rfl | h
        · exact ha
        · exact h)
      rw [List.length_cons] at hl; omega
    refine List.nodup_cons.2 ⟨ha, ?_⟩
    refine cover_nodup (U := U.erase a) (hU.erase a) (fun x hx => ?_) ?_
    · have hne : x ≠ a := ((List.Nodup.mem_erase_iff hU).1 hx).1
      rcases List.mem_cons.1 (hs x (List.mem_of_mem_erase hx)) with h | h
      · exact absurd h hne
      · exact h
    · have : U.length - 1 ≤ (U.erase a).length := by
        by_cases h : a ∈ U
        · rw [List.length_erase_of_mem h]; omega
        · rw [List.erase_of_not_mem h]; omega
      rw [List.length_cons] at hl; omega

/-- The bytes of a list of small numbers. -/
def keyL (l : List Int) : List Int := l.flatMap fun x => [IntKind.wrap .u8 x, IntKind.wrap .u8 (ishr .i64 x 8)]
def keyB (l : List Int) : List UInt8 := bstr (keyL l)
theorem wrap_u8 (x : Int) : IntKind.wrap .u8 x = x % 256 := by
  unfold IntKind.wrap
  simp [IntKind.bits, IntKind.signed]
theorem keyB_cons (x : Int) (l : List Int) : keyB (x :: l) = UInt8.ofNat (x % 256).toNat :: UInt8.ofNat (ishr .i64 x 8 % 256).toNat :: keyB l := by
  unfold keyB keyL bstr
  simp [wrap_u8]
theorem u8_inj {a b : Int} (h : UInt8.ofNat (a % 256).toNat = UInt8.ofNat (b % 256).toNat) : a % 256 = b % 256 := by
  have := congrArg UInt8.toNat h
  simp only [UInt8.toNat_ofNat'] at this
  omega
theorem keyB_inj : ∀ {l k : List Int}, (∀ x ∈ l, 0 ≤ x ∧ x < 65536) → (∀ x ∈ k, 0 ≤ x ∧ x < 65536) → keyB l = keyB k → l = k
  | [], [], _, _, _ => rfl
  | [], y :: k, _, _, h => by rw [keyB_cons] at h; cases h
  | x :: l, [], _, _, h => by rw [keyB_cons] at h; cases h
  | x :: l, y :: k, hl, hk, h => by
    rw [keyB_cons, keyB_cons] at h
    injection h with h1 h
    injection h with h2 h
    have hx := hl x (by simp)
    have hy := hk y (by simp)
    have e1 := u8_inj h1
    have e2 := u8_inj h2
    obtain ⟨a, rfl⟩ : ∃ a : Nat, x = a := ⟨x.toNat, by omega⟩
    obtain ⟨b, rfl⟩ : ∃ b : Nat, y = b := ⟨y.toNat, by omega⟩
    rw [show (8 : Int) = ((8 : Nat) : Int) from rfl, ishr_nat (by omega), ishr_nat (by omega), Nat.shiftRight_eq_div_pow, Nat.shiftRight_eq_div_pow] at e2
    have : a = b := by omega
    rw [this, keyB_inj (fun z hz => hl z (by simp [hz])) (fun z hz => hk z (by simp [hz])) h]
theorem keyL_len (l : List Int) : (keyL l).length = 2 * l.length := by
  induction l with
  | nil => rfl
  | cons x l ih => unfold keyL at *; rw [List.flatMap_cons, List.length_append, ih]; simp; omega
/-- A row of so many numbers. -/
def mkR (n : Nat) (g : Int → Int) : List Int := (List.range n).map fun a : Nat => g a
theorem mkR_len (n : Nat) (g : Int → Int) : (mkR n g).length = n := by simp [mkR]
theorem mkR_ix {n : Nat} {g : Int → Int} {a : Int} (h0 : 0 ≤ a) (h1 : a < n) : ix (mkR n g) a = g a := by
  rw [ix_eq h0 (by rw [mkR_len]; exact h1)]
  simp [mkR, Int.toNat_of_nonneg h0]
theorem mkR_of {n : Nat} {g : Int → Int} {l : List Int} (hl : l.length = n) (h : ∀ a : Int, 0 ≤ a → a < n → ix l a = g a) : l = mkR n g :=
  ix_ext (by rw [mkR_len, hl]) fun j j0 j1 => by rw [mkR_ix j0 (by omega), h j j0 (by omega)]

abbrev Dt := Int × Int × (List (List Int)) × (List Int) × Unit
def DBig (mx : Int) (d : Dt) : Prop := d.2.2.1.length < 1 ∨ mx < d.2.2.1.length
def DRag (d : Dt) : Prop := ¬ (d.2.2.2.1.length : Int) = d.2.2.1.length ∨ ∃ r ∈ d.2.2.1, ¬ (r.length : Int) = d.1
def DOut (mb : Int → Prop) (d : Dt) : Prop := (d.2.1 < 0 ∨ (d.2.2.1.length : Int) ≤ d.2.1) ∨ (∃ r ∈ d.2.2.1, ∃ q ∈ r, q < 0 ∨ (d.2.2.1.length : Int) ≤ q) ∨ (∃ s ∈ d.2.2.2.1, mb s)
open Classical in
/-- What is wrong with an automaton of at most so many states, with such marks. -/
noncomputable def detE (mx : Int) (mb : Int → Prop) (d : Dt) : Int := if d.1 < 1 ∨ 4 < d.1 then 2 else if DBig mx d then 1 else if DRag d then 3 else if DOut mb d then 2 else 0
structure DOk (mx : Int) (mb : Int → Prop) (d : Dt) : Prop where
  let1 : 1 ≤ d.1 ∧ d.1 ≤ 4
  n1 : 1 ≤ d.2.2.1.length ∧ (d.2.2.1.length : Int) ≤ mx
  st : 0 ≤ d.2.1 ∧ d.2.1 < d.2.2.1.length
  mkl : (d.2.2.2.1.length : Int) = d.2.2.1.length
  mok : ∀ s ∈ d.2.2.2.1, ¬ mb s
  tab : Tab d.1 d.2.2.1
theorem detE_zero {mx : Int} {mb : Int → Prop} {d : Dt} (h : detE mx mb d = 0) : DOk mx mb d := by
  unfold detE at h
  by_cases c1 : d.1 < 1 ∨ 4 < d.1
  · rw [if_pos c1] at h; omega
  rw [if_neg c1] at h
  by_cases c2 : DBig mx d
  · rw [if_pos c2] at h; omega
  rw [if_neg c2] at h
  by_cases c3 : DRag d
  · rw [if_pos c3] at h; omega
  rw [if_neg c3] at h
  by_cases c4 : DOut mb d
  · rw [if_pos c4] at h; omega
  unfold DBig at c2; unfold DRag at c3; unfold DOut at c4
  refine ⟨by omega, by omega, ?_, ?_, fun s hs hm => c4 (.inr (.inr ⟨s, hs, hm⟩)), fun r hr => ?_, fun r hr q hq => ?_⟩
  · have : ¬ (d.2.1 < 0 ∨ (d.2.2.1.length : Int) ≤ d.2.1) := fun h => c4 (.inl h)
    omega
  · exact Decidable.not_not.1 fun h => c3 (.inl h)
  · by_cases e : (r.length : Int) = d.1
    · exact e
    · exact absurd (.inr ⟨r, hr, e⟩) c3
  · have : ¬ (q < 0 ∨ (d.2.2.1.length : Int) ≤ q) := fun h => c4 (.inr (.inl ⟨r, hr, q, hq, h⟩))
    omega

section
variable {d : Dt} {mb : Int → Prop}
def sigC (d : Dt) (c : List Int) (q : Int) : Int × List Int := (ix c q, (ix d.2.2.1 q).map (ix c))
def ksC (d : Dt) (c : List Int) : Nat → List (Int × List Int)
  | 0 => []
  | t + 1 => if sigC d c (t : Int) ∈ ksC d c t then ksC d c t else ksC d c t ++ [sigC d c (t : Int)]
noncomputable def idxC (d : Dt) (c : List Int) (q : Nat) : Nat := (mfind (ksC d c (q + 1)) (sigC d c (q : Int))).getD 0
noncomputable def rfC (d : Dt) (c : List Int) : List Int := mkR d.2.2.1.length fun q => (idxC d c q.toNat : Int)
theorem ksC_succ (c : List Int) (t : Nat) : ksC d c (t + 1) = if sigC d c (t : Int) ∈ ksC d c t then ksC d c t else ksC d c t ++ [sigC d c (t : Int)] := rfl
theorem ksC_pre (c : List Int) : ∀ t, ∃ x, ksC d c (t + 1) = ksC d c t ++ x := fun t => by
  rw [ksC_succ]
  by_cases h : sigC d c (t : Int) ∈ ksC d c t
  · exact ⟨[], by rw [if_pos h, List.append_nil]⟩
  · exact ⟨_, by rw [if_neg h]⟩
theorem ksC_mem (c : List Int) : ∀ t q : Nat, q < t → sigC d c (q : Int) ∈ ksC d c t
  | t + 1, q, h => by
    rw [ksC_succ]
    by_cases e : q = t
    · subst e
      by_cases h : sigC d c (q : Int) ∈ ksC d c q
      · rw [if_pos h]; exact h
      · rw [if_neg h]; simp
    · have := ksC_mem c t q (by omega)
      by_cases h : sigC d c (t : Int) ∈ ksC d c t
      · rw [if_pos h]; exact this
      · rw [if_neg h]; simp [this]
theorem ksC_of (c : List Int) : ∀ (t : Nat), ∀ k ∈ ksC d c t, ∃ q : Nat, q < t ∧ k = sigC d c (q : Int)
  | 0, k, h => by cases h
  | t + 1, k, h => by
    rw [ksC_succ] at h
    by_cases e : sigC d c (t : Int) ∈ ksC d c t
    · rw [if_pos e] at h
      obtain ⟨q, h1, h2⟩ := ksC_of c t k h
      exact ⟨q, by omega, h2⟩
    · rw [if_neg e] at h
      rcases List.mem_append.1 h with h | h
      · obtain ⟨q, h1, h2⟩ := ksC_of c t k h
        exact ⟨q, by omega, h2⟩
      · exact ⟨t, by omega, List.mem_singleton.1 h⟩
theorem ksC_nodup (c : List Int) : ∀ t, (ksC d c t).Nodup
  | 0 => List.nodup_nil
  | t + 1 => by
    rw [ksC_succ]
    by_cases h : sigC d c (t : Int) ∈ ksC d c t
    · rw [if_pos h]; exact ksC_nodup c t
    · rw [if_neg h, List.nodup_append]
      exact ⟨ksC_nodup c t, by simp, fun a ha b hb => by rw [List.mem_singleton.1 hb]; rintro rfl; exact h ha⟩
theorem ksC_le (c : List Int) : ∀ t, (ksC d c t).length ≤ t
  | 0 => Nat.le_refl _
  | t + 1 => by
    have := ksC_le c t
    rw [ksC_succ]
    split
    · omega
    · rw [List.length_append, List.length_singleton]; omega
theorem idxC_at (c : List Int) (q : Nat) : ∀ t, q < t → mfind (ksC d c t) (sigC d c (q : Int)) = some (idxC d c q)
  | t + 1, h => by
    by_cases e : q = t
    · subst e
      obtain ⟨j, hj⟩ := mfind_mem (ksC_mem (d := d) c (q + 1) q (by omega))
      unfold idxC; rw [hj]; rfl
    · obtain ⟨x, hx⟩ := ksC_pre (d := d) c t
      rw [hx]; exact mfind_app x (idxC_at c q t (by omega))
theorem idxC_iff (c : List Int) {q r : Nat} : idxC d c q = idxC d c r ↔ sigC d c (q : Int) = sigC d c (r : Int) := by
  have h1 := idxC_at (d := d) c q (max q r + 1) (by omega)
  have h2 := idxC_at (d := d) c r (max q r + 1) (by omega)
  constructor
  · intro e; rw [← e] at h2; exact mfind_inj h1 h2
  · intro e; rw [e, h2] at h1; exact (Option.some.inj h1).symm
theorem idxC_lt (c : List Int) {q t : Nat} (h : q < t) : idxC d c q < (ksC d c t).length := mfind_lt (idxC_at c q t h)
theorem idxC_sur (c : List Int) {t j : Nat} (h : j < (ksC d c t).length) : ∃ q, q < t ∧ idxC d c q = j := by
  obtain ⟨q, hq, e⟩ := ksC_of c t _ (List.getElem_mem h)
  refine ⟨q, hq, ?_⟩
  have h1 := idxC_at (d := d) c q t hq
  rw [← e, mfind_nodup (ksC_nodup c t) h] at h1
  exact (Option.some.inj h1).symm
/-- Classes so far: small numbers. -/
structure ClsOk (d : Dt) (c : List Int) : Prop where
  len : c.length = d.2.2.1.length
  b : ∀ q : Int, 0 ≤ q → q < c.length → 0 ≤ ix c q ∧ ix c q < 65536
theorem rfC_len (c : List Int) : (rfC d c).length = d.2.2.1.length := mkR_len _ _
theorem rfC_ix (c : List Int) {q : Int} (h0 : 0 ≤ q) (h1 : q < d.2.2.1.length) : ix (rfC d c) q = idxC d c q.toNat := mkR_ix h0 h1
theorem sigC_len (h : DOk 3000 mb d) (c : List Int) {q : Int} (h0 : 0 ≤ q) (h1 : q < d.2.2.1.length) : ((sigC d c q).2.length : Int) = d.1 := by
  unfold sigC
  rw [List.length_map]; exact h.tab.rowlen h0 h1
theorem sigC_b (h : DOk 3000 mb d) {c : List Int} (hc : ClsOk d c) {q : Int} (h0 : 0 ≤ q) (h1 : q < d.2.2.1.length) : ∀ x ∈ (sigC d c q).2, 0 ≤ x ∧ x < 65536 := by
  intro x hx
  unfold sigC at hx
  obtain ⟨y, hy, rfl⟩ := List.mem_map.1 hx
  have := h.tab.to _ (ix_mem h0 h1) y hy
  exact hc.b y this.1 (by rw [hc.len]; exact this.2)
theorem sigC_row (h : DOk 3000 mb d) (c : List Int) {q a : Int} (h0 : 0 ≤ q) (h1 : q < d.2.2.1.length) (a0 : 0 ≤ a) (a1 : a < d.1) : ix (sigC d c q).2 a = ix c (ix (ix d.2.2.1 q) a) := by
  have := h.tab.rowlen h0 h1
  unfold sigC
  exact ix_map _ a0 (by omega)
theorem sigC_eq (h : DOk 3000 mb d) (c : List Int) {p q : Int} (p0 : 0 ≤ p) (p1 : p < d.2.2.1.length) (q0 : 0 ≤ q) (q1 : q < d.2.2.1.length) : sigC d c p = sigC d c q ↔ ix c p = ix c q ∧ ∀ a : Int, 0 ≤ a → a < d.1 → ix c (ix (ix d.2.2.1 p) a) = ix c (ix (ix d.2.2.1 q) a) := by
  have l1 := sigC_len h c p0 p1
  have l2 := sigC_len h c q0 q1
  constructor
  · intro e
    refine ⟨congrArg Prod.fst e, fun a a0 a1 => ?_⟩
    rw [← sigC_row h c p0 p1 a0 a1, ← sigC_row h c q0 q1 a0 a1, e]
  · rintro ⟨e1, e2⟩
    refine Prod.ext e1 (ix_ext (by omega) fun a a0 a1 => ?_)
    rw [sigC_row h c p0 p1 a0 (by omega), sigC_row h c q0 q1 a0 (by omega)]
    exact e2 a a0 (by omega)
def encK (k : Int × List Int) : Int × List UInt8 × Unit := (k.1, keyB k.2, ())
theorem encK_inj {k l : Int × List Int} (hk : ∀ x ∈ k.2, 0 ≤ x ∧ x < 65536) (hl : ∀ x ∈ l.2, 0 ≤ x ∧ x < 65536) (e : encK k = encK l) : k = l := by
  unfold encK at e
  injection e with e1 e2
  injection e2 with e2 e3
  exact Prod.ext e1 (keyB_inj hk hl e2)
/-- The program's reading of one state. -/
theorem det_Classes_row (h : DOk 3000 mb d) {c : List Int} (hc : ClsOk d c) {t : Nat} (ht : t < d.2.2.1.length) {number : List (Int × List UInt8 × Unit)} {number_1 next' : List Int} {r6} :
    det_Classes_L10 d c t number number_1 next' r6 0 [] = if mhas number (encK (sigC d c t)) = true then det_Classes_J17 c t next' r6 (keyL (sigC d c t).2) number number_1
      else det_Classes_J17 c t next' r6 (keyL (sigC d c t).2) (mputK number (encK (sigC d c t))) (mputV number number_1 (encK (sigC d c t)) (number.length : Int)) := by
  have hrl := h.tab.rowlen (q := (t : Int)) (by omega) (by omega)
  have hlt := h.let1
  have hcl := hc.len
  have key : ∀ (n : Nat) (a : Int), ((ix d.2.2.1 (t : Int)).length - a).toNat = n → 0 ≤ a → a ≤ (ix d.2.2.1 (t : Int)).length →
      det_Classes_L10 d c t number number_1 next' r6 a (keyL ((sigC d c t).2.take a.toNat)) = det_Classes_L10 d c t number number_1 next' r6 (ix d.2.2.1 (t : Int)).length (keyL (sigC d c t).2) := by
    intro n
    induction n with
    | zero =>
      intro a hn a0 a1
      obtain rfl : a = (ix d.2.2.1 (t : Int)).length := by omega
      rw [List.take_of_length_le (by unfold sigC; rw [List.length_map]; omega)]
    | succ n ih =>
      intro a hn a0 a1
      have hst := h.tab.stpb (q := (t : Int)) (a := a) (by omega) (by omega) a0 (by omega)
      unfold stp at hst
      rw [← ih (a + 1) (by omega) (by omega) (by omega)]
      conv => lhs; rw [det_Classes_L10_eq]; unfold det_Classes_L10_B
      have hk := keyL_len ((sigC d c t).2.take a.toNat)
      rw [List.length_take] at hk
      have hsl := sigC_len h c (q := (t : Int)) (by omega) (by omega)
      rw [if_pos (by simp; omega)]
      refine G_to (by omega) (G_to (by omega) (G_to (by omega) (G_to (by omega) (G_to (by omega) (G_to (by omega) (G_to (by unfold room; simp; omega) (G_to (by unfold fits; omega) ?_)))))))
      congr 1
      rw [ix_take a0 (by omega), sigC_row h c (q := (t : Int)) (by omega) (by omega) a0 (by omega)]
      unfold keyL
      rw [List.flatMap_append]; rfl
  refine (key _ 0 rfl (by omega) (by omega)).trans ?_
  rw [det_Classes_L10_eq]; unfold det_Classes_L10_B
  rw [if_neg (by simp)]
  refine G_to (by omega) (G_to (by omega) ?_)
  rw [show (ix c (t : Int), bstr (keyL (sigC d c t).2), ()) = encK (sigC d c t) from rfl]
  by_cases c1 : mhas number (encK (sigC d c t)) = true
  · rw [if_neg (by simp [c1]), if_pos c1]
  · rw [if_pos (by simpa using c1), if_neg c1]
theorem det_Classes_pass (h : DOk 3000 mb d) {c : List Int} (hc : ClsOk d c) {count : Int} {r3} : ∀ (n t : Nat) (next' : List Int), d.2.2.1.length - t = n → t ≤ d.2.2.1.length → next'.length = d.2.2.1.length → (∀ j : Int, 0 ≤ j → j < t → ix next' j = ix (rfC d c) j) →
    det_Classes_L6 d count c r3 t ((ksC d c t).map encK) (iota (ksC d c t).length) next' = if ((ksC d c d.2.2.1.length).length : Int) = count then some (rfC d c) else r3 ((ksC d c d.2.2.1.length).length : Int) (rfC d c) := by
  have hn := h.n1
  intro n
  induction n with
  | zero =>
    intro t next' hn2 ht hl hj
    obtain rfl : t = d.2.2.1.length := by omega
    have : next' = rfC d c := ix_ext (by rw [rfC_len]; exact hl) fun j j0 j1 => hj j j0 (by omega)
    rw [det_Classes_L6_eq]; unfold det_Classes_L6_B
    rw [if_neg (by simp), List.length_map, this]
    by_cases e : ((ksC d c d.2.2.1.length).length : Int) = count
    · rw [if_pos (decide_eq_true e), if_pos e]
    · rw [if_neg (by simpa using e), if_neg e]
  | succ n ih =>
    intro t next' hn2 ht hl hj
    rw [det_Classes_L6_eq]; unfold det_Classes_L6_B
    rw [if_pos (by simp; omega)]
    refine G_to (by omega) ?_
    rw [det_Classes_row h hc (by omega)]
    have inj : ∀ y ∈ ksC d c t, encK y = encK (sigC d c t) → y = sigC d c t := fun y hy e => by
      obtain ⟨q, hq, rfl⟩ := ksC_of c t y hy
      exact encK_inj (sigC_b h hc (by omega) (by omega)) (sigC_b h hc (by omega) (by omega)) e
    have hmem : encK (sigC d c t) ∈ (ksC d c t).map encK ↔ sigC d c t ∈ ksC d c t := by
      rw [List.mem_map]
      exact ⟨fun ⟨y, hy, e⟩ => inj y hy e ▸ hy, fun hy => ⟨_, hy, rfl⟩⟩
    have hat := idxC_at (d := d) c t (t + 1) (by omega)
    have inj' : ∀ y ∈ ksC d c (t + 1), encK y = encK (sigC d c t) → y = sigC d c t := fun y hy e => by
      obtain ⟨q, hq, rfl⟩ := ksC_of c (t + 1) y hy
      exact encK_inj (sigC_b h hc (by omega) (by omega)) (sigC_b h hc (by omega) (by omega)) e
    have hget : mget ((ksC d c (t + 1)).map encK) (iota (ksC d c (t + 1)).length) (encK (sigC d c t)) 0 = idxC d c t := by
      have h1 : mfind ((ksC d c (t + 1)).map encK) (encK (sigC d c t)) = some (idxC d c t) := by rw [mfind_map encK inj', hat]
      have := mget_iota h1
      rwa [List.length_map] at this
    have fin : det_Classes_J17 c t next' (det_Classes_L6 d count c r3) (keyL (sigC d c t).2) ((ksC d c (t + 1)).map encK) (iota (ksC d c (t + 1)).length) = if ((ksC d c d.2.2.1.length).length : Int) = count then some (rfC d c) else r3 ((ksC d c d.2.2.1.length).length : Int) (rfC d c) := by
      unfold det_Classes_J17
      refine G_to (by omega) (G_to (by omega) (G_to (by unfold fits; omega) ?_))
      rw [show (ix c (t : Int), bstr (keyL (sigC d c t).2), ()) = encK (sigC d c t) from rfl, hget]
      refine ih (t + 1) _ (by omega) (by omega) (by rw [List.length_set]; exact hl) (fun j j0 j1 => ?_)
      by_cases e : j = t
      · subst e
        rw [ix_set_same j0 (by omega), rfC_ix c j0 (by omega)]; simp
      · rw [ix_set_ne (by omega) j0 (Ne.symm e)]; exact hj j j0 (by omega)
    by_cases e : sigC d c t ∈ ksC d c t
    · rw [if_pos (mhas_iff.2 (hmem.2 e))]
      rw [ksC_succ, if_pos e] at fin
      exact fin
    · have hne := fun hh => e (hmem.1 hh)
      rw [if_neg (fun hh => hne (mhas_iff.1 hh)), mputK_new hne]
      have hv := mputV_iota hne
      rw [List.length_map] at hv
      rw [List.length_map, hv]
      rw [ksC_succ, if_neg e] at fin
      rw [List.map_append] at fin
      rw [List.length_append, List.length_map]
      rw [List.length_append] at fin
      exact fin
/-- The second one's: is it alike? -/
theorem r3_Classes_L14_spec (h : DOk 3000 mb d) {c : List Int} (hc : ClsOk d c) {n q : Int} {next' first : List Int} {r7 k r10} (q0 : 0 ≤ q) (q1 : q < d.2.2.1.length) (p0 : 0 ≤ ix first k) (p1 : ix first k < d.2.2.1.length) (hk : 0 ≤ k ∧ k ≤ 100000) : ∀ (f : Nat) (same : Bool) (a : Int), (d.1 - a).toNat = f → 0 ≤ a → a ≤ d.1 →
    (same = true ↔ ix c (ix first k) = ix c q ∧ ∀ b : Int, 0 ≤ b → b < a → ix c (ix (ix d.2.2.1 (ix first k)) b) = ix c (ix (ix d.2.2.1 q) b)) ∨ (same = false ∧ sigC d c (ix first k) ≠ sigC d c q) →
    r3_Classes_L14 d c n q next' first r7 k r10 same a = if sigC d c (ix first k) = sigC d c q then r3_Classes_J18 n q next' first r7 k else r10 (k + 1) := by
  have hlt := h.let1
  have hcl := hc.len
  have bad : ∀ a : Int, a ≤ d.1 → sigC d c (ix first k) ≠ sigC d c q → r3_Classes_L14 d c n q next' first r7 k r10 false a = if sigC d c (ix first k) = sigC d c q then r3_Classes_J18 n q next' first r7 k else r10 (k + 1) := fun a _ hne => by
    rw [if_neg hne, r3_Classes_L14_eq]; unfold r3_Classes_L14_B r3_Classes_J14
    simp only [Bool.false_eq_true, if_false, ite_self]
    exact G_to (by unfold fits; omega) rfl
  intro f
  induction f with
  | zero =>
    intro same a hf a0 a1 hs
    obtain rfl : a = d.1 := by omega
    rcases hs with hs | ⟨rfl, hs⟩
    · rw [← sigC_eq h c p0 p1 q0 q1] at hs
      cases same with
      | false => exact bad _ (by omega) (fun e => by have := hs.2 e; cases this)
      | true =>
        rw [if_pos (hs.1 rfl), r3_Classes_L14_eq]; unfold r3_Classes_L14_B r3_Classes_J14
        rw [if_neg (by simp), if_neg (by simp), if_pos rfl]
    · exact bad _ (by omega) hs
  | succ f ih =>
    intro same a hf a0 a1 hs
    rcases hs with hs | ⟨rfl, hs⟩
    · cases same with
      | false =>
        refine bad _ a1 (fun e => ?_)
        rw [sigC_eq h c p0 p1 q0 q1] at e
        have := hs.2 ⟨e.1, fun b b0 b1 => e.2 b b0 (by omega)⟩
        cases this
      | true =>
        have hp := h.tab.rowlen p0 p1
        have hq := h.tab.rowlen q0 q1
        have sp := h.tab.stpb p0 p1 a0 (by omega)
        have sq := h.tab.stpb q0 q1 a0 (by omega)
        unfold stp at sp sq
        rw [r3_Classes_L14_eq]; unfold r3_Classes_L14_B r3_Classes_J14 r3_Classes_J14_1
        rw [if_pos (by simp; omega), if_pos rfl]
        refine G_to (by omega) (G_to (by omega) (G_to (by omega) (G_to (by omega) (G_to (by omega) (G_to (by omega) (G_to (by omega) (G_to (by omega) (G_to (by unfold fits; omega) ?_))))))))
        refine ih _ (a + 1) (by omega) (by omega) (by omega) (.inl ?_)
        rw [decide_eq_true_iff]
        have hs' := hs.1 rfl
        constructor
        · intro e
          refine ⟨hs'.1, fun b b0 b1 => ?_⟩
          by_cases e2 : b = a
          · rw [e2]; exact e
          · exact hs'.2 b b0 (by omega)
        · intro e; exact e.2 a a0 (by omega)
    · exact bad _ a1 hs
theorem r3_Classes_search (h : DOk 3000 mb d) {c : List Int} (hc : ClsOk d c) {t : Nat} (ht : t < d.2.2.1.length) {next' first : List Int} {r7} (hl : next'.length = d.2.2.1.length) (hf : first.map (sigC d c) = ksC d c t) (hb : ∀ p : Int, p ∈ first → 0 ≤ p ∧ p < d.2.2.1.length) :
    ∃ first' : List Int, first'.map (sigC d c) = ksC d c (t + 1) ∧ (∀ p : Int, p ∈ first' → 0 ≤ p ∧ p < d.2.2.1.length) ∧ r3_Classes_L10 d c (first.length : Int) t next' first r7 0 = r7 (first'.length : Int) ((t : Int) + 1) (next'.set t (idxC d c t : Int)) first' := by
  have hn := h.n1
  have hfl : first.length = (ksC d c t).length := by rw [← hf, List.length_map]
  have hle := ksC_le (d := d) c t
  have hcl := hc.len
  have key : ∀ (f : Nat) (k : Int), (first.length - k).toNat = f → 0 ≤ k → k ≤ first.length → (∀ j : Int, 0 ≤ j → j < k → sigC d c (ix first j) ≠ sigC d c t) →
      ∃ first' : List Int, first'.map (sigC d c) = ksC d c (t + 1) ∧ (∀ p : Int, p ∈ first' → 0 ≤ p ∧ p < d.2.2.1.length) ∧ r3_Classes_L10 d c (first.length : Int) t next' first r7 k = r7 (first'.length : Int) ((t : Int) + 1) (next'.set t (idxC d c t : Int)) first' := by
    intro f
    induction f with
    | zero =>
      intro k hk k0 k1 hj
      obtain rfl : k = first.length := by omega
      have hnot : sigC d c t ∉ ksC d c t := fun hm => by
        rw [← hf] at hm
        obtain ⟨p, hp, e⟩ := List.mem_map.1 hm
        obtain ⟨j, j0, j1, rfl⟩ := (ex_ix (P := fun x => x = p)).1 ⟨p, hp, rfl⟩
        exact hj j j0 j1 e
      have hidx : idxC d c t = first.length := by
        have h1 := idxC_at (d := d) c t (t + 1) (by omega)
        rw [ksC_succ, if_neg hnot, mfind_new hnot] at h1
        rw [hfl]; exact (Option.some.inj h1).symm
      refine ⟨first ++ [(t : Int)], by rw [List.map_append, hf, ksC_succ, if_neg hnot]; rfl, fun p hp => (List.mem_append.1 hp).elim (hb p) (fun e => by rw [List.mem_singleton.1 e]; omega), ?_⟩
      rw [r3_Classes_L10_eq]; unfold r3_Classes_L10_B r3_Classes_J18 r3_Classes_J21
      rw [if_neg (by simp), if_pos (by simp), hidx]
      refine G_to (by unfold room; simp; omega) (G_to (by unfold fits; omega) (G_to (by omega) (G_to (by omega) (G_to (by unfold fits; omega) ?_))))
      rw [List.length_append, List.length_singleton]; rfl
    | succ f ih =>
      intro k hk k0 k1 hj
      have hp := hb _ (ix_mem k0 (by omega : k < first.length))
      rw [r3_Classes_L10_eq]; unfold r3_Classes_L10_B
      rw [if_pos (by simp; omega)]
      have hL := r3_Classes_L14_spec (n := (first.length : Int)) (next' := next') (first := first) (r7 := r7) (k := k) (r10 := r3_Classes_L10 d c (first.length : Int) t next' first r7) h hc (q := (t : Int)) (by omega) (by omega) hp.1 hp.2 (by omega) _ (decide (ix c (ix first k) = ix c (t : Int))) 0 rfl (by omega) (by have := h.let1; omega) (.inl (by
        rw [decide_eq_true_iff]
        exact ⟨fun e => ⟨e, fun b b0 b1 => by omega⟩, fun e => e.1⟩))
      have hG : ∀ x : Option (List Int), G (0 ≤ k ∧ k < (first.length : Int)) (G (k.toNat < first.length) (G (0 ≤ ix first k ∧ ix first k < (c.length : Int)) (G ((ix first k).toNat < c.length) (G (0 ≤ (t : Int) ∧ (t : Int) < (c.length : Int)) (G (((t : Int)).toNat < c.length) x))))) = x := fun x =>
        G_to (by omega) (G_to (by omega) (G_to (by omega) (G_to (by omega) (G_to (by omega) (G_to (by omega) rfl)))))
      rw [hG, hL]
      by_cases e : sigC d c (ix first k) = sigC d c t
      · rw [if_pos e]
        have hget : (ksC d c t)[k.toNat]? = some (sigC d c t) := by
          rw [← hf, List.getElem?_map, ix_some k0 (by omega), Option.map_some, e]
        have hin : sigC d c t ∈ ksC d c t := List.mem_of_getElem? hget
        have hidx : (idxC d c t : Int) = k := by
          have h1 := idxC_at (d := d) c t (t + 1) (by omega)
          rw [ksC_succ, if_pos hin, mfind_at hget (fun j hj2 e2 => by
            have h3 := hj (j : Int) (by omega) (by omega)
            rw [← hf, List.getElem?_map, ← Int.toNat_natCast j, ix_some (by omega) (by omega), Option.map_some] at e2
            exact h3 (Option.some.inj e2))] at h1
          have := Option.some.inj h1
          omega
        refine ⟨first, by rw [hf, ksC_succ, if_pos hin], hb, ?_⟩
        unfold r3_Classes_J18 r3_Classes_J21
        rw [if_neg (by simp; omega), hidx]
        exact G_to (by omega) (G_to (by omega) (G_to (by unfold fits; omega) rfl))
      · rw [if_neg e]
        refine ih (k + 1) (by omega) (by omega) (by omega) (fun j j0 j1 => ?_)
        by_cases e2 : j = k
        · rw [e2]; exact e
        · exact hj j j0 (by omega)
  exact key _ 0 rfl (by omega) (by omega) (fun j j0 j1 => by omega)
theorem r3_Classes_pass (h : DOk 3000 mb d) {c : List Int} (hc : ClsOk d c) {count : Int} {r3} : ∀ (n t : Nat) (next' first : List Int), d.2.2.1.length - t = n → t ≤ d.2.2.1.length → next'.length = d.2.2.1.length → (∀ j : Int, 0 ≤ j → j < t → ix next' j = ix (rfC d c) j) → first.map (sigC d c) = ksC d c t → (∀ p : Int, p ∈ first → 0 ≤ p ∧ p < d.2.2.1.length) →
    r3_Classes_L7 d count c r3 (first.length : Int) t next' first = if ((ksC d c d.2.2.1.length).length : Int) = count then some (rfC d c) else r3 ((ksC d c d.2.2.1.length).length : Int) (rfC d c) := by
  have hn := h.n1
  have hcl := hc.len
  intro n
  induction n with
  | zero =>
    intro t next' first hn2 ht hl hj hf hb
    obtain rfl : t = d.2.2.1.length := by omega
    have : next' = rfC d c := ix_ext (by rw [rfC_len]; exact hl) fun j j0 j1 => hj j j0 (by omega)
    have hfl : first.length = (ksC d c d.2.2.1.length).length := by rw [← hf, List.length_map]
    rw [r3_Classes_L7_eq]; unfold r3_Classes_L7_B
    rw [if_neg (by simp; omega), this, hfl]
    by_cases e : ((ksC d c d.2.2.1.length).length : Int) = count
    · rw [if_pos (decide_eq_true e), if_pos e]
    · rw [if_neg (by simpa using e), if_neg e]
  | succ n ih =>
    intro t next' first hn2 ht hl hj hf hb
    rw [r3_Classes_L7_eq]; unfold r3_Classes_L7_B
    rw [if_pos (by simp; omega)]
    obtain ⟨first', f1, f2, f3⟩ := r3_Classes_search (r7 := r3_Classes_L7 d count c r3) h hc (by omega : t < d.2.2.1.length) hl hf hb
    refine f3.trans ?_
    refine ih (t + 1) _ first' (by omega) (by omega) (by rw [List.length_set]; exact hl) (fun j j0 j1 => ?_) f1 f2
    by_cases e : j = t
    · subst e
      have := ix_set_same (l := next') (i := (t : Int)) (x := (idxC d c t : Int)) (by omega) (by omega)
      rw [Int.toNat_natCast] at this
      rw [this, rfC_ix c j0 (by omega), Int.toNat_natCast]
    · have := ix_set_ne (l := next') (i := (t : Int)) (j := j) (x := (idxC d c t : Int)) (by omega) j0 (Ne.symm e)
      rw [Int.toNat_natCast] at this
      rw [this]; exact hj j j0 (by omega)
end

section
variable {d : Dt}
abbrev badD (m : Int) : Prop := ¬ m = 0 ∧ ¬ m = 1
/-- The classes in the end. -/
structure FinC (d : Dt) (C : List Int) (K : Nat) : Prop where
  len : C.length = d.2.2.1.length
  le : K ≤ d.2.2.1.length
  b : ∀ q : Int, 0 ≤ q → q < d.2.2.1.length → 0 ≤ ix C q ∧ ix C q < K
  sur : ∀ v : Int, 0 ≤ v → v < K → ∃ q : Int, 0 ≤ q ∧ q < d.2.2.1.length ∧ ix C q = v
  mark : ∀ q r : Int, 0 ≤ q → q < d.2.2.1.length → 0 ≤ r → r < d.2.2.1.length → ix C q = ix C r → ix d.2.2.2.1 q = ix d.2.2.2.1 r
  stable : ∀ q r : Int, 0 ≤ q → q < d.2.2.1.length → 0 ≤ r → r < d.2.2.1.length → ix C q = ix C r → ∀ a : Int, 0 ≤ a → a < d.1 → ix C (ix (ix d.2.2.1 q) a) = ix C (ix (ix d.2.2.1 r) a)
theorem rfC_same {c : List Int} {q r : Int} (q0 : 0 ≤ q) (q1 : q < d.2.2.1.length) (r0 : 0 ≤ r) (r1 : r < d.2.2.1.length) : ix (rfC d c) q = ix (rfC d c) r ↔ sigC d c q = sigC d c r := by
  rw [rfC_ix c q0 q1, rfC_ix c r0 r1]
  have := idxC_iff (d := d) c (q := q.toNat) (r := r.toNat)
  rw [Int.toNat_of_nonneg q0, Int.toNat_of_nonneg r0] at this
  rw [← this]
  exact ⟨fun e => by exact_mod_cast e, fun e => by rw [e]⟩
theorem iota_mem {n : Nat} {v : Int} : v ∈ iota n ↔ 0 ≤ v ∧ v < n := by
  unfold iota
  rw [List.mem_map]
  constructor
  · rintro ⟨j, hj, rfl⟩; have := List.mem_range.1 hj; omega
  · rintro ⟨h0, h1⟩; exact ⟨v.toNat, List.mem_range.2 (by omega), by omega⟩
theorem iota_nodup (n : Nat) : (iota n).Nodup := by
  unfold iota
  refine List.Pairwise.map _ (fun a b (h : a ≠ b) => by omega) (List.nodup_range (n := n))
theorem classes_iter (h : DOk 3000 badD d) : ∀ (f k : Nat) (c : List Int), d.2.2.1.length - k = f → ClsOk d c →
    (∀ q r : Int, 0 ≤ q → q < d.2.2.1.length → 0 ≤ r → r < d.2.2.1.length → ix c q = ix c r → ix d.2.2.2.1 q = ix d.2.2.2.1 r) → (∀ v : Int, 0 ≤ v → v < k → ∃ q : Int, 0 ≤ q ∧ q < d.2.2.1.length ∧ ix c q = v) →
    ∃ C K, FinC d C K ∧ det_Classes_L3 d (k : Int) c = some C ∧ r3_Classes_L3 d (k : Int) c = some C := by
  have hn := h.n1
  intro f
  induction f using Nat.strongRecOn with
  | ind f ih =>
  intro k c hf hc hm hs
  have hcl := hc.len
  have hK := ksC_le (d := d) c d.2.2.1.length
  have hcov : ∀ x ∈ iota k, x ∈ (ksC d c d.2.2.1.length).map Prod.fst := fun x hx => by
    obtain ⟨x0, x1⟩ := iota_mem.1 hx
    obtain ⟨q, q0, q1, e⟩ := hs x x0 x1
    have := ksC_mem (d := d) c d.2.2.1.length q.toNat (by omega)
    rw [Int.toNat_of_nonneg q0] at this
    exact List.mem_map.2 ⟨_, this, e⟩
  have hge : k ≤ (ksC d c d.2.2.1.length).length := by
    have := pigeon (iota_nodup k) hcov
    rwa [iota_len, List.length_map] at this
  have hpos : 0 < (ksC d c d.2.2.1.length).length := List.length_pos_of_mem (ksC_mem (d := d) c d.2.2.1.length 0 (by omega))
  have eP : det_Classes_L3 d (k : Int) c = if ((ksC d c d.2.2.1.length).length : Int) = k then some (rfC d c) else det_Classes_L3 d ((ksC d c d.2.2.1.length).length : Int) (rfC d c) := by
    conv => lhs; rw [det_Classes_L3_eq]; unfold det_Classes_L3_B
    refine G_to (by unfold mkOK; omega) ?_
    exact det_Classes_pass h hc _ 0 _ rfl (by omega) (by simp; omega) (fun j j0 j1 => by omega)
  have eR : r3_Classes_L3 d (k : Int) c = if ((ksC d c d.2.2.1.length).length : Int) = k then some (rfC d c) else r3_Classes_L3 d ((ksC d c d.2.2.1.length).length : Int) (rfC d c) := by
    conv => lhs; rw [r3_Classes_L3_eq]; unfold r3_Classes_L3_B
    refine G_to (by unfold mkOK; omega) ?_
    exact r3_Classes_pass h hc _ 0 _ [] rfl (by omega) (by simp; omega) (fun j j0 j1 => by omega) rfl (fun p hp => by cases hp)
  have b' : ∀ q : Int, 0 ≤ q → q < d.2.2.1.length → 0 ≤ ix (rfC d c) q ∧ ix (rfC d c) q < (ksC d c d.2.2.1.length).length := fun q q0 q1 => by
    rw [rfC_ix c q0 q1]
    have := idxC_lt (d := d) c (q := q.toNat) (t := d.2.2.1.length) (by omega)
    omega
  have sur' : ∀ v : Int, 0 ≤ v → v < (ksC d c d.2.2.1.length).length → ∃ q : Int, 0 ≤ q ∧ q < d.2.2.1.length ∧ ix (rfC d c) q = v := fun v v0 v1 => by
    obtain ⟨q, hq, e⟩ := idxC_sur (d := d) c (t := d.2.2.1.length) (j := v.toNat) (by omega)
    refine ⟨q, by omega, by omega, ?_⟩
    rw [rfC_ix c (by omega) (by omega), Int.toNat_natCast, e]; omega
  have m' : ∀ q r : Int, 0 ≤ q → q < d.2.2.1.length → 0 ≤ r → r < d.2.2.1.length → ix (rfC d c) q = ix (rfC d c) r → ix d.2.2.2.1 q = ix d.2.2.2.1 r := fun q r q0 q1 r0 r1 e =>
    hm q r q0 q1 r0 r1 (congrArg Prod.fst ((rfC_same q0 q1 r0 r1).1 e))
  by_cases e : ((ksC d c d.2.2.1.length).length : Int) = k
  · rw [if_pos e] at eP eR
    refine ⟨rfC d c, _, ⟨rfC_len c, hK, b', sur', m', fun q r q0 q1 r0 r1 he a a0 a1 => ?_⟩, eP, eR⟩
    have hnd : ((ksC d c d.2.2.1.length).map Prod.fst).Nodup := cover_nodup (iota_nodup k) hcov (by rw [List.length_map, iota_len]; omega)
    have tot : ∀ x y : Int, 0 ≤ x → x < d.2.2.1.length → 0 ≤ y → y < d.2.2.1.length → ix c x = ix c y → ix (rfC d c) x = ix (rfC d c) y := fun x y x0 x1 y0 y1 exy => by
      rw [rfC_same x0 x1 y0 y1]
      have hx := ksC_mem (d := d) c d.2.2.1.length x.toNat (by omega)
      have hy := ksC_mem (d := d) c d.2.2.1.length y.toNat (by omega)
      rw [Int.toNat_of_nonneg x0] at hx
      rw [Int.toNat_of_nonneg y0] at hy
      obtain ⟨i, hi, ei⟩ := List.mem_iff_getElem.1 hx
      obtain ⟨j, hj, ej⟩ := List.mem_iff_getElem.1 hy
      have key : ∀ i j : Nat, (hi : i < (ksC d c d.2.2.1.length).length) → (hj : j < (ksC d c d.2.2.1.length).length) → i < j → (ksC d c d.2.2.1.length)[i].1 ≠ (ksC d c d.2.2.1.length)[j].1 := fun i j hi hj hlt hh => by
        have := List.pairwise_iff_getElem.1 hnd i j (by rw [List.length_map]; exact hi) (by rw [List.length_map]; exact hj) hlt
        rw [List.getElem_map, List.getElem_map] at this
        exact this hh
      have hfst : (ksC d c d.2.2.1.length)[i].1 = (ksC d c d.2.2.1.length)[j].1 := by rw [ei, ej]; exact exy
      have : i = j := by
        rcases Nat.lt_trichotomy i j with hlt | rfl | hlt
        · exact absurd hfst (key i j hi hj hlt)
        · rfl
        · exact absurd hfst.symm (key j i hj hi hlt)
      subst this
      rw [← ei, ej]
    have hsig := (sigC_eq h c q0 q1 r0 r1).1 ((rfC_same q0 q1 r0 r1).1 he)
    have sq := h.tab.stpb q0 q1 a0 a1
    have sr := h.tab.stpb r0 r1 a0 a1
    unfold stp at sq sr
    exact tot _ _ sq.1 sq.2 sr.1 sr.2 (hsig.2 a a0 a1)
  · rw [if_neg e] at eP eR
    rw [eP, eR]
    have hlt : k < (ksC d c d.2.2.1.length).length := by omega
    exact ih (d.2.2.1.length - (ksC d c d.2.2.1.length).length) (by omega) _ (rfC d c) rfl ⟨rfC_len c, fun q q0 q1 => by
      rw [rfC_len] at q1
      have := b' q q0 q1
      omega⟩ m' sur'
theorem classes_both (h : DOk 3000 badD d) : ∃ C K, FinC d C K ∧ det_Classes d = some C ∧ r3_Classes d = some C := by
  have hn := h.n1
  have hmk := h.mkl
  have hc : ClsOk d d.2.2.2.1 := ⟨by omega, fun q q0 q1 => by
    have := h.mok _ (ix_mem q0 q1)
    omega⟩
  obtain ⟨C, K, h1, h2, h3⟩ := classes_iter h _ 0 d.2.2.2.1 rfl hc (fun q r _ _ _ _ e => e) (fun v v0 v1 => by omega)
  refine ⟨C, K, h1, ?_, ?_⟩
  · unfold det_Classes
    exact bind_to (slices_Clone_spec (by omega)) h2
  · unfold r3_Classes
    exact G_to (by unfold room; simp; omega) h3
end

section
variable {d : Dt}
structure RowOk (d : Dt) (C Q : List Int) (i : Int) (row : List Int) : Prop where
  len : (row.length : Int) = d.1
  to : ∀ a : Int, 0 ≤ a → a < d.1 → 0 ≤ ix row a ∧ ix row a < Q.length ∧ ix C (ix Q (ix row a)) = ix C (ix (ix d.2.2.1 (ix Q i)) a)
structure QOk (d : Dt) (C Q : List Int) : Prop where
  b : ∀ q : Int, q ∈ Q → 0 ≤ q ∧ q < d.2.2.1.length
  nd : (Q.map (ix C)).Nodup
  z : 0 < Q.length ∧ ix Q 0 = d.2.1
structure PartOk (d : Dt) (C Q : List Int) (D2 : List (List Int)) (D3 : List Int) : Prop where
  q : QOk d C Q
  l2 : D2.length ≤ Q.length
  l3 : D3.length = D2.length
  row : ∀ i : Int, 0 ≤ i → i < D2.length → RowOk d C Q i (ix D2 i)
  mark : ∀ i : Int, 0 ≤ i → i < D2.length → ix D3 i = ix d.2.2.2.1 (ix Q i)
theorem QOk.le {C Q : List Int} {K : Nat} (hC : FinC d C K) (h : QOk d C Q) : Q.length ≤ K := by
  have := pigeon_int (n := K) h.nd (fun v hv => by
    obtain ⟨q, hq, rfl⟩ := List.mem_map.1 hv
    have := h.b q hq
    exact hC.b q this.1 this.2)
  rwa [List.length_map] at this
theorem RowOk.ext {C Q : List Int} {i : Int} {row : List Int} (h : RowOk d C Q i row) (i0 : 0 ≤ i) (i1 : i < Q.length) (x : List Int) : RowOk d C (Q ++ x) i row :=
  ⟨h.len, fun a a0 a1 => by
    obtain ⟨h1, h2, h3⟩ := h.to a a0 a1
    rw [ix_append_left h1 h2, ix_append_left i0 i1]
    exact ⟨h1, by rw [List.length_append]; omega, h3⟩⟩
/-- A least automaton, and of which states its states are. -/
structure LeastOk (d o : Dt) (C Q : List Int) (K : Nat) : Prop where
  fin : FinC d C K
  part : PartOk d C Q o.2.2.1 o.2.2.2.1
  all : o.2.2.1.length = Q.length
  let1 : o.1 = d.1
  st : o.2.1 = 0
/-- What numbers stand for classes. -/
def NumOk (d : Dt) (C Q NA : List Int) : Prop := NA.length = d.2.2.1.length ∧ ∀ v : Int, 0 ≤ v → v < d.2.2.1.length → ix NA v = match mfind (Q.map (ix C)) v with
  | some j => (j : Int)
  | none => -1
structure OfOk (d : Dt) (C l : List Int) (K : Nat) : Prop where
  len : l.length = d.2.2.1.length
  b : ∀ v : Int, 0 ≤ v → v < K → 0 ≤ ix l v ∧ ix l v < d.2.2.1.length ∧ ix C (ix l v) = v
theorem least_letters (h : DOk 3000 badD d) {C l Q0 : List Int} {K : Nat} (hC : FinC d C K) (hl : OfOk d C l K) {L0 : List Int} {D2 : List (List Int)} {D3 : List Int} {r4 r11} {i : Int} (hi : i = D2.length) (eL : ix L0 i = ix C (ix Q0 i)) :
    ∀ (f : Nat) (t : Int) (Q NA row : List Int), (d.1 - t).toNat = f → 0 ≤ t → t ≤ d.1 → PartOk d C Q D2 D3 → i < Q.length → ix Q i = ix Q0 i → NumOk d C Q NA → (row.length : Int) = d.1 →
      (∀ a : Int, 0 ≤ a → a < t → 0 ≤ ix row a ∧ ix row a < Q.length ∧ ix C (ix Q (ix row a)) = ix C (ix (ix d.2.2.1 (ix Q i)) a)) →
    ∃ x NA' row', PartOk d C (Q ++ x) (D2 ++ [row']) (D3 ++ [ix d.2.2.2.1 (ix Q i)]) ∧ NumOk d C (Q ++ x) NA' ∧
      det_Explore_1_L8 d.1 C d l d l ((C.length : Int) + 1) d.1 0 L0 D2 D3 r4 t (Q.map (ix C)) (iota (Q.map (ix C)).length) (Q.map (ix C)) row = r4 d.1 0 ((Q ++ x).map (ix C)) (iota ((Q ++ x).map (ix C)).length) ((Q ++ x).map (ix C)) (D2 ++ [row']) (D3 ++ [ix d.2.2.2.1 (ix Q i)]) ∧
      r3_Least_L15 d C i d.1 0 D2 D3 r11 t NA Q row = r11 (i + 1) NA' (Q ++ x) d.1 0 (D2 ++ [row']) (D3 ++ [ix d.2.2.2.1 (ix Q i)]) := by
  have hn := h.n1
  have hlt := h.let1
  have hmk := h.mkl
  have hcl := hC.len
  have hK := hC.le
  intro f
  induction f with
  | zero =>
    intro t Q NA row hf t0 t1 hP hiQ eQ hN hrl hrow
    obtain rfl : t = d.1 := by omega
    have hQK := hP.q.le hC
    have hq := hP.q.b _ (ix_mem (by omega) hiQ)
    have hv := hC.b _ hq.1 hq.2
    obtain ⟨o1, o2, o3⟩ := hl.b _ hv.1 hv.2
    have hl3 := hP.l3
    have hll := hl.len
    have hmark : ix d.2.2.2.1 (ix l (ix C (ix Q i))) = ix d.2.2.2.1 (ix Q i) := hC.mark _ _ o1 o2 hq.1 hq.2 o3
    refine ⟨[], NA, row, ⟨by simpa using hP.q, by rw [List.length_append, List.length_append, List.length_singleton]; omega, by rw [List.length_append, List.length_append, List.length_singleton, List.length_singleton]; omega, fun j j0 j1 => ?_, fun j j0 j1 => ?_⟩, by simpa using hN, ?_, ?_⟩
    · rw [List.length_append, List.length_singleton] at j1
      rw [List.append_nil]
      by_cases e : j < D2.length
      · rw [ix_append_left j0 e]; exact hP.row j j0 e
      · obtain rfl : j = D2.length := by omega
        rw [ix_append_last, ← hi]; exact ⟨hrl, hrow⟩
    · rw [List.length_append, List.length_singleton] at j1
      rw [List.append_nil]
      by_cases e : j < D2.length
      · rw [ix_append_left j0 (by omega)]; exact hP.mark j j0 e
      · have e1 : j = D3.length := by omega
        have e2 : j = i := by omega
        rw [e1, ix_append_last, ← e1, e2]
    · rw [det_Explore_1_L8_eq]; unfold det_Explore_1_L8_B det_Smallest_2
      rw [if_neg (by simp), ← hi, eL, ← eQ, List.append_nil]
      refine G_to (by unfold room; simp; have := hP.l2; omega) ?_
      refine bind_to (y := ix d.2.2.2.1 (ix Q i)) ?_ ?_
      · rw [← hmark]
        exact G_to (by omega) (G_to (by omega) rfl)
      · exact G_to (by unfold room; simp; have := hP.l2; omega) rfl
    · rw [r3_Least_L15_eq]; unfold r3_Least_L15_B
      rw [if_neg (by simp), List.append_nil]
      exact G_to (by unfold room; simp; have := hP.l2; omega) (G_to (by omega) (G_to (by omega) (G_to (by omega) (G_to (by unfold room; simp; have := hP.l2; omega) (G_to (by unfold fits; omega) rfl)))))
  | succ f ih =>
    intro t Q NA row hf t0 t1 hP hiQ eQ hN hrl hrow
    have hQK := hP.q.le hC
    have hq := hP.q.b _ (ix_mem (by omega) hiQ)
    have hv := hC.b _ hq.1 hq.2
    obtain ⟨o1, o2, o3⟩ := hl.b _ hv.1 hv.2
    have hll := hl.len
    have hr1 := h.tab.rowlen hq.1 hq.2
    have hr2 := h.tab.rowlen o1 o2
    have hx := h.tab.stpb hq.1 hq.2 t0 (by omega)
    have hy := h.tab.stpb o1 o2 t0 (by omega)
    unfold stp at hx hy
    have hst := hC.stable _ _ o1 o2 hq.1 hq.2 o3 t t0 (by omega)
    have hw := hC.b _ hx.1 hx.2
    have hNx := hN.2 _ hw.1 (by omega : _ < (d.2.2.1.length : Int))
    have hNl := hN.1
    -- the next state and its class
    obtain ⟨x, hxd⟩ : ∃ x, x = ix (ix d.2.2.1 (ix Q i)) t := ⟨_, rfl⟩
    rw [← hxd] at hx hst hw hNx
    have s1 : det_Smallest_1 (ix L0 (D2.length : Int)) t C d l = some (ix C x) := by
      unfold det_Smallest_1
      rw [← hi, eL, ← eQ, ← hst]
      exact G_to (by omega) (G_to (by omega) (G_to (by omega) (G_to (by omega) rfl)))
    have hP1 : det_Explore_1_L8 d.1 C d l d l ((C.length : Int) + 1) d.1 0 L0 D2 D3 r4 t (Q.map (ix C)) (iota (Q.map (ix C)).length) (Q.map (ix C)) row =
        if ix C x ∈ Q.map (ix C) then det_Explore_1_L8 d.1 C d l d l ((C.length : Int) + 1) d.1 0 L0 D2 D3 r4 (t + 1) (Q.map (ix C)) (iota (Q.map (ix C)).length) (Q.map (ix C)) (row.set t.toNat (mget (Q.map (ix C)) (iota (Q.map (ix C)).length) (ix C x) 0))
        else det_Explore_1_L8 d.1 C d l d l ((C.length : Int) + 1) d.1 0 L0 D2 D3 r4 (t + 1) ((Q ++ [x]).map (ix C)) (iota ((Q ++ [x]).map (ix C)).length) ((Q ++ [x]).map (ix C)) (row.set t.toNat (Q.length : Int)) := by
      conv => lhs; rw [det_Explore_1_L8_eq]; unfold det_Explore_1_L8_B
      rw [if_pos (by simp; omega)]
      refine bind_to s1 ?_
      unfold det_Explore_1_J17
      by_cases c : ix C x ∈ Q.map (ix C)
      · rw [if_neg (by rw [mhas_iff.2 c]; simp), if_pos c]
        exact G_to (by omega) (G_to (by omega) (G_to (by unfold fits; omega) rfl))
      · have hh : mhas (Q.map (ix C)) (ix C x) = false := by
          cases e : mhas (Q.map (ix C)) (ix C x) with
          | false => rfl
          | true => exact absurd (mhas_iff.1 e) c
        rw [if_pos (by rw [hh]; rfl), if_neg c, if_neg (by rw [decide_eq_true_iff, List.length_map]; omega), mputK_new c, mputV_iota c, List.map_append, List.map_singleton, List.length_map]
        exact G_to (by unfold room; simp; omega) (G_to (by omega) (G_to (by omega) (G_to (by unfold fits; omega) rfl)))
    have hR1 : r3_Least_L15 d C i d.1 0 D2 D3 r11 t NA Q row =
        if ix NA (ix C x) < 0 then r3_Least_L15 d C i d.1 0 D2 D3 r11 (t + 1) (NA.set (ix C x).toNat (Q.length : Int)) (Q ++ [x]) (row.set t.toNat (Q.length : Int))
        else r3_Least_L15 d C i d.1 0 D2 D3 r11 (t + 1) NA Q (row.set t.toNat (ix NA (ix C x))) := by
      conv => lhs; rw [r3_Least_L15_eq]; unfold r3_Least_L15_B
      rw [if_pos (by simp; omega), ← hxd]
      refine G_to (by omega) (G_to (by omega) (G_to (by omega) (G_to (by omega) (G_to (by omega) (G_to (by omega) (G_to (by omega) (G_to (by omega) ?_)))))))
      unfold r3_Least_J20
      by_cases c : ix NA (ix C x) < 0
      · rw [if_pos (decide_eq_true c), if_pos c]
        refine G_to (by omega) (G_to (by omega) (G_to (by omega) (G_to (by omega) (G_to (by unfold room; simp; omega) ?_))))
        rw [← hxd, ix_set_same hw.1 (by omega)]
        exact G_to (by omega) (G_to (by omega) (G_to (by rw [List.length_set]; omega) (G_to (by rw [List.length_set]; omega) (G_to (by omega) (G_to (by omega) (G_to (by unfold fits; omega) rfl))))))
      · rw [if_neg (by simpa using c), if_neg c, ← hxd]
        exact G_to (by omega) (G_to (by omega) (G_to (by omega) (G_to (by omega) (G_to (by omega) (G_to (by omega) (G_to (by unfold fits; omega) rfl))))))
    rw [hP1, hR1]
    have rowstep : ∀ (Q' : List Int) (v : Int), (∀ j : Int, 0 ≤ j → j < Q.length → ix Q' j = ix Q j) → Q.length ≤ Q'.length → 0 ≤ v → v < Q'.length → ix C (ix Q' v) = ix C x →
        ∀ a : Int, 0 ≤ a → a < t + 1 → 0 ≤ ix (row.set t.toNat v) a ∧ ix (row.set t.toNat v) a < Q'.length ∧ ix C (ix Q' (ix (row.set t.toNat v) a)) = ix C (ix (ix d.2.2.1 (ix Q' i)) a) := fun Q' v hQ' hle v0 v1 hv' a a0 a1 => by
      by_cases e : a = t
      · subst e
        rw [ix_set_same a0 (by omega), hQ' i (by omega) hiQ, ← hxd]; exact ⟨v0, v1, hv'⟩
      · obtain ⟨h1, h2, h3⟩ := hrow a a0 (by omega)
        rw [ix_set_ne t0 a0 (Ne.symm e), hQ' _ h1 h2, hQ' i (by omega) hiQ]
        exact ⟨h1, by omega, h3⟩
    by_cases c : ix C x ∈ Q.map (ix C)
    · obtain ⟨j, hj⟩ := mfind_mem c
      have hjl := mfind_lt hj
      rw [List.length_map] at hjl
      have hjx : ix C (ix Q j) = ix C x := by
        have := mfind_get hj
        rw [List.getElem?_map, List.getElem?_eq_getElem hjl, Option.map_some] at this
        have e2 : ix Q (j : Int) = Q[j] := by rw [ix_eq (l := Q) (by omega) (by omega)]; simp
        rw [e2]
        exact Option.some.inj this
      rw [hj] at hNx
      have hNx : ix NA (ix C x) = (j : Int) := hNx
      rw [if_pos c, if_neg (by omega), mget_iota hj, hNx]
      exact ih (t + 1) Q NA _ (by omega) (by omega) (by omega) hP hiQ eQ hN (by rw [List.length_set]; exact hrl) (rowstep Q j (fun _ _ _ => rfl) (Nat.le_refl _) (by omega) (by omega) hjx)
    · rw [mfind_none.2 c] at hNx
      have hNx : ix NA (ix C x) = -1 := hNx
      rw [if_neg c, if_pos (by omega)]
      have hQ' : ∀ j : Int, 0 ≤ j → j < Q.length → ix (Q ++ [x]) j = ix Q j := fun j j0 j1 => ix_append_left j0 j1
      have hP' : PartOk d C (Q ++ [x]) D2 D3 := by
        refine ⟨⟨fun q hq => (List.mem_append.1 hq).elim (hP.q.b q) (fun e => by rw [List.mem_singleton.1 e]; exact hx), ?_, ?_⟩, by rw [List.length_append]; have := hP.l2; omega, hP.l3, fun j j0 j1 => ?_, fun j j0 j1 => ?_⟩
        · rw [List.map_append, List.nodup_append]
          exact ⟨hP.q.nd, by simp, fun u hu w hw => by rw [List.map_singleton, List.mem_singleton] at hw; rw [hw]; rintro rfl; exact c hu⟩
        · have := hP.q.z
          exact ⟨by simp, by rw [hQ' 0 (by omega) (by omega)]; exact this.2⟩
        · exact (hP.row j j0 j1).ext j0 (by have := hP.l2; omega) _
        · rw [hQ' j j0 (by have := hP.l2; omega)]; exact hP.mark j j0 j1
      have hN' : NumOk d C (Q ++ [x]) (NA.set (ix C x).toNat (Q.length : Int)) := by
        refine ⟨by rw [List.length_set]; exact hN.1, fun v v0 v1 => ?_⟩
        rw [List.map_append, List.map_singleton]
        by_cases e : v = ix C x
        · subst e
          rw [ix_set_same v0 (by omega), mfind_new c]
          simp
        · rw [ix_set_ne hw.1 v0 (Ne.symm e), hN.2 v v0 v1]
          cases hm : mfind (Q.map (ix C)) v with
          | some j => rw [mfind_app _ hm]
          | none =>
            rw [mfind_none.2 (fun hh => by
              rcases List.mem_append.1 hh with hh | hh
              · exact mfind_none.1 hm hh
              · exact e (List.mem_singleton.1 hh))]
      obtain ⟨y, NA', row', z1, z2, z3, z4⟩ := ih (t + 1) (Q ++ [x]) _ (row.set t.toNat (Q.length : Int)) (by omega) (by omega) (by omega) hP' (by rw [List.length_append]; omega) (by rw [hQ' i (by omega) hiQ]; exact eQ) hN' (by rw [List.length_set]; exact hrl)
        (rowstep (Q ++ [x]) (Q.length : Int) hQ' (by rw [List.length_append]; omega) (by omega) (by rw [List.length_append, List.length_singleton]; omega) (by rw [ix_append_last]))
      rw [hQ' i (by omega) hiQ] at z1 z3 z4
      rw [List.append_assoc] at z1 z2 z3 z4
      exact ⟨_, NA', row', z1, z2, z3, z4⟩
theorem least_main (h : DOk 3000 badD d) {C l : List Int} {K : Nat} (hC : FinC d C K) (hl : OfOk d C l K) : ∀ (f : Nat) (Q NA : List Int) (D2 : List (List Int)) (D3 : List Int), 3000 - D2.length = f → PartOk d C Q D2 D3 → NumOk d C Q NA →
    ∃ o Q', LeastOk d o C Q' K ∧ det_Explore_1_L4 d.1 C d l d l ((C.length : Int) + 1) d.1 0 (Q.map (ix C)) (iota (Q.map (ix C)).length) (Q.map (ix C)) D2 D3 = some (o, true) ∧ r3_Least_L11 d C (D2.length : Int) NA Q d.1 0 D2 D3 = some o := by
  have hn := h.n1
  have hlt := h.let1
  intro f
  induction f using Nat.strongRecOn with
  | ind f ih =>
  intro Q NA D2 D3 hf hP hN
  have hQK := hP.q.le hC
  have hK := hC.le
  rw [det_Explore_1_L4_eq, r3_Least_L11_eq]; unfold det_Explore_1_L4_B r3_Least_L11_B
  by_cases e : D2.length < Q.length
  · have e1 : ix (Q.map (ix C)) (D2.length : Int) = ix C (ix Q (D2.length : Int)) := ix_map _ (by omega) (by omega)
    obtain ⟨x, NA', row', z1, z2, z3, z4⟩ := least_letters (r4 := det_Explore_1_L4 d.1 C d l d l ((C.length : Int) + 1)) (r11 := r3_Least_L11 d C) h hC hl (L0 := Q.map (ix C)) (Q0 := Q) (D2 := D2) (D3 := D3) rfl e1 _ 0 Q NA (List.replicate d.1.toNat 0) rfl (by omega) (by omega) hP (by omega) rfl hN (by rw [List.length_replicate]; omega) (fun a a0 a1 => by omega)
    obtain ⟨o, Q', w1, w2, w3⟩ := ih (3000 - (D2 ++ [row']).length) (by rw [List.length_append, List.length_singleton]; have := z1.q.le hC; have := z1.l2; rw [List.length_append, List.length_singleton] at this; omega) (Q ++ x) NA' (D2 ++ [row']) _ rfl z1 z2
    refine ⟨o, Q', w1, ?_, ?_⟩
    · rw [if_pos (by simp; omega)]
      exact G_to (by rw [List.length_map]; omega) (G_to (by rw [List.length_map]; omega) (G_to (by unfold mkOK; omega) (z3.trans w2)))
    · rw [if_pos (by simp; omega)]
      refine G_to (by unfold mkOK; omega) (z4.trans ?_)
      rw [List.length_append, List.length_singleton] at w3
      exact w3
  · refine ⟨(d.1, 0, D2, D3, ()), Q, ⟨hC, hP, by have := hP.l2; show D2.length = Q.length; omega, rfl, rfl⟩, ?_, ?_⟩
    · rw [if_neg (by rw [decide_eq_true_iff, List.length_map]; omega)]
    · rw [if_neg (by simp; omega)]
theorem Smallest_of (h : DOk 3000 badD d) {C : List Int} {K : Nat} (hC : FinC d C K) : ∃ l, OfOk d C l K ∧ det_Smallest_L4 d C 0 (List.replicate C.length 0) = det_Smallest_L4 d C (C.length : Int) l := by
  have hn := h.n1
  have hcl := hC.len
  have hK := hC.le
  have key : ∀ (f : Nat) (t : Int) (l : List Int), (C.length - t).toNat = f → 0 ≤ t → t ≤ C.length → l.length = C.length → (∀ v : Int, 0 ≤ v → v < K → (∃ q : Int, 0 ≤ q ∧ q < t ∧ ix C q = v) → 0 ≤ ix l v ∧ ix l v < d.2.2.1.length ∧ ix C (ix l v) = v) →
      ∃ l', OfOk d C l' K ∧ det_Smallest_L4 d C t l = det_Smallest_L4 d C (C.length : Int) l' := by
    intro f
    induction f with
    | zero =>
      intro t l hf t0 t1 hll hv
      obtain rfl : t = C.length := by omega
      exact ⟨l, ⟨by omega, fun v v0 v1 => by
        obtain ⟨q, q0, q1, e⟩ := hC.sur v v0 v1
        exact hv v v0 v1 ⟨q, q0, by omega, e⟩⟩, rfl⟩
    | succ f ih =>
      intro t l hf t0 t1 hll hv
      have hb := hC.b t t0 (by omega)
      obtain ⟨l', h1, h2⟩ := ih (t + 1) (l.set (ix C t).toNat t) (by omega) (by omega) (by omega) (by rw [List.length_set]; exact hll) (fun v v0 v1 ⟨q, q0, q1, e⟩ => by
        by_cases e2 : v = ix C t
        · subst e2
          rw [ix_set_same v0 (by omega)]; exact ⟨t0, by omega, rfl⟩
        · rw [ix_set_ne hb.1 v0 (Ne.symm e2)]
          refine hv v v0 v1 ⟨q, q0, ?_, e⟩
          by_cases e3 : q = t
          · subst e3; exact absurd e.symm e2
          · omega)
      refine ⟨l', h1, ?_⟩
      rw [← h2]
      conv => lhs; rw [det_Smallest_L4_eq]; unfold det_Smallest_L4_B
      rw [if_pos (by simp; omega)]
      exact G_to (by omega) (G_to (by omega) (G_to (by omega) (G_to (by omega) (G_to (by unfold fits; omega) rfl))))
  exact key _ 0 _ rfl (by omega) (by omega) (by rw [List.length_replicate]) (fun v v0 v1 ⟨q, q0, q1, _⟩ => by omega)
theorem Least_num (h : DOk 3000 badD d) {C : List Int} {K : Nat} (hC : FinC d C K) : r3_Least_L4 d C 0 (List.replicate C.length 0) = r3_Least_L4 d C (C.length : Int) (List.replicate C.length (-1)) := by
  have hn := h.n1
  have hcl := hC.len
  have key : ∀ (f : Nat) (t : Int) (l : List Int), (C.length - t).toNat = f → 0 ≤ t → t ≤ C.length → l.length = C.length → (∀ v : Int, 0 ≤ v → v < t → ix l v = -1) → r3_Least_L4 d C t l = r3_Least_L4 d C (C.length : Int) (List.replicate C.length (-1)) := by
    intro f
    induction f with
    | zero =>
      intro t l hf t0 t1 hll hv
      obtain rfl : t = C.length := by omega
      rw [show l = List.replicate C.length (-1) from ix_ext (by rw [List.length_replicate]; exact hll) fun j j0 j1 => by rw [ix_replicate j0 (by omega), hv j j0 (by omega)]]
    | succ f ih =>
      intro t l hf t0 t1 hll hv
      rw [← ih (t + 1) (l.set t.toNat (-1)) (by omega) (by omega) (by omega) (by rw [List.length_set]; exact hll) (fun v v0 v1 => by
        by_cases e2 : v = t
        · subst e2; rw [ix_set_same v0 (by omega)]
        · rw [ix_set_ne t0 v0 (Ne.symm e2)]; exact hv v v0 (by omega))]
      conv => lhs; rw [r3_Least_L4_eq]; unfold r3_Least_L4_B
      rw [if_pos (by simp; omega)]
      exact G_to (by omega) (G_to (by omega) (G_to (by unfold fits; omega) rfl))
  exact key _ 0 _ rfl (by omega) (by omega) (by rw [List.length_replicate]) (fun v v0 v1 => by omega)
/-- The program's least automaton and the document's are one. -/
theorem least_both (h : DOk 3000 badD d) : ∃ o C Q K, LeastOk d o C Q K ∧ det_Smallest d = some o ∧ r3_Least d = some o := by
  have hn := h.n1
  obtain ⟨C, K, hC, c1, c2⟩ := classes_both h
  obtain ⟨l, hl, l1⟩ := Smallest_of h hC
  have hs := h.st
  have hcl := hC.len
  have hb := hC.b _ hs.1 hs.2
  have hK := hC.le
  have hP : PartOk d C [d.2.1] [] [] := ⟨⟨fun q hq => by rw [List.mem_singleton.1 hq]; exact hs, by simp, by simp, rfl⟩, by simp, rfl, fun i i0 i1 => by simp at i1; omega, fun i i0 i1 => by simp at i1; omega⟩
  have hN : NumOk d C [d.2.1] ((List.replicate C.length (-1 : Int)).set (ix C d.2.1).toNat 0) := by
    refine ⟨by rw [List.length_set, List.length_replicate]; exact hcl, fun v v0 v1 => ?_⟩
    rw [List.map_singleton]
    by_cases e : v = ix C d.2.1
    · subst e
      rw [ix_set_same v0 (by rw [List.length_replicate]; omega), mfind_hd]; rfl
    · rw [ix_set_ne hb.1 v0 (Ne.symm e), ix_replicate v0 (by omega), mfind_none.2 (by simpa using e)]
  obtain ⟨o, Q, w1, w2, w3⟩ := least_main h hC hl _ [d.2.1] _ [] [] rfl hP hN
  have ed : (d.1, d.2.1, d.2.2.1, d.2.2.2.1, ()) = d := rfl
  refine ⟨o, C, Q, K, w1, ?_, ?_⟩
  · unfold det_Smallest
    rw [ed]
    refine bind_to c1 ?_
    refine G_to (by unfold mkOK; omega) ?_
    rw [Int.toNat_natCast, l1, det_Smallest_L4_eq]; unfold det_Smallest_L4_B
    rw [if_neg (by simp)]
    refine G_to (by omega) (G_to (by omega) (G_to (by unfold fits; omega) ?_))
    have hE : det_Explore_1 d.1 (ix C d.2.1) C d l d l ((C.length : Int) + 1) = some (o, true) := w2
    refine both_to ?_ ?_
    · rw [ed]
      exact bind_to hE rfl
    · rw [ed]
      exact bind_to hE rfl
  · unfold r3_Least
    rw [ed]
    refine bind_to c2 ?_
    refine G_to (by unfold mkOK; omega) ?_
    rw [Int.toNat_natCast, Least_num h hC, r3_Least_L4_eq]; unfold r3_Least_L4_B
    rw [if_neg (by simp)]
    exact G_to (by omega) (G_to (by omega) (G_to (by rw [List.length_replicate]; omega) (G_to (by rw [List.length_replicate]; omega) w3)))
end

/-- Going by keys: the keys met, and a row, after so many letters. -/
noncomputable def xRow (nx : Int → Int → Int) (s : Int) (l : List Int) : Nat → List Int × List Int
  | 0 => (l, [])
  | t + 1 => match mfind (xRow nx s l t).1 (nx s (t : Int)) with
    | some j => ((xRow nx s l t).1, (xRow nx s l t).2 ++ [(j : Int)])
    | none => ((xRow nx s l t).1 ++ [nx s (t : Int)], (xRow nx s l t).2 ++ [((xRow nx s l t).1.length : Int)])
/-- .. after so many keys. -/
noncomputable def xSt (nx : Int → Int → Int) (mk : Int → Int) (L : Nat) (first : Int) : Nat → List Int × List (List Int) × List Int
  | 0 => ([first], [], [])
  | i + 1 => ((xRow nx (ix (xSt nx mk L first i).1 (i : Int)) (xSt nx mk L first i).1 L).1, (xSt nx mk L first i).2.1 ++ [(xRow nx (ix (xSt nx mk L first i).1 (i : Int)) (xSt nx mk L first i).1 L).2], (xSt nx mk L first i).2.2 ++ [mk (ix (xSt nx mk L first i).1 (i : Int))])
theorem xRow_some {nx : Int → Int → Int} {s : Int} {l : List Int} {t j : Nat} (h : mfind (xRow nx s l t).1 (nx s (t : Int)) = some j) : xRow nx s l (t + 1) = ((xRow nx s l t).1, (xRow nx s l t).2 ++ [(j : Int)]) := by
  rw [xRow, h]
theorem xRow_none {nx : Int → Int → Int} {s : Int} {l : List Int} {t : Nat} (h : mfind (xRow nx s l t).1 (nx s (t : Int)) = none) : xRow nx s l (t + 1) = ((xRow nx s l t).1 ++ [nx s (t : Int)], (xRow nx s l t).2 ++ [((xRow nx s l t).1.length : Int)]) := by
  rw [xRow, h]
section
variable {nx : Int → Int → Int} {mk : Int → Int} {L : Nat} {first : Int} {B : Nat} {P : Int → Prop}
/-- Keys are small numbers of a kind. -/
structure XOk (nx : Int → Int → Int) (mk : Int → Int) (L : Nat) (first : Int) (B : Nat) (P : Int → Prop) : Prop where
  b : ∀ s, P s → 0 ≤ s ∧ s < B
  f : P first
  n : ∀ s, P s → ∀ t : Int, 0 ≤ t → t < L → P (nx s t)
  m : ∀ s, P s → mk s = 0 ∨ mk s = 1
structure LiOk (B : Nat) (P : Int → Prop) (l : List Int) : Prop where
  nd : l.Nodup
  p : ∀ x ∈ l, P x
theorem LiOk.len (h : XOk nx mk L first B P) {l : List Int} (k : LiOk B P l) : l.length ≤ B := pigeon_int k.nd (fun x hx => h.b x (k.p x hx))
structure XR (nx : Int → Int → Int) (s : Int) (l : List Int) (t : Nat) (r : List Int × List Int) : Prop where
  pre : ∃ x, r.1 = l ++ x
  len : r.2.length = t
  to : ∀ a : Int, 0 ≤ a → a < t → 0 ≤ ix r.2 a ∧ ix r.2 a < r.1.length ∧ ix r.1 (ix r.2 a) = nx s a
theorem mfind_ix {l : List Int} {x : Int} {j : Nat} (h : mfind l x = some j) : (j : Int) < l.length ∧ ix l (j : Int) = x := by
  have h1 := mfind_lt h
  have h2 := mfind_get h
  refine ⟨by omega, ?_⟩
  rw [List.getElem?_eq_getElem h1] at h2
  rw [ix_eq (l := l) (by omega) (by omega)]
  simpa using h2
theorem xRow_ok (h : XOk nx mk L first B P) {s : Int} (hs : P s) {l : List Int} (hl : LiOk B P l) : ∀ t : Nat, t ≤ L → LiOk B P (xRow nx s l t).1 ∧ XR nx s l t (xRow nx s l t)
  | 0, _ => ⟨hl, ⟨[], by simp [xRow]⟩, rfl, fun a a0 a1 => by omega⟩
  | t + 1, ht => by
    obtain ⟨h1, ⟨⟨x, hx⟩, h2, h3⟩⟩ := xRow_ok h hs hl t (by omega)
    have hp := h.n s hs (t : Int) (by omega) (by omega)
    unfold xRow
    cases e : mfind (xRow nx s l t).1 (nx s (t : Int)) with
    | some j =>
      obtain ⟨j1, j2⟩ := mfind_ix e
      refine ⟨h1, ⟨⟨x, hx⟩, by simp [h2], fun a a0 a1 => ?_⟩⟩
      show 0 ≤ ix ((xRow nx s l t).2 ++ [(j : Int)]) a ∧ _
      by_cases c : a < t
      · rw [ix_append_left a0 (by omega)]; exact h3 a a0 c
      · obtain rfl : a = ((xRow nx s l t).2.length : Int) := by omega
        rw [ix_append_last]
        refine ⟨by omega, j1, ?_⟩
        show ix (xRow nx s l t).1 (j : Int) = _
        rw [j2, h2]
    | none =>
      have hn := mfind_none.1 e
      refine ⟨⟨?_, fun y hy => (List.mem_append.1 hy).elim (h1.p y) (fun e2 => by rw [List.mem_singleton.1 e2]; exact hp)⟩, ⟨⟨x ++ [nx s (t : Int)], by show (xRow nx s l t).1 ++ _ = _; rw [hx, List.append_assoc]⟩, by simp [h2], fun a a0 a1 => ?_⟩⟩
      · show ((xRow nx s l t).1 ++ [nx s (t : Int)]).Nodup
        rw [List.nodup_append]
        exact ⟨h1.nd, by simp, fun u hu v hv => by rw [List.mem_singleton.1 hv]; rintro rfl; exact hn hu⟩
      · show 0 ≤ ix ((xRow nx s l t).2 ++ [((xRow nx s l t).1.length : Int)]) a ∧ ix ((xRow nx s l t).2 ++ [((xRow nx s l t).1.length : Int)]) a < (((xRow nx s l t).1 ++ [nx s (t : Int)]).length : Int) ∧ ix ((xRow nx s l t).1 ++ [nx s (t : Int)]) (ix ((xRow nx s l t).2 ++ [((xRow nx s l t).1.length : Int)]) a) = nx s a
        rw [List.length_append, List.length_singleton]
        by_cases c : a < t
        · obtain ⟨g1, g2, g3⟩ := h3 a a0 c
          rw [ix_append_left a0 (by omega), ix_append_left g1 g2]
          exact ⟨g1, by omega, g3⟩
        · obtain rfl : a = ((xRow nx s l t).2.length : Int) := by omega
          rw [ix_append_last, ix_append_last, h2]
          exact ⟨by omega, by omega, rfl⟩
structure XS (nx : Int → Int → Int) (mk : Int → Int) (L : Nat) (first : Int) (i : Nat) (x : List Int × List (List Int) × List Int) : Prop where
  z : ix x.1 0 = first
  r : x.2.1.length = i
  m : x.2.2.length = i
  row : ∀ k : Int, 0 ≤ k → k < i → (ix x.2.1 k).length = L ∧ ∀ a : Int, 0 ≤ a → a < L → 0 ≤ ix (ix x.2.1 k) a ∧ ix (ix x.2.1 k) a < x.1.length ∧ ix x.1 (ix (ix x.2.1 k) a) = nx (ix x.1 k) a
  mark : ∀ k : Int, 0 ≤ k → k < i → ix x.2.2 k = mk (ix x.1 k)
/-- It goes on until i. -/
def XGo (nx : Int → Int → Int) (mk : Int → Int) (L : Nat) (first : Int) (i : Nat) : Prop := ∀ k < i, k < (xSt nx mk L first k).1.length
theorem xSt_ok (h : XOk nx mk L first B P) : ∀ i : Nat, XGo nx mk L first i → LiOk B P (xSt nx mk L first i).1 ∧ i ≤ (xSt nx mk L first i).1.length ∧ XS nx mk L first i (xSt nx mk L first i)
  | 0, _ => ⟨⟨by simp [xSt], fun x hx => by
      have : x = first := by simpa [xSt] using hx
      rw [this]; exact h.f⟩, by omega, rfl, rfl, rfl, fun k k0 k1 => by omega, fun k k0 k1 => by omega⟩
  | i + 1, hg => by
    obtain ⟨h1, h2, h3⟩ := xSt_ok h i (fun k hk => hg k (by omega))
    have hi := hg i (by omega)
    have hP := h1.p _ (ix_mem (by omega) (by omega : (i : Int) < (xSt nx mk L first i).1.length))
    obtain ⟨g1, ⟨⟨x, hx⟩, g2, g3⟩⟩ := xRow_ok h hP h1 L (Nat.le_refl _)
    unfold xSt
    generalize hX : xSt nx mk L first i = X at *
    generalize hR : xRow nx (ix X.1 (i : Int)) X.1 L = R at *
    have pre : ∀ k : Int, 0 ≤ k → k < X.1.length → ix R.1 k = ix X.1 k := fun k k0 k1 => by rw [hx, ix_append_left k0 k1]
    have lenR : X.1.length ≤ R.1.length := by rw [hx, List.length_append]; omega
    refine ⟨g1, by show i + 1 ≤ R.1.length; omega, ?_, by simp [h3.r], by simp [h3.m], fun k k0 k1 => ?_, fun k k0 k1 => ?_⟩
    · show ix R.1 0 = first
      rw [pre 0 (by omega) (by omega)]; exact h3.z
    · show (ix (X.2.1 ++ [R.2]) k).length = L ∧ ∀ a : Int, 0 ≤ a → a < L → 0 ≤ ix (ix (X.2.1 ++ [R.2]) k) a ∧ ix (ix (X.2.1 ++ [R.2]) k) a < R.1.length ∧ ix R.1 (ix (ix (X.2.1 ++ [R.2]) k) a) = nx (ix R.1 k) a
      have hr := h3.r
      by_cases c : k < i
      · obtain ⟨r1, r2⟩ := h3.row k k0 c
        rw [ix_append_left k0 (by omega), pre k k0 (by omega)]
        refine ⟨r1, fun a a0 a1 => ?_⟩
        obtain ⟨s1, s2, s3⟩ := r2 a a0 a1
        rw [pre _ s1 s2]
        exact ⟨s1, by omega, s3⟩
      · have hk : k = (X.2.1.length : Int) := by omega
        rw [hk, ix_append_last, hr, pre (i : Int) (by omega) (by omega)]
        exact ⟨g2, fun a a0 a1 => g3 a a0 a1⟩
    · show ix (X.2.2 ++ [mk (ix X.1 (i : Int))]) k = mk (ix R.1 k)
      have hm := h3.m
      rw [pre k k0 (by omega)]
      by_cases c : k < i
      · rw [ix_append_left k0 (by omega)]; exact h3.mark k k0 c
      · have hk : k = (X.2.2.length : Int) := by omega
        rw [hk, ix_append_last, hm]
theorem xSt_stops (h : XOk nx mk L first B P) : ∃ n, n ≤ B ∧ XGo nx mk L first n ∧ (xSt nx mk L first n).1.length = n := by
  have key : ∀ f i : Nat, B - i = f → XGo nx mk L first i → ∃ n, n ≤ B ∧ XGo nx mk L first n ∧ (xSt nx mk L first n).1.length = n := by
    intro f
    induction f with
    | zero =>
      intro i hf hg
      obtain ⟨h1, h2, _⟩ := xSt_ok h i hg
      have := h1.len h
      exact ⟨i, by omega, hg, by omega⟩
    | succ f ih =>
      intro i hf hg
      obtain ⟨h1, h2, _⟩ := xSt_ok h i hg
      have := h1.len h
      by_cases c : (xSt nx mk L first i).1.length = i
      · exact ⟨i, by omega, hg, c⟩
      · refine ih (i + 1) (by omega) (fun k hk => ?_)
        by_cases e : k = i
        · subst e; omega
        · exact hg k (by omega)
  exact key _ 0 rfl (fun k hk => by omega)
/-- The automaton that comes of it. -/
noncomputable def xAut (nx : Int → Int → Int) (mk : Int → Int) (L : Nat) (first : Int) (n : Nat) : Dt := ((L : Int), 0, (xSt nx mk L first n).2.1, (xSt nx mk L first n).2.2, ())
theorem xAut_ok (h : XOk nx mk L first B P) (hL : 1 ≤ L ∧ L ≤ 4) (hB : B ≤ 3000) {n : Nat} (hg : XGo nx mk L first n) (hn : (xSt nx mk L first n).1.length = n) : DOk 3000 badD (xAut nx mk L first n) := by
  obtain ⟨h1, h2, h3⟩ := xSt_ok h n hg
  have hb := h1.len h
  have hr := h3.r
  have hm := h3.m
  have hpos : 0 < n := by
    refine Nat.pos_of_ne_zero fun e => ?_
    subst e
    simp [xSt] at hn
  refine ⟨by show 1 ≤ (L : Int) ∧ (L : Int) ≤ 4; omega, ?_, ?_, ?_, fun s hs => ?_, ⟨fun r hr2 => ?_, fun r hr2 q hq => ?_⟩⟩
  · show 1 ≤ (xSt nx mk L first n).2.1.length ∧ ((xSt nx mk L first n).2.1.length : Int) ≤ 3000
    omega
  · show (0 : Int) ≤ 0 ∧ (0 : Int) < ((xSt nx mk L first n).2.1.length : Int)
    omega
  · show ((xSt nx mk L first n).2.2.length : Int) = ((xSt nx mk L first n).2.1.length : Int)
    omega
  · obtain ⟨k, k0, k1, rfl⟩ := (ex_ix (P := fun x => x = s)).1 ⟨s, hs, rfl⟩
    have hk : k < n := by
      have : k < ((xSt nx mk L first n).2.2.length : Int) := k1
      omega
    have e : ix (xAut nx mk L first n).2.2.2.1 k = mk (ix (xSt nx mk L first n).1 k) := h3.mark k k0 hk
    rw [e]
    have := h.m _ (h1.p _ (ix_mem k0 (by omega)))
    omega
  · obtain ⟨k, k0, k1, rfl⟩ := (ex_ix (P := fun x => x = r)).1 ⟨r, hr2, rfl⟩
    have hk : k < n := by
      have : k < ((xSt nx mk L first n).2.1.length : Int) := k1
      omega
    have := (h3.row k k0 hk).1
    show ((ix (xSt nx mk L first n).2.1 k).length : Int) = (L : Int)
    omega
  · obtain ⟨k, k0, k1, rfl⟩ := (ex_ix (P := fun x => x = r)).1 ⟨r, hr2, rfl⟩
    have hk : k < n := by
      have : k < ((xSt nx mk L first n).2.1.length : Int) := k1
      omega
    obtain ⟨r1, r2⟩ := h3.row k k0 hk
    obtain ⟨a, a0, a1, rfl⟩ := (ex_ix (P := fun x => x = q)).1 ⟨q, hq, rfl⟩
    have ha : a < (L : Int) := by
      have : a < ((ix (xSt nx mk L first n).2.1 k).length : Int) := a1
      omega
    obtain ⟨s1, s2, s3⟩ := r2 a a0 ha
    show 0 ≤ ix (ix (xSt nx mk L first n).2.1 k) a ∧ ix (ix (xSt nx mk L first n).2.1 k) a < ((xSt nx mk L first n).2.1.length : Int)
    omega
/-- A walk in it is a walk by keys. -/
theorem xAut_walk (h : XOk nx mk L first B P) {n : Nat} (hg : XGo nx mk L first n) (hn : (xSt nx mk L first n).1.length = n) : ∀ (w : List Int) (q : Int), 0 ≤ q → q < n → (∀ a ∈ w, 0 ≤ a ∧ a < (L : Int)) →
    0 ≤ wlk (xAut nx mk L first n).2.2.1 q w ∧ wlk (xAut nx mk L first n).2.2.1 q w < n ∧ ix (xSt nx mk L first n).1 (wlk (xAut nx mk L first n).2.2.1 q w) = w.foldl nx (ix (xSt nx mk L first n).1 q)
  | [], q, q0, q1, _ => ⟨q0, q1, rfl⟩
  | a :: w, q, q0, q1, hw => by
    obtain ⟨_, _, h3⟩ := xSt_ok h n hg
    have ha := hw a (by simp)
    obtain ⟨s1, s2, s3⟩ := (h3.row q q0 q1).2 a ha.1 ha.2
    have := xAut_walk h hg hn w (ix (ix (xSt nx mk L first n).2.1 q) a) s1 (by omega) (fun b hb => hw b (by simp [hb]))
    rw [s3] at this
    exact this
end

theorem r3_Same_refl {d : Dt} (h1 : (d.2.2.1.length : Int) ≤ 1000000) (h2 : (d.2.2.2.1.length : Int) ≤ 1000000) (h3 : ∀ r ∈ d.2.2.1, (r.length : Int) ≤ 1000000) : r3_Same d d = some true := by
  have k14 : ∀ (i : Int) {r9}, 0 ≤ i → i < d.2.2.1.length → ∀ (n : Nat) (k : Int), ((ix d.2.2.1 i).length - k).toNat = n → 0 ≤ k → k ≤ (ix d.2.2.1 i).length → r3_Same_L14 d d i r9 k = r9 (i + 1) := by
    intro i r9 i0 i1 n
    have hr := h3 _ (ix_mem i0 i1)
    induction n with
    | zero =>
      intro k hn k0 k1
      rw [r3_Same_L14_eq]; unfold r3_Same_L14_B
      rw [G_pos (by omega), if_neg (by simp; omega)]
      exact G_to (by unfold fits; omega) rfl
    | succ n ih =>
      intro k hn k0 k1
      rw [r3_Same_L14_eq]; unfold r3_Same_L14_B
      rw [G_pos (by omega), if_pos (by simp; omega), if_neg (by simp)]
      exact G_to (by omega) (G_to (by omega) (G_to (by omega) (G_to (by omega) (G_to (by unfold fits; omega) (ih (k + 1) (by omega) (by omega) (by omega))))))
  have k9 : ∀ (n : Nat) (i : Int), (d.2.2.1.length - i).toNat = n → 0 ≤ i → i ≤ d.2.2.1.length → r3_Same_L9 d d i = some true := by
    intro n
    induction n with
    | zero =>
      intro i hn i0 i1
      rw [r3_Same_L9_eq]; unfold r3_Same_L9_B
      rw [if_neg (by simp; omega)]
    | succ n ih =>
      intro i hn i0 i1
      rw [r3_Same_L9_eq]; unfold r3_Same_L9_B
      rw [if_pos (by simp; omega), if_neg (by simp)]
      refine G_to (by omega) (G_to (by omega) ?_)
      rw [k14 i i0 (by omega) _ 0 rfl (by omega) (by omega)]
      exact ih (i + 1) (by omega) (by omega) (by omega)
  have k4 : ∀ (n : Nat) (i : Int), (d.2.2.2.1.length - i).toNat = n → 0 ≤ i → i ≤ d.2.2.2.1.length → r3_Same_L4 d d i = some true := by
    intro n
    induction n with
    | zero =>
      intro i hn i0 i1
      rw [r3_Same_L4_eq]; unfold r3_Same_L4_B
      rw [if_neg (by simp; omega)]
      exact k9 _ 0 rfl (by omega) (by omega)
    | succ n ih =>
      intro i hn i0 i1
      rw [r3_Same_L4_eq]; unfold r3_Same_L4_B
      rw [if_pos (by simp; omega), if_neg (by simp)]
      exact G_to (by omega) (G_to (by omega) (G_to (by unfold fits; omega) (ih (i + 1) (by omega) (by omega) (by omega))))
  unfold r3_Same
  rw [if_neg (by simp), if_neg (by simp), if_neg (by simp), if_neg (by simp)]
  exact k4 _ 0 rfl (by omega) (by omega)
theorem noDet_none : law_noDet (0, 0, [], [], ()) = some true := by
  unfold law_noDet
  rw [if_pos (by simp), if_pos (by simp), G_pos (by unfold fits; simp)]
  rfl
theorem LeastOk.sizes {d o : Dt} {C Q : List Int} {K : Nat} (hd : DOk 3000 badD d) (h : LeastOk d o C Q K) : (o.2.2.1.length : Int) ≤ 3000 ∧ (o.2.2.2.1.length : Int) ≤ 3000 ∧ ∀ r ∈ o.2.2.1, (r.length : Int) ≤ 4 := by
  have h1 := h.part.q.le h.fin
  have h2 := h.fin.le
  have h3 := hd.n1
  have h4 := h.all
  have h5 := h.part.l3
  have h6 := hd.let1
  refine ⟨by omega, by omega, fun r hr => ?_⟩
  obtain ⟨j, j0, j1, rfl⟩ := (ex_ix (P := fun x => x = r)).1 ⟨r, hr, rfl⟩
  have := (h.part.row j j0 j1).len
  omega

theorem det_mk (m : Int) : Tells (det_Check_4 m) (badD m) := by
  unfold det_Check_4
  by_cases h : m = 0
  · rw [if_neg (by simpa using h)]; exact Tells.of (by simp [h])
  · rw [if_pos (by simpa using h)]; exact Tells.dec (by simp [h])
theorem det_Check_spec {d : Dt} : det_Check d = some (detE 3000 badD d) := by
  unfold det_Check detE
  by_cases c1 : d.1 < 1 ∨ 4 < d.1
  · rw [if_pos c1]
    (try dsimp only); (repeat' first | (with_reducible refine G_to ?_ ?_; focus (first | omega | (unfold fits; omega) | (unfold room; (try simp only [List.length_append, List.length_cons, List.length_nil]); omega))) | (with_reducible refine both_to ?_ ?_) | (with_reducible refine itet_to ?_) | (with_reducible refine itef_to ?_) | (with_reducible refine ite_to (fun _ => ?_) (fun _ => ?_))) <;> try (exfalso; omega)
    all_goals rfl
  rw [if_neg c1]
  by_cases c2 : DBig 3000 d
  · rw [if_pos c2]; unfold DBig at c2
    (try dsimp only); (repeat' first | (with_reducible refine G_to ?_ ?_; focus (first | omega | (unfold fits; omega) | (unfold room; (try simp only [List.length_append, List.length_cons, List.length_nil]); omega))) | (with_reducible refine both_to ?_ ?_) | (with_reducible refine itet_to ?_) | (with_reducible refine itef_to ?_) | (with_reducible refine ite_to (fun _ => ?_) (fun _ => ?_))) <;> try (exfalso; omega)
    all_goals rfl
  rw [if_neg c2]
  unfold DBig at c2
  by_cases c3 : (d.2.2.2.1.length : Int) = d.2.2.1.length
  case neg =>
    rw [if_pos (show DRag d from .inl c3)]
    (try dsimp only); (repeat' first | (with_reducible refine G_to ?_ ?_; focus (first | omega | (unfold fits; omega) | (unfold room; (try simp only [List.length_append, List.length_cons, List.length_nil]); omega))) | (with_reducible refine both_to ?_ ?_) | (with_reducible refine itet_to ?_) | (with_reducible refine itef_to ?_) | (with_reducible refine ite_to (fun _ => ?_) (fun _ => ?_))) <;> try (exfalso; omega)
    all_goals rfl
  (try dsimp only); (repeat' first | (with_reducible refine G_to ?_ ?_; focus (first | omega | (unfold fits; omega) | (unfold room; (try simp only [List.length_append, List.length_cons, List.length_nil]); omega))) | (with_reducible refine both_to ?_ ?_) | (with_reducible refine itet_to ?_) | (with_reducible refine itef_to ?_) | (with_reducible refine ite_to (fun _ => ?_) (fun _ => ?_))) <;> try (exfalso; omega)
  have k1 : Tells (slices_ContainsFunc d.2.2.1 d) (∃ r ∈ d.2.2.1, ¬ (r.length : Int) = d.1) := contains_tells (f := fun r => det_Check_1 r d) (slices_IndexFunc_L2_eq d.2.2.1 d) (by omega) (fun x _ => Tells.dec Iff.rfl)
  have nn : ∀ q t : Int, Tells (det_Check_2 q t) (q < 0 ∨ t ≤ q) := fun q t => by
    unfold det_Check_2
    by_cases h : q < 0
    · rw [if_pos (decide_eq_true h)]; exact Tells.of (by simp [h])
    · rw [if_neg (by simpa using h)]; exact Tells.dec (by omega)
  have k2 : ∀ r ∈ d.2.2.1, r.length ≤ 1000 → Tells (slices_ContainsFunc_2 r (d.2.2.1.length : Int)) (∃ q ∈ r, q < 0 ∨ (d.2.2.1.length : Int) ≤ q) := fun r _ hr => contains_tells (f := fun q => det_Check_2 q (d.2.2.1.length : Int)) (slices_IndexFunc_2_L2_eq r (d.2.2.1.length : Int)) (by omega) (fun x _ => nn x _)
  have k4 : Tells (slices_ContainsFunc_3 d.2.2.2.1) (∃ s ∈ d.2.2.2.1, (badD) s) := contains_tells (f := fun q => det_Check_4 q) (slices_IndexFunc_3_L2_eq d.2.2.2.1) (by omega) (fun x _ => det_mk x)
  refine k1.to (fun h => by rw [if_pos (show DRag d from .inr h)]) (fun h => ?_)
  rw [if_neg (show ¬ DRag d from fun hh => hh.elim (fun e => e c3) h)]
  have hr : ∀ r ∈ d.2.2.1, r.length ≤ 1000 := fun r hr => by
    by_cases e : (r.length : Int) = d.1
    · omega
    · exact absurd ⟨r, hr, e⟩ h
  refine (nn _ _).to (fun h => by rw [if_pos (show DOut _ d from .inl h)]) (fun h1 => ?_)
  obtain ⟨b, hb, hb2⟩ : ∃ b, slices_ContainsFunc_1 d.2.2.1 (d.2.2.1.length : Int) = some (b, (d.2.2.1.length : Int)) ∧ (b = true ↔ ∃ r ∈ d.2.2.1, ∃ q ∈ r, q < 0 ∨ (d.2.2.1.length : Int) ≤ q) :=
    contains_tells2 (f := det_Check_3) (slices_IndexFunc_1_L2_eq d.2.2.1) (by omega) (fun r hrm => by
      obtain ⟨b, e, e2⟩ := k2 r hrm (hr r hrm)
      exact ⟨b, by unfold det_Check_3; rw [e]; rfl, e2⟩)
  rw [hb]
  refine bind_to rfl ?_
  refine iteb_to (fun h => by rw [if_pos (show DOut _ d from .inr (.inl (hb2.1 h)))]) (fun h2 => ?_)
  refine k4.to (fun h => by rw [if_pos (show DOut _ d from .inr (.inr h))]) (fun h3 => ?_)
  rw [if_neg (show ¬ DOut _ d from fun h => h.elim h1 (fun h => h.elim (fun h => by rw [hb2.2 h] at h2; cases h2) h3))]

theorem r3_Check_spec {d : Dt} : r3_Check d = some (detE 3000 badD d) := by
  unfold r3_Check detE
  by_cases c1 : d.1 < 1 ∨ 4 < d.1
  · rw [if_pos c1]
    (try dsimp only); (repeat' first | (with_reducible refine G_to ?_ ?_; focus (first | omega | (unfold fits; omega) | (unfold room; (try simp only [List.length_append, List.length_cons, List.length_nil]); omega))) | (with_reducible refine both_to ?_ ?_) | (with_reducible refine itet_to ?_) | (with_reducible refine itef_to ?_) | (with_reducible refine ite_to (fun _ => ?_) (fun _ => ?_))) <;> try (exfalso; omega)
    all_goals rfl
  rw [if_neg c1]
  by_cases c2 : DBig 3000 d
  · rw [if_pos c2]; unfold DBig at c2
    (try dsimp only); (repeat' first | (with_reducible refine G_to ?_ ?_; focus (first | omega | (unfold fits; omega) | (unfold room; (try simp only [List.length_append, List.length_cons, List.length_nil]); omega))) | (with_reducible refine both_to ?_ ?_) | (with_reducible refine itet_to ?_) | (with_reducible refine itef_to ?_) | (with_reducible refine ite_to (fun _ => ?_) (fun _ => ?_))) <;> try (exfalso; omega)
    all_goals rfl
  rw [if_neg c2]
  unfold DBig at c2
  by_cases c3 : (d.2.2.2.1.length : Int) = d.2.2.1.length
  case neg =>
    rw [if_pos (show DRag d from .inl c3)]
    (try dsimp only); (repeat' first | (with_reducible refine G_to ?_ ?_; focus (first | omega | (unfold fits; omega) | (unfold room; (try simp only [List.length_append, List.length_cons, List.length_nil]); omega))) | (with_reducible refine both_to ?_ ?_) | (with_reducible refine itet_to ?_) | (with_reducible refine itef_to ?_) | (with_reducible refine ite_to (fun _ => ?_) (fun _ => ?_))) <;> try (exfalso; omega)
    all_goals rfl
  (try dsimp only); (repeat' first | (with_reducible refine G_to ?_ ?_; focus (first | omega | (unfold fits; omega) | (unfold room; (try simp only [List.length_append, List.length_cons, List.length_nil]); omega))) | (with_reducible refine both_to ?_ ?_) | (with_reducible refine itet_to ?_) | (with_reducible refine itef_to ?_) | (with_reducible refine ite_to (fun _ => ?_) (fun _ => ?_))) <;> try (exfalso; omega)
  refine scan_to (len := (d.2.2.1.length : Int)) (bad := fun t => ¬ ((ix d.2.2.1 t).length : Int) = d.1) (by omega) (fun t h0 h1 => ⟨fun hb => ?_, fun hb => ?_⟩) (fun hh => ?_)
  · rw [r3_Check_L9_eq]; unfold r3_Check_L9_B
    (try dsimp only); (repeat' first | (with_reducible refine G_to ?_ ?_; focus (first | omega | (unfold fits; omega) | (unfold room; (try simp only [List.length_append, List.length_cons, List.length_nil]); omega))) | (with_reducible refine both_to ?_ ?_) | (with_reducible refine itet_to ?_) | (with_reducible refine itef_to ?_) | (with_reducible refine ite_to (fun _ => ?_) (fun _ => ?_))) <;> try (exfalso; omega)
    rw [if_pos (show DRag d from .inr (ex_ix.2 ⟨t, by omega, by omega, hb⟩))]
  · conv => lhs; rw [r3_Check_L9_eq]; unfold r3_Check_L9_B
    (try dsimp only); (repeat' first | (with_reducible refine G_to ?_ ?_; focus (first | omega | (unfold fits; omega) | (unfold room; (try simp only [List.length_append, List.length_cons, List.length_nil]); omega))) | (with_reducible refine both_to ?_ ?_) | (with_reducible refine itet_to ?_) | (with_reducible refine itef_to ?_) | (with_reducible refine ite_to (fun _ => ?_) (fun _ => ?_))) <;> try (exfalso; omega)
    all_goals first | rfl | (exfalso; exact hb ‹_›) | (exfalso; exact absurd ‹_› hb)
  rw [if_neg (show ¬ DRag d from fun h => h.elim (fun e => e c3) (fun h => by obtain ⟨i, i0, i1, i2⟩ := ex_ix.1 h; exact hh i i0 i1 i2))]
  rw [r3_Check_L9_eq]; unfold r3_Check_L9_B
  by_cases c4 : d.2.1 < 0 ∨ (d.2.2.1.length : Int) ≤ d.2.1
  · rw [if_pos (show DOut _ d from .inl c4)]
    (try dsimp only); (repeat' first | (with_reducible refine G_to ?_ ?_; focus (first | omega | (unfold fits; omega) | (unfold room; (try simp only [List.length_append, List.length_cons, List.length_nil]); omega))) | (with_reducible refine both_to ?_ ?_) | (with_reducible refine itet_to ?_) | (with_reducible refine itef_to ?_) | (with_reducible refine ite_to (fun _ => ?_) (fun _ => ?_))) <;> try (exfalso; omega)
    all_goals rfl
  (try dsimp only); (repeat' first | (with_reducible refine G_to ?_ ?_; focus (first | omega | (unfold fits; omega) | (unfold room; (try simp only [List.length_append, List.length_cons, List.length_nil]); omega))) | (with_reducible refine both_to ?_ ?_) | (with_reducible refine itet_to ?_) | (with_reducible refine itef_to ?_) | (with_reducible refine ite_to (fun _ => ?_) (fun _ => ?_))) <;> try (exfalso; omega)
  have hlen : ∀ t : Int, 0 ≤ t → t < d.2.2.1.length → ((ix d.2.2.1 t).length : Int) = d.1 := fun t a b => Decidable.not_not.1 (hh t a b)
  refine scan_to (len := (d.2.2.1.length : Int)) (bad := fun t => ∃ q ∈ ix d.2.2.1 t, q < 0 ∨ (d.2.2.1.length : Int) ≤ q) (by omega) (fun t h0 h1 => ⟨fun hb => ?_, fun hb => ?_⟩) (fun hh2 => ?_)
  · rw [r3_Check_L16_eq]; unfold r3_Check_L16_B
    (try dsimp only); (repeat' first | (with_reducible refine G_to ?_ ?_; focus (first | omega | (unfold fits; omega) | (unfold room; (try simp only [List.length_append, List.length_cons, List.length_nil]); omega))) | (with_reducible refine both_to ?_ ?_) | (with_reducible refine itet_to ?_) | (with_reducible refine itef_to ?_) | (with_reducible refine ite_to (fun _ => ?_) (fun _ => ?_))) <;> try (exfalso; omega)
    have hlt := hlen t h0 h1
    refine scan_to (len := d.1) (bad := fun a => ix (ix d.2.2.1 t) a < 0 ∨ (d.2.2.1.length : Int) ≤ ix (ix d.2.2.1 t) a) (by omega) (fun a a0 a1 => ⟨fun hb => ?_, fun hb => ?_⟩) (fun hh3 => ?_)
    · rw [r3_Check_L19_eq]; unfold r3_Check_L19_B
      (try dsimp only); (repeat' first | (with_reducible refine G_to ?_ ?_; focus (first | omega | (unfold fits; omega) | (unfold room; (try simp only [List.length_append, List.length_cons, List.length_nil]); omega))) | (with_reducible refine both_to ?_ ?_) | (with_reducible refine itet_to ?_) | (with_reducible refine itef_to ?_) | (with_reducible refine ite_to (fun _ => ?_) (fun _ => ?_))) <;> try (exfalso; omega)
      all_goals rw [if_pos (show DOut _ d from .inr (.inl (ex_ix.2 ⟨t, h0, h1, ex_ix.2 ⟨a, a0, by omega, hb⟩⟩)))]
    · conv => lhs; rw [r3_Check_L19_eq]; unfold r3_Check_L19_B
      (try dsimp only); (repeat' first | (with_reducible refine G_to ?_ ?_; focus (first | omega | (unfold fits; omega) | (unfold room; (try simp only [List.length_append, List.length_cons, List.length_nil]); omega))) | (with_reducible refine both_to ?_ ?_) | (with_reducible refine itet_to ?_) | (with_reducible refine itef_to ?_) | (with_reducible refine ite_to (fun _ => ?_) (fun _ => ?_))) <;> try (exfalso; omega)
      all_goals rfl
    · exfalso
      obtain ⟨i, i0, i1, i2⟩ := ex_ix.1 hb
      exact hh3 i i0 (by omega) i2
  · conv => lhs; rw [r3_Check_L16_eq]; unfold r3_Check_L16_B
    (try dsimp only); (repeat' first | (with_reducible refine G_to ?_ ?_; focus (first | omega | (unfold fits; omega) | (unfold room; (try simp only [List.length_append, List.length_cons, List.length_nil]); omega))) | (with_reducible refine both_to ?_ ?_) | (with_reducible refine itet_to ?_) | (with_reducible refine itef_to ?_) | (with_reducible refine ite_to (fun _ => ?_) (fun _ => ?_))) <;> try (exfalso; omega)
    have hlt := hlen t h0 h1
    refine scan_to (len := d.1) (bad := fun a => ix (ix d.2.2.1 t) a < 0 ∨ (d.2.2.1.length : Int) ≤ ix (ix d.2.2.1 t) a) (by omega) (fun a a0 a1 => ⟨fun hb' => ?_, fun hb => ?_⟩) (fun hh3 => ?_)
    · exfalso; exact hb (ex_ix.2 ⟨a, a0, by omega, hb'⟩)
    · conv => lhs; rw [r3_Check_L19_eq]; unfold r3_Check_L19_B
      (try dsimp only); (repeat' first | (with_reducible refine G_to ?_ ?_; focus (first | omega | (unfold fits; omega) | (unfold room; (try simp only [List.length_append, List.length_cons, List.length_nil]); omega))) | (with_reducible refine both_to ?_ ?_) | (with_reducible refine itet_to ?_) | (with_reducible refine itef_to ?_) | (with_reducible refine ite_to (fun _ => ?_) (fun _ => ?_))) <;> try (exfalso; omega)
      all_goals rfl
    · rw [r3_Check_L19_eq]; unfold r3_Check_L19_B
      (try dsimp only); (repeat' first | (with_reducible refine G_to ?_ ?_; focus (first | omega | (unfold fits; omega) | (unfold room; (try simp only [List.length_append, List.length_cons, List.length_nil]); omega))) | (with_reducible refine both_to ?_ ?_) | (with_reducible refine itet_to ?_) | (with_reducible refine itef_to ?_) | (with_reducible refine ite_to (fun _ => ?_) (fun _ => ?_))) <;> try (exfalso; omega)
      all_goals rfl
  have hnr : ¬ ∃ r ∈ d.2.2.1, ∃ q ∈ r, q < 0 ∨ (d.2.2.1.length : Int) ≤ q := fun h => by
    obtain ⟨t, h0, h1, hb⟩ := ex_ix.1 h
    exact hh2 t h0 h1 hb
  rw [r3_Check_L16_eq]; unfold r3_Check_L16_B
  (try dsimp only); (repeat' first | (with_reducible refine G_to ?_ ?_; focus (first | omega | (unfold fits; omega) | (unfold room; (try simp only [List.length_append, List.length_cons, List.length_nil]); omega))) | (with_reducible refine both_to ?_ ?_) | (with_reducible refine itet_to ?_) | (with_reducible refine itef_to ?_) | (with_reducible refine ite_to (fun _ => ?_) (fun _ => ?_))) <;> try (exfalso; omega)
  refine scan_to (len := (d.2.2.1.length : Int)) (bad := fun t => (badD) (ix d.2.2.2.1 t)) (by omega) (fun t h0 h1 => ⟨fun hb => ?_, fun hb => ?_⟩) (fun hh3 => ?_)
  · rw [if_pos (show DOut _ d from .inr (.inr (ex_ix.2 ⟨t, h0, by omega, hb⟩)))]
    rw [r3_Check_L24_eq]; unfold r3_Check_L24_B
    try dsimp only at hb
    (try dsimp only); (repeat' first | (with_reducible refine G_to ?_ ?_; focus (first | omega | (unfold fits; omega) | (unfold room; (try simp only [List.length_append, List.length_cons, List.length_nil]); omega))) | (with_reducible refine both_to ?_ ?_) | (with_reducible refine itet_to ?_) | (with_reducible refine itef_to ?_) | (with_reducible refine ite_to (fun _ => ?_) (fun _ => ?_))) <;> try (exfalso; omega)
    all_goals first | rfl | (exfalso; exact hb.1 ‹_›) | (exfalso; exact hb.2 ‹_›)
  · conv => lhs; rw [r3_Check_L24_eq]; unfold r3_Check_L24_B
    try dsimp only at hb
    (try dsimp only); (repeat' first | (with_reducible refine G_to ?_ ?_; focus (first | omega | (unfold fits; omega) | (unfold room; (try simp only [List.length_append, List.length_cons, List.length_nil]); omega))) | (with_reducible refine both_to ?_ ?_) | (with_reducible refine itet_to ?_) | (with_reducible refine itef_to ?_) | (with_reducible refine ite_to (fun _ => ?_) (fun _ => ?_))) <;> try (exfalso; omega)
    all_goals first | rfl | (exfalso; exact hb ⟨‹_›, ‹_›⟩)
  rw [if_neg (show ¬ DOut _ d from fun h => h.elim c4 (fun h => h.elim hnr (fun h => by
    obtain ⟨t, h0, h1, hb⟩ := ex_ix.1 h
    exact hh3 t h0 (by omega) hb)))]
  rw [r3_Check_L24_eq]; unfold r3_Check_L24_B
  (try dsimp only); (repeat' first | (with_reducible refine G_to ?_ ?_; focus (first | omega | (unfold fits; omega) | (unfold room; (try simp only [List.length_append, List.length_cons, List.length_nil]); omega))) | (with_reducible refine both_to ?_ ?_) | (with_reducible refine itet_to ?_) | (with_reducible refine itef_to ?_) | (with_reducible refine ite_to (fun _ => ?_) (fun _ => ?_))) <;> try (exfalso; omega)
  all_goals rfl

/-- The program's row. -/
theorem det_Explore_row {g : Int} {s : Int} {l : List Int} {nx : Int → Int → Int} {mk : Int → Int} {first : Int} {B : Nat} {P : Int → Prop} {d : Dt} (hx : XOk nx mk d.1.toNat first B P) (hB : B < 64) (h1 : 1 ≤ d.1 ∧ d.1 ≤ 4) (hnx : ∀ s, P s → ∀ t, 0 ≤ t → t < d.1 → higman_sets_1 s t d = some (nx s t)) (hmk : ∀ s, P s → higman_sets_2 s g = some (mk s)) {L0 : List Int} {D2 : List (List Int)} {D3 : List Int} {r4} (hs : P s) (hl : LiOk B P l) (eL : ix L0 (D2.length : Int) = s) (h2 : D2.length ≤ 3000) (h3 : D3.length ≤ 3000) :
    det_Explore_L8 d.1 g 64 d.1 0 L0 D2 D3 r4 d 0 l (iota l.length) l (List.replicate d.1.toNat 0) =
      r4 d d.1 0 (xRow nx s l d.1.toNat).1 (iota (xRow nx s l d.1.toNat).1.length) (xRow nx s l d.1.toNat).1 (D2 ++ [(xRow nx s l d.1.toNat).2]) (D3 ++ [mk s]) := by
  have key : ∀ (n t : Nat) (row : List Int), d.1.toNat - t = n → t ≤ d.1.toNat → row.length = d.1.toNat → (∀ j : Int, 0 ≤ j → j < t → ix row j = ix (xRow nx s l t).2 j) →
      det_Explore_L8 d.1 g 64 d.1 0 L0 D2 D3 r4 d t (xRow nx s l t).1 (iota (xRow nx s l t).1.length) (xRow nx s l t).1 row =
      r4 d d.1 0 (xRow nx s l d.1.toNat).1 (iota (xRow nx s l d.1.toNat).1.length) (xRow nx s l d.1.toNat).1 (D2 ++ [(xRow nx s l d.1.toNat).2]) (D3 ++ [mk s]) := by
    intro n
    induction n with
    | zero =>
      intro t row hn ht hr hj
      obtain rfl : t = d.1.toNat := by omega
      obtain ⟨g1, ⟨_, g2, _⟩⟩ := xRow_ok hx hs hl d.1.toNat (Nat.le_refl _)
      have : row = (xRow nx s l d.1.toNat).2 := ix_ext (by omega) fun j j0 j1 => hj j j0 (by omega)
      rw [det_Explore_L8_eq]; unfold det_Explore_L8_B
      rw [if_neg (by simp; omega), this]
      refine G_to (by unfold room; simp; omega) ?_
      rw [eL]
      refine bind_to (hmk s hs) ?_
      exact G_to (by unfold room; simp; omega) rfl
    | succ n ih =>
      intro t row hn ht hr hj
      obtain ⟨g1, ⟨_, g2, _⟩⟩ := xRow_ok hx hs hl t (by omega)
      have hlen := g1.len hx
      have ih' := fun row => ih (t + 1) row (by omega) (by omega)
      rw [det_Explore_L8_eq]; unfold det_Explore_L8_B det_Explore_J17
      rw [if_pos (by simp; omega), eL]
      refine bind_to (hnx s hs t (by omega) (by omega)) ?_
      cases e : mfind (xRow nx s l t).1 (nx s t) with
      | some j =>
        rw [xRow_some e] at ih'
        have hm : mhas (xRow nx s l t).1 (nx s t) = true := by unfold mhas; rw [e]; rfl
        rw [if_neg (by rw [hm]; simp), mget_iota e]
        refine G_to (by omega) (G_to (by omega) (G_to (by unfold fits; omega) ?_))
        refine ih' (row.set ((t : Int)).toNat (j : Int)) (by rw [List.length_set]; exact hr) (fun k k0 k1 => ?_)
        by_cases c : k < t
        · rw [ix_set_ne (by omega) k0 (by omega), ix_append_left k0 (by omega)]; exact hj k k0 c
        · obtain rfl : k = (t : Int) := by omega
          rw [ix_set_same k0 (by omega)]
          have : (t : Int) = ((xRow nx s l t).2.length : Int) := by omega
          rw [this, ix_append_last]
      | none =>
        rw [xRow_none e] at ih'
        have hnm := mfind_none.1 e
        have hm : mhas (xRow nx s l t).1 (nx s t) = false := by unfold mhas; rw [e]; rfl
        rw [if_pos (by rw [hm]; rfl), if_neg (by simp; omega), mputK_new hnm, mputV_iota hnm]
        refine G_to (by unfold room; simp; omega) (G_to (by omega) (G_to (by omega) (G_to (by unfold fits; omega) ?_)))
        refine ih' (row.set ((t : Int)).toNat ((xRow nx s l t).1.length : Int)) (by rw [List.length_set]; exact hr) (fun k k0 k1 => ?_)
        by_cases c : k < t
        · rw [ix_set_ne (by omega) k0 (by omega), ix_append_left k0 (by omega)]; exact hj k k0 c
        · obtain rfl : k = (t : Int) := by omega
          rw [ix_set_same k0 (by omega)]
          have : (t : Int) = ((xRow nx s l t).2.length : Int) := by omega
          rw [this, ix_append_last]
  exact key _ 0 _ rfl (by omega) (by rw [List.length_replicate]) (fun j j0 j1 => by omega)
theorem det_Explore_prog {g : Int} {nx : Int → Int → Int} {mk : Int → Int} {first : Int} {B : Nat} {P : Int → Prop} {d : Dt} (hx : XOk nx mk d.1.toNat first B P) (hB : B < 64) (h1 : 1 ≤ d.1 ∧ d.1 ≤ 4) (hnx : ∀ s, P s → ∀ t, 0 ≤ t → t < d.1 → higman_sets_1 s t d = some (nx s t)) (hmk : ∀ s, P s → higman_sets_2 s g = some (mk s)) {n : Nat} (hg : XGo nx mk d.1.toNat first n) (hn : (xSt nx mk d.1.toNat first n).1.length = n) : det_Explore d.1 first d g 64 = some (xAut nx mk d.1.toNat first n, true) := by
  have key : ∀ (f i : Nat), n - i = f → i ≤ n → det_Explore_L4 d.1 g 64 d d.1 0 (xSt nx mk d.1.toNat first i).1 (iota (xSt nx mk d.1.toNat first i).1.length) (xSt nx mk d.1.toNat first i).1 (xSt nx mk d.1.toNat first i).2.1 (xSt nx mk d.1.toNat first i).2.2 = some (xAut nx mk d.1.toNat first n, true) := by
    intro f
    induction f with
    | zero =>
      intro i hf hi
      obtain rfl : i = n := by omega
      obtain ⟨g1, g2, g3⟩ := xSt_ok hx i hg
      have hr := g3.r
      rw [det_Explore_L4_eq]; unfold det_Explore_L4_B
      rw [if_neg (by rw [decide_eq_true_iff]; omega)]
      unfold xAut
      rw [Int.toNat_of_nonneg (by omega)]
    | succ f ih =>
      intro i hf hi
      obtain ⟨g1, g2, g3⟩ := xSt_ok hx i (fun k hk => hg k (by omega))
      have hlt := hg i (by omega)
      have hr := g3.r
      have hm := g3.m
      have hlen := g1.len hx
      have hP := g1.p _ (ix_mem (i := (i : Int)) (by omega) (by omega))
      rw [det_Explore_L4_eq]; unfold det_Explore_L4_B
      rw [if_pos (by rw [decide_eq_true_iff]; omega)]
      refine G_to (by omega) (G_to (by omega) (G_to (by unfold mkOK; omega) ?_))
      rw [det_Explore_row hx hB h1 hnx hmk hP g1 (by rw [hr]) (by omega) (by omega)]
      exact ih (i + 1) (by omega) (by omega)
  exact key _ 0 rfl (by omega)

/-- The program's row. -/
theorem det_Explore_2_row {g : Int} {s : Int} {l : List Int} {nx : Int → Int → Int} {mk : Int → Int} {first : Int} {B : Nat} {P : Int → Prop} {d : Dt} (hx : XOk nx mk d.1.toNat first B P) (hB : B < 64) (h1 : 1 ≤ d.1 ∧ d.1 ≤ 4) (hnx : ∀ s, P s → ∀ t, 0 ≤ t → t < d.1 → higman_sets_1_1 s t d d = some (nx s t, d)) (hmk : ∀ s, P s → higman_sets_2 s g = some (mk s)) {L0 : List Int} {D2 : List (List Int)} {D3 : List Int} {r4} (hs : P s) (hl : LiOk B P l) (eL : ix L0 (D2.length : Int) = s) (h2 : D2.length ≤ 3000) (h3 : D3.length ≤ 3000) :
    det_Explore_2_L8 d.1 g 64 d.1 0 L0 D2 D3 r4 d 0 d l (iota l.length) l (List.replicate d.1.toNat 0) =
      r4 d d d.1 0 (xRow nx s l d.1.toNat).1 (iota (xRow nx s l d.1.toNat).1.length) (xRow nx s l d.1.toNat).1 (D2 ++ [(xRow nx s l d.1.toNat).2]) (D3 ++ [mk s]) := by
  have key : ∀ (n t : Nat) (row : List Int), d.1.toNat - t = n → t ≤ d.1.toNat → row.length = d.1.toNat → (∀ j : Int, 0 ≤ j → j < t → ix row j = ix (xRow nx s l t).2 j) →
      det_Explore_2_L8 d.1 g 64 d.1 0 L0 D2 D3 r4 d t d (xRow nx s l t).1 (iota (xRow nx s l t).1.length) (xRow nx s l t).1 row =
      r4 d d d.1 0 (xRow nx s l d.1.toNat).1 (iota (xRow nx s l d.1.toNat).1.length) (xRow nx s l d.1.toNat).1 (D2 ++ [(xRow nx s l d.1.toNat).2]) (D3 ++ [mk s]) := by
    intro n
    induction n with
    | zero =>
      intro t row hn ht hr hj
      obtain rfl : t = d.1.toNat := by omega
      obtain ⟨g1, ⟨_, g2, _⟩⟩ := xRow_ok hx hs hl d.1.toNat (Nat.le_refl _)
      have : row = (xRow nx s l d.1.toNat).2 := ix_ext (by omega) fun j j0 j1 => hj j j0 (by omega)
      rw [det_Explore_2_L8_eq]; unfold det_Explore_2_L8_B
      rw [if_neg (by simp; omega), this]
      refine G_to (by unfold room; simp; omega) ?_
      rw [eL]
      refine bind_to (hmk s hs) ?_
      exact G_to (by unfold room; simp; omega) rfl
    | succ n ih =>
      intro t row hn ht hr hj
      obtain ⟨g1, ⟨_, g2, _⟩⟩ := xRow_ok hx hs hl t (by omega)
      have hlen := g1.len hx
      have ih' := fun row => ih (t + 1) row (by omega) (by omega)
      rw [det_Explore_2_L8_eq]; unfold det_Explore_2_L8_B det_Explore_2_J17
      rw [if_pos (by simp; omega), eL]
      refine bind_to (hnx s hs t (by omega) (by omega)) ?_
      cases e : mfind (xRow nx s l t).1 (nx s t) with
      | some j =>
        rw [xRow_some e] at ih'
        have hm : mhas (xRow nx s l t).1 (nx s t) = true := by unfold mhas; rw [e]; rfl
        rw [if_neg (by rw [hm]; simp), mget_iota e]
        refine G_to (by omega) (G_to (by omega) (G_to (by unfold fits; omega) ?_))
        refine ih' (row.set ((t : Int)).toNat (j : Int)) (by rw [List.length_set]; exact hr) (fun k k0 k1 => ?_)
        by_cases c : k < t
        · rw [ix_set_ne (by omega) k0 (by omega), ix_append_left k0 (by omega)]; exact hj k k0 c
        · obtain rfl : k = (t : Int) := by omega
          rw [ix_set_same k0 (by omega)]
          have : (t : Int) = ((xRow nx s l t).2.length : Int) := by omega
          rw [this, ix_append_last]
      | none =>
        rw [xRow_none e] at ih'
        have hnm := mfind_none.1 e
        have hm : mhas (xRow nx s l t).1 (nx s t) = false := by unfold mhas; rw [e]; rfl
        rw [if_pos (by rw [hm]; rfl), if_neg (by simp; omega), mputK_new hnm, mputV_iota hnm]
        refine G_to (by unfold room; simp; omega) (G_to (by omega) (G_to (by omega) (G_to (by unfold fits; omega) ?_)))
        refine ih' (row.set ((t : Int)).toNat ((xRow nx s l t).1.length : Int)) (by rw [List.length_set]; exact hr) (fun k k0 k1 => ?_)
        by_cases c : k < t
        · rw [ix_set_ne (by omega) k0 (by omega), ix_append_left k0 (by omega)]; exact hj k k0 c
        · obtain rfl : k = (t : Int) := by omega
          rw [ix_set_same k0 (by omega)]
          have : (t : Int) = ((xRow nx s l t).2.length : Int) := by omega
          rw [this, ix_append_last]
  exact key _ 0 _ rfl (by omega) (by rw [List.length_replicate]) (fun j j0 j1 => by omega)
theorem det_Explore_2_prog {g : Int} {nx : Int → Int → Int} {mk : Int → Int} {first : Int} {B : Nat} {P : Int → Prop} {d : Dt} (hx : XOk nx mk d.1.toNat first B P) (hB : B < 64) (h1 : 1 ≤ d.1 ∧ d.1 ≤ 4) (hnx : ∀ s, P s → ∀ t, 0 ≤ t → t < d.1 → higman_sets_1_1 s t d d = some (nx s t, d)) (hmk : ∀ s, P s → higman_sets_2 s g = some (mk s)) {n : Nat} (hg : XGo nx mk d.1.toNat first n) (hn : (xSt nx mk d.1.toNat first n).1.length = n) : det_Explore_2 d.1 first d g 64 d = some (xAut nx mk d.1.toNat first n, true, d) := by
  have key : ∀ (f i : Nat), n - i = f → i ≤ n → det_Explore_2_L4 d.1 g 64 d d d.1 0 (xSt nx mk d.1.toNat first i).1 (iota (xSt nx mk d.1.toNat first i).1.length) (xSt nx mk d.1.toNat first i).1 (xSt nx mk d.1.toNat first i).2.1 (xSt nx mk d.1.toNat first i).2.2 = some (xAut nx mk d.1.toNat first n, true, d) := by
    intro f
    induction f with
    | zero =>
      intro i hf hi
      obtain rfl : i = n := by omega
      obtain ⟨g1, g2, g3⟩ := xSt_ok hx i hg
      have hr := g3.r
      rw [det_Explore_2_L4_eq]; unfold det_Explore_2_L4_B
      rw [if_neg (by rw [decide_eq_true_iff]; omega)]
      unfold xAut
      rw [Int.toNat_of_nonneg (by omega)]
    | succ f ih =>
      intro i hf hi
      obtain ⟨g1, g2, g3⟩ := xSt_ok hx i (fun k hk => hg k (by omega))
      have hlt := hg i (by omega)
      have hr := g3.r
      have hm := g3.m
      have hlen := g1.len hx
      have hP := g1.p _ (ix_mem (i := (i : Int)) (by omega) (by omega))
      rw [det_Explore_2_L4_eq]; unfold det_Explore_2_L4_B
      rw [if_pos (by rw [decide_eq_true_iff]; omega)]
      refine G_to (by omega) (G_to (by omega) (G_to (by unfold mkOK; omega) ?_))
      rw [det_Explore_2_row hx hB h1 hnx hmk hP g1 (by rw [hr]) (by omega) (by omega)]
      exact ih (i + 1) (by omega) (by omega)
  exact key _ 0 rfl (by omega)

/-- What can be come to. -/
def Rch (d : Dt) (q r : Int) : Prop := ∃ w : List Int, (∀ a ∈ w, 0 ≤ a ∧ a < d.1) ∧ wlk d.2.2.1 q w = r
def Ld (up : Bool) (d : Dt) (q r : Int) : Prop := if up = true then r = q else Rch d q r
noncomputable def nxH (up : Bool) (d : Dt) (s t : Int) : Int := setOf (fun r => (up = true ∧ bitP s r) ∨ ∃ q : Int, 0 ≤ q ∧ q < d.2.2.1.length ∧ bitP s q ∧ Ld up d (ix (ix d.2.2.1 q) t) r) d.2.2.1.length
noncomputable def fstH (up : Bool) (d : Dt) : Int := setOf (Ld up d d.2.1) d.2.2.1.length
open Classical in
noncomputable def mkH (d : Dt) (s : Int) : Int := if ∃ q : Int, 0 ≤ q ∧ q < d.2.2.1.length ∧ bitP s q ∧ ix d.2.2.2.1 q = 1 then 1 else 0
structure HOk (d : Dt) : Prop where
  ok : DOk 3000 badD d
  n5 : d.2.2.1.length ≤ 5
section
variable {d : Dt}
theorem HOk.n16 (h : HOk d) : d.2.2.1.length ≤ 16 := by have := h.n5; omega
theorem HOk.to (h : HOk d) {q a : Int} (q0 : 0 ≤ q) (q1 : q < d.2.2.1.length) (a0 : 0 ≤ a) (a1 : a < d.1) : 0 ≤ ix (ix d.2.2.1 q) a ∧ ix (ix d.2.2.1 q) a < d.2.2.1.length := h.ok.tab.stpb q0 q1 a0 a1
theorem Rch.refl (q : Int) : Rch d q q := ⟨[], by simp, rfl⟩
theorem Rch.step {q r a : Int} (h : Rch d q r) (a0 : 0 ≤ a) (a1 : a < d.1) : Rch d q (ix (ix d.2.2.1 r) a) := by
  obtain ⟨w, h1, h2⟩ := h
  refine ⟨w ++ [a], fun b hb => ?_, ?_⟩
  · rcases List.mem_append.1 hb with hb | hb
    · exact h1 b hb
    · rw [List.mem_singleton.1 hb]; exact ⟨a0, a1⟩
  · unfold wlk at h2 ⊢
    rw [List.foldl_append, h2]; rfl
/-- What is closed has all that can be come to. -/
theorem Rch.closed (h : HOk d) {p : Int → Prop} (hc : ∀ q : Int, 0 ≤ q → q < d.2.2.1.length → p q → ∀ a : Int, 0 ≤ a → a < d.1 → p (ix (ix d.2.2.1 q) a)) {q r : Int} (q0 : 0 ≤ q) (q1 : q < d.2.2.1.length) (hq : p q) (hr : Rch d q r) : p r ∧ 0 ≤ r ∧ r < d.2.2.1.length := by
  obtain ⟨w, h1, rfl⟩ := hr
  induction w generalizing q with
  | nil => exact ⟨hq, q0, q1⟩
  | cons a w ih =>
    have ha := h1 a (by simp)
    have ht := h.to q0 q1 ha.1 ha.2
    exact ih ht.1 ht.2 (hc q q0 q1 hq a ha.1 ha.2) (fun b hb => h1 b (by simp [hb]))
theorem Ld.b (h : HOk d) {up : Bool} {q r : Int} (q0 : 0 ≤ q) (q1 : q < d.2.2.1.length) (hr : Ld up d q r) : 0 ≤ r ∧ r < d.2.2.1.length := by
  unfold Ld at hr
  by_cases c : up = true
  · rw [if_pos c] at hr; omega
  · rw [if_neg c] at hr
    exact (Rch.closed h (p := fun _ => True) (fun _ _ _ _ _ _ _ => trivial) q0 q1 trivial hr).2
theorem setOf_bit (h : HOk d) (p : Int → Prop) : SetN d.2.2.1.length (setOf p d.2.2.1.length) ∧ ∀ r : Int, 0 ≤ r → r < d.2.2.1.length → (bitP (setOf p d.2.2.1.length) r ↔ p r) := by
  obtain ⟨h1, h2⟩ := setOf_ok h.n16 p _ (Nat.le_refl _)
  exact ⟨h1, fun r r0 r1 => (h2 r r0 r1).trans ⟨fun g => g.2, fun g => ⟨r1, g⟩⟩⟩
theorem nxH_bit (h : HOk d) (up : Bool) (s t : Int) : SetN d.2.2.1.length (nxH up d s t) ∧ ∀ r : Int, 0 ≤ r → r < d.2.2.1.length → (bitP (nxH up d s t) r ↔ (up = true ∧ bitP s r) ∨ ∃ q : Int, 0 ≤ q ∧ q < d.2.2.1.length ∧ bitP s q ∧ Ld up d (ix (ix d.2.2.1 q) t) r) := setOf_bit h _
theorem fstH_bit (h : HOk d) (up : Bool) : SetN d.2.2.1.length (fstH up d) ∧ ∀ r : Int, 0 ≤ r → r < d.2.2.1.length → (bitP (fstH up d) r ↔ Ld up d d.2.1 r) := setOf_bit h _
theorem H_xok (h : HOk d) (up : Bool) : XOk (nxH up d) (mkH d) d.1.toNat (fstH up d) 32 (SetN d.2.2.1.length) := by
  have h5 := h.n5
  have hp : 2 ^ d.2.2.1.length ≤ 2 ^ 5 := Nat.pow_le_pow_right (by omega) h5
  refine ⟨fun s hs => ?_, (setOf_bit h _).1, fun s _ t _ _ => (setOf_bit h _).1, fun s _ => ?_⟩
  · have := hs.b
    refine ⟨this.1, ?_⟩
    have h2 : ((2 ^ d.2.2.1.length : Nat) : Int) ≤ ((2 ^ 5 : Nat) : Int) := by exact_mod_cast hp
    have h3 : ((2 ^ 5 : Nat) : Int) = 32 := rfl
    show s < 32
    omega
  · unfold mkH; split <;> simp
/-- All one letter ahead. -/
theorem sets_1_L (h : HOk d) {s t : Int} (hs : SetN d.2.2.1.length s) (t0 : 0 ≤ t) (t1 : t < d.1) {R : Type} (L : Int → Int → Option R)
    (hL : ∀ x k : Int, 0 ≤ k → k < d.2.2.1.length → 0 ≤ ix (ix d.2.2.1 k) t → (bitP s k → L x k = L (ior .i64 x (ishl .i64 1 (ix (ix d.2.2.1 k) t))) (k + 1)) ∧ (¬ bitP s k → L x k = L x (k + 1))) :
    ∃ x, SetN d.2.2.1.length x ∧ (∀ r : Int, 0 ≤ r → r < d.2.2.1.length → (bitP x r ↔ ∃ q : Int, 0 ≤ q ∧ q < d.2.2.1.length ∧ bitP s q ∧ ix (ix d.2.2.1 q) t = r)) ∧ L 0 0 = L x (d.2.2.1.length : Int) := by
  have key : ∀ (n k : Nat) (x : Int), d.2.2.1.length - k = n → k ≤ d.2.2.1.length → SetN d.2.2.1.length x → (∀ r : Int, 0 ≤ r → r < d.2.2.1.length → (bitP x r ↔ ∃ q : Int, 0 ≤ q ∧ q < k ∧ bitP s q ∧ ix (ix d.2.2.1 q) t = r)) →
      ∃ x', SetN d.2.2.1.length x' ∧ (∀ r : Int, 0 ≤ r → r < d.2.2.1.length → (bitP x' r ↔ ∃ q : Int, 0 ≤ q ∧ q < d.2.2.1.length ∧ bitP s q ∧ ix (ix d.2.2.1 q) t = r)) ∧ L x k = L x' (d.2.2.1.length : Int) := by
    intro n
    induction n with
    | zero =>
      intro k x hn hk h1 h2
      obtain rfl : k = d.2.2.1.length := by omega
      exact ⟨x, h1, h2, rfl⟩
    | succ n ih =>
      intro k x hn hk h1 h2
      have ht := h.to (q := (k : Int)) (by omega) (by omega) t0 t1
      obtain ⟨hL1, hL2⟩ := hL x k (by omega) (by omega) ht.1
      by_cases c : bitP s (k : Int)
      · rw [hL1 c]
        obtain ⟨g1, _, g3⟩ := h1.or ht.1 ht.2
        refine ih (k + 1) _ (by omega) (by omega) g1 (fun r r0 r1 => ?_)
        rw [g3 r r0 r1, h2 r r0 r1]
        constructor
        · rintro (⟨q, q0, q1, e⟩ | e)
          · exact ⟨q, q0, by omega, e⟩
          · exact ⟨k, by omega, by omega, c, e.symm⟩
        · rintro ⟨q, q0, q1, e1, e2⟩
          by_cases e : q = k
          · subst e; exact .inr e2.symm
          · exact .inl ⟨q, q0, by omega, e1, e2⟩
      · rw [hL2 c]
        refine ih (k + 1) _ (by omega) (by omega) h1 (fun r r0 r1 => ?_)
        rw [h2 r r0 r1]
        constructor
        · rintro ⟨q, q0, q1, e⟩; exact ⟨q, q0, by omega, e⟩
        · rintro ⟨q, q0, q1, e1, e2⟩
          by_cases e : q = k
          · subst e; exact absurd e1 c
          · exact ⟨q, q0, by omega, e1, e2⟩
  exact key _ 0 0 rfl (by omega) (SetN.zero h.n16).1 (fun r r0 r1 => ⟨fun g => absurd g ((SetN.zero h.n16).2 r r0 r1), fun ⟨q, q0, q1, _⟩ => by omega⟩)
theorem sets_1_spec (h : HOk d) {s : Int} (hs : SetN d.2.2.1.length s) {t : Int} (t0 : 0 ≤ t) (t1 : t < d.1) : higman_sets_1 s t d = some (nxH true d s t) := by
  have h5 := h.n5
  obtain ⟨x, x1, x2, x3⟩ := sets_1_L h hs t0 t1 (higman_sets_1_L3 s t d) (fun x k k0 k1 hto => by
    have hr := h.ok.tab.rowlen k0 k1
    refine ⟨fun c => ?_, fun c => ?_⟩
    · conv => lhs; rw [higman_sets_1_L3_eq]; unfold higman_sets_1_L3_B
      rw [if_pos (by simp; omega)]
      refine G_to (by omega) (G_to (by omega) ?_)
      rw [if_pos (by unfold bitP at c; simpa using c)]
      exact G_to (by omega) (G_to (by omega) (G_to (by unfold fits; omega) rfl))
    · conv => lhs; rw [higman_sets_1_L3_eq]; unfold higman_sets_1_L3_B
      rw [if_pos (by simp; omega)]
      refine G_to (by omega) (G_to (by omega) ?_)
      rw [if_neg (by unfold bitP at c; simpa using c)]
      exact G_to (by unfold fits; omega) rfl)
  unfold higman_sets_1
  rw [x3, higman_sets_1_L3_eq]; unfold higman_sets_1_L3_B
  rw [if_neg (by simp)]
  unfold higman_Up_1
  obtain ⟨u1, u2⟩ := hs.union x1
  obtain ⟨v1, v2⟩ := nxH_bit h true s t
  have : ior .i64 s x = nxH true d s t := u1.ext v1 (fun r r0 r1 => by
    rw [u2 r r0 r1, v2 r r0 r1, x2 r r0 r1]
    unfold Ld
    simp only [true_and, if_true, eq_comm])
  rw [this]; rfl
theorem sets_2_spec (h : HOk d) {s g : Int} (hs : SetN d.2.2.1.length s) (hg : SetN d.2.2.1.length g) (hb : ∀ q : Int, 0 ≤ q → q < d.2.2.1.length → (bitP g q ↔ ix d.2.2.2.1 q = 1)) : higman_sets_2 s g = some (mkH d s) := by
  have e : (¬ iand .i64 s g = 0) ↔ ∃ q : Int, 0 ≤ q ∧ q < d.2.2.1.length ∧ bitP s q ∧ ix d.2.2.2.1 q = 1 := (hs.meet hg).trans ⟨fun ⟨r, r0, r1, r2, r3⟩ => ⟨r, r0, r1, r2, (hb r r0 r1).1 r3⟩, fun ⟨r, r0, r1, r2, r3⟩ => ⟨r, r0, r1, r2, (hb r r0 r1).2 r3⟩⟩
  unfold higman_sets_2 mkH
  by_cases c : iand .i64 s g = 0
  · rw [if_neg (by simpa using c), if_neg (fun hh => e.2 hh c)]
  · rw [if_pos (by simpa using c), if_pos (e.1 c)]
theorem mark01 (h : HOk d) {q : Int} (q0 : 0 ≤ q) (q1 : q < d.2.2.1.length) : ix d.2.2.2.1 q = 0 ∨ ix d.2.2.2.1 q = 1 := by
  have hm := h.ok.mkl
  have := h.ok.mok _ (ix_mem (l := d.2.2.2.1) q0 (by omega))
  unfold badD at this
  omega
/-- The good states. -/
theorem good_L (h : HOk d) {R : Type} (L : Int → Int → Option R) (hL : ∀ x k : Int, 0 ≤ k → k < d.2.2.1.length → L k x = L (k + 1) (ior .i64 x (ishl .i64 (ix d.2.2.2.1 k) k))) :
    ∃ g, SetN d.2.2.1.length g ∧ (∀ q : Int, 0 ≤ q → q < d.2.2.1.length → (bitP g q ↔ ix d.2.2.2.1 q = 1)) ∧ L 0 0 = L (d.2.2.1.length : Int) g := by
  have key : ∀ (n k : Nat), d.2.2.1.length - k = n → k ≤ d.2.2.1.length → L k (setOf (fun q => ix d.2.2.2.1 q = 1) k) = L (d.2.2.1.length : Int) (setOf (fun q => ix d.2.2.2.1 q = 1) d.2.2.1.length) := by
    intro n
    induction n with
    | zero =>
      intro k hn hk
      obtain rfl : k = d.2.2.1.length := by omega
      rfl
    | succ n ih =>
      intro k hn hk
      rw [hL _ k (by omega) (by omega)]
      have := ih (k + 1) (by omega) (by omega)
      rw [← this]
      congr 1
      conv => rhs; unfold setOf
      rcases mark01 h (q := (k : Int)) (by omega) (by omega) with c | c
      · rw [c, if_neg (by omega)]
        obtain ⟨hN, m, e1, e2⟩ := (setOf_ok h.n16 (fun q => ix d.2.2.2.1 q = 1) k (by omega)).1
        have hp := pow_le16 hN
        have h5 := h.n5
        rw [e1, show (0 : Int) = ((0 : Nat) : Int) from rfl, ishl_nat (by omega) (by omega), ior_nat (by omega) (by rw [Nat.zero_shiftLeft]; omega), Nat.zero_shiftLeft, Nat.or_zero]
      · rw [c, if_pos rfl]
  obtain ⟨h1, h2⟩ := setOf_bit h (fun q => ix d.2.2.2.1 q = 1)
  exact ⟨_, h1, h2, key _ 0 rfl (by omega)⟩
theorem ahead_L6 (h : HOk d) {cur t : Int} (t0 : 0 ≤ t) (t1 : t < d.2.2.1.length) {r3 : Int → Int → Option Int} {x : Int} (hx : SetN d.2.2.1.length x) :
    ∃ x', SetN d.2.2.1.length x' ∧ x ≤ x' ∧ (∀ r : Int, 0 ≤ r → r < d.2.2.1.length → (bitP x' r ↔ bitP x r ∨ bitP cur t ∧ ∃ a : Int, 0 ≤ a ∧ a < d.1 ∧ ix (ix d.2.2.1 t) a = r)) ∧ higman_ahead_L6 d cur t r3 x 0 = r3 x' (t + 1) := by
  have hr := h.ok.tab.rowlen t0 t1
  have h1 := h.ok.let1
  have h5 := h.n5
  have key : ∀ (n : Nat) (a x : Int), (d.1 - a).toNat = n → 0 ≤ a → a ≤ d.1 → SetN d.2.2.1.length x →
      ∃ x', SetN d.2.2.1.length x' ∧ x ≤ x' ∧ (∀ r : Int, 0 ≤ r → r < d.2.2.1.length → (bitP x' r ↔ bitP x r ∨ bitP cur t ∧ ∃ b : Int, a ≤ b ∧ b < d.1 ∧ ix (ix d.2.2.1 t) b = r)) ∧ higman_ahead_L6 d cur t r3 x a = r3 x' (t + 1) := by
    intro n
    induction n with
    | zero =>
      intro a x hn a0 a1 hx
      refine ⟨x, hx, by omega, fun r r0 r1 => ⟨.inl, fun g => g.elim id (fun ⟨_, b, b0, b1, _⟩ => by omega)⟩, ?_⟩
      rw [higman_ahead_L6_eq]; unfold higman_ahead_L6_B
      rw [if_neg (by simp; omega)]
      exact G_to (by unfold fits; omega) rfl
    | succ n ih =>
      intro a x hn a0 a1 hx
      have hto := h.to t0 t1 a0 (by omega)
      by_cases c : bitP cur t
      · obtain ⟨g1, g2, g3⟩ := hx.or hto.1 hto.2
        obtain ⟨x', z1, z2, z3, z4⟩ := ih (a + 1) _ (by omega) (by omega) (by omega) g1
        refine ⟨x', z1, by omega, fun r r0 r1 => ?_, ?_⟩
        · rw [z3 r r0 r1, g3 r r0 r1]
          constructor
          · rintro ((e | e) | ⟨e, b, b0, b1, b2⟩)
            · exact .inl e
            · exact .inr ⟨c, a, by omega, by omega, e.symm⟩
            · exact .inr ⟨e, b, by omega, b1, b2⟩
          · rintro (e | ⟨e, b, b0, b1, b2⟩)
            · exact .inl (.inl e)
            · by_cases c2 : b = a
              · subst c2; exact .inl (.inr b2.symm)
              · exact .inr ⟨e, b, by omega, b1, b2⟩
        · rw [higman_ahead_L6_eq]; unfold higman_ahead_L6_B
          rw [if_pos (by simp; omega)]
          refine G_to (by omega) (G_to (by omega) ?_)
          rw [if_pos (by unfold bitP at c; simpa using c)]
          exact G_to (by omega) (G_to (by unfold fits; omega) z4)
      · obtain ⟨x', z1, z2, z3, z4⟩ := ih (a + 1) x (by omega) (by omega) (by omega) hx
        refine ⟨x', z1, z2, fun r r0 r1 => (z3 r r0 r1).trans (or_congr Iff.rfl ⟨fun g => absurd g.1 c, fun g => absurd g.1 c⟩), ?_⟩
        rw [higman_ahead_L6_eq]; unfold higman_ahead_L6_B
        rw [if_pos (by simp; omega)]
        refine G_to (by omega) (G_to (by omega) ?_)
        rw [if_neg (by unfold bitP at c; simpa using c)]
        exact G_to (by unfold fits; omega) z4
  exact key _ 0 x rfl (by omega) (by omega) hx
theorem ahead_L3 (h : HOk d) {cur : Int} (hc : SetN d.2.2.1.length cur) {r1 : Int → Option Int} :
    ∃ x', SetN d.2.2.1.length x' ∧ cur ≤ x' ∧ (∀ r : Int, 0 ≤ r → r < d.2.2.1.length → (bitP x' r ↔ bitP cur r ∨ ∃ q : Int, 0 ≤ q ∧ q < d.2.2.1.length ∧ bitP cur q ∧ ∃ a : Int, 0 ≤ a ∧ a < d.1 ∧ ix (ix d.2.2.1 q) a = r)) ∧ higman_ahead_L3 d cur r1 cur 0 = if x' = cur then some cur else r1 x' := by
  have key : ∀ (n : Nat) (t x : Int), (d.2.2.1.length - t).toNat = n → 0 ≤ t → t ≤ d.2.2.1.length → SetN d.2.2.1.length x →
      ∃ x', SetN d.2.2.1.length x' ∧ x ≤ x' ∧ (∀ r : Int, 0 ≤ r → r < d.2.2.1.length → (bitP x' r ↔ bitP x r ∨ ∃ q : Int, t ≤ q ∧ q < d.2.2.1.length ∧ bitP cur q ∧ ∃ a : Int, 0 ≤ a ∧ a < d.1 ∧ ix (ix d.2.2.1 q) a = r)) ∧ higman_ahead_L3 d cur r1 x t = if x' = cur then some cur else r1 x' := by
    intro n
    induction n with
    | zero =>
      intro t x hn t0 t1 hx
      refine ⟨x, hx, by omega, fun r r0 r1 => ⟨.inl, fun g => g.elim id (fun ⟨q, q0, q1, _⟩ => by omega)⟩, ?_⟩
      rw [higman_ahead_L3_eq]; unfold higman_ahead_L3_B
      rw [if_neg (by simp; omega)]
      simp only [decide_eq_true_eq]
    | succ n ih =>
      intro t x hn t0 t1 hx
      obtain ⟨y, y1, y2, y3, y4⟩ := ahead_L6 h (cur := cur) (r3 := higman_ahead_L3 d cur r1) t0 (by omega) hx
      obtain ⟨x', z1, z2, z3, z4⟩ := ih (t + 1) y (by omega) (by omega) (by omega) y1
      refine ⟨x', z1, by omega, fun r r0 r1 => ?_, ?_⟩
      · rw [z3 r r0 r1, y3 r r0 r1]
        constructor
        · rintro ((e | ⟨e1, e2⟩) | ⟨q, q0, q1, e⟩)
          · exact .inl e
          · exact .inr ⟨t, by omega, by omega, e1, e2⟩
          · exact .inr ⟨q, by omega, q1, e⟩
        · rintro (e | ⟨q, q0, q1, e1, e2⟩)
          · exact .inl (.inl e)
          · by_cases c2 : q = t
            · subst c2; exact .inl (.inr ⟨e1, e2⟩)
            · exact .inr ⟨q, by omega, q1, e1, e2⟩
      · rw [higman_ahead_L3_eq]; unfold higman_ahead_L3_B
        rw [if_pos (by simp; omega)]
        refine G_to (by omega) ?_
        rw [y4]; exact z4
  exact key _ 0 cur rfl (by omega) (by omega) hc
theorem ahead_spec (h : HOk d) {s : Int} (hs : SetN d.2.2.1.length s) : ∃ c, SetN d.2.2.1.length c ∧ (∀ r : Int, 0 ≤ r → r < d.2.2.1.length → (bitP c r ↔ ∃ q : Int, 0 ≤ q ∧ q < d.2.2.1.length ∧ bitP s q ∧ Rch d q r)) ∧ higman_ahead d s = some c := by
  have key : ∀ (n : Nat) (cur : Int), ((2 ^ d.2.2.1.length : Nat) : Int) - cur < n → SetN d.2.2.1.length cur → (∀ r : Int, 0 ≤ r → r < d.2.2.1.length → bitP s r → bitP cur r) → (∀ r : Int, 0 ≤ r → r < d.2.2.1.length → bitP cur r → ∃ q : Int, 0 ≤ q ∧ q < d.2.2.1.length ∧ bitP s q ∧ Rch d q r) →
      ∃ c, SetN d.2.2.1.length c ∧ (∀ r : Int, 0 ≤ r → r < d.2.2.1.length → (bitP c r ↔ ∃ q : Int, 0 ≤ q ∧ q < d.2.2.1.length ∧ bitP s q ∧ Rch d q r)) ∧ higman_ahead_L1 d cur = some c := by
    intro n
    induction n with
    | zero => intro cur hn hc; have := hc.b; omega
    | succ n ih =>
      intro cur hn hc h1 h2
      obtain ⟨x, x1, x2, x3, x4⟩ := ahead_L3 h hc (r1 := higman_ahead_L1 d)
      rw [higman_ahead_L1_eq]; unfold higman_ahead_L1_B
      rw [x4]
      by_cases c : x = cur
      · subst c
        rw [if_pos rfl]
        refine ⟨x, x1, fun r r0 r1 => ⟨h2 r r0 r1, fun ⟨q, q0, q1, e1, e2⟩ => ?_⟩, rfl⟩
        exact (Rch.closed h (p := fun q => bitP x q) (fun q q0 q1 e a a0 a1 => by
          have ht := h.to q0 q1 a0 a1
          exact (x3 _ ht.1 ht.2).2 (.inr ⟨q, q0, q1, e, a, a0, a1, rfl⟩)) q0 q1 (h1 q q0 q1 e1) e2).1
      · rw [if_neg c]
        refine ih x (by omega) x1 (fun r r0 r1 e => (x3 r r0 r1).2 (.inl (h1 r r0 r1 e))) (fun r r0 r1 e => ?_)
        rcases (x3 r r0 r1).1 e with e | ⟨q, q0, q1, e1, a, a0, a1, rfl⟩
        · exact h2 r r0 r1 e
        · obtain ⟨p, p0, p1, p2, p3⟩ := h2 q q0 q1 e1
          exact ⟨p, p0, p1, p2, p3.step a0 a1⟩
  have := hs.b
  exact key (2 ^ d.2.2.1.length + 1) s (by omega) hs (fun _ _ _ e => e) (fun r r0 r1 e => ⟨r, r0, r1, e, Rch.refl r⟩)
theorem sets_1_1_spec (h : HOk d) {s : Int} (hs : SetN d.2.2.1.length s) {t : Int} (t0 : 0 ≤ t) (t1 : t < d.1) : higman_sets_1_1 s t d d = some (nxH false d s t, d) := by
  have h5 := h.n5
  obtain ⟨x, x1, x2, x3⟩ := sets_1_L h hs t0 t1 (higman_sets_1_1_L3 s t d d) (fun x k k0 k1 hto => by
    have hr := h.ok.tab.rowlen k0 k1
    refine ⟨fun c => ?_, fun c => ?_⟩
    · conv => lhs; rw [higman_sets_1_1_L3_eq]; unfold higman_sets_1_1_L3_B
      rw [if_pos (by simp; omega)]
      refine G_to (by omega) (G_to (by omega) ?_)
      rw [if_pos (by unfold bitP at c; simpa using c)]
      exact G_to (by omega) (G_to (by omega) (G_to (by unfold fits; omega) rfl))
    · conv => lhs; rw [higman_sets_1_1_L3_eq]; unfold higman_sets_1_1_L3_B
      rw [if_pos (by simp; omega)]
      refine G_to (by omega) (G_to (by omega) ?_)
      rw [if_neg (by unfold bitP at c; simpa using c)]
      exact G_to (by unfold fits; omega) rfl)
  unfold higman_sets_1_1
  rw [x3, higman_sets_1_1_L3_eq]; unfold higman_sets_1_1_L3_B
  rw [if_neg (by simp)]
  unfold higman_Down_1
  obtain ⟨c, u1, u2, u3⟩ := ahead_spec h x1
  obtain ⟨v1, v2⟩ := nxH_bit h false s t
  have : c = nxH false d s t := u1.ext v1 (fun r r0 r1 => by
    rw [u2 r r0 r1, v2 r r0 r1]
    unfold Ld
    constructor
    · rintro ⟨q, q0, q1, e1, e2⟩
      obtain ⟨p, p0, p1, p2, p3⟩ := (x2 q q0 q1).1 e1
      subst p3
      exact .inr ⟨p, p0, p1, p2, e2⟩
    · rintro (e | ⟨p, p0, p1, p2, p3⟩)
      · exact absurd e.1 (by simp)
      · have ht := h.to p0 p1 t0 t1
        exact ⟨_, ht.1, ht.2, (x2 _ ht.1 ht.2).2 ⟨p, p0, p1, p2, rfl⟩, p3⟩)
  refine bind_to (bind_to u3 rfl) ?_
  rw [this]
theorem r32_set_spec {l : List Bool} (hl : (l.length : Int) ≤ 1000) : r32_set l = some (setOf (fun q => ix l q = true) l.length) := by
  have key : ∀ (n k : Nat), l.length - k = n → k ≤ l.length → r32_set_L3 l (setOf (fun q => ix l q = true) k) k = some (setOf (fun q => ix l q = true) l.length) := by
    intro n
    induction n with
    | zero =>
      intro k hn hk
      obtain rfl : k = l.length := by omega
      rw [r32_set_L3_eq]; unfold r32_set_L3_B
      rw [if_neg (by simp)]
    | succ n ih =>
      intro k hn hk
      have ih' := ih (k + 1) (by omega) (by omega)
      rw [r32_set_L3_eq]; unfold r32_set_L3_B
      rw [if_pos (by simp; omega)]
      refine G_to (by omega) ?_
      rw [setOf_succ] at ih'
      by_cases c : ix l (k : Int) = true
      · rw [if_pos c] at ih'
        rw [if_pos c]
        exact G_to (by omega) (G_to (by unfold fits; omega) ih')
      · rw [if_neg c] at ih'
        rw [if_neg c]
        exact G_to (by unfold fits; omega) ih'
  unfold r32_set
  exact key _ 0 rfl (by omega)
structure LeadOk (d : Dt) (up : Bool) (q : Int) (l : List Bool) : Prop where
  len : l.length = d.2.2.1.length
  bit : ∀ r : Int, 0 ≤ r → r < d.2.2.1.length → (ix l r = true ↔ Ld up d q r)
theorem lead_set (h : HOk d) {up : Bool} {q : Int} {l : List Bool} (hl : LeadOk d up q l) : ∃ s, r32_set l = some s ∧ SetN d.2.2.1.length s ∧ ∀ r : Int, 0 ≤ r → r < d.2.2.1.length → (bitP s r ↔ Ld up d q r) := by
  have h5 := h.n5
  have hll := hl.len
  obtain ⟨h1, h2⟩ := setOf_bit h (fun q => ix l q = true)
  exact ⟨_, by rw [r32_set_spec (by omega), hll], h1, fun r r0 r1 => (h2 r r0 r1).trans (hl.bit r r0 r1)⟩
theorem Wide_L36 (h : HOk d) {up : Bool} {lead : List (List Bool)} (hll : lead.length = d.2.2.1.length) (hl : ∀ q : Int, 0 ≤ q → q < d.2.2.1.length → LeadOk d up q (ix lead q)) {i t s : Int} (t0 : 0 ≤ t) (t1 : t < d.1) {NA l next' : List Int} {r30} (i0 : 0 ≤ i) (i1 : i < l.length) (e : ix l i = s) (hs : SetN d.2.2.1.length s) :
    r32_Wide_L36 d lead i t NA l next' r30 (if up = true then s else 0) 0 = r32_Wide_L36 d lead i t NA l next' r30 (nxH up d s t) (d.2.2.1.length : Int) := by
  have h5 := h.n5
  have key : ∀ (n k : Nat) (x : Int), d.2.2.1.length - k = n → k ≤ d.2.2.1.length → SetN d.2.2.1.length x → (∀ r : Int, 0 ≤ r → r < d.2.2.1.length → (bitP x r ↔ (up = true ∧ bitP s r) ∨ ∃ q : Int, 0 ≤ q ∧ q < k ∧ bitP s q ∧ Ld up d (ix (ix d.2.2.1 q) t) r)) →
      r32_Wide_L36 d lead i t NA l next' r30 x k = r32_Wide_L36 d lead i t NA l next' r30 (nxH up d s t) (d.2.2.1.length : Int) := by
    intro n
    induction n with
    | zero =>
      intro k x hn hk h1 h2
      obtain rfl : k = d.2.2.1.length := by omega
      obtain ⟨v1, v2⟩ := nxH_bit h up s t
      rw [h1.ext v1 (fun r r0 r1 => (h2 r r0 r1).trans (v2 r r0 r1).symm)]
    | succ n ih =>
      intro k x hn hk h1 h2
      have hto := h.to (q := (k : Int)) (by omega) (by omega) t0 t1
      have hrl := h.ok.tab.rowlen (q := (k : Int)) (by omega) (by omega)
      obtain ⟨y, y1, y2, y3⟩ := lead_set h (hl _ hto.1 hto.2)
      conv => lhs; rw [r32_Wide_L36_eq]; unfold r32_Wide_L36_B
      rw [if_pos (by simp; omega), e]
      refine G_to (by omega) (G_to (by omega) (G_to (by omega) ?_))
      by_cases c : bitP s (k : Int)
      · rw [if_pos (by unfold bitP at c; simpa using c)]
        refine G_to (by omega) (G_to (by omega) (G_to (by omega) (G_to (by omega) (bind_to y1 (G_to (by unfold fits; omega) ?_)))))
        obtain ⟨u1, u2⟩ := h1.union y2
        refine ih (k + 1) _ (by omega) (by omega) u1 (fun r r0 r1 => ?_)
        rw [u2 r r0 r1, h2 r r0 r1, y3 r r0 r1]
        constructor
        · rintro ((g | ⟨q, q0, q1, g⟩) | g)
          · exact .inl g
          · exact .inr ⟨q, q0, by omega, g⟩
          · exact .inr ⟨k, by omega, by omega, c, g⟩
        · rintro (g | ⟨q, q0, q1, g1, g2⟩)
          · exact .inl (.inl g)
          · by_cases c2 : q = k
            · subst c2; exact .inr g2
            · exact .inl (.inr ⟨q, q0, by omega, g1, g2⟩)
      · rw [if_neg (by unfold bitP at c; simpa using c)]
        refine G_to (by unfold fits; omega) ?_
        refine ih (k + 1) _ (by omega) (by omega) h1 (fun r r0 r1 => ?_)
        rw [h2 r r0 r1]
        constructor
        · rintro (g | ⟨q, q0, q1, g⟩)
          · exact .inl g
          · exact .inr ⟨q, q0, by omega, g⟩
        · rintro (g | ⟨q, q0, q1, g1, g2⟩)
          · exact .inl g
          · by_cases c2 : q = k
            · subst c2; exact absurd g1 c
            · exact .inr ⟨q, q0, by omega, g1, g2⟩
  have hz := SetN.zero h.n16
  by_cases c : up = true
  · rw [if_pos c]
    exact key _ 0 s rfl (by omega) hs (fun r r0 r1 => ⟨fun g => .inl ⟨c, g⟩, fun g => g.elim (fun z => z.2) (fun ⟨q, q0, q1, _⟩ => by omega)⟩)
  · rw [if_neg c]
    exact key _ 0 0 rfl (by omega) hz.1 (fun r r0 r1 => ⟨fun g => absurd g (hz.2 r r0 r1), fun g => g.elim (fun z => absurd z.1 c) (fun ⟨q, q0, q1, _⟩ => by omega)⟩)
def MarkTo (d : Dt) (s : Int) (k : Nat) (x : Int) : Prop := ((∃ q : Int, 0 ≤ q ∧ q < k ∧ bitP s q ∧ ix d.2.2.2.1 q = 1) → x = 1) ∧ ((¬ ∃ q : Int, 0 ≤ q ∧ q < k ∧ bitP s q ∧ ix d.2.2.2.1 q = 1) → x = 0)
theorem MarkTo.skip {s x : Int} {k : Nat} (h : MarkTo d s k x) (hk : ¬ (bitP s (k : Int) ∧ ix d.2.2.2.1 (k : Int) = 1)) : MarkTo d s (k + 1) x := by
  refine ⟨fun ⟨q, q0, q1, g⟩ => h.1 ⟨q, q0, ?_, g⟩, fun hh => h.2 (fun ⟨q, q0, q1, g⟩ => hh ⟨q, q0, by omega, g⟩)⟩
  have : q ≠ k := fun e => by subst e; exact hk g
  clear h hk g
  omega
theorem Wide_L48 (h : HOk d) {i : Int} {D2 : List (List Int)} {D3 : List Int} {r26} {NA l next' : List Int} {s : Int} (i0 : 0 ≤ i) (i1 : i < l.length) (hll : l.length ≤ 3000) (h3 : D3.length ≤ 3000) (e : ix l i = s) :
    r32_Wide_L48 d i d.1 0 D2 D3 r26 NA l next' 0 0 = r26 (i + 1) NA l d.1 0 (D2 ++ [next']) (D3 ++ [mkH d s]) := by
  have h5 := h.n5
  have hm := h.ok.mkl
  have key : ∀ (n k : Nat) (x : Int), d.2.2.1.length - k = n → k ≤ d.2.2.1.length → MarkTo d s k x →
      r32_Wide_L48 d i d.1 0 D2 D3 r26 NA l next' x k = r26 (i + 1) NA l d.1 0 (D2 ++ [next']) (D3 ++ [mkH d s]) := by
    intro n
    induction n with
    | zero =>
      intro k x hn hk hx
      obtain rfl : k = d.2.2.1.length := by omega
      have : x = mkH d s := by
        unfold mkH
        by_cases c : ∃ q : Int, 0 ≤ q ∧ q < d.2.2.1.length ∧ bitP s q ∧ ix d.2.2.2.1 q = 1
        · rw [if_pos c, hx.1 c]
        · rw [if_neg c, hx.2 c]
      rw [r32_Wide_L48_eq]; unfold r32_Wide_L48_B
      rw [if_neg (by simp), this]
      exact G_to (by unfold room; simp; omega) (G_to (by unfold fits; omega) rfl)
    | succ n ih =>
      intro k x hn hk hx
      rw [r32_Wide_L48_eq]; unfold r32_Wide_L48_B r32_Wide_J50
      rw [if_pos (by simp; omega), e]
      refine G_to (by omega) (G_to (by omega) (G_to (by omega) ?_))
      by_cases c1 : bitP s (k : Int)
      · rw [if_pos (by unfold bitP at c1; simpa using c1)]
        refine G_to (by omega) ?_
        by_cases c2 : ix d.2.2.2.1 (k : Int) = 1
        · rw [if_pos (decide_eq_true c2)]
          exact G_to (by unfold fits; omega) (ih (k + 1) 1 (by omega) (by omega) ⟨fun _ => rfl, fun hh => absurd ⟨(k : Int), by omega, by omega, c1, c2⟩ hh⟩)
        · rw [if_neg (by simpa using c2)]
          refine G_to (by unfold fits; omega) (ih (k + 1) x (by omega) (by omega) (hx.skip (fun g => c2 g.2)))
      · rw [if_neg (by unfold bitP at c1; simpa using c1), if_neg (by simp)]
        refine G_to (by unfold fits; omega) (ih (k + 1) x (by omega) (by omega) (hx.skip (fun g => c1 g.1)))
  exact key _ 0 0 rfl (by omega) ⟨fun ⟨q, q0, q1, _⟩ => by omega, fun _ => rfl⟩
def NumH (NA l : List Int) : Prop := NA.length = 32 ∧ ∀ s : Int, 0 ≤ s → s < 32 → ix NA s = match mfind l s with
  | some j => (j : Int) + 1
  | none => 0
theorem NumH.push {NA l : List Int} (h : NumH NA l) {x : Int} (x0 : 0 ≤ x) (x1 : x < 32) (hx : x ∉ l) : NumH (NA.set x.toNat ((l ++ [x]).length : Int)) (l ++ [x]) := by
  have hl := h.1
  refine ⟨by rw [List.length_set]; exact h.1, fun s s0 s1 => ?_⟩
  by_cases e : s = x
  · subst e
    rw [ix_set_same s0 (by omega), mfind_new hx]; simp
  · rw [ix_set_ne x0 s0 (Ne.symm e), h.2 s s0 s1]
    cases hm : mfind l s with
    | some j => rw [mfind_app _ hm]
    | none =>
      rw [mfind_none.2 (fun hh => by
        rcases List.mem_append.1 hh with hh | hh
        · exact mfind_none.1 hm hh
        · exact e (List.mem_singleton.1 hh))]
theorem Wide_row (h : HOk d) {up : Bool} {lead : List (List Bool)} (hll : lead.length = d.2.2.1.length) (hld : ∀ q : Int, 0 ≤ q → q < d.2.2.1.length → LeadOk d up q (ix lead q)) {i : Int} {D2 : List (List Int)} {D3 : List Int} {r26} {s : Int} {l NA : List Int} (hs : SetN d.2.2.1.length s) (hl : LiOk 32 (SetN d.2.2.1.length) l) (i0 : 0 ≤ i) (i1 : i < l.length) (e : ix l i = s) (hN : NumH NA l) (h2 : D2.length ≤ 3000) (h3 : D3.length ≤ 3000) :
    ∃ NA', NumH NA' (xRow (nxH up d) s l d.1.toNat).1 ∧ r32_Wide_L30 d up lead i d.1 0 D2 D3 r26 0 NA l [] = r26 (i + 1) NA' (xRow (nxH up d) s l d.1.toNat).1 d.1 0 (D2 ++ [(xRow (nxH up d) s l d.1.toNat).2]) (D3 ++ [mkH d s]) := by
  have hx := H_xok h up
  have h1 := h.ok.let1
  have key : ∀ (n t : Nat) (NA : List Int), d.1.toNat - t = n → t ≤ d.1.toNat → NumH NA (xRow (nxH up d) s l t).1 →
      ∃ NA', NumH NA' (xRow (nxH up d) s l d.1.toNat).1 ∧ r32_Wide_L30 d up lead i d.1 0 D2 D3 r26 t NA (xRow (nxH up d) s l t).1 (xRow (nxH up d) s l t).2 = r26 (i + 1) NA' (xRow (nxH up d) s l d.1.toNat).1 d.1 0 (D2 ++ [(xRow (nxH up d) s l d.1.toNat).2]) (D3 ++ [mkH d s]) := by
    intro n
    induction n with
    | zero =>
      intro t NA hn ht hN
      obtain rfl : t = d.1.toNat := by omega
      obtain ⟨g1, ⟨⟨y, hy⟩, g2, _⟩⟩ := xRow_ok hx hs hl d.1.toNat (Nat.le_refl _)
      have hlen := g1.len hx
      have hi : i < (xRow (nxH up d) s l d.1.toNat).1.length := by rw [hy, List.length_append]; omega
      have ei : ix (xRow (nxH up d) s l d.1.toNat).1 i = s := by rw [hy, ix_append_left i0 i1]; exact e
      refine ⟨NA, hN, ?_⟩
      rw [r32_Wide_L30_eq]; unfold r32_Wide_L30_B
      rw [if_neg (by simp; omega)]
      refine G_to (by unfold room; simp; omega) ?_
      exact Wide_L48 h i0 hi (by omega) h3 ei
    | succ n ih =>
      intro t NA hn ht hN
      obtain ⟨g1, ⟨⟨y, hy⟩, g2, _⟩⟩ := xRow_ok hx hs hl t (by omega)
      have hlen := g1.len hx
      have hi : i < (xRow (nxH up d) s l t).1.length := by rw [hy, List.length_append]; omega
      have ei : ix (xRow (nxH up d) s l t).1 i = s := by rw [hy, ix_append_left i0 i1]; exact e
      have hp := hx.b _ (hx.n s hs t (by omega) (by omega))
      have hNl := hN.1
      have hNs := hN.2 _ hp.1 hp.2
      have ih' := fun NA => ih (t + 1) NA (by omega) (by omega)
      have e1 : r32_Wide_L30 d up lead i d.1 0 D2 D3 r26 t NA (xRow (nxH up d) s l t).1 (xRow (nxH up d) s l t).2 = r32_Wide_L36 d lead i t NA (xRow (nxH up d) s l t).1 (xRow (nxH up d) s l t).2 (r32_Wide_L30 d up lead i d.1 0 D2 D3 r26) (nxH up d s t) (d.2.2.1.length : Int) := by
        rw [← Wide_L36 h hll hld (by omega) (by omega) i0 hi ei hs]
        conv => lhs; rw [r32_Wide_L30_eq]; unfold r32_Wide_L30_B r32_Wide_J34
        rw [if_pos (by simp; omega)]
        by_cases c : up = true
        · rw [if_pos c, if_pos c, ei]
          exact G_to (by omega) (G_to (by omega) rfl)
        · rw [if_neg c, if_neg c]
      rw [e1, r32_Wide_L36_eq]; unfold r32_Wide_L36_B r32_Wide_J43
      rw [if_neg (by simp)]
      cases em : mfind (xRow (nxH up d) s l t).1 (nxH up d s t) with
      | some j =>
        rw [xRow_some em] at ih'
        rw [em] at hNs
        have hNs : ix NA (nxH up d s t) = (j : Int) + 1 := hNs
        have hj := mfind_lt em
        obtain ⟨NA', z1, z2⟩ := ih' NA hN
        refine ⟨NA', z1, ?_⟩
        refine G_to (by omega) (G_to (by omega) ?_)
        rw [if_neg (by simp; omega), hNs]
        refine G_to (by omega) (G_to (by omega) (G_to (by unfold fits; omega) (G_to (by unfold room; simp; omega) (G_to (by unfold fits; omega) ?_))))
        rw [show (j : Int) + 1 - 1 = j by omega]
        exact z2
      | none =>
        rw [xRow_none em] at ih'
        rw [em] at hNs
        have hNs : ix NA (nxH up d s t) = 0 := hNs
        have hnm := mfind_none.1 em
        obtain ⟨NA', z1, z2⟩ := ih' _ (hN.push hp.1 hp.2 hnm)
        refine ⟨NA', z1, ?_⟩
        refine G_to (by omega) (G_to (by omega) ?_)
        rw [if_pos (by simp; omega)]
        refine G_to (by unfold room; simp; omega) (G_to (by omega) (G_to (by omega) (G_to (by rw [List.length_set]; omega) (G_to (by rw [List.length_set]; omega) ?_))))
        rw [ix_set_same hp.1 (by omega), List.length_append, List.length_singleton]
        rw [List.length_append, List.length_singleton] at z2
        refine G_to (by unfold fits; omega) (G_to (by unfold room; simp; omega) (G_to (by unfold fits; omega) ?_))
        rw [show (((xRow (nxH up d) s l t).1.length + 1 : Nat) : Int) - 1 = ((xRow (nxH up d) s l t).1.length : Int) by omega]
        exact z2
  exact key _ 0 NA rfl (by omega) hN
theorem Wide_ref (h : HOk d) {up : Bool} {lead : List (List Bool)} (hll : lead.length = d.2.2.1.length) (hld : ∀ q : Int, 0 ≤ q → q < d.2.2.1.length → LeadOk d up q (ix lead q)) {n : Nat} (hg : XGo (nxH up d) (mkH d) d.1.toNat (fstH up d) n) (hn : (xSt (nxH up d) (mkH d) d.1.toNat (fstH up d) n).1.length = n) {o : Dt} (ho : r3_Least (xAut (nxH up d) (mkH d) d.1.toNat (fstH up d) n) = some o) :
    ∀ (f i : Nat) (NA : List Int), n - i = f → i ≤ n → NumH NA (xSt (nxH up d) (mkH d) d.1.toNat (fstH up d) i).1 → r32_Wide_L26 d up lead i NA (xSt (nxH up d) (mkH d) d.1.toNat (fstH up d) i).1 d.1 0 (xSt (nxH up d) (mkH d) d.1.toNat (fstH up d) i).2.1 (xSt (nxH up d) (mkH d) d.1.toNat (fstH up d) i).2.2 = some o := by
  have hx := H_xok h up
  have h1 := h.ok.let1
  intro f
  induction f with
  | zero =>
    intro i NA hf hi hN
    obtain rfl : i = n := by omega
    rw [r32_Wide_L26_eq]; unfold r32_Wide_L26_B
    rw [if_neg (by rw [decide_eq_true_iff]; omega)]
    unfold xAut at ho
    rw [Int.toNat_of_nonneg (by omega)] at ho
    exact bind_to ho rfl
  | succ f ih =>
    intro i NA hf hi hN
    obtain ⟨g1, g2, g3⟩ := xSt_ok hx i (fun k hk => hg k (by omega))
    have hlt := hg i (by omega)
    have hr := g3.r
    have hm := g3.m
    have hlen := g1.len hx
    have hP := g1.p _ (ix_mem (i := (i : Int)) (by omega) (by omega))
    obtain ⟨NA', z1, z2⟩ := Wide_row (r26 := r32_Wide_L26 d up lead) (D2 := (xSt (nxH up d) (mkH d) d.1.toNat (fstH up d) i).2.1) (D3 := (xSt (nxH up d) (mkH d) d.1.toNat (fstH up d) i).2.2) h hll hld hP g1 (i := (i : Int)) (by omega) (by omega) rfl hN (by omega) (by omega)
    rw [r32_Wide_L26_eq]; unfold r32_Wide_L26_B
    rw [if_pos (by rw [decide_eq_true_iff]; omega), z2]
    exact ih (i + 1) NA' (by omega) (by omega) z1
structure Grw (d : Dt) (q0 : Int) (l l' : List Bool) (ag ag' : Bool) : Prop where
  len : l'.length = l.length
  mono : ∀ r : Int, 0 ≤ r → r < l.length → ix l r = true → ix l' r = true
  rch : (∀ r : Int, 0 ≤ r → r < l.length → ix l r = true → Rch d q0 r) → ∀ r : Int, 0 ≤ r → r < l.length → ix l' r = true → Rch d q0 r
  no : ag' = false → ag = false ∧ l' = l
  cnt : l'.countP not ≤ l.countP not
  lt : ag = false → ag' = true → l'.countP not < l.countP not
theorem Grw.refl (q0 : Int) (l : List Bool) (ag : Bool) : Grw d q0 l l ag ag := ⟨rfl, fun _ _ _ e => e, fun e => e, fun e => ⟨e, rfl⟩, Nat.le_refl _, fun e1 e2 => by rw [e1] at e2; cases e2⟩
theorem Grw.trans {q0 : Int} {l l' l'' : List Bool} {ag ag' ag'' : Bool} (h : Grw d q0 l l' ag ag') (k : Grw d q0 l' l'' ag' ag'') : Grw d q0 l l'' ag ag'' := by
  have hl := h.len
  refine ⟨k.len.trans h.len, fun r r0 r1 e => k.mono r r0 (by omega) (h.mono r r0 r1 e), fun e r r0 r1 => k.rch (fun r r0 r1 => h.rch e r r0 (by omega)) r r0 (by omega), fun e => ?_, Nat.le_trans k.cnt h.cnt, fun e1 e2 => ?_⟩
  · obtain ⟨g1, g2⟩ := k.no e
    obtain ⟨g3, g4⟩ := h.no g1
    exact ⟨g3, g2.trans g4⟩
  · cases c : ag' with
    | true => exact Nat.lt_of_le_of_lt k.cnt (h.lt e1 c)
    | false => exact Nat.lt_of_lt_of_le (k.lt c e2) h.cnt
theorem Grw.set {q0 : Int} {l : List Bool} {ag : Bool} {to : Int} (t0 : 0 ≤ to) (t1 : to < l.length) (hr : (∀ r : Int, 0 ≤ r → r < l.length → ix l r = true → Rch d q0 r) → Rch d q0 to) : Grw d q0 l (l.set to.toNat true) ag (ag || !(ix l to)) := by
  have hn : to.toNat < l.length := by omega
  have hix : ix l to = l[to.toNat] := ix_eq t0 t1
  refine ⟨by rw [List.length_set], fun r r0 r1 e => ?_, fun e r r0 r1 e2 => ?_, fun e => ?_, ?_, fun e1 e2 => ?_⟩
  · by_cases c : r = to
    · subst c; rw [ix_set_same r0 (by omega)]
    · rw [ix_set_ne t0 r0 (Ne.symm c)]; exact e
  · by_cases c : r = to
    · subst c; exact hr e
    · rw [ix_set_ne t0 r0 (Ne.symm c)] at e2; exact e r r0 r1 e2
  · cases ha : ag with
    | true => rw [ha] at e; simp at e
    | false =>
      rw [ha] at e
      have hb : ix l to = true := by simpa using e
      refine ⟨rfl, ?_⟩
      rw [hix] at hb
      rw [← hb]; exact List.set_getElem_self hn
  · rw [List.countP_set hn]; simp
  · rw [e1] at e2
    have hb : l[to.toNat] = false := by rw [← hix]; simpa using e2
    have hpos : 0 < l.countP not := List.countP_pos_iff.2 ⟨l[to.toNat], List.getElem_mem hn, by rw [hb]; rfl⟩
    rw [List.countP_set hn, hb]; simp; omega
theorem Wide_L15 (h : HOk d) {q0 p : Int} (p0 : 0 ≤ p) (p1 : p < d.2.2.1.length) {r12 : Bool → Int → List Bool → Option Dt} {l : List Bool} (hl : l.length = d.2.2.1.length) {ag : Bool} :
    ∃ l' ag', Grw d q0 l l' ag ag' ∧ (ag' = false → ix l p = true → ∀ b : Int, 0 ≤ b → b < d.1 → ix l (ix (ix d.2.2.1 p) b) = true) ∧ r32_Wide_L15 d p r12 ag 0 l = r12 ag' (p + 1) l' := by
  have h5 := h.n5
  have h1 := h.ok.let1
  have hrl := h.ok.tab.rowlen p0 p1
  have key : ∀ (n : Nat) (a : Int) (l : List Bool) (ag : Bool), (d.1 - a).toNat = n → 0 ≤ a → a ≤ d.1 → l.length = d.2.2.1.length → ∃ l' ag', Grw d q0 l l' ag ag' ∧ (ag' = false → ix l p = true → ∀ b : Int, a ≤ b → b < d.1 → ix l (ix (ix d.2.2.1 p) b) = true) ∧ r32_Wide_L15 d p r12 ag a l = r12 ag' (p + 1) l' := by
    intro n
    induction n with
    | zero =>
      intro a l ag hn a0 a1 hl
      refine ⟨l, ag, Grw.refl _ _ _, fun _ _ b b0 b1 => by omega, ?_⟩
      rw [r32_Wide_L15_eq]; unfold r32_Wide_L15_B r32_Wide_J15
      rw [if_neg (by simp; omega), if_neg (by simp)]
      exact G_to (by unfold fits; omega) rfl
    | succ n ih =>
      intro a l ag hn a0 a1 hl
      have hto := h.to p0 p1 a0 (by omega)
      by_cases c : ix l p = true
      · have hg := Grw.set (d := d) (q0 := q0) (l := l) (ag := ag) hto.1 (by omega) (fun e => (e p p0 (by omega) c).step a0 (by omega))
        obtain ⟨l', ag', z1, z2, z3⟩ := ih (a + 1) (l.set (ix (ix d.2.2.1 p) a).toNat true) (ag || !(ix l (ix (ix d.2.2.1 p) a))) (by omega) (by omega) (by omega) (by rw [List.length_set]; exact hl)
        refine ⟨l', ag', hg.trans z1, fun e1 e2 b b0 b1 => ?_, ?_⟩
        · have e3 := (z1.no e1).1
          obtain ⟨e4, e5⟩ := hg.no e3
          rw [e5] at z2
          by_cases c2 : b = a
          · subst c2
            rw [e4] at e3
            simpa using e3
          · exact z2 e1 e2 b (by omega) b1
        · rw [r32_Wide_L15_eq]; unfold r32_Wide_L15_B r32_Wide_J15 r32_Wide_J15_1 r32_Wide_J17
          rw [if_pos (by simp; omega)]
          refine G_to (by omega) (G_to (by omega) ?_)
          rw [if_pos c]
          cases hag : ag with
          | true =>
            rw [hag] at z3
            rw [if_pos rfl]
            exact G_to (by omega) (G_to (by omega) (G_to (by omega) (G_to (by omega) (G_to (by unfold fits; omega) z3))))
          | false =>
            rw [hag] at z3
            rw [if_neg (by simp)]
            exact G_to (by omega) (G_to (by omega) (G_to (by omega) (G_to (by omega) (G_to (by omega) (G_to (by omega) (G_to (by omega) (G_to (by omega) (G_to (by unfold fits; omega) z3))))))))
      · refine ⟨l, ag, Grw.refl _ _ _, fun _ e => absurd e c, ?_⟩
        rw [r32_Wide_L15_eq]; unfold r32_Wide_L15_B r32_Wide_J15
        rw [if_pos (by simp; omega)]
        refine G_to (by omega) (G_to (by omega) ?_)
        rw [if_neg c]
        exact G_to (by unfold fits; omega) rfl
  exact key _ 0 l ag rfl (by omega) (by omega) hl
theorem Wide_L12 (h : HOk d) {q0 : Int} {r9 : Bool → List Bool → Option Dt} {l : List Bool} (hl : l.length = d.2.2.1.length) {ag : Bool} :
    ∃ l' ag', Grw d q0 l l' ag ag' ∧ (ag' = false → ∀ p : Int, 0 ≤ p → p < d.2.2.1.length → ix l p = true → ∀ b : Int, 0 ≤ b → b < d.1 → ix l (ix (ix d.2.2.1 p) b) = true) ∧ r32_Wide_L12 d r9 ag 0 l = r9 ag' l' := by
  have key : ∀ (n : Nat) (k : Int) (l : List Bool) (ag : Bool), (d.2.2.1.length - k).toNat = n → 0 ≤ k → k ≤ d.2.2.1.length → l.length = d.2.2.1.length → ∃ l' ag', Grw d q0 l l' ag ag' ∧ (ag' = false → ∀ p : Int, k ≤ p → p < d.2.2.1.length → ix l p = true → ∀ b : Int, 0 ≤ b → b < d.1 → ix l (ix (ix d.2.2.1 p) b) = true) ∧ r32_Wide_L12 d r9 ag k l = r9 ag' l' := by
    intro n
    induction n with
    | zero =>
      intro k l ag hn k0 k1 hl
      refine ⟨l, ag, Grw.refl _ _ _, fun _ p p0 p1 => by omega, ?_⟩
      rw [r32_Wide_L12_eq]; unfold r32_Wide_L12_B
      rw [if_neg (by simp; omega)]
    | succ n ih =>
      intro k l ag hn k0 k1 hl
      obtain ⟨l1, ag1, y1, y2, y3⟩ := Wide_L15 h (q0 := q0) (r12 := r32_Wide_L12 d r9) (ag := ag) k0 (by omega) hl
      obtain ⟨l', ag', z1, z2, z3⟩ := ih (k + 1) l1 ag1 (by omega) (by omega) (by omega) (y1.len.trans hl)
      refine ⟨l', ag', y1.trans z1, fun e p p0 p1 e2 => ?_, ?_⟩
      · have e3 := (z1.no e).1
        rw [(y1.no e3).2] at z2
        by_cases c : p = k
        · subst c; exact y2 e3 e2
        · exact z2 e p (by omega) p1 e2
      · rw [r32_Wide_L12_eq]; unfold r32_Wide_L12_B
        rw [if_pos (by simp; omega), y3]; exact z3
  exact key _ 0 l ag rfl (by omega) (by omega) hl
theorem Wide_L9 (h : HOk d) {up : Bool} {q : Int} (q0 : 0 ≤ q) (q1 : q < d.2.2.1.length) {lead : List (List Bool)} (hll : lead.length ≤ 5) {r4 : Int → List (List Bool) → Option Dt} :
    ∃ l', LeadOk d up q l' ∧ r32_Wide_L9 d up q lead r4 true ((List.replicate d.2.2.1.length false).set q.toNat true) = r4 (q + 1) (lead ++ [l']) := by
  have h5 := h.n5
  have ini : ∀ r : Int, 0 ≤ r → r < d.2.2.1.length → (ix ((List.replicate d.2.2.1.length false).set q.toNat true) r = true ↔ r = q) := fun r r0 r1 => by
    by_cases c : r = q
    · subst c; rw [ix_set_same r0 (by rw [List.length_replicate]; omega)]; simp
    · rw [ix_set_ne q0 r0 (Ne.symm c), ix_replicate r0 (by omega)]
      simp [c]
  have inl : ((List.replicate d.2.2.1.length false).set q.toNat true).length = d.2.2.1.length := by rw [List.length_set, List.length_replicate]
  by_cases c : up = true
  · refine ⟨_, ⟨inl, fun r r0 r1 => by unfold Ld; rw [if_pos c]; exact ini r r0 r1⟩, ?_⟩
    rw [r32_Wide_L9_eq]; unfold r32_Wide_L9_B r32_Wide_J9
    rw [if_pos rfl, if_neg (by rw [c]; simp)]
    exact G_to (by unfold room; simp; omega) (G_to (by unfold fits; omega) rfl)
  · have hc : up = false := by simpa using c
    have key : ∀ (n : Nat) (l : List Bool), l.countP not < n → l.length = d.2.2.1.length → ix l q = true → (∀ r : Int, 0 ≤ r → r < l.length → ix l r = true → Rch d q r) → ∃ l', LeadOk d up q l' ∧ r32_Wide_L9 d up q lead r4 true l = r4 (q + 1) (lead ++ [l']) := by
      intro n
      induction n with
      | zero => intro l hn; omega
      | succ n ih =>
        intro l hn hl h1 h2
        obtain ⟨l', ag', z1, z2, z3⟩ := Wide_L12 h (q0 := q) (r9 := r32_Wide_L9 d up q lead r4) (ag := false) hl
        have hl' := z1.len
        have e1 : r32_Wide_L9 d up q lead r4 true l = r32_Wide_L9 d up q lead r4 ag' l' := by
          rw [← z3]
          conv => lhs; rw [r32_Wide_L9_eq]; unfold r32_Wide_L9_B r32_Wide_J9 r32_Wide_J9_1
          rw [if_pos rfl, if_pos (by rw [hc]; rfl)]
        rw [e1]
        cases ha : ag' with
        | true => exact ih l' (by have := z1.lt rfl ha; omega) (by omega) (z1.mono q q0 (by omega) h1) (fun r r0 r1 => z1.rch h2 r r0 (by omega))
        | false =>
          obtain ⟨_, e2⟩ := z1.no ha
          subst e2
          refine ⟨l', ⟨hl, fun r r0 r1 => ?_⟩, ?_⟩
          · unfold Ld; rw [if_neg c]
            refine ⟨h2 r r0 (by omega), fun hr => ?_⟩
            exact (Rch.closed h (p := fun r => ix l' r = true) (fun p p0 p1 e a a0 a1 => z2 ha p p0 p1 e a a0 a1) q0 q1 h1 hr).1
          · rw [r32_Wide_L9_eq]; unfold r32_Wide_L9_B r32_Wide_J9
            rw [if_neg (by simp), if_neg (by simp)]
            exact G_to (by unfold room; simp; omega) (G_to (by unfold fits; omega) rfl)
    refine key _ _ (Nat.lt_succ_self _) inl ((ini q q0 q1).2 rfl) (fun r r0 r1 e => ?_)
    rw [inl] at r1
    rw [(ini r r0 r1).1 e]; exact Rch.refl q
theorem Wide_spec (h : HOk d) {up : Bool} {n : Nat} (hg : XGo (nxH up d) (mkH d) d.1.toNat (fstH up d) n) (hn : (xSt (nxH up d) (mkH d) d.1.toNat (fstH up d) n).1.length = n) {o : Dt} (ho : r3_Least (xAut (nxH up d) (mkH d) d.1.toNat (fstH up d) n) = some o) : r32_Wide d up = some o := by
  have h5 := h.n5
  have hx := H_xok h up
  have hst := h.ok.st
  have key : ∀ (m k : Nat) (lead : List (List Bool)), d.2.2.1.length - k = m → k ≤ d.2.2.1.length → lead.length = k → (∀ q : Int, 0 ≤ q → q < k → LeadOk d up q (ix lead q)) → r32_Wide_L4 d up k lead = some o := by
    intro m
    induction m with
    | zero =>
      intro k lead hm hk hll hld
      obtain rfl : k = d.2.2.1.length := by omega
      obtain ⟨s, s1, s2, s3⟩ := lead_set h (hld _ hst.1 hst.2)
      have es : s = fstH up d := by
        obtain ⟨v1, v2⟩ := setOf_bit h (Ld up d d.2.1)
        exact s2.ext v1 (fun r r0 r1 => (s3 r r0 r1).trans (v2 r r0 r1).symm)
      subst es
      have hfst := hx.b _ hx.f
      rw [r32_Wide_L4_eq]; unfold r32_Wide_L4_B
      rw [if_neg (by simp)]
      refine G_to (by unfold mkOK; omega) (G_to (by omega) (G_to (by omega) (bind_to s1 (G_to (by simp; omega) (G_to (by simp; omega) ?_)))))
      refine Wide_ref h hll hld hg hn ho n 0 _ rfl (by omega) ⟨by simp, fun s s0 s1 => ?_⟩
      show ix ((List.replicate 32 0).set (fstH up d).toNat 1) s = match mfind [fstH up d] s with
        | some j => (j : Int) + 1
        | none => 0
      by_cases e : s = fstH up d
      · subst e
        rw [ix_set_same s0 (by simp; omega), mfind_hd]; rfl
      · rw [ix_set_ne hfst.1 s0 (Ne.symm e), ix_replicate s0 (by omega), mfind_none.2 (by simpa using e)]
    | succ m ih =>
      intro k lead hm hk hll hld
      obtain ⟨l', z1, z2⟩ := Wide_L9 h (up := up) (q := (k : Int)) (by omega) (by omega) (lead := lead) (by omega) (r4 := r32_Wide_L4 d up)
      rw [r32_Wide_L4_eq]; unfold r32_Wide_L4_B
      rw [if_pos (by simp; omega)]
      refine G_to (by unfold mkOK; omega) (G_to (by simp; omega) (G_to (by simp; omega) ?_))
      refine z2.trans (ih (k + 1) _ (by omega) (by omega) (by rw [List.length_append, hll]; rfl) (fun q q0 q1 => ?_))
      by_cases c : q = k
      · have : q = (lead.length : Int) := by omega
        rw [this, ix_append_last, hll]; exact z1
      · rw [ix_append_left q0 (by omega)]; exact hld q q0 (by omega)
  unfold r32_Wide
  exact key _ 0 [] rfl (by omega) rfl (fun q q0 q1 => by omega)
theorem small_spec : higman_small d = some (if detE 3000 badD d = 0 then (if (5 : Int) < d.2.2.1.length then 1 else 0) else detE 3000 badD d) := by
  unfold higman_small
  refine bind_to det_Check_spec ?_
  rw [show detE 3000 badD (d.1, d.2.1, d.2.2.1, d.2.2.2.1, ()) = detE 3000 badD d from rfl]
  by_cases c : detE 3000 badD d = 0
  · rw [if_neg (by simpa using c), if_pos c]
    by_cases c2 : (5 : Int) < d.2.2.1.length
    · rw [if_pos (decide_eq_true c2), if_pos c2]
    · rw [if_neg (by simpa using c2), if_neg c2]
  · rw [if_pos (decide_eq_true c), if_neg c]
theorem small_good (h0 : detE 3000 badD d = 0) (h5 : d.2.2.1.length ≤ 5) : higman_small d = some 0 := by
  rw [small_spec, if_pos h0, if_neg (by omega)]
theorem Up_good (h0 : detE 3000 badD d = 0) (h : HOk d) {n : Nat} (hg : XGo (nxH true d) (mkH d) d.1.toNat (fstH true d) n) (hn : (xSt (nxH true d) (mkH d) d.1.toNat (fstH true d) n).1.length = n) {o : Dt} (ho : det_Smallest (xAut (nxH true d) (mkH d) d.1.toNat (fstH true d) n) = some o) : higman_Up d = some (o, 0) := by
  have ed : (d.1, d.2.1, d.2.2.1, d.2.2.2.1, ()) = d := rfl
  have h5 := h.n5
  have hst := h.ok.st
  have hm := h.ok.mkl
  have hx := H_xok h true
  have ef : ishl .i64 1 d.2.1 = fstH true d := by
    obtain ⟨v1, v2⟩ := fstH_bit h true
    obtain ⟨u1, u2⟩ := SetN.one h.n16 hst.1 hst.2
    exact u1.ext v1 (fun r r0 r1 => by rw [u2 r r0 r1, v2 r r0 r1]; unfold Ld; rw [if_pos rfl])
  unfold higman_Up
  rw [ed]
  refine bind_to (small_good h0 h5) ?_
  rw [if_neg (by simp), ef]
  refine G_to (by omega) ?_
  obtain ⟨g, g1, g2, g3⟩ := good_L h (fun k x => higman_sets_L3 d (fstH true d) k x) (fun x k k0 k1 => by
    conv => lhs; rw [higman_sets_L3_eq]; unfold higman_sets_L3_B
    rw [if_pos (by simp; omega)]
    exact G_to (by omega) (G_to (by omega) (G_to (by unfold fits; omega) rfl)))
  unfold higman_sets
  have hp := det_Explore_prog (g := g) hx (by omega) h.ok.let1 (fun s hs t t0 t1 => sets_1_spec h hs t0 t1) (fun s hs => sets_2_spec h hs g1 g2) hg hn
  have e4 : higman_sets_L3 d (fstH true d) 0 0 = some o := by
    refine g3.trans ?_
    show higman_sets_L3 d (fstH true d) _ _ = _
    rw [higman_sets_L3_eq]; unfold higman_sets_L3_B
    rw [if_neg (by simp; omega), ed]
    refine bind_to hp ?_
    exact bind_to ho rfl
  rw [e4]; rfl
theorem Down_good (h0 : detE 3000 badD d = 0) (h : HOk d) {n : Nat} (hg : XGo (nxH false d) (mkH d) d.1.toNat (fstH false d) n) (hn : (xSt (nxH false d) (mkH d) d.1.toNat (fstH false d) n).1.length = n) {o : Dt} (ho : det_Smallest (xAut (nxH false d) (mkH d) d.1.toNat (fstH false d) n) = some o) : higman_Down d = some (o, 0) := by
  have ed : (d.1, d.2.1, d.2.2.1, d.2.2.2.1, ()) = d := rfl
  have h5 := h.n5
  have hst := h.ok.st
  have hm := h.ok.mkl
  have hx := H_xok h false
  obtain ⟨u1, u2⟩ := SetN.one h.n16 hst.1 hst.2
  obtain ⟨c, c1, c2, c3⟩ := ahead_spec h u1
  have ef : c = fstH false d := by
    obtain ⟨v1, v2⟩ := fstH_bit h false
    exact c1.ext v1 (fun r r0 r1 => by
      rw [c2 r r0 r1, v2 r r0 r1]; unfold Ld; rw [if_neg (by simp)]
      constructor
      · rintro ⟨q, q0, q1, e1, e2⟩
        rw [(u2 q q0 q1).1 e1] at e2; exact e2
      · intro e; exact ⟨_, hst.1, hst.2, (u2 _ hst.1 hst.2).2 rfl, e⟩)
  unfold higman_Down
  rw [ed]
  refine bind_to (small_good h0 h5) ?_
  rw [if_neg (by simp)]
  refine G_to (by omega) (bind_to c3 ?_)
  rw [ef]
  obtain ⟨g, g1, g2, g3⟩ := good_L h (fun k x => higman_sets_3_L3 d (fstH false d) d k x) (fun x k k0 k1 => by
    conv => lhs; rw [higman_sets_3_L3_eq]; unfold higman_sets_3_L3_B
    rw [if_pos (by simp; omega)]
    exact G_to (by omega) (G_to (by omega) (G_to (by unfold fits; omega) rfl)))
  unfold higman_sets_3
  have hp := det_Explore_2_prog (g := g) hx (by omega) h.ok.let1 (fun s hs t t0 t1 => sets_1_1_spec h hs t0 t1) (fun s hs => sets_2_spec h hs g1 g2) hg hn
  have e4 : higman_sets_3_L3 d (fstH false d) d 0 0 = some o := by
    refine g3.trans ?_
    show higman_sets_3_L3 d (fstH false d) d _ _ = _
    rw [higman_sets_3_L3_eq]; unfold higman_sets_3_L3_B
    rw [if_neg (by simp; omega), ed]
    refine bind_to hp ?_
    exact bind_to ho rfl
  rw [e4]; rfl
theorem Up_bad {e : Int} (he : ¬ e = 0) (hs : higman_small d = some e) : higman_Up d = some ((0, 0, [], [], ()), e) := by
  unfold higman_Up
  refine bind_to hs ?_
  rw [if_pos (decide_eq_true he)]
theorem Down_bad {e : Int} (he : ¬ e = 0) (hs : higman_small d = some e) : higman_Down d = some ((0, 0, [], [], ()), e) := by
  unfold higman_Down
  refine bind_to hs ?_
  rw [if_pos (decide_eq_true he)]
theorem bad_true {e : Int} (he : ¬ e = 0) : law_HigmanCloses_J5 d (0, 0, [], [], ()) e (0, 0, [], [], ()) e e = some true := by
  unfold law_HigmanCloses_J5
  rw [if_pos (decide_eq_true he)]
  refine bind_to noDet_none (bind_to noDet_none ?_)
  rw [if_pos (by simp), if_pos (by simp), if_pos rfl]
theorem law_true (d : Dt) : law_HigmanCloses d = some true := by
  have ed : (d.1, d.2.1, d.2.2.1, d.2.2.2.1, ()) = d := rfl
  unfold law_HigmanCloses
  rw [ed]
  by_cases h0 : detE 3000 badD d = 0
  · by_cases c5 : (5 : Int) < d.2.2.1.length
    · have hs : higman_small d = some 1 := by rw [small_spec, if_pos h0, if_pos c5]
      refine bind_to (Up_bad (by omega) hs) (bind_to (Down_bad (by omega) hs) (bind_to r3_Check_spec ?_))
      rw [if_pos (decide_eq_true h0)]
      unfold law_HigmanCloses_J4
      rw [if_pos (decide_eq_true c5)]
      exact bad_true (by omega)
    · have h : HOk d := ⟨detE_zero h0, by omega⟩
      have h1 := h.ok.let1
      obtain ⟨n, hnB, hg, hn⟩ := xSt_stops (H_xok h true)
      have hd := xAut_ok (H_xok h true) (by omega) (by omega) hg hn
      obtain ⟨o, C, Q, K, w1, w2, w3⟩ := least_both hd
      obtain ⟨z1, z2, z3⟩ := w1.sizes hd
      obtain ⟨n', hnB', hg', hn'⟩ := xSt_stops (H_xok h false)
      have hd' := xAut_ok (H_xok h false) (by omega) (by omega) hg' hn'
      obtain ⟨o', C', Q', K', w1', w2', w3'⟩ := least_both hd'
      obtain ⟨z1', z2', z3'⟩ := w1'.sizes hd'
      refine bind_to (Up_good h0 h hg hn w2) (bind_to (Down_good h0 h hg' hn' w2') (bind_to r3_Check_spec ?_))
      rw [if_pos (decide_eq_true h0)]
      unfold law_HigmanCloses_J4 law_HigmanCloses_J5
      rw [if_neg (by simpa using c5), if_neg (by simpa using h0), ed]
      refine bind_to (Wide_spec h hg hn w3) (bind_to (Wide_spec h hg' hn' w3') ?_)
      refine bind_to (r3_Same_refl (d := o) (by omega) (by omega) (fun r hr => by have := z3 r hr; omega)) ?_
      refine bind_to (r3_Same_refl (d := o') (by omega) (by omega) (fun r hr => by have := z3' r hr; omega)) ?_
      rw [if_pos (by simp), if_pos (by simp), if_pos rfl]
  · have hs : higman_small d = some (detE 3000 badD d) := by rw [small_spec, if_neg h0]
    refine bind_to (Up_bad h0 hs) (bind_to (Down_bad h0 hs) (bind_to r3_Check_spec ?_))
    rw [if_neg (by simpa using h0)]
    unfold law_HigmanCloses_J4
    rw [if_neg (by simp)]
    exact bad_true h0
end

end Go.Proofs.Ytbbnolplpmnghaa.higmanClosesW
