/- The law 'MullerAccepts' of the plain functions. -/
import Derived.Test.YtjhgdnfkipchoaaMullerAcceptsD
set_option maxHeartbeats 1000000
set_option maxRecDepth 20000
set_option linter.unusedSimpArgs false
set_option linter.unusedVariables false
namespace Go.Proofs.Ytjhgdnfkipchoaa.mullerAcceptsW
open Go Go.Ab
theorem wrap_nat {n : Nat} (h : n < 9223372036854775808) : IntKind.wrap .i64 (n : Int) = n := by
  unfold IntKind.wrap
  simp [IntKind.bits, IntKind.signed]
  omega
theorem ofInt_nat (m : Nat) : BitVec.ofInt 64 (m : Int) = BitVec.ofNat 64 m := by
  apply BitVec.eq_of_toNat_eq; simp
theorem iand_nat {m n : Nat} (hm : m < 9223372036854775808) (hn : n < 9223372036854775808) : iand .i64 (m : Int) (n : Int) = ((m &&& n : Nat) : Int) := by
  unfold iand
  have h : (BitVec.ofInt IntKind.i64.bits (m : Int) &&& BitVec.ofInt IntKind.i64.bits (n : Int)).toNat = m &&& n := by
    show (BitVec.ofInt 64 (m : Int) &&& BitVec.ofInt 64 (n : Int)).toNat = m &&& n
    rw [ofInt_nat, ofInt_nat, BitVec.toNat_and, BitVec.toNat_ofNat, BitVec.toNat_ofNat, Nat.mod_eq_of_lt (by omega), Nat.mod_eq_of_lt (by omega)]
  rw [h, wrap_nat (Nat.lt_of_le_of_lt Nat.and_le_left hm)]
theorem ior_nat {m n : Nat} (hm : m < 9223372036854775808) (hn : n < 9223372036854775808) : ior .i64 (m : Int) (n : Int) = ((m ||| n : Nat) : Int) := by
  unfold ior
  have h : (BitVec.ofInt IntKind.i64.bits (m : Int) ||| BitVec.ofInt IntKind.i64.bits (n : Int)).toNat = m ||| n := by
    show (BitVec.ofInt 64 (m : Int) ||| BitVec.ofInt 64 (n : Int)).toNat = m ||| n
    rw [ofInt_nat, ofInt_nat, BitVec.toNat_or, BitVec.toNat_ofNat, BitVec.toNat_ofNat, Nat.mod_eq_of_lt (by omega), Nat.mod_eq_of_lt (by omega)]
  rw [h, wrap_nat (Nat.or_lt_two_pow (n := 63) hm hn)]
theorem ishl_nat {m k : Nat} (hk : k < 63) (h : m * 2 ^ k < 9223372036854775808) : ishl .i64 (m : Int) (k : Int) = ((m <<< k : Nat) : Int) := by
  unfold ishl
  have e : min ((k : Int).toNat) IntKind.i64.bits = k := by
    show min ((k : Int).toNat) 64 = k
    omega
  rw [e, Nat.shiftLeft_eq]
  have : (m : Int) * 2 ^ k = ((m * 2 ^ k : Nat) : Int) := by push_cast; rfl
  rw [this, wrap_nat h]
theorem ishr_nat {m k : Nat} (hk : k ≤ 64) : ishr .i64 (m : Int) (k : Int) = ((m >>> k : Nat) : Int) := by
  unfold ishr
  have e : min ((k : Int).toNat) IntKind.i64.bits = k := by
    show min ((k : Int).toNat) 64 = k
    omega
  rw [e, Nat.shiftRight_eq_div_pow, Int.fdiv_eq_ediv_of_nonneg _ (by exact_mod_cast Nat.zero_le _)]
  push_cast; rfl
/-- Bits: the q-th one is put. -/
theorem ior_bit {m q : Nat} (hm : m < 4611686018427387904) (hq : q < 62) : ior .i64 (m : Int) (ishl .i64 1 (q : Int)) = ((m ||| 2 ^ q : Nat) : Int) ∧ m ||| 2 ^ q < 4611686018427387904 := by
  have h2 : 2 ^ q < 4611686018427387904 := Nat.pow_lt_pow_right (a := 2) (n := 62) (by omega) hq
  have h1 : ishl .i64 1 (q : Int) = ((2 ^ q : Nat) : Int) := by
    have := ishl_nat (m := 1) (k := q) (by omega) (by omega)
    rw [Nat.shiftLeft_eq, Nat.one_mul] at this
    exact this
  rw [h1, ior_nat (by omega) (by omega)]
  exact ⟨rfl, Nat.or_lt_two_pow (n := 62) hm h2⟩

theorem pigeon : ∀ (n : Nat) (g : Nat → Nat), (∀ i, i ≤ n → g i < n) → ∃ i j, i < j ∧ j ≤ n ∧ g i = g j
  | 0, g, h => absurd (h 0 (Nat.le_refl _)) (by omega)
  | n + 1, g, h => by
    by_cases he : ∃ i, i ≤ n ∧ g i = g (n + 1)
    · obtain ⟨i, h1, h2⟩ := he; exact ⟨i, n + 1, by omega, by omega, h2⟩
    · have hne : ∀ i, i ≤ n → g i ≠ g (n + 1) := fun i hi e => he ⟨i, hi, e⟩
      obtain ⟨i, j, h1, h2, h3⟩ := pigeon n (fun i => if g i < g (n + 1) then g i else g i - 1) (fun i hi => by
        have := h i (by omega); have := h (n + 1) (by omega); have := hne i hi
        show (if g i < g (n + 1) then g i else g i - 1) < n
        split <;> omega)
      refine ⟨i, j, h1, by omega, ?_⟩
      have a := hne i (by omega); have b := hne j (by omega)
      split at h3 <;> split at h3 <;> omega
def itn {A : Type} (f : A → A) : Nat → A → A
  | 0, q => q
  | k + 1, q => f (itn f k q)
theorem itn_add {A : Type} (f : A → A) (a : Nat) : ∀ (b : Nat) (q : A), itn f (a + b) q = itn f a (itn f b q) := by
  induction a with
  | zero => intro b q; rw [Nat.zero_add]; rfl
  | succ a ih => intro b q; rw [Nat.succ_add]; show f _ = f _; rw [ih]
theorem itn_succ {A : Type} (f : A → A) (k : Nat) (q : A) : itn f (k + 1) q = itn f k (f q) := itn_add f k 1 q
theorem itn_lt {f : Nat → Nat} {n : Nat} (hf : ∀ q, q < n → f q < n) {q : Nat} (hq : q < n) : ∀ k, itn f k q < n
  | 0 => hq
  | k + 1 => hf _ (itn_lt hf hq k)
/-- Behind n rounds one goes in a circle of at most n. -/
theorem circle {f : Nat → Nat} {n : Nat} (hf : ∀ q, q < n → f q < n) {q : Nat} (hq : q < n) : ∃ p, 0 < p ∧ p ≤ n ∧ itn f p (itn f n q) = itn f n q := by
  obtain ⟨i, j, h1, h2, h3⟩ := pigeon n (fun k => itn f k q) (fun i _ => itn_lt hf hq i)
  refine ⟨j - i, by omega, by omega, ?_⟩
  rw [← itn_add]
  have e1 : j - i + n = n - i + j := by omega
  have e2 : n = n - i + i := by omega
  rw [e1, itn_add]
  conv => rhs; rw [e2, itn_add]
  rw [h3]
theorem itn_mul {A : Type} {f : A → A} {p : Nat} {q : A} (h : itn f p q = q) : ∀ k, itn f (k * p) q = q
  | 0 => by rw [Nat.zero_mul]; rfl
  | k + 1 => by rw [Nat.succ_mul, itn_add, h, itn_mul h k]
theorem itn_mod {A : Type} {f : A → A} {p : Nat} {q : A} (h : itn f p q = q) (i : Nat) : itn f i q = itn f (i % p) q := by
  have : i = i % p + i / p * p := by rw [Nat.mul_comm]; exact (Nat.mod_add_div i p).symm
  conv => lhs; rw [this, itn_add, itn_mul h]
theorem circleI {f : Int → Int} {n : Nat} (hf : ∀ q : Int, 0 ≤ q → q < n → 0 ≤ f q ∧ f q < n) {q : Int} (h0 : 0 ≤ q) (hq : q < n) : ∃ p, 0 < p ∧ p ≤ n ∧ itn f p (itn f n q) = itn f n q := by
  have hr : ∀ k, 0 ≤ itn f k q ∧ itn f k q < n := by
    intro k
    induction k with
    | zero => exact ⟨h0, hq⟩
    | succ k ih => exact hf _ ih.1 ih.2
  obtain ⟨i, j, h1, h2, h3⟩ := pigeon n (fun k => (itn f k q).toNat) (fun i _ => by have := hr i; show (itn f i q).toNat < n; omega)
  have h3 : itn f i q = itn f j q := by have a := hr i; have b := hr j; have : (itn f i q).toNat = (itn f j q).toNat := h3; omega
  refine ⟨j - i, by omega, by omega, ?_⟩
  rw [← itn_add]
  have e1 : j - i + n = n - i + j := by omega
  have e2 : n = n - i + i := by omega
  rw [e1, itn_add]
  conv => rhs; rw [e2, itn_add]
  rw [h3]

/-- The answer is yes just if P. -/
def Tells (o : Option Bool) (P : Prop) : Prop := ∃ b, o = some b ∧ (b = true ↔ P)
theorem Tells.of {b : Bool} {P : Prop} (h : b = true ↔ P) : Tells (some b) P := ⟨b, rfl, h⟩
theorem Tells.dec {P Q : Prop} [Decidable P] (h : P ↔ Q) : Tells (some (decide P)) Q := ⟨_, rfl, by simpa using h⟩
theorem Tells.iff {o : Option Bool} {P Q : Prop} (h : Tells o P) (k : P ↔ Q) : Tells o Q := let ⟨b, h1, h2⟩ := h; ⟨b, h1, h2.trans k⟩
theorem Tells.eq {o : Option Bool} {P : Prop} [Decidable P] (h : Tells o P) : o = some (decide P) := by
  obtain ⟨b, rfl, hb⟩ := h
  by_cases hp : P
  · simp [hp, hb.2 hp]
  · have : b = false := by cases b; rfl; exact absurd (hb.1 rfl) hp
    simp [hp, this]
theorem Tells.to {R : Type} {o : Option Bool} {P : Prop} {k1 k2 x : Option R} (h : Tells o P) (h1 : P → k1 = x) (h2 : ¬ P → k2 = x) : (o.bind fun y => if y = true then k1 else k2) = x := by
  obtain ⟨b, rfl, hb⟩ := h
  refine bind_to rfl ?_
  cases b
  · exact h2 fun hp => by simpa using hb.2 hp
  · exact h1 (hb.1 rfl)
theorem Tells.bind {R : Type} {o : Option Bool} {P : Prop} {k : Bool → Option R} {x : Option R} (h : Tells o P) (h1 : ∀ b, (b = true ↔ P) → k b = x) : o.bind k = x := by
  obtain ⟨b, rfl, hb⟩ := h
  exact h1 b hb
section
variable {α C : Type} [Inhabited α]
theorem ex_ix {l : List α} {P : α → Prop} : (∃ x ∈ l, P x) ↔ ∃ i : Int, 0 ≤ i ∧ i < l.length ∧ P (ix l i) := by
  constructor
  · rintro ⟨x, hx, hp⟩
    obtain ⟨i, hi, rfl⟩ := List.mem_iff_getElem.1 hx
    refine ⟨i, by omega, by omega, ?_⟩
    rwa [ix_eq (by omega) (by omega)]
  · rintro ⟨i, h0, h1, hp⟩
    exact ⟨_, ix_mem h0 h1, hp⟩
theorem index_loop {s : List α} {f : α → Option Bool} {L : Int → Option Int} {P : α → Prop} (hs : s.length ≤ 4611686018427387904)
    (hL : ∀ t, L t = if decide (t < (s.length : Int)) = true then G (0 ≤ t ∧ t < (s.length : Int)) ((f (ix s t)).bind fun y => if y = true then some t else G (fits (t + 1)) (L (t + 1))) else some (-1))
    (hf : ∀ x ∈ s, Tells (f x) (P x)) : ∀ (n : Nat) (t : Int), 0 ≤ t → t ≤ s.length → (s.length - t).toNat = n →
      ∃ i, L t = some i ∧ ((i = -1 ∧ ∀ j : Int, t ≤ j → j < s.length → ¬ P (ix s j)) ∨ (t ≤ i ∧ i < s.length ∧ P (ix s i) ∧ ∀ j : Int, t ≤ j → j < i → ¬ P (ix s j))) := by
  intro n
  induction n with
  | zero =>
    intro t h0 h1 hn
    refine ⟨-1, ?_, .inl ⟨rfl, fun j a b => by omega⟩⟩
    rw [hL, if_neg (by simp; omega)]
  | succ n ih =>
    intro t h0 h1 hn
    rw [hL, if_pos (by simp; omega), G_pos (by omega)]
    obtain ⟨b, hb, hbp⟩ := hf _ (ix_mem h0 (by omega : t < s.length))
    rw [hb]
    cases b with
    | true => exact ⟨t, rfl, .inr ⟨by omega, by omega, hbp.1 rfl, fun j a b => by omega⟩⟩
    | false =>
      have hnp : ¬ P (ix s t) := fun hp => by simpa using hbp.2 hp
      obtain ⟨i, hi, hc⟩ := ih (t + 1) (by omega) (by omega) (by omega)
      refine ⟨i, ?_, ?_⟩
      · refine (if_neg (by simp) : (if false = true then some t else G (fits (t + 1)) (L (t + 1))) = _).trans ?_
        rw [G_pos (by unfold fits; omega), hi]
      · rcases hc with ⟨h2, h3⟩ | ⟨h2, h3, h4, h5⟩
        · refine .inl ⟨h2, fun j a b => ?_⟩
          by_cases e : j = t
          · rw [e]; exact hnp
          · exact h3 j (by omega) b
        · refine .inr ⟨by omega, h3, h4, fun j a b => ?_⟩
          by_cases e : j = t
          · rw [e]; exact hnp
          · exact h5 j (by omega) b
theorem contains_tells {s : List α} {f : α → Option Bool} {L : Int → Option Int} {P : α → Prop}
    (hL : ∀ t, L t = if decide (t < (s.length : Int)) = true then G (0 ≤ t ∧ t < (s.length : Int)) ((f (ix s t)).bind fun y => if y = true then some t else G (fits (t + 1)) (L (t + 1))) else some (-1))
    (hs : s.length ≤ 4611686018427387904) (hf : ∀ x ∈ s, Tells (f x) (P x)) : Tells ((L 0).bind fun y => some (decide ((0 : Int) ≤ y))) (∃ x ∈ s, P x) := by
  obtain ⟨i, hi, hc⟩ := index_loop hs hL hf _ 0 (by omega) (by omega) rfl
  rw [hi]
  refine ⟨decide (0 ≤ i), rfl, ?_⟩
  rw [decide_eq_true_iff, ex_ix]
  rcases hc with ⟨h2, h3⟩ | ⟨h2, h3, h4, h5⟩
  · constructor
    · intro h; omega
    · rintro ⟨j, h0, h1, hp⟩; exact absurd hp (h3 j h0 h1)
  · exact ⟨fun _ => ⟨i, by omega, h3, h4⟩, fun _ => by omega⟩
/-- .. of what carries along what it reads. -/
theorem contains_tells2 {s : List α} {c : C} {f : α → C → Option (Bool × C)} {L : Int → C → Option (Int × C)} {P : α → Prop}
    (hL : ∀ t c, L t c = if decide (t < (s.length : Int)) = true then G (0 ≤ t ∧ t < (s.length : Int)) ((f (ix s t) c).bind fun y => if y.1 = true then some (t, y.2) else G (fits (t + 1)) (L (t + 1) y.2)) else some (-1, c))
    (hs : s.length ≤ 4611686018427387904) (hf : ∀ x ∈ s, ∃ b, f x c = some (b, c) ∧ (b = true ↔ P x)) : ∃ b, ((L 0 c).bind fun y => some (decide ((0 : Int) ≤ y.1), y.2)) = some (b, c) ∧ (b = true ↔ ∃ x ∈ s, P x) := by
  have key : ∀ (n : Nat) (t : Int), 0 ≤ t → t ≤ s.length → (s.length - t).toNat = n →
      ∃ i, L t c = some (i, c) ∧ ((i = -1 ∧ ∀ j : Int, t ≤ j → j < s.length → ¬ P (ix s j)) ∨ (t ≤ i ∧ i < s.length ∧ P (ix s i))) := by
    intro n
    induction n with
    | zero =>
      intro t h0 h1 hn
      refine ⟨-1, ?_, .inl ⟨rfl, fun j a b => by omega⟩⟩
      rw [hL, if_neg (by simp; omega)]
    | succ n ih =>
      intro t h0 h1 hn
      rw [hL, if_pos (by simp; omega), G_pos (by omega)]
      obtain ⟨b, hb, hbp⟩ := hf _ (ix_mem h0 (by omega : t < s.length))
      rw [hb]
      cases b with
      | true => exact ⟨t, rfl, .inr ⟨by omega, by omega, hbp.1 rfl⟩⟩
      | false =>
        have hnp : ¬ P (ix s t) := fun hp => by simpa using hbp.2 hp
        obtain ⟨i, hi, hc⟩ := ih (t + 1) (by omega) (by omega) (by omega)
        refine ⟨i, ?_, ?_⟩
        · refine (if_neg (by simp) : (if false = true then some (t, c) else G (fits (t + 1)) (L (t + 1) c)) = _).trans ?_
          rw [G_pos (by unfold fits; omega), hi]
        · rcases hc with ⟨h2, h3⟩ | ⟨h2, h3, h4⟩
          · refine .inl ⟨h2, fun j a b => ?_⟩
            by_cases e : j = t
            · rw [e]; exact hnp
            · exact h3 j (by omega) b
          · exact .inr ⟨by omega, h3, h4⟩
  obtain ⟨i, hi, hc⟩ := key _ 0 (by omega) (by omega) rfl
  rw [hi]
  refine ⟨decide (0 ≤ i), rfl, ?_⟩
  rw [decide_eq_true_iff, ex_ix]
  rcases hc with ⟨h2, h3⟩ | ⟨h2, h3, h4⟩
  · constructor
    · intro h; omega
    · rintro ⟨j, h0, h1, hp⟩; exact absurd hp (h3 j h0 h1)
  · exact ⟨fun _ => ⟨i, by omega, h3, h4⟩, fun _ => by omega⟩
end
/-- A loop that looks for the first fault. -/
theorem scan_to {R : Type} {len : Int} {L : Int → Option R} {bad : Int → Prop} {x : Option R} {lo : Int} (h0 : lo ≤ len)
    (hs : ∀ t, lo ≤ t → t < len → (bad t → L t = x) ∧ (¬ bad t → L t = L (t + 1))) (hf : (∀ t, lo ≤ t → t < len → ¬ bad t) → L len = x) : L lo = x := by
  have key : ∀ (n : Nat) (t : Int), lo ≤ t → t ≤ len → (len - t).toNat = n → (∀ j, lo ≤ j → j < t → ¬ bad j) → L t = x := by
    intro n
    induction n with
    | zero =>
      intro t h1 h2 hn h
      obtain rfl : t = len := by omega
      exact hf h
    | succ n ih =>
      intro t h1 h2 hn h
      by_cases hb : bad t
      · exact (hs t h1 (by omega)).1 hb
      · rw [(hs t h1 (by omega)).2 hb]
        refine ih (t + 1) (by omega) (by omega) (by omega) fun j a b => ?_
        by_cases e : j = t
        · rw [e]; exact hb
        · exact h j a (by omega)
  exact key _ lo (Int.le_refl _) h0 rfl (fun j a b => by omega)
/-- A loop that counts, with a state. -/
theorem fold_to {R S : Type} {len : Int} {L : Int → S → Option R} {f : Int → S → S} {lo : Int} {I : Int → S → Prop} {s : S} (h0 : lo ≤ len) (hI : I lo s)
    (hs : ∀ t s, lo ≤ t → t < len → I t s → L t s = L (t + 1) (f t s) ∧ I (t + 1) (f t s)) : ∃ s', I len s' ∧ L lo s = L len s' := by
  have key : ∀ (n : Nat) (t : Int) (s : S), lo ≤ t → t ≤ len → (len - t).toNat = n → I t s → ∃ s', I len s' ∧ L t s = L len s' := by
    intro n
    induction n with
    | zero =>
      intro t s h1 h2 hn h
      obtain rfl : t = len := by omega
      exact ⟨s, h, rfl⟩
    | succ n ih =>
      intro t s h1 h2 hn h
      obtain ⟨e, h3⟩ := hs t s h1 (by omega) h
      obtain ⟨s', h4, h5⟩ := ih (t + 1) _ (by omega) (by omega) (by omega) h3
      exact ⟨s', h4, e.trans h5⟩
  exact key _ lo s (Int.le_refl _) h0 rfl hI

/-- A number as a set of bits. -/
def Mask (s : Int) (P : Nat → Prop) : Prop := ∃ m : Nat, s = m ∧ m < 4611686018427387904 ∧ ∀ b, m.testBit b = true ↔ P b
theorem Mask.zero : Mask 0 (fun _ => False) := ⟨0, rfl, by omega, fun b => by simp⟩
theorem Mask.ext {s t : Int} {P Q : Nat → Prop} (h : Mask s P) (k : Mask t Q) (e : ∀ b, P b ↔ Q b) : s = t := by
  obtain ⟨m, rfl, _, h1⟩ := h
  obtain ⟨n, rfl, _, k1⟩ := k
  congr 1
  refine Nat.eq_of_testBit_eq fun b => ?_
  rw [Bool.eq_iff_iff, h1, k1, e]
theorem Mask.iff {s : Int} {P Q : Nat → Prop} (h : Mask s P) (e : ∀ b, P b ↔ Q b) : Mask s Q := by
  obtain ⟨m, h1, h2, h3⟩ := h
  exact ⟨m, h1, h2, fun b => (h3 b).trans (e b)⟩
theorem Mask.bit {s q : Int} {P : Nat → Prop} (h : Mask s P) (h0 : 0 ≤ q) (h1 : q < 62) : Mask (ior .i64 s (ishl .i64 1 q)) (fun b => P b ∨ (b : Int) = q) := by
  obtain ⟨m, rfl, h2, h3⟩ := h
  obtain ⟨k, rfl⟩ : ∃ k : Nat, q = k := ⟨q.toNat, by omega⟩
  obtain ⟨h4, h5⟩ := ior_bit h2 (by omega : k < 62)
  refine ⟨_, h4, h5, fun b => ?_⟩
  rw [Nat.testBit_or, Bool.or_eq_true, h3, Nat.testBit_two_pow, decide_eq_true_iff]
  exact or_congr Iff.rfl (by omega)
theorem Mask.nonneg {s : Int} {P : Nat → Prop} (h : Mask s P) : 0 ≤ s := by obtain ⟨m, rfl, _, _⟩ := h; omega

theorem r1_May_L6_spec {letters : Int} {w : List Int} (hL : 1 ≤ letters ∧ letters ≤ 4) (hw : w.length ≤ (60 : Int)) : ∀ (n : Nat) (i : Int), 0 ≤ i → i ≤ w.length → (w.length - i).toNat = n → (∀ j : Int, 0 ≤ j → j < i → 0 ≤ ix w j ∧ ix w j < letters) → r1_May_L6 letters w i = some (mayE letters w) := by
  intro n
  induction n with
  | zero =>
    intro i h0 h1 hn h
    rw [r1_May_L6_eq]; unfold r1_May_L6_B
    (try dsimp only); (repeat' first | (with_reducible refine G_to ?_ ?_; focus (first | omega | (unfold fits; omega) | (unfold room; (try simp only [List.length_append, List.length_cons, List.length_nil]); omega))) | (with_reducible refine itet_to ?_) | (with_reducible refine itef_to ?_) | (with_reducible refine ite_to (fun _ => ?_) (fun _ => ?_))) <;> try (exfalso; omega)
    · rw [mayE_ok hL hw (fun j a b => h j a (by omega))]
  | succ n ih =>
    intro i h0 h1 hn h
    rw [r1_May_L6_eq]; unfold r1_May_L6_B
    (try dsimp only); (repeat' first | (with_reducible refine G_to ?_ ?_; focus (first | omega | (unfold fits; omega) | (unfold room; (try simp only [List.length_append, List.length_cons, List.length_nil]); omega))) | (with_reducible refine itet_to ?_) | (with_reducible refine itef_to ?_) | (with_reducible refine ite_to (fun _ => ?_) (fun _ => ?_))) <;> try (exfalso; omega)
    · rw [mayE_bad hL hw (i := i) (by omega) (by omega)]
    · rw [mayE_bad hL hw (i := i) (by omega) (by omega)]
    · exact ih _ (by omega) (by omega) (by omega) (below_succ h (by omega))
theorem r1_May_spec {letters : Int} {w : List Int} : r1_May letters w = some (mayE letters w) := by
  unfold r1_May
  (try dsimp only); (repeat' first | (with_reducible refine G_to ?_ ?_; focus (first | omega | (unfold fits; omega) | (unfold room; (try simp only [List.length_append, List.length_cons, List.length_nil]); omega))) | (with_reducible refine itet_to ?_) | (with_reducible refine itef_to ?_) | (with_reducible refine ite_to (fun _ => ?_) (fun _ => ?_))) <;> try (exfalso; omega)
  · rw [mayE_range (by omega)]
  · rw [mayE_range (by omega)]
  · rw [mayE_size (by omega) (by omega)]
  · exact r1_May_L6_spec (by omega) (by omega) _ 0 (by omega) (by omega) rfl (fun j a b => by omega)

theorem word_May_L6_spec {letters : Int} {w : List Int} (hL : 1 ≤ letters ∧ letters ≤ 4) (hw : w.length ≤ (60 : Int)) : ∀ (n : Nat) (i : Int), 0 ≤ i → i ≤ w.length → (w.length - i).toNat = n → (∀ j : Int, 0 ≤ j → j < i → 0 ≤ ix w j ∧ ix w j < letters) → word_May_L6 letters w i = some (mayE letters w) := by
  intro n
  induction n with
  | zero =>
    intro i h0 h1 hn h
    rw [word_May_L6_eq]; unfold word_May_L6_B
    (try dsimp only); (repeat' first | (with_reducible refine G_to ?_ ?_; focus (first | omega | (unfold fits; omega) | (unfold room; (try simp only [List.length_append, List.length_cons, List.length_nil]); omega))) | (with_reducible refine itet_to ?_) | (with_reducible refine itef_to ?_) | (with_reducible refine ite_to (fun _ => ?_) (fun _ => ?_))) <;> try (exfalso; omega)
    · rw [mayE_ok hL hw (fun j a b => h j a (by omega))]
  | succ n ih =>
    intro i h0 h1 hn h
    rw [word_May_L6_eq]; unfold word_May_L6_B
    (try dsimp only); (repeat' first | (with_reducible refine G_to ?_ ?_; focus (first | omega | (unfold fits; omega) | (unfold room; (try simp only [List.length_append, List.length_cons, List.length_nil]); omega))) | (with_reducible refine itet_to ?_) | (with_reducible refine itef_to ?_) | (with_reducible refine ite_to (fun _ => ?_) (fun _ => ?_))) <;> try (exfalso; omega)
    · rw [mayE_bad hL hw (i := i) (by omega) (by omega)]
    · rw [mayE_bad hL hw (i := i) (by omega) (by omega)]
    · exact ih _ (by omega) (by omega) (by omega) (below_succ h (by omega))
theorem word_May_spec {letters : Int} {w : List Int} : word_May letters w = some (mayE letters w) := by
  unfold word_May
  (try dsimp only); (repeat' first | (with_reducible refine G_to ?_ ?_; focus (first | omega | (unfold fits; omega) | (unfold room; (try simp only [List.length_append, List.length_cons, List.length_nil]); omega))) | (with_reducible refine itet_to ?_) | (with_reducible refine itef_to ?_) | (with_reducible refine ite_to (fun _ => ?_) (fun _ => ?_))) <;> try (exfalso; omega)
  · rw [mayE_range (by omega)]
  · rw [mayE_range (by omega)]
  · rw [mayE_size (by omega) (by omega)]
  · exact word_May_L6_spec (by omega) (by omega) _ 0 (by omega) (by omega) rfl (fun j a b => by omega)

noncomputable def lasE (letters : Int) (l : List Int × List Int × Unit) : Int := if mayE letters l.1 = 0 then (if mayE letters l.2.1 = 0 then (if l.2.1.length = 0 then 1 else 0) else mayE letters l.2.1) else mayE letters l.1
theorem r1_Lasso_spec {letters : Int} {l : List Int × List Int × Unit} : r1_Lasso letters l = some (lasE letters l) := by
  unfold r1_Lasso lasE
  refine bind_to r1_May_spec ?_
  by_cases h1 : mayE letters l.1 = 0
  · rw [if_pos h1, if_neg (by simp [h1])]
    refine bind_to r1_May_spec ?_
    by_cases h2 : mayE letters l.2.1 = 0
    · rw [if_pos h2, if_neg (by simp [h2])]
      by_cases h3 : l.2.1.length = 0
      · rw [if_pos (by simp [h3]), if_pos h3]
      · rw [if_neg (by simp only [decide_eq_true_eq]; omega), if_neg h3]
    · rw [if_neg h2, if_pos (by simp [h2])]
  · rw [if_neg h1, if_pos (by simp [h1])]
theorem word_Lasso_spec {letters : Int} {l : List Int × List Int × Unit} : word_Lasso letters l = some (lasE letters l) := by
  unfold word_Lasso lasE
  rw [word_Lasso_L2_eq]; unfold word_Lasso_L2_B
  rw [if_pos (by decide), G_pos (by decide)]
  refine bind_to word_May_spec ?_
  have e0 : vget (.list (.int .i64)) 2 (l.1, (l.2.1, ())) (0 : Int).toNat = l.1 := rfl
  have e1 : vget (.list (.int .i64)) 2 (l.1, (l.2.1, ())) ((0 : Int) + 1).toNat = l.2.1 := rfl
  rw [e0]
  by_cases h1 : mayE letters l.1 = 0
  · rw [if_pos h1, if_neg (by simp [h1]), G_pos (by unfold fits; omega), word_Lasso_L2_eq]; unfold word_Lasso_L2_B
    rw [if_pos (by decide), G_pos (by decide), e1]
    refine bind_to word_May_spec ?_
    by_cases h2 : mayE letters l.2.1 = 0
    · rw [if_pos h2, if_neg (by simp [h2]), G_pos (by unfold fits; omega), word_Lasso_L2_eq]; unfold word_Lasso_L2_B
      rw [if_neg (by decide)]
      by_cases h3 : l.2.1.length = 0
      · rw [if_pos (by simp [h3]), if_pos h3]
      · rw [if_neg (by simp only [decide_eq_true_eq]; omega), if_neg h3]
    · rw [if_neg h2, if_pos (by simp [h2])]
  · rw [if_neg h1, if_pos (by simp [h1])]
theorem lasE_zero {letters : Int} {l : List Int × List Int × Unit} (h : lasE letters l = 0) : mayE letters l.1 = 0 ∧ mayE letters l.2.1 = 0 ∧ 0 < l.2.1.length := by
  unfold lasE at h
  by_cases h1 : mayE letters l.1 = 0
  · rw [if_pos h1] at h
    by_cases h2 : mayE letters l.2.1 = 0
    · rw [if_pos h2] at h
      by_cases h3 : l.2.1.length = 0
      · rw [if_pos h3] at h; omega
      · exact ⟨h1, h2, by omega⟩
    · rw [if_neg h2] at h; exact absurd h h2
  · rw [if_neg h1] at h; exact absurd h h1

/-- A walk over a table. -/
def stp (N : List (List Int)) (q a : Int) : Int := ix (ix N q) a
def wlk (N : List (List Int)) (q : Int) (w : List Int) : Int := w.foldl (stp N) q
/-- The places come by. -/
def trc (N : List (List Int)) : Int → List Int → List Int
  | _, [] => []
  | q, a :: w => stp N q a :: trc N (stp N q a) w
/-- A table of so many letters. -/
structure Tab (L : Int) (N : List (List Int)) : Prop where
  row : ∀ r ∈ N, (r.length : Int) = L
  to : ∀ r ∈ N, ∀ q ∈ r, 0 ≤ q ∧ q < N.length
theorem Tab.stpb {L : Int} {N : List (List Int)} (h : Tab L N) {q a : Int} (q0 : 0 ≤ q) (q1 : q < N.length) (a0 : 0 ≤ a) (a1 : a < L) : 0 ≤ stp N q a ∧ stp N q a < N.length := by
  have h1 := ix_mem q0 q1
  have h2 := h.row _ h1
  exact h.to _ h1 _ (ix_mem a0 (by omega))
theorem Tab.rowlen {L : Int} {N : List (List Int)} (h : Tab L N) {q : Int} (q0 : 0 ≤ q) (q1 : q < N.length) : ((ix N q).length : Int) = L := h.row _ (ix_mem q0 q1)
theorem Tab.wlkb {L : Int} {N : List (List Int)} (h : Tab L N) : ∀ {w : List Int} {q : Int}, 0 ≤ q → q < N.length → (∀ a ∈ w, 0 ≤ a ∧ a < L) → 0 ≤ wlk N q w ∧ wlk N q w < N.length
  | [], q, q0, q1, _ => ⟨q0, q1⟩
  | a :: w, q, q0, q1, hw => by
    have := h.stpb q0 q1 (hw a (by simp)).1 (hw a (by simp)).2
    exact Tab.wlkb h (q := stp N q a) (w := w) this.1 this.2 (fun b hb => hw b (by simp [hb]))
theorem Tab.trcb {L : Int} {N : List (List Int)} (h : Tab L N) : ∀ {w : List Int} {q : Int}, 0 ≤ q → q < N.length → (∀ a ∈ w, 0 ≤ a ∧ a < L) → ∀ p ∈ trc N q w, 0 ≤ p ∧ p < N.length
  | [], q, q0, q1, _, p, hp => by cases hp
  | a :: w, q, q0, q1, hw, p, hp => by
    have := h.stpb q0 q1 (hw a (by simp)).1 (hw a (by simp)).2
    rcases List.mem_cons.1 hp with rfl | hp
    · exact this
    · exact Tab.trcb h this.1 this.2 (fun b hb => hw b (by simp [hb])) p hp

theorem det_After_spec {d : Int × Int × List (List Int) × List Int × Unit} {L : Int} (h : Tab L d.2.2.1) {w : List Int} (hw : ∀ a ∈ w, 0 ≤ a ∧ a < L) (hl : w.length ≤ 1000000) {q : Int} (q0 : 0 ≤ q) (q1 : q < d.2.2.1.length) : det_After d q w = some (wlk d.2.2.1 q w) := by
  have key : ∀ (n : Nat) (t q : Int), (w.length - t).toNat = n → 0 ≤ t → t ≤ w.length → 0 ≤ q → q < d.2.2.1.length → det_After_L2 d w q t = some (wlk d.2.2.1 q (w.drop t.toNat)) := by
    intro n
    induction n with
    | zero =>
      intro t q hn h0 h1 q0 q1
      rw [det_After_L2_eq]; unfold det_After_L2_B
      (try dsimp only); (repeat' first | (with_reducible refine G_to ?_ ?_; focus (first | omega | (unfold fits; omega) | (unfold room; (try simp only [List.length_append, List.length_cons, List.length_nil]); omega))) | (with_reducible refine itet_to ?_) | (with_reducible refine itef_to ?_) | (with_reducible refine ite_to (fun _ => ?_) (fun _ => ?_))) <;> try (exfalso; omega)
      rw [List.drop_of_length_le (by omega)]; rfl
    | succ n ih =>
      intro t q hn h0 h1 q0 q1
      have ha := hw _ (ix_mem h0 (by omega : t < w.length))
      have hr := h.rowlen q0 q1
      have hs := h.stpb q0 q1 ha.1 ha.2
      rw [det_After_L2_eq]; unfold det_After_L2_B
      (try dsimp only); (repeat' first | (with_reducible refine G_to ?_ ?_; focus (first | omega | (unfold fits; omega) | (unfold room; (try simp only [List.length_append, List.length_cons, List.length_nil]); omega))) | (with_reducible refine itet_to ?_) | (with_reducible refine itef_to ?_) | (with_reducible refine ite_to (fun _ => ?_) (fun _ => ?_))) <;> try (exfalso; omega)
      rw [ix_drop h0 (by omega)]
      exact ih (t + 1) _ (by omega) (by omega) (by omega) hs.1 hs.2
  exact key _ 0 q rfl (by omega) (by omega) q0 q1

theorem slices_Contains_tells {s : List Int} {v : Int} (hs : s.length ≤ 4611686018427387904) : Tells (slices_Contains s v) (v ∈ s) :=
  Tells.iff (contains_tells (f := fun x => some (decide (v = x))) (P := fun x => v = x) (slices_Index_L2_eq s v) hs (fun x _ => Tells.dec Iff.rfl)) ⟨fun ⟨x, hx, e⟩ => e ▸ hx, fun h => ⟨v, h, rfl⟩⟩

abbrev Mul := Int × Int × (List (List Int)) × (List Int) × Unit
def MBig (m : Mul) : Prop := m.2.2.1.length < 1 ∨ 4 < m.2.2.1.length
def MRag (m : Mul) : Prop := ∃ r ∈ m.2.2.1, ¬ (r.length : Int) = m.1
def MOut (m : Mul) : Prop := (m.2.1 < 0 ∨ (m.2.2.1.length : Int) ≤ m.2.1) ∨ (∃ r ∈ m.2.2.1, ∃ q ∈ r, q < 0 ∨ (m.2.2.1.length : Int) ≤ q) ∨ (∃ s ∈ m.2.2.2.1, s < 1 ∨ ishl .i64 1 (m.2.2.1.length : Int) ≤ s)
def MFall (m : Mul) : Prop := ∃ i : Int, 1 ≤ i ∧ i < m.2.2.2.1.length ∧ ix m.2.2.2.1 i ≤ ix m.2.2.2.1 (i - 1)
open Classical in
noncomputable def mulE (m : Mul) : Int := if m.1 < 1 ∨ 4 < m.1 then 2 else if MBig m then 1 else if MRag m then 3 else if MOut m then 2 else if MFall m then 3 else 0
theorem muller_Check_spec {m : Mul} (hs : m.2.2.2.1.length ≤ 1000000000000000) : muller_Check m = some (mulE m) := by
  unfold muller_Check mulE
  by_cases c1 : m.1 < 1 ∨ 4 < m.1
  · rw [if_pos c1]; (try dsimp only); (repeat' first | (with_reducible refine G_to ?_ ?_; focus (first | omega | (unfold fits; omega) | (unfold room; (try simp only [List.length_append, List.length_cons, List.length_nil]); omega))) | (with_reducible refine itet_to ?_) | (with_reducible refine itef_to ?_) | (with_reducible refine ite_to (fun _ => ?_) (fun _ => ?_))) <;> try (exfalso; omega)
    all_goals rfl
  rw [if_neg c1]
  by_cases c2 : MBig m
  · rw [if_pos c2]; unfold MBig at c2; (try dsimp only); (repeat' first | (with_reducible refine G_to ?_ ?_; focus (first | omega | (unfold fits; omega) | (unfold room; (try simp only [List.length_append, List.length_cons, List.length_nil]); omega))) | (with_reducible refine itet_to ?_) | (with_reducible refine itef_to ?_) | (with_reducible refine ite_to (fun _ => ?_) (fun _ => ?_))) <;> try (exfalso; omega)
    all_goals rfl
  rw [if_neg c2]
  unfold MBig at c2
  (try dsimp only); (repeat' first | (with_reducible refine G_to ?_ ?_; focus (first | omega | (unfold fits; omega) | (unfold room; (try simp only [List.length_append, List.length_cons, List.length_nil]); omega))) | (with_reducible refine itet_to ?_) | (with_reducible refine itef_to ?_) | (with_reducible refine ite_to (fun _ => ?_) (fun _ => ?_))) <;> try (exfalso; omega)
  have k1 : Tells (slices_ContainsFunc m.2.2.1 m) (MRag m) := contains_tells (f := fun r => muller_Check_1 r m) (slices_IndexFunc_L2_eq m.2.2.1 m) (by omega) (fun x _ => Tells.dec Iff.rfl)
  have nn : ∀ q t : Int, Tells (muller_Check_2 q t) (q < 0 ∨ t ≤ q) := fun q t => by
    unfold muller_Check_2
    by_cases h : q < 0
    · rw [if_pos (decide_eq_true h)]; exact Tells.of (by simp [h])
    · rw [if_neg (by simpa using h)]; exact Tells.dec (by omega)
  have k2 : ∀ r ∈ m.2.2.1, r.length ≤ 1000 → Tells (slices_ContainsFunc_1 r (m.2.2.1.length : Int)) (∃ q ∈ r, q < 0 ∨ (m.2.2.1.length : Int) ≤ q) := fun r _ hr => contains_tells (f := fun q => muller_Check_2 q (m.2.2.1.length : Int)) (slices_IndexFunc_1_L2_eq r (m.2.2.1.length : Int)) (by omega) (fun x _ => nn x _)
  have k4 : Tells (slices_ContainsFunc_4 m.2.2.2.1 (m.2.2.1.length : Int)) (∃ s ∈ m.2.2.2.1, s < 1 ∨ ishl .i64 1 (m.2.2.1.length : Int) ≤ s) := contains_tells (f := fun q => muller_Check_4 q (m.2.2.1.length : Int)) (slices_IndexFunc_4_L2_eq m.2.2.2.1 (m.2.2.1.length : Int)) (by omega) (fun x _ => by
    unfold muller_Check_4
    by_cases h : x < 1
    · rw [if_pos (decide_eq_true h)]; exact Tells.of (by simp [h])
    · rw [if_neg (by simpa using h), G_pos (by omega)]; exact Tells.dec (by omega))
  refine k1.to (fun h => by rw [if_pos h]) (fun h => ?_)
  rw [if_neg h]
  have hr : ∀ r ∈ m.2.2.1, r.length ≤ 1000 := fun r hr => by
    by_cases e : (r.length : Int) = m.1
    · omega
    · exact absurd ⟨r, hr, e⟩ h
  refine (nn _ _).to (fun h => by rw [if_pos (.inl h)]) (fun h1 => ?_)
  obtain ⟨b, hb, hb2⟩ : ∃ b, slices_ContainsFunc_2 m.2.2.1 (m.2.2.1.length : Int) = some (b, (m.2.2.1.length : Int)) ∧ (b = true ↔ ∃ r ∈ m.2.2.1, ∃ q ∈ r, q < 0 ∨ (m.2.2.1.length : Int) ≤ q) :=
    contains_tells2 (f := muller_Check_3) (slices_IndexFunc_2_L2_eq m.2.2.1) (by omega) (fun r hrm => by
      obtain ⟨b, e, e2⟩ := k2 r hrm (hr r hrm)
      exact ⟨b, by unfold muller_Check_3; rw [e]; rfl, e2⟩)
  rw [hb]
  refine bind_to rfl ?_
  refine iteb_to (fun h => by rw [if_pos (.inr (.inl (hb2.1 h)))]) (fun h2 => ?_)
  refine k4.to (fun h => by rw [if_pos (.inr (.inr h))]) (fun h3 => ?_)
  rw [if_neg (fun h => h.elim h1 (fun h => h.elim (fun h => by rw [hb2.2 h] at h2; cases h2) h3))]
  refine scan_to (len := (m.2.2.2.1.length : Int)) (bad := fun t => 0 < t ∧ ix m.2.2.2.1 t ≤ ix m.2.2.2.1 (t - 1)) (by omega) (fun t h0 h1 => ⟨fun hb => ?_, fun hb => ?_⟩) (fun hh => ?_)
  · rw [muller_Check_L12_eq]; unfold muller_Check_L12_B
    (try dsimp only); (repeat' first | (with_reducible refine G_to ?_ ?_; focus (first | omega | (unfold fits; omega) | (unfold room; (try simp only [List.length_append, List.length_cons, List.length_nil]); omega))) | (with_reducible refine itet_to ?_) | (with_reducible refine itef_to ?_) | (with_reducible refine ite_to (fun _ => ?_) (fun _ => ?_))) <;> try (exfalso; omega)
    rw [if_pos ⟨t, by omega, by omega, hb.2⟩]
  · conv => lhs; rw [muller_Check_L12_eq]; unfold muller_Check_L12_B
    (try dsimp only); (repeat' first | (with_reducible refine G_to ?_ ?_; focus (first | omega | (unfold fits; omega) | (unfold room; (try simp only [List.length_append, List.length_cons, List.length_nil]); omega))) | (with_reducible refine itet_to ?_) | (with_reducible refine itef_to ?_) | (with_reducible refine ite_to (fun _ => ?_) (fun _ => ?_))) <;> try (exfalso; omega)
    all_goals rfl
  · rw [muller_Check_L12_eq]; unfold muller_Check_L12_B
    (try dsimp only); (repeat' first | (with_reducible refine G_to ?_ ?_; focus (first | omega | (unfold fits; omega) | (unfold room; (try simp only [List.length_append, List.length_cons, List.length_nil]); omega))) | (with_reducible refine itet_to ?_) | (with_reducible refine itef_to ?_) | (with_reducible refine ite_to (fun _ => ?_) (fun _ => ?_))) <;> try (exfalso; omega)
    rw [if_neg]
    rintro ⟨i, i0, i1, i2⟩
    exact hh i (by omega) i1 ⟨by omega, i2⟩

theorem r34_Check_spec {m : Mul} (hs : m.2.2.2.1.length ≤ 1000000000000000) : r34_Check m = some (mulE m) := by
  unfold r34_Check mulE
  by_cases c1 : m.1 < 1 ∨ 4 < m.1
  · rw [if_pos c1]; (try dsimp only); (repeat' first | (with_reducible refine G_to ?_ ?_; focus (first | omega | (unfold fits; omega) | (unfold room; (try simp only [List.length_append, List.length_cons, List.length_nil]); omega))) | (with_reducible refine itet_to ?_) | (with_reducible refine itef_to ?_) | (with_reducible refine ite_to (fun _ => ?_) (fun _ => ?_))) <;> try (exfalso; omega)
    all_goals rfl
  rw [if_neg c1]
  by_cases c2 : MBig m
  · rw [if_pos c2]; unfold MBig at c2; (try dsimp only); (repeat' first | (with_reducible refine G_to ?_ ?_; focus (first | omega | (unfold fits; omega) | (unfold room; (try simp only [List.length_append, List.length_cons, List.length_nil]); omega))) | (with_reducible refine itet_to ?_) | (with_reducible refine itef_to ?_) | (with_reducible refine ite_to (fun _ => ?_) (fun _ => ?_))) <;> try (exfalso; omega)
    all_goals rfl
  rw [if_neg c2]
  unfold MBig at c2
  (try dsimp only); (repeat' first | (with_reducible refine G_to ?_ ?_; focus (first | omega | (unfold fits; omega) | (unfold room; (try simp only [List.length_append, List.length_cons, List.length_nil]); omega))) | (with_reducible refine itet_to ?_) | (with_reducible refine itef_to ?_) | (with_reducible refine ite_to (fun _ => ?_) (fun _ => ?_))) <;> try (exfalso; omega)
  refine scan_to (len := (m.2.2.1.length : Int)) (bad := fun t => ¬ ((ix m.2.2.1 t).length : Int) = m.1) (by omega) (fun t h0 h1 => ⟨fun hb => ?_, fun hb => ?_⟩) (fun hh => ?_)
  · rw [r34_Check_L7_eq]; unfold r34_Check_L7_B
    (try dsimp only); (repeat' first | (with_reducible refine G_to ?_ ?_; focus (first | omega | (unfold fits; omega) | (unfold room; (try simp only [List.length_append, List.length_cons, List.length_nil]); omega))) | (with_reducible refine itet_to ?_) | (with_reducible refine itef_to ?_) | (with_reducible refine ite_to (fun _ => ?_) (fun _ => ?_))) <;> try (exfalso; omega)
    rw [if_pos (show MRag m from ex_ix.2 ⟨t, by omega, by omega, hb⟩)]
  · conv => lhs; rw [r34_Check_L7_eq]; unfold r34_Check_L7_B
    (try dsimp only); (repeat' first | (with_reducible refine G_to ?_ ?_; focus (first | omega | (unfold fits; omega) | (unfold room; (try simp only [List.length_append, List.length_cons, List.length_nil]); omega))) | (with_reducible refine itet_to ?_) | (with_reducible refine itef_to ?_) | (with_reducible refine ite_to (fun _ => ?_) (fun _ => ?_))) <;> try (exfalso; omega)
    all_goals first | rfl | (exfalso; exact hb ‹_›) | (exfalso; exact absurd ‹_› hb)
  rw [if_neg (show ¬ MRag m from fun h => by obtain ⟨i, i0, i1, i2⟩ := ex_ix.1 h; exact hh i i0 i1 i2)]
  rw [r34_Check_L7_eq]; unfold r34_Check_L7_B
  by_cases c4 : m.2.1 < 0 ∨ (m.2.2.1.length : Int) ≤ m.2.1
  · rw [if_pos (show MOut m from .inl c4)]
    (try dsimp only); (repeat' first | (with_reducible refine G_to ?_ ?_; focus (first | omega | (unfold fits; omega) | (unfold room; (try simp only [List.length_append, List.length_cons, List.length_nil]); omega))) | (with_reducible refine itet_to ?_) | (with_reducible refine itef_to ?_) | (with_reducible refine ite_to (fun _ => ?_) (fun _ => ?_))) <;> try (exfalso; omega)
    all_goals rfl
  (try dsimp only); (repeat' first | (with_reducible refine G_to ?_ ?_; focus (first | omega | (unfold fits; omega) | (unfold room; (try simp only [List.length_append, List.length_cons, List.length_nil]); omega))) | (with_reducible refine itet_to ?_) | (with_reducible refine itef_to ?_) | (with_reducible refine ite_to (fun _ => ?_) (fun _ => ?_))) <;> try (exfalso; omega)
  have hlen : ∀ t : Int, 0 ≤ t → t < m.2.2.1.length → ((ix m.2.2.1 t).length : Int) = m.1 := fun t a b => Decidable.not_not.1 (hh t a b)
  refine scan_to (len := (m.2.2.1.length : Int)) (bad := fun t => ∃ q ∈ ix m.2.2.1 t, q < 0 ∨ (m.2.2.1.length : Int) ≤ q) (by omega) (fun t h0 h1 => ⟨fun hb => ?_, fun hb => ?_⟩) (fun hh2 => ?_)
  · rw [r34_Check_L14_eq]; unfold r34_Check_L14_B
    (try dsimp only); (repeat' first | (with_reducible refine G_to ?_ ?_; focus (first | omega | (unfold fits; omega) | (unfold room; (try simp only [List.length_append, List.length_cons, List.length_nil]); omega))) | (with_reducible refine itet_to ?_) | (with_reducible refine itef_to ?_) | (with_reducible refine ite_to (fun _ => ?_) (fun _ => ?_))) <;> try (exfalso; omega)
    have hlt := hlen t h0 h1
    refine scan_to (len := m.1) (bad := fun a => ix (ix m.2.2.1 t) a < 0 ∨ (m.2.2.1.length : Int) ≤ ix (ix m.2.2.1 t) a) (by omega) (fun a a0 a1 => ⟨fun hb => ?_, fun hb => ?_⟩) (fun hh3 => ?_)
    · rw [r34_Check_L17_eq]; unfold r34_Check_L17_B
      (try dsimp only); (repeat' first | (with_reducible refine G_to ?_ ?_; focus (first | omega | (unfold fits; omega) | (unfold room; (try simp only [List.length_append, List.length_cons, List.length_nil]); omega))) | (with_reducible refine itet_to ?_) | (with_reducible refine itef_to ?_) | (with_reducible refine ite_to (fun _ => ?_) (fun _ => ?_))) <;> try (exfalso; omega)
      all_goals rw [if_pos (show MOut m from .inr (.inl (ex_ix.2 ⟨t, h0, h1, ex_ix.2 ⟨a, a0, by omega, hb⟩⟩)))]
    · conv => lhs; rw [r34_Check_L17_eq]; unfold r34_Check_L17_B
      (try dsimp only); (repeat' first | (with_reducible refine G_to ?_ ?_; focus (first | omega | (unfold fits; omega) | (unfold room; (try simp only [List.length_append, List.length_cons, List.length_nil]); omega))) | (with_reducible refine itet_to ?_) | (with_reducible refine itef_to ?_) | (with_reducible refine ite_to (fun _ => ?_) (fun _ => ?_))) <;> try (exfalso; omega)
      all_goals rfl
    · exfalso
      obtain ⟨i, i0, i1, i2⟩ := ex_ix.1 hb
      exact hh3 i i0 (by omega) i2
  · conv => lhs; rw [r34_Check_L14_eq]; unfold r34_Check_L14_B
    (try dsimp only); (repeat' first | (with_reducible refine G_to ?_ ?_; focus (first | omega | (unfold fits; omega) | (unfold room; (try simp only [List.length_append, List.length_cons, List.length_nil]); omega))) | (with_reducible refine itet_to ?_) | (with_reducible refine itef_to ?_) | (with_reducible refine ite_to (fun _ => ?_) (fun _ => ?_))) <;> try (exfalso; omega)
    have hlt := hlen t h0 h1
    refine scan_to (len := m.1) (bad := fun a => ix (ix m.2.2.1 t) a < 0 ∨ (m.2.2.1.length : Int) ≤ ix (ix m.2.2.1 t) a) (by omega) (fun a a0 a1 => ⟨fun hb' => ?_, fun hb => ?_⟩) (fun hh3 => ?_)
    · exfalso; exact hb (ex_ix.2 ⟨a, a0, by omega, hb'⟩)
    · conv => lhs; rw [r34_Check_L17_eq]; unfold r34_Check_L17_B
      (try dsimp only); (repeat' first | (with_reducible refine G_to ?_ ?_; focus (first | omega | (unfold fits; omega) | (unfold room; (try simp only [List.length_append, List.length_cons, List.length_nil]); omega))) | (with_reducible refine itet_to ?_) | (with_reducible refine itef_to ?_) | (with_reducible refine ite_to (fun _ => ?_) (fun _ => ?_))) <;> try (exfalso; omega)
      all_goals rfl
    · rw [r34_Check_L17_eq]; unfold r34_Check_L17_B
      (try dsimp only); (repeat' first | (with_reducible refine G_to ?_ ?_; focus (first | omega | (unfold fits; omega) | (unfold room; (try simp only [List.length_append, List.length_cons, List.length_nil]); omega))) | (with_reducible refine itet_to ?_) | (with_reducible refine itef_to ?_) | (with_reducible refine ite_to (fun _ => ?_) (fun _ => ?_))) <;> try (exfalso; omega)
      all_goals rfl
  have hnr : ¬ ∃ r ∈ m.2.2.1, ∃ q ∈ r, q < 0 ∨ (m.2.2.1.length : Int) ≤ q := fun h => by
    obtain ⟨t, h0, h1, hb⟩ := ex_ix.1 h
    exact hh2 t h0 h1 hb
  rw [r34_Check_L14_eq]; unfold r34_Check_L14_B
  (try dsimp only); (repeat' first | (with_reducible refine G_to ?_ ?_; focus (first | omega | (unfold fits; omega) | (unfold room; (try simp only [List.length_append, List.length_cons, List.length_nil]); omega))) | (with_reducible refine itet_to ?_) | (with_reducible refine itef_to ?_) | (with_reducible refine ite_to (fun _ => ?_) (fun _ => ?_))) <;> try (exfalso; omega)
  refine scan_to (len := (m.2.2.2.1.length : Int)) (bad := fun t => ix m.2.2.2.1 t < 1 ∨ ishl .i64 1 (m.2.2.1.length : Int) ≤ ix m.2.2.2.1 t) (by omega) (fun t h0 h1 => ⟨fun hb => ?_, fun hb => ?_⟩) (fun hh3 => ?_)
  · rw [r34_Check_L22_eq]; unfold r34_Check_L22_B
    (try dsimp only); (repeat' first | (with_reducible refine G_to ?_ ?_; focus (first | omega | (unfold fits; omega) | (unfold room; (try simp only [List.length_append, List.length_cons, List.length_nil]); omega))) | (with_reducible refine itet_to ?_) | (with_reducible refine itef_to ?_) | (with_reducible refine ite_to (fun _ => ?_) (fun _ => ?_))) <;> try (exfalso; omega)
    all_goals rw [if_pos (show MOut m from .inr (.inr (ex_ix.2 ⟨t, h0, h1, hb⟩)))]
  · conv => lhs; rw [r34_Check_L22_eq]; unfold r34_Check_L22_B
    (try dsimp only); (repeat' first | (with_reducible refine G_to ?_ ?_; focus (first | omega | (unfold fits; omega) | (unfold room; (try simp only [List.length_append, List.length_cons, List.length_nil]); omega))) | (with_reducible refine itet_to ?_) | (with_reducible refine itef_to ?_) | (with_reducible refine ite_to (fun _ => ?_) (fun _ => ?_))) <;> try (exfalso; omega)
    all_goals rfl
  rw [if_neg (show ¬ MOut m from fun h => h.elim c4 (fun h => h.elim hnr (fun h => by
    obtain ⟨t, h0, h1, hb⟩ := ex_ix.1 h
    exact hh3 t h0 h1 hb)))]
  rw [r34_Check_L22_eq]; unfold r34_Check_L22_B
  (try dsimp only); (repeat' first | (with_reducible refine G_to ?_ ?_; focus (first | omega | (unfold fits; omega) | (unfold room; (try simp only [List.length_append, List.length_cons, List.length_nil]); omega))) | (with_reducible refine itet_to ?_) | (with_reducible refine itef_to ?_) | (with_reducible refine ite_to (fun _ => ?_) (fun _ => ?_))) <;> try (exfalso; omega)
  by_cases c5 : (m.2.2.2.1.length : Int) < 1
  · rw [r34_Check_L27_eq]; unfold r34_Check_L27_B
    (try dsimp only); (repeat' first | (with_reducible refine G_to ?_ ?_; focus (first | omega | (unfold fits; omega) | (unfold room; (try simp only [List.length_append, List.length_cons, List.length_nil]); omega))) | (with_reducible refine itet_to ?_) | (with_reducible refine itef_to ?_) | (with_reducible refine ite_to (fun _ => ?_) (fun _ => ?_))) <;> try (exfalso; omega)
    rw [if_neg (show ¬ MFall m from fun ⟨i, i0, i1, _⟩ => by omega)]
  refine scan_to (len := (m.2.2.2.1.length : Int)) (bad := fun t => ix m.2.2.2.1 t ≤ ix m.2.2.2.1 (t - 1)) (by omega) (fun t h0 h1 => ⟨fun hb => ?_, fun hb => ?_⟩) (fun hh4 => ?_)
  · rw [r34_Check_L27_eq]; unfold r34_Check_L27_B
    (try dsimp only); (repeat' first | (with_reducible refine G_to ?_ ?_; focus (first | omega | (unfold fits; omega) | (unfold room; (try simp only [List.length_append, List.length_cons, List.length_nil]); omega))) | (with_reducible refine itet_to ?_) | (with_reducible refine itef_to ?_) | (with_reducible refine ite_to (fun _ => ?_) (fun _ => ?_))) <;> try (exfalso; omega)
    rw [if_pos (show MFall m from ⟨t, h0, h1, hb⟩)]
  · conv => lhs; rw [r34_Check_L27_eq]; unfold r34_Check_L27_B
    (try dsimp only); (repeat' first | (with_reducible refine G_to ?_ ?_; focus (first | omega | (unfold fits; omega) | (unfold room; (try simp only [List.length_append, List.length_cons, List.length_nil]); omega))) | (with_reducible refine itet_to ?_) | (with_reducible refine itef_to ?_) | (with_reducible refine ite_to (fun _ => ?_) (fun _ => ?_))) <;> try (exfalso; omega)
    all_goals rfl
  · rw [r34_Check_L27_eq]; unfold r34_Check_L27_B
    (try dsimp only); (repeat' first | (with_reducible refine G_to ?_ ?_; focus (first | omega | (unfold fits; omega) | (unfold room; (try simp only [List.length_append, List.length_cons, List.length_nil]); omega))) | (with_reducible refine itet_to ?_) | (with_reducible refine itef_to ?_) | (with_reducible refine ite_to (fun _ => ?_) (fun _ => ?_))) <;> try (exfalso; omega)
    rw [if_neg (show ¬ MFall m from fun ⟨i, i0, i1, i2⟩ => hh4 i i0 i1 i2)]

structure MOk (m : Mul) : Prop where
  let1 : 1 ≤ m.1 ∧ m.1 ≤ 4
  n1 : 1 ≤ m.2.2.1.length ∧ m.2.2.1.length ≤ 4
  st : 0 ≤ m.2.1 ∧ m.2.1 < m.2.2.1.length
  tab : Tab m.1 m.2.2.1
theorem mulE_zero {m : Mul} (h : mulE m = 0) : MOk m := by
  unfold mulE at h
  by_cases c1 : m.1 < 1 ∨ 4 < m.1
  · rw [if_pos c1] at h; omega
  rw [if_neg c1] at h
  by_cases c2 : MBig m
  · rw [if_pos c2] at h; omega
  rw [if_neg c2] at h
  by_cases c3 : MRag m
  · rw [if_pos c3] at h; omega
  rw [if_neg c3] at h
  by_cases c4 : MOut m
  · rw [if_pos c4] at h; omega
  unfold MBig at c2; unfold MRag at c3; unfold MOut at c4
  refine ⟨by omega, by omega, ?_, fun r hr => ?_, fun r hr q hq => ?_⟩
  · have : ¬ (m.2.1 < 0 ∨ (m.2.2.1.length : Int) ≤ m.2.1) := fun h => c4 (.inl h)
    omega
  · by_cases e : (r.length : Int) = m.1
    · exact e
    · exact absurd ⟨r, hr, e⟩ c3
  · have : ¬ (q < 0 ∨ (m.2.2.1.length : Int) ≤ q) := fun h => c4 (.inr (.inl ⟨r, hr, q, hq, h⟩))
    omega
/-- Bits of what comes by. -/
noncomputable def addT (s : Int) (l : List Int) : Int := l.foldl (fun s b => ior .i64 s (ishl .i64 1 b)) s
theorem addT_mask : ∀ {l : List Int} {s : Int} {P : Nat → Prop}, Mask s P → (∀ b ∈ l, 0 ≤ b ∧ b < 62) → Mask (addT s l) (fun b => P b ∨ (b : Int) ∈ l)
  | [], s, P, h, _ => h.iff (fun b => by simp)
  | x :: l, s, P, h, hl => by
    have h1 := addT_mask (l := l) (h.bit (hl x (by simp)).1 (hl x (by simp)).2) (fun b hb => hl b (by simp [hb]))
    refine h1.iff (fun b => ?_)
    rw [List.mem_cons, or_assoc]
section
variable {m : Mul} {l : List Int × List Int × Unit}
theorem mulA_L16 (h : MOk m) (hw : ∀ a ∈ l.2.1, 0 ≤ a ∧ a < m.1) (hl : l.2.1.length ≤ 1000000) {q0 : Int} {r15 : Int → Int → Option (Bool × Int)} : ∀ (n : Nat) (t q s : Int), (l.2.1.length - t).toNat = n → 0 ≤ t → t ≤ l.2.1.length → 0 ≤ q → q < m.2.2.1.length →
    muller_Accepts_L16 m l q0 r15 q s t = if wlk m.2.2.1 q (l.2.1.drop t.toNat) = q0 then (slices_Contains m.2.2.2.1 (addT s (trc m.2.2.1 q (l.2.1.drop t.toNat)))).bind (fun y => some (y, (0 : Int))) else r15 (wlk m.2.2.1 q (l.2.1.drop t.toNat)) (addT s (trc m.2.2.1 q (l.2.1.drop t.toNat))) := by
  intro n
  induction n with
  | zero =>
    intro t q s hn h0 h1 q0 q1
    rw [muller_Accepts_L16_eq]; unfold muller_Accepts_L16_B
    rw [List.drop_of_length_le (by omega), if_neg (by simp only [decide_eq_true_eq]; omega)]
    refine ite_to (fun h => ?_) (fun h => ?_)
    · exact (if_pos h).symm
    · exact (if_neg h).symm
  | succ n ih =>
    intro t q s hn h0 h1 q0 q1
    have ha := hw _ (ix_mem h0 (by omega : t < l.2.1.length))
    have hr := h.tab.rowlen q0 q1
    have hs := h.tab.stpb q0 q1 ha.1 ha.2
    rw [muller_Accepts_L16_eq]; unfold muller_Accepts_L16_B
    have hs' : 0 ≤ ix (ix m.2.2.1 q) (ix l.2.1 t) := hs.1
    (try dsimp only); (repeat' first | (with_reducible refine G_to ?_ ?_; focus (first | omega | (unfold fits; omega) | (unfold room; (try simp only [List.length_append, List.length_cons, List.length_nil]); omega))) | (with_reducible refine itet_to ?_) | (with_reducible refine itef_to ?_) | (with_reducible refine ite_to (fun _ => ?_) (fun _ => ?_))) <;> try (exfalso; omega)
    rw [ix_drop h0 (by omega)]
    exact ih (t + 1) _ _ (by omega) (by omega) (by omega) hs.1 hs.2
theorem mulR_L13 (h : MOk m) (hw : ∀ a ∈ l.2.1, 0 ≤ a ∧ a < m.1) (hl : l.2.1.length ≤ 1000000) {rd : Int} (hrd : 0 ≤ rd ∧ rd ≤ 100) {r8 : Int → Int → Int → Option Bool} : ∀ (n : Nat) (t q s : Int), (l.2.1.length - t).toNat = n → 0 ≤ t → t ≤ l.2.1.length → 0 ≤ q → q < m.2.2.1.length →
    r34_Accepts_L13 m l rd r8 q s t = r8 (wlk m.2.2.1 q (l.2.1.drop t.toNat)) (addT s (trc m.2.2.1 q (l.2.1.drop t.toNat))) (rd + 1) := by
  intro n
  induction n with
  | zero =>
    intro t q s hn h0 h1 q0 q1
    rw [r34_Accepts_L13_eq]; unfold r34_Accepts_L13_B
    (try dsimp only); (repeat' first | (with_reducible refine G_to ?_ ?_; focus (first | omega | (unfold fits; omega) | (unfold room; (try simp only [List.length_append, List.length_cons, List.length_nil]); omega))) | (with_reducible refine itet_to ?_) | (with_reducible refine itef_to ?_) | (with_reducible refine ite_to (fun _ => ?_) (fun _ => ?_))) <;> try (exfalso; omega)
    rw [List.drop_of_length_le (by omega)]; rfl
  | succ n ih =>
    intro t q s hn h0 h1 q0 q1
    have ha := hw _ (ix_mem h0 (by omega : t < l.2.1.length))
    have hr := h.tab.rowlen q0 q1
    have hs := h.tab.stpb q0 q1 ha.1 ha.2
    rw [r34_Accepts_L13_eq]; unfold r34_Accepts_L13_B
    have hs' : 0 ≤ ix (ix m.2.2.1 q) (ix l.2.1 t) := hs.1
    (try dsimp only); (repeat' first | (with_reducible refine G_to ?_ ?_; focus (first | omega | (unfold fits; omega) | (unfold room; (try simp only [List.length_append, List.length_cons, List.length_nil]); omega))) | (with_reducible refine itet_to ?_) | (with_reducible refine itef_to ?_) | (with_reducible refine ite_to (fun _ => ?_) (fun _ => ?_))) <;> try (exfalso; omega)
    rw [ix_drop h0 (by omega)]
    exact ih (t + 1) _ _ (by omega) (by omega) (by omega) hs.1 hs.2
/-- One round: the state and the bits. -/
noncomputable def rnd (m : Mul) (w : List Int) (x : Int × Int) : Int × Int := (wlk m.2.2.1 x.1 w, addT x.2 (trc m.2.2.1 x.1 w))
theorem rnd_fst (k : Nat) (x : Int × Int) (w : List Int) : (itn (rnd m w) k x).1 = itn (fun q => wlk m.2.2.1 q w) k x.1 := by
  induction k with
  | zero => rfl
  | succ k ih => show wlk _ (itn (rnd m w) k x).1 w = _; rw [ih]; rfl
theorem rnd_mask (h : MOk m) {w : List Int} (hw : ∀ a ∈ w, 0 ≤ a ∧ a < m.1) {q : Int} (q0 : 0 ≤ q) (q1 : q < m.2.2.1.length) : ∀ k, (0 ≤ itn (fun q => wlk m.2.2.1 q w) k q ∧ itn (fun q => wlk m.2.2.1 q w) k q < m.2.2.1.length) ∧ Mask (itn (rnd m w) k (q, 0)).2 (fun b => ∃ i, i < k ∧ (b : Int) ∈ trc m.2.2.1 (itn (fun q => wlk m.2.2.1 q w) i q) w)
  | 0 => ⟨⟨q0, q1⟩, Mask.zero.iff (fun b => by simp)⟩
  | k + 1 => by
    obtain ⟨⟨h1, h2⟩, h3⟩ := rnd_mask h hw q0 q1 k
    have hn := h.n1.2
    refine ⟨h.tab.wlkb h1 h2 hw, ?_⟩
    have h4 := addT_mask (l := trc m.2.2.1 (itn (rnd m w) k (q, 0)).1 w) h3 (fun b hb => by
      rw [rnd_fst] at hb
      have := h.tab.trcb h1 h2 hw b hb
      omega)
    refine h4.iff (fun b => ?_)
    rw [rnd_fst]
    constructor
    · rintro (⟨i, hi, hb⟩ | hb)
      · exact ⟨i, by omega, hb⟩
      · exact ⟨k, by omega, hb⟩
    · rintro ⟨i, hi, hb⟩
      by_cases e : i = k
      · subst e; exact .inr hb
      · exact .inl ⟨i, by omega, hb⟩
/-- Any number of rounds that is a whole turn brings the same bits as n. -/
theorem rnd_same (h : MOk m) {w : List Int} (hw : ∀ a ∈ w, 0 ≤ a ∧ a < m.1) {q : Int} (q0 : 0 ≤ q) (q1 : q < m.2.2.1.length) {p n : Nat} (hp : 0 < p) (hpn : p ≤ n) (he : itn (fun q => wlk m.2.2.1 q w) p q = q) : (itn (rnd m w) p (q, 0)).2 = (itn (rnd m w) n (q, 0)).2 := by
  refine (rnd_mask h hw q0 q1 p).2.ext (rnd_mask h hw q0 q1 n).2 (fun b => ⟨fun ⟨i, hi, hb⟩ => ⟨i, by omega, hb⟩, fun ⟨i, hi, hb⟩ => ⟨i % p, Nat.mod_lt _ hp, ?_⟩⟩)
  rw [← itn_mod he]; exact hb
theorem mulA_L15 (h : MOk m) (hw : ∀ a ∈ l.2.1, 0 ≤ a ∧ a < m.1) (hl : l.2.1.length ≤ 1000000) {q : Int} (q0 : 0 ≤ q) (q1 : q < m.2.2.1.length) {p n : Nat} (hp : 0 < p) (hpn : p ≤ n) (he : itn (fun q => wlk m.2.2.1 q l.2.1) p q = q) : ∀ (d k : Nat), p - k = d → k < p →
    muller_Accepts_L15 m l q (itn (rnd m l.2.1) k (q, 0)).1 (itn (rnd m l.2.1) k (q, 0)).2 = (slices_Contains m.2.2.2.1 (itn (rnd m l.2.1) n (q, 0)).2).bind (fun y => some (y, (0 : Int))) := by
  intro d
  induction d with
  | zero => intro k h1 h2; omega
  | succ d ih =>
    intro k h1 h2
    have hk := (rnd_mask h hw q0 q1 k).1
    rw [muller_Accepts_L15_eq]; unfold muller_Accepts_L15_B
    rw [mulA_L16 h hw hl _ 0 _ _ rfl (by omega) (by omega) (by rw [rnd_fst]; exact hk.1) (by rw [rnd_fst]; exact hk.2)]
    have e1 : wlk m.2.2.1 (itn (rnd m l.2.1) k (q, 0)).1 (l.2.1.drop (0 : Int).toNat) = (itn (rnd m l.2.1) (k + 1) (q, 0)).1 := rfl
    have e2 : addT (itn (rnd m l.2.1) k (q, 0)).2 (trc m.2.2.1 (itn (rnd m l.2.1) k (q, 0)).1 (l.2.1.drop (0 : Int).toNat)) = (itn (rnd m l.2.1) (k + 1) (q, 0)).2 := rfl
    rw [e1, e2]
    by_cases e : (itn (rnd m l.2.1) (k + 1) (q, 0)).1 = q
    · rw [if_pos e]
      rw [rnd_fst] at e
      rw [rnd_same h hw q0 q1 (p := k + 1) (n := n) (by omega) (by omega) e]
    · rw [if_neg e]
      by_cases hkp : k + 1 = p
      · rw [rnd_fst, hkp] at e; exact absurd he e
      · exact ih (k + 1) (by omega) (by omega)
theorem mulA_L10 (h : MOk m) (hw : ∀ a ∈ l.2.1, 0 ≤ a ∧ a < m.1) (hl : l.2.1.length ≤ 1000000) : ∀ (n : Nat) (t q : Int), (m.2.2.1.length - t).toNat = n → 0 ≤ t → t ≤ m.2.2.1.length → 0 ≤ q → q < m.2.2.1.length →
    muller_Accepts_L10 m l q t = muller_Accepts_L15 m l (itn (fun q => wlk m.2.2.1 q l.2.1) n q) (itn (fun q => wlk m.2.2.1 q l.2.1) n q) 0 := by
  intro n
  induction n with
  | zero =>
    intro t q hn h0 h1 q0 q1
    rw [muller_Accepts_L10_eq]; unfold muller_Accepts_L10_B
    (try dsimp only); (repeat' first | (with_reducible refine G_to ?_ ?_; focus (first | omega | (unfold fits; omega) | (unfold room; (try simp only [List.length_append, List.length_cons, List.length_nil]); omega))) | (with_reducible refine itet_to ?_) | (with_reducible refine itef_to ?_) | (with_reducible refine ite_to (fun _ => ?_) (fun _ => ?_))) <;> try (exfalso; omega)
    rfl
  | succ n ih =>
    intro t q hn h0 h1 q0 q1
    have hn4 := h.n1
    have hs := h.tab.wlkb q0 q1 hw
    rw [muller_Accepts_L10_eq]; unfold muller_Accepts_L10_B
    (try dsimp only); (repeat' first | (with_reducible refine G_to ?_ ?_; focus (first | omega | (unfold fits; omega) | (unfold room; (try simp only [List.length_append, List.length_cons, List.length_nil]); omega))) | (with_reducible refine itet_to ?_) | (with_reducible refine itef_to ?_) | (with_reducible refine ite_to (fun _ => ?_) (fun _ => ?_))) <;> try (exfalso; omega)
    refine bind_to (det_After_spec (d := (m.1, ((0 : Int), (m.2.2.1, ([], ()))))) h.tab hw hl q0 q1) ?_
    (try dsimp only); (repeat' first | (with_reducible refine G_to ?_ ?_; focus (first | omega | (unfold fits; omega) | (unfold room; (try simp only [List.length_append, List.length_cons, List.length_nil]); omega))) | (with_reducible refine itet_to ?_) | (with_reducible refine itef_to ?_) | (with_reducible refine ite_to (fun _ => ?_) (fun _ => ?_))) <;> try (exfalso; omega)
    rw [itn_succ]
    exact ih (t + 1) _ (by omega) (by omega) (by omega) hs.1 hs.2
/-- The bits of what comes again and again. -/
noncomputable def mulBits (m : Mul) (l : List Int × List Int × Unit) : Int := (itn (rnd m l.2.1) m.2.2.1.length (itn (fun q => wlk m.2.2.1 q l.2.1) m.2.2.1.length (wlk m.2.2.1 m.2.1 l.1), 0)).2
theorem muller_Accepts_good (hs : m.2.2.2.1.length ≤ 1000000000000000) (hm : mulE m = 0) (hl : lasE m.1 l = 0) : ∃ b, muller_Accepts m l = some (b, 0) ∧ (b = true ↔ mulBits m l ∈ m.2.2.2.1) := by
  have h := mulE_zero hm
  obtain ⟨a1, a2, a3⟩ := lasE_zero hl
  have b1 := mayE_zero a1
  have b2 := mayE_zero a2
  have hq := h.tab.wlkb h.st.1 h.st.2 b1.2.2
  have hn4 := h.n1
  unfold muller_Accepts
  obtain ⟨p, hp, hpn, he⟩ := circleI (f := fun q => wlk m.2.2.1 q l.2.1) (n := m.2.2.1.length) (fun q q0 q1 => h.tab.wlkb q0 q1 b2.2.2) hq.1 hq.2
  have hqn := (rnd_mask h b2.2.2 hq.1 hq.2 m.2.2.1.length).1
  have key := mulA_L15 h b2.2.2 (by omega) hqn.1 hqn.2 hp hpn he p 0 rfl hp
  obtain ⟨b, hb, hb2⟩ := slices_Contains_tells (s := m.2.2.2.1) (v := mulBits m l) (by omega)
  refine ⟨b, ?_, hb2⟩
  refine bind_to (muller_Check_spec hs) ?_
  rw [hm]
  (try dsimp only); (repeat' first | (with_reducible refine G_to ?_ ?_; focus (first | omega | (unfold fits; omega) | (unfold room; (try simp only [List.length_append, List.length_cons, List.length_nil]); omega))) | (with_reducible refine itet_to ?_) | (with_reducible refine itef_to ?_) | (with_reducible refine ite_to (fun _ => ?_) (fun _ => ?_))) <;> try (exfalso; omega)
  refine bind_to word_Lasso_spec ?_
  rw [show lasE m.1 (l.1, l.2.1, ()) = 0 from hl]
  (try dsimp only); (repeat' first | (with_reducible refine G_to ?_ ?_; focus (first | omega | (unfold fits; omega) | (unfold room; (try simp only [List.length_append, List.length_cons, List.length_nil]); omega))) | (with_reducible refine itet_to ?_) | (with_reducible refine itef_to ?_) | (with_reducible refine ite_to (fun _ => ?_) (fun _ => ?_))) <;> try (exfalso; omega)
  refine bind_to (det_After_spec (d := (m.1, ((0 : Int), (m.2.2.1, ([], ()))))) h.tab b1.2.2 (by omega) h.st.1 h.st.2) ?_
  have e10 := mulA_L10 (l := l) h b2.2.2 (by omega) m.2.2.1.length 0 (wlk m.2.2.1 m.2.1 l.1) (by omega) (by omega) (by omega) hq.1 hq.2
  refine e10.trans (key.trans ?_)
  exact bind_to hb rfl
theorem muller_Accepts_bad (hs : m.2.2.2.1.length ≤ 1000000000000000) (hm : ¬ mulE m = 0) : muller_Accepts m l = some (false, mulE m) := by
  unfold muller_Accepts
  refine bind_to (muller_Check_spec hs) ?_
  have hm' : ¬ mulE (m.1, m.2.1, m.2.2.1, m.2.2.2.1, ()) = 0 := hm
  rw [if_pos (decide_eq_true hm')]
theorem muller_Accepts_bad2 (hs : m.2.2.2.1.length ≤ 1000000000000000) (hm : mulE m = 0) (hl : ¬ lasE m.1 l = 0) : muller_Accepts m l = some (false, lasE m.1 l) := by
  unfold muller_Accepts
  refine bind_to (muller_Check_spec hs) ?_
  rw [show mulE (m.1, m.2.1, m.2.2.1, m.2.2.2.1, ()) = 0 from hm]
  (try dsimp only); (repeat' first | (with_reducible refine G_to ?_ ?_; focus (first | omega | (unfold fits; omega) | (unfold room; (try simp only [List.length_append, List.length_cons, List.length_nil]); omega))) | (with_reducible refine itet_to ?_) | (with_reducible refine itef_to ?_) | (with_reducible refine ite_to (fun _ => ?_) (fun _ => ?_))) <;> try (exfalso; omega)
  refine bind_to word_Lasso_spec ?_
  have hl' : ¬ lasE m.1 (l.1, l.2.1, ()) = 0 := hl
  rw [if_pos (decide_eq_true hl')]
theorem mulR_L18 {m : Mul} (hs : m.2.2.2.1.length ≤ 1000000000000000) {v : Int} : ∃ b, r34_Accepts_L18 m v 0 = some b ∧ (b = true ↔ v ∈ m.2.2.2.1) := by
  by_cases hv : v ∈ m.2.2.2.1
  · refine ⟨true, ?_, by simp [hv]⟩
    refine scan_to (len := (m.2.2.2.1.length : Int)) (bad := fun t => ix m.2.2.2.1 t = v) (by omega) (fun t h0 h1 => ⟨fun hb => ?_, fun hb => ?_⟩) (fun hh => ?_)
    · rw [r34_Accepts_L18_eq]; unfold r34_Accepts_L18_B
      (try dsimp only); (repeat' first | (with_reducible refine G_to ?_ ?_; focus (first | omega | (unfold fits; omega) | (unfold room; (try simp only [List.length_append, List.length_cons, List.length_nil]); omega))) | (with_reducible refine itet_to ?_) | (with_reducible refine itef_to ?_) | (with_reducible refine ite_to (fun _ => ?_) (fun _ => ?_))) <;> try (exfalso; omega)
      all_goals first | rfl | (exfalso; exact absurd hb ‹_›)
    · conv => lhs; rw [r34_Accepts_L18_eq]; unfold r34_Accepts_L18_B
      (try dsimp only); (repeat' first | (with_reducible refine G_to ?_ ?_; focus (first | omega | (unfold fits; omega) | (unfold room; (try simp only [List.length_append, List.length_cons, List.length_nil]); omega))) | (with_reducible refine itet_to ?_) | (with_reducible refine itef_to ?_) | (with_reducible refine ite_to (fun _ => ?_) (fun _ => ?_))) <;> try (exfalso; omega)
      all_goals first | rfl | (exfalso; exact absurd ‹_› hb)
    · obtain ⟨i, i0, i1, i2⟩ := (ex_ix (P := fun x => x = v)).1 ⟨v, hv, rfl⟩
      exact absurd i2 (hh i i0 i1)
  · refine ⟨false, ?_, by simp [hv]⟩
    refine scan_to (len := (m.2.2.2.1.length : Int)) (bad := fun t => ix m.2.2.2.1 t = v) (by omega) (fun t h0 h1 => ⟨fun hb => ?_, fun hb => ?_⟩) (fun hh => ?_)
    · exact absurd (hb ▸ ix_mem h0 h1) hv
    · conv => lhs; rw [r34_Accepts_L18_eq]; unfold r34_Accepts_L18_B
      (try dsimp only); (repeat' first | (with_reducible refine G_to ?_ ?_; focus (first | omega | (unfold fits; omega) | (unfold room; (try simp only [List.length_append, List.length_cons, List.length_nil]); omega))) | (with_reducible refine itet_to ?_) | (with_reducible refine itef_to ?_) | (with_reducible refine ite_to (fun _ => ?_) (fun _ => ?_))) <;> try (exfalso; omega)
      all_goals first | rfl | (exfalso; exact absurd ‹_› hb)
    · rw [r34_Accepts_L18_eq]; unfold r34_Accepts_L18_B
      (try dsimp only); (repeat' first | (with_reducible refine G_to ?_ ?_; focus (first | omega | (unfold fits; omega) | (unfold room; (try simp only [List.length_append, List.length_cons, List.length_nil]); omega))) | (with_reducible refine itet_to ?_) | (with_reducible refine itef_to ?_) | (with_reducible refine ite_to (fun _ => ?_) (fun _ => ?_))) <;> try (exfalso; omega)
      all_goals rfl
theorem mulR_L8 (h : MOk m) (hw : ∀ a ∈ l.2.1, 0 ≤ a ∧ a < m.1) (hl : l.2.1.length ≤ 1000000) {v : Int} (v0 : 0 ≤ v) (v1 : v < m.2.2.1.length) : ∀ (d k : Nat) (s : Int), m.2.2.1.length - k = d → k ≤ m.2.2.1.length →
    ∃ s', r34_Accepts_L8 m l (itn (fun q => wlk m.2.2.1 q l.2.1) k v) s (k : Int) = r34_Accepts_L8 m l (itn (fun q => wlk m.2.2.1 q l.2.1) m.2.2.1.length v) s' (m.2.2.1.length : Int) := by
  intro d
  induction d with
  | zero =>
    intro k s h1 h2
    obtain rfl : k = m.2.2.1.length := by omega
    exact ⟨s, rfl⟩
  | succ d ih =>
    intro k s h1 h2
    have hn4 := h.n1
    have hk := (rnd_mask h hw v0 v1 k).1
    obtain ⟨s', e⟩ := ih (k + 1) (addT s (trc m.2.2.1 (itn (fun q => wlk m.2.2.1 q l.2.1) k v) l.2.1)) (by omega) (by omega)
    refine ⟨s', ?_⟩
    rw [← e]
    conv => lhs; rw [r34_Accepts_L8_eq]; unfold r34_Accepts_L8_B
    (try dsimp only); (repeat' first | (with_reducible refine G_to ?_ ?_; focus (first | omega | (unfold fits; omega) | (unfold room; (try simp only [List.length_append, List.length_cons, List.length_nil]); omega))) | (with_reducible refine itet_to ?_) | (with_reducible refine itef_to ?_) | (with_reducible refine ite_to (fun _ => ?_) (fun _ => ?_))) <;> try (exfalso; omega)
    unfold r34_Accepts_J11
    rw [mulR_L13 h hw hl (by omega) _ 0 _ _ rfl (by omega) (by omega) hk.1 hk.2]
    rfl
theorem mulR_L8' (h : MOk m) (hw : ∀ a ∈ l.2.1, 0 ≤ a ∧ a < m.1) (hl : l.2.1.length ≤ 1000000) {v : Int} (v0 : 0 ≤ v) (v1 : v < m.2.2.1.length) : ∀ (d k : Nat) (s : Int), m.2.2.1.length - k = d → k ≤ m.2.2.1.length → (0 < k → s = (itn (rnd m l.2.1) k (v, 0)).2) →
    r34_Accepts_L8 m l (itn (rnd m l.2.1) k (v, 0)).1 s ((m.2.2.1.length : Int) + k) = r34_Accepts_L18 m (itn (rnd m l.2.1) m.2.2.1.length (v, 0)).2 0 := by
  intro d
  induction d with
  | zero =>
    intro k s h1 h2 h3
    have hn4 := h.n1
    obtain rfl : k = m.2.2.1.length := by omega
    rw [r34_Accepts_L8_eq]; unfold r34_Accepts_L8_B
    (try dsimp only); (repeat' first | (with_reducible refine G_to ?_ ?_; focus (first | omega | (unfold fits; omega) | (unfold room; (try simp only [List.length_append, List.length_cons, List.length_nil]); omega))) | (with_reducible refine itet_to ?_) | (with_reducible refine itef_to ?_) | (with_reducible refine ite_to (fun _ => ?_) (fun _ => ?_))) <;> try (exfalso; omega)
    rw [h3 (by omega)]
  | succ d ih =>
    intro k s h1 h2 h3
    have hn4 := h.n1
    have hk := (rnd_mask h hw v0 v1 k).1
    have e13 : ∀ s, r34_Accepts_L13 m l ((m.2.2.1.length : Int) + k) (r34_Accepts_L8 m l) (itn (rnd m l.2.1) k (v, 0)).1 s 0 = _ := fun s => mulR_L13 h hw hl (by omega) _ 0 _ _ rfl (by omega) (by omega) (by rw [rnd_fst]; exact hk.1) (by rw [rnd_fst]; exact hk.2)
    have ih' := ih (k + 1) (itn (rnd m l.2.1) (k + 1) (v, 0)).2 (by omega) (by omega) (fun _ => rfl)
    rw [r34_Accepts_L8_eq]; unfold r34_Accepts_L8_B
    unfold r34_Accepts_J11
    by_cases hk0 : k = 0
    · subst hk0
      (try dsimp only); (repeat' first | (with_reducible refine G_to ?_ ?_; focus (first | omega | (unfold fits; omega) | (unfold room; (try simp only [List.length_append, List.length_cons, List.length_nil]); omega))) | (with_reducible refine itet_to ?_) | (with_reducible refine itef_to ?_) | (with_reducible refine ite_to (fun _ => ?_) (fun _ => ?_))) <;> try (exfalso; omega)
      rw [e13]
      exact ih'
    · rw [h3 (by omega)]
      (try dsimp only); (repeat' first | (with_reducible refine G_to ?_ ?_; focus (first | omega | (unfold fits; omega) | (unfold room; (try simp only [List.length_append, List.length_cons, List.length_nil]); omega))) | (with_reducible refine itet_to ?_) | (with_reducible refine itef_to ?_) | (with_reducible refine ite_to (fun _ => ?_) (fun _ => ?_))) <;> try (exfalso; omega)
      rw [e13]
      rw [← ih']
      congr 1
theorem mulR_L3 (h : MOk m) (hw : ∀ a ∈ l.1, 0 ≤ a ∧ a < m.1) (hl : l.1.length ≤ 1000000) : ∀ (n : Nat) (t q : Int), (l.1.length - t).toNat = n → 0 ≤ t → t ≤ l.1.length → 0 ≤ q → q < m.2.2.1.length → r34_Accepts_L3 m l q t = r34_Accepts_L8 m l (wlk m.2.2.1 q (l.1.drop t.toNat)) 0 0 := by
  intro n
  induction n with
  | zero =>
    intro t q hn h0 h1 q0 q1
    rw [r34_Accepts_L3_eq]; unfold r34_Accepts_L3_B
    (try dsimp only); (repeat' first | (with_reducible refine G_to ?_ ?_; focus (first | omega | (unfold fits; omega) | (unfold room; (try simp only [List.length_append, List.length_cons, List.length_nil]); omega))) | (with_reducible refine itet_to ?_) | (with_reducible refine itef_to ?_) | (with_reducible refine ite_to (fun _ => ?_) (fun _ => ?_))) <;> try (exfalso; omega)
    rw [List.drop_of_length_le (by omega)]; rfl
  | succ n ih =>
    intro t q hn h0 h1 q0 q1
    have ha := hw _ (ix_mem h0 (by omega : t < l.1.length))
    have hr := h.tab.rowlen q0 q1
    have hs := h.tab.stpb q0 q1 ha.1 ha.2
    rw [r34_Accepts_L3_eq]; unfold r34_Accepts_L3_B
    (try dsimp only); (repeat' first | (with_reducible refine G_to ?_ ?_; focus (first | omega | (unfold fits; omega) | (unfold room; (try simp only [List.length_append, List.length_cons, List.length_nil]); omega))) | (with_reducible refine itet_to ?_) | (with_reducible refine itef_to ?_) | (with_reducible refine ite_to (fun _ => ?_) (fun _ => ?_))) <;> try (exfalso; omega)
    rw [ix_drop h0 (by omega)]
    exact ih (t + 1) _ (by omega) (by omega) (by omega) hs.1 hs.2
theorem r34_Accepts_good (hs : m.2.2.2.1.length ≤ 1000000000000000) (hm : mulE m = 0) (hl : lasE m.1 l = 0) : ∃ b, r34_Accepts m l = some b ∧ (b = true ↔ mulBits m l ∈ m.2.2.2.1) := by
  have h := mulE_zero hm
  obtain ⟨a1, a2, a3⟩ := lasE_zero hl
  have b1 := mayE_zero a1
  have b2 := mayE_zero a2
  have hq := h.tab.wlkb h.st.1 h.st.2 b1.2.2
  have hn4 := h.n1
  have hqn := (rnd_mask h b2.2.2 hq.1 hq.2 m.2.2.1.length).1
  unfold r34_Accepts
  rw [mulR_L3 h b1.2.2 (by omega) _ 0 _ rfl (by omega) (by omega) h.st.1 h.st.2]
  obtain ⟨s', e⟩ := mulR_L8 (l := l) h b2.2.2 (by omega) hq.1 hq.2 m.2.2.1.length 0 0 (by omega) (by omega)
  refine ⟨_, (e.trans (mulR_L8' h b2.2.2 (by omega) hqn.1 hqn.2 m.2.2.1.length 0 s' (by omega) (by omega) (by omega))).trans (mulR_L18 hs).choose_spec.1, (mulR_L18 hs).choose_spec.2⟩
end
theorem law_true (m : Mul) (l : List Int × List Int × Unit) (sm : Sml (.pair (.int .i64) (.pair (.int .i64) (.pair (.list (.list (.int .i64))) (.pair (.list (.int .i64)) .unit)))) m) (sl : Sml (.pair (.list (.int .i64)) (.pair (.list (.int .i64)) .unit)) l) : law_MullerAccepts m l = some true := by
  have hs : m.2.2.2.1.length ≤ 1000000000000000 := by
    have h : m.2.2.2.1.length * 8 ≤ 140737488351232 := sm.2.2.2.1.1
    omega
  unfold law_MullerAccepts
  refine bind_to (muller_Check_spec hs) ?_
  refine bind_to (r34_Check_spec hs) ?_
  rw [show mulE (m.1, m.2.1, m.2.2.1, m.2.2.2.1, ()) = mulE m from rfl]
  by_cases hm : mulE m = 0
  · by_cases hl : lasE m.1 l = 0
    · obtain ⟨b, hb, hb2⟩ := muller_Accepts_good hs hm hl
      obtain ⟨c, hc, hc2⟩ := r34_Accepts_good hs hm hl
      refine bind_to hb ?_
      rw [hm]
      (try dsimp only); (repeat' first | (with_reducible refine G_to ?_ ?_; focus (first | omega | (unfold fits; omega) | (unfold room; (try simp only [List.length_append, List.length_cons, List.length_nil]); omega))) | (with_reducible refine itet_to ?_) | (with_reducible refine itef_to ?_) | (with_reducible refine ite_to (fun _ => ?_) (fun _ => ?_))) <;> try (exfalso; omega)
      refine bind_to r1_Lasso_spec ?_
      rw [show lasE m.1 (l.1, l.2.1, ()) = 0 from hl]
      unfold law_MullerAccepts_J7
      (try dsimp only); (repeat' first | (with_reducible refine G_to ?_ ?_; focus (first | omega | (unfold fits; omega) | (unfold room; (try simp only [List.length_append, List.length_cons, List.length_nil]); omega))) | (with_reducible refine itet_to ?_) | (with_reducible refine itef_to ?_) | (with_reducible refine ite_to (fun _ => ?_) (fun _ => ?_))) <;> try (exfalso; omega)
      refine bind_to hc ?_
      (try dsimp only); (repeat' first | (with_reducible refine G_to ?_ ?_; focus (first | omega | (unfold fits; omega) | (unfold room; (try simp only [List.length_append, List.length_cons, List.length_nil]); omega))) | (with_reducible refine itet_to ?_) | (with_reducible refine itef_to ?_) | (with_reducible refine ite_to (fun _ => ?_) (fun _ => ?_))) <;> try (exfalso; omega)
      rw [Option.some_inj, decide_eq_true_iff, Bool.eq_iff_iff, hb2, hc2]
    · refine bind_to (muller_Accepts_bad2 hs hm hl) ?_
      rw [hm]
      (try dsimp only); (repeat' first | (with_reducible refine G_to ?_ ?_; focus (first | omega | (unfold fits; omega) | (unfold room; (try simp only [List.length_append, List.length_cons, List.length_nil]); omega))) | (with_reducible refine itet_to ?_) | (with_reducible refine itef_to ?_) | (with_reducible refine ite_to (fun _ => ?_) (fun _ => ?_))) <;> try (exfalso; omega)
      refine bind_to r1_Lasso_spec ?_
      have hl' : ¬ lasE m.1 (l.1, l.2.1, ()) = 0 := hl
      unfold law_MullerAccepts_J7
      rw [if_pos (decide_eq_true hl'), if_pos (decide_eq_true rfl)]; rfl
  · refine bind_to (muller_Accepts_bad hs hm) ?_
    rw [if_neg (by simp), if_neg (by simpa using hm)]
    unfold law_MullerAccepts_J7
    rw [if_pos (decide_eq_true hm), if_pos (decide_eq_true rfl)]; rfl

end Go.Proofs.Ytjhgdnfkipchoaa.mullerAcceptsW
