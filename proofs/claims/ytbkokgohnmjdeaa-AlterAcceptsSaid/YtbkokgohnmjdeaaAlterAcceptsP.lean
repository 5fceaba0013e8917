/- The law 'AlterAccepts' of the plain functions. -/
import Derived.Test.YtbkokgohnmjdeaaAlterAcceptsD
set_option maxHeartbeats 1000000
set_option maxRecDepth 20000
set_option linter.unusedSimpArgs false
set_option linter.unusedVariables false
set_option linter.unusedSectionVars false
namespace Go.Proofs.Ytbkokgohnmjdeaa.alterAcceptsW
open Go Go.Ab
theorem wrap_nat {n : Nat} (h : n < 9223372036854775808) : IntKind.wrap .i64 (n : Int) = n := by
 unfold IntKind.wrap
 simp [IntKind.bits, IntKind.signed]
 omega
theorem ofInt_nat (m : Nat) : BitVec.ofInt 64 (m : Int) = BitVec.ofNat 64 m := by
 apply BitVec.eq_of_toNat_eq; simp
theorem iand_nat {m n : Nat} (hm : m < 9223372036854775808) (hn : n < 9223372036854775808) : iand .i64 (m : Int) (n : Int) = ((m &&& n : Nat) : Int) := by
 unfold iand
 have h : (BitVec.ofInt IntKind.i64.bits (m : Int) &&& BitVec.ofInt IntKind.i64.bits (n : Int)).toNat = m &&& n := by
  show (BitVec.ofInt 64 (m : Int) &&& BitVec.ofInt 64 (n : Int)).toNat = m &&& n
  rw [ofInt_nat, ofInt_nat, BitVec.toNat_and, BitVec.toNat_ofNat, BitVec.toNat_ofNat, Nat.mod_eq_of_lt (by omega), Nat.mod_eq_of_lt (by omega)]
 rw [h, wrap_nat (Nat.lt_of_le_of_lt Nat.and_le_left hm)]
theorem ior_nat {m n : Nat} (hm : m < 9223372036854775808) (hn : n < 9223372036854775808) : ior .i64 (m : Int) (n : Int) = ((m ||| n : Nat) : Int) := by
 unfold ior
 have h : (BitVec.ofInt IntKind.i64.bits (m : Int) ||| BitVec.ofInt IntKind.i64.bits (n : Int)).toNat = m ||| n := by
  show (BitVec.ofInt 64 (m : Int) ||| BitVec.ofInt 64 (n : Int)).toNat = m ||| n
  rw [ofInt_nat, ofInt_nat, BitVec.toNat_or, BitVec.toNat_ofNat, BitVec.toNat_ofNat, Nat.mod_eq_of_lt (by omega), Nat.mod_eq_of_lt (by omega)]
 rw [h, wrap_nat (Nat.or_lt_two_pow (n := 63) hm hn)]
theorem ishl_nat {m k : Nat} (hk : k < 63) (h : m * 2 ^ k < 9223372036854775808) : ishl .i64 (m : Int) (k : Int) = ((m <<< k : Nat) : Int) := by
 unfold ishl
 have e : min ((k : Int).toNat) IntKind.i64.bits = k := by
  show min ((k : Int).toNat) 64 = k
  omega
 rw [e, Nat.shiftLeft_eq]
 have : (m : Int) * 2 ^ k = ((m * 2 ^ k : Nat) : Int) := by push_cast; rfl
 rw [this, wrap_nat h]
theorem ishr_nat {m k : Nat} (hk : k ≤ 64) : ishr .i64 (m : Int) (k : Int) = ((m >>> k : Nat) : Int) := by
 unfold ishr
 have e : min ((k : Int).toNat) IntKind.i64.bits = k := by
  show min ((k : Int).toNat) 64 = k
  omega
 rw [e, Nat.shiftRight_eq_div_pow, Int.fdiv_eq_ediv_of_nonneg _ (by exact_mod_cast Nat.zero_le _)]
 push_cast; rfl
/-- Bits: the q-th one is put. -/
theorem ior_bit {m q : Nat} (hm : m < 4611686018427387904) (hq : q < 62) : ior .i64 (m : Int) (ishl .i64 1 (q : Int)) = ((m ||| 2 ^ q : Nat) : Int) ∧ m ||| 2 ^ q < 4611686018427387904 := by
 have h2 : 2 ^ q < 4611686018427387904 := Nat.pow_lt_pow_right (a := 2) (n := 62) (by omega) hq
 have h1 : ishl .i64 1 (q : Int) = ((2 ^ q : Nat) : Int) := by
  have := ishl_nat (m := 1) (k := q) (by omega) (by omega)
  rw [Nat.shiftLeft_eq, Nat.one_mul] at this
  exact this
 rw [h1, ior_nat (by omega) (by omega)]
 exact ⟨rfl, Nat.or_lt_two_pow (n := 62) hm h2⟩

/-- The answer is yes just if P. -/
def Tells (o : Option Bool) (P : Prop) : Prop := ∃ b, o = some b ∧ (b = true ↔ P)
theorem Tells.of {b : Bool} {P : Prop} (h : b = true ↔ P) : Tells (some b) P := ⟨b, rfl, h⟩
theorem Tells.dec {P Q : Prop} [Decidable P] (h : P ↔ Q) : Tells (some (decide P)) Q := ⟨_, rfl, by simpa using h⟩
theorem Tells.iff {o : Option Bool} {P Q : Prop} (h : Tells o P) (k : P ↔ Q) : Tells o Q := let ⟨b, h1, h2⟩ := h; ⟨b, h1, h2.trans k⟩
theorem Tells.eq {o : Option Bool} {P : Prop} [Decidable P] (h : Tells o P) : o = some (decide P) := by
 obtain ⟨b, rfl, hb⟩ := h
 by_cases hp : P
 ·simp [hp, hb.2 hp]
 ·have : b = false := by cases b; rfl; exact absurd (hb.1 rfl) hp
  simp [hp, this]
theorem Tells.to {R : Type} {o : Option Bool} {P : Prop} {k1 k2 x : Option R} (h : Tells o P) (h1 : P → k1 = x) (h2 : ¬ P → k2 = x) : (o.bind fun y => if y = true then k1 else k2) = x := by
 obtain ⟨b, rfl, hb⟩ := h
 refine bind_to rfl ?_
 cases b
 ·exact h2 fun hp => by simpa using hb.2 hp
 ·exact h1 (hb.1 rfl)
theorem Tells.bind {R : Type} {o : Option Bool} {P : Prop} {k : Bool → Option R} {x : Option R} (h : Tells o P) (h1 : ∀ b, (b = true ↔ P) → k b = x) : o.bind k = x := by
 obtain ⟨b, rfl, hb⟩ := h
 exact h1 b hb
section
variable {α C : Type} [Inhabited α]
theorem ex_ix {l : List α} {P : α → Prop} : (∃ x ∈ l, P x) ↔ ∃ i : Int, 0 ≤ i ∧ i < l.length ∧ P (ix l i) := by
 constructor
 ·rintro ⟨x, hx, hp⟩
  obtain ⟨i, hi, rfl⟩ := List.mem_iff_getElem.1 hx
  refine ⟨i, by omega, by omega, ?_⟩
  rwa [ix_eq (by omega) (by omega)]
 ·rintro ⟨i, h0, h1, hp⟩
  exact ⟨_, ix_mem h0 h1, hp⟩
theorem index_loop {s : List α} {f : α → Option Bool} {L : Int → Option Int} {P : α → Prop} (hs : s.length ≤ 4611686018427387904)
  (hL : ∀ t, L t = if decide (t < (s.length : Int)) = true then G (0 ≤ t ∧ t < (s.length : Int)) ((f (ix s t)).bind fun y => if y = true then some t else G (fits (t + 1)) (L (t + 1))) else some (-1))
  (hf : ∀ x ∈ s, Tells (f x) (P x)) : ∀ (n : Nat) (t : Int), 0 ≤ t → t ≤ s.length → (s.length - t).toNat = n →
   ∃ i, L t = some i ∧ ((i = -1 ∧ ∀ j : Int, t ≤ j → j < s.length → ¬ P (ix s j)) ∨ (t ≤ i ∧ i < s.length ∧ P (ix s i) ∧ ∀ j : Int, t ≤ j → j < i → ¬ P (ix s j))) := by
 intro n
 induction n with
 | zero =>
  intro t h0 h1 hn
  refine ⟨-1, ?_, .inl ⟨rfl, fun j a b => by omega⟩⟩
  rw [hL, if_neg (by simp; omega)]
 | succ n ih =>
  intro t h0 h1 hn
  rw [hL, if_pos (by simp; omega), G_pos (by omega)]
  obtain ⟨b, hb, hbp⟩ := hf _ (ix_mem h0 (by omega : t < s.length))
  rw [hb]
  cases b with
  | true => exact ⟨t, rfl, .inr ⟨by omega, by omega, hbp.1 rfl, fun j a b => by omega⟩⟩
  | false =>
   have hnp : ¬ P (ix s t) := fun hp => by simpa using hbp.2 hp
   obtain ⟨i, hi, hc⟩ := ih (t + 1) (by omega) (by omega) (by omega)
   refine ⟨i, ?_, ?_⟩
   ·refine (if_neg (by simp) : (if false = true then some t else G (fits (t + 1)) (L (t + 1))) = _).trans ?_
    rw [G_pos (by unfold fits; omega), hi]
   ·rcases hc with ⟨h2, h3⟩ | ⟨h2, h3, h4, h5⟩
    ·refine .inl ⟨h2, fun j a b => ?_⟩
     by_cases e : j = t
     ·rw [e]; exact hnp
     ·exact h3 j (by omega) b
    ·refine .inr ⟨by omega, h3, h4, fun j a b => ?_⟩
     by_cases e : j = t
     ·rw [e]; exact hnp
     ·exact h5 j (by omega) b
theorem contains_tells {s : List α} {f : α → Option Bool} {L : Int → Option Int} {P : α → Prop}
  (hL : ∀ t, L t = if decide (t < (s.length : Int)) = true then G (0 ≤ t ∧ t < (s.length : Int)) ((f (ix s t)).bind fun y => if y = true then some t else G (fits (t + 1)) (L (t + 1))) else some (-1))
  (hs : s.length ≤ 4611686018427387904) (hf : ∀ x ∈ s, Tells (f x) (P x)) : Tells ((L 0).bind fun y => some (decide ((0 : Int) ≤ y))) (∃ x ∈ s, P x) := by
 obtain ⟨i, hi, hc⟩ := index_loop hs hL hf _ 0 (by omega) (by omega) rfl
 rw [hi]
 refine ⟨decide (0 ≤ i), rfl, ?_⟩
 rw [decide_eq_true_iff, ex_ix]
 rcases hc with ⟨h2, h3⟩ | ⟨h2, h3, h4, h5⟩
 ·constructor
  ·intro h; omega
  ·rintro ⟨j, h0, h1, hp⟩; exact absurd hp (h3 j h0 h1)
 ·exact ⟨fun _ => ⟨i, by omega, h3, h4⟩, fun _ => by omega⟩
/-- .. of what carries along what it reads. -/
theorem contains_tells2 {s : List α} {c : C} {f : α → C → Option (Bool × C)} {L : Int → C → Option (Int × C)} {P : α → Prop}
  (hL : ∀ t c, L t c = if decide (t < (s.length : Int)) = true then G (0 ≤ t ∧ t < (s.length : Int)) ((f (ix s t) c).bind fun y => if y.1 = true then some (t, y.2) else G (fits (t + 1)) (L (t + 1) y.2)) else some (-1, c))
  (hs : s.length ≤ 4611686018427387904) (hf : ∀ x ∈ s, ∃ b, f x c = some (b, c) ∧ (b = true ↔ P x)) : ∃ b, ((L 0 c).bind fun y => some (decide ((0 : Int) ≤ y.1), y.2)) = some (b, c) ∧ (b = true ↔ ∃ x ∈ s, P x) := by
 have key : ∀ (n : Nat) (t : Int), 0 ≤ t → t ≤ s.length → (s.length - t).toNat = n →
   ∃ i, L t c = some (i, c) ∧ ((i = -1 ∧ ∀ j : Int, t ≤ j → j < s.length → ¬ P (ix s j)) ∨ (t ≤ i ∧ i < s.length ∧ P (ix s i))) := by
  intro n
  induction n with
  | zero =>
   intro t h0 h1 hn
   refine ⟨-1, ?_, .inl ⟨rfl, fun j a b => by omega⟩⟩
   rw [hL, if_neg (by simp; omega)]
  | succ n ih =>
   intro t h0 h1 hn
   rw [hL, if_pos (by simp; omega), G_pos (by omega)]
   obtain ⟨b, hb, hbp⟩ := hf _ (ix_mem h0 (by omega : t < s.length))
   rw [hb]
   cases b with
   | true => exact ⟨t, rfl, .inr ⟨by omega, by omega, hbp.1 rfl⟩⟩
   | false =>
    have hnp : ¬ P (ix s t) := fun hp => by simpa using hbp.2 hp
    obtain ⟨i, hi, hc⟩ := ih (t + 1) (by omega) (by omega) (by omega)
    refine ⟨i, ?_, ?_⟩
    ·refine (if_neg (by simp) : (if false = true then some (t, c) else G (fits (t + 1)) (L (t + 1) c)) = _).trans ?_
     rw [G_pos (by unfold fits; omega), hi]
    ·rcases hc with ⟨h2, h3⟩ | ⟨h2, h3, h4⟩
     ·refine .inl ⟨h2, fun j a b => ?_⟩
      by_cases e : j = t
      ·rw [e]; exact hnp
      ·exact h3 j (by omega) b
     ·exact .inr ⟨by omega, h3, h4⟩
 obtain ⟨i, hi, hc⟩ := key _ 0 (by omega) (by omega) rfl
 rw [hi]
 refine ⟨decide (0 ≤ i), rfl, ?_⟩
 rw [decide_eq_true_iff, ex_ix]
 rcases hc with ⟨h2, h3⟩ | ⟨h2, h3, h4⟩
 ·constructor
  ·intro h; omega
  ·rintro ⟨j, h0, h1, hp⟩; exact absurd hp (h3 j h0 h1)
 ·exact ⟨fun _ => ⟨i, by omega, h3, h4⟩, fun _ => by omega⟩
end
/-- A loop that looks for the first fault. -/
theorem scan_to {R : Type} {len : Int} {L : Int → Option R} {bad : Int → Prop} {x : Option R} {lo : Int} (h0 : lo ≤ len)
  (hs : ∀ t, lo ≤ t → t < len → (bad t → L t = x) ∧ (¬ bad t → L t = L (t + 1))) (hf : (∀ t, lo ≤ t → t < len → ¬ bad t) → L len = x) : L lo = x := by
 have key : ∀ (n : Nat) (t : Int), lo ≤ t → t ≤ len → (len - t).toNat = n → (∀ j, lo ≤ j → j < t → ¬ bad j) → L t = x := by
  intro n
  induction n with
  | zero =>
   intro t h1 h2 hn h
   obtain rfl : t = len := by omega
   exact hf h
  | succ n ih =>
   intro t h1 h2 hn h
   by_cases hb : bad t
   ·exact (hs t h1 (by omega)).1 hb
   ·rw [(hs t h1 (by omega)).2 hb]
    refine ih (t + 1) (by omega) (by omega) (by omega) fun j a b => ?_
    by_cases e : j = t
    ·rw [e]; exact hb
    ·exact h j a (by omega)
 exact key _ lo (Int.le_refl _) h0 rfl (fun j a b => by omega)
/-- A loop that counts, with a state. -/
theorem fold_to {R S : Type} {len : Int} {L : Int → S → Option R} {f : Int → S → S} {lo : Int} {I : Int → S → Prop} {s : S} (h0 : lo ≤ len) (hI : I lo s)
  (hs : ∀ t s, lo ≤ t → t < len → I t s → L t s = L (t + 1) (f t s) ∧ I (t + 1) (f t s)) : ∃ s', I len s' ∧ L lo s = L len s' := by
 have key : ∀ (n : Nat) (t : Int) (s : S), lo ≤ t → t ≤ len → (len - t).toNat = n → I t s → ∃ s', I len s' ∧ L t s = L len s' := by
  intro n
  induction n with
  | zero =>
   intro t s h1 h2 hn h
   obtain rfl : t = len := by omega
   exact ⟨s, h, rfl⟩
  | succ n ih =>
   intro t s h1 h2 hn h
   obtain ⟨e, h3⟩ := hs t s h1 (by omega) h
   obtain ⟨s', h4, h5⟩ := ih (t + 1) _ (by omega) (by omega) (by omega) h3
   exact ⟨s', h4, e.trans h5⟩
 exact key _ lo s (Int.le_refl _) h0 rfl hI

/-- A loop that stops at a fault and that marks lesser ones. -/
theorem flag_loop {R : Type} {len : Int} {L : Bool → Int → Option R} {big off : Int → Prop} {x : Option R} {lo : Int} (h0 : lo ≤ len) (b : Bool)
  (hs : ∀ t b, lo ≤ t → t < len → (big t → L b t = x) ∧ (¬ big t → ∃ b', L b t = L b' (t + 1) ∧ (b' = true ↔ b = true ∨ off t))) :
  ((∃ t, lo ≤ t ∧ t < len ∧ big t) → L b lo = x) ∧ ((¬ ∃ t, lo ≤ t ∧ t < len ∧ big t) → ∃ b', L b lo = L b' len ∧ (b' = true ↔ b = true ∨ ∃ t, lo ≤ t ∧ t < len ∧ off t)) := by
 have key : ∀ (n : Nat) (lx : Int) (b : Bool), lx ≤ len → (len - lx).toNat = n → (∀ t b, lx ≤ t → t < len → (big t → L b t = x) ∧ (¬ big t → ∃ b', L b t = L b' (t + 1) ∧ (b' = true ↔ b = true ∨ off t))) →
   ((∃ t, lx ≤ t ∧ t < len ∧ big t) → L b lx = x) ∧ ((¬ ∃ t, lx ≤ t ∧ t < len ∧ big t) → ∃ b', L b lx = L b' len ∧ (b' = true ↔ b = true ∨ ∃ t, lx ≤ t ∧ t < len ∧ off t)) := by
  intro n
  induction n with
  | zero =>
   intro lx b h0 hn hs
   obtain rfl : lx = len := by clear hs; omega
   exact ⟨fun ⟨t, h1, h2, _⟩ => by omega, fun _ => ⟨b, rfl, fun h => .inl h, fun h => h.elim id (fun ⟨t, h1, h2, _⟩ => by omega)⟩⟩
  | succ n ih =>
   intro lx b h0 hn hs
   have hlt : lx < len := by clear hs ih; omega
   obtain ⟨s1, s2⟩ := hs lx b (Int.le_refl lx) hlt
   by_cases hb : big lx
   ·exact ⟨fun _ => s1 hb, fun h => absurd ⟨lx, Int.le_refl lx, hlt, hb⟩ h⟩
   ·obtain ⟨b1, e1, i1⟩ := s2 hb
    obtain ⟨k1, k2⟩ := ih (lx + 1) b1 (by omega) (by omega) (fun t b h h' => hs t b (by omega) h')
    refine ⟨fun ⟨t, t0, t1, t2⟩ => ?_, fun h => ?_⟩
    ·rw [e1]
     refine k1 ⟨t, ?_, t1, t2⟩
     by_cases e : t = lx
     ·rw [e] at t2; exact absurd t2 hb
     ·omega
    ·obtain ⟨b', e', i'⟩ := k2 (fun ⟨t, t0, t1, t2⟩ => h ⟨t, by omega, t1, t2⟩)
     refine ⟨b', e1.trans e', i'.trans ⟨fun g => ?_, fun g => ?_⟩⟩
     ·rcases g with g | ⟨t, t0, t1, t2⟩
      ·exact (i1.1 g).elim .inl (fun o => .inr ⟨lx, Int.le_refl lx, hlt, o⟩)
      ·exact .inr ⟨t, by omega, t1, t2⟩
     ·rcases g with g | ⟨t, t0, t1, t2⟩
      ·exact .inl (i1.2 (.inl g))
      ·by_cases e : t = lx
       ·rw [e] at t2; exact .inl (i1.2 (.inr t2))
       ·exact .inr ⟨t, by omega, t1, t2⟩
 exact key _ lo b h0 rfl hs

/-- A walk over a table. -/
def stp (N : List (List Int)) (q a : Int) : Int := ix (ix N q) a
def wlk (N : List (List Int)) (q : Int) (w : List Int) : Int := w.foldl (stp N) q
/-- The places come by. -/
def trc (N : List (List Int)) : Int → List Int → List Int
 | _, [] => []
 | q, a :: w => stp N q a :: trc N (stp N q a) w
/-- A table of so many letters. -/
structure Tab (L : Int) (N : List (List Int)) : Prop where
 row : ∀ r ∈ N, (r.length : Int) = L
 to : ∀ r ∈ N, ∀ q ∈ r, 0 ≤ q ∧ q < N.length
theorem Tab.stpb {L : Int} {N : List (List Int)} (h : Tab L N) {q a : Int} (q0 : 0 ≤ q) (q1 : q < N.length) (a0 : 0 ≤ a) (a1 : a < L) : 0 ≤ stp N q a ∧ stp N q a < N.length := by
 have h1 := ix_mem q0 q1
 have h2 := h.row _ h1
 exact h.to _ h1 _ (ix_mem a0 (by omega))
theorem Tab.rowlen {L : Int} {N : List (List Int)} (h : Tab L N) {q : Int} (q0 : 0 ≤ q) (q1 : q < N.length) : ((ix N q).length : Int) = L := h.row _ (ix_mem q0 q1)
theorem Tab.wlkb {L : Int} {N : List (List Int)} (h : Tab L N) : ∀ {w : List Int} {q : Int}, 0 ≤ q → q < N.length → (∀ a ∈ w, 0 ≤ a ∧ a < L) → 0 ≤ wlk N q w ∧ wlk N q w < N.length
 | [], q, q0, q1, _ => ⟨q0, q1⟩
 | a :: w, q, q0, q1, hw => by
  have := h.stpb q0 q1 (hw a (by simp)).1 (hw a (by simp)).2
  exact Tab.wlkb h (q := stp N q a) (w := w) this.1 this.2 (fun b hb => hw b (by simp [hb]))
theorem Tab.trcb {L : Int} {N : List (List Int)} (h : Tab L N) : ∀ {w : List Int} {q : Int}, 0 ≤ q → q < N.length → (∀ a ∈ w, 0 ≤ a ∧ a < L) → ∀ p ∈ trc N q w, 0 ≤ p ∧ p < N.length
 | [], q, q0, q1, _, p, hp => by cases hp
 | a :: w, q, q0, q1, hw, p, hp => by
  have := h.stpb q0 q1 (hw a (by simp)).1 (hw a (by simp)).2
  rcases List.mem_cons.1 hp with rfl | hp
  ·exact this
  ·exact Tab.trcb h this.1 this.2 (fun b hb => hw b (by simp [hb])) p hp

/-- A state's bit in a set. -/
def bitP (s q : Int) : Prop := iand .i64 (ishr .i64 s q) 1 = 1
theorem pow_le16 {N : Nat} (hN : N ≤ 16) : 2 ^ N ≤ 65536 := by
 have : 2 ^ N ≤ 2 ^ 16 := Nat.pow_le_pow_right (by omega) hN
 omega
theorem bitP_nat {m : Nat} (hm : m < 65536) {q : Nat} (hq : q ≤ 16) : bitP (m : Int) (q : Int) ↔ m.testBit q = true := by
 have hs : m >>> q ≤ m := Nat.shiftRight_le m q
 unfold bitP
 rw [ishr_nat (by omega), show (1 : Int) = ((1 : Nat) : Int) from rfl, iand_nat (by omega) (by omega), Nat.and_one_is_mod, Nat.testBit]
 rw [show (1 &&& m >>> q) = (m >>> q) % 2 by rw [Nat.and_comm, Nat.and_one_is_mod]]
 simp only [bne_iff_ne, ne_eq]
 omega
def SetN (N : Nat) (s : Int) : Prop := N ≤ 16 ∧ ∃ m : Nat, s = m ∧ m < 2 ^ N
section
variable {N : Nat} {s t : Int}
theorem SetN.b (h : SetN N s) : 0 ≤ s ∧ s < ((2 ^ N : Nat) : Int) := by
 obtain ⟨hN, m, rfl, hm⟩ := h
 omega
theorem SetN.or (hs : SetN N s) {q : Int} (q0 : 0 ≤ q) (q1 : q < N) : SetN N (ior .i64 s (ishl .i64 1 q)) ∧ s ≤ ior .i64 s (ishl .i64 1 q) ∧ ∀ r : Int, 0 ≤ r → r < N → (bitP (ior .i64 s (ishl .i64 1 q)) r ↔ bitP s r ∨ r = q) := by
 obtain ⟨hN, m, rfl, hm⟩ := hs
 have hp := pow_le16 hN
 obtain ⟨k, rfl⟩ : ∃ k : Nat, q = k := ⟨q.toNat, by omega⟩
 obtain ⟨b1, b2⟩ := ior_bit (m := m) (q := k) (by omega) (by omega)
 have h2 : 2 ^ k < 2 ^ N := Nat.pow_lt_pow_right (by omega) (by omega)
 have hlt : m ||| 2 ^ k < 2 ^ N := Nat.or_lt_two_pow (n := N) hm h2
 have hle : m ≤ m ||| 2 ^ k := Nat.left_le_or
 rw [b1]
 refine ⟨⟨hN, _, rfl, hlt⟩, by omega, fun r r0 r1 => ?_⟩
 obtain ⟨j, rfl⟩ : ∃ j : Nat, r = j := ⟨r.toNat, by omega⟩
 rw [bitP_nat (by omega) (by omega), bitP_nat (by omega) (by omega), Nat.testBit_or, Bool.or_eq_true, Nat.testBit_two_pow, decide_eq_true_iff]
 exact or_congr Iff.rfl (by omega)
theorem SetN.union (hs : SetN N s) (ht : SetN N t) : SetN N (ior .i64 s t) ∧ ∀ r : Int, 0 ≤ r → r < N → (bitP (ior .i64 s t) r ↔ bitP s r ∨ bitP t r) := by
 obtain ⟨hN, m, rfl, hm⟩ := hs
 obtain ⟨_, k, rfl, hk⟩ := ht
 have hp := pow_le16 hN
 have hlt : m ||| k < 2 ^ N := Nat.or_lt_two_pow (n := N) hm hk
 rw [ior_nat (by omega) (by omega)]
 refine ⟨⟨hN, _, rfl, hlt⟩, fun r r0 r1 => ?_⟩
 obtain ⟨j, rfl⟩ : ∃ j : Nat, r = j := ⟨r.toNat, by omega⟩
 rw [bitP_nat (by omega) (by omega), bitP_nat (by omega) (by omega), bitP_nat (by omega) (by omega), Nat.testBit_or, Bool.or_eq_true]
theorem SetN.zero (hN : N ≤ 16) : SetN N 0 ∧ ∀ r : Int, 0 ≤ r → r < N → ¬ bitP 0 r := by
 refine ⟨⟨hN, 0, rfl, Nat.pow_pos (by omega)⟩, fun r r0 r1 => ?_⟩
 obtain ⟨j, rfl⟩ : ∃ j : Nat, r = j := ⟨r.toNat, by omega⟩
 have := bitP_nat (m := 0) (by omega) (q := j) (by omega)
 rw [show ((0 : Nat) : Int) = 0 from rfl] at this
 rw [this]; simp
theorem SetN.ext (hs : SetN N s) (ht : SetN N t) (h : ∀ r : Int, 0 ≤ r → r < N → (bitP s r ↔ bitP t r)) : s = t := by
 obtain ⟨hN, m, rfl, hm⟩ := hs
 obtain ⟨_, k, rfl, hk⟩ := ht
 have hp := pow_le16 hN
 congr 1
 refine Nat.eq_of_testBit_eq fun b => ?_
 by_cases hb : b < N
 ·have := h b (by omega) (by omega)
  rw [bitP_nat (by omega) (by omega), bitP_nat (by omega) (by omega)] at this
  rw [Bool.eq_iff_iff]; exact this
 ·rw [Nat.testBit_lt_two_pow (Nat.lt_of_lt_of_le hm (Nat.pow_le_pow_right (by omega) (by omega))), Nat.testBit_lt_two_pow (Nat.lt_of_lt_of_le hk (Nat.pow_le_pow_right (by omega) (by omega)))]
theorem SetN.meet (hs : SetN N s) (ht : SetN N t) : (¬ iand .i64 s t = 0 ↔ ∃ r : Int, 0 ≤ r ∧ r < N ∧ bitP s r ∧ bitP t r) := by
 obtain ⟨hN, m, rfl, hm⟩ := hs
 obtain ⟨_, k, rfl, hk⟩ := ht
 have hp := pow_le16 hN
 rw [iand_nat (by omega) (by omega)]
 constructor
 ·intro h
  have hne : m &&& k ≠ 0 := by omega
  obtain ⟨j, hj⟩ := Nat.exists_testBit_of_ne_zero hne
  have hle : m &&& k ≤ m := Nat.and_le_left
  have hj8 : j < N := by
   refine Nat.lt_of_not_le fun h8 => ?_
   have : m &&& k < 2 ^ j := Nat.lt_of_lt_of_le (by omega : m &&& k < 2 ^ N) (Nat.pow_le_pow_right (by omega) h8)
   rw [Nat.testBit_lt_two_pow this] at hj; cases hj
  rw [Nat.testBit_and, Bool.and_eq_true] at hj
  exact ⟨j, by omega, by omega, (bitP_nat (by omega) (by omega)).2 hj.1, (bitP_nat (by omega) (by omega)).2 hj.2⟩
 ·rintro ⟨r, r0, r1, h1, h2⟩ h
  obtain ⟨j, rfl⟩ : ∃ j : Nat, r = j := ⟨r.toNat, by omega⟩
  have hz : m &&& k = 0 := by omega
  have : (m &&& k).testBit j = true := by rw [Nat.testBit_and, (bitP_nat (by omega) (by omega)).1 h1, (bitP_nat (by omega) (by omega)).1 h2]; rfl
  rw [hz] at this; simp at this
end
open Classical in
/-- The set of those below k. -/
noncomputable def setOf (p : Int → Prop) : Nat → Int
 | 0 => 0
 | k + 1 => if p (k : Int) then ior .i64 (setOf p k) (ishl .i64 1 (k : Int)) else setOf p k
open Classical in
theorem setOf_succ (p : Int → Prop) (k : Nat) : setOf p (k + 1) = if p (k : Int) then ior .i64 (setOf p k) (ishl .i64 1 (k : Int)) else setOf p k := rfl
theorem setOf_ok {N : Nat} (hN : N ≤ 16) (p : Int → Prop) : ∀ k : Nat, k ≤ N → SetN N (setOf p k) ∧ ∀ r : Int, 0 ≤ r → r < N → (bitP (setOf p k) r ↔ r < k ∧ p r)
 | 0, _ => ⟨(SetN.zero hN).1, fun r r0 r1 => ⟨fun h => absurd h ((SetN.zero hN).2 r r0 r1), fun h => by omega⟩⟩
 | k + 1, hk => by
  obtain ⟨h1, h2⟩ := setOf_ok hN p k (by omega)
  unfold setOf
  by_cases c : p (k : Int)
  ·rw [if_pos c]
   obtain ⟨h3, _, h4⟩ := h1.or (q := (k : Int)) (by omega) (by omega)
   refine ⟨h3, fun r r0 r1 => ?_⟩
   rw [h4 r r0 r1, h2 r r0 r1]
   constructor
   ·rintro (⟨g1, g2⟩ | rfl)
    ·exact ⟨by omega, g2⟩
    ·exact ⟨by omega, c⟩
   ·rintro ⟨g1, g2⟩
    by_cases e : r = k
    ·exact .inr e
    ·exact .inl ⟨by omega, g2⟩
  ·rw [if_neg c]
   refine ⟨h1, fun r r0 r1 => ?_⟩
   rw [h2 r r0 r1]
   constructor
   ·rintro ⟨g1, g2⟩; exact ⟨by omega, g2⟩
   ·rintro ⟨g1, g2⟩
    by_cases e : r = k
    ·subst e; exact absurd g2 c
    ·exact ⟨by omega, g2⟩
theorem SetN.one {N : Nat} (hN : N ≤ 16) {q : Int} (q0 : 0 ≤ q) (q1 : q < N) : SetN N (ishl .i64 1 q) ∧ ∀ r : Int, 0 ≤ r → r < N → (bitP (ishl .i64 1 q) r ↔ r = q) := by
 obtain ⟨h1, _, h3⟩ := (SetN.zero hN).1.or q0 q1
 have e : ior .i64 0 (ishl .i64 1 q) = ishl .i64 1 q := by
  obtain ⟨k, rfl⟩ : ∃ k : Nat, q = k := ⟨q.toNat, by omega⟩
  have hp : 2 ^ k ≤ 2 ^ 16 := Nat.pow_le_pow_right (by omega) (by omega)
  have h1 : ishl .i64 1 (k : Int) = ((2 ^ k : Nat) : Int) := by
   have := ishl_nat (m := 1) (k := k) (by omega) (by omega)
   rw [Nat.shiftLeft_eq, Nat.one_mul] at this
   exact this
  rw [h1, show (0 : Int) = ((0 : Nat) : Int) from rfl, ior_nat (by omega) (by omega), Nat.zero_or]
 rw [e] at h1 h3
 refine ⟨h1, fun r r0 r1 => (h3 r r0 r1).trans ⟨fun h => h.elim (fun z => absurd z ((SetN.zero hN).2 r r0 r1)) id, .inr⟩⟩

theorem r1_May_L6_spec {letters : Int} {w : List Int} (hL : 1 ≤ letters ∧ letters ≤ 4) (hw : w.length ≤ (60 : Int)) : ∀ (n : Nat) (i : Int), 0 ≤ i → i ≤ w.length → (w.length - i).toNat = n → (∀ j : Int, 0 ≤ j → j < i → 0 ≤ ix w j ∧ ix w j < letters) → r1_May_L6 letters w i = some (mayE letters w) := by
 intro n
 induction n with
 | zero =>
  intro i h0 h1 hn h
  rw [r1_May_L6_eq]; unfold r1_May_L6_B
  (try dsimp only); (repeat' first | (with_reducible refine G_to ?_ ?_; focus (first | omega | (unfold fits; omega) | (unfold room; (try simp only [List.length_append, List.length_cons, List.length_nil]); omega))) | (with_reducible refine both_to ?_ ?_) | (with_reducible refine itet_to ?_) | (with_reducible refine itef_to ?_) | (with_reducible refine ite_to (fun _ => ?_) (fun _ => ?_))) <;> try (exfalso; omega)
  ·rw [mayE_ok hL hw (fun j a b => h j a (by omega))]
 | succ n ih =>
  intro i h0 h1 hn h
  rw [r1_May_L6_eq]; unfold r1_May_L6_B
  (try dsimp only); (repeat' first | (with_reducible refine G_to ?_ ?_; focus (first | omega | (unfold fits; omega) | (unfold room; (try simp only [List.length_append, List.length_cons, List.length_nil]); omega))) | (with_reducible refine both_to ?_ ?_) | (with_reducible refine itet_to ?_) | (with_reducible refine itef_to ?_) | (with_reducible refine ite_to (fun _ => ?_) (fun _ => ?_))) <;> try (exfalso; omega)
  ·rw [mayE_bad hL hw (i := i) (by omega) (by omega)]
  ·rw [mayE_bad hL hw (i := i) (by omega) (by omega)]
  ·exact ih _ (by omega) (by omega) (by omega) (below_succ h (by omega))
theorem r1_May_spec {letters : Int} {w : List Int} : r1_May letters w = some (mayE letters w) := by
 unfold r1_May
 (try dsimp only); (repeat' first | (with_reducible refine G_to ?_ ?_; focus (first | omega | (unfold fits; omega) | (unfold room; (try simp only [List.length_append, List.length_cons, List.length_nil]); omega))) | (with_reducible refine both_to ?_ ?_) | (with_reducible refine itet_to ?_) | (with_reducible refine itef_to ?_) | (with_reducible refine ite_to (fun _ => ?_) (fun _ => ?_))) <;> try (exfalso; omega)
 ·rw [mayE_range (by omega)]
 ·rw [mayE_range (by omega)]
 ·rw [mayE_size (by omega) (by omega)]
 ·exact r1_May_L6_spec (by omega) (by omega) _ 0 (by omega) (by omega) rfl (fun j a b => by omega)

theorem word_May_L6_spec {letters : Int} {w : List Int} (hL : 1 ≤ letters ∧ letters ≤ 4) (hw : w.length ≤ (60 : Int)) : ∀ (n : Nat) (i : Int), 0 ≤ i → i ≤ w.length → (w.length - i).toNat = n → (∀ j : Int, 0 ≤ j → j < i → 0 ≤ ix w j ∧ ix w j < letters) → word_May_L6 letters w i = some (mayE letters w) := by
 intro n
 induction n with
 | zero =>
  intro i h0 h1 hn h
  rw [word_May_L6_eq]; unfold word_May_L6_B
  (try dsimp only); (repeat' first | (with_reducible refine G_to ?_ ?_; focus (first | omega | (unfold fits; omega) | (unfold room; (try simp only [List.length_append, List.length_cons, List.length_nil]); omega))) | (with_reducible refine both_to ?_ ?_) | (with_reducible refine itet_to ?_) | (with_reducible refine itef_to ?_) | (with_reducible refine ite_to (fun _ => ?_) (fun _ => ?_))) <;> try (exfalso; omega)
  ·rw [mayE_ok hL hw (fun j a b => h j a (by omega))]
 | succ n ih =>
  intro i h0 h1 hn h
  rw [word_May_L6_eq]; unfold word_May_L6_B
  (try dsimp only); (repeat' first | (with_reducible refine G_to ?_ ?_; focus (first | omega | (unfold fits; omega) | (unfold room; (try simp only [List.length_append, List.length_cons, List.length_nil]); omega))) | (with_reducible refine both_to ?_ ?_) | (with_reducible refine itet_to ?_) | (with_reducible refine itef_to ?_) | (with_reducible refine ite_to (fun _ => ?_) (fun _ => ?_))) <;> try (exfalso; omega)
  ·rw [mayE_bad hL hw (i := i) (by omega) (by omega)]
  ·rw [mayE_bad hL hw (i := i) (by omega) (by omega)]
  ·exact ih _ (by omega) (by omega) (by omega) (below_succ h (by omega))
theorem word_May_spec {letters : Int} {w : List Int} : word_May letters w = some (mayE letters w) := by
 unfold word_May
 (try dsimp only); (repeat' first | (with_reducible refine G_to ?_ ?_; focus (first | omega | (unfold fits; omega) | (unfold room; (try simp only [List.length_append, List.length_cons, List.length_nil]); omega))) | (with_reducible refine both_to ?_ ?_) | (with_reducible refine itet_to ?_) | (with_reducible refine itef_to ?_) | (with_reducible refine ite_to (fun _ => ?_) (fun _ => ?_))) <;> try (exfalso; omega)
 ·rw [mayE_range (by omega)]
 ·rw [mayE_range (by omega)]
 ·rw [mayE_size (by omega) (by omega)]
 ·exact word_May_L6_spec (by omega) (by omega) _ 0 (by omega) (by omega) rfl (fun j a b => by omega)

abbrev AL := Int × Int × List (List (List (List Int))) × List Int × Unit
def ALet (a : AL) : Prop := a.1 < 1 ∨ 4 < a.1
def ANum (a : AL) : Prop := (a.2.2.1.length : Int) < 1 ∨ 4 < (a.2.2.1.length : Int)
def AMks (a : AL) : Prop := ¬ (a.2.2.2.1.length : Int) = (a.2.2.1.length : Int)
def AShp (a : AL) : Prop := ∃ r ∈ a.2.2.1, ¬ (r.length : Int) = a.1
def ALong (l : List (List Int)) : Prop := 16 < (l.length : Int) ∨ ∃ c ∈ l, 4 < (c.length : Int)
def ABig (a : AL) : Prop := ∃ r ∈ a.2.2.1, ∃ l ∈ r, ALong l
def NoSt (n p : Int) : Prop := p < 0 ∨ n ≤ p
def AOff (n : Int) (l : List (List Int)) : Prop := ∃ c ∈ l, ∃ p ∈ c, NoSt n p
def AOffs (a : AL) : Prop := ∃ r ∈ a.2.2.1, ∃ l ∈ r, AOff a.2.2.1.length l
def AMark (a : AL) : Prop := ∃ m ∈ a.2.2.2.1, ¬ m = 0 ∧ ¬ m = 1
def ABad (a : AL) : Prop := AOffs a ∨ NoSt a.2.2.1.length a.2.1 ∨ AMark a
open Classical in
noncomputable def alE (a : AL) : Int := if ALet a then 2 else if ANum a then 1 else if AMks a then 3 else if AShp a then 3 else if ABig a then 1 else if ABad a then 2 else 0
section
variable {a : AL}
theorem c1_tells (r : List (List (List Int))) : Tells (alter_Check_1 r a) (¬ (r.length : Int) = a.1) := Tells.dec Iff.rfl
theorem c3_tells (c : List Int) : Tells (alter_Check_3 c) (4 < (c.length : Int)) := Tells.dec Iff.rfl
theorem c2_tells (p n : Int) : Tells (alter_Check_2 p n) (NoSt n p) := by
 unfold alter_Check_2
 by_cases c : p < 0
 ·rw [if_pos (decide_eq_true c)]; exact ⟨true, rfl, fun _ => .inl c, fun _ => rfl⟩
 ·rw [if_neg (by simpa using c)]; exact Tells.dec ⟨.inr, fun h => h.elim (absurd · c) id⟩
theorem c5_tells (m : Int) : Tells (alter_Check_5 m) (¬ m = 0 ∧ ¬ m = 1) := by
 unfold alter_Check_5
 by_cases c : m = 0
 ·rw [if_neg (by simpa using c)]; exact ⟨false, rfl, fun h => (by cases h), fun h => absurd c h.1⟩
 ·rw [if_pos (by simpa using c)]; exact Tells.dec ⟨fun h => ⟨c, h⟩, fun h => h.2⟩
theorem f0_tells (h : a.2.2.1.length ≤ 4) : Tells (slices_ContainsFunc a.2.2.1 a) (AShp a) :=
 contains_tells (f := fun r => alter_Check_1 r a) (P := fun r => ¬ (r.length : Int) = a.1) (fun t => slices_IndexFunc_L2_eq a.2.2.1 a t) (by omega) (fun r _ => c1_tells r)
theorem f1_tells {l : List (List Int)} (h : l.length ≤ 16) : Tells (slices_ContainsFunc_1 l) (∃ c ∈ l, 4 < (c.length : Int)) :=
 contains_tells (f := fun c => alter_Check_3 c) (fun t => slices_IndexFunc_1_L2_eq l t) (by omega) (fun r _ => c3_tells r)
theorem f3_tells {c : List Int} {n : Int} (h : c.length ≤ 4) : Tells (slices_ContainsFunc_3 c n) (∃ p ∈ c, NoSt n p) :=
 contains_tells (f := fun p => alter_Check_2 p n) (fun t => slices_IndexFunc_3_L2_eq c n t) (by omega) (fun r _ => c2_tells r n)
theorem f4_tells (h : a.2.2.2.1.length ≤ 4) : Tells (slices_ContainsFunc_4 a.2.2.2.1) (AMark a) :=
 contains_tells (f := fun m => alter_Check_5 m) (fun t => slices_IndexFunc_4_L2_eq a.2.2.2.1 t) (by omega) (fun r _ => c5_tells r)
theorem f2_tells {l : List (List Int)} {n : Int} (h : ¬ ALong l) : ∃ b, slices_ContainsFunc_2 l n = some (b, n) ∧ (b = true ↔ AOff n l) := by
 unfold ALong at h
 refine contains_tells2 (f := fun c n => alter_Check_4 c n) (P := fun c => ∃ p ∈ c, NoSt n p) (fun t c => slices_IndexFunc_2_L2_eq l t c) (by omega) (fun c hc => ?_)
 have h4 : c.length ≤ 4 := by
  refine Nat.le_of_not_lt fun g => h (.inr ⟨c, hc, by omega⟩)
 obtain ⟨b, e, hb⟩ := f3_tells (n := n) h4
 exact ⟨b, bind_to e rfl, hb⟩
structure Pre (a : AL) : Prop where
 n1 : 1 ≤ a.2.2.1.length ∧ a.2.2.1.length ≤ 4
 let1 : 1 ≤ a.1 ∧ a.1 ≤ 4
 mks : (a.2.2.2.1.length : Int) = a.2.2.1.length
theorem Check_L14 (hp : Pre a) (hs : ¬ AShp a) {t : Int} (t0 : 0 ≤ t) (t1 : t < a.2.2.1.length) {r11 : Bool → Int → Int → Option Int} {bad : Bool} :
  ((∃ l ∈ ix a.2.2.1 t, ALong l) → alter_Check_L14 a t r11 bad 0 a.2.2.1.length = some 1) ∧
  ((¬ ∃ l ∈ ix a.2.2.1 t, ALong l) → ∃ b', alter_Check_L14 a t r11 bad 0 a.2.2.1.length = r11 b' (t + 1) a.2.2.1.length ∧ (b' = true ↔ bad = true ∨ ∃ l ∈ ix a.2.2.1 t, AOff a.2.2.1.length l)) := by
 have hn := hp.n1; have hl := hp.let1
 have hrow : ((ix a.2.2.1 t).length : Int) = a.1 := by
  refine Decidable.byContradiction fun h => hs ⟨_, ix_mem t0 t1, h⟩
 have := flag_loop (L := fun b j => alter_Check_L14 a t r11 b j a.2.2.1.length) (len := (ix a.2.2.1 t).length) (lo := 0) (x := some 1) (big := fun j => ALong (ix (ix a.2.2.1 t) j)) (off := fun j => AOff a.2.2.1.length (ix (ix a.2.2.1 t) j)) (by omega) bad (fun j b j0 j1 => ?_)
 ·rw [ex_ix, ex_ix]
  refine ⟨this.1, fun h => ?_⟩
  obtain ⟨b', e, hb⟩ := this.2 h
  refine ⟨b', e.trans ?_, hb⟩
  rw [alter_Check_L14_eq]; unfold alter_Check_L14_B
  rw [if_neg (by simp), G_pos (by unfold fits; omega)]
 ·have key : alter_Check_L14 a t r11 b j a.2.2.1.length = if 16 < ((ix (ix a.2.2.1 t) j).length : Int) then some 1 else
    (slices_ContainsFunc_1 (ix (ix a.2.2.1 t) j)).bind (fun y => if y = true then some 1 else if b = true then alter_Check_L14 a t r11 true (j + 1) a.2.2.1.length else
     (slices_ContainsFunc_2 (ix (ix a.2.2.1 t) j) a.2.2.1.length).bind (fun y => alter_Check_L14 a t r11 y.1 (j + 1) y.2)) := by
   conv => lhs; rw [alter_Check_L14_eq]; unfold alter_Check_L14_B
   rw [if_pos (decide_eq_true j1), G_pos (by omega)]
   simp only [G_pos (show fits (j + 1) by unfold fits; omega), decide_eq_true_eq]
  rw [key]
  by_cases c1 : 16 < ((ix (ix a.2.2.1 t) j).length : Int)
  ·rw [if_pos c1]
   exact ⟨fun _ => rfl, fun h => absurd (.inl c1) h⟩
  ·rw [if_neg c1]
   obtain ⟨y, e, hy⟩ := f1_tells (l := ix (ix a.2.2.1 t) j) (by omega)
   rw [e]
   constructor
   ·intro h
    refine bind_to rfl ?_
    rw [if_pos (hy.2 (h.elim (absurd · c1) id))]
   ·intro h
    have hyf : ¬ y = true := fun g => h (.inr (hy.1 g))
    obtain ⟨z, e2, hz⟩ := f2_tells (n := a.2.2.1.length) h
    cases b with
    | true => exact ⟨true, bind_to rfl (by rw [if_neg hyf, if_pos rfl]), by simp⟩
    | false =>
     refine ⟨z, bind_to rfl ?_, by rw [hz]; simp⟩
     rw [if_neg hyf, if_neg (by simp)]
     exact bind_to e2 rfl
theorem alter_Check_spec : alter_Check a = some (alE a) := by
 unfold alter_Check alE
 by_cases c1 : ALet a
 ·rw [if_pos c1]
  unfold ALet at c1
  by_cases c : a.1 < 1
  ·rw [if_pos (decide_eq_true c)]
  ·rw [if_neg (by simpa using c), if_pos (decide_eq_true (by omega))]
 rw [if_neg c1]
 have c1' := c1
 unfold ALet at c1'
 rw [if_neg (by simp only [decide_eq_true_eq]; omega), if_neg (by simp only [decide_eq_true_eq]; omega)]
 by_cases c2 : ANum a
 ·rw [if_pos c2]
  unfold ANum at c2
  by_cases c : (a.2.2.1.length : Int) < 1
  ·rw [if_pos (decide_eq_true c)]
  ·rw [if_neg (by simpa using c), if_pos (decide_eq_true (by omega))]
 rw [if_neg c2]
 have c2' := c2
 unfold ANum at c2'
 rw [if_neg (by simp only [decide_eq_true_eq]; omega), if_neg (by simp only [decide_eq_true_eq]; omega)]
 by_cases c3 : AMks a
 ·rw [if_pos c3, if_pos (decide_eq_true (show ¬ (a.2.2.2.1.length : Int) = (a.2.2.1.length : Int) from c3))]
 rw [if_neg c3]
 have c3' := c3
 unfold AMks at c3'
 rw [if_neg (by simpa using c3')]
 refine Tells.to (f0_tells (a := a) (by omega)) (fun h => by rw [if_pos h]) (fun c4 => ?_)
 rw [if_neg c4]
 have hp : Pre a := ⟨by omega, by omega, by omega⟩
 have := flag_loop (L := fun b j => alter_Check_L11 a b j a.2.2.1.length) (len := a.2.2.1.length) (lo := 0) (x := some 1) (big := fun j => ∃ l ∈ ix a.2.2.1 j, ALong l) (off := fun j => ∃ l ∈ ix a.2.2.1 j, AOff a.2.2.1.length l) (by omega) false (fun j b j0 j1 => ?_)
 ·have e5 : ABig a ↔ ∃ t : Int, 0 ≤ t ∧ t < a.2.2.1.length ∧ ∃ l ∈ ix a.2.2.1 t, ALong l := ex_ix
  by_cases c5 : ABig a
  ·rw [if_pos c5]
   exact this.1 (e5.1 c5)
  ·rw [if_neg c5]
   obtain ⟨b', e, hb⟩ := this.2 (fun h => c5 (e5.2 h))
   have hb : b' = true ↔ AOffs a := by
    rw [hb]
    refine Iff.trans ?_ (ex_ix (l := a.2.2.1) (P := fun r => ∃ l ∈ r, AOff a.2.2.1.length l)).symm
    simp
   refine e.trans ?_
   rw [alter_Check_L11_eq]; unfold alter_Check_L11_B
   rw [if_neg (by simp)]
   by_cases c6 : b' = true
   ·rw [if_pos c6, if_pos (.inl (hb.1 c6))]
   ·rw [if_neg c6]
    have hno : ¬ AOffs a := fun h => c6 (hb.2 h)
    refine Tells.to (c2_tells a.2.1 _) (fun h => by rw [if_pos (.inr (.inl h))]) (fun h1 => ?_)
    refine Tells.to (f4_tells (a := a) (by omega)) (fun h => by rw [if_pos (.inr (.inr h))]) (fun h2 => ?_)
    rw [if_neg (fun h => h.elim hno (fun h => h.elim h1 h2))]
 ·have h := Check_L14 hp c4 j0 j1 (r11 := fun b j n => alter_Check_L11 a b j n) (bad := b)
  have e : alter_Check_L11 a b j a.2.2.1.length = alter_Check_L14 a j (fun b j n => alter_Check_L11 a b j n) b 0 a.2.2.1.length := by
   conv => lhs; rw [alter_Check_L11_eq]; unfold alter_Check_L11_B
   rw [if_pos (decide_eq_true j1), G_pos (by omega)]
  rw [e]
  exact h
/- the reference's -/
theorem r26_L29 {q k i : Int} (q0 : 0 ≤ q) (k0 : 0 ≤ k) (i0 : 0 ≤ i) (i1 : i < (ix (ix a.2.2.1 q) k).length) (h4 : ((ix (ix (ix a.2.2.1 q) k) i).length : Int) ≤ 4) {r24 : Bool → Int → Option Int} {bad : Bool} (hf : fits (i + 1)) :
  ∃ b', r26_Check_L29 a q k i r24 bad 0 = r24 b' (i + 1) ∧ (b' = true ↔ bad = true ∨ ∃ p ∈ ix (ix (ix a.2.2.1 q) k) i, NoSt a.2.2.1.length p) := by
 have := (flag_loop (L := fun b j => r26_Check_L29 a q k i r24 b j) (len := (ix (ix (ix a.2.2.1 q) k) i).length) (lo := 0) (x := none) (big := fun _ => False) (off := fun j => NoSt a.2.2.1.length (ix (ix (ix (ix a.2.2.1 q) k) i) j)) (by omega) bad (fun j b j0 j1 => ⟨fun h => h.elim, fun _ => ?_⟩)).2 (fun ⟨_, _, _, h⟩ => h)
 ·obtain ⟨b', e, hb⟩ := this
  rw [ex_ix]
  refine ⟨b', e.trans ?_, hb⟩
  rw [r26_Check_L29_eq]; unfold r26_Check_L29_B
  rw [G_pos (by omega), if_neg (by simp), G_pos hf]
 ·conv => arg 1; ext b'; lhs; lhs; rw [r26_Check_L29_eq]; unfold r26_Check_L29_B
  rw [G_pos (by omega), if_pos (decide_eq_true j1)]
  have hj : fits (j + 1) := by unfold fits; omega
  simp only [G_pos hj]
  cases b with
  | true => exact ⟨true, if_pos rfl, by simp⟩
  | false =>
   rw [if_neg (by simp), G_pos (by omega), G_pos (by omega)]
   by_cases c : ix (ix (ix (ix a.2.2.1 q) k) i) j < 0
   ·rw [if_pos (decide_eq_true c)]; exact ⟨true, rfl, by simp [NoSt, c]⟩
   ·rw [if_neg (by simpa using c), G_pos (by omega), G_pos (by omega)]
    exact ⟨_, rfl, by simp [NoSt, c]⟩
theorem r26_L24 {q k : Int} (q0 : 0 ≤ q) (k0 : 0 ≤ k) (h16 : ((ix (ix a.2.2.1 q) k).length : Int) ≤ 16) {r18 : Bool → Int → Option Int} {bad : Bool} (hf : fits (k + 1)) :
  ((∃ c ∈ ix (ix a.2.2.1 q) k, 4 < (c.length : Int)) → r26_Check_L24 a q k r18 bad 0 = some 1) ∧
  ((¬ ∃ c ∈ ix (ix a.2.2.1 q) k, 4 < (c.length : Int)) → ∃ b', r26_Check_L24 a q k r18 bad 0 = r18 b' (k + 1) ∧ (b' = true ↔ bad = true ∨ AOff a.2.2.1.length (ix (ix a.2.2.1 q) k))) := by
 have := flag_loop (L := fun b j => r26_Check_L24 a q k r18 b j) (len := (ix (ix a.2.2.1 q) k).length) (lo := 0) (x := some 1) (big := fun j => 4 < ((ix (ix (ix a.2.2.1 q) k) j).length : Int)) (off := fun j => ∃ p ∈ ix (ix (ix a.2.2.1 q) k) j, NoSt a.2.2.1.length p) (by omega) bad (fun j b j0 j1 => ?_)
 ·unfold AOff
  rw [ex_ix, ex_ix]
  refine ⟨this.1, fun h => ?_⟩
  obtain ⟨b', e, hb⟩ := this.2 h
  refine ⟨b', e.trans ?_, hb⟩
  rw [r26_Check_L24_eq]; unfold r26_Check_L24_B
  rw [if_neg (by simp), G_pos hf]
 ·have e : r26_Check_L24 a q k r18 b j = if 4 < ((ix (ix (ix a.2.2.1 q) k) j).length : Int) then some 1 else r26_Check_L29 a q k j (fun b i => r26_Check_L24 a q k r18 b i) b 0 := by
   conv => lhs; rw [r26_Check_L24_eq]; unfold r26_Check_L24_B
   rw [if_pos (decide_eq_true j1), G_pos (by omega)]
   simp only [decide_eq_true_eq]
  rw [e]
  by_cases c : 4 < ((ix (ix (ix a.2.2.1 q) k) j).length : Int)
  ·rw [if_pos c]; exact ⟨fun _ => rfl, fun h => absurd c h⟩
  ·rw [if_neg c]
   exact ⟨fun h => absurd h c, fun _ => r26_L29 q0 k0 j0 j1 (by omega) (by unfold fits; omega)⟩
theorem r26_L18 (hp : Pre a) (hs : ¬ AShp a) {q : Int} (q0 : 0 ≤ q) (q1 : q < a.2.2.1.length) {r15 : Bool → Int → Option Int} {bad : Bool} :
  ((∃ l ∈ ix a.2.2.1 q, ALong l) → r26_Check_L18 a q r15 bad 0 = some 1) ∧
  ((¬ ∃ l ∈ ix a.2.2.1 q, ALong l) → ∃ b', r26_Check_L18 a q r15 bad 0 = r15 b' (q + 1) ∧ (b' = true ↔ bad = true ∨ ((∃ l ∈ ix a.2.2.1 q, AOff a.2.2.1.length l) ∨ (¬ ix a.2.2.2.1 q = 0 ∧ ¬ ix a.2.2.2.1 q = 1)))) := by
 have hn := hp.n1; have hl := hp.let1; have hm := hp.mks
 have hrow : ((ix a.2.2.1 q).length : Int) = a.1 := by
  refine Decidable.byContradiction fun h => hs ⟨_, ix_mem q0 q1, h⟩
 have hfq : fits (q + 1) := by unfold fits; omega
 have := flag_loop (L := fun b j => r26_Check_L18 a q r15 b j) (len := a.1) (lo := 0) (x := some 1) (big := fun j => ALong (ix (ix a.2.2.1 q) j)) (off := fun j => AOff a.2.2.1.length (ix (ix a.2.2.1 q) j)) (by omega) bad (fun j b j0 j1 => ?_)
 ·rw [ex_ix, ex_ix, hrow]
  refine ⟨this.1, fun h => ?_⟩
  obtain ⟨b', e, hb⟩ := this.2 h
  rw [← or_assoc, ← hb, e]
  conv => arg 1; ext b'; lhs; lhs; rw [r26_Check_L18_eq]; unfold r26_Check_L18_B
  rw [if_neg (by simp)]
  simp only [G_pos hfq]
  cases b' with
  | true => exact ⟨true, if_pos rfl, by simp⟩
  | false =>
   rw [if_neg (by simp), G_pos (by omega)]
   by_cases c : ix a.2.2.2.1 q = 0
   ·rw [if_neg (by simpa using c)]; exact ⟨false, rfl, by simp [c]⟩
   ·rw [if_pos (by simpa using c), G_pos (by omega)]; exact ⟨_, rfl, by simp [c]⟩
 ·have e : r26_Check_L18 a q r15 b j = if 16 < ((ix (ix a.2.2.1 q) j).length : Int) then some 1 else r26_Check_L24 a q j (fun b i => r26_Check_L18 a q r15 b i) b 0 := by
   conv => lhs; rw [r26_Check_L18_eq]; unfold r26_Check_L18_B
   rw [if_pos (decide_eq_true j1), G_pos (by omega), G_pos (by omega)]
   simp only [decide_eq_true_eq]
  rw [e]
  by_cases c : 16 < ((ix (ix a.2.2.1 q) j).length : Int)
  ·rw [if_pos c]; exact ⟨fun _ => rfl, fun h => absurd (.inl c) h⟩
  ·rw [if_neg c]
   have h := r26_L24 (a := a) q0 j0 (by omega) (r18 := fun b i => r26_Check_L18 a q r15 b i) (bad := b) (by unfold fits; omega)
   exact ⟨fun g => h.1 (g.elim (absurd · c) id), fun g => h.2 (fun x => g (.inr x))⟩
theorem r26_Check_spec : r26_Check a = some (alE a) := by
 unfold r26_Check alE
 by_cases c1 : ALet a
 ·rw [if_pos c1]
  unfold ALet at c1
  by_cases c : a.1 < 1
  ·rw [if_pos (decide_eq_true c)]
  ·rw [if_neg (by simpa using c), if_pos (decide_eq_true (by omega))]
 rw [if_neg c1]
 have c1' := c1
 unfold ALet at c1'
 rw [if_neg (by simp only [decide_eq_true_eq]; omega), if_neg (by simp only [decide_eq_true_eq]; omega)]
 by_cases c2 : ANum a
 ·rw [if_pos c2]
  unfold ANum at c2
  by_cases c : (a.2.2.1.length : Int) < 1
  ·rw [if_pos (decide_eq_true c)]
  ·rw [if_neg (by simpa using c), if_pos (decide_eq_true (by omega))]
 rw [if_neg c2]
 have c2' := c2
 unfold ANum at c2'
 rw [if_neg (by simp only [decide_eq_true_eq]; omega), if_neg (by simp only [decide_eq_true_eq]; omega)]
 by_cases c3 : AMks a
 ·rw [if_pos c3, if_pos (decide_eq_true (show ¬ (a.2.2.2.1.length : Int) = (a.2.2.1.length : Int) from c3))]
 rw [if_neg c3]
 have c3' := c3
 unfold AMks at c3'
 rw [if_neg (by simpa using c3')]
 have hp : Pre a := ⟨by omega, by omega, by omega⟩
 have es : AShp a ↔ ∃ t : Int, 0 ≤ t ∧ t < a.2.2.1.length ∧ ¬ ((ix a.2.2.1 t).length : Int) = a.1 := ex_ix
 by_cases c4 : AShp a
 ·rw [if_pos c4]
  refine scan_to (len := a.2.2.1.length) (bad := fun t => ¬ ((ix a.2.2.1 t).length : Int) = a.1) (by omega) (fun t t0 t1 => ?_) (fun h => ?_)
  ·rw [r26_Check_L9_eq]; unfold r26_Check_L9_B
   rw [if_pos (decide_eq_true t1), G_pos (by omega), G_pos (by unfold fits; omega)]
   exact ⟨fun h => if_pos (decide_eq_true h), fun h => if_neg (by simpa using h)⟩
  ·obtain ⟨t, t0, t1, t2⟩ := es.1 c4
   exact absurd t2 (h t t0 t1)
 rw [if_neg c4]
 have e9 : r26_Check_L9 a 0 = r26_Check_L9 a a.2.2.1.length := by
  refine scan_to (len := a.2.2.1.length) (bad := fun t => False) (by omega) (fun t t0 t1 => ⟨fun h => h.elim, fun _ => ?_⟩) (fun h => rfl)
  conv => lhs; rw [r26_Check_L9_eq]; unfold r26_Check_L9_B
  rw [if_pos (decide_eq_true t1), G_pos (by omega), if_neg (by simpa using fun h => c4 (es.2 ⟨t, t0, t1, h⟩)), G_pos (by unfold fits; omega)]
 have e10 : ∃ b, r26_Check_L9 a 0 = r26_Check_L15 a b 0 ∧ (b = true ↔ NoSt a.2.2.1.length a.2.1) := by
  rw [e9, r26_Check_L9_eq]; unfold r26_Check_L9_B r26_Check_J13
  rw [if_neg (by simp)]
  by_cases c : a.2.1 < 0
  ·rw [if_pos (decide_eq_true c)]; exact ⟨true, rfl, by simp [NoSt, c]⟩
  ·rw [if_neg (by simpa using c)]; exact ⟨_, rfl, by simp [NoSt, c]⟩
 obtain ⟨b, e, hb⟩ := e10
 rw [e]
 have := flag_loop (L := fun b j => r26_Check_L15 a b j) (len := a.2.2.1.length) (lo := 0) (x := some 1) (big := fun j => ∃ l ∈ ix a.2.2.1 j, ALong l) (off := fun j => (∃ l ∈ ix a.2.2.1 j, AOff a.2.2.1.length l) ∨ (¬ ix a.2.2.2.1 j = 0 ∧ ¬ ix a.2.2.2.1 j = 1)) (by omega) b (fun j b j0 j1 => ?_)
 ·have e5 : ABig a ↔ ∃ t : Int, 0 ≤ t ∧ t < a.2.2.1.length ∧ ∃ l ∈ ix a.2.2.1 t, ALong l := ex_ix
  by_cases c5 : ABig a
  ·rw [if_pos c5]
   exact this.1 (e5.1 c5)
  ·rw [if_neg c5]
   obtain ⟨b', e, hb'⟩ := this.2 (fun h => c5 (e5.2 h))
   have h1 : AOffs a ↔ ∃ t : Int, 0 ≤ t ∧ t < a.2.2.1.length ∧ ∃ l ∈ ix a.2.2.1 t, AOff a.2.2.1.length l := ex_ix
   have h2 : AMark a ↔ ∃ t : Int, 0 ≤ t ∧ t < a.2.2.2.1.length ∧ ¬ ix a.2.2.2.1 t = 0 ∧ ¬ ix a.2.2.2.1 t = 1 := ex_ix
   have hb2 : b' = true ↔ ABad a := by
    rw [hb', hb]
    unfold ABad
    rw [h1, h2]
    constructor
    ·rintro (h | ⟨t, t0, t1, h | h⟩)
     ·exact .inr (.inl h)
     ·exact .inl ⟨t, t0, t1, h⟩
     ·exact .inr (.inr ⟨t, t0, by omega, h⟩)
    ·rintro (⟨t, t0, t1, h⟩ | h | ⟨t, t0, t1, h⟩)
     ·exact .inr ⟨t, t0, t1, .inl h⟩
     ·exact .inl h
     ·exact .inr ⟨t, t0, by omega, .inr h⟩
   refine e.trans ?_
   rw [r26_Check_L15_eq]; unfold r26_Check_L15_B
   rw [if_neg (by simp)]
   by_cases c6 : b' = true
   ·rw [if_pos c6, if_pos (hb2.1 c6)]
   ·rw [if_neg c6, if_neg (fun h => c6 (hb2.2 h))]
 ·have h := r26_L18 hp c4 j0 j1 (r15 := fun b j => r26_Check_L15 a b j) (bad := b)
  have e : r26_Check_L15 a b j = r26_Check_L18 a j (fun b j => r26_Check_L15 a b j) b 0 := by
   conv => lhs; rw [r26_Check_L15_eq]; unfold r26_Check_L15_B
   rw [if_pos (decide_eq_true j1)]
  rw [e]
  exact h
structure AOk (a : AL) : Prop where
 p : Pre a
 row : ∀ q : Int, 0 ≤ q → q < a.2.2.1.length → ((ix a.2.2.1 q).length : Int) = a.1
 sml : ∀ q l : Int, 0 ≤ q → q < a.2.2.1.length → 0 ≤ l → l < a.1 → ((ix (ix a.2.2.1 q) l).length : Int) ≤ 16 ∧ ∀ c ∈ ix (ix a.2.2.1 q) l, (c.length : Int) ≤ 4 ∧ ∀ p ∈ c, 0 ≤ p ∧ p < a.2.2.1.length
 st : 0 ≤ a.2.1 ∧ a.2.1 < a.2.2.1.length
 mks : ∀ q : Int, 0 ≤ q → q < a.2.2.1.length → ix a.2.2.2.1 q = 0 ∨ ix a.2.2.2.1 q = 1
theorem aok_iff : alE a = 0 ↔ AOk a := by
 unfold alE
 constructor
 ·intro h
  split at h
  ·cases h
  split at h
  ·cases h
  split at h
  ·cases h
  split at h
  ·cases h
  split at h
  ·cases h
  split at h
  ·cases h
  rename_i c1 c2 c3 c4 c5 c6
  unfold ALet at c1; unfold ANum at c2; unfold AMks at c3
  have hrow : ∀ q : Int, 0 ≤ q → q < a.2.2.1.length → ((ix a.2.2.1 q).length : Int) = a.1 := fun q q0 q1 => Decidable.byContradiction fun g => c4 ⟨_, ix_mem q0 q1, g⟩
  refine ⟨⟨by omega, by omega, by omega⟩, hrow, fun q l q0 q1 l0 l1 => ?_, ?_, fun q q0 q1 => ?_⟩
  ·have hr := hrow q q0 q1
   have hL : ¬ ALong (ix (ix a.2.2.1 q) l) := fun g => c5 ⟨_, ix_mem q0 q1, _, ix_mem l0 (by omega), g⟩
   refine ⟨Int.not_lt.1 fun g => hL (.inl g), fun c hc => ⟨Int.not_lt.1 fun g => hL (.inr ⟨c, hc, g⟩), fun p hp => ?_⟩⟩
   have : ¬ NoSt a.2.2.1.length p := fun g => c6 (.inl ⟨_, ix_mem q0 q1, _, ix_mem l0 (by omega), c, hc, p, hp, g⟩)
   unfold NoSt at this; omega
  ·have : ¬ NoSt a.2.2.1.length a.2.1 := fun g => c6 (.inr (.inl g))
   unfold NoSt at this; omega
  ·have : ¬ (¬ ix a.2.2.2.1 q = 0 ∧ ¬ ix a.2.2.2.1 q = 1) := fun g => c6 (.inr (.inr ⟨_, ix_mem q0 (by omega), g⟩))
   omega
 ·rintro ⟨⟨p1, p2, p3⟩, h1, h2, h3, h4⟩
  rw [if_neg (by unfold ALet; omega), if_neg (by unfold ANum; omega), if_neg (by unfold AMks; omega), if_neg, if_neg, if_neg]
  ·rintro (⟨r, hr, l, hl, c, hc, p, hp, hb⟩ | hb | ⟨m, hm, hb⟩)
   ·obtain ⟨q, q0, q1, rfl⟩ := ex_ix (P := fun x => x = r).1 ⟨r, hr, rfl⟩
    obtain ⟨k, k0, k1, rfl⟩ := ex_ix (P := fun x => x = l).1 ⟨l, hl, rfl⟩
    have := ((h2 q k q0 q1 k0 (by have := h1 q q0 q1; omega)).2 c hc).2 p hp
    unfold NoSt at hb; omega
   ·unfold NoSt at hb; omega
   ·obtain ⟨q, q0, q1, rfl⟩ := ex_ix (P := fun x => x = m).1 ⟨m, hm, rfl⟩
    have := h4 q q0 (by omega)
    omega
  ·rintro ⟨r, hr, l, hl, hb⟩
   obtain ⟨q, q0, q1, rfl⟩ := ex_ix (P := fun x => x = r).1 ⟨r, hr, rfl⟩
   obtain ⟨k, k0, k1, rfl⟩ := ex_ix (P := fun x => x = l).1 ⟨l, hl, rfl⟩
   have h := h2 q k q0 q1 k0 (by have := h1 q q0 q1; omega)
   rcases hb with hb | ⟨c, hc, hb⟩
   ·omega
   ·have := (h.2 c hc).1; omega
  ·rintro ⟨r, hr, hb⟩
   obtain ⟨q, q0, q1, rfl⟩ := ex_ix (P := fun x => x = r).1 ⟨r, hr, rfl⟩
   exact hb (h1 q q0 q1)
end

theorem ix_snoc {α : Type} [Inhabited α] {l : List α} {x : α} {j : Int} (h0 : 0 ≤ j) (h : j < l.length) : ix (l ++ [x]) j = ix l j := by
 simp only [ix, List.getD_eq_getElem?_getD]
 rw [List.getElem?_append_left (by omega)]
theorem ix_snoc_last {α : Type} [Inhabited α] {l : List α} {x : α} {j : Int} (h : j = l.length) : ix (l ++ [x]) j = x := by
 subst h
 simp [ix, List.getD_eq_getElem?_getD]

/-- Does a state accept a word? -/
def Acc (a : AL) : List Int → Int → Prop
 | [], q => ix a.2.2.2.1 q = 1
 | l :: w, q => ∃ c ∈ ix (ix a.2.2.1 q) l, ∀ p ∈ c, Acc a w p
theorem Acc_cons {a : AL} {l : Int} {w : List Int} {q : Int} : Acc a (l :: w) q ↔ ∃ c ∈ ix (ix a.2.2.1 q) l, ∀ p ∈ c, Acc a w p := Iff.rfl
def suf (w : List Int) (i : Int) : List Int := w.drop i.toNat
theorem suf_cons {w : List Int} {i : Int} (h0 : 0 ≤ i) (h1 : i < w.length) : suf w i = ix w i :: suf w (i + 1) := by
 unfold suf
 have h : i.toNat < w.length := by omega
 have e : (i + 1).toNat = i.toNat + 1 := by omega
 rw [e, List.drop_eq_getElem_cons h, ix_eq h0 h1]
theorem suf_end {w : List Int} : suf w w.length = [] := by
 unfold suf; rw [Int.toNat_natCast, List.drop_length]
section
variable {a : AL} {w : List Int}
structure KT (a : AL) (w : List Int) (K : List (List Int)) : Prop where
 ln : (K.length : Int) = a.2.2.1.length
 row : ∀ q : Int, 0 ≤ q → q < a.2.2.1.length → ((ix K q).length : Int) = w.length + 1
 val : ∀ q i : Int, 0 ≤ q → q < a.2.2.1.length → 0 ≤ i → i ≤ w.length → ix (ix K q) i = 0 ∨ (ix (ix K q) i = 1 ∧ Acc a (suf w i) q) ∨ (ix (ix K q) i = 2 ∧ ¬ Acc a (suf w i) q)
theorem KT.put {K : List (List Int)} (h : KT a w K) {q i v : Int} (q0 : 0 ≤ q) (q1 : q < a.2.2.1.length) (i0 : 0 ≤ i) (i1 : i ≤ w.length) (hv : (v = 1 ∧ Acc a (suf w i) q) ∨ (v = 2 ∧ ¬ Acc a (suf w i) q)) :
  KT a w (K.set q.toNat ((ix K q).set i.toNat v)) := by
 have hl := h.ln; have hr := h.row q q0 q1
 refine ⟨by simpa using hl, fun r r0 r1 => ?_, fun r j r0 r1 j0 j1 => ?_⟩
 ·by_cases e : q = r
  ·subst e; rw [ix_set_same q0 (by omega)]; simpa using hr
  ·rw [ix_set_ne q0 r0 e]; exact h.row r r0 r1
 ·by_cases e : q = r
  ·subst e; rw [ix_set_same q0 (by omega)]
   by_cases e2 : i = j
   ·subst e2; rw [ix_set_same i0 (by omega)]; exact .inr hv
   ·rw [ix_set_ne i0 j0 e2]; exact h.val q j q0 q1 j0 j1
  ·rw [ix_set_ne q0 r0 e]; exact h.val r j r0 r1 j0 j1
theorem From_J9 {K : List (List Int)} (h : KT a w K) {q i : Int} (q0 : 0 ≤ q) (q1 : q < a.2.2.1.length) (i0 : 0 ≤ i) (i1 : i ≤ w.length) {b : Bool} (hb : b = true ↔ Acc a (suf w i) q) :
  ∃ K', r26_From_J9 q i b K = some (b, K') ∧ KT a w K' := by
 have hl := h.ln; have hr := h.row q q0 q1
 unfold r26_From_J9 r26_From_J18
 rw [G_pos (by omega), G_pos (by omega), G_pos (by omega), G_pos (by omega)]
 have e1 : ix (K.set q.toNat ((ix K q).set i.toNat 2)) q = (ix K q).set i.toNat 2 := ix_set_same q0 (by omega)
 cases b with
 | false =>
  exact ⟨_, if_neg (by simp), h.put q0 q1 i0 i1 (.inr ⟨rfl, fun g => by simpa using hb.2 g⟩)⟩
 | true =>
  rw [if_pos rfl, e1, List.length_set, List.length_set, G_pos (by omega), G_pos (by omega), G_pos (by omega), G_pos (by omega), List.set_set, List.set_set]
  exact ⟨_, rfl, h.put q0 q1 i0 i1 (.inl ⟨rfl, hb.1 rfl⟩)⟩
theorem From_L12 {l : List (List Int)} {q at' i : Int} (hl : ix (ix a.2.2.1 q) (ix w at') = l) (hl16 : (l.length : Int) ≤ 16) (h4 : ((ix l i).length : Int) ≤ 4) (hin : ∀ p ∈ ix l i, 0 ≤ p ∧ p < a.2.2.1.length) (i0 : 0 ≤ i) (i1 : i < l.length) (hf : fits (at' + 1))
  (ih : ∀ (q : Int) (K : List (List Int)), 0 ≤ q → q < a.2.2.1.length → KT a w K → ∃ b K', r26_From a q w (at' + 1) K = some (b, K') ∧ KT a w K' ∧ (b = true ↔ Acc a (suf w (at' + 1)) q))
  {r8 : Bool → Int → List (List Int) → Option (Bool × List (List Int))} : ∀ (n : Nat) (j : Int) (K : List (List Int)), 0 ≤ j → j + n = (ix l i).length → KT a w K →
   ∃ b K', r26_From_L12 r26_From a q w at' i r8 true j K = r8 b (i + 1) K' ∧ KT a w K' ∧ (b = true ↔ ∀ t : Int, j ≤ t → t < (ix l i).length → Acc a (suf w (at' + 1)) (ix (ix l i) t)) := by
 have hfi : fits (i + 1) := by unfold fits; omega
 intro n
 induction n with
 | zero =>
  intro j K j0 hn hK
  refine ⟨true, K, ?_, hK, fun _ t t0 t1 => by omega, fun _ => rfl⟩
  rw [r26_From_L12_eq]; unfold r26_From_L12_B
  rw [hl, G_pos (by omega), if_neg (by simp only [decide_eq_true_eq]; omega), G_pos hfi]
 | succ n ihn =>
  intro j K j0 hn hK
  have hp := hin _ (ix_mem j0 (by omega : j < (ix l i).length))
  obtain ⟨b, K1, e1, hK1, hb⟩ := ih (ix (ix l i) j) K hp.1 hp.2 hK
  have e : r26_From_L12 r26_From a q w at' i r8 true j K = r26_From_L12 r26_From a q w at' i r8 b (j + 1) K1 := by
   conv => lhs; rw [r26_From_L12_eq]; unfold r26_From_L12_B
   rw [hl, G_pos (by omega), if_pos (decide_eq_true (by omega)), if_pos rfl, G_pos (by omega), G_pos (by omega), G_pos hf]
   refine bind_to e1 ?_
   rw [G_pos (by unfold fits; omega)]
  cases b with
  | true =>
   obtain ⟨b', K2, e2, hK2, hb2⟩ := ihn (j + 1) K1 (by omega) (by omega) hK1
   refine ⟨b', K2, e.trans e2, hK2, hb2.trans ⟨fun h t t0 t1 => ?_, fun h t t0 t1 => h t (by omega) t1⟩⟩
   by_cases c : t = j
   ·rw [c]; exact hb.1 rfl
   ·exact h t (by omega) t1
  | false =>
   refine ⟨false, K1, e.trans ?_, hK1, fun h => (by cases h), fun h => by simpa using hb.2 (h j (Int.le_refl j) (by omega))⟩
   rw [r26_From_L12_eq]; unfold r26_From_L12_B
   rw [hl, G_pos (by omega)]
   split
   ·rw [if_neg (by decide), G_pos hfi]
   ·rw [G_pos hfi]
theorem From_L8 {l : List (List Int)} {q at' : Int} (q0 : 0 ≤ q) (q1 : q < a.2.2.1.length) (a0 : 0 ≤ at') (a1 : at' < w.length) (hl : ix (ix a.2.2.1 q) (ix w at') = l) (hl16 : (l.length : Int) ≤ 16) (h4 : ∀ c ∈ l, (c.length : Int) ≤ 4 ∧ ∀ p ∈ c, 0 ≤ p ∧ p < a.2.2.1.length) (hf : fits (at' + 1))
  (ih : ∀ (q : Int) (K : List (List Int)), 0 ≤ q → q < a.2.2.1.length → KT a w K → ∃ b K', r26_From a q w (at' + 1) K = some (b, K') ∧ KT a w K' ∧ (b = true ↔ Acc a (suf w (at' + 1)) q)) :
  ∀ (n : Nat) (i : Int) (K : List (List Int)), 0 ≤ i → i + n = l.length → KT a w K → (¬ ∃ j : Int, 0 ≤ j ∧ j < i ∧ ∀ p ∈ ix l j, Acc a (suf w (at' + 1)) p) →
   ∃ b K', r26_From_L8 r26_From a q w at' false i K = some (b, K') ∧ KT a w K' ∧ (b = true ↔ Acc a (suf w at') q) := by
 have hA : Acc a (suf w at') q ↔ ∃ j : Int, 0 ≤ j ∧ j < l.length ∧ ∀ p ∈ ix l j, Acc a (suf w (at' + 1)) p := by
  rw [suf_cons a0 a1, Acc_cons, hl]; exact ex_ix (P := fun c : List Int => ∀ p ∈ c, Acc a (suf w (at' + 1)) p)
 intro n
 induction n with
 | zero =>
  intro i K i0 hn hK hno
  have hb : false = true ↔ Acc a (suf w at') q := by
   rw [hA]
   refine ⟨fun h => (by cases h), fun ⟨j, j0, j1, h⟩ => absurd ⟨j, j0, by omega, h⟩ hno⟩
  obtain ⟨K', e, hK'⟩ := From_J9 hK q0 q1 a0 (by omega) hb
  refine ⟨false, K', ?_, hK', hb⟩
  rw [r26_From_L8_eq]; unfold r26_From_L8_B
  rw [hl, if_neg (by simp only [decide_eq_true_eq]; omega), e]
 | succ n ihn =>
  intro i K i0 hn hK hno
  have hc := h4 _ (ix_mem i0 (by omega : i < l.length))
  obtain ⟨b, K1, e1, hK1, hb⟩ := From_L12 (r8 := fun b i K => r26_From_L8 r26_From a q w at' b i K) hl hl16 hc.1 hc.2 i0 (by omega) hf ih (ix l i).length 0 K (by omega) (by omega) hK
  have hb : b = true ↔ ∀ p ∈ ix l i, Acc a (suf w (at' + 1)) p := hb.trans (forall_ix (p := fun p => Acc a (suf w (at' + 1)) p)).symm
  have e : r26_From_L8 r26_From a q w at' false i K = r26_From_L8 r26_From a q w at' b (i + 1) K1 := by
   conv => lhs; rw [r26_From_L8_eq]; unfold r26_From_L8_B
   rw [hl, if_pos (decide_eq_true (by omega)), if_pos (by simp), e1]
  cases b with
  | false =>
   obtain ⟨b', K2, e2, h2⟩ := ihn (i + 1) K1 (by omega) (by omega) hK1 (fun ⟨j, j0, j1, h⟩ => by
    by_cases c : j = i
    ·rw [c] at h; simpa using hb.2 h
    ·exact hno ⟨j, j0, by omega, h⟩)
   exact ⟨b', K2, e.trans e2, h2⟩
  | true =>
   have hb2 : true = true ↔ Acc a (suf w at') q := by
    rw [hA]
    exact ⟨fun h => ⟨i, i0, by omega, hb.1 rfl⟩, fun _ => rfl⟩
   obtain ⟨K', e2, hK'⟩ := From_J9 hK1 q0 q1 a0 (by omega) hb2
   refine ⟨true, K', e.trans ?_, hK', hb2⟩
   rw [r26_From_L8_eq]; unfold r26_From_L8_B
   split
   ·rw [if_neg (by decide)]; exact e2
   ·exact e2
theorem r26_From_spec (ok : AOk a) (hw : ∀ x ∈ w, 0 ≤ x ∧ x < a.1) (hwl : (w.length : Int) ≤ 60) : ∀ (n : Nat) (at' q : Int) (K : List (List Int)), 0 ≤ at' → at' + n = w.length → 0 ≤ q → q < a.2.2.1.length → KT a w K →
  ∃ b K', r26_From a q w at' K = some (b, K') ∧ KT a w K' ∧ (b = true ↔ Acc a (suf w at') q) := by
 have hpn := ok.p.n1; have hmk := ok.p.mks
 intro n
 induction n with
 | zero =>
  intro at' q K a0 hn q0 q1 hK
  have hl := hK.ln; have hr := hK.row q q0 q1
  have hv := hK.val q at' q0 q1 a0 (by omega)
  conv => arg 1; ext b; arg 1; ext K'; lhs; lhs; rw [r26_From_eq]; unfold r26_From_B
  rw [G_pos (by omega), G_pos (by omega), G_pos (by omega), G_pos (by omega)]
  rcases hv with hv | ⟨hv, h⟩ | ⟨hv, h⟩
  ·rw [if_neg (by simp [hv]), G_pos (by omega), if_neg (by simp only [decide_eq_true_eq]; omega)]
   have hb : decide (ix a.2.2.2.1 q = 1) = true ↔ Acc a (suf w at') q := by
    rw [show at' = w.length by omega, suf_end]; unfold Acc; simp
   obtain ⟨K', e, hK'⟩ := From_J9 hK q0 q1 a0 (by omega) hb
   exact ⟨_, K', e, hK', hb⟩
  ·rw [if_pos (by simp [hv]), G_pos (by omega), G_pos (by omega), G_pos (by omega), G_pos (by omega)]
   exact ⟨_, K, rfl, hK, by simp [hv, h]⟩
  ·rw [if_pos (by simp [hv]), G_pos (by omega), G_pos (by omega), G_pos (by omega), G_pos (by omega)]
   exact ⟨_, K, rfl, hK, by simp [hv, h]⟩
 | succ n ih =>
  intro at' q K a0 hn q0 q1 hK
  have hl := hK.ln; have hr := hK.row q q0 q1
  have hv := hK.val q at' q0 q1 a0 (by omega)
  have hx := hw _ (ix_mem a0 (by omega : at' < w.length))
  have hrow := ok.row q q0 q1
  have hs := ok.sml q (ix w at') q0 q1 hx.1 hx.2
  rcases hv with hv | hv
  ·obtain ⟨b, K', e, h⟩ := From_L8 (q := q) (at' := at') q0 q1 a0 (by omega) rfl hs.1 hs.2 (by unfold fits; omega) (fun q K q0 q1 hK => ih (at' + 1) q K (by omega) (by omega) q0 q1 hK) _ 0 K (by omega) (Int.zero_add _) hK (fun ⟨j, j0, j1, _⟩ => by omega)
   refine ⟨b, K', ?_, h⟩
   rw [r26_From_eq]; unfold r26_From_B
   rw [G_pos (by omega), G_pos (by omega), G_pos (by omega), G_pos (by omega), if_neg (by simp [hv]), G_pos (by omega), if_pos (decide_eq_true (by omega)), G_pos (by omega), G_pos (by omega), G_pos (by omega)]
   exact e
  ·conv => arg 1; ext b; arg 1; ext K'; lhs; lhs; rw [r26_From_eq]; unfold r26_From_B
   rw [G_pos (by omega), G_pos (by omega), G_pos (by omega), G_pos (by omega)]
   rcases hv with ⟨hv, h⟩ | ⟨hv, h⟩
   ·rw [if_pos (by simp [hv]), G_pos (by omega), G_pos (by omega), G_pos (by omega), G_pos (by omega)]
    exact ⟨_, K, rfl, hK, by simp [hv, h]⟩
   ·rw [if_pos (by simp [hv]), G_pos (by omega), G_pos (by omega), G_pos (by omega), G_pos (by omega)]
    exact ⟨_, K, rfl, hK, by simp [hv, h]⟩
theorem r26_Accepts_tells (ok : AOk a) (hw : ∀ x ∈ w, 0 ≤ x ∧ x < a.1) (hwl : (w.length : Int) ≤ 60) : Tells (r26_Accepts a w) (Acc a w a.2.1) := by
 have hpn := ok.p.n1
 have key : ∀ (n : Nat) (q : Int) (K : List (List Int)), 0 ≤ q → q + n = a.2.2.1.length → (K.length : Int) = q → (∀ r : Int, 0 ≤ r → r < q → ix K r = List.replicate ((w.length : Int) + 1).toNat 0) → Tells (r26_Accepts_L3 a w q K) (Acc a w a.2.1) := by
  intro n
  induction n with
  | zero =>
   intro q K q0 hn hl hK
   have hKT : KT a w K := by
    refine ⟨by omega, fun r r0 r1 => ?_, fun r i r0 r1 i0 i1 => .inl ?_⟩
    ·rw [hK r r0 (by omega), List.length_replicate]; omega
    ·rw [hK r r0 (by omega)]
     simp only [ix, List.getD_eq_getElem?_getD, List.getElem?_replicate]
     split <;> rfl
   obtain ⟨b, K', e, _, hb⟩ := r26_From_spec ok hw hwl w.length 0 a.2.1 K (by omega) (by omega) ok.st.1 ok.st.2 hKT
   refine ⟨b, ?_, hb⟩
   rw [r26_Accepts_L3_eq]; unfold r26_Accepts_L3_B
   rw [if_neg (by simp only [decide_eq_true_eq]; omega)]
   exact bind_to e rfl
  | succ n ih =>
   intro q K q0 hn hl hK
   rw [r26_Accepts_L3_eq]; unfold r26_Accepts_L3_B
   rw [if_pos (decide_eq_true (by omega)), G_pos (by unfold fits; omega), G_pos (by unfold mkOK; omega), G_pos (by unfold room; simp only [List.length_cons, List.length_nil]; omega), G_pos (by unfold fits; omega)]
   refine ih (q + 1) _ (by omega) (by omega) (by simp; omega) (fun r r0 r1 => ?_)
   by_cases c : r = q
   ·rw [ix_snoc_last (by omega)]
   ·rw [ix_snoc r0 (by omega)]; exact hK r r0 (by omega)
 exact key a.2.2.1.length 0 [] (by omega) (by omega) rfl (fun r r0 r1 => by omega)
end

section
variable {a : AL}
theorem o11_tells (p s : Int) (h0 : 0 ≤ p) : Tells (alter_ahead_1_1 p s) (iand .i64 (ishr .i64 s p) 1 = 0) := by
 unfold alter_ahead_1_1; rw [G_pos h0]; exact Tells.dec Iff.rfl
theorem bit01 {N : Nat} {s p : Int} (hs : SetN N s) (p0 : 0 ≤ p) (p1 : p ≤ 16) : iand .i64 (ishr .i64 s p) 1 = 0 ∨ iand .i64 (ishr .i64 s p) 1 = 1 := by
 obtain ⟨hN, m, rfl, hm⟩ := hs
 have hp := pow_le16 hN
 obtain ⟨q, rfl⟩ : ∃ q : Nat, p = q := ⟨p.toNat, by omega⟩
 have hle : m >>> q ≤ m := Nat.shiftRight_le m q
 rw [ishr_nat (by omega), show (1 : Int) = ((1 : Nat) : Int) from rfl, iand_nat (by omega) (by omega), Nat.and_one_is_mod]
 omega
theorem bit_no {N : Nat} {s p : Int} (hs : SetN N s) (p0 : 0 ≤ p) (p1 : p ≤ 16) : iand .i64 (ishr .i64 s p) 1 = 0 ↔ ¬ bitP s p := by
 have := bit01 hs p0 p1
 unfold bitP
 omega
def Mt (l : List (List Int)) (s : Int) : Prop := ∃ c ∈ l, ∀ p ∈ c, bitP s p
theorem f6_tells {c : List Int} {s : Int} (hs : SetN 4 s) (h : c.length ≤ 4) (h0 : ∀ p ∈ c, 0 ≤ p ∧ p < 4) : Tells (slices_ContainsFunc_6 c s) (∃ p ∈ c, ¬ bitP s p) :=
 contains_tells (f := fun p => alter_ahead_1_1 p s) (P := fun p => ¬ bitP s p) (fun t => slices_IndexFunc_6_L2_eq c s t) (by omega) (fun p hp => Tells.iff (o11_tells p s (h0 p hp).1) (bit_no hs (h0 p hp).1 (by have := (h0 p hp).2; omega)))
theorem o1_tells {c : List Int} {s : Int} (hs : SetN 4 s) (h : c.length ≤ 4) (h0 : ∀ p ∈ c, 0 ≤ p ∧ p < 4) : Tells (alter_ahead_1 c s) (∀ p ∈ c, bitP s p) := by
 obtain ⟨b, e, hb⟩ := f6_tells hs h h0
 refine ⟨!b, bind_to e rfl, ?_⟩
 have : (∀ p ∈ c, bitP s p) ↔ ¬ b = true := by
  rw [hb]
  exact ⟨fun h ⟨p, hp, hn⟩ => hn (h p hp), fun h p hp => Classical.byContradiction fun hn => h ⟨p, hp, hn⟩⟩
 rw [this]; cases b <;> simp
theorem f5_tells {l : List (List Int)} {s : Int} (hs : SetN 4 s) (h : l.length ≤ 16) (hc : ∀ c ∈ l, (c.length : Int) ≤ 4 ∧ ∀ p ∈ c, 0 ≤ p ∧ p < 4) : Tells (slices_ContainsFunc_5 l s) (Mt l s) :=
 contains_tells (f := fun c => alter_ahead_1 c s) (P := fun c => ∀ p ∈ c, bitP s p) (fun t => slices_IndexFunc_5_L2_eq l s t) (by omega) (fun c h => o1_tells hs (by have := (hc c h).1; omega) (hc c h).2)
noncomputable def ahd (a : AL) (s l : Int) : Int := setOf (fun q => Mt (ix (ix a.2.2.1 q) l) s) a.2.2.1.length
theorem AOk.lst (ok : AOk a) {q l : Int} (q0 : 0 ≤ q) (q1 : q < a.2.2.1.length) (l0 : 0 ≤ l) (l1 : l < a.1) : (ix (ix a.2.2.1 q) l).length ≤ 16 ∧ ∀ c ∈ ix (ix a.2.2.1 q) l, (c.length : Int) ≤ 4 ∧ ∀ p ∈ c, 0 ≤ p ∧ p < 4 := by
 have h := ok.sml q l q0 q1 l0 l1
 have hn := ok.p.n1
 refine ⟨by omega, fun c hc => ⟨(h.2 c hc).1, fun p hp => ?_⟩⟩
 have := (h.2 c hc).2 p hp
 omega
theorem SetN.up {N M : Nat} {s : Int} (h : SetN N s) (hNM : N ≤ M) (hM : M ≤ 16) : SetN M s := by
 obtain ⟨hN, m, rfl, hm⟩ := h
 exact ⟨hM, m, rfl, Nat.lt_of_lt_of_le hm (Nat.pow_le_pow_right (by omega) hNM)⟩
theorem ahd_ok (ok : AOk a) (s l : Int) : SetN a.2.2.1.length (ahd a s l) ∧ SetN 4 (ahd a s l) ∧ ∀ q : Int, 0 ≤ q → q < a.2.2.1.length → (bitP (ahd a s l) q ↔ Mt (ix (ix a.2.2.1 q) l) s) := by
 have hn := ok.p.n1
 obtain ⟨h1, h2⟩ := setOf_ok (N := a.2.2.1.length) (by omega) (fun q => Mt (ix (ix a.2.2.1 q) l) s) a.2.2.1.length (Nat.le_refl _)
 exact ⟨h1, h1.up (by omega) (by omega), fun q q0 q1 => (h2 q q0 q1).trans ⟨fun h => h.2, fun h => ⟨q1, h⟩⟩⟩
theorem ahead_spec (ok : AOk a) {s l : Int} (hs : SetN 4 s) (l0 : 0 ≤ l) (l1 : l < a.1) : alter_ahead a s l = some (ahd a s l) := by
 have hn := ok.p.n1
 have key : ∀ (n : Nat) (t : Nat), t + n = a.2.2.1.length → alter_ahead_L3 a s l (setOf (fun q => Mt (ix (ix a.2.2.1 q) l) s) t) t = some (ahd a s l) := by
  intro n
  induction n with
  | zero =>
   intro t ht
   rw [alter_ahead_L3_eq]; unfold alter_ahead_L3_B
   rw [if_neg (by simp only [decide_eq_true_eq]; omega)]
   unfold ahd
   rw [show t = a.2.2.1.length by omega]
  | succ n ih =>
   intro t ht
   have hr := ok.row t (by omega) (by omega)
   have hl := ok.lst (q := t) (l := l) (by omega) (by omega) l0 l1
   have ih' := ih (t + 1) (by omega)
   rw [setOf_succ] at ih'
   rw [alter_ahead_L3_eq]; unfold alter_ahead_L3_B
   rw [if_pos (decide_eq_true (by omega)), G_pos (by omega), G_pos (by omega)]
   refine Tells.to (f5_tells hs hl.1 hl.2) (fun h => ?_) (fun h => ?_)
   ·rw [if_pos h] at ih'
    rw [G_pos (by omega), G_pos (by unfold fits; omega)]; exact ih'
   ·rw [if_neg h] at ih'
    rw [G_pos (by unfold fits; omega)]; exact ih'
 exact key a.2.2.1.length 0 (by omega)
noncomputable def endA (a : AL) : Int := setOf (fun q => ix a.2.2.2.1 q = 1) a.2.2.1.length
theorem set4 {s : Int} (s0 : 0 ≤ s) (s1 : s < 16) : SetN 4 s := ⟨by omega, s.toNat, by omega, by omega⟩
theorem set4_b {s : Int} (h : SetN 4 s) : 0 ≤ s ∧ s < 16 := by have := h.b; omega
theorem endA_ok (ok : AOk a) : SetN a.2.2.1.length (endA a) ∧ SetN 4 (endA a) ∧ ∀ q : Int, 0 ≤ q → q < a.2.2.1.length → (bitP (endA a) q ↔ ix a.2.2.2.1 q = 1) := by
 have hn := ok.p.n1
 obtain ⟨h1, h2⟩ := setOf_ok (N := a.2.2.1.length) (by omega) (fun q => ix a.2.2.2.1 q = 1) a.2.2.1.length (Nat.le_refl _)
 exact ⟨h1, h1.up (by omega) (by omega), fun q q0 q1 => (h2 q q0 q1).trans ⟨fun h => h.2, fun h => ⟨q1, h⟩⟩⟩
theorem or_zero {N : Nat} {s q : Int} (hs : SetN N s) (q0 : 0 ≤ q) (q1 : q < 62) : ior .i64 s (ishl .i64 0 q) = s := by
 obtain ⟨hN, m, rfl, hm⟩ := hs
 have hp := pow_le16 hN
 obtain ⟨k, rfl⟩ : ∃ k : Nat, q = k := ⟨q.toNat, by omega⟩
 have h1 : ishl .i64 0 (k : Int) = ((0 : Nat) : Int) := by
  have := ishl_nat (m := 0) (k := k) (by omega) (by omega)
  rw [Nat.zero_shiftLeft] at this
  exact this
 rw [h1, ior_nat (by omega) (by omega), Nat.or_zero]
theorem ends_spec (ok : AOk a) : alter_ends a = some (endA a) := by
 have hn := ok.p.n1; have hmk := ok.p.mks
 have key : ∀ (n : Nat) (t : Nat), t + n = a.2.2.1.length → alter_ends_L3 a (setOf (fun q => ix a.2.2.2.1 q = 1) t) t = some (endA a) := by
  intro n
  induction n with
  | zero =>
   intro t ht
   rw [alter_ends_L3_eq]; unfold alter_ends_L3_B
   rw [if_neg (by simp only [decide_eq_true_eq]; omega)]
   unfold endA
   rw [show t = a.2.2.1.length by omega]
  | succ n ih =>
   intro t ht
   have ih' := ih (t + 1) (by omega)
   rw [setOf_succ] at ih'
   rw [alter_ends_L3_eq]; unfold alter_ends_L3_B
   rw [if_pos (decide_eq_true (by omega)), G_pos (by omega), G_pos (by omega), G_pos (by unfold fits; omega)]
   have hS := (setOf_ok (N := a.2.2.1.length) (by omega) (fun q => ix a.2.2.2.1 q = 1) t (by omega)).1
   rcases ok.mks t (by omega) (by omega) with h | h
   ·rw [if_neg (by omega)] at ih'
    rw [h, or_zero hS (by omega) (by omega)]; exact ih'
   ·rw [if_pos h] at ih'
    rw [h]; exact ih'
 exact key a.2.2.1.length 0 (by omega)
noncomputable def bst (a : AL) : List Int → Int → Int
 | [], s => s
 | l :: w, s => ahd a (bst a w s) l
theorem bst_set (ok : AOk a) : ∀ (w : List Int) {s : Int}, SetN 4 s → SetN 4 (bst a w s)
 | [], s, h => h
 | l :: w, s, h => (ahd_ok ok (bst a w s) l).2.1
theorem bst_acc (ok : AOk a) : ∀ (w : List Int) (q : Int), (∀ x ∈ w, 0 ≤ x ∧ x < a.1) → 0 ≤ q → q < a.2.2.1.length → (bitP (bst a w (endA a)) q ↔ Acc a w q)
 | [], q, _, q0, q1 => (endA_ok ok).2.2 q q0 q1
 | l :: w, q, hw, q0, q1 => by
  have hl := hw l (List.mem_cons_self ..)
  have hw' : ∀ x ∈ w, 0 ≤ x ∧ x < a.1 := fun x hx => hw x (List.mem_cons_of_mem _ hx)
  have hs := ok.sml q l q0 q1 hl.1 hl.2
  rw [Acc_cons]
  refine ((ahd_ok ok (bst a w (endA a)) l).2.2 q q0 q1).trans ?_
  unfold Mt
  constructor
  ·rintro ⟨c, hc, h⟩
   exact ⟨c, hc, fun p hp => by have hr := (hs.2 c hc).2 p hp; exact (bst_acc ok w p hw' hr.1 hr.2).1 (h p hp)⟩
  ·rintro ⟨c, hc, h⟩
   exact ⟨c, hc, fun p hp => by have hr := (hs.2 c hc).2 p hp; exact (bst_acc ok w p hw' hr.1 hr.2).2 (h p hp)⟩
end

section
variable {a : AL}
theorem run_bst (ok : AOk a) : ∀ (w : List Int) {s : Int}, (∀ x ∈ w, 0 ≤ x ∧ x < a.1) → SetN 4 s → runB (fun s x => alter_ahead a s x) w.reverse s = some (bst a w s)
 | [], s, _, _ => rfl
 | l :: w, s, hw, hs => by
  have hl := hw l (List.mem_cons_self ..)
  rw [List.reverse_cons, runB_snoc, run_bst ok w (fun x hx => hw x (List.mem_cons_of_mem _ hx)) hs]
  exact ahead_spec ok (bst_set ok w hs) hl.1 hl.2
open Classical in
theorem acc_tells (ok : AOk a) {w : List Int} (hm : mayE a.1 w = 0) : ∃ b, alter_Accepts a w = some (b, 0) ∧ (b = true ↔ Acc a w a.2.1) := by
 obtain ⟨_, hlen, hlet⟩ := mayE_zero hm
 have he := (endA_ok ok).2.1
 refine ⟨decide (iand .i64 (ishr .i64 (bst a w (endA a)) a.2.1) 1 = 1), ?_, ?_⟩
 ·unfold alter_Accepts
  refine bind_to alter_Check_spec ?_
  rw [aok_iff.2 ok, if_neg (by simp)]
  refine bind_to word_May_spec ?_
  rw [hm, if_neg (by simp)]
  refine bind_to (ends_spec ok) ?_
  unfold backAll
  refine G_to ⟨SetN 4, he, fun s x hs hx => ⟨_, ahead_spec ok hs (hlet x hx).1 (hlet x hx).2, (ahd_ok ok s x).2.1⟩⟩ ?_
  refine bind_to (run_bst ok w hlet he) ?_
  exact G_to ok.st.1 rfl
 ·rw [decide_eq_true_iff]
  exact bst_acc ok w a.2.1 hlet ok.st.1 ok.st.2
end
theorem law_true (a : AL) (w : List Int) : law_AlterAccepts a w = some true := by
 have hC : alter_Check (a.1, (a.2.1, (a.2.2.1, (a.2.2.2.1, ())))) = some (alE a) := alter_Check_spec
 have hR : r26_Check (a.1, (a.2.1, (a.2.2.1, (a.2.2.2.1, ())))) = some (alE a) := r26_Check_spec
 unfold law_AlterAccepts
 refine bind_to hC (bind_to hR ?_)
 by_cases c : alE a = 0
 ·have ok := aok_iff.1 c
  by_cases hm : mayE a.1 w = 0
  ·obtain ⟨b, h1, h2⟩ := acc_tells ok hm
   obtain ⟨_, hlen, hlet⟩ := mayE_zero hm
   obtain ⟨b', g1, g2⟩ := r26_Accepts_tells ok hlet hlen
   have e : b = b' := by rw [Bool.eq_iff_iff, h2, g2]
   refine bind_to h1 ?_
   rw [if_neg (by simp), if_pos (by simpa using c)]
   refine bind_to r1_May_spec ?_
   unfold law_AlterAccepts_J7
   rw [if_neg (by simpa using hm)]
   refine bind_to g1 ?_
   rw [if_pos (by simp), e]; simp
  ·have h1 : alter_Accepts a w = some (false, mayE a.1 w) := by
    unfold alter_Accepts
    refine bind_to alter_Check_spec ?_
    rw [c, if_neg (by simp)]
    refine bind_to word_May_spec ?_
    rw [if_pos hm]
   refine bind_to h1 ?_
   rw [if_neg (by simp), if_pos (by simpa using c)]
   refine bind_to r1_May_spec ?_
   unfold law_AlterAccepts_J7
   rw [if_pos (by simpa using hm), if_pos (by simp)]; rfl
 ·have h1 : alter_Accepts a w = some (false, alE a) := by
   unfold alter_Accepts
   refine bind_to alter_Check_spec ?_
   rw [if_pos c]
  refine bind_to h1 ?_
  rw [if_neg (by simp), if_neg (by simpa using c)]
  unfold law_AlterAccepts_J7
  rw [if_pos (by simpa using c), if_pos (by simp)]; rfl

end Go.Proofs.Ytbkokgohnmjdeaa.alterAcceptsW
