/- The law 'SameClasses' of the plain functions. -/
import Derived.Test.YthfhjngmkbfjpaaSameClassesD
set_option maxHeartbeats 1000000
set_option maxRecDepth 20000
set_option linter.unusedSimpArgs false
set_option linter.unusedVariables false
set_option linter.unusedSectionVars false
namespace Go.Proofs.Ythfhjngmkbfjpaa.sameClassesW
open Go Go.Ab
/-- The answer is yes just if P. -/
def Tells (o : Option Bool) (P : Prop) : Prop := ∃ b, o = some b ∧ (b = true ↔ P)
theorem Tells.of {b : Bool} {P : Prop} (h : b = true ↔ P) : Tells (some b) P := ⟨b, rfl, h⟩
theorem Tells.dec {P Q : Prop} [Decidable P] (h : P ↔ Q) : Tells (some (decide P)) Q := ⟨_, rfl, by simpa using h⟩
theorem Tells.iff {o : Option Bool} {P Q : Prop} (h : Tells o P) (k : P ↔ Q) : Tells o Q := let ⟨b, h1, h2⟩ := h; ⟨b, h1, h2.trans k⟩
theorem Tells.eq {o : Option Bool} {P : Prop} [Decidable P] (h : Tells o P) : o = some (decide P) := by
  obtain ⟨b, rfl, hb⟩ := h
  by_cases hp : P
  · simp [hp, hb.2 hp]
  · have : b = false := by cases b; rfl; exact absurd (hb.1 rfl) hp
    simp [hp, this]
theorem Tells.to {R : Type} {o : Option Bool} {P : Prop} {k1 k2 x : Option R} (h : Tells o P) (h1 : P → k1 = x) (h2 : ¬ P → k2 = x) : (o.bind fun y => if y = true then k1 else k2) = x := by
  obtain ⟨b, rfl, hb⟩ := h
  refine bind_to rfl ?_
  cases b
  · exact h2 fun hp => by simpa using hb.2 hp
  · exact h1 (hb.1 rfl)
theorem Tells.bind {R : Type} {o : Option Bool} {P : Prop} {k : Bool → Option R} {x : Option R} (h : Tells o P) (h1 : ∀ b, (b = true ↔ P) → k b = x) : o.bind k = x := by
  obtain ⟨b, rfl, hb⟩ := h
  exact h1 b hb
section
variable {α C : Type} [Inhabited α]
theorem ex_ix {l : List α} {P : α → Prop} : (∃ x ∈ l, P x) ↔ ∃ i : Int, 0 ≤ i ∧ i < l.length ∧ P (ix l i) := by
  constructor
  · rintro ⟨x, hx, hp⟩
    obtain ⟨i, hi, rfl⟩ := List.mem_iff_getElem.1 hx
    refine ⟨i, by omega, by omega, ?_⟩
    rwa [ix_eq (by omega) (by omega)]
  · rintro ⟨i, h0, h1, hp⟩
    exact ⟨_, ix_mem h0 h1, hp⟩
theorem index_loop {s : List α} {f : α → Option Bool} {L : Int → Option Int} {P : α → Prop} (hs : s.length ≤ 4611686018427387904)
    (hL : ∀ t, L t = if decide (t < (s.length : Int)) = true then G (0 ≤ t ∧ t < (s.length : Int)) ((f (ix s t)).bind fun y => if y = true then some t else G (fits (t + 1)) (L (t + 1))) else some (-1))
    (hf : ∀ x ∈ s, Tells (f x) (P x)) : ∀ (n : Nat) (t : Int), 0 ≤ t → t ≤ s.length → (s.length - t).toNat = n →
      ∃ i, L t = some i ∧ ((i = -1 ∧ ∀ j : Int, t ≤ j → j < s.length → ¬ P (ix s j)) ∨ (t ≤ i ∧ i < s.length ∧ P (ix s i) ∧ ∀ j : Int, t ≤ j → j < i → ¬ P (ix s j))) := by
  intro n
  induction n with
  | zero =>
    intro t h0 h1 hn
    refine ⟨-1, ?_, .inl ⟨rfl, fun j a b => by omega⟩⟩
    rw [hL, if_neg (by simp; omega)]
  | succ n ih =>
    intro t h0 h1 hn
    rw [hL, if_pos (by simp; omega), G_pos (by omega)]
    obtain ⟨b, hb, hbp⟩ := hf _ (ix_mem h0 (by omega : t < s.length))
    rw [hb]
    cases b with
    | true => exact ⟨t, rfl, .inr ⟨by omega, by omega, hbp.1 rfl, fun j a b => by omega⟩⟩
    | false =>
      have hnp : ¬ P (ix s t) := fun hp => by simpa using hbp.2 hp
      obtain ⟨i, hi, hc⟩ := ih (t + 1) (by omega) (by omega) (by omega)
      refine ⟨i, ?_, ?_⟩
      · refine (if_neg (by simp) : (if false = true then some t else G (fits (t + 1)) (L (t + 1))) = _).trans ?_
        rw [G_pos (by unfold fits; omega), hi]
      · rcases hc with ⟨h2, h3⟩ | ⟨h2, h3, h4, h5⟩
        · refine .inl ⟨h2, fun j a b => ?_⟩
          by_cases e : j = t
          · rw [e]; exact hnp
          · exact h3 j (by omega) b
        · refine .inr ⟨by omega, h3, h4, fun j a b => ?_⟩
          by_cases e : j = t
          · rw [e]; exact hnp
          · exact h5 j (by omega) b
theorem contains_tells {s : List α} {f : α → Option Bool} {L : Int → Option Int} {P : α → Prop}
    (hL : ∀ t, L t = if decide (t < (s.length : Int)) = true then G (0 ≤ t ∧ t < (s.length : Int)) ((f (ix s t)).bind fun y => if y = true then some t else G (fits (t + 1)) (L (t + 1))) else some (-1))
    (hs : s.length ≤ 4611686018427387904) (hf : ∀ x ∈ s, Tells (f x) (P x)) : Tells ((L 0).bind fun y => some (decide ((0 : Int) ≤ y))) (∃ x ∈ s, P x) := by
  obtain ⟨i, hi, hc⟩ := index_loop hs hL hf _ 0 (by omega) (by omega) rfl
  rw [hi]
  refine ⟨decide (0 ≤ i), rfl, ?_⟩
  rw [decide_eq_true_iff, ex_ix]
  rcases hc with ⟨h2, h3⟩ | ⟨h2, h3, h4, h5⟩
  · constructor
    · intro h; omega
    · rintro ⟨j, h0, h1, hp⟩; exact absurd hp (h3 j h0 h1)
  · exact ⟨fun _ => ⟨i, by omega, h3, h4⟩, fun _ => by omega⟩
/-- .. of what carries along what it reads. -/
theorem contains_tells2 {s : List α} {c : C} {f : α → C → Option (Bool × C)} {L : Int → C → Option (Int × C)} {P : α → Prop}
    (hL : ∀ t c, L t c = if decide (t < (s.length : Int)) = true then G (0 ≤ t ∧ t < (s.length : Int)) ((f (ix s t) c).bind fun y => if y.1 = true then some (t, y.2) else G (fits (t + 1)) (L (t + 1) y.2)) else some (-1, c))
    (hs : s.length ≤ 4611686018427387904) (hf : ∀ x ∈ s, ∃ b, f x c = some (b, c) ∧ (b = true ↔ P x)) : ∃ b, ((L 0 c).bind fun y => some (decide ((0 : Int) ≤ y.1), y.2)) = some (b, c) ∧ (b = true ↔ ∃ x ∈ s, P x) := by
  have key : ∀ (n : Nat) (t : Int), 0 ≤ t → t ≤ s.length → (s.length - t).toNat = n →
      ∃ i, L t c = some (i, c) ∧ ((i = -1 ∧ ∀ j : Int, t ≤ j → j < s.length → ¬ P (ix s j)) ∨ (t ≤ i ∧ i < s.length ∧ P (ix s i))) := by
    intro n
    induction n with
    | zero =>
      intro t h0 h1 hn
      refine ⟨-1, ?_, .inl ⟨rfl, fun j a b => by omega⟩⟩
      rw [hL, if_neg (by simp; omega)]
    | succ n ih =>
      intro t h0 h1 hn
      rw [hL, if_pos (by simp; omega), G_pos (by omega)]
      obtain ⟨b, hb, hbp⟩ := hf _ (ix_mem h0 (by omega : t < s.length))
      rw [hb]
      cases b with
      | true => exact ⟨t, rfl, .inr ⟨by omega, by omega, hbp.1 rfl⟩⟩
      | false =>
        have hnp : ¬ P (ix s t) := fun hp => by simpa using hbp.2 hp
        obtain ⟨i, hi, hc⟩ := ih (t + 1) (by omega) (by omega) (by omega)
        refine ⟨i, ?_, ?_⟩
        · refine (if_neg (by simp) : (if false = true then some (t, c) else G (fits (t + 1)) (L (t + 1) c)) = _).trans ?_
          rw [G_pos (by unfold fits; omega), hi]
        · rcases hc with ⟨h2, h3⟩ | ⟨h2, h3, h4⟩
          · refine .inl ⟨h2, fun j a b => ?_⟩
            by_cases e : j = t
            · rw [e]; exact hnp
            · exact h3 j (by omega) b
          · exact .inr ⟨by omega, h3, h4⟩
  obtain ⟨i, hi, hc⟩ := key _ 0 (by omega) (by omega) rfl
  rw [hi]
  refine ⟨decide (0 ≤ i), rfl, ?_⟩
  rw [decide_eq_true_iff, ex_ix]
  rcases hc with ⟨h2, h3⟩ | ⟨h2, h3, h4⟩
  · constructor
    · intro h; omega
    · rintro ⟨j, h0, h1, hp⟩; exact absurd hp (h3 j h0 h1)
  · exact ⟨fun _ => ⟨i, by omega, h3, h4⟩, fun _ => by omega⟩
end
/-- A loop that looks for the first fault. -/
theorem scan_to {R : Type} {len : Int} {L : Int → Option R} {bad : Int → Prop} {x : Option R} {lo : Int} (h0 : lo ≤ len)
    (hs : ∀ t, lo ≤ t → t < len → (bad t → L t = x) ∧ (¬ bad t → L t = L (t + 1))) (hf : (∀ t, lo ≤ t → t < len → ¬ bad t) → L len = x) : L lo = x := by
  have key : ∀ (n : Nat) (t : Int), lo ≤ t → t ≤ len → (len - t).toNat = n → (∀ j, lo ≤ j → j < t → ¬ bad j) → L t = x := by
    intro n
    induction n with
    | zero =>
      intro t h1 h2 hn h
      obtain rfl : t = len := by omega
      exact hf h
    | succ n ih =>
      intro t h1 h2 hn h
      by_cases hb : bad t
      · exact (hs t h1 (by omega)).1 hb
      · rw [(hs t h1 (by omega)).2 hb]
        refine ih (t + 1) (by omega) (by omega) (by omega) fun j a b => ?_
        by_cases e : j = t
        · rw [e]; exact hb
        · exact h j a (by omega)
  exact key _ lo (Int.le_refl _) h0 rfl (fun j a b => by omega)
/-- A loop that counts, with a state. -/
theorem fold_to {R S : Type} {len : Int} {L : Int → S → Option R} {f : Int → S → S} {lo : Int} {I : Int → S → Prop} {s : S} (h0 : lo ≤ len) (hI : I lo s)
    (hs : ∀ t s, lo ≤ t → t < len → I t s → L t s = L (t + 1) (f t s) ∧ I (t + 1) (f t s)) : ∃ s', I len s' ∧ L lo s = L len s' := by
  have key : ∀ (n : Nat) (t : Int) (s : S), lo ≤ t → t ≤ len → (len - t).toNat = n → I t s → ∃ s', I len s' ∧ L t s = L len s' := by
    intro n
    induction n with
    | zero =>
      intro t s h1 h2 hn h
      obtain rfl : t = len := by omega
      exact ⟨s, h, rfl⟩
    | succ n ih =>
      intro t s h1 h2 hn h
      obtain ⟨e, h3⟩ := hs t s h1 (by omega) h
      obtain ⟨s', h4, h5⟩ := ih (t + 1) _ (by omega) (by omega) (by omega) h3
      exact ⟨s', h4, e.trans h5⟩
  exact key _ lo s (Int.le_refl _) h0 rfl hI

theorem r1_Words_L4_spec {a b : List Int} (hl : a.length = b.length) : ∀ (n : Nat) (i : Int), 0 ≤ i → i ≤ a.length → (a.length - i).toNat = n → a.length ≤ 2305843009213693951 → (∀ j : Int, 0 ≤ j → j < i → ix a j = ix b j) → r1_Words_L4 a b i = some (decide (a = b)) := by
  intro n
  induction n with
  | zero =>
    intro i h0 h1 hn hs h
    rw [r1_Words_L4_eq]; unfold r1_Words_L4_B
    (try dsimp only); (repeat' first | (with_reducible refine G_to ?_ ?_; focus (first | omega | (unfold fits; omega) | (unfold room; (try simp only [List.length_append, List.length_cons, List.length_nil]); omega))) | (with_reducible refine both_to ?_ ?_) | (with_reducible refine itet_to ?_) | (with_reducible refine itef_to ?_) | (with_reducible refine ite_to (fun _ => ?_) (fun _ => ?_))) <;> try (exfalso; omega)
    · rw [Option.some_inj, eq_comm, decide_eq_true_iff]; exact ix_ext hl (fun j a b => h j a (by omega))
  | succ n ih =>
    intro i h0 h1 hn hs h
    rw [r1_Words_L4_eq]; unfold r1_Words_L4_B
    (try dsimp only); (repeat' first | (with_reducible refine G_to ?_ ?_; focus (first | omega | (unfold fits; omega) | (unfold room; (try simp only [List.length_append, List.length_cons, List.length_nil]); omega))) | (with_reducible refine both_to ?_ ?_) | (with_reducible refine itet_to ?_) | (with_reducible refine itef_to ?_) | (with_reducible refine ite_to (fun _ => ?_) (fun _ => ?_))) <;> try (exfalso; omega)
    · rw [Option.some_inj, eq_comm, decide_eq_false_iff_not]; rintro rfl; contradiction
    · rename_i hx; exact ih _ (by omega) (by omega) (by omega) hs (below_succ h (Decidable.not_not.1 hx))
theorem r1_Words_spec {a b : List Int} (hs : a.length ≤ 2305843009213693951) : r1_Words a b = some (decide (a = b)) := by
  unfold r1_Words
  (try dsimp only); (repeat' first | (with_reducible refine G_to ?_ ?_; focus (first | omega | (unfold fits; omega) | (unfold room; (try simp only [List.length_append, List.length_cons, List.length_nil]); omega))) | (with_reducible refine both_to ?_ ?_) | (with_reducible refine itet_to ?_) | (with_reducible refine itef_to ?_) | (with_reducible refine ite_to (fun _ => ?_) (fun _ => ?_))) <;> try (exfalso; omega)
  · rw [Option.some_inj, eq_comm, decide_eq_false_iff_not]; rintro rfl; contradiction
  · exact r1_Words_L4_spec (by omega) _ 0 (by omega) (by omega) rfl hs (fun j a b => by omega)

theorem slices_Clone_spec {s : List Int} (hs : s.length * 8 ≤ 140737488355328) : slices_Clone s = some s := by
  have hr : G (room ([] : List Int) s 8) (some (([] : List Int) ++ s)) = some s := by
    rw [G_pos (room_of (by simpa using hs))]; rfl
  unfold slices_Clone
  refine itep_to (fun h => ?_) (fun h => hr)
  obtain rfl : s = [] := List.length_eq_zero_iff.1 h
  rw [hr]; exact both_self (ts := [(.list (.int .i64))]) (some ([] : List Int))

theorem wrap_nat {n : Nat} (h : n < 9223372036854775808) : IntKind.wrap .i64 (n : Int) = n := by
  unfold IntKind.wrap
  simp [IntKind.bits, IntKind.signed]
  omega
theorem ofInt_nat (m : Nat) : BitVec.ofInt 64 (m : Int) = BitVec.ofNat 64 m := by
  apply BitVec.eq_of_toNat_eq; simp
theorem iand_nat {m n : Nat} (hm : m < 9223372036854775808) (hn : n < 9223372036854775808) : iand .i64 (m : Int) (n : Int) = ((m &&& n : Nat) : Int) := by
  unfold iand
  have h : (BitVec.ofInt IntKind.i64.bits (m : Int) &&& BitVec.ofInt IntKind.i64.bits (n : Int)).toNat = m &&& n := by
    show (BitVec.ofInt 64 (m : Int) &&& BitVec.ofInt 64 (n : Int)).toNat = m &&& n
    rw [ofInt_nat, ofInt_nat, BitVec.toNat_and, BitVec.toNat_ofNat, BitVec.toNat_ofNat, Nat.mod_eq_of_lt (by omega), Nat.mod_eq_of_lt (by omega)]
  rw [h, wrap_nat (Nat.lt_of_le_of_lt Nat.and_le_left hm)]
theorem ior_nat {m n : Nat} (hm : m < 9223372036854775808) (hn : n < 9223372036854775808) : ior .i64 (m : Int) (n : Int) = ((m ||| n : Nat) : Int) := by
  unfold ior
  have h : (BitVec.ofInt IntKind.i64.bits (m : Int) ||| BitVec.ofInt IntKind.i64.bits (n : Int)).toNat = m ||| n := by
    show (BitVec.ofInt 64 (m : Int) ||| BitVec.ofInt 64 (n : Int)).toNat = m ||| n
    rw [ofInt_nat, ofInt_nat, BitVec.toNat_or, BitVec.toNat_ofNat, BitVec.toNat_ofNat, Nat.mod_eq_of_lt (by omega), Nat.mod_eq_of_lt (by omega)]
  rw [h, wrap_nat (Nat.or_lt_two_pow (n := 63) hm hn)]
theorem ishl_nat {m k : Nat} (hk : k < 63) (h : m * 2 ^ k < 9223372036854775808) : ishl .i64 (m : Int) (k : Int) = ((m <<< k : Nat) : Int) := by
  unfold ishl
  have e : min ((k : Int).toNat) IntKind.i64.bits = k := by
    show min ((k : Int).toNat) 64 = k
    omega
  rw [e, Nat.shiftLeft_eq]
  have : (m : Int) * 2 ^ k = ((m * 2 ^ k : Nat) : Int) := by push_cast; rfl
  rw [this, wrap_nat h]
theorem ishr_nat {m k : Nat} (hk : k ≤ 64) : ishr .i64 (m : Int) (k : Int) = ((m >>> k : Nat) : Int) := by
  unfold ishr
  have e : min ((k : Int).toNat) IntKind.i64.bits = k := by
    show min ((k : Int).toNat) 64 = k
    omega
  rw [e, Nat.shiftRight_eq_div_pow, Int.fdiv_eq_ediv_of_nonneg _ (by exact_mod_cast Nat.zero_le _)]
  push_cast; rfl
/-- Bits: the q-th one is put. -/
theorem ior_bit {m q : Nat} (hm : m < 4611686018427387904) (hq : q < 62) : ior .i64 (m : Int) (ishl .i64 1 (q : Int)) = ((m ||| 2 ^ q : Nat) : Int) ∧ m ||| 2 ^ q < 4611686018427387904 := by
  have h2 : 2 ^ q < 4611686018427387904 := Nat.pow_lt_pow_right (a := 2) (n := 62) (by omega) hq
  have h1 : ishl .i64 1 (q : Int) = ((2 ^ q : Nat) : Int) := by
    have := ishl_nat (m := 1) (k := q) (by omega) (by omega)
    rw [Nat.shiftLeft_eq, Nat.one_mul] at this
    exact this
  rw [h1, ior_nat (by omega) (by omega)]
  exact ⟨rfl, Nat.or_lt_two_pow (n := 62) hm h2⟩

abbrev Arc := Int × Int × Int × Unit
abbrev Gr := Int × Int × (List Arc) × Unit
def SLt (x y : Arc) : Prop := x.1 < y.1 ∨ x.1 = y.1 ∧ (x.2.1 < y.2.1 ∨ x.2.1 = y.2.1 ∧ x.2.2.1 < y.2.2.1)
def GLet (g : Gr) : Prop := g.1 < 1 ∨ 4 < g.1
def GSize (g : Gr) : Prop := g.2.1 < 1 ∨ 12 < g.2.1 ∨ 60 < g.2.2.1.length
def ABad (g : Gr) (x : Arc) : Prop := x.1 < 0 ∨ g.2.1 ≤ x.1 ∨ x.2.2.1 < 0 ∨ g.2.1 ≤ x.2.2.1 ∨ x.2.1 < 0 ∨ g.1 ≤ x.2.1
def GBad (g : Gr) : Prop := ∃ x ∈ g.2.2.1, ABad g x
def GOrd (g : Gr) : Prop := ∃ i : Int, 1 ≤ i ∧ i < g.2.2.1.length ∧ ¬ SLt (ix g.2.2.1 (i - 1)) (ix g.2.2.1 i)
open Classical in
noncomputable def grE (g : Gr) : Int := if GLet g then 2 else if GSize g then 1 else if GBad g then 2 else if GOrd g then 3 else 0
theorem chk1 (p : Int) (g : Gr) : Tells (same_Check_1 p g) (p < 0 ∨ g.2.1 ≤ p) := by
  unfold same_Check_1
  by_cases h : p < 0
  · rw [if_pos (decide_eq_true h)]; exact Tells.of (by simp [h])
  · rw [if_neg (by simpa using h)]; exact Tells.dec (by omega)
theorem chk2 (x : Arc) (g : Gr) : ∃ b, same_Check_2 x g g = some (b, g) ∧ (b = true ↔ ABad g x) := by
  unfold same_Check_2 ABad
  obtain ⟨b, e, hb⟩ := chk1 x.1 g
  obtain ⟨c, e2, hc⟩ := chk1 x.2.2.1 g
  rw [e, e2]
  simp only [Option.bind_some]
  cases b with
  | true => exact ⟨true, rfl, by have := hb.1 rfl; simp; omega⟩
  | false =>
    have hb : ¬ (x.1 < 0 ∨ g.2.1 ≤ x.1) := fun h => by cases hb.2 h
    cases c with
    | true => exact ⟨true, rfl, by have := hc.1 rfl; simp; omega⟩
    | false =>
      have hc : ¬ (x.2.2.1 < 0 ∨ g.2.1 ≤ x.2.2.1) := fun h => by cases hc.2 h
      by_cases h : x.2.1 < 0
      · exact ⟨true, by simp [h], by simp; omega⟩
      · exact ⟨decide (g.1 ≤ x.2.1), by simp [h], by rw [decide_eq_true_iff]; omega⟩
theorem cmp_spec (x y : Int) : cmp_Compare x y = some (if x < y then -1 else if y < x then 1 else 0) := by
  unfold cmp_Compare cmp_isNaN
  simp only [Option.bind_some, not_true, decide_false, Bool.false_eq_true, if_false, decide_eq_true_eq]
  by_cases h : x < y
  · simp [h]
  · by_cases h2 : y < x <;> simp [h, h2]
theorem or_spec (a b c : Int) : cmp_Or [a, b, c] = some (if a ≠ 0 then a else if b ≠ 0 then b else c) := by
  unfold cmp_Or
  rw [cmp_Or_L3_eq]; unfold cmp_Or_L3_B
  have e0 : ix [a, b, c] 0 = a := rfl
  have e1 : ix [a, b, c] (0 + 1) = b := rfl
  have e2 : ix [a, b, c] (0 + 1 + 1) = c := rfl
  rw [if_pos (by simp), G_pos (by simp), e0]
  by_cases h : a = 0
  · rw [if_neg (by simp [h]), G_pos (by decide), cmp_Or_L3_eq]; unfold cmp_Or_L3_B
    rw [if_pos (by simp), G_pos (by simp), e1]
    by_cases h2 : b = 0
    · rw [if_neg (by simp [h2]), G_pos (by decide), cmp_Or_L3_eq]; unfold cmp_Or_L3_B
      rw [if_pos (by simp), G_pos (by simp), e2]
      by_cases h3 : c = 0
      · rw [if_neg (by simp [h3]), G_pos (by decide), cmp_Or_L3_eq]; unfold cmp_Or_L3_B
        rw [if_neg (by simp)]
        simp [h, h2, h3]
      · rw [if_pos (by simp [h3])]; simp [h, h2]
    · rw [if_pos (by simp [h2])]; simp [h, h2]
  · rw [if_pos (by simp [h])]; simp [h]
theorem order_spec (x y : Arc) : ∃ o, same_order x y = some o ∧ (0 ≤ o ↔ ¬ SLt x y) := by
  unfold same_order SLt
  rw [cmp_spec, cmp_spec, cmp_spec]
  simp only [Option.bind_some]
  rw [or_spec]
  refine ⟨_, rfl, ?_⟩
  repeat' split
  all_goals omega
theorem ahead_tells (x y : Arc) : Tells (r20_Ahead x y) (SLt x y) := by
  unfold r20_Ahead SLt
  by_cases h : x.1 = y.1
  · rw [if_neg (by simp [h])]
    by_cases h2 : x.2.1 = y.2.1
    · rw [if_neg (by simp [h2])]; exact Tells.dec (by omega)
    · rw [if_pos (by simp [h2])]; exact Tells.dec (by omega)
  · rw [if_pos (by simp [h])]; exact Tells.dec (by omega)
section
variable {g : Gr}
theorem same_Check_spec : same_Check g = some (grE g) := by
  unfold same_Check grE
  by_cases c1 : GLet g
  · rw [if_pos c1]; unfold GLet at c1
    (try dsimp only); (repeat' first | (with_reducible refine G_to ?_ ?_; focus (first | omega | (unfold fits; omega) | (unfold room; (try simp only [List.length_append, List.length_cons, List.length_nil]); omega))) | (with_reducible refine both_to ?_ ?_) | (with_reducible refine itet_to ?_) | (with_reducible refine itef_to ?_) | (with_reducible refine ite_to (fun _ => ?_) (fun _ => ?_))) <;> try (exfalso; omega)
    all_goals rfl
  rw [if_neg c1]; unfold GLet at c1
  by_cases c2 : GSize g
  · rw [if_pos c2]; unfold GSize at c2
    (try dsimp only); (repeat' first | (with_reducible refine G_to ?_ ?_; focus (first | omega | (unfold fits; omega) | (unfold room; (try simp only [List.length_append, List.length_cons, List.length_nil]); omega))) | (with_reducible refine both_to ?_ ?_) | (with_reducible refine itet_to ?_) | (with_reducible refine itef_to ?_) | (with_reducible refine ite_to (fun _ => ?_) (fun _ => ?_))) <;> try (exfalso; omega)
    all_goals rfl
  rw [if_neg c2]; unfold GSize at c2
  (try dsimp only); (repeat' first | (with_reducible refine G_to ?_ ?_; focus (first | omega | (unfold fits; omega) | (unfold room; (try simp only [List.length_append, List.length_cons, List.length_nil]); omega))) | (with_reducible refine both_to ?_ ?_) | (with_reducible refine itet_to ?_) | (with_reducible refine itef_to ?_) | (with_reducible refine ite_to (fun _ => ?_) (fun _ => ?_))) <;> try (exfalso; omega)
  obtain ⟨b, hb, hb2⟩ : ∃ b, slices_ContainsFunc g.2.2.1 g g = some (b, g) ∧ (b = true ↔ GBad g) :=
    contains_tells2 (f := fun x c => same_Check_2 x g c) (slices_IndexFunc_L2_eq g.2.2.1 g) (by omega) (fun x _ => chk2 x g)
  refine bind_to hb ?_
  refine iteb_to (fun h => by rw [if_pos (hb2.1 h)]) (fun h2 => ?_)
  have c3 : ¬ GBad g := fun h => by rw [hb2.2 h] at h2; cases h2
  rw [if_neg c3]
  refine scan_to (len := (g.2.2.1.length : Int)) (bad := fun i => 1 ≤ i ∧ ¬ SLt (ix g.2.2.1 (i - 1)) (ix g.2.2.1 i)) (by omega) (fun i h0 h1 => ⟨fun hb => ?_, fun hb => ?_⟩) (fun hh => ?_)
  · rw [if_pos (show GOrd g from ⟨i, hb.1, h1, hb.2⟩)]
    rw [same_Check_L9_eq]; unfold same_Check_L9_B
    (try dsimp only); (repeat' first | (with_reducible refine G_to ?_ ?_; focus (first | omega | (unfold fits; omega) | (unfold room; (try simp only [List.length_append, List.length_cons, List.length_nil]); omega))) | (with_reducible refine both_to ?_ ?_) | (with_reducible refine itet_to ?_) | (with_reducible refine itef_to ?_) | (with_reducible refine ite_to (fun _ => ?_) (fun _ => ?_))) <;> try (exfalso; omega)
    obtain ⟨o, e, ho⟩ := order_spec (ix g.2.2.1 (i - 1)) (ix g.2.2.1 i)
    refine bind_to e ?_
    rw [if_pos (decide_eq_true (ho.2 hb.2))]
  · conv => lhs; rw [same_Check_L9_eq]; unfold same_Check_L9_B
    by_cases h : 0 < i
    · (try dsimp only); (repeat' first | (with_reducible refine G_to ?_ ?_; focus (first | omega | (unfold fits; omega) | (unfold room; (try simp only [List.length_append, List.length_cons, List.length_nil]); omega))) | (with_reducible refine both_to ?_ ?_) | (with_reducible refine itet_to ?_) | (with_reducible refine itef_to ?_) | (with_reducible refine ite_to (fun _ => ?_) (fun _ => ?_))) <;> try (exfalso; omega)
      obtain ⟨o, e, ho⟩ := order_spec (ix g.2.2.1 (i - 1)) (ix g.2.2.1 i)
      refine bind_to e ?_
      rw [if_neg (by rw [decide_eq_true_iff, ho]; exact fun h => hb ⟨by omega, h⟩), G_pos (by unfold fits; omega)]
    · (try dsimp only); (repeat' first | (with_reducible refine G_to ?_ ?_; focus (first | omega | (unfold fits; omega) | (unfold room; (try simp only [List.length_append, List.length_cons, List.length_nil]); omega))) | (with_reducible refine both_to ?_ ?_) | (with_reducible refine itet_to ?_) | (with_reducible refine itef_to ?_) | (with_reducible refine ite_to (fun _ => ?_) (fun _ => ?_))) <;> try (exfalso; omega)
      all_goals rfl
  · rw [if_neg (show ¬ GOrd g from fun ⟨i, i0, i1, i2⟩ => hh i (by omega) i1 ⟨i0, i2⟩)]
    rw [same_Check_L9_eq]; unfold same_Check_L9_B
    rw [if_neg (by simp)]
theorem r20_Check_spec : r20_Check g = some (grE g) := by
  unfold r20_Check grE
  by_cases c1 : GLet g
  · rw [if_pos c1]; unfold GLet at c1
    (try dsimp only); (repeat' first | (with_reducible refine G_to ?_ ?_; focus (first | omega | (unfold fits; omega) | (unfold room; (try simp only [List.length_append, List.length_cons, List.length_nil]); omega))) | (with_reducible refine both_to ?_ ?_) | (with_reducible refine itet_to ?_) | (with_reducible refine itef_to ?_) | (with_reducible refine ite_to (fun _ => ?_) (fun _ => ?_))) <;> try (exfalso; omega)
    all_goals rfl
  rw [if_neg c1]; unfold GLet at c1
  by_cases c2 : GSize g
  · rw [if_pos c2]; unfold GSize at c2
    (try dsimp only); (repeat' first | (with_reducible refine G_to ?_ ?_; focus (first | omega | (unfold fits; omega) | (unfold room; (try simp only [List.length_append, List.length_cons, List.length_nil]); omega))) | (with_reducible refine both_to ?_ ?_) | (with_reducible refine itet_to ?_) | (with_reducible refine itef_to ?_) | (with_reducible refine ite_to (fun _ => ?_) (fun _ => ?_))) <;> try (exfalso; omega)
    all_goals rfl
  rw [if_neg c2]; unfold GSize at c2
  (try dsimp only); (repeat' first | (with_reducible refine G_to ?_ ?_; focus (first | omega | (unfold fits; omega) | (unfold room; (try simp only [List.length_append, List.length_cons, List.length_nil]); omega))) | (with_reducible refine both_to ?_ ?_) | (with_reducible refine itet_to ?_) | (with_reducible refine itef_to ?_) | (with_reducible refine ite_to (fun _ => ?_) (fun _ => ?_))) <;> try (exfalso; omega)
  refine scan_to (len := (g.2.2.1.length : Int)) (bad := fun i => ABad g (ix g.2.2.1 i)) (by omega) (fun i h0 h1 => ⟨fun hb => ?_, fun hb => ?_⟩) (fun hh => ?_)
  · rw [if_pos (show GBad g from ex_ix.2 ⟨i, h0, h1, hb⟩)]
    rw [r20_Check_L6_eq]; unfold r20_Check_L6_B
    unfold ABad at hb
    (try dsimp only); (repeat' first | (with_reducible refine G_to ?_ ?_; focus (first | omega | (unfold fits; omega) | (unfold room; (try simp only [List.length_append, List.length_cons, List.length_nil]); omega))) | (with_reducible refine both_to ?_ ?_) | (with_reducible refine itet_to ?_) | (with_reducible refine itef_to ?_) | (with_reducible refine ite_to (fun _ => ?_) (fun _ => ?_))) <;> try (exfalso; omega)
    all_goals rfl
  · conv => lhs; rw [r20_Check_L6_eq]; unfold r20_Check_L6_B
    unfold ABad at hb
    (try dsimp only); (repeat' first | (with_reducible refine G_to ?_ ?_; focus (first | omega | (unfold fits; omega) | (unfold room; (try simp only [List.length_append, List.length_cons, List.length_nil]); omega))) | (with_reducible refine both_to ?_ ?_) | (with_reducible refine itet_to ?_) | (with_reducible refine itef_to ?_) | (with_reducible refine ite_to (fun _ => ?_) (fun _ => ?_))) <;> try (exfalso; omega)
    all_goals rfl
  rw [if_neg (show ¬ GBad g from fun h => by obtain ⟨i, i0, i1, i2⟩ := ex_ix.1 h; exact hh i i0 i1 i2)]
  rw [r20_Check_L6_eq]; unfold r20_Check_L6_B
  rw [if_neg (by simp)]
  by_cases c4 : g.2.2.1.length = 0
  · rw [if_neg (show ¬ GOrd g from fun ⟨i, i0, i1, i2⟩ => by omega)]
    rw [r20_Check_L12_eq]; unfold r20_Check_L12_B
    rw [if_neg (by simp; omega)]
  refine scan_to (len := (g.2.2.1.length : Int)) (bad := fun i => ¬ SLt (ix g.2.2.1 (i - 1)) (ix g.2.2.1 i)) (by omega) (fun i h0 h1 => ⟨fun hb => ?_, fun hb => ?_⟩) (fun hh => ?_)
  · rw [if_pos (show GOrd g from ⟨i, h0, h1, hb⟩)]
    rw [r20_Check_L12_eq]; unfold r20_Check_L12_B
    (try dsimp only); (repeat' first | (with_reducible refine G_to ?_ ?_; focus (first | omega | (unfold fits; omega) | (unfold room; (try simp only [List.length_append, List.length_cons, List.length_nil]); omega))) | (with_reducible refine both_to ?_ ?_) | (with_reducible refine itet_to ?_) | (with_reducible refine itef_to ?_) | (with_reducible refine ite_to (fun _ => ?_) (fun _ => ?_))) <;> try (exfalso; omega)
    obtain ⟨o, e, ho⟩ := ahead_tells (ix g.2.2.1 (i - 1)) (ix g.2.2.1 i)
    refine bind_to e ?_
    rw [if_pos (by cases o; rfl; exact absurd (ho.1 rfl) hb)]
  · conv => lhs; rw [r20_Check_L12_eq]; unfold r20_Check_L12_B
    (try dsimp only); (repeat' first | (with_reducible refine G_to ?_ ?_; focus (first | omega | (unfold fits; omega) | (unfold room; (try simp only [List.length_append, List.length_cons, List.length_nil]); omega))) | (with_reducible refine both_to ?_ ?_) | (with_reducible refine itet_to ?_) | (with_reducible refine itef_to ?_) | (with_reducible refine ite_to (fun _ => ?_) (fun _ => ?_))) <;> try (exfalso; omega)
    obtain ⟨o, e, ho⟩ := ahead_tells (ix g.2.2.1 (i - 1)) (ix g.2.2.1 i)
    refine bind_to e ?_
    rw [if_neg (by rw [ho.2 (Classical.not_not.1 hb)]; decide), G_pos (by unfold fits; omega)]
  · rw [if_neg (show ¬ GOrd g from fun ⟨i, i0, i1, i2⟩ => hh i (by omega) i1 i2)]
    rw [r20_Check_L12_eq]; unfold r20_Check_L12_B
    rw [if_neg (by simp)]
end

structure GrOk (g : Gr) : Prop where
  l : 1 ≤ g.1 ∧ g.1 ≤ 4
  n : 1 ≤ g.2.1 ∧ g.2.1 ≤ 12
  a : g.2.2.1.length ≤ 60
  x : ∀ x ∈ g.2.2.1, 0 ≤ x.1 ∧ x.1 < g.2.1 ∧ 0 ≤ x.2.2.1 ∧ x.2.2.1 < g.2.1 ∧ 0 ≤ x.2.1 ∧ x.2.1 < g.1
theorem grE_zero {g : Gr} (h : grE g = 0) : GrOk g := by
  unfold grE at h
  split at h
  · cases h
  split at h
  · cases h
  split at h
  · cases h
  rename_i c1 c2 c3
  unfold GLet at c1; unfold GSize at c2
  refine ⟨by omega, by omega, by omega, fun x hx => ?_⟩
  have : ¬ ABad g x := fun h => c3 ⟨x, hx, h⟩
  unfold ABad at this
  omega
/-- Whatever leads from p is answered from q. -/
def Ans (g : Gr) (R : Int → Int → Prop) (p q : Int) : Prop := ∀ x ∈ g.2.2.1, x.1 = p → ∃ y ∈ g.2.2.1, y.1 = q ∧ y.2.1 = x.2.1 ∧ R x.2.2.1 y.2.2.1
def cE (c : List Int) (p q : Int) : Prop := ix c p = ix c q
def tE (t : List (List Bool)) (p q : Int) : Prop := ix (ix t p) q = true
section
variable {g : Gr}
theorem Ans.mono {R S : Int → Int → Prop} {n : Int} (hx : ∀ x ∈ g.2.2.1, 0 ≤ x.2.2.1 ∧ x.2.2.1 < n) (h : ∀ a b : Int, 0 ≤ a → a < n → 0 ≤ b → b < n → R a b → S a b) {p q : Int} (k : Ans g R p q) : Ans g S p q := by
  intro x hx' hp
  obtain ⟨y, hy, h1, h2, h3⟩ := k x hx' hp
  exact ⟨y, hy, h1, h2, h _ _ (hx x hx').1 (hx x hx').2 (hx y hy).1 (hx y hy).2 h3⟩
theorem answered_of {C : Type} {c : C} {R : Int → Int → Prop} {A : Int → Option Bool} {F : Arc → C → Option (Bool × C)} {p q : Int} (ha : g.2.2.1.length ≤ 60)
    (hF : ∀ x ∈ g.2.2.1, ∃ b, F x c = some (b, c) ∧ (b = true ↔ ∃ y ∈ g.2.2.1, y.1 = q ∧ y.2.1 = x.2.1 ∧ R x.2.2.1 y.2.2.1))
    (hA : ∀ t : Int, 0 ≤ t → t < g.2.2.1.length → A t = if (ix g.2.2.1 t).1 = p then (F (ix g.2.2.1 t) c).bind (fun y => if (!y.1) = true then some false else A (t + 1)) else A (t + 1)) (hE : A g.2.2.1.length = some true) : Tells (A 0) (Ans g R p q) := by
  by_cases h : Ans g R p q
  · refine ⟨true, ?_, fun _ => h, fun _ => rfl⟩
    refine scan_to (len := g.2.2.1.length) (bad := fun _ => False) (by omega) (fun t t0 t1 => ⟨fun h => h.elim, fun _ => ?_⟩) (fun _ => hE)
    rw [hA t t0 t1]
    by_cases c1 : (ix g.2.2.1 t).1 = p
    · rw [if_pos c1]
      obtain ⟨b, e, hb⟩ := hF _ (ix_mem t0 t1)
      have : b = true := hb.2 (h _ (ix_mem t0 t1) c1)
      rw [e, this]; rfl
    · rw [if_neg c1]
  · refine ⟨false, ?_, fun e => (by cases e), fun k => absurd k h⟩
    refine scan_to (len := g.2.2.1.length) (bad := fun t => (ix g.2.2.1 t).1 = p ∧ ¬ ∃ y ∈ g.2.2.1, y.1 = q ∧ y.2.1 = (ix g.2.2.1 t).2.1 ∧ R (ix g.2.2.1 t).2.2.1 y.2.2.1) (by omega) (fun t t0 t1 => ?_) (fun hh => ?_)
    · obtain ⟨b, e, hb⟩ := hF _ (ix_mem t0 t1)
      constructor
      · rintro ⟨h1, h2⟩
        rw [hA t t0 t1, if_pos h1, e]
        have : b = false := by cases b; rfl; exact absurd (hb.1 rfl) h2
        rw [this]; rfl
      · intro hn
        rw [hA t t0 t1]
        by_cases c1 : (ix g.2.2.1 t).1 = p
        · rw [if_pos c1, e]
          have : b = true := by
            cases b with
            | true => rfl
            | false => exact absurd ⟨c1, fun h => by cases hb.2 h⟩ hn
          rw [this]; rfl
        · rw [if_neg c1]
    · refine absurd (fun x hx hp => ?_) h
      obtain ⟨t, t0, t1, rfl⟩ := ex_ix (P := fun y => y = x).1 ⟨x, hx, rfl⟩
      exact Classical.byContradiction fun hn => hh t t0 t1 ⟨hp, hn⟩
end

section
variable {g : Gr}
theorem rounds1_tells {c : List Int} {a b : Int} (a0 : 0 ≤ a) (a1 : a < c.length) (b0 : 0 ≤ b) (b1 : b < c.length) : Tells (same_rounds_1 a b c) (cE c a b) := by
  unfold same_rounds_1
  rw [G_pos ⟨a0, a1⟩, G_pos ⟨b0, b1⟩]; exact Tells.dec Iff.rfl
theorem f1c_tells (ok : GrOk g) {c : List Int} (hc : (c.length : Int) = g.2.1) {q : Int} {x : Arc} (hx : x ∈ g.2.2.1) : ∃ b, slices_ContainsFunc_1 g.2.2.1 q x c = some (b, c) ∧ (b = true ↔ ∃ y ∈ g.2.2.1, y.1 = q ∧ y.2.1 = x.2.1 ∧ cE c x.2.2.1 y.2.2.1) := by
  have ha := ok.a
  refine contains_tells2 (f := fun y c => same_answered_1 y q x c) (P := fun y => y.1 = q ∧ y.2.1 = x.2.1 ∧ cE c x.2.2.1 y.2.2.1) (L := fun t c => slices_IndexFunc_2_L2 g.2.2.1 q x t c) (fun t c => slices_IndexFunc_2_L2_eq g.2.2.1 q x t c) (by omega) (fun y hy => ?_)
  have h1 := ok.x x hx
  have h2 := ok.x y hy
  show ∃ b, same_answered_1 y q x c = some (b, c) ∧ _
  unfold same_answered_1
  by_cases c1 : y.1 = q
  · rw [if_pos (decide_eq_true c1)]
    by_cases c2 : y.2.1 = x.2.1
    · rw [if_pos (decide_eq_true c2)]
      obtain ⟨b, e, hb⟩ := rounds1_tells (c := c) (a := x.2.2.1) (b := y.2.2.1) (by omega) (by omega) (by omega) (by omega)
      exact ⟨b, bind_to e rfl, by rw [hb]; exact ⟨fun h => ⟨c1, c2, h⟩, fun h => h.2.2⟩⟩
    · rw [if_neg (by simpa using c2)]; exact ⟨false, rfl, fun h => (by cases h), fun h => absurd h.2.1 c2⟩
  · rw [if_neg (by simpa using c1)]; exact ⟨false, rfl, fun h => (by cases h), fun h => absurd h.1 c1⟩
theorem answered_tells (ok : GrOk g) {c : List Int} (hc : (c.length : Int) = g.2.1) {p q : Int} : Tells (same_answered g p q c) (Ans g (cE c) p q) := by
  have ha := ok.a
  refine answered_of (C := List Int) (c := c) (A := fun t => same_answered_L2 g p q t c) (F := fun x c => slices_ContainsFunc_1 g.2.2.1 q x c) ha (fun x hx => f1c_tells ok hc hx) (fun t t0 t1 => ?_) ?_
  · show same_answered_L2 g p q t c = if _ then (slices_ContainsFunc_1 g.2.2.1 q (ix g.2.2.1 t) c).bind _ else same_answered_L2 g p q (t + 1) c
    conv => lhs; rw [same_answered_L2_eq]; unfold same_answered_L2_B
    rw [if_pos (decide_eq_true t1), G_pos (by omega)]
    have hf : fits (t + 1) := by unfold fits; omega
    by_cases c1 : (ix g.2.2.1 t).1 = p
    · rw [if_pos (decide_eq_true c1), if_pos c1]
      obtain ⟨b, e, hb⟩ := f1c_tells (q := q) ok hc (ix_mem t0 t1)
      have e' : slices_ContainsFunc_1 g.2.2.1 q ((ix g.2.2.1 t).1, ((ix g.2.2.1 t).2.1, ((ix g.2.2.1 t).2.2.1, ()))) c = some (b, c) := e
      rw [e']
      simp only [Option.bind_some, G_pos hf]
    · rw [if_neg (by simpa using c1), if_neg c1, G_pos hf]
  · show same_answered_L2 g p q g.2.2.1.length c = _
    rw [same_answered_L2_eq]; unfold same_answered_L2_B
    rw [if_neg (by simp)]
/-- One round more. -/
def Fin (g : Gr) (c : List Int) (p q : Int) : Prop := cE c p q ∧ Ans g (cE c) p q ∧ Ans g (cE c) q p
theorem rounds2_tells (ok : GrOk g) {c : List Int} (hc : (c.length : Int) = g.2.1) {p q : Int} (p0 : 0 ≤ p) (p1 : p < g.2.1) (q0 : 0 ≤ q) (q1 : q < g.2.1) : ∃ b, same_rounds_2 q c p g c = some (b, c) ∧ (b = true ↔ Fin g c p q) := by
  unfold same_rounds_2
  rw [G_pos (by omega), G_pos (by omega)]
  by_cases c1 : ix c p = ix c q
  · rw [if_pos (decide_eq_true c1)]
    obtain ⟨b1, e1, h1⟩ := answered_tells (p := p) (q := q) ok hc
    obtain ⟨b2, e2, h2⟩ := answered_tells (p := q) (q := p) ok hc
    rw [e1, e2]
    cases b1 with
    | true => exact ⟨b2, by rfl, by rw [h2]; exact ⟨fun h => ⟨c1, h1.1 rfl, h⟩, fun h => h.2.2⟩⟩
    | false => exact ⟨false, rfl, fun h => (by cases h), fun h => by cases h1.2 h.2.1⟩
  · rw [if_neg (by simpa using c1)]; exact ⟨false, rfl, fun h => (by cases h), fun h => absurd h.1 c1⟩
theorem index3_spec (ok : GrOk g) {c : List Int} (hc : (c.length : Int) = g.2.1) {p : Int} (p0 : 0 ≤ p) (p1 : p < g.2.1) {F : List Int} (hF : ∀ q ∈ F, 0 ≤ q ∧ q < g.2.1) (hl : F.length ≤ 12) :
    ∃ i, slices_IndexFunc_3 c p g F c = some (i, F, c) ∧ ((i = -1 ∧ ∀ j : Int, 0 ≤ j → j < F.length → ¬ Fin g c p (ix F j)) ∨ (0 ≤ i ∧ i < F.length ∧ Fin g c p (ix F i))) := by
  have key : ∀ (m : Nat) (t : Int), 0 ≤ t → t + m = F.length → (∀ j : Int, 0 ≤ j → j < t → ¬ Fin g c p (ix F j)) →
      ∃ i, slices_IndexFunc_3_L2 F c p g t c = some (i, F, c) ∧ ((i = -1 ∧ ∀ j : Int, 0 ≤ j → j < F.length → ¬ Fin g c p (ix F j)) ∨ (0 ≤ i ∧ i < F.length ∧ Fin g c p (ix F i))) := by
    intro m
    induction m with
    | zero =>
      intro t t0 ht h
      refine ⟨-1, ?_, .inl ⟨rfl, fun j j0 j1 => h j j0 (by omega)⟩⟩
      rw [slices_IndexFunc_3_L2_eq]; unfold slices_IndexFunc_3_L2_B
      rw [if_neg (by simp only [decide_eq_true_eq]; omega)]
    | succ m ih =>
      intro t t0 ht h
      have hq := hF _ (ix_mem t0 (by omega : t < F.length))
      obtain ⟨b, e, hb⟩ := rounds2_tells ok hc p0 p1 hq.1 hq.2
      conv => arg 1; ext i; lhs; lhs; rw [slices_IndexFunc_3_L2_eq]; unfold slices_IndexFunc_3_L2_B
      rw [if_pos (decide_eq_true (by omega)), G_pos (by omega), G_pos (by omega), e]
      cases b with
      | true => exact ⟨t, rfl, .inr ⟨t0, by omega, hb.1 rfl⟩⟩
      | false =>
        obtain ⟨i, e2, h2⟩ := ih (t + 1) (by omega) (by omega) (fun j j0 j1 => by
          by_cases ej : j = t
          · rw [ej]; exact fun h => by cases hb.2 h
          · exact h j j0 (by omega))
        refine ⟨i, ?_, h2⟩
        show (if false = true then some (t, F, c) else G (fits (t + 1)) (slices_IndexFunc_3_L2 F c p g (t + 1) c)) = _
        rw [if_neg (by decide), G_pos (by unfold fits; omega)]
        exact e2
  exact key F.length 0 (by omega) (by omega) (fun j j0 j1 => by omega)
end
/- numbers in order of coming -/
open Classical in
/-- How many are new below. -/
noncomputable def news (E : Int → Int → Prop) : Nat → Int
  | 0 => 0
  | k + 1 => news E k + (if ∃ q : Int, 0 ≤ q ∧ q < k ∧ E k q then 0 else 1)
/-- Numbers in order: that of what is alike ahead, or the next one. -/
def Can (E : Int → Int → Prop) (c : List Int) (t : Int) : Prop := ∀ p : Int, 0 ≤ p → p < t → (∀ q : Int, 0 ≤ q → q < p → E p q → ix c p = ix c q) ∧ ((¬ ∃ q : Int, 0 ≤ q ∧ q < p ∧ E p q) → ix c p = news E p.toNat)
section
variable {E E' : Int → Int → Prop} {n : Int}
theorem Can.one {c d : List Int} (h : Can E c n) (k : Can E d n) : ∀ (m : Nat) (p : Int), 0 ≤ p → p < n → p < m → ix c p = ix d p
  | 0, p, p0, _, p2 => by omega
  | m + 1, p, p0, p1, p2 => by
    obtain ⟨h1, h2⟩ := h p p0 p1
    obtain ⟨k1, k2⟩ := k p p0 p1
    by_cases e : ∃ q : Int, 0 ≤ q ∧ q < p ∧ E p q
    · obtain ⟨q, q0, q1, q2⟩ := e
      rw [h1 q q0 q1 q2, k1 q q0 q1 q2]
      exact Can.one h k m q q0 (by omega) (by omega)
    · rw [h2 e, k2 e]
open Classical in
theorem news_congr : ∀ k : Nat, (∀ p q : Int, 0 ≤ p → p < k → 0 ≤ q → q < k → (E p q ↔ E' p q)) → news E k = news E' k
  | 0, _ => rfl
  | k + 1, h => by
    unfold news
    rw [news_congr k (fun p q p0 p1 q0 q1 => h p q p0 (by omega) q0 (by omega))]
    have : (∃ q : Int, 0 ≤ q ∧ q < k ∧ E k q) ↔ ∃ q : Int, 0 ≤ q ∧ q < k ∧ E' k q :=
      ⟨fun ⟨q, q0, q1, e⟩ => ⟨q, q0, q1, (h k q (by omega) (by omega) q0 (by omega)).1 e⟩, fun ⟨q, q0, q1, e⟩ => ⟨q, q0, q1, (h k q (by omega) (by omega) q0 (by omega)).2 e⟩⟩
    by_cases c : ∃ q : Int, 0 ≤ q ∧ q < k ∧ E k q
    · rw [if_pos c, if_pos (this.1 c)]
    · rw [if_neg c, if_neg (fun h => c (this.2 h))]
theorem Can.congr {c : List Int} (h : Can E c n) (he : ∀ p q : Int, 0 ≤ p → p < n → 0 ≤ q → q < n → (E p q ↔ E' p q)) : Can E' c n := by
  intro p p0 p1
  obtain ⟨h1, h2⟩ := h p p0 p1
  refine ⟨fun q q0 q1 e => h1 q q0 q1 ((he p q p0 p1 q0 (by omega)).2 e), fun hn => ?_⟩
  rw [h2 (fun ⟨q, q0, q1, e⟩ => hn ⟨q, q0, q1, (he p q p0 p1 q0 (by omega)).1 e⟩)]
  exact news_congr _ (fun a b a0 a1 b0 b1 => he a b a0 (by omega) b0 (by omega))
theorem news_b : ∀ k : Nat, 0 ≤ news E k ∧ news E k ≤ k ∧ (0 < k → 1 ≤ news E k)
  | 0 => ⟨by simp [news], by simp [news], fun h => by omega⟩
  | k + 1 => by
    obtain ⟨h1, h2, h3⟩ := news_b k
    unfold news
    refine ⟨by split <;> omega, by split <;> omega, fun _ => ?_⟩
    by_cases c : k = 0
    · subst c
      rw [if_neg (fun ⟨q, q0, q1, _⟩ => by omega)]; omega
    · split <;> omega
/-- All numbers below come. -/
theorem Can.rng {c : List Int} (h : Can E c n) : ∀ (k : Nat), k ≤ n → (∀ p : Int, 0 ≤ p → p < k → 0 ≤ ix c p ∧ ix c p < news E k) ∧ (0 < k → ∃ p : Int, 0 ≤ p ∧ p < k ∧ ix c p = news E k - 1)
  | 0, _ => ⟨fun p p0 p1 => by omega, fun h => by omega⟩
  | k + 1, hk => by
    obtain ⟨h1, h2⟩ := Can.rng h k (by omega)
    obtain ⟨c1, c2⟩ := h k (by omega) (by omega)
    have hb := news_b (E := E) k
    unfold news
    by_cases e : ∃ q : Int, 0 ≤ q ∧ q < k ∧ E k q
    · rw [if_pos e]
      obtain ⟨q, q0, q1, q2⟩ := e
      have hq := h1 q q0 q1
      have hc := c1 q q0 q1 q2
      refine ⟨fun p p0 p1 => ?_, fun _ => ?_⟩
      · by_cases ep : p = k
        · rw [ep, hc]; omega
        · have := h1 p p0 (by omega); omega
      · obtain ⟨p, p0, p1, p2⟩ := h2 (by omega)
        exact ⟨p, p0, by omega, by omega⟩
    · rw [if_neg e]
      have hc := c2 e
      rw [Int.toNat_natCast] at hc
      refine ⟨fun p p0 p1 => ?_, fun _ => ⟨k, by omega, by omega, by omega⟩⟩
      by_cases ep : p = k
      · rw [ep, hc]; omega
      · have := h1 p p0 (by omega); omega
structure Eqv (n : Int) (E : Int → Int → Prop) : Prop where
  r : ∀ p : Int, 0 ≤ p → p < n → E p p
  s : ∀ p q : Int, 0 ≤ p → p < n → 0 ≤ q → q < n → E p q → E q p
  t : ∀ p q r : Int, 0 ≤ p → p < n → 0 ≤ q → q < n → 0 ≤ r → r < n → E p q → E q r → E p r
open Classical in
theorem news_le (hs : ∀ p q : Int, 0 ≤ p → p < n → 0 ≤ q → q < n → E p q → E' p q) : ∀ k : Nat, k ≤ n → news E' k ≤ news E k
  | 0, _ => Int.le_refl _
  | k + 1, hk => by
    have := news_le hs k (by omega)
    unfold news
    by_cases c : ∃ q : Int, 0 ≤ q ∧ q < k ∧ E k q
    · obtain ⟨q, q0, q1, q2⟩ := c
      rw [if_pos (⟨q, q0, q1, hs k q (by omega) (by omega) q0 (by omega) q2⟩ : ∃ q : Int, 0 ≤ q ∧ q < k ∧ E' k q), if_pos (⟨q, q0, q1, q2⟩ : ∃ q : Int, 0 ≤ q ∧ q < k ∧ E k q)]; omega
    · rw [if_neg (c := ∃ q : Int, 0 ≤ q ∧ q < k ∧ E k q) c]; split <;> omega
open Classical in
/-- As many classes: the same classes. -/
theorem news_same (hE : Eqv n E) (hE' : Eqv n E') (hs : ∀ p q : Int, 0 ≤ p → p < n → 0 ≤ q → q < n → E p q → E' p q) : ∀ k : Nat, k ≤ n → news E' k = news E k → ∀ p q : Int, 0 ≤ p → p < k → 0 ≤ q → q < k → E' p q → E p q
  | 0, _, _, p, q, p0, p1, _, _, _ => by omega
  | k + 1, hk, h, p, q, p0, p1, q0, q1, e => by
    have hl := news_le hs k (by omega)
    unfold news at h
    have himp : (∃ q : Int, 0 ≤ q ∧ q < k ∧ E k q) → ∃ q : Int, 0 ≤ q ∧ q < k ∧ E' k q := fun ⟨q, q0, q1, e⟩ => ⟨q, q0, q1, hs k q (by omega) (by omega) q0 (by omega) e⟩
    have hk2 : news E' k = news E k ∧ ((∃ q : Int, 0 ≤ q ∧ q < k ∧ E' k q) → ∃ q : Int, 0 ≤ q ∧ q < k ∧ E k q) := by
      by_cases c : ∃ q : Int, 0 ≤ q ∧ q < k ∧ E k q
      · rw [if_pos c, if_pos (himp c)] at h
        exact ⟨by omega, fun _ => c⟩
      · rw [if_neg c] at h
        by_cases c' : ∃ q : Int, 0 ≤ q ∧ q < k ∧ E' k q
        · rw [if_pos c'] at h; omega
        · rw [if_neg c'] at h; exact ⟨by omega, fun h => absurd h c'⟩
    have ih := news_same hE hE' hs k (by omega) hk2.1
    have last : ∀ q : Int, 0 ≤ q → q < k → E' k q → E k q := by
      intro q q0 q1 e
      obtain ⟨r, r0, r1, er⟩ := hk2.2 ⟨q, q0, q1, e⟩
      have er' := hs k r (by omega) (by omega) r0 (by omega) er
      have h1 : E' r q := hE'.t r k q r0 (by omega) (by omega) (by omega) q0 (by omega) (hE'.s k r (by omega) (by omega) r0 (by omega) er') e
      exact hE.t k r q (by omega) (by omega) r0 (by omega) q0 (by omega) er (ih r q r0 r1 q0 q1 h1)
    by_cases ep : p = k
    · by_cases eq : q = k
      · rw [ep, eq]; exact hE.r k (by omega) (by omega)
      · rw [ep] at e ⊢; exact last q q0 (by omega) e
    · by_cases eq : q = k
      · rw [eq] at e ⊢
        exact hE.s k p (by omega) (by omega) p0 (by omega) (last p p0 (by omega) (hE'.s p k p0 (by omega) (by omega) (by omega) e))
      · exact ih p q p0 (by omega) q0 (by omega) e
end
section
variable {g : Gr}
theorem fin_eqv (ok : GrOk g) (c : List Int) : Eqv g.2.1 (Fin g c) := by
  refine ⟨fun p _ _ => ⟨rfl, fun x hx h => ⟨x, hx, h, rfl, rfl⟩, fun x hx h => ⟨x, hx, h, rfl, rfl⟩⟩, fun p q _ _ _ _ h => ⟨h.1.symm, h.2.2, h.2.1⟩, fun p q r _ _ _ _ _ _ h k => ⟨h.1.trans k.1, ?_, ?_⟩⟩
  · intro x hx hp
    obtain ⟨y, hy, y1, y2, y3⟩ := h.2.1 x hx hp
    obtain ⟨z, hz, z1, z2, z3⟩ := k.2.1 y hy y1
    exact ⟨z, hz, z1, z2.trans y2, y3.trans z3⟩
  · intro x hx hp
    obtain ⟨y, hy, y1, y2, y3⟩ := k.2.2 x hx hp
    obtain ⟨z, hz, z1, z2, z3⟩ := h.2.2 y hy y1
    exact ⟨z, hz, z1, z2.trans y2, y3.trans z3⟩
theorem cE_eqv {n : Int} (c : List Int) : Eqv n (cE c) := ⟨fun _ _ _ => rfl, fun _ _ _ _ _ _ h => Eq.symm h, fun _ _ _ _ _ _ _ _ _ h k => Eq.trans h k⟩
/-- The numbers of a round so far. -/
structure RI (g : Gr) (c : List Int) (t : Int) (nx F : List Int) : Prop where
  ln : (nx.length : Int) = g.2.1
  lf : (F.length : Int) = news (Fin g c) t.toNat
  f : ∀ i : Int, 0 ≤ i → i < F.length → 0 ≤ ix F i ∧ ix F i < t ∧ ix nx (ix F i) = i
  p : ∀ p : Int, 0 ≤ p → p < t → 0 ≤ ix nx p ∧ ix nx p < F.length ∧ Fin g c p (ix F (ix nx p))
  can : Can (Fin g c) nx t
  iff : ∀ p q : Int, 0 ≤ p → p < t → 0 ≤ q → q < t → (ix nx p = ix nx q ↔ Fin g c p q)
theorem max_spec {l : List Int} (hl : 1 ≤ l.length) (h2 : l.length ≤ 1000000) : ∃ m, slices_Max l = some m ∧ (∀ p : Int, 0 ≤ p → p < l.length → ix l p ≤ m) ∧ ∃ p : Int, 0 ≤ p ∧ p < l.length ∧ ix l p = m := by
  have key : ∀ (f : Nat) (t m : Int), 1 ≤ t → t + f = l.length → (∀ p : Int, 0 ≤ p → p < t → ix l p ≤ m) → (∃ p : Int, 0 ≤ p ∧ p < l.length ∧ ix l p = m) →
      ∃ m', slices_Max_L5 l m t = some m' ∧ (∀ p : Int, 0 ≤ p → p < l.length → ix l p ≤ m') ∧ ∃ p : Int, 0 ≤ p ∧ p < l.length ∧ ix l p = m' := by
    intro f
    induction f with
    | zero =>
      intro t m t0 ht h h'
      refine ⟨m, ?_, fun p p0 p1 => h p p0 (by omega), h'⟩
      rw [slices_Max_L5_eq]; unfold slices_Max_L5_B
      rw [if_neg (by simp only [decide_eq_true_eq]; omega)]
    | succ f ih =>
      intro t m t0 ht h h'
      conv => arg 1; ext m'; lhs; lhs; rw [slices_Max_L5_eq]; unfold slices_Max_L5_B
      rw [if_pos (decide_eq_true (by omega)), G_pos (by omega), G_pos (by unfold fits; omega)]
      unfold imax
      by_cases c : m < ix l t
      · rw [if_pos c]
        refine ih (t + 1) _ (by omega) (by omega) (fun p p0 p1 => ?_) ⟨t, by omega, by omega, rfl⟩
        by_cases e : p = t
        · rw [e]; exact Int.le_refl _
        · have := h p p0 (by omega); omega
      · rw [if_neg c]
        refine ih (t + 1) _ (by omega) (by omega) (fun p p0 p1 => ?_) h'
        by_cases e : p = t
        · rw [e]; omega
        · exact h p p0 (by omega)
  unfold slices_Max
  rw [if_neg (by simp only [decide_eq_true_eq]; omega), G_pos (by omega)]
  refine key (l.length - 1) 1 (ix l 0) (by omega) (by omega) (fun p p0 p1 => ?_) ⟨0, by omega, by omega, rfl⟩
  rw [show p = 0 by omega]; exact Int.le_refl _
theorem round_step (ok : GrOk g) {L : List (List Int)} {c : List Int} (hL : ix L ((L.length : Int) - 1) = c) (hL1 : 1 ≤ L.length ∧ L.length ≤ 1000) (hc : (c.length : Int) = g.2.1) {r2 : Gr → List (List Int) → Option (List (List Int))} : ∀ (m : Nat) (t : Int) (nx F : List Int), 0 ≤ t → t + m = g.2.1 → RI g c t nx F →
    ∃ nx' F', same_rounds_L7 g L r2 g t c nx F = same_rounds_L7 g L r2 g g.2.1 c nx' F' ∧ RI g c g.2.1 nx' F' := by
  have hn := ok.n
  intro m
  induction m with
  | zero =>
    intro t nx F t0 ht h
    obtain rfl : t = g.2.1 := by omega
    exact ⟨nx, F, rfl, h⟩
  | succ m ih =>
    intro t nx F t0 ht h
    have hln := h.ln; have hlf := h.lf
    have hnb := news_b (E := Fin g c) t.toNat
    have hE := fin_eqv ok c
    obtain ⟨i, ei, hi⟩ := index3_spec ok hc t0 (by omega) (F := F) (fun q hq => by
      obtain ⟨j, j0, j1, rfl⟩ := ex_ix (P := fun y => y = q).1 ⟨q, hq, rfl⟩
      have := h.f j j0 j1; omega) (by omega)
    have hJ : ∀ k F1, same_rounds_J12 g t nx (same_rounds_L7 g L r2) c k F1 = same_rounds_L7 g L r2 g (t + 1) c (nx.set t.toNat k) F1 := by
      intro k F1
      unfold same_rounds_J12
      rw [G_pos (by omega), G_pos (by omega), G_pos (by unfold fits; omega)]
    have hrep : (List.replicate (g.2.1).toNat (0 : Int)).length = g.2.1.toNat := List.length_replicate
    have ht1 : (t + 1).toNat = t.toNat + 1 := by omega
    have htt : ((t.toNat : Nat) : Int) = t := by omega
    have e0 : ∀ X, same_rounds_L7_B g L r2 (same_rounds_L7 g L r2) g t c nx F = X → same_rounds_L7 g L r2 g t c nx F = X := fun X h => by rw [same_rounds_L7_eq]; exact h
    -- what is new
    have hold : (∃ q : Int, 0 ≤ q ∧ q < t ∧ Fin g c t q) ↔ ∃ j : Int, 0 ≤ j ∧ j < F.length ∧ Fin g c t (ix F j) := by
      constructor
      · rintro ⟨q, q0, q1, q2⟩
        obtain ⟨h1, h2, h3⟩ := h.p q q0 q1
        have hf := h.f _ h1 h2
        exact ⟨_, h1, h2, hE.t t q _ t0 (by omega) q0 (by omega) hf.1 (by omega) q2 h3⟩
      · rintro ⟨j, j0, j1, j2⟩
        have hf := h.f j j0 j1
        exact ⟨_, hf.1, hf.2.1, j2⟩
    have hset : ∀ k p : Int, 0 ≤ p → p < t → ix (nx.set t.toNat k) p = ix nx p := fun k p p0 p1 => ix_set_ne t0 p0 (by omega)
    have hset' : ∀ k : Int, ix (nx.set t.toNat k) t = k := fun k => ix_set_same t0 (by omega)
    have fin : ∀ (k : Int) (F1 : List Int), RI g c (t + 1) (nx.set t.toNat k) F1 → same_rounds_L7 g L r2 g t c nx F = same_rounds_L7 g L r2 g (t + 1) c (nx.set t.toNat k) F1 → ∃ nx' F', same_rounds_L7 g L r2 g t c nx F = same_rounds_L7 g L r2 g g.2.1 c nx' F' ∧ RI g c g.2.1 nx' F' := by
      intro k F1 h1 e1
      obtain ⟨nx', F', e2, h2⟩ := ih (t + 1) _ F1 (by omega) (by omega) h1
      exact ⟨nx', F', e1.trans e2, h2⟩
    have hifft : ∀ k : Int, (∀ q : Int, 0 ≤ q → q < t → (k = ix nx q ↔ Fin g c t q)) → ∀ p q : Int, 0 ≤ p → p < t + 1 → 0 ≤ q → q < t + 1 → (ix (nx.set t.toNat k) p = ix (nx.set t.toNat k) q ↔ Fin g c p q) := by
      intro k hk p q p0 p1 q0 q1
      by_cases ep : p = t
      · by_cases eq : q = t
        · rw [ep, eq]; exact ⟨fun _ => hE.r t t0 (by omega), fun _ => rfl⟩
        · rw [ep, hset', hset k q q0 (by omega)]; exact hk q q0 (by omega)
      · by_cases eq : q = t
        · rw [eq, hset', hset k p p0 (by omega)]
          exact ⟨fun e => hE.s t p t0 (by omega) p0 (by omega) ((hk p p0 (by omega)).1 e.symm), fun e => ((hk p p0 (by omega)).2 (hE.s p t p0 (by omega) t0 (by omega) e)).symm⟩
        · rw [hset k p p0 (by omega), hset k q q0 (by omega)]; exact h.iff p q p0 (by omega) q0 (by omega)
    have hcan : ∀ k : Int, (∀ q : Int, 0 ≤ q → q < t → Fin g c t q → k = ix nx q) → ((¬ ∃ q : Int, 0 ≤ q ∧ q < t ∧ Fin g c t q) → k = news (Fin g c) t.toNat) → Can (Fin g c) (nx.set t.toNat k) (t + 1) := by
      intro k k1 k2 p p0 p1
      by_cases ep : p = t
      · rw [ep, hset']
        exact ⟨fun q q0 q1 e => by rw [hset k q q0 q1]; exact k1 q q0 q1 e, k2⟩
      · obtain ⟨c1, c2⟩ := h.can p p0 (by omega)
        rw [hset k p p0 (by omega)]
        exact ⟨fun q q0 q1 e => by rw [hset k q q0 (by omega)]; exact c1 q q0 q1 e, c2⟩
    rcases hi with ⟨h1, h2⟩ | ⟨h1, h2, h3⟩
    · have hnew : ¬ ∃ q : Int, 0 ≤ q ∧ q < t ∧ Fin g c t q := fun hh => by
        obtain ⟨j, j0, j1, j2⟩ := hold.1 hh
        exact h2 j j0 j1 j2
      have hnews : news (Fin g c) (t + 1).toNat = news (Fin g c) t.toNat + 1 := by
        rw [ht1]
        show news (Fin g c) t.toNat + _ = _
        rw [htt, if_neg hnew]
      refine fin (F.length : Int) (F ++ [t]) ⟨by simpa using hln, by rw [hnews, List.length_append, List.length_singleton]; omega, fun i i0 i1 => ?_, fun p p0 p1 => ?_, hcan _ (fun q q0 q1 e => absurd ⟨q, q0, q1, e⟩ hnew) (fun _ => hlf), hifft _ (fun q q0 q1 => ⟨fun e => ?_, fun e => absurd ⟨q, q0, q1, e⟩ hnew⟩)⟩ (e0 _ ?_)
      · rw [List.length_append, List.length_singleton] at i1
        by_cases e : i = F.length
        · rw [e, ix_append_last]
          exact ⟨t0, by omega, hset' _⟩
        · have hf := h.f i i0 (by omega)
          rw [ix_append_left i0 (by omega), hset _ _ hf.1 hf.2.1]
          exact ⟨hf.1, by omega, hf.2.2⟩
      · rw [List.length_append, List.length_singleton]
        by_cases e : p = t
        · rw [e, hset', ix_append_last]
          exact ⟨by omega, by omega, hE.r t t0 (by omega)⟩
        · have hp := h.p p p0 (by omega)
          rw [hset _ p p0 (by omega), ix_append_left hp.1 hp.2.1]
          exact ⟨hp.1, by omega, hp.2.2⟩
      · have := (h.p q q0 q1).2.1; omega
      · unfold same_rounds_L7_B
        rw [if_pos (decide_eq_true (by omega)), hL]
        refine bind_to ei ?_
        rw [if_pos (decide_eq_true (by omega)), G_pos (by unfold room; simp; omega)]
        exact hJ _ _
    · have hqe : ∃ q : Int, 0 ≤ q ∧ q < t ∧ Fin g c t q := hold.2 ⟨i, h1, h2, h3⟩
      have hnews : news (Fin g c) (t + 1).toNat = news (Fin g c) t.toNat := by
        rw [ht1]
        show news (Fin g c) t.toNat + _ = _
        rw [htt, if_pos hqe, Int.add_zero]
      have hfi := h.f i h1 h2
      have hk : ∀ q : Int, 0 ≤ q → q < t → (i = ix nx q ↔ Fin g c t q) := by
        intro q q0 q1
        have := h.iff (ix F i) q hfi.1 hfi.2.1 q0 q1
        rw [hfi.2.2] at this
        rw [this]
        exact ⟨fun e => hE.t t _ q t0 (by omega) hfi.1 (by omega) q0 (by omega) h3 e, fun e => hE.t _ t q hfi.1 (by omega) t0 (by omega) q0 (by omega) (hE.s t _ t0 (by omega) hfi.1 (by omega) h3) e⟩
      refine fin i F ⟨by simpa using hln, by rw [hnews]; exact hlf, fun j j0 j1 => ?_, fun p p0 p1 => ?_, hcan _ (fun q q0 q1 e => (hk q q0 q1).2 e) (fun hn => absurd hqe hn), hifft _ hk⟩ (e0 _ ?_)
      · have hf := h.f j j0 j1
        rw [hset _ _ hf.1 hf.2.1]
        exact ⟨hf.1, by omega, hf.2.2⟩
      · by_cases e : p = t
        · rw [e, hset']; exact ⟨h1, h2, h3⟩
        · rw [hset _ p p0 (by omega)]; exact h.p p p0 (by omega)
      · unfold same_rounds_L7_B
        rw [if_pos (decide_eq_true (by omega)), hL]
        refine bind_to ei ?_
        rw [if_neg (by simp only [decide_eq_true_eq]; omega)]
        exact hJ _ _
/-- Rounds: finer and finer. -/
structure Rds (g : Gr) (L : List (List Int)) : Prop where
  l : 1 ≤ L.length
  len : ∀ k : Int, 0 ≤ k → k < L.length → ((ix L k).length : Int) = g.2.1
  z : ∀ p : Int, 0 ≤ p → p < g.2.1 → ix (ix L 0) p = 0
  s : ∀ k : Int, 0 ≤ k → k + 1 < L.length → ∀ p q : Int, 0 ≤ p → p < g.2.1 → 0 ≤ q → q < g.2.1 → (cE (ix L (k + 1)) p q ↔ Fin g (ix L k) p q)
  c : Can (cE (ix L ((L.length : Int) - 1))) (ix L ((L.length : Int) - 1)) g.2.1
theorem rounds_spec (ok : GrOk g) : ∃ L, same_rounds g = some L ∧ Rds g L ∧ L.length ≤ 13 ∧ ∀ p q : Int, 0 ≤ p → p < g.2.1 → 0 ≤ q → q < g.2.1 → cE (ix L ((L.length : Int) - 1)) p q → Fin g (ix L ((L.length : Int) - 1)) p q := by
  have hn := ok.n
  have key : ∀ (f : Nat) (L : List (List Int)), (12 - news (cE (ix L ((L.length : Int) - 1))) g.2.1.toNat).toNat = f → Rds g L → (L.length : Int) ≤ news (cE (ix L ((L.length : Int) - 1))) g.2.1.toNat → ∃ L', same_rounds_L2 g L = some L' ∧ Rds g L' ∧ L'.length ≤ 13 ∧ ∀ p q : Int, 0 ≤ p → p < g.2.1 → 0 ≤ q → q < g.2.1 → cE (ix L' ((L'.length : Int) - 1)) p q → Fin g (ix L' ((L'.length : Int) - 1)) p q := by
    intro f
    induction f using Nat.strongRecOn with
    | ind f ih =>
      intro L hf h hLn
      have hl1 := h.l
      obtain ⟨c, ec⟩ : ∃ c, ix L ((L.length : Int) - 1) = c := ⟨_, rfl⟩
      have hcl : (c.length : Int) = g.2.1 := by rw [← ec]; exact h.len _ (by omega) (by omega)
      have hcan : Can (cE c) c g.2.1 := by rw [← ec]; exact h.c
      rw [ec] at hf hLn
      have hnb := news_b (E := cE c) g.2.1.toNat
      obtain ⟨nx, F, e7, hR⟩ := round_step ok (L := L) (c := c) (r2 := same_rounds_L2) ec (by omega) hcl g.2.1.toNat 0 (List.replicate g.2.1.toNat 0) [] (by omega) (by omega) ⟨by simp; omega, by simp [news], fun i i0 i1 => by simp at i1; omega, fun p p0 p1 => by omega, fun p p0 p1 => by omega, fun p q p0 p1 => by omega⟩
      have hnl := hR.ln
      have hE := fin_eqv ok c
      have hsub : ∀ p q : Int, 0 ≤ p → p < g.2.1 → 0 ≤ q → q < g.2.1 → Fin g c p q → cE c p q := fun p q _ _ _ _ h => h.1
      have hle := news_le hsub g.2.1.toNat (by omega)
      obtain ⟨m1, e1, m1a, p1, p10, p11, p12⟩ := max_spec (l := nx) (by omega) (by omega)
      obtain ⟨m2, e2, m2a, p2, p20, p21, p22⟩ := max_spec (l := c) (by omega) (by omega)
      have hm1 : m1 = news (Fin g c) g.2.1.toNat - 1 := by
        obtain ⟨a1, a2⟩ := hR.can.rng g.2.1.toNat (by omega)
        obtain ⟨p, q0, q1, q2⟩ := a2 (by omega)
        have := m1a p q0 (by omega)
        have := a1 p1 p10 (by omega)
        omega
      have hm2 : m2 = news (cE c) g.2.1.toNat - 1 := by
        obtain ⟨a1, a2⟩ := hcan.rng g.2.1.toNat (by omega)
        obtain ⟨p, q0, q1, q2⟩ := a2 (by omega)
        have := m2a p q0 (by omega)
        have := a1 p2 p20 (by omega)
        omega
      have hrep : (List.replicate (g.2.1).toNat (0 : Int)).length = g.2.1.toNat := List.length_replicate
      have start : ∀ X, (if decide (m1 = m2) = true then some L else same_rounds_L2 g (L ++ [nx])) = X → same_rounds_L2 g L = X := by
        intro X hX
        rw [same_rounds_L2_eq]; unfold same_rounds_L2_B
        rw [G_pos (by unfold fits; omega), G_pos (by omega), G_pos (by omega), G_pos (by unfold mkOK; omega), ec, e7, same_rounds_L7_eq]; unfold same_rounds_L7_B
        rw [if_neg (by simp only [decide_eq_true_eq]; omega)]
        refine bind_to e1 ?_
        rw [ec]
        refine bind_to e2 ?_
        rw [G_pos (by unfold room; simp; omega)]
        exact hX
      by_cases c1 : m1 = m2
      · refine ⟨L, start _ (by rw [if_pos (decide_eq_true c1)]), h, by omega, fun p q p0 p1 q0 q1 e => ?_⟩
        rw [ec] at e ⊢
        exact news_same hE (cE_eqv c) hsub g.2.1.toNat (by omega) (by omega) p q p0 (by omega) q0 (by omega) e
      · have hlast : ix (L ++ [nx]) (((L ++ [nx]).length : Int) - 1) = nx := by
          rw [List.length_append, List.length_singleton, show (((L.length + 1 : Nat) : Int) - 1) = (L.length : Int) by omega, ix_append_last]
        have hcg : news (cE nx) g.2.1.toNat = news (Fin g c) g.2.1.toNat := news_congr _ (fun p q p0 p1 q0 q1 => hR.iff p q p0 (by omega) q0 (by omega))
        have hR2 : Rds g (L ++ [nx]) := by
          refine ⟨by simp, fun k k0 k1 => ?_, fun p p0 p1 => ?_, fun k k0 k1 p q p0 p1 q0 q1 => ?_, ?_⟩
          · by_cases e : k = L.length
            · rw [e, ix_append_last]; exact hnl
            · rw [List.length_append, List.length_singleton] at k1
              rw [ix_append_left k0 (by omega)]; exact h.len k k0 (by omega)
          · rw [ix_append_left (by omega) (by omega)]; exact h.z p p0 p1
          · rw [List.length_append, List.length_singleton] at k1
            rw [ix_append_left k0 (by omega)]
            by_cases e : k + 1 = L.length
            · rw [e, ix_append_last, show k = (L.length : Int) - 1 by omega, ec]
              exact hR.iff p q p0 p1 q0 q1
            · rw [ix_append_left (by omega) (by omega)]; exact h.s k k0 (by omega) p q p0 p1 q0 q1
          · rw [hlast]
            exact hR.can.congr (fun p q p0 p1 q0 q1 => (hR.iff p q p0 p1 q0 q1).symm)
        have hnb2 := news_b (E := cE nx) g.2.1.toNat
        obtain ⟨L', e', h'⟩ := ih _ (by rw [hlast]; omega) (L ++ [nx]) rfl hR2 (by rw [hlast, List.length_append, List.length_singleton]; omega)
        exact ⟨L', start _ (by rw [if_neg (by simpa using c1)]; exact e'), h'⟩
  have hz : ∀ p : Int, 0 ≤ p → p < g.2.1 → ix (List.replicate g.2.1.toNat (0 : Int)) p = 0 := fun p p0 p1 => by
    rw [ix_eq p0 (by rw [List.length_replicate]; omega), List.getElem_replicate]
  have hnb := news_b (E := cE (List.replicate g.2.1.toNat (0 : Int))) g.2.1.toNat
  obtain ⟨L, e, h⟩ := key _ [List.replicate g.2.1.toNat 0] rfl ⟨by simp, fun k k0 k1 => by
      have : k = 0 := by simp at k1; omega
      subst this
      show ((List.replicate g.2.1.toNat (0 : Int)).length : Int) = _
      rw [List.length_replicate]; omega, fun p p0 p1 => hz p p0 p1, fun k k0 k1 => by simp at k1; omega, by
      show Can (cE (List.replicate g.2.1.toNat (0 : Int))) (List.replicate g.2.1.toNat (0 : Int)) g.2.1
      intro p p0 p1
      refine ⟨fun q q0 q1 e => e, fun hn => ?_⟩
      have : p = 0 := Classical.byContradiction fun e => hn ⟨0, by omega, by omega, by unfold cE; rw [hz p p0 p1, hz 0 (by omega) (by omega)]⟩
      subst this
      rw [hz 0 (by omega) (by omega)]; rfl⟩ (by
      show (1 : Int) ≤ news (cE (List.replicate g.2.1.toNat (0 : Int))) g.2.1.toNat
      exact hnb.2.2 (by omega))
  refine ⟨L, ?_, h⟩
  unfold same_rounds
  rw [G_pos (by unfold mkOK; omega)]
  exact e
end

/- the greatest table -/
section
variable {g : Gr}
theorem Answers_tells (ok : GrOk g) {t : List (List Bool)} (ht : (t.length : Int) = g.2.1) (hr : ∀ p : Int, 0 ≤ p → p < g.2.1 → ((ix t p).length : Int) = g.2.1) {p q : Int} : Tells (r20_Answers g t p q) (Ans g (tE t) p q) := by
  have ha := ok.a
  have key : ∀ (i : Int), 0 ≤ i → i < g.2.2.1.length → ∀ (f : Nat) (k : Int) (b : Bool), 0 ≤ k → k + f = g.2.2.1.length →
      ∃ b', r20_Answers_L8 g t q i (r20_Answers_L2 g t p q) b k = (if b' = true then r20_Answers_L2 g t p q (i + 1) else some false) ∧ (b' = true ↔ b = true ∨ ∃ j : Int, k ≤ j ∧ j < g.2.2.1.length ∧ (ix g.2.2.1 j).1 = q ∧ (ix g.2.2.1 j).2.1 = (ix g.2.2.1 i).2.1 ∧ tE t (ix g.2.2.1 i).2.2.1 (ix g.2.2.1 j).2.2.1) := by
    intro i i0 i1 f
    induction f with
    | zero =>
      intro k b k0 hk
      refine ⟨b, ?_, .inl, fun h => h.elim id (fun ⟨j, a, b, _⟩ => by omega)⟩
      rw [r20_Answers_L8_eq]; unfold r20_Answers_L8_B
      rw [if_neg (by simp only [decide_eq_true_eq]; omega)]
      cases b with
      | true => rw [if_neg (by decide), if_pos rfl, G_pos (by unfold fits; omega)]
      | false => rw [if_pos (by decide), if_neg (by decide)]
    | succ f ih =>
      intro k b k0 hk
      have hxi := ok.x _ (ix_mem i0 i1)
      have hxk := ok.x _ (ix_mem k0 (by omega : k < g.2.2.1.length))
      have go : ∀ v : Bool, (v = true ↔ b = true ∨ ((ix g.2.2.1 k).1 = q ∧ (ix g.2.2.1 k).2.1 = (ix g.2.2.1 i).2.1 ∧ tE t (ix g.2.2.1 i).2.2.1 (ix g.2.2.1 k).2.2.1)) → r20_Answers_L8 g t q i (r20_Answers_L2 g t p q) b k = r20_Answers_L8 g t q i (r20_Answers_L2 g t p q) v (k + 1) →
          ∃ b', r20_Answers_L8 g t q i (r20_Answers_L2 g t p q) b k = (if b' = true then r20_Answers_L2 g t p q (i + 1) else some false) ∧ (b' = true ↔ b = true ∨ ∃ j : Int, k ≤ j ∧ j < g.2.2.1.length ∧ (ix g.2.2.1 j).1 = q ∧ (ix g.2.2.1 j).2.1 = (ix g.2.2.1 i).2.1 ∧ tE t (ix g.2.2.1 i).2.2.1 (ix g.2.2.1 j).2.2.1) := by
        intro v hv e
        obtain ⟨b', e', hb⟩ := ih (k + 1) v (by omega) (by omega)
        refine ⟨b', e.trans e', hb.trans ?_⟩
        rw [hv]
        constructor
        · rintro ((h | h) | ⟨j, j0, h⟩)
          · exact .inl h
          · exact .inr ⟨k, Int.le_refl k, by omega, h⟩
          · exact .inr ⟨j, by omega, h⟩
        · rintro (h | ⟨j, j0, j1, h⟩)
          · exact .inl (.inl h)
          · by_cases ej : j = k
            · rw [ej] at h; exact .inl (.inr h)
            · exact .inr ⟨j, by omega, j1, h⟩
      have e0 : ∀ X, r20_Answers_L8_B g t q i (r20_Answers_L2 g t p q) (r20_Answers_L8 g t q i (r20_Answers_L2 g t p q)) b k = X → r20_Answers_L8 g t q i (r20_Answers_L2 g t p q) b k = X := fun X h => by rw [r20_Answers_L8_eq]; exact h
      have hf : fits (k + 1) := by unfold fits; omega
      cases b with
      | true =>
        refine go true (by simp) (e0 _ ?_)
        unfold r20_Answers_L8_B
        rw [if_pos (decide_eq_true (by omega)), G_pos (by omega), if_pos rfl, G_pos hf]
      | false =>
        by_cases c1 : (ix g.2.2.1 k).1 = q
        · by_cases c2 : (ix g.2.2.1 k).2.1 = (ix g.2.2.1 i).2.1
          · refine go (ix (ix t (ix g.2.2.1 i).2.2.1) (ix g.2.2.1 k).2.2.1) ⟨fun h => .inr ⟨c1, c2, h⟩, fun h => h.elim (fun h => (by cases h)) (fun h => h.2.2)⟩ (e0 _ ?_)
            unfold r20_Answers_L8_B
            have hr1 := hr (ix g.2.2.1 i).2.2.1 hxi.2.2.1 hxi.2.2.2.1
            rw [if_pos (decide_eq_true (by omega)), G_pos (by omega), if_neg (by decide), if_pos (decide_eq_true c1), G_pos (by omega), if_pos (decide_eq_true c2), G_pos (by omega), G_pos (by omega)]
            try rw [G_pos hf]
          · refine go false ⟨fun h => (by cases h), fun h => h.elim (fun h => (by cases h)) (fun h => absurd h.2.1 c2)⟩ (e0 _ ?_)
            unfold r20_Answers_L8_B
            rw [if_pos (decide_eq_true (by omega)), G_pos (by omega), if_neg (by decide), if_pos (decide_eq_true c1), G_pos (by omega), if_neg (by simpa using c2), G_pos hf]
        · refine go false ⟨fun h => (by cases h), fun h => h.elim (fun h => (by cases h)) (fun h => absurd h.1 c1)⟩ (e0 _ ?_)
          unfold r20_Answers_L8_B
          rw [if_pos (decide_eq_true (by omega)), G_pos (by omega), if_neg (by decide), if_neg (by simpa using c1), G_pos hf]
  have found : ∀ t' : Int, 0 ≤ t' → t' < g.2.2.1.length → ∃ b', r20_Answers_L8 g t q t' (r20_Answers_L2 g t p q) false 0 = (if b' = true then r20_Answers_L2 g t p q (t' + 1) else some false) ∧ (b' = true ↔ ∃ y ∈ g.2.2.1, y.1 = q ∧ y.2.1 = (ix g.2.2.1 t').2.1 ∧ tE t (ix g.2.2.1 t').2.2.1 y.2.2.1) := by
    intro i i0 i1
    obtain ⟨b', e, hb⟩ := key i i0 i1 g.2.2.1.length 0 false (by omega) (by omega)
    refine ⟨b', e, hb.trans ?_⟩
    rw [ex_ix (P := fun y : Arc => y.1 = q ∧ y.2.1 = (ix g.2.2.1 i).2.1 ∧ tE t (ix g.2.2.1 i).2.2.1 y.2.2.1)]
    simp
  have step : ∀ i : Int, 0 ≤ i → i < g.2.2.1.length → r20_Answers_L2 g t p q i = if (ix g.2.2.1 i).1 = p then r20_Answers_L8 g t q i (r20_Answers_L2 g t p q) false 0 else r20_Answers_L2 g t p q (i + 1) := by
    intro i i0 i1
    conv => lhs; rw [r20_Answers_L2_eq]; unfold r20_Answers_L2_B
    rw [if_pos (decide_eq_true i1), G_pos (by omega)]
    by_cases c : (ix g.2.2.1 i).1 = p
    · rw [if_neg (by simpa using c), if_pos c]
    · rw [if_pos (by simpa using c), if_neg c, G_pos (by unfold fits; omega)]
  have hE : r20_Answers_L2 g t p q g.2.2.1.length = some true := by
    rw [r20_Answers_L2_eq]; unfold r20_Answers_L2_B
    rw [if_neg (by simp)]
  unfold r20_Answers
  by_cases h : Ans g (tE t) p q
  · refine ⟨true, ?_, fun _ => h, fun _ => rfl⟩
    refine scan_to (len := g.2.2.1.length) (bad := fun _ => False) (by omega) (fun i i0 i1 => ⟨fun h => h.elim, fun _ => ?_⟩) (fun _ => hE)
    rw [step i i0 i1]
    by_cases c : (ix g.2.2.1 i).1 = p
    · obtain ⟨b', e, hb⟩ := found i i0 i1
      rw [if_pos c, e, if_pos (hb.2 (h _ (ix_mem i0 i1) c))]
    · rw [if_neg c]
  · refine ⟨false, ?_, fun e => (by cases e), fun k => absurd k h⟩
    refine scan_to (len := g.2.2.1.length) (bad := fun i => (ix g.2.2.1 i).1 = p ∧ ¬ ∃ y ∈ g.2.2.1, y.1 = q ∧ y.2.1 = (ix g.2.2.1 i).2.1 ∧ tE t (ix g.2.2.1 i).2.2.1 y.2.2.1) (by omega) (fun i i0 i1 => ?_) (fun hh => ?_)
    · obtain ⟨b', e, hb⟩ := found i i0 i1
      rw [step i i0 i1, e]
      refine ⟨fun ⟨h1, h2⟩ => by rw [if_pos h1, if_neg (fun h => h2 (hb.1 h))], fun hn => ?_⟩
      by_cases c : (ix g.2.2.1 i).1 = p
      · rw [if_pos c, if_pos (hb.2 (Classical.byContradiction fun h => hn ⟨c, h⟩))]
      · rw [if_neg c]
    · refine absurd (fun x hx hp => ?_) h
      obtain ⟨i, i0, i1, rfl⟩ := ex_ix (P := fun y => y = x).1 ⟨x, hx, rfl⟩
      exact Classical.byContradiction fun hn => hh i i0 i1 ⟨hp, hn⟩
/-- A square table. -/
structure Sq (n : Int) (t : List (List Bool)) : Prop where
  l : (t.length : Int) = n
  r : ∀ p : Int, 0 ≤ p → p < n → ((ix t p).length : Int) = n
def offC (t : List (List Bool)) (p q : Int) : List (List Bool) := t.set p.toNat ((ix t p).set q.toNat false)
theorem Sq.off {n : Int} {t : List (List Bool)} (h : Sq n t) {p q : Int} (p0 : 0 ≤ p) (p1 : p < n) : Sq n (offC t p q) := by
  have hl := h.l
  refine ⟨by unfold offC; simpa using hl, fun r r0 r1 => ?_⟩
  unfold offC
  by_cases e : p = r
  · subst e; rw [ix_set_same p0 (by omega)]; simpa using h.r p p0 p1
  · rw [ix_set_ne p0 r0 e]; exact h.r r r0 r1
theorem off_iff {n : Int} {t : List (List Bool)} (h : Sq n t) {p q : Int} (p0 : 0 ≤ p) (p1 : p < n) (q0 : 0 ≤ q) (q1 : q < n) {a b : Int} (a0 : 0 ≤ a) (b0 : 0 ≤ b) : tE (offC t p q) a b ↔ tE t a b ∧ ¬ (a = p ∧ b = q) := by
  have hl := h.l; have hr := h.r p p0 p1
  unfold tE offC
  by_cases e : p = a
  · subst e
    rw [ix_set_same p0 (by omega)]
    by_cases e2 : q = b
    · subst e2; rw [ix_set_same q0 (by omega)]; simp
    · rw [ix_set_ne q0 b0 e2]
      exact ⟨fun h => ⟨h, fun h' => e2 h'.2.symm⟩, fun h => h.1⟩
  · rw [ix_set_ne p0 a0 e]
    exact ⟨fun h => ⟨h, fun h' => e h'.1.symm⟩, fun h => h.1⟩
open Classical in
/-- How many cells of a row are so. -/
noncomputable def rowc (t : List (List Bool)) (p : Int) : Nat → Nat
  | 0 => 0
  | k + 1 => rowc t p k + (if tE t p k then 1 else 0)
noncomputable def tabc (t : List (List Bool)) (n : Nat) : Nat → Nat
  | 0 => 0
  | k + 1 => tabc t n k + rowc t k n
open Classical in
theorem rowc_le {s t : List (List Bool)} {p : Int} : ∀ k : Nat, (∀ b : Int, 0 ≤ b → b < k → tE s p b → tE t p b) → rowc s p k ≤ rowc t p k
  | 0, _ => Nat.le_refl _
  | k + 1, h => by
    have := rowc_le k (fun b b0 b1 => h b b0 (by omega))
    unfold rowc
    by_cases c : tE s p k
    · rw [if_pos c, if_pos (h k (by omega) (by omega) c)]; omega
    · rw [if_neg c]; split <;> omega
open Classical in
theorem rowc_lt {s t : List (List Bool)} {p q : Int} (q0 : 0 ≤ q) (h1 : tE t p q) (h2 : ¬ tE s p q) : ∀ k : Nat, q < k → (∀ b : Int, 0 ≤ b → b < k → tE s p b → tE t p b) → rowc s p k < rowc t p k
  | 0, hk, _ => by omega
  | k + 1, hk, h => by
    unfold rowc
    by_cases e : q = k
    · have := rowc_le (s := s) (t := t) (p := p) k (fun b b0 b1 => h b b0 (by omega))
      rw [← e, if_pos h1, if_neg h2]; omega
    · have := rowc_lt q0 h1 h2 k (by omega) (fun b b0 b1 => h b b0 (by omega))
      by_cases c : tE s p k
      · rw [if_pos c, if_pos (h k (by omega) (by omega) c)]; omega
      · rw [if_neg c]; split <;> omega
theorem tabc_le {s t : List (List Bool)} {n : Nat} : ∀ k : Nat, (∀ a b : Int, 0 ≤ a → a < k → 0 ≤ b → b < n → tE s a b → tE t a b) → tabc s n k ≤ tabc t n k
  | 0, _ => Nat.le_refl _
  | k + 1, h => by
    have := tabc_le k (fun a b a0 a1 => h a b a0 (by omega))
    have := rowc_le (s := s) (t := t) (p := k) n (fun b b0 b1 => h k b (by omega) (by omega) b0 b1)
    unfold tabc; omega
theorem tabc_lt {s t : List (List Bool)} {n : Nat} {p q : Int} (p0 : 0 ≤ p) (q0 : 0 ≤ q) (q1 : q < n) (h1 : tE t p q) (h2 : ¬ tE s p q) : ∀ k : Nat, p < k → (∀ a b : Int, 0 ≤ a → a < k → 0 ≤ b → b < n → tE s a b → tE t a b) → tabc s n k < tabc t n k
  | 0, hk, _ => by omega
  | k + 1, hk, h => by
    unfold tabc
    by_cases e : p = k
    · have := tabc_le (s := s) (t := t) (n := n) k (fun a b a0 a1 => h a b a0 (by omega))
      have := rowc_lt (s := s) (t := t) q0 (e ▸ h1) (e ▸ h2) n q1 (fun b b0 b1 => h k b (by omega) (by omega) b0 b1)
      omega
    · have := tabc_lt p0 q0 q1 h1 h2 k (by omega) (fun a b a0 a1 => h a b a0 (by omega))
      have := rowc_le (s := s) (t := t) (p := k) n (fun b b0 b1 => h k b (by omega) (by omega) b0 b1)
      omega
def Cnd (g : Gr) (both : Bool) (R : Int → Int → Prop) (p q : Int) : Prop := Ans g R p q ∧ (both = true → R q p)
/-- The greatest table all of whose pairs are answered. -/
structure GT (g : Gr) (both : Bool) (t : List (List Bool)) : Prop where
  sq : Sq g.2.1 t
  post : ∀ p q : Int, 0 ≤ p → p < g.2.1 → 0 ≤ q → q < g.2.1 → tE t p q → Cnd g both (tE t) p q
  great : ∀ R : Int → Int → Prop, (∀ p q : Int, 0 ≤ p → p < g.2.1 → 0 ≤ q → q < g.2.1 → R p q → Cnd g both R p q) → ∀ p q : Int, 0 ≤ p → p < g.2.1 → 0 ≤ q → q < g.2.1 → R p q → tE t p q
def Grt (g : Gr) (both : Bool) (t : List (List Bool)) : Prop := ∀ R : Int → Int → Prop, (∀ p q : Int, 0 ≤ p → p < g.2.1 → 0 ≤ q → q < g.2.1 → R p q → Cnd g both R p q) → ∀ p q : Int, 0 ≤ p → p < g.2.1 → 0 ≤ q → q < g.2.1 → R p q → tE t p q
theorem GT.one {both : Bool} {s t : List (List Bool)} (h : GT g both s) (k : GT g both t) : s = t := by
  have hs := h.sq; have ht := k.sq
  have hl := hs.l; have hl2 := ht.l
  refine ix_ext (by omega) fun p p0 p1 => ?_
  have r1 := hs.r p p0 (by omega); have r2 := ht.r p p0 (by omega)
  refine ix_ext (by omega) fun q q0 q1 => ?_
  rw [Bool.eq_iff_iff]
  exact ⟨k.great _ h.post p q p0 (by omega) q0 (by omega), h.great _ k.post p q p0 (by omega) q0 (by omega)⟩
open Classical in
/-- One pass over a table, in any of the two programs' words. -/
theorem pass_of {R : Type} (ok : GrOk g) {both : Bool} {F : Int → Bool → Int → List (List Bool) → Option R} {G' : Bool → Int → List (List Bool) → Option R}
    (hrow : ∀ (p : Int) (b : Bool) (t : List (List Bool)), 0 ≤ p → p < g.2.1 → Sq g.2.1 t → G' b p t = F p b 0 t)
    (hstep : ∀ (p q : Int) (b : Bool) (t : List (List Bool)), 0 ≤ p → p < g.2.1 → 0 ≤ q → q < g.2.1 → Sq g.2.1 t → F p b q t = if tE t p q ∧ ¬ Cnd g both (tE t) p q then F p true (q + 1) (offC t p q) else F p b (q + 1) t)
    (hend : ∀ (p : Int) (b : Bool) (t : List (List Bool)), 0 ≤ p → p < g.2.1 → Sq g.2.1 t → F p b g.2.1 t = G' b (p + 1) t) {t : List (List Bool)} (ht : Sq g.2.1 t) (hg : Grt g both t) :
    ∃ b' t', G' false 0 t = G' b' g.2.1 t' ∧ Sq g.2.1 t' ∧ Grt g both t' ∧ ((b' = false ∧ t' = t ∧ ∀ p q : Int, 0 ≤ p → p < g.2.1 → 0 ≤ q → q < g.2.1 → tE t p q → Cnd g both (tE t) p q) ∨ (b' = true ∧ tabc t' g.2.1.toNat g.2.1.toNat < tabc t g.2.1.toNat g.2.1.toNat)) := by
  have hn := ok.n
  -- the state of the pass
  let I : Bool → List (List Bool) → (Int → Int → Prop) → Prop := fun b s done => Sq g.2.1 s ∧ Grt g both s ∧ ((b = false ∧ s = t ∧ ∀ p q : Int, 0 ≤ p → p < g.2.1 → 0 ≤ q → q < g.2.1 → done p q → tE t p q → Cnd g both (tE t) p q) ∨ (b = true ∧ tabc s g.2.1.toNat g.2.1.toNat < tabc t g.2.1.toNat g.2.1.toNat))
  have one : ∀ (p q : Int) (b : Bool) (s : List (List Bool)), 0 ≤ p → p < g.2.1 → 0 ≤ q → q < g.2.1 → I b s (fun x y => x < p ∨ (x = p ∧ y < q)) → ∃ b' s', F p b q s = F p b' (q + 1) s' ∧ I b' s' (fun x y => x < p ∨ (x = p ∧ y < q + 1)) := by
    intro p q b s p0 p1 q0 q1 ⟨h1, h2, h3⟩
    rw [hstep p q b s p0 p1 q0 q1 h1]
    by_cases c : tE s p q ∧ ¬ Cnd g both (tE s) p q
    · rw [if_pos c]
      have hoff := fun a b a0 b0 => off_iff h1 p0 p1 q0 q1 (a := a) (b := b) a0 b0
      have hlt : tabc (offC s p q) g.2.1.toNat g.2.1.toNat < tabc s g.2.1.toNat g.2.1.toNat := tabc_lt p0 q0 (by omega) c.1 (fun h => ((hoff p q p0 q0).1 h).2 ⟨rfl, rfl⟩) _ (by omega) (fun a b a0 _ b0 _ h => ((hoff a b a0 b0).1 h).1)
      refine ⟨true, _, rfl, h1.off p0 p1, fun R hR x y x0 x1 y0 y1 hxy => ?_, .inr ⟨rfl, ?_⟩⟩
      · refine (hoff x y x0 y0).2 ⟨h2 R hR x y x0 x1 y0 y1 hxy, ?_⟩
        rintro ⟨rfl, rfl⟩
        obtain ⟨k1, k2⟩ := hR x y x0 x1 y0 y1 hxy
        exact c.2 ⟨k1.mono (fun z hz => ⟨(ok.x z hz).2.2.1, (ok.x z hz).2.2.2.1⟩) (fun a b a0 a1 b0 b1 h => h2 R hR a b a0 a1 b0 b1 h), fun hb => h2 R hR y x y0 y1 x0 x1 (k2 hb)⟩
      · rcases h3 with ⟨_, rfl, _⟩ | ⟨_, h⟩
        · exact hlt
        · omega
    · rw [if_neg c]
      refine ⟨b, s, rfl, h1, h2, ?_⟩
      rcases h3 with ⟨rfl, rfl, h⟩ | h
      · refine .inl ⟨rfl, rfl, fun x y x0 x1 y0 y1 hd hxy => ?_⟩
        by_cases e : x = p ∧ y = q
        · rw [e.1, e.2] at hxy ⊢
          exact Classical.byContradiction fun hn => c ⟨hxy, hn⟩
        · exact h x y x0 x1 y0 y1 (by omega) hxy
      · exact .inr h
  have row : ∀ (p : Int), 0 ≤ p → p < g.2.1 → ∀ (m : Nat) (q : Int) (b : Bool) (s : List (List Bool)), 0 ≤ q → q + m = g.2.1 → I b s (fun x y => x < p ∨ (x = p ∧ y < q)) → ∃ b' s', F p b q s = F p b' g.2.1 s' ∧ I b' s' (fun x y => x < p ∨ (x = p ∧ y < g.2.1)) := by
    intro p p0 p1 m
    induction m with
    | zero =>
      intro q b s q0 hq h
      obtain rfl : q = g.2.1 := by omega
      exact ⟨b, s, rfl, h⟩
    | succ m ih =>
      intro q b s q0 hq h
      obtain ⟨b1, s1, e1, h1⟩ := one p q b s p0 p1 q0 (by omega) h
      obtain ⟨b2, s2, e2, h2⟩ := ih (q + 1) b1 s1 (by omega) (by omega) h1
      exact ⟨b2, s2, e1.trans e2, h2⟩
  have all : ∀ (m : Nat) (p : Int) (b : Bool) (s : List (List Bool)), 0 ≤ p → p + m = g.2.1 → I b s (fun x _ => x < p) → ∃ b' s', G' b p s = G' b' g.2.1 s' ∧ I b' s' (fun x _ => x < g.2.1) := by
    intro m
    induction m with
    | zero =>
      intro p b s p0 hp h
      obtain rfl : p = g.2.1 := by omega
      exact ⟨b, s, rfl, h⟩
    | succ m ih =>
      intro p b s p0 hp h
      obtain ⟨b1, s1, e1, h1⟩ := row p p0 (by omega) g.2.1.toNat 0 b s (by omega) (by omega) ⟨h.1, h.2.1, h.2.2.imp (fun ⟨a1, a2, a3⟩ => ⟨a1, a2, fun x y x0 x1 y0 y1 hd => a3 x y x0 x1 y0 y1 (show x < p by omega)⟩) id⟩
      obtain ⟨b2, s2, e2, h2⟩ := ih (p + 1) b1 s1 (by omega) (by omega) ⟨h1.1, h1.2.1, h1.2.2.imp (fun ⟨a1, a2, a3⟩ => ⟨a1, a2, fun x y x0 x1 y0 y1 hd => a3 x y x0 x1 y0 y1 (by omega)⟩) id⟩
      refine ⟨b2, s2, ?_, h2⟩
      rw [hrow p b s p0 (by omega) h.1, e1, hend p b1 s1 p0 (by omega) h1.1]
      exact e2
  obtain ⟨b', t', e, h1, h2, h3⟩ := all g.2.1.toNat 0 false t (by omega) (by omega) ⟨ht, hg, .inl ⟨rfl, rfl, fun x y x0 x1 y0 y1 hd => by omega⟩⟩
  exact ⟨b', t', e, h1, h2, h3.imp (fun ⟨a1, a2, a3⟩ => ⟨a1, a2, fun x y x0 x1 y0 y1 => a3 x y x0 x1 y0 y1 x1⟩) id⟩
theorem Table_pass (ok : GrOk g) {both : Bool} {t : List (List Bool)} (ht : Sq g.2.1 t) (hg : Grt g both t) :
    ∃ b' t', r20_Table_L15 g both (r20_Table_L12 g both) false 0 t = r20_Table_L12 g both b' t' ∧ Sq g.2.1 t' ∧ Grt g both t' ∧ ((b' = false ∧ t' = t ∧ ∀ p q : Int, 0 ≤ p → p < g.2.1 → 0 ≤ q → q < g.2.1 → tE t p q → Cnd g both (tE t) p q) ∨ (b' = true ∧ tabc t' g.2.1.toNat g.2.1.toNat < tabc t g.2.1.toNat g.2.1.toNat)) := by
  have hn := ok.n
  have := pass_of ok (both := both) (F := fun p b q t => r20_Table_L18 g both p (r20_Table_L15 g both (r20_Table_L12 g both)) b q t) (G' := fun b p t => r20_Table_L15 g both (r20_Table_L12 g both) b p t) (fun p b t p0 p1 ht => ?_) (fun p q b t p0 p1 q0 q1 ht => ?_) (fun p b t p0 p1 ht => ?_) ht hg
  · obtain ⟨b', t', e, h⟩ := this
    refine ⟨b', t', e.trans ?_, h⟩
    rw [r20_Table_L15_eq]; unfold r20_Table_L15_B
    rw [if_neg (by simp)]
  · rw [r20_Table_L15_eq]; unfold r20_Table_L15_B
    rw [if_pos (decide_eq_true p1)]
  · have hl := ht.l; have hr := ht.r p p0 p1; have hr2 := ht.r q q0 q1
    have hJ : ∀ v : Bool, r20_Table_J23 p b q t (r20_Table_L18 g both p (r20_Table_L15 g both (r20_Table_L12 g both))) v = if v = true then r20_Table_L18 g both p (r20_Table_L15 g both (r20_Table_L12 g both)) b (q + 1) t else r20_Table_L18 g both p (r20_Table_L15 g both (r20_Table_L12 g both)) true (q + 1) (offC t p q) := by
      intro v
      unfold r20_Table_J23
      cases v with
      | true => rw [if_neg (by decide), if_pos rfl, G_pos (by unfold fits; omega)]
      | false => rw [if_pos (by decide), if_neg (by decide), G_pos (by omega), G_pos (by omega), G_pos (by omega), G_pos (by omega), G_pos (by unfold fits; omega)]; rfl
    conv => lhs; rw [r20_Table_L18_eq]; unfold r20_Table_L18_B
    rw [if_pos (decide_eq_true q1), G_pos (by omega), G_pos (by omega), G_pos (by omega), G_pos (by omega)]
    by_cases c : tE t p q
    · have c' : ix (ix t p) q = true := c
      rw [if_neg (by simp [c'])]
      obtain ⟨b1, e1, h1⟩ := Answers_tells ok ht.l ht.r (p := p) (q := q)
      refine bind_to e1 ?_
      unfold r20_Table_J22
      cases both with
      | true =>
        rw [if_pos rfl]
        cases b1 with
        | true =>
          rw [if_pos rfl, G_pos (by omega), G_pos (by omega), G_pos (by omega), G_pos (by omega), hJ]
          by_cases c2 : ix (ix t q) p = true
          · rw [if_pos c2, if_neg (fun h => h.2 ⟨h1.1 rfl, fun _ => c2⟩)]
          · rw [if_neg c2, if_pos ⟨c, fun h => c2 (h.2 rfl)⟩]
        | false =>
          rw [if_neg (by decide), hJ, if_neg (by decide), if_pos ⟨c, fun h => by cases h1.2 h.1⟩]
      | false =>
        rw [if_neg (by decide), if_neg (by decide), hJ]
        cases b1 with
        | true => rw [if_pos rfl, if_neg (fun h => h.2 ⟨h1.1 rfl, fun h => by cases h⟩)]
        | false => rw [if_neg (by decide), if_pos ⟨c, fun h => by cases h1.2 h.1⟩]
    · have c' : ¬ ix (ix t p) q = true := c
      rw [if_pos (by simpa using c'), G_pos (by unfold fits; omega), if_neg (fun h => c h.1)]
  · rw [r20_Table_L18_eq]; unfold r20_Table_L18_B
    rw [if_neg (by simp), G_pos (by unfold fits; omega)]
theorem full_ok {t : List (List Bool)} (hf : ∀ p q : Int, 0 ≤ p → p < g.2.1 → 0 ≤ q → q < g.2.1 → tE t p q) {both : Bool} : Grt g both t := fun _ _ p q p0 p1 q0 q1 _ => hf p q p0 p1 q0 q1
theorem Table_spec (ok : GrOk g) (both : Bool) : ∃ t, r20_Table g both = some t ∧ GT g both t := by
  have hn := ok.n
  have k12 : ∀ (f : Nat) (t : List (List Bool)), tabc t g.2.1.toNat g.2.1.toNat = f → Sq g.2.1 t → Grt g both t → ∃ t', r20_Table_L12 g both true t = some t' ∧ GT g both t' := by
    intro f
    induction f using Nat.strongRecOn with
    | ind f ih =>
      intro t hf ht hg
      obtain ⟨b', t', e, h1, h2, h3⟩ := Table_pass ok ht hg
      rw [r20_Table_L12_eq]; unfold r20_Table_L12_B
      rw [if_pos rfl, e]
      rcases h3 with ⟨rfl, rfl, h⟩ | ⟨rfl, h⟩
      · refine ⟨t', ?_, h1, h, h2⟩
        rw [r20_Table_L12_eq]; unfold r20_Table_L12_B
        rw [if_neg (by decide)]
      · exact ih _ (by omega) t' rfl h1 h2
  have k7 : ∀ (p : Int), 0 ≤ p → p < g.2.1 → ∀ (t : List (List Bool)), (t.length : Int) = p → ∀ (m : Nat) (q : Int) (r : List Bool), 0 ≤ q → q + m = g.2.1 → (r.length : Int) = g.2.1 → (∀ j : Int, 0 ≤ j → j < q → ix r j = true) →
      ∃ r', r20_Table_L7 g p t (r20_Table_L3 g both) q r = r20_Table_L3 g both (p + 1) (t ++ [r']) ∧ (r'.length : Int) = g.2.1 ∧ ∀ j : Int, 0 ≤ j → j < g.2.1 → ix r' j = true := by
    intro p p0 p1 t ht m
    induction m with
    | zero =>
      intro q r q0 hq hr h
      refine ⟨r, ?_, hr, fun j j0 j1 => h j j0 (by omega)⟩
      rw [r20_Table_L7_eq]; unfold r20_Table_L7_B
      rw [if_neg (by simp only [decide_eq_true_eq]; omega), G_pos (by unfold room; simp; omega), G_pos (by unfold fits; omega)]
    | succ m ih =>
      intro q r q0 hq hr h
      conv => arg 1; ext r'; lhs; lhs; rw [r20_Table_L7_eq]; unfold r20_Table_L7_B
      rw [if_pos (decide_eq_true (by omega)), G_pos (by omega), G_pos (by omega), G_pos (by unfold fits; omega)]
      refine ih (q + 1) _ (by omega) (by omega) (by simpa using hr) (fun j j0 j1 => ?_)
      by_cases e : q = j
      · subst e; exact ix_set_same q0 (by omega)
      · rw [ix_set_ne q0 j0 e]; exact h j j0 (by omega)
  have k3 : ∀ (m : Nat) (p : Int) (t : List (List Bool)), 0 ≤ p → p + m = g.2.1 → (t.length : Int) = p → (∀ a : Int, 0 ≤ a → a < p → ((ix t a).length : Int) = g.2.1 ∧ ∀ j : Int, 0 ≤ j → j < g.2.1 → ix (ix t a) j = true) → ∃ t', r20_Table_L3 g both p t = some t' ∧ GT g both t' := by
    intro m
    induction m with
    | zero =>
      intro p t p0 hp hl h
      rw [r20_Table_L3_eq]; unfold r20_Table_L3_B
      rw [if_neg (by simp only [decide_eq_true_eq]; omega)]
      exact k12 _ t rfl ⟨by omega, fun a a0 a1 => (h a a0 (by omega)).1⟩ (full_ok fun a b a0 a1 b0 b1 => (h a a0 (by omega)).2 b b0 b1)
    | succ m ih =>
      intro p t p0 hp hl h
      obtain ⟨r, e, hr1, hr2⟩ := k7 p p0 (by omega) t hl g.2.1.toNat 0 (List.replicate g.2.1.toNat false) (by omega) (by omega) (by simp; omega) (fun j j0 j1 => by omega)
      rw [r20_Table_L3_eq]; unfold r20_Table_L3_B
      rw [if_pos (decide_eq_true (by omega)), G_pos (by unfold mkOK; omega), e]
      refine ih (p + 1) _ (by omega) (by omega) (by simp; omega) (fun a a0 a1 => ?_)
      by_cases ea : a = p
      · rw [ea, ← hl, ix_append_last]; exact ⟨hr1, hr2⟩
      · rw [ix_append_left a0 (by omega)]; exact h a a0 (by omega)
  exact k3 g.2.1.toNat 0 [] (by omega) (by omega) rfl (fun a a0 a1 => by omega)
end

section
variable {g : Gr}
theorem Repeat_L8 {N : Nat} (hN : N ≤ 1000) : ∀ (f k : Nat), N - k = f → 1 ≤ k → k ≤ N → slices_Repeat_L8 (k : Int) (List.replicate k true ++ List.replicate (N - k) false) = some (List.replicate N true) := by
  intro f
  induction f using Nat.strongRecOn with
  | ind f ih =>
    intro k hf k1 kN
    rw [slices_Repeat_L8_eq]; unfold slices_Repeat_L8_B
    have hl : (List.replicate k true ++ List.replicate (N - k) false).length = N := by rw [List.length_append, List.length_replicate, List.length_replicate]; omega
    rw [hl]
    by_cases c : k < N
    · have e1 : ((List.replicate k true ++ List.replicate (N - k) false).drop 0).take ((k : Int)).toNat = List.replicate k true := by
        rw [List.drop_zero, Int.toNat_natCast, List.take_append_of_le_length (by rw [List.length_replicate]; omega), List.take_of_length_le (by rw [List.length_replicate]; omega)]
      have e2 : (List.replicate k true ++ List.replicate (N - k) false).take ((k : Int)).toNat = List.replicate k true := e1
      rw [if_pos (decide_eq_true (by omega)), G_pos (by omega), G_pos (by omega), G_pos (by omega), G_pos (by omega), e1, e2, List.length_replicate, Int.toNat_natCast]
      obtain ⟨d, hd⟩ : ∃ d, min k (N - k) = d := ⟨_, rfl⟩
      rw [hd, G_pos (by unfold fits; omega)]
      have e3 : (List.replicate k true ++ List.replicate (N - k) false).drop (k + d) = List.replicate (N - (k + d)) false := by
        rw [List.drop_append, List.length_replicate, List.drop_of_length_le (by rw [List.length_replicate]; omega), List.nil_append, List.drop_replicate]
        congr 1; omega
      have e4 : List.replicate k true ++ (List.replicate k true).take d = List.replicate (k + d) true := by
        rw [List.take_replicate, show min d k = d by omega, List.replicate_append_replicate]
      rw [e3, e4, show (k : Int) + (d : Int) = ((k + d : Nat) : Int) by omega]
      exact ih (N - (k + d)) (by omega) (k + d) rfl (by omega) (by omega)
    · rw [if_neg (by simp only [decide_eq_true_eq]; omega)]
      rw [show N - k = 0 by omega, show k = N by omega]; simp
theorem bits_Mul_one {n : Int} (h : 1 ≤ n ∧ n ≤ 12) : bits_Mul (IntKind.wrap .u64 (([true] : List Bool).length : Int)) (IntKind.wrap .u64 n) = some (0, n) := by
  have h12 : n = 1 ∨ n = 2 ∨ n = 3 ∨ n = 4 ∨ n = 5 ∨ n = 6 ∨ n = 7 ∨ n = 8 ∨ n = 9 ∨ n = 10 ∨ n = 11 ∨ n = 12 := by omega
  unfold bits_Mul bits_Mul64
  rw [G_pos (by omega), G_pos (by omega), G_pos (by omega), G_pos (by omega), G_pos (by omega)]
  rcases h12 with rfl | rfl | rfl | rfl | rfl | rfl | rfl | rfl | rfl | rfl | rfl | rfl <;> rfl
theorem Repeat_spec {n : Int} (h : 1 ≤ n ∧ n ≤ 12) : slices_Repeat [true] n = some (List.replicate n.toNat true) := by
  unfold slices_Repeat
  rw [if_neg (by simp only [decide_eq_true_eq]; omega)]
  refine bind_to (bits_Mul_one h) ?_
  have hw : IntKind.wrap .i64 n = n := by
    have := wrap_nat (n := n.toNat) (by omega)
    rwa [show ((n.toNat : Nat) : Int) = n by omega] at this
  rw [if_neg (by simp), if_neg (by simp only [decide_eq_true_eq]; omega)]
  show G (mkOK (IntKind.wrap .i64 n) (IntKind.wrap .i64 n) 1) _ = _
  rw [G_pos (by rw [hw]; unfold mkOK; omega)]
  show slices_Repeat_L8 ((min ([true] : List Bool).length (List.replicate (IntKind.wrap .i64 n).toNat false).length : Nat) : Int) (([true] : List Bool).take (List.replicate (IntKind.wrap .i64 n).toNat false).length ++ (List.replicate (IntKind.wrap .i64 n).toNat false).drop ([true] : List Bool).length) = _
  rw [hw, List.length_replicate]
  have := Repeat_L8 (N := n.toNat) (by omega) _ 1 rfl (Nat.le_refl 1) (by omega)
  rw [← this]
  congr 1
  · show ((min 1 n.toNat : Nat) : Int) = _
    omega
  · rw [List.take_of_length_le (by simp; omega), List.drop_replicate]; rfl
theorem serves1_tells {t : List (List Bool)} (ht : Sq g.2.1 t) {a b : Int} (a0 : 0 ≤ a) (a1 : a < g.2.1) (b0 : 0 ≤ b) (b1 : b < g.2.1) : Tells (same_Serves_1 a b t) (tE t a b) := by
  have hl := ht.l; have hr := ht.r a a0 a1
  unfold same_Serves_1
  rw [G_pos (by omega), G_pos (by omega)]; exact ⟨_, rfl, Iff.rfl⟩
theorem f2t_tells (ok : GrOk g) {t : List (List Bool)} (ht : Sq g.2.1 t) {q : Int} {x : Arc} (hx : x ∈ g.2.2.1) : ∃ b, slices_ContainsFunc_2 g.2.2.1 q x t = some (b, t) ∧ (b = true ↔ ∃ y ∈ g.2.2.1, y.1 = q ∧ y.2.1 = x.2.1 ∧ tE t x.2.2.1 y.2.2.1) := by
  have ha := ok.a
  refine contains_tells2 (f := fun y c => same_answered_1_1 y q x c) (P := fun y => y.1 = q ∧ y.2.1 = x.2.1 ∧ tE t x.2.2.1 y.2.2.1) (L := fun i c => slices_IndexFunc_4_L2 g.2.2.1 q x i c) (fun i c => slices_IndexFunc_4_L2_eq g.2.2.1 q x i c) (by omega) (fun y hy => ?_)
  have h1 := ok.x x hx
  have h2 := ok.x y hy
  show ∃ b, same_answered_1_1 y q x t = some (b, t) ∧ _
  unfold same_answered_1_1
  by_cases c1 : y.1 = q
  · rw [if_pos (decide_eq_true c1)]
    by_cases c2 : y.2.1 = x.2.1
    · rw [if_pos (decide_eq_true c2)]
      obtain ⟨b, e, hb⟩ := serves1_tells ht (a := x.2.2.1) (b := y.2.2.1) (by omega) (by omega) (by omega) (by omega)
      exact ⟨b, bind_to e rfl, by rw [hb]; exact ⟨fun h => ⟨c1, c2, h⟩, fun h => h.2.2⟩⟩
    · rw [if_neg (by simpa using c2)]; exact ⟨false, rfl, fun h => (by cases h), fun h => absurd h.2.1 c2⟩
  · rw [if_neg (by simpa using c1)]; exact ⟨false, rfl, fun h => (by cases h), fun h => absurd h.1 c1⟩
theorem answered2_tells (ok : GrOk g) {t : List (List Bool)} (ht : Sq g.2.1 t) {p q : Int} : Tells (same_answered_2 g p q t) (Ans g (tE t) p q) := by
  have ha := ok.a
  refine answered_of (C := List (List Bool)) (c := t) (A := fun i => same_answered_2_L2 g p q i t) (F := fun x c => slices_ContainsFunc_2 g.2.2.1 q x c) ha (fun x hx => f2t_tells ok ht hx) (fun i i0 i1 => ?_) ?_
  · show same_answered_2_L2 g p q i t = if _ then (slices_ContainsFunc_2 g.2.2.1 q (ix g.2.2.1 i) t).bind _ else same_answered_2_L2 g p q (i + 1) t
    conv => lhs; rw [same_answered_2_L2_eq]; unfold same_answered_2_L2_B
    rw [if_pos (decide_eq_true i1), G_pos (by omega)]
    have hf : fits (i + 1) := by unfold fits; omega
    by_cases c1 : (ix g.2.2.1 i).1 = p
    · rw [if_pos (decide_eq_true c1), if_pos c1]
      obtain ⟨b, e, hb⟩ := f2t_tells (q := q) ok ht (ix_mem i0 i1)
      have e' : slices_ContainsFunc_2 g.2.2.1 q ((ix g.2.2.1 i).1, ((ix g.2.2.1 i).2.1, ((ix g.2.2.1 i).2.2.1, ()))) t = some (b, t) := e
      rw [e']
      simp only [Option.bind_some, G_pos hf]
    · rw [if_neg (by simpa using c1), if_neg c1, G_pos hf]
  · show same_answered_2_L2 g p q g.2.2.1.length t = _
    rw [same_answered_2_L2_eq]; unfold same_answered_2_L2_B
    rw [if_neg (by simp)]
theorem L17_len {p : Int} {l l' : List (List Bool)} (h : l.length = l'.length) {r : Bool → Int → List (List Bool) → Option (List (List Bool) × Int)} : same_Serves_L17 g p l r = same_Serves_L17 g p l' r := by
  have e : same_Serves_L17_F g p l r = same_Serves_L17_F g p l' r := by
    unfold same_Serves_L17_F same_Serves_L17_B; rw [h]
  funext a b c
  unfold same_Serves_L17
  rw [e]
theorem Serves_pass (ok : GrOk g) {t : List (List Bool)} (ht : Sq g.2.1 t) (hg : Grt g false t) :
    ∃ b' t', same_Serves_L14 g t (same_Serves_L11 g) false 0 t = same_Serves_L11 g b' t' ∧ Sq g.2.1 t' ∧ Grt g false t' ∧ ((b' = false ∧ t' = t ∧ ∀ p q : Int, 0 ≤ p → p < g.2.1 → 0 ≤ q → q < g.2.1 → tE t p q → Cnd g false (tE t) p q) ∨ (b' = true ∧ tabc t' g.2.1.toNat g.2.1.toNat < tabc t g.2.1.toNat g.2.1.toNat)) := by
  have hn := ok.n
  have htl := ht.l
  have := pass_of ok (both := false) (F := fun p b q s => same_Serves_L17 g p t (same_Serves_L14 g t (same_Serves_L11 g)) b q s) (G' := fun b p s => same_Serves_L14 g t (same_Serves_L11 g) b p s) (fun p b s p0 p1 hs => ?_) (fun p q b s p0 p1 q0 q1 hs => ?_) (fun p b s p0 p1 hs => ?_) ht hg
  · obtain ⟨b', t', e, h⟩ := this
    refine ⟨b', t', e.trans ?_, h⟩
    rw [same_Serves_L14_eq]; unfold same_Serves_L14_B
    rw [if_neg (by simp only [decide_eq_true_eq]; omega)]
  · rw [same_Serves_L14_eq]; unfold same_Serves_L14_B
    have hl := hs.l
    rw [if_pos (decide_eq_true (by omega)), L17_len (l := s) (l' := t) (by omega)]
  · have hl := hs.l; have hr := hs.r p p0 p1
    have hJ : ∀ v : Bool, same_Serves_J19 p b q s (same_Serves_L17 g p t (same_Serves_L14 g t (same_Serves_L11 g))) v = if v = true then same_Serves_L17 g p t (same_Serves_L14 g t (same_Serves_L11 g)) true (q + 1) (offC s p q) else same_Serves_L17 g p t (same_Serves_L14 g t (same_Serves_L11 g)) b (q + 1) s := by
      intro v
      unfold same_Serves_J19
      cases v with
      | true => rw [if_pos rfl, if_pos rfl, G_pos (by omega), G_pos (by omega), G_pos (by omega), G_pos (by omega), G_pos (by unfold fits; omega)]; rfl
      | false => rw [if_neg (by decide), if_neg (by decide), G_pos (by unfold fits; omega)]
    conv => lhs; rw [same_Serves_L17_eq]; unfold same_Serves_L17_B
    rw [if_pos (decide_eq_true (by omega)), G_pos (by omega), G_pos (by omega), G_pos (by omega), G_pos (by omega)]
    by_cases c : ix (ix s p) q = true
    · rw [if_pos c]
      obtain ⟨b1, e1, h1⟩ := answered2_tells ok hs (p := p) (q := q)
      refine bind_to e1 ?_
      rw [hJ]
      cases b1 with
      | true => rw [if_neg (by decide), if_neg (fun h => h.2 ⟨h1.1 rfl, fun h => by cases h⟩)]
      | false => rw [if_pos (by decide), if_pos ⟨c, fun h => by cases h1.2 h.1⟩]
    · rw [if_neg c, hJ, if_neg (by decide), if_neg (fun h => c h.1)]
  · rw [same_Serves_L17_eq]; unfold same_Serves_L17_B
    rw [if_neg (by simp only [decide_eq_true_eq]; omega), G_pos (by unfold fits; omega)]
theorem Serves_spec (ok : GrOk g) (h0 : grE g = 0) : ∃ t, same_Serves g = some (t, 0) ∧ GT g false t := by
  have hn := ok.n
  have k11 : ∀ (f : Nat) (t : List (List Bool)), tabc t g.2.1.toNat g.2.1.toNat = f → Sq g.2.1 t → Grt g false t → ∃ t', same_Serves_L11 g true t = some (t', 0) ∧ GT g false t' := by
    intro f
    induction f using Nat.strongRecOn with
    | ind f ih =>
      intro t hf ht hg
      obtain ⟨b', t', e, h1, h2, h3⟩ := Serves_pass ok ht hg
      rw [same_Serves_L11_eq]; unfold same_Serves_L11_B
      rw [if_pos rfl, e]
      rcases h3 with ⟨rfl, rfl, h⟩ | ⟨rfl, h⟩
      · refine ⟨t', ?_, h1, h, h2⟩
        rw [same_Serves_L11_eq]; unfold same_Serves_L11_B
        rw [if_neg (by decide)]
      · exact ih _ (by omega) t' rfl h1 h2
  have hrow : ∀ j : Int, 0 ≤ j → j < g.2.1 → ix (List.replicate g.2.1.toNat true) j = true := fun j j0 j1 => by
    rw [ix_eq j0 (by rw [List.length_replicate]; omega), List.getElem_replicate]
  have k6 : ∀ (m : Nat) (p : Int) (t : List (List Bool)), 0 ≤ p → p + m = g.2.1 → (t.length : Int) = g.2.1 → (∀ a : Int, 0 ≤ a → a < p → ix t a = List.replicate g.2.1.toNat true) → ∃ t', same_Serves_L6 g p t = some (t', 0) ∧ GT g false t' := by
    intro m
    induction m with
    | zero =>
      intro p t p0 hp hl h
      rw [same_Serves_L6_eq]; unfold same_Serves_L6_B
      rw [List.length_replicate, if_neg (by simp only [decide_eq_true_eq]; omega)]
      refine k11 _ t rfl ⟨hl, fun a a0 a1 => ?_⟩ (full_ok fun a b a0 a1 b0 b1 => ?_)
      · rw [h a a0 (by omega), List.length_replicate]; omega
      · unfold tE; rw [h a a0 (by omega)]; exact hrow b b0 b1
    | succ m ih =>
      intro p t p0 hp hl h
      rw [same_Serves_L6_eq]; unfold same_Serves_L6_B
      rw [List.length_replicate, if_pos (decide_eq_true (by omega)), Repeat_spec (by omega)]
      show ∃ t', G _ (G _ _) = _ ∧ _
      rw [G_pos (by omega), G_pos (by unfold fits; omega)]
      refine ih (p + 1) _ (by omega) (by omega) (by simpa using hl) (fun a a0 a1 => ?_)
      by_cases e : p = a
      · subst e; exact ix_set_same p0 (by omega)
      · rw [ix_set_ne p0 a0 e]; exact h a a0 (by omega)
  obtain ⟨t, e, h⟩ := k6 g.2.1.toNat 0 (List.replicate g.2.1.toNat []) (by omega) (by omega) (by simp; omega) (fun a a0 a1 => by omega)
  refine ⟨t, ?_, h⟩
  unfold same_Serves
  refine bind_to same_Check_spec ?_
  rw [show grE (g.1, g.2.1, g.2.2.1, ()) = 0 from h0, if_neg (by simp), G_pos (by unfold mkOK; omega)]
  exact e
end

section
variable {g : Gr}
/-- What cannot be told apart is one for both. -/
theorem table_eqv (ok : GrOk g) {t : List (List Bool)} (h : GT g true t) {L : List (List Int)} (hL : Rds g L) (hst : ∀ p q : Int, 0 ≤ p → p < g.2.1 → 0 ≤ q → q < g.2.1 → cE (ix L ((L.length : Int) - 1)) p q → Fin g (ix L ((L.length : Int) - 1)) p q) :
    ∀ p q : Int, 0 ≤ p → p < g.2.1 → 0 ≤ q → q < g.2.1 → (cE (ix L ((L.length : Int) - 1)) p q ↔ tE t p q) := by
  have hl := hL.l
  have hx : ∀ x ∈ g.2.2.1, 0 ≤ x.2.2.1 ∧ x.2.2.1 < g.2.1 := fun x hx => ⟨(ok.x x hx).2.2.1, (ok.x x hx).2.2.2.1⟩
  have all : ∀ (k : Nat), (k : Int) < L.length → ∀ p q : Int, 0 ≤ p → p < g.2.1 → 0 ≤ q → q < g.2.1 → tE t p q → cE (ix L k) p q := by
    intro k
    induction k with
    | zero =>
      intro _ p q p0 p1 q0 q1 _
      show ix (ix L 0) p = ix (ix L 0) q
      rw [hL.z p p0 p1, hL.z q q0 q1]
    | succ k ih =>
      intro hk p q p0 p1 q0 q1 ht
      have ih' := ih (by omega)
      refine (hL.s k (by omega) (by omega) p q p0 p1 q0 q1).2 ⟨ih' p q p0 p1 q0 q1 ht, ?_, ?_⟩
      · exact (h.post p q p0 p1 q0 q1 ht).1.mono hx ih'
      · have hqp := (h.post p q p0 p1 q0 q1 ht).2 rfl
        exact (h.post q p q0 q1 p0 p1 hqp).1.mono hx ih'
  intro p q p0 p1 q0 q1
  constructor
  · exact h.great (cE (ix L ((L.length : Int) - 1))) (fun p q p0 p1 q0 q1 e => ⟨(hst p q p0 p1 q0 q1 e).2.1, fun _ => Eq.symm e⟩) p q p0 p1 q0 q1
  · intro ht
    have := all (L.length - 1) (by omega) p q p0 p1 q0 q1 ht
    rwa [show ((L.length - 1 : Nat) : Int) = (L.length : Int) - 1 by omega] at this
open Classical in
theorem rClasses_spec (ok : GrOk g) {t : List (List Bool)} (h : GT g true t) (hE : Eqv g.2.1 (tE t)) (et : r20_Table g true = some t) : ∃ c, r20_Classes g = some c ∧ (c.length : Int) = g.2.1 ∧ Can (tE t) c g.2.1 := by
  have hn := ok.n; have hsq := h.sq; have hl := hsq.l
  have k5 : ∀ (m : Nat) (p : Nat) (out : List Int), p + m = g.2.1.toNat → out.length = p → Can (tE t) out p → ∃ c, r20_Classes_L5 g t (news (tE t) p) p out = some c ∧ (c.length : Int) = g.2.1 ∧ Can (tE t) c g.2.1 := by
    intro m
    induction m with
    | zero =>
      intro p out hp ho hc
      refine ⟨out, ?_, by omega, by rw [show g.2.1 = (p : Int) by omega]; exact hc⟩
      rw [r20_Classes_L5_eq]; unfold r20_Classes_L5_B
      rw [if_neg (by simp only [decide_eq_true_eq]; omega)]
    | succ m ih =>
      intro p out hp ho hc
      have hr := hsq.r p (by omega) (by omega)
      have hnb := news_b (E := tE t) p
      have hrg := (hc.rng p (Int.le_refl _)).1
      have hJ : ∀ k, r20_Classes_J10 (news (tE t) p) p out (r20_Classes_L5 g t) k = if k = news (tE t) p then r20_Classes_L5 g t (news (tE t) p + 1) (p + 1) (out ++ [k]) else r20_Classes_L5 g t (news (tE t) p) (p + 1) (out ++ [k]) := by
        intro k
        unfold r20_Classes_J10
        by_cases c : k = news (tE t) p
        · rw [if_pos (decide_eq_true c), if_pos c, G_pos (by unfold fits; omega), G_pos (by unfold room; simp; omega), G_pos (by unfold fits; omega)]
        · rw [if_neg (by simpa using c), if_neg c, G_pos (by unfold room; simp; omega), G_pos (by unfold fits; omega)]
      rw [r20_Classes_L5_eq]; unfold r20_Classes_L5_B
      rw [if_pos (decide_eq_true (by omega))]
      have hput : ∀ k : Int, ((∀ q : Int, 0 ≤ q → q < p → tE t p q → k = ix out q) ∧ ((¬ ∃ q : Int, 0 ≤ q ∧ q < p ∧ tE t p q) → k = news (tE t) p)) → Can (tE t) (out ++ [k]) (p + 1 : Nat) := by
        rintro k ⟨k1, k2⟩ a a0 a1
        by_cases ea : a = p
        · have el : ix (out ++ [k]) a = k := by rw [ea, ← ho, ix_append_last]
          rw [el, ea]
          exact ⟨fun q q0 q1 e => by rw [ix_append_left q0 (by omega)]; exact k1 q q0 q1 e, fun hn => by rw [Int.toNat_natCast]; exact k2 hn⟩
        · obtain ⟨c1, c2⟩ := hc a a0 (by omega)
          rw [ix_append_left a0 (by omega)]
          exact ⟨fun q q0 q1 e => by rw [ix_append_left q0 (by omega)]; exact c1 q q0 q1 e, c2⟩
      by_cases ex : ∃ q : Int, 0 ≤ q ∧ q < p ∧ tE t p q
      · -- the first that is alike
        have e9 : ∃ q : Int, (0 ≤ q ∧ q < p ∧ tE t p q) ∧ r20_Classes_L9 t (news (tE t) p) p out (r20_Classes_L5 g t) (news (tE t) p) 0 = r20_Classes_J10 (news (tE t) p) p out (r20_Classes_L5 g t) (ix out q) := by
          have k9 : ∀ (f : Nat) (q : Int), 0 ≤ q → q + f = p → (∃ r : Int, q ≤ r ∧ r < p ∧ tE t p r) → ∃ r : Int, (0 ≤ r ∧ r < p ∧ tE t p r) ∧ r20_Classes_L9 t (news (tE t) p) p out (r20_Classes_L5 g t) (news (tE t) p) q = r20_Classes_J10 (news (tE t) p) p out (r20_Classes_L5 g t) (ix out r) := by
            intro f
            induction f with
            | zero => intro q q0 hq ⟨r, r0, r1, _⟩; omega
            | succ f ihf =>
              intro q q0 hq ⟨r, r0, r1, r2⟩
              by_cases c : ix (ix t p) q = true
              · refine ⟨q, ⟨q0, by omega, c⟩, ?_⟩
                rw [r20_Classes_L9_eq]; unfold r20_Classes_L9_B
                rw [if_pos (decide_eq_true (by omega)), G_pos (by omega), G_pos (by omega), if_pos c, G_pos (by omega), G_pos (by omega)]
              · obtain ⟨r', h', e'⟩ := ihf (q + 1) (by omega) (by omega) ⟨r, by
                  by_cases er : r = q
                  · rw [er] at r2; exact absurd r2 c
                  · omega, r1, r2⟩
                refine ⟨r', h', ?_⟩
                rw [← e']
                conv => lhs; rw [r20_Classes_L9_eq]; unfold r20_Classes_L9_B
                rw [if_pos (decide_eq_true (by omega)), G_pos (by omega), G_pos (by omega), if_neg c, G_pos (by unfold fits; omega)]
          obtain ⟨q, q0, q1, q2⟩ := ex
          exact k9 p 0 (by omega) (by omega) ⟨q, by omega, q1, q2⟩
        obtain ⟨q, ⟨q0, q1, q2⟩, e⟩ := e9
        have hqr := hrg q q0 q1
        rw [e, hJ, if_neg (by omega)]
        have hnews : news (tE t) (p + 1) = news (tE t) p := by
          show news (tE t) p + _ = _
          rw [if_pos ex]; omega
        have hsame : ∀ r : Int, 0 ≤ r → r < p → tE t p r → ix out q = ix out r := by
          intro r r0 r1 e
          have hqr' : tE t q r := hE.t q p r q0 (by omega) (by omega) (by omega) r0 (by omega) (hE.s p q (by omega) (by omega) q0 (by omega) q2) e
          rcases Int.lt_trichotomy q r with hlt | heq | hgt
          · exact ((hc r r0 r1).1 q q0 hlt (hE.s q r q0 (by omega) r0 (by omega) hqr')).symm
          · rw [heq]
          · exact (hc q q0 q1).1 r r0 hgt hqr'
        have ih' := ih (p + 1) (out ++ [ix out q]) (by omega) (by simp; omega) (hput _ ⟨hsame, fun hn => absurd ex hn⟩)
        rw [hnews] at ih'; exact ih'
      · have e9 : r20_Classes_L9 t (news (tE t) p) p out (r20_Classes_L5 g t) (news (tE t) p) 0 = r20_Classes_J10 (news (tE t) p) p out (r20_Classes_L5 g t) (news (tE t) p) := by
          refine scan_to (len := (p : Int)) (bad := fun _ => False) (by omega) (fun q q0 q1 => ⟨fun h => h.elim, fun _ => ?_⟩) (fun _ => ?_)
          · conv => lhs; rw [r20_Classes_L9_eq]; unfold r20_Classes_L9_B
            rw [if_pos (decide_eq_true q1), G_pos (by omega), G_pos (by omega), if_neg (show ¬ ix (ix t p) q = true from fun h => ex ⟨q, q0, q1, h⟩), G_pos (by unfold fits; omega)]
          · rw [r20_Classes_L9_eq]; unfold r20_Classes_L9_B
            rw [if_neg (by simp)]
        rw [e9, hJ, if_pos rfl]
        have hnews : news (tE t) (p + 1) = news (tE t) p + 1 := by
          show news (tE t) p + _ = _
          rw [if_neg ex]
        have ih' := ih (p + 1) (out ++ [news (tE t) p]) (by omega) (by simp; omega) (hput _ ⟨fun r r0 r1 e => absurd ⟨r, r0, r1, e⟩ ex, fun _ => rfl⟩)
        rw [hnews] at ih'; exact ih'
  obtain ⟨c, e, h⟩ := k5 g.2.1.toNat 0 [] (by omega) rfl (fun p p0 p1 => by omega)
  refine ⟨c, ?_, h⟩
  unfold r20_Classes
  refine bind_to et ?_
  exact e
end

section
variable {g : Gr}
theorem Bools_refl {a : List Bool} (h : a.length ≤ 1000) : r20_Bools a a = some true := by
  unfold r20_Bools
  rw [if_neg (by simp)]
  refine scan_to (len := a.length) (bad := fun _ => False) (by omega) (fun t t0 t1 => ⟨fun h => h.elim, fun _ => ?_⟩) (fun _ => ?_)
  · conv => lhs; rw [r20_Bools_L4_eq]; unfold r20_Bools_L4_B
    rw [if_pos (decide_eq_true t1), G_pos (by omega), G_pos (by omega), if_neg (by simp), G_pos (by unfold fits; omega)]
  · rw [r20_Bools_L4_eq]; unfold r20_Bools_L4_B
    rw [if_neg (by simp)]
theorem Rows_refl {n : Int} (hn : n ≤ 12) {a : List (List Bool)} (h : Sq n a) : r20_Rows a a = some true := by
  have hl := h.l
  unfold r20_Rows
  rw [if_neg (by simp)]
  refine scan_to (len := a.length) (bad := fun _ => False) (by omega) (fun t t0 t1 => ⟨fun h => h.elim, fun _ => ?_⟩) (fun _ => ?_)
  · have hr := h.r t t0 (by omega)
    conv => lhs; rw [r20_Rows_L4_eq]; unfold r20_Rows_L4_B
    rw [if_pos (decide_eq_true t1), G_pos (by omega), G_pos (by omega)]
    refine bind_to (Bools_refl (by omega)) ?_
    rw [if_neg (by decide), G_pos (by unfold fits; omega)]
  · rw [r20_Rows_L4_eq]; unfold r20_Rows_L4_B
    rw [if_neg (by simp)]
end
theorem law_true (g : Gr) : law_SameClasses g = some true := by
  have eg : (g.1, g.2.1, g.2.2.1, ()) = g := rfl
  unfold law_SameClasses
  rw [eg]
  by_cases h0 : grE g = 0
  · have ok := grE_zero h0
    have hn := ok.n
    obtain ⟨L, eL, hL, hL13, hst⟩ := rounds_spec ok
    have hl1 := hL.l
    have hlen := hL.len ((L.length : Int) - 1) (by omega) (by omega)
    obtain ⟨t, et, ht⟩ := Table_spec ok true
    obtain ⟨s, es, hs⟩ := Serves_spec ok h0
    obtain ⟨s', es', hs'⟩ := Table_spec ok false
    obtain rfl := hs.one hs'
    have hiff := table_eqv ok ht hL hst
    have hE : Eqv g.2.1 (tE t) := by
      have hc := cE_eqv (n := g.2.1) (ix L ((L.length : Int) - 1))
      refine ⟨fun p p0 p1 => (hiff p p p0 p1 p0 p1).1 rfl, fun p q p0 p1 q0 q1 h => (hiff q p q0 q1 p0 p1).1 (Eq.symm ((hiff p q p0 p1 q0 q1).2 h)), fun p q r p0 p1 q0 q1 r0 r1 h k => (hiff p r p0 p1 r0 r1).1 (Eq.trans ((hiff p q p0 p1 q0 q1).2 h) ((hiff q r q0 q1 r0 r1).2 k))⟩
    obtain ⟨c, ec, hc1, hc2⟩ := rClasses_spec ok ht hE et
    have hcc : ix L ((L.length : Int) - 1) = c := by
      refine ix_ext (by omega) fun p p0 p1 => ?_
      exact (hL.c.congr hiff).one hc2 g.2.1.toNat p p0 (by omega) (by omega)
    have eC : same_Classes g = some (0, c) := by
      unfold same_Classes
      refine bind_to same_Check_spec ?_
      rw [eg, h0, if_neg (by simp)]
      refine bind_to eL ?_
      rw [G_pos (by unfold fits; omega), G_pos (by omega), G_pos (by omega), hcc]
      exact bind_to (slices_Clone_spec (by omega)) rfl
    refine bind_to eC (bind_to es (bind_to r20_Check_spec ?_))
    rw [if_neg (by simpa using h0)]
    refine bind_to ec (bind_to es' (bind_to (r1_Words_spec (a := c) (b := c) (by omega)) (bind_to (Rows_refl (by omega) hs.sq) ?_)))
    rw [if_pos (by simp), if_pos (by simp), if_pos (by simp)]
  · have eC : same_Classes g = some (grE g, []) := by
      unfold same_Classes
      refine bind_to same_Check_spec ?_
      rw [eg, if_pos (by simpa using h0)]
    have eS : same_Serves g = some ([], grE g) := by
      unfold same_Serves
      refine bind_to same_Check_spec ?_
      rw [eg, if_pos (by simpa using h0)]
    refine bind_to eC (bind_to eS (bind_to r20_Check_spec ?_))
    rw [if_pos (by simpa using h0), if_pos (by simp), if_pos (by simp), G_pos (by unfold fits; simp)]
    simp

end Go.Proofs.Ythfhjngmkbfjpaa.sameClassesW
