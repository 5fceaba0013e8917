/- The law 'CodeUnique' of the plain functions. -/
import Derived.Test.YthepofdgjefncaaCodeUniqueD
set_option maxHeartbeats 1000000
set_option maxRecDepth 20000
set_option linter.unusedSimpArgs false
set_option linter.unusedVariables false
set_option linter.unusedSectionVars false
namespace Go.Proofs.Ythepofdgjefncaa.codeUniqueW
open Go Go.Ab
theorem wrap_nat {n : Nat} (h : n < 9223372036854775808) : IntKind.wrap .i64 (n : Int) = n := by
  unfold IntKind.wrap
  simp [IntKind.bits, IntKind.signed]
  omega
theorem ofInt_nat (m : Nat) : BitVec.ofInt 64 (m : Int) = BitVec.ofNat 64 m := by
  apply BitVec.eq_of_toNat_eq; simp
theorem iand_nat {m n : Nat} (hm : m < 9223372036854775808) (hn : n < 9223372036854775808) : iand .i64 (m : Int) (n : Int) = ((m &&& n : Nat) : Int) := by
  unfold iand
  have h : (BitVec.ofInt IntKind.i64.bits (m : Int) &&& BitVec.ofInt IntKind.i64.bits (n : Int)).toNat = m &&& n := by
    show (BitVec.ofInt 64 (m : Int) &&& BitVec.ofInt 64 (n : Int)).toNat = m &&& n
    rw [ofInt_nat, ofInt_nat, BitVec.toNat_and, BitVec.toNat_ofNat, BitVec.toNat_ofNat, Nat.mod_eq_of_lt (by omega), Nat.mod_eq_of_lt (by omega)]
  rw [h, wrap_nat (Nat.lt_of_le_of_lt Nat.and_le_left hm)]
theorem ior_nat {m n : Nat} (hm : m < 9223372036854775808) (hn : n < 9223372036854775808) : ior .i64 (m : Int) (n : Int) = ((m ||| n : Nat) : Int) := by
  unfold ior
  have h : (BitVec.ofInt IntKind.i64.bits (m : Int) ||| BitVec.ofInt IntKind.i64.bits (n : Int)).toNat = m ||| n := by
    show (BitVec.ofInt 64 (m : Int) ||| BitVec.ofInt 64 (n : Int)).toNat = m ||| n
    rw [ofInt_nat, ofInt_nat, BitVec.toNat_or, BitVec.toNat_ofNat, BitVec.toNat_ofNat, Nat.mod_eq_of_lt (by omega), Nat.mod_eq_of_lt (by omega)]
  rw [h, wrap_nat (Nat.or_lt_two_pow (n := 63) hm hn)]
theorem ishl_nat {m k : Nat} (hk : k < 63) (h : m * 2 ^ k < 9223372036854775808) : ishl .i64 (m : Int) (k : Int) = ((m <<< k : Nat) : Int) := by
  unfold ishl
  have e : min ((k : Int).toNat) IntKind.i64.bits = k := by
    show min ((k : Int).toNat) 64 = k
    omega
  rw [e, Nat.shiftLeft_eq]
  have : (m : Int) * 2 ^ k = ((m * 2 ^ k : Nat) : Int) := by push_cast; rfl
  rw [this, wrap_nat h]
theorem ishr_nat {m k : Nat} (hk : k ≤ 64) : ishr .i64 (m : Int) (k : Int) = ((m >>> k : Nat) : Int) := by
  unfold ishr
  have e : min ((k : Int).toNat) IntKind.i64.bits = k := by
    show min ((k : Int).toNat) 64 = k
    omega
  rw [e, Nat.shiftRight_eq_div_pow, Int.fdiv_eq_ediv_of_nonneg _ (by exact_mod_cast Nat.zero_le _)]
  push_cast; rfl
/-- Bits: the q-th one is put. -/
theorem ior_bit {m q : Nat} (hm : m < 4611686018427387904) (hq : q < 62) : ior .i64 (m : Int) (ishl .i64 1 (q : Int)) = ((m ||| 2 ^ q : Nat) : Int) ∧ m ||| 2 ^ q < 4611686018427387904 := by
  have h2 : 2 ^ q < 4611686018427387904 := Nat.pow_lt_pow_right (a := 2) (n := 62) (by omega) hq
  have h1 : ishl .i64 1 (q : Int) = ((2 ^ q : Nat) : Int) := by
    have := ishl_nat (m := 1) (k := q) (by omega) (by omega)
    rw [Nat.shiftLeft_eq, Nat.one_mul] at this
    exact this
  rw [h1, ior_nat (by omega) (by omega)]
  exact ⟨rfl, Nat.or_lt_two_pow (n := 62) hm h2⟩

/-- The answer is yes just if P. -/
def Tells (o : Option Bool) (P : Prop) : Prop := ∃ b, o = some b ∧ (b = true ↔ P)
theorem Tells.of {b : Bool} {P : Prop} (h : b = true ↔ P) : Tells (some b) P := ⟨b, rfl, h⟩
theorem Tells.dec {P Q : Prop} [Decidable P] (h : P ↔ Q) : Tells (some (decide P)) Q := ⟨_, rfl, by simpa using h⟩
theorem Tells.iff {o : Option Bool} {P Q : Prop} (h : Tells o P) (k : P ↔ Q) : Tells o Q := let ⟨b, h1, h2⟩ := h; ⟨b, h1, h2.trans k⟩
theorem Tells.eq {o : Option Bool} {P : Prop} [Decidable P] (h : Tells o P) : o = some (decide P) := by
  obtain ⟨b, rfl, hb⟩ := h
  by_cases hp : P
  · simp [hp, hb.2 hp]
  · have : b = false := by cases b; rfl; exact absurd (hb.1 rfl) hp
    simp [hp, this]
theorem Tells.to {R : Type} {o : Option Bool} {P : Prop} {k1 k2 x : Option R} (h : Tells o P) (h1 : P → k1 = x) (h2 : ¬ P → k2 = x) : (o.bind fun y => if y = true then k1 else k2) = x := by
  obtain ⟨b, rfl, hb⟩ := h
  refine bind_to rfl ?_
  cases b
  · exact h2 fun hp => by simpa using hb.2 hp
  · exact h1 (hb.1 rfl)
theorem Tells.bind {R : Type} {o : Option Bool} {P : Prop} {k : Bool → Option R} {x : Option R} (h : Tells o P) (h1 : ∀ b, (b = true ↔ P) → k b = x) : o.bind k = x := by
  obtain ⟨b, rfl, hb⟩ := h
  exact h1 b hb
section
variable {α C : Type} [Inhabited α]
theorem ex_ix {l : List α} {P : α → Prop} : (∃ x ∈ l, P x) ↔ ∃ i : Int, 0 ≤ i ∧ i < l.length ∧ P (ix l i) := by
  constructor
  · rintro ⟨x, hx, hp⟩
    obtain ⟨i, hi, rfl⟩ := List.mem_iff_getElem.1 hx
    refine ⟨i, by omega, by omega, ?_⟩
    rwa [ix_eq (by omega) (by omega)]
  · rintro ⟨i, h0, h1, hp⟩
    exact ⟨_, ix_mem h0 h1, hp⟩
theorem index_loop {s : List α} {f : α → Option Bool} {L : Int → Option Int} {P : α → Prop} (hs : s.length ≤ 4611686018427387904)
    (hL : ∀ t, L t = if decide (t < (s.length : Int)) = true then G (0 ≤ t ∧ t < (s.length : Int)) ((f (ix s t)).bind fun y => if y = true then some t else G (fits (t + 1)) (L (t + 1))) else some (-1))
    (hf : ∀ x ∈ s, Tells (f x) (P x)) : ∀ (n : Nat) (t : Int), 0 ≤ t → t ≤ s.length → (s.length - t).toNat = n →
      ∃ i, L t = some i ∧ ((i = -1 ∧ ∀ j : Int, t ≤ j → j < s.length → ¬ P (ix s j)) ∨ (t ≤ i ∧ i < s.length ∧ P (ix s i) ∧ ∀ j : Int, t ≤ j → j < i → ¬ P (ix s j))) := by
  intro n
  induction n with
  | zero =>
    intro t h0 h1 hn
    refine ⟨-1, ?_, .inl ⟨rfl, fun j a b => by omega⟩⟩
    rw [hL, if_neg (by simp; omega)]
  | succ n ih =>
    intro t h0 h1 hn
    rw [hL, if_pos (by simp; omega), G_pos (by omega)]
    obtain ⟨b, hb, hbp⟩ := hf _ (ix_mem h0 (by omega : t < s.length))
    rw [hb]
    cases b with
    | true => exact ⟨t, rfl, .inr ⟨by omega, by omega, hbp.1 rfl, fun j a b => by omega⟩⟩
    | false =>
      have hnp : ¬ P (ix s t) := fun hp => by simpa using hbp.2 hp
      obtain ⟨i, hi, hc⟩ := ih (t + 1) (by omega) (by omega) (by omega)
      refine ⟨i, ?_, ?_⟩
      · refine (if_neg (by simp) : (if false = true then some t else G (fits (t + 1)) (L (t + 1))) = _).trans ?_
        rw [G_pos (by unfold fits; omega), hi]
      · rcases hc with ⟨h2, h3⟩ | ⟨h2, h3, h4, h5⟩
        · refine .inl ⟨h2, fun j a b => ?_⟩
          by_cases e : j = t
          · rw [e]; exact hnp
          · exact h3 j (by omega) b
        · refine .inr ⟨by omega, h3, h4, fun j a b => ?_⟩
          by_cases e : j = t
          · rw [e]; exact hnp
          · exact h5 j (by omega) b
theorem contains_tells {s : List α} {f : α → Option Bool} {L : Int → Option Int} {P : α → Prop}
    (hL : ∀ t, L t = if decide (t < (s.length : Int)) = true then G (0 ≤ t ∧ t < (s.length : Int)) ((f (ix s t)).bind fun y => if y = true then some t else G (fits (t + 1)) (L (t + 1))) else some (-1))
    (hs : s.length ≤ 4611686018427387904) (hf : ∀ x ∈ s, Tells (f x) (P x)) : Tells ((L 0).bind fun y => some (decide ((0 : Int) ≤ y))) (∃ x ∈ s, P x) := by
  obtain ⟨i, hi, hc⟩ := index_loop hs hL hf _ 0 (by omega) (by omega) rfl
  rw [hi]
  refine ⟨decide (0 ≤ i), rfl, ?_⟩
  rw [decide_eq_true_iff, ex_ix]
  rcases hc with ⟨h2, h3⟩ | ⟨h2, h3, h4, h5⟩
  · constructor
    · intro h; omega
    · rintro ⟨j, h0, h1, hp⟩; exact absurd hp (h3 j h0 h1)
  · exact ⟨fun _ => ⟨i, by omega, h3, h4⟩, fun _ => by omega⟩
/-- .. of what carries along what it reads. -/
theorem contains_tells2 {s : List α} {c : C} {f : α → C → Option (Bool × C)} {L : Int → C → Option (Int × C)} {P : α → Prop}
    (hL : ∀ t c, L t c = if decide (t < (s.length : Int)) = true then G (0 ≤ t ∧ t < (s.length : Int)) ((f (ix s t) c).bind fun y => if y.1 = true then some (t, y.2) else G (fits (t + 1)) (L (t + 1) y.2)) else some (-1, c))
    (hs : s.length ≤ 4611686018427387904) (hf : ∀ x ∈ s, ∃ b, f x c = some (b, c) ∧ (b = true ↔ P x)) : ∃ b, ((L 0 c).bind fun y => some (decide ((0 : Int) ≤ y.1), y.2)) = some (b, c) ∧ (b = true ↔ ∃ x ∈ s, P x) := by
  have key : ∀ (n : Nat) (t : Int), 0 ≤ t → t ≤ s.length → (s.length - t).toNat = n →
      ∃ i, L t c = some (i, c) ∧ ((i = -1 ∧ ∀ j : Int, t ≤ j → j < s.length → ¬ P (ix s j)) ∨ (t ≤ i ∧ i < s.length ∧ P (ix s i))) := by
    intro n
    induction n with
    | zero =>
      intro t h0 h1 hn
      refine ⟨-1, ?_, .inl ⟨rfl, fun j a b => by omega⟩⟩
      rw [hL, if_neg (by simp; omega)]
    | succ n ih =>
      intro t h0 h1 hn
      rw [hL, if_pos (by simp; omega), G_pos (by omega)]
      obtain ⟨b, hb, hbp⟩ := hf _ (ix_mem h0 (by omega : t < s.length))
      rw [hb]
      cases b with
      | true => exact ⟨t, rfl, .inr ⟨by omega, by omega, hbp.1 rfl⟩⟩
      | false =>
        have hnp : ¬ P (ix s t) := fun hp => by simpa using hbp.2 hp
        obtain ⟨i, hi, hc⟩ := ih (t + 1) (by omega) (by omega) (by omega)
        refine ⟨i, ?_, ?_⟩
        · refine (if_neg (by simp) : (if false = true then some (t, c) else G (fits (t + 1)) (L (t + 1) c)) = _).trans ?_
          rw [G_pos (by unfold fits; omega), hi]
        · rcases hc with ⟨h2, h3⟩ | ⟨h2, h3, h4⟩
          · refine .inl ⟨h2, fun j a b => ?_⟩
            by_cases e : j = t
            · rw [e]; exact hnp
            · exact h3 j (by omega) b
          · exact .inr ⟨by omega, h3, h4⟩
  obtain ⟨i, hi, hc⟩ := key _ 0 (by omega) (by omega) rfl
  rw [hi]
  refine ⟨decide (0 ≤ i), rfl, ?_⟩
  rw [decide_eq_true_iff, ex_ix]
  rcases hc with ⟨h2, h3⟩ | ⟨h2, h3, h4⟩
  · constructor
    · intro h; omega
    · rintro ⟨j, h0, h1, hp⟩; exact absurd hp (h3 j h0 h1)
  · exact ⟨fun _ => ⟨i, by omega, h3, h4⟩, fun _ => by omega⟩
end
/-- A loop that looks for the first fault. -/
theorem scan_to {R : Type} {len : Int} {L : Int → Option R} {bad : Int → Prop} {x : Option R} {lo : Int} (h0 : lo ≤ len)
    (hs : ∀ t, lo ≤ t → t < len → (bad t → L t = x) ∧ (¬ bad t → L t = L (t + 1))) (hf : (∀ t, lo ≤ t → t < len → ¬ bad t) → L len = x) : L lo = x := by
  have key : ∀ (n : Nat) (t : Int), lo ≤ t → t ≤ len → (len - t).toNat = n → (∀ j, lo ≤ j → j < t → ¬ bad j) → L t = x := by
    intro n
    induction n with
    | zero =>
      intro t h1 h2 hn h
      obtain rfl : t = len := by omega
      exact hf h
    | succ n ih =>
      intro t h1 h2 hn h
      by_cases hb : bad t
      · exact (hs t h1 (by omega)).1 hb
      · rw [(hs t h1 (by omega)).2 hb]
        refine ih (t + 1) (by omega) (by omega) (by omega) fun j a b => ?_
        by_cases e : j = t
        · rw [e]; exact hb
        · exact h j a (by omega)
  exact key _ lo (Int.le_refl _) h0 rfl (fun j a b => by omega)
/-- A loop that counts, with a state. -/
theorem fold_to {R S : Type} {len : Int} {L : Int → S → Option R} {f : Int → S → S} {lo : Int} {I : Int → S → Prop} {s : S} (h0 : lo ≤ len) (hI : I lo s)
    (hs : ∀ t s, lo ≤ t → t < len → I t s → L t s = L (t + 1) (f t s) ∧ I (t + 1) (f t s)) : ∃ s', I len s' ∧ L lo s = L len s' := by
  have key : ∀ (n : Nat) (t : Int) (s : S), lo ≤ t → t ≤ len → (len - t).toNat = n → I t s → ∃ s', I len s' ∧ L t s = L len s' := by
    intro n
    induction n with
    | zero =>
      intro t s h1 h2 hn h
      obtain rfl : t = len := by omega
      exact ⟨s, h, rfl⟩
    | succ n ih =>
      intro t s h1 h2 hn h
      obtain ⟨e, h3⟩ := hs t s h1 (by omega) h
      obtain ⟨s', h4, h5⟩ := ih (t + 1) _ (by omega) (by omega) (by omega) h3
      exact ⟨s', h4, e.trans h5⟩
  exact key _ lo s (Int.le_refl _) h0 rfl hI

theorem r1_Words_L4_spec {a b : List Int} (hl : a.length = b.length) : ∀ (n : Nat) (i : Int), 0 ≤ i → i ≤ a.length → (a.length - i).toNat = n → a.length ≤ 2305843009213693951 → (∀ j : Int, 0 ≤ j → j < i → ix a j = ix b j) → r1_Words_L4 a b i = some (decide (a = b)) := by
  intro n
  induction n with
  | zero =>
    intro i h0 h1 hn hs h
    rw [r1_Words_L4_eq]; unfold r1_Words_L4_B
    (try dsimp only); (repeat' first | (with_reducible refine G_to ?_ ?_; focus (first | omega | (unfold fits; omega) | (unfold room; (try simp only [List.length_append, List.length_cons, List.length_nil]); omega))) | (with_reducible refine both_to ?_ ?_) | (with_reducible refine itet_to ?_) | (with_reducible refine itef_to ?_) | (with_reducible refine ite_to (fun _ => ?_) (fun _ => ?_))) <;> try (exfalso; omega)
    · rw [Option.some_inj, eq_comm, decide_eq_true_iff]; exact ix_ext hl (fun j a b => h j a (by omega))
  | succ n ih =>
    intro i h0 h1 hn hs h
    rw [r1_Words_L4_eq]; unfold r1_Words_L4_B
    (try dsimp only); (repeat' first | (with_reducible refine G_to ?_ ?_; focus (first | omega | (unfold fits; omega) | (unfold room; (try simp only [List.length_append, List.length_cons, List.length_nil]); omega))) | (with_reducible refine both_to ?_ ?_) | (with_reducible refine itet_to ?_) | (with_reducible refine itef_to ?_) | (with_reducible refine ite_to (fun _ => ?_) (fun _ => ?_))) <;> try (exfalso; omega)
    · rw [Option.some_inj, eq_comm, decide_eq_false_iff_not]; rintro rfl; contradiction
    · rename_i hx; exact ih _ (by omega) (by omega) (by omega) hs (below_succ h (Decidable.not_not.1 hx))
theorem r1_Words_spec {a b : List Int} (hs : a.length ≤ 2305843009213693951) : r1_Words a b = some (decide (a = b)) := by
  unfold r1_Words
  (try dsimp only); (repeat' first | (with_reducible refine G_to ?_ ?_; focus (first | omega | (unfold fits; omega) | (unfold room; (try simp only [List.length_append, List.length_cons, List.length_nil]); omega))) | (with_reducible refine both_to ?_ ?_) | (with_reducible refine itet_to ?_) | (with_reducible refine itef_to ?_) | (with_reducible refine ite_to (fun _ => ?_) (fun _ => ?_))) <;> try (exfalso; omega)
  · rw [Option.some_inj, eq_comm, decide_eq_false_iff_not]; rintro rfl; contradiction
  · exact r1_Words_L4_spec (by omega) _ 0 (by omega) (by omega) rfl hs (fun j a b => by omega)

theorem slices_Clone_spec {s : List Int} (hs : s.length * 8 ≤ 140737488355328) : slices_Clone s = some s := by
  have hr : G (room ([] : List Int) s 8) (some (([] : List Int) ++ s)) = some s := by
    rw [G_pos (room_of (by simpa using hs))]; rfl
  unfold slices_Clone
  refine itep_to (fun h => ?_) (fun h => hr)
  obtain rfl : s = [] := List.length_eq_zero_iff.1 h
  rw [hr]; exact both_self (ts := [(.list (.int .i64))]) (some ([] : List Int))

theorem mfind_none {α : Type} : ∀ {ks : List α} {x : α}, mfind ks x = none ↔ x ∉ ks
  | [], x => by simp [mfind]
  | y :: ys, x => by
    unfold mfind
    by_cases h : y = x
    · rw [if_pos h]; simp [h]
    · rw [if_neg h, Option.map_eq_none_iff, mfind_none]
      simp [Ne.symm h]
/-- A map that only marks: all its elements are one. -/
abbrev ones {α : Type} (ks : List α) : List Int := List.replicate ks.length 1
theorem mget_ones {α : Type} {ks : List α} {x : α} : (mget ks (ones ks) x 0 = 0) ↔ x ∉ ks := by
  unfold mget
  cases h : mfind ks x with
  | none => simp [mfind_none.1 h]
  | some j =>
    have hx : x ∈ ks := by
      refine Classical.byContradiction fun hn => ?_
      rw [mfind_none.2 hn] at h; cases h
    have := mfind_lt h
    simp [hx, this]
theorem mputK_new {α : Type} {ks : List α} {x : α} (h : x ∉ ks) : mputK ks x = ks ++ [x] := by
  unfold mputK; rw [mfind_none.2 h]
theorem mputV_new {α : Type} {ks : List α} {x : α} (h : x ∉ ks) : mputV ks (ones ks) x 1 = ones (ks ++ [x]) := by
  unfold mputV; rw [mfind_none.2 h]
  show List.replicate ks.length 1 ++ [1] = List.replicate (ks ++ [x]).length 1
  rw [List.length_append, List.length_singleton, List.replicate_succ']

theorem pigeon {α : Type} [DecidableEq α] : ∀ {l U : List α}, l.Nodup → (∀ x ∈ l, x ∈ U) → l.length ≤ U.length
  | [], _, _, _ => Nat.zero_le _
  | a :: l, U, hn, hs => by
    have ha := hs a (by simp)
    obtain ⟨h1, h2⟩ := List.nodup_cons.1 hn
    have := pigeon (U := U.erase a) h2 (fun x hx => (List.mem_erase_of_ne (by rintro rfl; exact h1 hx)).2 (hs x (by simp [hx])))
    rw [List.length_erase_of_mem ha] at this
    have hp : 0 < U.length := List.length_pos_of_mem ha
    rw [List.length_cons]; omega
theorem pigeon_int {l : List Int} {n : Nat} (h : l.Nodup) (hb : ∀ x ∈ l, 0 ≤ x ∧ x < n) : l.length ≤ n := by
  have := pigeon (U := (List.range n).map Int.ofNat) h (fun x hx => by
    have := hb x hx
    exact List.mem_map.2 ⟨x.toNat, List.mem_range.2 (by omega), by show ((x.toNat : Nat) : Int) = x; omega⟩)
  simpa using this

theorem mfind_mem {α : Type} {ks : List α} {x : α} (h : x ∈ ks) : ∃ j, mfind ks x = some j := by
  cases e : mfind ks x with
  | none => exact absurd h (mfind_none.1 e)
  | some j => exact ⟨j, rfl⟩
theorem mfind_hd {α : Type} (ks : List α) (x : α) : mfind (x :: ks) x = some 0 := by unfold mfind; rw [if_pos rfl]
theorem mfind_tl {α : Type} {ks : List α} {x y : α} (h : y ≠ x) : mfind (y :: ks) x = (mfind ks x).map (· + 1) := by
  rw [mfind, if_neg h]
theorem mfind_app {α : Type} : ∀ {ks : List α} {x : α} {j : Nat} (l : List α), mfind ks x = some j → mfind (ks ++ l) x = some j
  | [], _, _, _, h => by cases h
  | y :: ks, x, j, l, h => by
    rw [List.cons_append]
    by_cases e : y = x
    · subst e; rw [mfind_hd] at h ⊢; exact h
    · rw [mfind_tl e] at h ⊢
      cases hm : mfind ks x with
      | none => rw [hm] at h; cases h
      | some i => rw [hm] at h; rw [mfind_app l hm]; exact h
theorem mfind_new {α : Type} : ∀ {ks : List α} {x : α}, x ∉ ks → mfind (ks ++ [x]) x = some ks.length
  | [], x, _ => mfind_hd _ _
  | y :: ks, x, h => by
    have hy : y ≠ x := by rintro rfl; exact h (by simp)
    rw [List.cons_append, mfind_tl hy, mfind_new (fun hh => h (by simp [hh]))]; rfl
theorem mfind_at {α : Type} : ∀ {ks : List α} {x : α} {k : Nat}, ks[k]? = some x → (∀ j, j < k → ks[j]? ≠ some x) → mfind ks x = some k
  | [], _, _, h, _ => by simp at h
  | y :: ks, x, k, h, hf => by
    cases k with
    | zero =>
      have : y = x := by simpa using h
      subst this; exact mfind_hd _ _
    | succ k =>
      have hy : y ≠ x := by have := hf 0 (by omega); simpa using this
      rw [mfind_tl hy, mfind_at (k := k) (by simpa using h) (fun j hj => by have := hf (j + 1) (by omega); simpa using this)]; rfl
theorem mfind_inj {α : Type} {ks : List α} {x y : α} {j : Nat} (h : mfind ks x = some j) (k : mfind ks y = some j) : x = y := by
  have := mfind_get h; rw [mfind_get k] at this; injection this with this; exact this.symm
theorem mfind_nodup {α : Type} {ks : List α} (hn : ks.Nodup) {j : Nat} (hj : j < ks.length) : mfind ks ks[j] = some j :=
  mfind_at (by simp) fun i hi e => by
    have hi' : i < ks.length := by omega
    rw [List.getElem?_eq_getElem hi'] at e
    exact List.pairwise_iff_getElem.1 hn i j hi' hj hi (Option.some.inj e)
theorem mfind_map {α β : Type} (f : α → β) : ∀ {ks : List α} {x : α}, (∀ y ∈ ks, f y = f x → y = x) → mfind (ks.map f) (f x) = mfind ks x
  | [], _, _ => rfl
  | y :: ks, x, h => by
    have ih := mfind_map f (ks := ks) (x := x) (fun z hz => h z (by simp [hz]))
    rw [List.map_cons]
    by_cases e : y = x
    · subst e; rw [mfind_hd, mfind_hd]
    · rw [mfind_tl e, mfind_tl (fun hh => e (h y (by simp) hh)), ih]
/-- 0, 1, 2, .. -/
def iota (n : Nat) : List Int := (List.range n).map fun j : Nat => (j : Int)
theorem iota_len (n : Nat) : (iota n).length = n := by simp [iota]
theorem iota_succ (n : Nat) : iota (n + 1) = iota n ++ [(n : Int)] := by simp [iota, List.range_succ]
theorem mget_iota {α : Type} {ks : List α} {x : α} {j : Nat} (h : mfind ks x = some j) : mget ks (iota ks.length) x 0 = j := by
  have := mfind_lt h
  unfold mget; rw [h]
  simp [iota, this]
theorem mhas_iff {α : Type} {ks : List α} {x : α} : mhas ks x = true ↔ x ∈ ks := by
  unfold mhas
  cases e : mfind ks x with
  | none => simp [mfind_none.1 e]
  | some j =>
    have := mfind_get e
    simp [List.mem_of_getElem? this]
theorem mputV_iota {α : Type} {ks : List α} {x : α} (h : x ∉ ks) : mputV ks (iota ks.length) x ks.length = iota (ks ++ [x]).length := by
  unfold mputV; rw [mfind_none.2 h, List.length_append, List.length_singleton, iota_succ]
theorem cover_nodup {α : Type} [DecidableEq α] : ∀ {l U : List α}, U.Nodup → (∀ x ∈ U, x ∈ l) → l.length ≤ U.length → l.Nodup
  | [], _, _, _, _ => List.nodup_nil
  | a :: l, U, hU, hs, hl => by
    have ha : a ∉ l := fun ha => by
      have := pigeon (l := U) (U := l) hU (fun x hx => by
        rcases List.mem_cons.1 (hs x hx) with rfl | h
        · exact ha
        · exact h)
      rw [List.length_cons] at hl; omega
    refine List.nodup_cons.2 ⟨ha, ?_⟩
    refine cover_nodup (U := U.erase a) (hU.erase a) (fun x hx => ?_) ?_
    · have hne : x ≠ a := ((List.Nodup.mem_erase_iff hU).1 hx).1
      rcases List.mem_cons.1 (hs x (List.mem_of_mem_erase hx)) with h | h
      · exact absurd h hne
      · exact h
    · have : U.length - 1 ≤ (U.erase a).length := by
        by_cases h : a ∈ U
        · rw [List.length_erase_of_mem h]; omega
        · rw [List.erase_of_not_mem h]; omega
      rw [List.length_cons] at hl; omega

/-- The bytes of a list of small numbers. -/
def keyL (l : List Int) : List Int := l.flatMap fun x => [IntKind.wrap .u8 x, IntKind.wrap .u8 (ishr .i64 x 8)]
def keyB (l : List Int) : List UInt8 := bstr (keyL l)
theorem wrap_u8 (x : Int) : IntKind.wrap .u8 x = x % 256 := by
  unfold IntKind.wrap
  simp [IntKind.bits, IntKind.signed]
theorem keyB_cons (x : Int) (l : List Int) : keyB (x :: l) = UInt8.ofNat (x % 256).toNat :: UInt8.ofNat (ishr .i64 x 8 % 256).toNat :: keyB l := by
  unfold keyB keyL bstr
  simp [wrap_u8]
theorem u8_inj {a b : Int} (h : UInt8.ofNat (a % 256).toNat = UInt8.ofNat (b % 256).toNat) : a % 256 = b % 256 := by
  have := congrArg UInt8.toNat h
  simp only [UInt8.toNat_ofNat'] at this
  omega
theorem keyB_inj : ∀ {l k : List Int}, (∀ x ∈ l, 0 ≤ x ∧ x < 65536) → (∀ x ∈ k, 0 ≤ x ∧ x < 65536) → keyB l = keyB k → l = k
  | [], [], _, _, _ => rfl
  | [], y :: k, _, _, h => by rw [keyB_cons] at h; cases h
  | x :: l, [], _, _, h => by rw [keyB_cons] at h; cases h
  | x :: l, y :: k, hl, hk, h => by
    rw [keyB_cons, keyB_cons] at h
    injection h with h1 h
    injection h with h2 h
    have hx := hl x (by simp)
    have hy := hk y (by simp)
    have e1 := u8_inj h1
    have e2 := u8_inj h2
    obtain ⟨a, rfl⟩ : ∃ a : Nat, x = a := ⟨x.toNat, by omega⟩
    obtain ⟨b, rfl⟩ : ∃ b : Nat, y = b := ⟨y.toNat, by omega⟩
    rw [show (8 : Int) = ((8 : Nat) : Int) from rfl, ishr_nat (by omega), ishr_nat (by omega), Nat.shiftRight_eq_div_pow, Nat.shiftRight_eq_div_pow] at e2
    have : a = b := by omega
    rw [this, keyB_inj (fun z hz => hl z (by simp [hz])) (fun z hz => hk z (by simp [hz])) h]
theorem keyL_len (l : List Int) : (keyL l).length = 2 * l.length := by
  induction l with
  | nil => rfl
  | cons x l ih => unfold keyL at *; rw [List.flatMap_cons, List.length_append, ih]; simp; omega
/-- A row of so many numbers. -/
def mkR (n : Nat) (g : Int → Int) : List Int := (List.range n).map fun a : Nat => g a
theorem mkR_len (n : Nat) (g : Int → Int) : (mkR n g).length = n := by simp [mkR]
theorem mkR_ix {n : Nat} {g : Int → Int} {a : Int} (h0 : 0 ≤ a) (h1 : a < n) : ix (mkR n g) a = g a := by
  rw [ix_eq h0 (by rw [mkR_len]; exact h1)]
  simp [mkR, Int.toNat_of_nonneg h0]
theorem mkR_of {n : Nat} {g : Int → Int} {l : List Int} (hl : l.length = n) (h : ∀ a : Int, 0 ≤ a → a < n → ix l a = g a) : l = mkR n g :=
  ix_ext (by rw [mkR_len, hl]) fun j j0 j1 => by rw [mkR_ix j0 (by omega), h j j0 (by omega)]

theorem det_Key_spec {l : List Int} (hl : l.length ≤ 1000000) : det_Key l = some (keyB l) := by
  have key : ∀ (n : Nat) (t : Int), (l.length - t).toNat = n → 0 ≤ t → t ≤ l.length → det_Key_L3 l t (keyL (l.take t.toNat)) = some (keyB l) := by
    intro n
    induction n with
    | zero =>
      intro t hn h0 h1
      rw [det_Key_L3_eq]; unfold det_Key_L3_B
      rw [if_neg (by simp; omega), List.take_of_length_le (by omega)]; rfl
    | succ n ih =>
      intro t hn h0 h1
      rw [det_Key_L3_eq]; unfold det_Key_L3_B
      have hk := keyL_len (l.take t.toNat)
      rw [List.length_take] at hk
      rw [if_pos (by simp; omega)]
      refine G_to (by omega) (G_to (by omega) (G_to (by unfold room; simp; omega) (G_to (by unfold fits; omega) ?_)))
      rw [← ih (t + 1) (by omega) (by omega) (by omega), ix_take h0 (by omega)]
      unfold keyL
      rw [List.flatMap_append]
      rfl
  unfold det_Key
  exact key _ 0 rfl (by omega) (by omega)
theorem mget_nz {α : Type} {ks : List α} {vs : List Int} {x : α} (hl : vs.length = ks.length) (hv : ∀ v ∈ vs, v ≠ 0) : mget ks vs x 0 = 0 ↔ x ∉ ks := by
  unfold mget
  cases e : mfind ks x with
  | none => simp [mfind_none.1 e]
  | some j =>
    have hj := mfind_lt e
    have hx := List.mem_of_getElem? (mfind_get e)
    have h1 : vs.getD j 0 = vs[j] := by simp [List.getD_eq_getElem?_getD, show j < vs.length by omega]
    have := hv _ (List.getElem_mem (show j < vs.length by omega))
    show vs.getD j 0 = 0 ↔ _
    rw [h1]
    exact ⟨fun e2 => absurd e2 this, fun e2 => absurd hx e2⟩
/-- All rows of so many numbers below b. -/
def allV (b : Nat) : Nat → List (List Int)
  | 0 => [[]]
  | n + 1 => (allV b n).flatMap fun l => (List.range b).map fun x : Nat => (x : Int) :: l
theorem allV_len (b : Nat) : ∀ n, (allV b n).length = b ^ n
  | 0 => rfl
  | n + 1 => by
    unfold allV
    have key : ∀ u : List (List Int), (u.flatMap fun l => (List.range b).map fun x : Nat => (x : Int) :: l).length = u.length * b := by
      intro u
      induction u with
      | nil => simp
      | cons x u ih => rw [List.flatMap_cons, List.length_append, ih, List.length_map, List.length_range, List.length_cons, Nat.succ_mul, Nat.add_comm]
    rw [key, allV_len b n, Nat.pow_succ]
theorem allV_mem {b : Nat} : ∀ {l : List Int}, (∀ x ∈ l, 0 ≤ x ∧ x < b) → l ∈ allV b l.length
  | [], _ => by simp [allV]
  | x :: l, h => by
    have hx := h x (by simp)
    rw [List.length_cons, allV, List.mem_flatMap]
    exact ⟨l, allV_mem (fun y hy => h y (by simp [hy])), List.mem_map.2 ⟨x.toNat, List.mem_range.2 (by omega), by rw [Int.toNat_of_nonneg hx.1]⟩⟩

theorem Equal_spec {a b : List Int} (ha : a.length ≤ 1000) : slices_Equal a b = some (decide (a = b)) := by
  unfold slices_Equal
  by_cases hl : (a.length : Int) = b.length
  · rw [if_neg (by simpa using hl)]
    refine scan_to (len := (a.length : Int)) (bad := fun t => ix a t ≠ ix b t) (lo := 0) (by omega) (fun t t0 t1 => ⟨fun hb => ?_, fun hb => ?_⟩) (fun hh => ?_)
    · rw [slices_Equal_L4_eq]; unfold slices_Equal_L4_B
      rw [if_pos (by simp; omega)]
      refine G_to (by omega) (G_to (by omega) ?_)
      rw [if_pos (by simpa using hb), decide_eq_false (fun e => hb (by rw [e]))]
    · conv => lhs; rw [slices_Equal_L4_eq]; unfold slices_Equal_L4_B
      rw [if_pos (by simp; omega)]
      refine G_to (by omega) (G_to (by omega) ?_)
      rw [if_neg (by simpa using hb)]
      exact G_to (by unfold fits; omega) rfl
    · rw [slices_Equal_L4_eq]; unfold slices_Equal_L4_B
      rw [if_neg (by simp), decide_eq_true (ix_ext (by omega) fun t t0 t1 => Decidable.not_not.1 (hh t t0 t1))]
  · rw [if_pos (by simpa using hl), decide_eq_false (fun e => hl (by rw [e]))]

abbrev Rs := List Int × List Int × List Int × Unit
theorem cut_take {l : List Int} {n : Nat} : cut l 0 (n : Int) = l.take n := by unfold cut; simp
theorem cut_drop {l : List Int} {k : Nat} : cut l (k : Int) (l.length : Int) = l.drop k := by unfold cut; simp
theorem list_spec {w : List Int} (hs : w.length * 8 ≤ 140737488351232) : law_list w = some w := by
  unfold law_list
  refine G_to (by unfold fits; omega) ?_
  refine G_to (by unfold mkOK; omega) ?_
  simp
theorem lists_spec {l : List (List Int)} (h1 : l.length * 24 ≤ 140737488351232) (h2 : ∀ w ∈ l, w.length * 8 ≤ 140737488351232) : law_lists l = some l := by
  have key : ∀ (f i : Nat), l.length - i = f → i ≤ l.length → law_lists_L3 l i (l.take i) = some l := by
    intro f
    induction f with
    | zero =>
      intro i hf hi
      obtain rfl : i = l.length := by omega
      rw [law_lists_L3_eq]; unfold law_lists_L3_B
      rw [if_neg (by simp), List.take_length]
    | succ f ih =>
      intro i hf hi
      have et := ix_take (l := l) (i := (i : Int)) (by omega) (by omega)
      rw [Int.toNat_natCast, show ((i : Int) + 1).toNat = i + 1 from by omega] at et
      rw [law_lists_L3_eq]; unfold law_lists_L3_B
      rw [if_pos (by simp; omega), G_pos (by omega)]
      refine bind_to (list_spec (h2 _ (ix_mem (by omega) (by omega)))) (G_to (by unfold room; simp; omega) (G_to (by unfold fits; omega) ?_))
      have := ih (i + 1) (by omega) (by omega)
      rw [et] at this
      exact this
  unfold law_lists
  exact key _ 0 rfl (by omega)
theorem sameLists_refl {l : List (List Int)} (h1 : l.length * 24 ≤ 140737488351232) (h2 : ∀ w ∈ l, w.length * 8 ≤ 140737488351232) : law_sameLists l l = some true := by
  have key : ∀ (f i : Nat), l.length - i = f → i ≤ l.length → law_sameLists_L4 l l i = some true := by
    intro f
    induction f with
    | zero =>
      intro i hf hi
      rw [law_sameLists_L4_eq]; unfold law_sameLists_L4_B
      rw [if_neg (by simp; omega)]
    | succ f ih =>
      intro i hf hi
      have := h2 _ (ix_mem (l := l) (i := (i : Int)) (by omega) (by omega))
      rw [law_sameLists_L4_eq]; unfold law_sameLists_L4_B
      rw [if_pos (by simp; omega), G_pos (by omega), G_pos (by omega)]
      refine bind_to (r1_Words_spec (by omega)) ?_
      rw [if_neg (by simp)]
      exact G_to (by unfold fits; omega) (ih (i + 1) (by omega) (by omega))
  unfold law_sameLists
  rw [if_neg (by simp)]
  exact key _ 0 rfl (by omega)
/-! ### faults -/
def badL (g x : Int) : Prop := x < 0 ∨ g ≤ x
open Classical in
noncomputable def wE (g : Int) (w : List Int) : Int := if w.length < 1 ∨ 10 < w.length then 1 else if ∃ x ∈ w, badL g x then 2 else 0
noncomputable def fstE (g : Int) : List (List Int) → Int
  | [] => 0
  | w :: l => if ¬ wE g w = 0 then wE g w else fstE g l
noncomputable def cdE (g : Int) (l : List (List Int)) : Int := if g < 1 ∨ 4 < g then 2 else if l.length < 1 ∨ 10 < l.length then 1 else fstE g l
structure COk (g : Int) (l : List (List Int)) : Prop where
  g1 : 1 ≤ g ∧ g ≤ 4
  n1 : 1 ≤ l.length ∧ l.length ≤ 10
  w1 : ∀ w ∈ l, (1 ≤ w.length ∧ w.length ≤ 10) ∧ ∀ x ∈ w, 0 ≤ x ∧ x < g
theorem wE_zero {g : Int} {w : List Int} (h : wE g w = 0) : (1 ≤ w.length ∧ w.length ≤ 10) ∧ ∀ x ∈ w, 0 ≤ x ∧ x < g := by
  unfold wE at h
  by_cases c : w.length < 1 ∨ 10 < w.length
  · rw [if_pos c] at h; omega
  rw [if_neg c] at h
  by_cases c2 : ∃ x ∈ w, badL g x
  · rw [if_pos c2] at h; omega
  refine ⟨by omega, fun x hx => ?_⟩
  have : ¬ badL g x := fun hb => c2 ⟨x, hx, hb⟩
  unfold badL at this
  omega
theorem fstE_zero {g : Int} : ∀ {l : List (List Int)}, fstE g l = 0 → ∀ w ∈ l, wE g w = 0
  | [], _, w, hw => by cases hw
  | v :: l, h, w, hw => by
    unfold fstE at h
    by_cases c : wE g v = 0
    · rw [if_neg (fun hh => hh c)] at h
      rcases List.mem_cons.1 hw with rfl | hw
      · exact c
      · exact fstE_zero h w hw
    · rw [if_pos c] at h; exact absurd h c
theorem cdE_zero {g : Int} {l : List (List Int)} (h : cdE g l = 0) : COk g l := by
  unfold cdE at h
  by_cases c : g < 1 ∨ 4 < g
  · rw [if_pos c] at h; omega
  rw [if_neg c] at h
  by_cases c2 : l.length < 1 ∨ 10 < l.length
  · rw [if_pos c2] at h; omega
  rw [if_neg c2] at h
  exact ⟨by omega, by omega, fun w hw => wE_zero (fstE_zero h w hw)⟩
theorem drop_ix {α : Type} [Inhabited α] {l : List α} {i : Nat} (h : i < l.length) : l.drop i = ix l (i : Int) :: l.drop (i + 1) := by
  have := ix_drop (l := l) (i := (i : Int)) (by omega) (by omega)
  rw [Int.toNat_natCast, show ((i : Int) + 1).toNat = i + 1 from by omega] at this
  exact this
open Classical in
theorem code_Check_spec {g : Int} {l : List (List Int)} : code_Check g l = some (cdE g l) := by
  unfold code_Check cdE
  by_cases c : g < 1 ∨ 4 < g
  · rw [if_pos c]
    (try dsimp only); (repeat' first | (with_reducible refine G_to ?_ ?_; focus (first | omega | (unfold fits; omega) | (unfold room; (try simp only [List.length_append, List.length_cons, List.length_nil]); omega))) | (with_reducible refine both_to ?_ ?_) | (with_reducible refine itet_to ?_) | (with_reducible refine itef_to ?_) | (with_reducible refine ite_to (fun _ => ?_) (fun _ => ?_))) <;> try (exfalso; omega)
    all_goals rfl
  rw [if_neg c]
  by_cases c2 : l.length < 1 ∨ 10 < l.length
  · rw [if_pos c2]
    (try dsimp only); (repeat' first | (with_reducible refine G_to ?_ ?_; focus (first | omega | (unfold fits; omega) | (unfold room; (try simp only [List.length_append, List.length_cons, List.length_nil]); omega))) | (with_reducible refine both_to ?_ ?_) | (with_reducible refine itet_to ?_) | (with_reducible refine itef_to ?_) | (with_reducible refine ite_to (fun _ => ?_) (fun _ => ?_))) <;> try (exfalso; omega)
    all_goals rfl
  rw [if_neg c2, if_neg (by simp; omega), if_neg (by simp; omega), if_neg (by simp; omega), if_neg (by simp; omega)]
  have key : ∀ (f i : Nat), l.length - i = f → i ≤ l.length → code_Check_L6 g l i = some (fstE g (l.drop i)) := by
    intro f
    induction f with
    | zero =>
      intro i hf hi
      obtain rfl : i = l.length := by omega
      rw [code_Check_L6_eq]; unfold code_Check_L6_B
      rw [if_neg (by simp), List.drop_length]; rfl
    | succ f ih =>
      intro i hf hi
      have hih := ih (i + 1) (by omega) (by omega)
      rw [code_Check_L6_eq]; unfold code_Check_L6_B
      rw [if_pos (by simp; omega), G_pos (by omega), drop_ix (by omega)]
      unfold fstE wE
      by_cases c3 : (ix l (i : Int)).length < 1 ∨ 10 < (ix l (i : Int)).length
      · rw [if_pos c3, if_pos (show ¬ (1 : Int) = 0 by omega)]
        by_cases c4 : (ix l (i : Int)).length < 1
        · rw [if_pos (by rw [decide_eq_true_iff]; omega)]
        · rw [if_neg (by rw [decide_eq_true_iff]; omega), if_pos (by rw [decide_eq_true_iff]; omega)]
      rw [if_neg c3, if_neg (by rw [decide_eq_true_iff]; omega), if_neg (by rw [decide_eq_true_iff]; omega)]
      refine (contains_tells (f := fun x => code_Check_1 x g) (P := badL g) (slices_IndexFunc_L2_eq (ix l (i : Int)) g) (by omega) (fun x _ => by
        unfold code_Check_1 badL
        by_cases h : x < 0
        · rw [if_pos (decide_eq_true h)]; exact Tells.of ⟨fun _ => .inl h, fun _ => rfl⟩
        · rw [if_neg (by simpa using h)]; exact Tells.dec (by omega))).to (fun h => by rw [if_pos h, if_pos (show ¬ (2 : Int) = 0 by omega)]) (fun h => ?_)
      rw [if_neg h, if_neg (by simp)]
      exact G_to (by unfold fits; omega) hih
  exact key _ 0 rfl (by omega)
open Classical in
theorem r24_Check_spec {g : Int} {l : List (List Int)} : r24_Check g l = some (cdE g l) := by
  unfold r24_Check cdE
  by_cases c : g < 1 ∨ 4 < g
  · rw [if_pos c]
    (try dsimp only); (repeat' first | (with_reducible refine G_to ?_ ?_; focus (first | omega | (unfold fits; omega) | (unfold room; (try simp only [List.length_append, List.length_cons, List.length_nil]); omega))) | (with_reducible refine both_to ?_ ?_) | (with_reducible refine itet_to ?_) | (with_reducible refine itef_to ?_) | (with_reducible refine ite_to (fun _ => ?_) (fun _ => ?_))) <;> try (exfalso; omega)
    all_goals rfl
  rw [if_neg c]
  by_cases c2 : l.length < 1 ∨ 10 < l.length
  · rw [if_pos c2]
    (try dsimp only); (repeat' first | (with_reducible refine G_to ?_ ?_; focus (first | omega | (unfold fits; omega) | (unfold room; (try simp only [List.length_append, List.length_cons, List.length_nil]); omega))) | (with_reducible refine both_to ?_ ?_) | (with_reducible refine itet_to ?_) | (with_reducible refine itef_to ?_) | (with_reducible refine ite_to (fun _ => ?_) (fun _ => ?_))) <;> try (exfalso; omega)
    all_goals rfl
  rw [if_neg c2, if_neg (by simp; omega), if_neg (by simp; omega), if_neg (by simp; omega), if_neg (by simp; omega)]
  have key : ∀ (f i : Nat), l.length - i = f → i ≤ l.length → r24_Check_L6 g l i = some (fstE g (l.drop i)) := by
    intro f
    induction f with
    | zero =>
      intro i hf hi
      obtain rfl : i = l.length := by omega
      rw [r24_Check_L6_eq]; unfold r24_Check_L6_B
      rw [if_neg (by simp), List.drop_length]; rfl
    | succ f ih =>
      intro i hf hi
      have hih := ih (i + 1) (by omega) (by omega)
      rw [r24_Check_L6_eq]; unfold r24_Check_L6_B
      rw [if_pos (by simp; omega), G_pos (by omega), drop_ix (by omega)]
      unfold fstE wE
      by_cases c3 : (ix l (i : Int)).length < 1 ∨ 10 < (ix l (i : Int)).length
      · rw [if_pos c3, if_pos (show ¬ (1 : Int) = 0 by omega)]
        by_cases c4 : (ix l (i : Int)).length < 1
        · rw [if_pos (by rw [decide_eq_true_iff]; omega)]
        · rw [if_neg (by rw [decide_eq_true_iff]; omega), G_pos (by omega), if_pos (by rw [decide_eq_true_iff]; omega)]
      rw [if_neg c3, if_neg (by rw [decide_eq_true_iff]; omega), G_pos (by omega), if_neg (by rw [decide_eq_true_iff]; omega)]
      refine scan_to (len := ((ix l (i : Int)).length : Int)) (bad := fun k => badL g (ix (ix l (i : Int)) k)) (by omega) (fun k k0 k1 => ⟨fun hb => ?_, fun hb => ?_⟩) (fun hh => ?_)
      · rw [if_pos (show ∃ x ∈ ix l (i : Int), badL g x from ⟨_, ix_mem k0 k1, hb⟩), if_pos (show ¬ (2 : Int) = 0 by omega)]
        unfold badL at hb
        rw [r24_Check_L11_eq]; unfold r24_Check_L11_B
        (try dsimp only); (repeat' first | (with_reducible refine G_to ?_ ?_; focus (first | omega | (unfold fits; omega) | (unfold room; (try simp only [List.length_append, List.length_cons, List.length_nil]); omega))) | (with_reducible refine both_to ?_ ?_) | (with_reducible refine itet_to ?_) | (with_reducible refine itef_to ?_) | (with_reducible refine ite_to (fun _ => ?_) (fun _ => ?_))) <;> try (exfalso; omega)
        all_goals rfl
      · unfold badL at hb
        conv => lhs; rw [r24_Check_L11_eq]; unfold r24_Check_L11_B
        (try dsimp only); (repeat' first | (with_reducible refine G_to ?_ ?_; focus (first | omega | (unfold fits; omega) | (unfold room; (try simp only [List.length_append, List.length_cons, List.length_nil]); omega))) | (with_reducible refine both_to ?_ ?_) | (with_reducible refine itet_to ?_) | (with_reducible refine itef_to ?_) | (with_reducible refine ite_to (fun _ => ?_) (fun _ => ?_))) <;> try (exfalso; omega)
        all_goals rfl
      · rw [if_neg (show ¬ ∃ x ∈ ix l (i : Int), badL g x from fun hb => by obtain ⟨k, k0, k1, hb⟩ := ex_ix.1 hb; exact hh k k0 k1 hb), if_neg (by simp)]
        rw [r24_Check_L11_eq]; unfold r24_Check_L11_B
        rw [G_pos (by omega), if_neg (by simp)]
        exact G_to (by unfold fits; omega) hih
  exact key _ 0 rfl (by omega)
/-! ### what one row has more -/
def whl (l : List (List Int)) (a : List Int) : List Int := (a.map (ix l)).flatten
structure RB (l : List (List Int)) (r : Rs) : Prop where
  suf : ∃ w ∈ l, ∃ j : Nat, j ≤ w.length ∧ r.1 = w.drop j
  a1 : ∀ x ∈ r.2.1, 0 ≤ x ∧ x < l.length
  b1 : ∀ x ∈ r.2.2.1, 0 ≤ x ∧ x < l.length
  ne : ∃ x y a b, r.2.1 = x :: a ∧ r.2.2.1 = y :: b ∧ ¬ x = y
  eq : whl l r.2.1 = whl l r.2.2.1 ++ r.1
structure RI (l : List (List Int)) (all : List Rs) : Prop where
  nd : (all.map (·.1)).Nodup
  ok : ∀ p : Int, 0 ≤ p → p < all.length → RB l (ix all p) ∧ ((ix all p).2.1.length : Int) ≤ p + 1 ∧ ((ix all p).2.2.1.length : Int) ≤ p + 1
open Classical in
noncomputable def putR (all : List Rs) (r : Rs) : List Rs := if r.1 ∈ all.map (·.1) then all else all ++ [r]
def kys (all : List Rs) : List (List UInt8) := all.map fun r => keyB r.1
def vls (all : List Rs) : List Int := List.replicate all.length 1
section
variable {g : Int} {l : List (List Int)} {all : List Rs}
theorem RB.word (h : COk g l) {r : Rs} (hr : RB l r) : r.1.length ≤ 10 ∧ ∀ x ∈ r.1, 0 ≤ x ∧ x < g := by
  obtain ⟨w, hw, j, hj, e⟩ := hr.suf
  obtain ⟨h1, h2⟩ := h.w1 w hw
  rw [e]
  exact ⟨by rw [List.length_drop]; omega, fun x hx => h2 x (List.mem_of_mem_drop hx)⟩
theorem RI.mem (h : RI l all) {r : Rs} (hr : r ∈ all) : RB l r := by
  obtain ⟨p, p0, p1, rfl⟩ := (ex_ix (P := fun x => x = r)).1 ⟨r, hr, rfl⟩
  exact (h.ok p p0 p1).1
theorem RI.len (hc : COk g l) (h : RI l all) : all.length ≤ 110 := by
  have := pigeon (U := l.flatMap fun w => (List.range 11).map fun j => w.drop j) h.nd (fun x hx => by
    obtain ⟨r, hr, rfl⟩ := List.mem_map.1 hx
    obtain ⟨w, hw, j, hj, e⟩ := (h.mem hr).suf
    have := (hc.w1 w hw).1
    exact List.mem_flatMap.2 ⟨w, hw, List.mem_map.2 ⟨j, List.mem_range.2 (by omega), e.symm⟩⟩)
  have key : ∀ u : List (List Int), (u.flatMap fun w => (List.range 11).map fun j => w.drop j).length = u.length * 11 := by
    intro u
    induction u with
    | nil => rfl
    | cons x u ih => rw [List.flatMap_cons, List.length_append, ih, List.length_map, List.length_range, List.length_cons, Nat.succ_mul, Nat.add_comm]
  rw [key, List.length_map] at this
  have := hc.n1
  omega
theorem RI.put (h : RI l all) {r : Rs} (hr : RB l r) (ha : r.2.1.length ≤ all.length + 1) (hb : r.2.2.1.length ≤ all.length + 1) : RI l (putR all r) ∧ ∃ x, putR all r = all ++ x := by
  unfold putR
  split
  · exact ⟨h, [], by simp⟩
  · rename_i hn
    refine ⟨⟨?_, fun p p0 p1 => ?_⟩, [r], rfl⟩
    · rw [List.map_append]
      refine List.nodup_append.2 ⟨h.nd, by simp, fun a ha b hb e => ?_⟩
      simp only [List.map_cons, List.map_nil, List.mem_singleton] at hb
      subst hb; subst e; exact hn ha
    · rw [List.length_append, List.length_singleton] at p1
      by_cases c : p < all.length
      · rw [ix_append_left p0 c]; exact h.ok p p0 c
      · obtain rfl : p = all.length := by omega
        rw [ix_append_last]
        exact ⟨hr, by omega, by omega⟩
theorem putR_map (all : List Rs) (r : Rs) : (putR all r).map (·.1) = if r.1 ∈ all.map (·.1) then all.map (·.1) else all.map (·.1) ++ [r.1] := by
  unfold putR
  split
  · rfl
  · rw [List.map_append]; rfl
theorem key_mem (hc : COk g l) (h : RI l all) {r : Rs} (hr : RB l r) : keyB r.1 ∈ kys all ↔ r.1 ∈ all.map (·.1) := by
  have h4 := hc.g1
  have sm := (hr.word hc).2
  unfold kys
  constructor
  · intro hm
    obtain ⟨s, hs, e⟩ := List.mem_map.1 hm
    have sm2 := ((h.mem hs).word hc).2
    have := keyB_inj (fun x hx => by have := sm2 x hx; omega) (fun x hx => by have := sm x hx; omega) e
    exact List.mem_map.2 ⟨s, hs, this⟩
  · intro hm
    obtain ⟨s, hs, e⟩ := List.mem_map.1 hm
    exact List.mem_map.2 ⟨s, hs, by rw [e]⟩
theorem put_prog (hc : COk g l) (h : RI l all) {r : Rs} (hr : RB l r) : code_Unique_1_1 r (kys all) (vls all) all = some (putR all r, kys (putR all r), vls (putR all r)) := by
  have hw := hr.word hc
  have hl := h.len hc
  have hlen : (vls all).length = (kys all).length := by unfold vls kys; simp
  unfold code_Unique_1_1
  refine bind_to (det_Key_spec (by omega)) ?_
  have hz := mget_nz (ks := kys all) (vs := vls all) (x := keyB r.1) hlen (fun v hv => by rw [(List.mem_replicate.1 hv).2]; omega)
  unfold putR
  by_cases c : r.1 ∈ all.map (·.1)
  · have : ¬ mget (kys all) (vls all) (keyB r.1) 0 = 0 := fun e => hz.1 e ((key_mem hc h hr).2 c)
    rw [if_neg (by simpa using this), if_pos c]
  · have hn : keyB r.1 ∉ kys all := fun e => c ((key_mem hc h hr).1 e)
    rw [if_pos (by rw [decide_eq_true_iff]; exact hz.2 hn), if_neg c]
    refine G_to (by unfold room; simp; omega) ?_
    rw [mputK_new hn]
    have e2 : mputV (kys all) (vls all) (keyB r.1) 1 = vls all ++ [1] := by unfold mputV; rw [mfind_none.2 hn]
    rw [e2]
    unfold kys vls
    rw [List.map_append, List.length_append, List.length_singleton, List.replicate_succ']
    rfl
theorem put_ref {R : List (List Int)} {w : List Int} (h1 : R.length ≤ 1000) (h2 : ∀ x ∈ R, x.length ≤ 1000) : r24_put w R = some (if w ∈ R then R else R ++ [w]) := by
  unfold r24_put
  refine scan_to (len := (R.length : Int)) (bad := fun i => ix R i = w) (by omega) (fun i i0 i1 => ⟨fun hb => ?_, fun hb => ?_⟩) (fun hh => ?_)
  · have hm := ix_mem (l := R) i0 i1
    rw [if_pos (hb ▸ hm)]
    have := h2 _ hm
    rw [r24_put_L2_eq]; unfold r24_put_L2_B
    rw [if_pos (by simpa using i1), G_pos (by omega), G_pos (by omega)]
    refine bind_to (r1_Words_spec (by omega)) ?_
    rw [if_pos (by simpa using hb)]
  · have := h2 _ (ix_mem (l := R) i0 i1)
    conv => lhs; rw [r24_put_L2_eq]; unfold r24_put_L2_B
    rw [if_pos (by simpa using i1), G_pos (by omega), G_pos (by omega)]
    refine bind_to (r1_Words_spec (by omega)) ?_
    rw [if_neg (by simpa using hb)]
    exact G_to (by unfold fits; omega) rfl
  · rw [if_neg (fun hm => by obtain ⟨i, i0, i1, e⟩ := (ex_ix (P := fun x => x = w)).1 ⟨w, hm, rfl⟩; exact hh i i0 i1 e)]
    rw [r24_put_L2_eq]; unfold r24_put_L2_B
    rw [if_neg (by simp)]
    exact G_to (by unfold room; simp; omega) rfl
theorem begins_spec {w v : List Int} (h : w.length ≤ 1000) : r24_Begins w v = some (decide (v.length ≤ w.length ∧ w.take v.length = v)) := by
  unfold r24_Begins
  by_cases c : w.length < v.length
  · rw [if_pos (by rw [decide_eq_true_iff]; omega), decide_eq_false (fun hh => by omega)]
  · rw [if_neg (by rw [decide_eq_true_iff]; omega), G_pos (by omega), cut_take]
    refine bind_to (r1_Words_spec (by rw [List.length_take]; omega)) ?_
    congr 1
    exact decide_eq_decide.2 ⟨fun e => ⟨by omega, e⟩, fun e => e.2⟩
theorem RI.map (hc : COk g l) (h : RI l all) : (all.map (·.1)).length ≤ 1000 ∧ ∀ x ∈ all.map (·.1), x.length ≤ 1000 := by
  refine ⟨by rw [List.length_map]; have := h.len hc; omega, fun x hx => ?_⟩
  obtain ⟨r, hr, rfl⟩ := List.mem_map.1 hx
  have := ((h.mem hr).word hc).1
  show r.1.length ≤ 1000
  omega
theorem ref_put (hc : COk g l) (h : RI l all) (r : Rs) : r24_put r.1 (all.map (·.1)) = some ((putR all r).map (·.1)) := by
  obtain ⟨h1, h2⟩ := h.map hc
  rw [put_ref h1 h2, putR_map]
end
section
variable {g : Int} {l : List (List Int)} {all : List Rs}
theorem COk.wl (hc : COk g l) {k : Nat} (hk : k < l.length) : 1 ≤ (ix l (k : Int)).length ∧ (ix l (k : Int)).length ≤ 10 := (hc.w1 _ (ix_mem (by omega) (by omega))).1
theorem whl_one (l : List (List Int)) (k : Int) : whl l [k] = ix l k := by unfold whl; simp
theorem whl_snoc (l : List (List Int)) (b : List Int) (k : Int) : whl l (b ++ [k]) = whl l b ++ ix l k := by unfold whl; simp
theorem ini_row (hc : COk g l) {i : Nat} (hi : i < l.length) : ∀ (f k : Nat) (all : List Rs), l.length - k = f → k ≤ l.length → RI l all →
    ∃ all', RI l all' ∧ (∀ r8, code_Unique_L11 l i r8 k all (kys all) (vls all) = r8 (i + 1) (kys all') (vls all') all') ∧ (∀ r3, r24_Unique_L6 l i r3 k (all.map (·.1)) = r3 (i + 1) (all'.map (·.1))) := by
  have hn := hc.n1
  intro f
  induction f with
  | zero =>
    intro k all hf hk hI
    refine ⟨all, hI, fun r8 => ?_, fun r3 => ?_⟩
    · rw [code_Unique_L11_eq]; unfold code_Unique_L11_B
      rw [if_neg (by simp; omega)]
      exact G_to (by unfold fits; omega) rfl
    · rw [r24_Unique_L6_eq]; unfold r24_Unique_L6_B
      rw [if_neg (by simp; omega)]
      exact G_to (by unfold fits; omega) rfl
  | succ f ih =>
    intro k all hf hk hI
    have wi := hc.wl hi
    have wk := hc.wl (k := k) (by omega)
    by_cases c : (¬ (i : Int) = k) ∧ (ix l (k : Int)).length ≤ (ix l (i : Int)).length ∧ (ix l (i : Int)).take (ix l (k : Int)).length = ix l (k : Int)
    · obtain ⟨c1, c2, c3⟩ := c
      have hr : RB l ((ix l (i : Int)).drop (ix l (k : Int)).length, [(i : Int)], [(k : Int)], ()) := by
        refine ⟨⟨ix l (i : Int), ix_mem (by omega) (by omega), (ix l (k : Int)).length, c2, rfl⟩, fun x hx => ?_, fun x hx => ?_, ⟨i, k, [], [], rfl, rfl, c1⟩, ?_⟩
        · rw [List.mem_singleton.1 hx]; omega
        · rw [List.mem_singleton.1 hx]; omega
        · show whl l [(i : Int)] = whl l [(k : Int)] ++ (ix l (i : Int)).drop (ix l (k : Int)).length
          rw [whl_one, whl_one]
          conv => lhs; rw [← List.take_append_drop (ix l (k : Int)).length (ix l (i : Int)), c3]
      obtain ⟨q1, _⟩ := hI.put hr (by simp) (by simp)
      obtain ⟨all', a1, a2, a3⟩ := ih (k + 1) _ (by omega) (by omega) q1
      refine ⟨all', a1, fun r8 => ?_, fun r3 => ?_⟩
      · rw [code_Unique_L11_eq]; unfold code_Unique_L11_B
        rw [if_pos (by simp; omega), G_pos (by omega), if_pos (by simpa using c1), if_pos (by rw [decide_eq_true_iff]; omega), G_pos (by omega), cut_take]
        refine bind_to (Equal_spec (by rw [List.length_take]; omega)) ?_
        unfold code_Unique_J13
        rw [if_pos (by simpa using c3), G_pos (by omega), cut_drop]
        refine bind_to (put_prog hc hI hr) ?_
        exact G_to (by unfold fits; omega) (a2 r8)
      · rw [r24_Unique_L6_eq]; unfold r24_Unique_L6_B
        rw [if_pos (by simp; omega), G_pos (by omega), G_pos (by omega)]
        refine bind_to (begins_spec (by omega)) ?_
        rw [if_pos (by simpa using c1)]
        unfold r24_Unique_J9
        rw [if_pos (by rw [decide_eq_true_iff]; exact ⟨c2, c3⟩), G_pos (by omega), G_pos (by omega), G_pos (by omega), cut_drop]
        refine bind_to (ref_put hc hI ((ix l (i : Int)).drop (ix l (k : Int)).length, [(i : Int)], [(k : Int)], ())) ?_
        exact G_to (by unfold fits; omega) (a3 r3)
    · obtain ⟨all', a1, a2, a3⟩ := ih (k + 1) all (by omega) (by omega) hI
      refine ⟨all', a1, fun r8 => ?_, fun r3 => ?_⟩
      · rw [code_Unique_L11_eq]; unfold code_Unique_L11_B
        rw [if_pos (by simp; omega), G_pos (by omega)]
        have hfalse : code_Unique_J13 l i k all (kys all) (vls all) (fun x1 x2 x3 x4 => code_Unique_L11 l i r8 x1 x2 x3 x4) false = r8 (i + 1) (kys all') (vls all') all' := by
          unfold code_Unique_J13
          rw [if_neg (by simp)]
          exact G_to (by unfold fits; omega) (a2 r8)
        by_cases c1 : (i : Int) = k
        · rw [if_neg (by simpa using c1)]; exact hfalse
        · rw [if_pos (by simpa using c1)]
          by_cases c2 : (ix l (k : Int)).length ≤ (ix l (i : Int)).length
          · rw [if_pos (by rw [decide_eq_true_iff]; omega), G_pos (by omega), cut_take]
            refine bind_to (Equal_spec (by rw [List.length_take]; omega)) ?_
            rw [decide_eq_false (fun e => c ⟨c1, c2, e⟩)]
            exact hfalse
          · rw [if_neg (by rw [decide_eq_true_iff]; omega)]; exact hfalse
      · rw [r24_Unique_L6_eq]; unfold r24_Unique_L6_B
        rw [if_pos (by simp; omega), G_pos (by omega), G_pos (by omega)]
        refine bind_to (begins_spec (by omega)) ?_
        have hfalse : r24_Unique_J9 l i k (all.map (·.1)) (fun x1 x2 => r24_Unique_L6 l i r3 x1 x2) false = r3 (i + 1) (all'.map (·.1)) := by
          unfold r24_Unique_J9
          rw [if_neg (by simp)]
          exact G_to (by unfold fits; omega) (a3 r3)
        by_cases c1 : (i : Int) = k
        · rw [if_neg (by simpa using c1)]; exact hfalse
        · rw [if_pos (by simpa using c1), decide_eq_false (fun e => c ⟨c1, e⟩)]; exact hfalse
theorem step_row (hc : COk g l) {all0 : List Rs} {i : Nat} (hi : i < all0.length) : ∀ (f k : Nat) (all : List Rs), l.length - k = f → k ≤ l.length → RI l all → (∃ x, all = all0 ++ x) →
    ∃ all', RI l all' ∧ all0.length ≤ all'.length ∧ (∀ r18, code_Unique_L24 l i all0 r18 k all (kys all) (vls all) = r18 (i + 1) all' (kys all') (vls all')) ∧ (∀ r12, r24_Unique_L18 l i (all0.map (·.1)) r12 k (all.map (·.1)) = r12 (i + 1) (all'.map (·.1))) := by
  have hn := hc.n1
  intro f
  induction f with
  | zero =>
    intro k all hf hk hI hp
    obtain ⟨x, rfl⟩ := hp
    refine ⟨_, hI, by rw [List.length_append]; omega, fun r18 => ?_, fun r12 => ?_⟩
    · have := hI.len hc
      rw [List.length_append] at this
      rw [code_Unique_L24_eq]; unfold code_Unique_L24_B
      rw [if_neg (by simp; omega)]
      exact G_to (by unfold fits; omega) rfl
    · have := hI.len hc
      rw [List.length_append] at this
      rw [r24_Unique_L18_eq]; unfold r24_Unique_L18_B
      rw [if_neg (by simp; omega)]
      exact G_to (by unfold fits; omega) rfl
  | succ f ih =>
    intro k all hf hk hI hp
    have wk := hc.wl (k := k) (by omega)
    have hal := hI.len hc
    have hlen : all0.length ≤ all.length := by obtain ⟨x, rfl⟩ := hp; rw [List.length_append]; omega
    have hix : ix all (i : Int) = ix all0 (i : Int) := by obtain ⟨x, rfl⟩ := hp; exact ix_append_left (by omega) (by omega)
    obtain ⟨hr, ra, rb⟩ := hI.ok (i : Int) (by omega) (by omega)
    rw [hix] at hr ra rb
    have hmap : ix (all0.map (·.1)) (i : Int) = (ix all0 (i : Int)).1 := ix_map _ (by omega) (by omega)
    have hw := hr.word hc
    generalize hR : ix all0 (i : Int) = r at hr ra rb hmap hw hix
    generalize hwk : ix l (k : Int) = w at wk
    obtain ⟨m, hm, hmm⟩ : ∃ m : Nat, imin (w.length : Int) (r.1.length : Int) = (m : Int) ∧ m = min w.length r.1.length := ⟨min w.length r.1.length, by unfold imin; split <;> omega, rfl⟩
    have hcl : slices_Clone r.2.2.1 = some r.2.2.1 := slices_Clone_spec (by omega)
    have b1 := begins_spec (w := r.1) (v := w) (by omega)
    have b2 := begins_spec (w := w) (v := r.1) (by omega)
    have goon : ∀ r' : Rs, RB l r' → r'.2.1.length ≤ all.length + 1 → r'.2.2.1.length ≤ all.length + 1 → ∃ all', RI l all' ∧ all0.length ≤ all'.length ∧ (∀ r18, code_Unique_L24 l i all0 r18 (k + 1 : Nat) (putR all r') (kys (putR all r')) (vls (putR all r')) = r18 (i + 1) all' (kys all') (vls all')) ∧ (∀ r12, r24_Unique_L18 l i (all0.map (·.1)) r12 (k + 1 : Nat) ((putR all r').map (·.1)) = r12 (i + 1) (all'.map (·.1))) := fun r' h1 h2 h3 => by
      obtain ⟨q1, y, q2⟩ := hI.put h1 h2 h3
      obtain ⟨x, hx⟩ := hp
      exact ih (k + 1) _ (by omega) (by omega) q1 ⟨x ++ y, by rw [q2, hx, List.append_assoc]⟩
    have hmw : m ≤ w.length := by omega
    have hmr : m ≤ r.1.length := by omega
    have hbk : ∀ x ∈ r.2.2.1 ++ [(k : Int)], 0 ≤ x ∧ x < l.length := fun x hx => by
      rcases List.mem_append.1 hx with hx | hx
      · exact hr.b1 x hx
      · rw [List.mem_singleton.1 hx]; omega
    obtain ⟨xa, yb, ta, tb, ea, eb, hne⟩ := hr.ne
    by_cases e : w.take m = r.1.take m
    · by_cases c : w.length ≤ r.1.length
      · have hmw2 : m = w.length := by omega
        have ew : r.1.take w.length = w := by rw [← hmw2, ← e, hmw2, List.take_length]
        have hr' : RB l (r.1.drop m, r.2.1, r.2.2.1 ++ [(k : Int)], ()) := by
          obtain ⟨w0, hw0, j, hj, ej⟩ := hr.suf
          refine ⟨⟨w0, hw0, j + m, by rw [ej, List.length_drop] at hmr; omega, by show r.1.drop m = _; rw [ej, List.drop_drop]⟩, hr.a1, hbk, ⟨xa, yb, ta, tb ++ [(k : Int)], ea, by show r.2.2.1 ++ [(k : Int)] = _; rw [eb]; rfl, hne⟩, ?_⟩
          show whl l r.2.1 = whl l (r.2.2.1 ++ [(k : Int)]) ++ r.1.drop m
          rw [whl_snoc, hr.eq, hwk, List.append_assoc]
          congr 1
          conv => lhs; rw [← List.take_append_drop m r.1]
          rw [hmw2, ew]
        obtain ⟨all', a1, a2, a3, a4⟩ := goon _ hr' (by show r.2.1.length ≤ _; omega) (by show (r.2.2.1 ++ [(k : Int)]).length ≤ _; rw [List.length_append, List.length_singleton]; omega)
        refine ⟨all', a1, a2, fun r18 => ?_, fun r12 => ?_⟩
        · skip
          rw [code_Unique_L24_eq]; unfold code_Unique_L24_B
          rw [if_pos (by rw [decide_eq_true_iff]; omega), G_pos (by omega), hR, hwk, hm]
          refine bind_to hcl (G_to (by unfold room; simp; omega) (G_to (by omega) (G_to (by omega) ?_)))
          rw [cut_take, cut_take]
          refine bind_to (Equal_spec (by rw [List.length_take]; omega)) ?_
          rw [if_neg (by simpa using e), if_pos (by rw [decide_eq_true_iff]; omega), G_pos (by omega), cut_drop]
          exact bind_to (put_prog hc hI hr') (G_to (by unfold fits; omega) (a3 r18))
        · have hp1 := ref_put hc hI (r.1.drop m, r.2.1, r.2.2.1 ++ [(k : Int)], ())
          rw [r24_Unique_L18_eq]; unfold r24_Unique_L18_B
          rw [if_pos (by rw [decide_eq_true_iff]; omega), G_pos (by omega), hmap, hwk]
          refine bind_to b1 ?_
          rw [G_pos (by omega)]
          refine bind_to b2 ?_
          rw [if_pos (by rw [decide_eq_true_iff]; exact ⟨c, ew⟩), G_pos (by omega), G_pos (by omega), cut_drop, ← hmw2]
          exact bind_to hp1 (G_to (by unfold fits; omega) (a4 r12))
      · have hmr2 : m = r.1.length := by omega
        have ew : w.take r.1.length = r.1 := by rw [← hmr2, e, hmr2, List.take_length]
        have hr' : RB l (w.drop m, r.2.2.1 ++ [(k : Int)], r.2.1, ()) := by
          refine ⟨⟨w, by rw [← hwk]; exact ix_mem (by omega) (by omega), m, hmw, rfl⟩, hbk, hr.a1, ⟨yb, xa, tb ++ [(k : Int)], ta, by show r.2.2.1 ++ [(k : Int)] = _; rw [eb]; rfl, ea, fun h => hne h.symm⟩, ?_⟩
          show whl l (r.2.2.1 ++ [(k : Int)]) = whl l r.2.1 ++ w.drop m
          rw [whl_snoc, hr.eq, hwk, List.append_assoc]
          congr 1
          conv => lhs; rw [← List.take_append_drop m w]
          rw [hmr2, ew]
        obtain ⟨all', a1, a2, a3, a4⟩ := goon _ hr' (by show (r.2.2.1 ++ [(k : Int)]).length ≤ _; rw [List.length_append, List.length_singleton]; omega) (by show r.2.1.length ≤ _; omega)
        refine ⟨all', a1, a2, fun r18 => ?_, fun r12 => ?_⟩
        · skip
          rw [code_Unique_L24_eq]; unfold code_Unique_L24_B
          rw [if_pos (by rw [decide_eq_true_iff]; omega), G_pos (by omega), hR, hwk, hm]
          refine bind_to hcl (G_to (by unfold room; simp; omega) (G_to (by omega) (G_to (by omega) ?_)))
          rw [cut_take, cut_take]
          refine bind_to (Equal_spec (by rw [List.length_take]; omega)) ?_
          rw [if_neg (by simpa using e), if_neg (by rw [decide_eq_true_iff]; omega), G_pos (by omega), cut_drop]
          exact bind_to (put_prog hc hI hr') (G_to (by unfold fits; omega) (a3 r18))
        · have hp1 := ref_put hc hI (w.drop m, r.2.2.1 ++ [(k : Int)], r.2.1, ())
          rw [r24_Unique_L18_eq]; unfold r24_Unique_L18_B
          rw [if_pos (by rw [decide_eq_true_iff]; omega), G_pos (by omega), hmap, hwk]
          refine bind_to b1 ?_
          rw [G_pos (by omega)]
          refine bind_to b2 ?_
          rw [if_neg (by rw [decide_eq_true_iff]; exact fun h => c h.1), if_pos (by rw [decide_eq_true_iff]; exact ⟨by omega, ew⟩), G_pos (by omega), G_pos (by omega), cut_drop, ← hmr2]
          exact bind_to hp1 (G_to (by unfold fits; omega) (a4 r12))
    · obtain ⟨all', a1, a2, a3, a4⟩ : ∃ all', RI l all' ∧ all0.length ≤ all'.length ∧ (∀ r18, code_Unique_L24 l i all0 r18 (k + 1 : Nat) all (kys all) (vls all) = r18 (i + 1) all' (kys all') (vls all')) ∧ (∀ r12, r24_Unique_L18 l i (all0.map (·.1)) r12 (k + 1 : Nat) (all.map (·.1)) = r12 (i + 1) (all'.map (·.1))) := ih (k + 1) all (by omega) (by omega) hI hp
      have n1 : ¬ (w.length ≤ r.1.length ∧ r.1.take w.length = w) := fun ⟨h1, h2⟩ => e (by
        have : m = w.length := by omega
        rw [this, List.take_length, h2])
      have n2 : ¬ (r.1.length ≤ w.length ∧ w.take r.1.length = r.1) := fun ⟨h1, h2⟩ => e (by
        have : m = r.1.length := by omega
        rw [this, List.take_length, h2])
      refine ⟨all', a1, a2, fun r18 => ?_, fun r12 => ?_⟩
      · skip
        rw [code_Unique_L24_eq]; unfold code_Unique_L24_B
        rw [if_pos (by rw [decide_eq_true_iff]; omega), G_pos (by omega), hR, hwk, hm]
        refine bind_to hcl (G_to (by unfold room; simp; omega) (G_to (by omega) (G_to (by omega) ?_)))
        rw [cut_take, cut_take]
        refine bind_to (Equal_spec (by rw [List.length_take]; omega)) ?_
        rw [if_pos (by simpa using e)]
        exact G_to (by unfold fits; omega) (a3 r18)
      · skip
        rw [r24_Unique_L18_eq]; unfold r24_Unique_L18_B
        rw [if_pos (by rw [decide_eq_true_iff]; omega), G_pos (by omega), hmap, hwk]
        refine bind_to b1 ?_
        rw [G_pos (by omega)]
        refine bind_to b2 ?_
        rw [if_neg (by rw [decide_eq_true_iff]; exact n1), if_neg (by rw [decide_eq_true_iff]; exact n2)]
        exact G_to (by unfold fits; omega) (a4 r12)
structure Good (l : List (List Int)) (a b : List Int) : Prop where
  a1 : ∀ x ∈ a, 0 ≤ x ∧ x < l.length
  b1 : ∀ x ∈ b, 0 ≤ x ∧ x < l.length
  ne : ¬ a = b
  eq : whl l a = whl l b
  la : a.length ≤ 200
  lb : b.length ≤ 200
theorem main (hc : COk g l) : ∀ (f i : Nat) (all : List Rs), 111 - i = f → i ≤ all.length → RI l all → ∃ a b u, code_Unique_L18 l i all (kys all) (vls all) = some (a, b, u, 0) ∧ r24_Unique_L12 l i (all.map (·.1)) = some u ∧ (u = true → a = [] ∧ b = []) ∧ (u = false → Good l a b) := by
  intro f
  induction f with
  | zero =>
    intro i all hf hi hI
    have := hI.len hc
    exact absurd hi (by omega)
  | succ f ih =>
    intro i all hf hi hI
    have hal := hI.len hc
    by_cases c : i < all.length
    · obtain ⟨hr, ra, rb⟩ := hI.ok (i : Int) (by omega) (by omega)
      have hmap : ix (all.map (·.1)) (i : Int) = (ix all (i : Int)).1 := ix_map _ (by omega) (by omega)
      by_cases c2 : (ix all (i : Int)).1.length = 0
      · refine ⟨(ix all (i : Int)).2.1, (ix all (i : Int)).2.2.1, false, ?_, ?_, fun h => (by cases h), fun _ => ⟨hr.a1, hr.b1, fun e => ?_, ?_, by omega, by omega⟩⟩
        · rw [code_Unique_L18_eq]; unfold code_Unique_L18_B
          rw [if_pos (by rw [decide_eq_true_iff]; omega), G_pos (by omega), G_pos (by omega), if_pos (by rw [decide_eq_true_iff]; omega)]
        · rw [r24_Unique_L12_eq]; unfold r24_Unique_L12_B
          rw [if_pos (by rw [decide_eq_true_iff, List.length_map]; omega), G_pos (by rw [List.length_map]; omega), G_pos (by rw [List.length_map]; omega), hmap, if_pos (by rw [decide_eq_true_iff]; omega)]
        · obtain ⟨xa, yb, ta, tb, ea, eb, hne⟩ := hr.ne
          rw [ea, eb] at e
          exact hne (List.cons.inj e).1
        · have := hr.eq
          rw [List.length_eq_zero_iff.1 c2, List.append_nil] at this
          exact this
      · obtain ⟨all', a1, a2, a3, a4⟩ := step_row hc (all0 := all) c _ 0 all rfl (Nat.zero_le _) hI ⟨[], by simp⟩
        obtain ⟨a, b, u, u1, u2, u3⟩ := ih (i + 1) all' (by omega) (by omega) a1
        refine ⟨a, b, u, ?_, ?_, u3⟩
        · rw [code_Unique_L18_eq]; unfold code_Unique_L18_B
          rw [if_pos (by rw [decide_eq_true_iff]; omega), G_pos (by omega), G_pos (by omega), if_neg (by rw [decide_eq_true_iff]; omega)]
          exact (a3 _).trans u1
        · rw [r24_Unique_L12_eq]; unfold r24_Unique_L12_B
          rw [if_pos (by rw [decide_eq_true_iff, List.length_map]; omega), G_pos (by rw [List.length_map]; omega), G_pos (by rw [List.length_map]; omega), hmap, if_neg (by rw [decide_eq_true_iff]; omega)]
          exact (a4 _).trans u2
    · refine ⟨[], [], true, ?_, ?_, fun _ => ⟨rfl, rfl⟩, fun h => (by cases h)⟩
      · rw [code_Unique_L18_eq]; unfold code_Unique_L18_B
        rw [if_neg (by rw [decide_eq_true_iff]; omega)]
      · rw [r24_Unique_L12_eq]; unfold r24_Unique_L12_B
        rw [if_neg (by rw [decide_eq_true_iff, List.length_map]; omega)]
theorem ini (hc : COk g l) : ∀ (f i : Nat) (all : List Rs), l.length - i = f → i ≤ l.length → RI l all → ∃ a b u, code_Unique_L8 l i (kys all) (vls all) all = some (a, b, u, 0) ∧ r24_Unique_L3 l i (all.map (·.1)) = some u ∧ (u = true → a = [] ∧ b = []) ∧ (u = false → Good l a b) := by
  have hn := hc.n1
  intro f
  induction f with
  | zero =>
    intro i all hf hi hI
    obtain ⟨a, b, u, u1, u2, u3⟩ := main hc _ 0 all rfl (Nat.zero_le _) hI
    refine ⟨a, b, u, ?_, ?_, u3⟩
    · rw [code_Unique_L8_eq]; unfold code_Unique_L8_B
      rw [if_neg (by rw [decide_eq_true_iff]; omega)]; exact u1
    · rw [r24_Unique_L3_eq]; unfold r24_Unique_L3_B
      rw [if_neg (by rw [decide_eq_true_iff]; omega)]; exact u2
  | succ f ih =>
    intro i all hf hi hI
    obtain ⟨all', a1, a2, a3⟩ := ini_row hc (i := i) (by omega) _ 0 all rfl (Nat.zero_le _) hI
    obtain ⟨a, b, u, u1, u2, u3⟩ := ih (i + 1) all' (by omega) (by omega) a1
    refine ⟨a, b, u, ?_, ?_, u3⟩
    · rw [code_Unique_L8_eq]; unfold code_Unique_L8_B
      rw [if_pos (by rw [decide_eq_true_iff]; omega), G_pos (by omega)]
      exact (a2 _).trans u1
    · rw [r24_Unique_L3_eq]; unfold r24_Unique_L3_B
      rw [if_pos (by rw [decide_eq_true_iff]; omega)]
      exact (a3 _).trans u2
theorem Whole_spec (hc : COk g l) {a : List Int} (ha : ∀ x ∈ a, 0 ≤ x ∧ x < l.length) (hl : a.length ≤ 200) : r24_Whole l a = some (true, whl l a) ∧ (whl l a).length ≤ 10 * a.length := by
  have hn := hc.n1
  have hlen : ∀ b : List Int, (∀ x ∈ b, 0 ≤ x ∧ x < l.length) → (whl l b).length ≤ 10 * b.length := by
    intro b
    induction b with
    | nil => intro _; simp [whl]
    | cons x b ih =>
      intro hb
      have h1 := ih fun y hy => hb y (by simp [hy])
      have hx := hb x (by simp)
      have h2 := (hc.w1 _ (ix_mem (l := l) (i := x) hx.1 hx.2)).1
      unfold whl at h1 ⊢
      rw [List.map_cons, List.flatten_cons, List.length_append, List.length_cons]; omega
  refine ⟨?_, hlen a ha⟩
  have key : ∀ (f i : Nat), a.length - i = f → i ≤ a.length → r24_Whole_L3 l a i (whl l (a.take i)) = some (true, whl l a) := by
    intro f
    induction f with
    | zero =>
      intro i hf hi
      obtain rfl : i = a.length := by omega
      rw [r24_Whole_L3_eq]; unfold r24_Whole_L3_B
      rw [if_neg (by simp), List.take_length]
    | succ f ih =>
      intro i hf hi
      have hx := ha _ (ix_mem (l := a) (i := (i : Int)) (by omega) (by omega))
      have h2 := (hc.w1 _ (ix_mem (l := l) (i := ix a (i : Int)) hx.1 hx.2)).1
      have h3 := hlen (a.take i) fun x hx => ha x (List.mem_of_mem_take hx)
      rw [List.length_take] at h3
      have et := ix_take (l := a) (i := (i : Int)) (by omega) (by omega)
      rw [Int.toNat_natCast, show ((i : Int) + 1).toNat = i + 1 from by omega] at et
      rw [r24_Whole_L3_eq]; unfold r24_Whole_L3_B
      rw [if_pos (by rw [decide_eq_true_iff]; omega), G_pos (by omega), if_neg (by rw [decide_eq_true_iff]; omega), G_pos (by omega), if_neg (by rw [decide_eq_true_iff]; omega), G_pos (by omega), G_pos (by omega), G_pos (by unfold room; omega), G_pos (by unfold fits; omega)]
      have := ih (i + 1) (by omega) (by omega)
      rw [et, whl_snoc] at this
      exact this
  unfold r24_Whole
  exact key _ 0 rfl (Nat.zero_le _)
end
theorem law_true (g : Int) (l : List (List Int)) (sg : Sml (.int .i64) g) (sl : Sml (.list (.list (.int .i64))) l) : law_CodeUnique g l = some true := by
  have h1 : l.length * 24 ≤ 140737488351232 := sl.1
  have h2 : ∀ w ∈ l, w.length * 8 ≤ 140737488351232 := fun w hw => (sl.2 w hw).1
  unfold law_CodeUnique
  refine bind_to (lists_spec h1 h2) ?_
  by_cases c : cdE g l = 0
  · have hc := cdE_zero c
    obtain ⟨a, b, u, u1, u2, u3, u4⟩ := ini hc _ 0 [] rfl (Nat.zero_le _) ⟨List.nodup_nil, fun p p0 p1 => by simp at p1; omega⟩
    have hu : code_Unique g l = some (a, b, u, 0) := by
      unfold code_Unique
      refine bind_to code_Check_spec ?_
      rw [if_neg (by simpa using c)]
      exact u1
    refine bind_to hu (bind_to code_Check_spec (bind_to (sameLists_refl h1 h2) (bind_to r24_Check_spec ?_)))
    rw [if_neg (by simp), if_neg (by simp), if_neg (by simpa using c)]
    refine bind_to (show r24_Unique l = some u from u2) ?_
    rw [if_neg (by simp), if_neg (by simp)]
    cases u with
    | true =>
      obtain ⟨rfl, rfl⟩ := u3 rfl
      rw [if_pos rfl]
      exact G_to (by unfold fits; simp) (by simp)
    | false =>
      have hg := u4 rfl
      obtain ⟨w1, w2⟩ := Whole_spec hc hg.a1 hg.la
      obtain ⟨w3, w4⟩ := Whole_spec hc hg.b1 hg.lb
      have la := hg.la
      rw [if_neg (by simp)]
      refine bind_to w1 (bind_to w3 (bind_to (r1_Words_spec (by show a.length ≤ _; omega)) (bind_to (r1_Words_spec (by show (whl l a).length ≤ _; omega)) ?_)))
      rw [if_pos rfl, if_pos rfl, if_pos (by simpa using hg.ne)]
      simpa using hg.eq
  · have hu : code_Unique g l = some ([], [], false, cdE g l) := by
      unfold code_Unique
      refine bind_to code_Check_spec ?_
      rw [if_pos (by simpa using c)]
    refine bind_to hu (bind_to code_Check_spec (bind_to (sameLists_refl h1 h2) (bind_to r24_Check_spec ?_)))
    rw [if_neg (by simp), if_neg (by simp), if_pos (by simpa using c), if_pos (by simp), if_pos (by simp)]
    exact G_to (by unfold fits; simp) (by simp)

end Go.Proofs.Ythepofdgjefncaa.codeUniqueW
