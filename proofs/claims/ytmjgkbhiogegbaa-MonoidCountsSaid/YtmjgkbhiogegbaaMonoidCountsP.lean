/- The law 'MonoidCounts' of the plain functions. -/
import Derived.Test.YtmjgkbhiogegbaaMonoidCountsD
set_option maxHeartbeats 1000000
set_option maxRecDepth 20000
set_option linter.unusedSimpArgs false
set_option linter.unusedVariables false
namespace Go.Proofs.Ytmjgkbhiogegbaa.monoidCountsW
open Go Go.Ab
theorem wrap_nat {n : Nat} (h : n < 9223372036854775808) : IntKind.wrap .i64 (n : Int) = n := by
  unfold IntKind.wrap
  simp [IntKind.bits, IntKind.signed]
  omega
theorem ofInt_nat (m : Nat) : BitVec.ofInt 64 (m : Int) = BitVec.ofNat 64 m := by
  apply BitVec.eq_of_toNat_eq; simp
theorem iand_nat {m n : Nat} (hm : m < 9223372036854775808) (hn : n < 9223372036854775808) : iand .i64 (m : Int) (n : Int) = ((m &&& n : Nat) : Int) := by
  unfold iand
  have h : (BitVec.ofInt IntKind.i64.bits (m : Int) &&& BitVec.ofInt IntKind.i64.bits (n : Int)).toNat = m &&& n := by
    show (BitVec.ofInt 64 (m : Int) &&& BitVec.ofInt 64 (n : Int)).toNat = m &&& n
    rw [ofInt_nat, ofInt_nat, BitVec.toNat_and, BitVec.toNat_ofNat, BitVec.toNat_ofNat, Nat.mod_eq_of_lt (by omega), Nat.mod_eq_of_lt (by omega)]
  rw [h, wrap_nat (Nat.lt_of_le_of_lt Nat.and_le_left hm)]
theorem ior_nat {m n : Nat} (hm : m < 9223372036854775808) (hn : n < 9223372036854775808) : ior .i64 (m : Int) (n : Int) = ((m ||| n : Nat) : Int) := by
  unfold ior
  have h : (BitVec.ofInt IntKind.i64.bits (m : Int) ||| BitVec.ofInt IntKind.i64.bits (n : Int)).toNat = m ||| n := by
    show (BitVec.ofInt 64 (m : Int) ||| BitVec.ofInt 64 (n : Int)).toNat = m ||| n
    rw [ofInt_nat, ofInt_nat, BitVec.toNat_or, BitVec.toNat_ofNat, BitVec.toNat_ofNat, Nat.mod_eq_of_lt (by omega), Nat.mod_eq_of_lt (by omega)]
  rw [h, wrap_nat (Nat.or_lt_two_pow (n := 63) hm hn)]
theorem ishl_nat {m k : Nat} (hk : k < 63) (h : m * 2 ^ k < 9223372036854775808) : ishl .i64 (m : Int) (k : Int) = ((m <<< k : Nat) : Int) := by
  unfold ishl
  have e : min ((k : Int).toNat) IntKind.i64.bits = k := by
    show min ((k : Int).toNat) 64 = k
    omega
  rw [e, Nat.shiftLeft_eq]
  have : (m : Int) * 2 ^ k = ((m * 2 ^ k : Nat) : Int) := by push_cast; rfl
  rw [this, wrap_nat h]
theorem ishr_nat {m k : Nat} (hk : k ≤ 64) : ishr .i64 (m : Int) (k : Int) = ((m >>> k : Nat) : Int) := by
  unfold ishr
  have e : min ((k : Int).toNat) IntKind.i64.bits = k := by
    show min ((k : Int).toNat) 64 = k
    omega
  rw [e, Nat.shiftRight_eq_div_pow, Int.fdiv_eq_ediv_of_nonneg _ (by exact_mod_cast Nat.zero_le _)]
  push_cast; rfl
/-- Bits: the q-th one is put. -/
theorem ior_bit {m q : Nat} (hm : m < 4611686018427387904) (hq : q < 62) : ior .i64 (m : Int) (ishl .i64 1 (q : Int)) = ((m ||| 2 ^ q : Nat) : Int) ∧ m ||| 2 ^ q < 4611686018427387904 := by
  have h2 : 2 ^ q < 4611686018427387904 := Nat.pow_lt_pow_right (a := 2) (n := 62) (by omega) hq
  have h1 : ishl .i64 1 (q : Int) = ((2 ^ q : Nat) : Int) := by
    have := ishl_nat (m := 1) (k := q) (by omega) (by omega)
    rw [Nat.shiftLeft_eq, Nat.one_mul] at this
    exact this
  rw [h1, ior_nat (by omega) (by omega)]
  exact ⟨rfl, Nat.or_lt_two_pow (n := 62) hm h2⟩

/-- The answer is yes just if P. -/
def Tells (o : Option Bool) (P : Prop) : Prop := ∃ b, o = some b ∧ (b = true ↔ P)
theorem Tells.of {b : Bool} {P : Prop} (h : b = true ↔ P) : Tells (some b) P := ⟨b, rfl, h⟩
theorem Tells.dec {P Q : Prop} [Decidable P] (h : P ↔ Q) : Tells (some (decide P)) Q := ⟨_, rfl, by simpa using h⟩
theorem Tells.iff {o : Option Bool} {P Q : Prop} (h : Tells o P) (k : P ↔ Q) : Tells o Q := let ⟨b, h1, h2⟩ := h; ⟨b, h1, h2.trans k⟩
theorem Tells.eq {o : Option Bool} {P : Prop} [Decidable P] (h : Tells o P) : o = some (decide P) := by
  obtain ⟨b, rfl, hb⟩ := h
  by_cases hp : P
  · simp [hp, hb.2 hp]
  · have : b = false := by cases b; rfl; exact absurd (hb.1 rfl) hp
    simp [hp, this]
theorem Tells.to {R : Type} {o : Option Bool} {P : Prop} {k1 k2 x : Option R} (h : Tells o P) (h1 : P → k1 = x) (h2 : ¬ P → k2 = x) : (o.bind fun y => if y = true then k1 else k2) = x := by
  obtain ⟨b, rfl, hb⟩ := h
  refine bind_to rfl ?_
  cases b
  · exact h2 fun hp => by simpa using hb.2 hp
  · exact h1 (hb.1 rfl)
theorem Tells.bind {R : Type} {o : Option Bool} {P : Prop} {k : Bool → Option R} {x : Option R} (h : Tells o P) (h1 : ∀ b, (b = true ↔ P) → k b = x) : o.bind k = x := by
  obtain ⟨b, rfl, hb⟩ := h
  exact h1 b hb
section
variable {α C : Type} [Inhabited α]
theorem ex_ix {l : List α} {P : α → Prop} : (∃ x ∈ l, P x) ↔ ∃ i : Int, 0 ≤ i ∧ i < l.length ∧ P (ix l i) := by
  constructor
  · rintro ⟨x, hx, hp⟩
    obtain ⟨i, hi, rfl⟩ := List.mem_iff_getElem.1 hx
    refine ⟨i, by omega, by omega, ?_⟩
    rwa [ix_eq (by omega) (by omega)]
  · rintro ⟨i, h0, h1, hp⟩
    exact ⟨_, ix_mem h0 h1, hp⟩
theorem index_loop {s : List α} {f : α → Option Bool} {L : Int → Option Int} {P : α → Prop} (hs : s.length ≤ 4611686018427387904)
    (hL : ∀ t, L t = if decide (t < (s.length : Int)) = true then G (0 ≤ t ∧ t < (s.length : Int)) ((f (ix s t)).bind fun y => if y = true then some t else G (fits (t + 1)) (L (t + 1))) else some (-1))
    (hf : ∀ x ∈ s, Tells (f x) (P x)) : ∀ (n : Nat) (t : Int), 0 ≤ t → t ≤ s.length → (s.length - t).toNat = n →
      ∃ i, L t = some i ∧ ((i = -1 ∧ ∀ j : Int, t ≤ j → j < s.length → ¬ P (ix s j)) ∨ (t ≤ i ∧ i < s.length ∧ P (ix s i) ∧ ∀ j : Int, t ≤ j → j < i → ¬ P (ix s j))) := by
  intro n
  induction n with
  | zero =>
    intro t h0 h1 hn
    refine ⟨-1, ?_, .inl ⟨rfl, fun j a b => by omega⟩⟩
    rw [hL, if_neg (by simp; omega)]
  | succ n ih =>
    intro t h0 h1 hn
    rw [hL, if_pos (by simp; omega), G_pos (by omega)]
    obtain ⟨b, hb, hbp⟩ := hf _ (ix_mem h0 (by omega : t < s.length))
    rw [hb]
    cases b with
    | true => exact ⟨t, rfl, .inr ⟨by omega, by omega, hbp.1 rfl, fun j a b => by omega⟩⟩
    | false =>
      have hnp : ¬ P (ix s t) := fun hp => by simpa using hbp.2 hp
      obtain ⟨i, hi, hc⟩ := ih (t + 1) (by omega) (by omega) (by omega)
      refine ⟨i, ?_, ?_⟩
      · refine (if_neg (by simp) : (if false = true then some t else G (fits (t + 1)) (L (t + 1))) = _).trans ?_
        rw [G_pos (by unfold fits; omega), hi]
      · rcases hc with ⟨h2, h3⟩ | ⟨h2, h3, h4, h5⟩
        · refine .inl ⟨h2, fun j a b => ?_⟩
          by_cases e : j = t
          · rw [e]; exact hnp
          · exact h3 j (by omega) b
        · refine .inr ⟨by omega, h3, h4, fun j a b => ?_⟩
          by_cases e : j = t
          · rw [e]; exact hnp
          · exact h5 j (by omega) b
theorem contains_tells {s : List α} {f : α → Option Bool} {L : Int → Option Int} {P : α → Prop}
    (hL : ∀ t, L t = if decide (t < (s.length : Int)) = true then G (0 ≤ t ∧ t < (s.length : Int)) ((f (ix s t)).bind fun y => if y = true then some t else G (fits (t + 1)) (L (t + 1))) else some (-1))
    (hs : s.length ≤ 4611686018427387904) (hf : ∀ x ∈ s, Tells (f x) (P x)) : Tells ((L 0).bind fun y => some (decide ((0 : Int) ≤ y))) (∃ x ∈ s, P x) := by
  obtain ⟨i, hi, hc⟩ := index_loop hs hL hf _ 0 (by omega) (by omega) rfl
  rw [hi]
  refine ⟨decide (0 ≤ i), rfl, ?_⟩
  rw [decide_eq_true_iff, ex_ix]
  rcases hc with ⟨h2, h3⟩ | ⟨h2, h3, h4, h5⟩
  · constructor
    · intro h; omega
    · rintro ⟨j, h0, h1, hp⟩; exact absurd hp (h3 j h0 h1)
  · exact ⟨fun _ => ⟨i, by omega, h3, h4⟩, fun _ => by omega⟩
/-- .. of what carries along what it reads. -/
theorem contains_tells2 {s : List α} {c : C} {f : α → C → Option (Bool × C)} {L : Int → C → Option (Int × C)} {P : α → Prop}
    (hL : ∀ t c, L t c = if decide (t < (s.length : Int)) = true then G (0 ≤ t ∧ t < (s.length : Int)) ((f (ix s t) c).bind fun y => if y.1 = true then some (t, y.2) else G (fits (t + 1)) (L (t + 1) y.2)) else some (-1, c))
    (hs : s.length ≤ 4611686018427387904) (hf : ∀ x ∈ s, ∃ b, f x c = some (b, c) ∧ (b = true ↔ P x)) : ∃ b, ((L 0 c).bind fun y => some (decide ((0 : Int) ≤ y.1), y.2)) = some (b, c) ∧ (b = true ↔ ∃ x ∈ s, P x) := by
  have key : ∀ (n : Nat) (t : Int), 0 ≤ t → t ≤ s.length → (s.length - t).toNat = n →
      ∃ i, L t c = some (i, c) ∧ ((i = -1 ∧ ∀ j : Int, t ≤ j → j < s.length → ¬ P (ix s j)) ∨ (t ≤ i ∧ i < s.length ∧ P (ix s i))) := by
    intro n
    induction n with
    | zero =>
      intro t h0 h1 hn
      refine ⟨-1, ?_, .inl ⟨rfl, fun j a b => by omega⟩⟩
      rw [hL, if_neg (by simp; omega)]
    | succ n ih =>
      intro t h0 h1 hn
      rw [hL, if_pos (by simp; omega), G_pos (by omega)]
      obtain ⟨b, hb, hbp⟩ := hf _ (ix_mem h0 (by omega : t < s.length))
      rw [hb]
      cases b with
      | true => exact ⟨t, rfl, .inr ⟨by omega, by omega, hbp.1 rfl⟩⟩
      | false =>
        have hnp : ¬ P (ix s t) := fun hp => by simpa using hbp.2 hp
        obtain ⟨i, hi, hc⟩ := ih (t + 1) (by omega) (by omega) (by omega)
        refine ⟨i, ?_, ?_⟩
        · refine (if_neg (by simp) : (if false = true then some (t, c) else G (fits (t + 1)) (L (t + 1) c)) = _).trans ?_
          rw [G_pos (by unfold fits; omega), hi]
        · rcases hc with ⟨h2, h3⟩ | ⟨h2, h3, h4⟩
          · refine .inl ⟨h2, fun j a b => ?_⟩
            by_cases e : j = t
            · rw [e]; exact hnp
            · exact h3 j (by omega) b
          · exact .inr ⟨by omega, h3, h4⟩
  obtain ⟨i, hi, hc⟩ := key _ 0 (by omega) (by omega) rfl
  rw [hi]
  refine ⟨decide (0 ≤ i), rfl, ?_⟩
  rw [decide_eq_true_iff, ex_ix]
  rcases hc with ⟨h2, h3⟩ | ⟨h2, h3, h4⟩
  · constructor
    · intro h; omega
    · rintro ⟨j, h0, h1, hp⟩; exact absurd hp (h3 j h0 h1)
  · exact ⟨fun _ => ⟨i, by omega, h3, h4⟩, fun _ => by omega⟩
end
/-- A loop that looks for the first fault. -/
theorem scan_to {R : Type} {len : Int} {L : Int → Option R} {bad : Int → Prop} {x : Option R} {lo : Int} (h0 : lo ≤ len)
    (hs : ∀ t, lo ≤ t → t < len → (bad t → L t = x) ∧ (¬ bad t → L t = L (t + 1))) (hf : (∀ t, lo ≤ t → t < len → ¬ bad t) → L len = x) : L lo = x := by
  have key : ∀ (n : Nat) (t : Int), lo ≤ t → t ≤ len → (len - t).toNat = n → (∀ j, lo ≤ j → j < t → ¬ bad j) → L t = x := by
    intro n
    induction n with
    | zero =>
      intro t h1 h2 hn h
      obtain rfl : t = len := by omega
      exact hf h
    | succ n ih =>
      intro t h1 h2 hn h
      by_cases hb : bad t
      · exact (hs t h1 (by omega)).1 hb
      · rw [(hs t h1 (by omega)).2 hb]
        refine ih (t + 1) (by omega) (by omega) (by omega) fun j a b => ?_
        by_cases e : j = t
        · rw [e]; exact hb
        · exact h j a (by omega)
  exact key _ lo (Int.le_refl _) h0 rfl (fun j a b => by omega)
/-- A loop that counts, with a state. -/
theorem fold_to {R S : Type} {len : Int} {L : Int → S → Option R} {f : Int → S → S} {lo : Int} {I : Int → S → Prop} {s : S} (h0 : lo ≤ len) (hI : I lo s)
    (hs : ∀ t s, lo ≤ t → t < len → I t s → L t s = L (t + 1) (f t s) ∧ I (t + 1) (f t s)) : ∃ s', I len s' ∧ L lo s = L len s' := by
  have key : ∀ (n : Nat) (t : Int) (s : S), lo ≤ t → t ≤ len → (len - t).toNat = n → I t s → ∃ s', I len s' ∧ L t s = L len s' := by
    intro n
    induction n with
    | zero =>
      intro t s h1 h2 hn h
      obtain rfl : t = len := by omega
      exact ⟨s, h, rfl⟩
    | succ n ih =>
      intro t s h1 h2 hn h
      obtain ⟨e, h3⟩ := hs t s h1 (by omega) h
      obtain ⟨s', h4, h5⟩ := ih (t + 1) _ (by omega) (by omega) (by omega) h3
      exact ⟨s', h4, e.trans h5⟩
  exact key _ lo s (Int.le_refl _) h0 rfl hI

theorem r1_Words_L4_spec {a b : List Int} (hl : a.length = b.length) : ∀ (n : Nat) (i : Int), 0 ≤ i → i ≤ a.length → (a.length - i).toNat = n → a.length ≤ 2305843009213693951 → (∀ j : Int, 0 ≤ j → j < i → ix a j = ix b j) → r1_Words_L4 a b i = some (decide (a = b)) := by
  intro n
  induction n with
  | zero =>
    intro i h0 h1 hn hs h
    rw [r1_Words_L4_eq]; unfold r1_Words_L4_B
    (try dsimp only); (repeat' first | (with_reducible refine G_to ?_ ?_; focus (first | omega | (unfold fits; omega) | (unfold room; (try simp only [List.length_append, List.length_cons, List.length_nil]); omega))) | (with_reducible refine both_to ?_ ?_) | (with_reducible refine itet_to ?_) | (with_reducible refine itef_to ?_) | (with_reducible refine ite_to (fun _ => ?_) (fun _ => ?_))) <;> try (exfalso; omega)
    · rw [Option.some_inj, eq_comm, decide_eq_true_iff]; exact ix_ext hl (fun j a b => h j a (by omega))
  | succ n ih =>
    intro i h0 h1 hn hs h
    rw [r1_Words_L4_eq]; unfold r1_Words_L4_B
    (try dsimp only); (repeat' first | (with_reducible refine G_to ?_ ?_; focus (first | omega | (unfold fits; omega) | (unfold room; (try simp only [List.length_append, List.length_cons, List.length_nil]); omega))) | (with_reducible refine both_to ?_ ?_) | (with_reducible refine itet_to ?_) | (with_reducible refine itef_to ?_) | (with_reducible refine ite_to (fun _ => ?_) (fun _ => ?_))) <;> try (exfalso; omega)
    · rw [Option.some_inj, eq_comm, decide_eq_false_iff_not]; rintro rfl; contradiction
    · rename_i hx; exact ih _ (by omega) (by omega) (by omega) hs (below_succ h (Decidable.not_not.1 hx))
theorem r1_Words_spec {a b : List Int} (hs : a.length ≤ 2305843009213693951) : r1_Words a b = some (decide (a = b)) := by
  unfold r1_Words
  (try dsimp only); (repeat' first | (with_reducible refine G_to ?_ ?_; focus (first | omega | (unfold fits; omega) | (unfold room; (try simp only [List.length_append, List.length_cons, List.length_nil]); omega))) | (with_reducible refine both_to ?_ ?_) | (with_reducible refine itet_to ?_) | (with_reducible refine itef_to ?_) | (with_reducible refine ite_to (fun _ => ?_) (fun _ => ?_))) <;> try (exfalso; omega)
  · rw [Option.some_inj, eq_comm, decide_eq_false_iff_not]; rintro rfl; contradiction
  · exact r1_Words_L4_spec (by omega) _ 0 (by omega) (by omega) rfl hs (fun j a b => by omega)

theorem slices_Clone_spec {s : List Int} (hs : s.length * 8 ≤ 140737488355328) : slices_Clone s = some s := by
  have hr : G (room ([] : List Int) s 8) (some (([] : List Int) ++ s)) = some s := by
    rw [G_pos (room_of (by simpa using hs))]; rfl
  unfold slices_Clone
  refine itep_to (fun h => ?_) (fun h => hr)
  obtain rfl : s = [] := List.length_eq_zero_iff.1 h
  rw [hr]; exact both_self (ts := [(.list (.int .i64))]) (some ([] : List Int))

/-- A walk over a table. -/
def stp (N : List (List Int)) (q a : Int) : Int := ix (ix N q) a
def wlk (N : List (List Int)) (q : Int) (w : List Int) : Int := w.foldl (stp N) q
/-- The places come by. -/
def trc (N : List (List Int)) : Int → List Int → List Int
  | _, [] => []
  | q, a :: w => stp N q a :: trc N (stp N q a) w
/-- A table of so many letters. -/
structure Tab (L : Int) (N : List (List Int)) : Prop where
  row : ∀ r ∈ N, (r.length : Int) = L
  to : ∀ r ∈ N, ∀ q ∈ r, 0 ≤ q ∧ q < N.length
theorem Tab.stpb {L : Int} {N : List (List Int)} (h : Tab L N) {q a : Int} (q0 : 0 ≤ q) (q1 : q < N.length) (a0 : 0 ≤ a) (a1 : a < L) : 0 ≤ stp N q a ∧ stp N q a < N.length := by
  have h1 := ix_mem q0 q1
  have h2 := h.row _ h1
  exact h.to _ h1 _ (ix_mem a0 (by omega))
theorem Tab.rowlen {L : Int} {N : List (List Int)} (h : Tab L N) {q : Int} (q0 : 0 ≤ q) (q1 : q < N.length) : ((ix N q).length : Int) = L := h.row _ (ix_mem q0 q1)
theorem Tab.wlkb {L : Int} {N : List (List Int)} (h : Tab L N) : ∀ {w : List Int} {q : Int}, 0 ≤ q → q < N.length → (∀ a ∈ w, 0 ≤ a ∧ a < L) → 0 ≤ wlk N q w ∧ wlk N q w < N.length
  | [], q, q0, q1, _ => ⟨q0, q1⟩
  | a :: w, q, q0, q1, hw => by
    have := h.stpb q0 q1 (hw a (by simp)).1 (hw a (by simp)).2
    exact Tab.wlkb h (q := stp N q a) (w := w) this.1 this.2 (fun b hb => hw b (by simp [hb]))
theorem Tab.trcb {L : Int} {N : List (List Int)} (h : Tab L N) : ∀ {w : List Int} {q : Int}, 0 ≤ q → q < N.length → (∀ a ∈ w, 0 ≤ a ∧ a < L) → ∀ p ∈ trc N q w, 0 ≤ p ∧ p < N.length
  | [], q, q0, q1, _, p, hp => by cases hp
  | a :: w, q, q0, q1, hw, p, hp => by
    have := h.stpb q0 q1 (hw a (by simp)).1 (hw a (by simp)).2
    rcases List.mem_cons.1 hp with rfl | hp
    · exact this
    · exact Tab.trcb h this.1 this.2 (fun b hb => hw b (by simp [hb])) p hp

theorem r3_After_spec {d : Int × Int × List (List Int) × List Int × Unit} {L : Int} (h : Tab L d.2.2.1) {w : List Int} (hw : ∀ a ∈ w, 0 ≤ a ∧ a < L) (hl : w.length ≤ 1000000) {q : Int} (q0 : 0 ≤ q) (q1 : q < d.2.2.1.length) : r3_After d q w = some (wlk d.2.2.1 q w) := by
  have key : ∀ (n : Nat) (t q : Int), (w.length - t).toNat = n → 0 ≤ t → t ≤ w.length → 0 ≤ q → q < d.2.2.1.length → r3_After_L2 d w q t = some (wlk d.2.2.1 q (w.drop t.toNat)) := by
    intro n
    induction n with
    | zero =>
      intro t q hn h0 h1 q0 q1
      rw [r3_After_L2_eq]; unfold r3_After_L2_B
      (try dsimp only); (repeat' first | (with_reducible refine G_to ?_ ?_; focus (first | omega | (unfold fits; omega) | (unfold room; (try simp only [List.length_append, List.length_cons, List.length_nil]); omega))) | (with_reducible refine both_to ?_ ?_) | (with_reducible refine itet_to ?_) | (with_reducible refine itef_to ?_) | (with_reducible refine ite_to (fun _ => ?_) (fun _ => ?_))) <;> try (exfalso; omega)
      rw [List.drop_of_length_le (by omega)]; rfl
    | succ n ih =>
      intro t q hn h0 h1 q0 q1
      have ha := hw _ (ix_mem h0 (by omega : t < w.length))
      have hr := h.rowlen q0 q1
      have hs := h.stpb q0 q1 ha.1 ha.2
      rw [r3_After_L2_eq]; unfold r3_After_L2_B
      (try dsimp only); (repeat' first | (with_reducible refine G_to ?_ ?_; focus (first | omega | (unfold fits; omega) | (unfold room; (try simp only [List.length_append, List.length_cons, List.length_nil]); omega))) | (with_reducible refine both_to ?_ ?_) | (with_reducible refine itet_to ?_) | (with_reducible refine itef_to ?_) | (with_reducible refine ite_to (fun _ => ?_) (fun _ => ?_))) <;> try (exfalso; omega)
      rw [ix_drop h0 (by omega)]
      exact ih (t + 1) _ (by omega) (by omega) (by omega) hs.1 hs.2
  exact key _ 0 q rfl (by omega) (by omega) q0 q1

theorem mfind_none {α : Type} : ∀ {ks : List α} {x : α}, mfind ks x = none ↔ x ∉ ks
  | [], x => by simp [mfind]
  | y :: ys, x => by
    unfold mfind
    by_cases h : y = x
    · rw [if_pos h]; simp [h]
    · rw [if_neg h, Option.map_eq_none_iff, mfind_none]
      simp [Ne.symm h]
/-- A map that only marks: all its elements are one. -/
abbrev ones {α : Type} (ks : List α) : List Int := List.replicate ks.length 1
theorem mget_ones {α : Type} {ks : List α} {x : α} : (mget ks (ones ks) x 0 = 0) ↔ x ∉ ks := by
  unfold mget
  cases h : mfind ks x with
  | none => simp [mfind_none.1 h]
  | some j =>
    have hx : x ∈ ks := by
      refine Classical.byContradiction fun hn => ?_
      rw [mfind_none.2 hn] at h; cases h
    have := mfind_lt h
    simp [hx, this]
theorem mputK_new {α : Type} {ks : List α} {x : α} (h : x ∉ ks) : mputK ks x = ks ++ [x] := by
  unfold mputK; rw [mfind_none.2 h]
theorem mputV_new {α : Type} {ks : List α} {x : α} (h : x ∉ ks) : mputV ks (ones ks) x 1 = ones (ks ++ [x]) := by
  unfold mputV; rw [mfind_none.2 h]
  show List.replicate ks.length 1 ++ [1] = List.replicate (ks ++ [x]).length 1
  rw [List.length_append, List.length_singleton, List.replicate_succ']

theorem pigeon {α : Type} [DecidableEq α] : ∀ {l U : List α}, l.Nodup → (∀ x ∈ l, x ∈ U) → l.length ≤ U.length
  | [], _, _, _ => Nat.zero_le _
  | a :: l, U, hn, hs => by
    have ha := hs a (by simp)
    obtain ⟨h1, h2⟩ := List.nodup_cons.1 hn
    have := pigeon (U := U.erase a) h2 (fun x hx => (List.mem_erase_of_ne (by rintro rfl; exact h1 hx)).2 (hs x (by simp [hx])))
    rw [List.length_erase_of_mem ha] at this
    have hp : 0 < U.length := List.length_pos_of_mem ha
    rw [List.length_cons]; omega
theorem pigeon_int {l : List Int} {n : Nat} (h : l.Nodup) (hb : ∀ x ∈ l, 0 ≤ x ∧ x < n) : l.length ≤ n := by
  have := pigeon (U := (List.range n).map Int.ofNat) h (fun x hx => by
    have := hb x hx
    exact List.mem_map.2 ⟨x.toNat, List.mem_range.2 (by omega), by show ((x.toNat : Nat) : Int) = x; omega⟩)
  simpa using this

theorem mfind_mem {α : Type} {ks : List α} {x : α} (h : x ∈ ks) : ∃ j, mfind ks x = some j := by
  cases e : mfind ks x with
  | none => exact absurd h (mfind_none.1 e)
  | some j => exact ⟨j, rfl⟩
theorem mfind_hd {α : Type} (ks : List α) (x : α) : mfind (x :: ks) x = some 0 := by unfold mfind; rw [if_pos rfl]
theorem mfind_tl {α : Type} {ks : List α} {x y : α} (h : y ≠ x) : mfind (y :: ks) x = (mfind ks x).map (· + 1) := by
  rw [mfind, if_neg h]
theorem mfind_app {α : Type} : ∀ {ks : List α} {x : α} {j : Nat} (l : List α), mfind ks x = some j → mfind (ks ++ l) x = some j
  | [], _, _, _, h => by cases h
  | y :: ks, x, j, l, h => by
    rw [List.cons_append]
    by_cases e : y = x
    · subst e; rw [mfind_hd] at h ⊢; exact h
    · rw [mfind_tl e] at h ⊢
      cases hm : mfind ks x with
      | none => rw [hm] at h; cases h
      | some i => rw [hm] at h; rw [mfind_app l hm]; exact h
theorem mfind_new {α : Type} : ∀ {ks : List α} {x : α}, x ∉ ks → mfind (ks ++ [x]) x = some ks.length
  | [], x, _ => mfind_hd _ _
  | y :: ks, x, h => by
    have hy : y ≠ x := by rintro rfl; exact h (by simp)
    rw [List.cons_append, mfind_tl hy, mfind_new (fun hh => h (by simp [hh]))]; rfl
theorem mfind_at {α : Type} : ∀ {ks : List α} {x : α} {k : Nat}, ks[k]? = some x → (∀ j, j < k → ks[j]? ≠ some x) → mfind ks x = some k
  | [], _, _, h, _ => by simp at h
  | y :: ks, x, k, h, hf => by
    cases k with
    | zero =>
      have : y = x := by simpa using h
      subst this; exact mfind_hd _ _
    | succ k =>
      have hy : y ≠ x := by have := hf 0 (by omega); simpa using this
      rw [mfind_tl hy, mfind_at (k := k) (by simpa using h) (fun j hj => by have := hf (j + 1) (by omega); simpa using this)]; rfl
theorem mfind_inj {α : Type} {ks : List α} {x y : α} {j : Nat} (h : mfind ks x = some j) (k : mfind ks y = some j) : x = y := by
  have := mfind_get h; rw [mfind_get k] at this; injection this with this; exact this.symm
theorem mfind_nodup {α : Type} {ks : List α} (hn : ks.Nodup) {j : Nat} (hj : j < ks.length) : mfind ks ks[j] = some j :=
  mfind_at (by simp) fun i hi e => by
    have hi' : i < ks.length := by omega
    rw [List.getElem?_eq_getElem hi'] at e
    exact List.pairwise_iff_getElem.1 hn i j hi' hj hi (Option.some.inj e)
theorem mfind_map {α β : Type} (f : α → β) : ∀ {ks : List α} {x : α}, (∀ y ∈ ks, f y = f x → y = x) → mfind (ks.map f) (f x) = mfind ks x
  | [], _, _ => rfl
  | y :: ks, x, h => by
    have ih := mfind_map f (ks := ks) (x := x) (fun z hz => h z (by simp [hz]))
    rw [List.map_cons]
    by_cases e : y = x
    · subst e; rw [mfind_hd, mfind_hd]
    · rw [mfind_tl e, mfind_tl (fun hh => e (h y (by simp) hh)), ih]
/-- 0, 1, 2, .. -/
def iota (n : Nat) : List Int := (List.range n).map fun j : Nat => (j : Int)
theorem iota_len (n : Nat) : (iota n).length = n := by simp [iota]
theorem iota_succ (n : Nat) : iota (n + 1) = iota n ++ [(n : Int)] := by simp [iota, List.range_succ]
theorem mget_iota {α : Type} {ks : List α} {x : α} {j : Nat} (h : mfind ks x = some j) : mget ks (iota ks.length) x 0 = j := by
  have := mfind_lt h
  unfold mget; rw [h]
  simp [iota, this]
theorem mhas_iff {α : Type} {ks : List α} {x : α} : mhas ks x = true ↔ x ∈ ks := by
  unfold mhas
  cases e : mfind ks x with
  | none => simp [mfind_none.1 e]
  | some j =>
    have := mfind_get e
    simp [List.mem_of_getElem? this]
theorem mputV_iota {α : Type} {ks : List α} {x : α} (h : x ∉ ks) : mputV ks (iota ks.length) x ks.length = iota (ks ++ [x]).length := by
  unfold mputV; rw [mfind_none.2 h, List.length_append, List.length_singleton, iota_succ]
theorem cover_nodup {α : Type} [DecidableEq α] : ∀ {l U : List α}, U.Nodup → (∀ x ∈ U, x ∈ l) → l.length ≤ U.length → l.Nodup
  | [], _, _, _, _ => List.nodup_nil
  | a :: l, U, hU, hs, hl => by
    have ha : a ∉ l := fun ha => by
      have := pigeon (l := U) (U := l) hU (fun x hx => by
        rcases List.mem_cons.1 (hs x hx) with rfl | h
        · exact ha
        · exact h)
      rw [List.length_cons] at hl; omega
    refine List.nodup_cons.2 ⟨ha, ?_⟩
    refine cover_nodup (U := U.erase a) (hU.erase a) (fun x hx => ?_) ?_
    · have hne : x ≠ a := ((List.Nodup.mem_erase_iff hU).1 hx).1
      rcases List.mem_cons.1 (hs x (List.mem_of_mem_erase hx)) with h | h
      · exact absurd h hne
      · exact h
    · have : U.length - 1 ≤ (U.erase a).length := by
        by_cases h : a ∈ U
        · rw [List.length_erase_of_mem h]; omega
        · rw [List.erase_of_not_mem h]; omega
      rw [List.length_cons] at hl; omega

/-- The bytes of a list of small numbers. -/
def keyL (l : List Int) : List Int := l.flatMap fun x => [IntKind.wrap .u8 x, IntKind.wrap .u8 (ishr .i64 x 8)]
def keyB (l : List Int) : List UInt8 := bstr (keyL l)
theorem wrap_u8 (x : Int) : IntKind.wrap .u8 x = x % 256 := by
  unfold IntKind.wrap
  simp [IntKind.bits, IntKind.signed]
theorem keyB_cons (x : Int) (l : List Int) : keyB (x :: l) = UInt8.ofNat (x % 256).toNat :: UInt8.ofNat (ishr .i64 x 8 % 256).toNat :: keyB l := by
  unfold keyB keyL bstr
  simp [wrap_u8]
theorem u8_inj {a b : Int} (h : UInt8.ofNat (a % 256).toNat = UInt8.ofNat (b % 256).toNat) : a % 256 = b % 256 := by
  have := congrArg UInt8.toNat h
  simp only [UInt8.toNat_ofNat'] at this
  omega
theorem keyB_inj : ∀ {l k : List Int}, (∀ x ∈ l, 0 ≤ x ∧ x < 65536) → (∀ x ∈ k, 0 ≤ x ∧ x < 65536) → keyB l = keyB k → l = k
  | [], [], _, _, _ => rfl
  | [], y :: k, _, _, h => by rw [keyB_cons] at h; cases h
  | x :: l, [], _, _, h => by rw [keyB_cons] at h; cases h
  | x :: l, y :: k, hl, hk, h => by
    rw [keyB_cons, keyB_cons] at h
    injection h with h1 h
    injection h with h2 h
    have hx := hl x (by simp)
    have hy := hk y (by simp)
    have e1 := u8_inj h1
    have e2 := u8_inj h2
    obtain ⟨a, rfl⟩ : ∃ a : Nat, x = a := ⟨x.toNat, by omega⟩
    obtain ⟨b, rfl⟩ : ∃ b : Nat, y = b := ⟨y.toNat, by omega⟩
    rw [show (8 : Int) = ((8 : Nat) : Int) from rfl, ishr_nat (by omega), ishr_nat (by omega), Nat.shiftRight_eq_div_pow, Nat.shiftRight_eq_div_pow] at e2
    have : a = b := by omega
    rw [this, keyB_inj (fun z hz => hl z (by simp [hz])) (fun z hz => hk z (by simp [hz])) h]
theorem keyL_len (l : List Int) : (keyL l).length = 2 * l.length := by
  induction l with
  | nil => rfl
  | cons x l ih => unfold keyL at *; rw [List.flatMap_cons, List.length_append, ih]; simp; omega
/-- A row of so many numbers. -/
def mkR (n : Nat) (g : Int → Int) : List Int := (List.range n).map fun a : Nat => g a
theorem mkR_len (n : Nat) (g : Int → Int) : (mkR n g).length = n := by simp [mkR]
theorem mkR_ix {n : Nat} {g : Int → Int} {a : Int} (h0 : 0 ≤ a) (h1 : a < n) : ix (mkR n g) a = g a := by
  rw [ix_eq h0 (by rw [mkR_len]; exact h1)]
  simp [mkR, Int.toNat_of_nonneg h0]
theorem mkR_of {n : Nat} {g : Int → Int} {l : List Int} (hl : l.length = n) (h : ∀ a : Int, 0 ≤ a → a < n → ix l a = g a) : l = mkR n g :=
  ix_ext (by rw [mkR_len, hl]) fun j j0 j1 => by rw [mkR_ix j0 (by omega), h j j0 (by omega)]

abbrev Dt := Int × Int × (List (List Int)) × (List Int) × Unit
def DBig (mx : Int) (d : Dt) : Prop := d.2.2.1.length < 1 ∨ mx < d.2.2.1.length
def DRag (d : Dt) : Prop := ¬ (d.2.2.2.1.length : Int) = d.2.2.1.length ∨ ∃ r ∈ d.2.2.1, ¬ (r.length : Int) = d.1
def DOut (mb : Int → Prop) (d : Dt) : Prop := (d.2.1 < 0 ∨ (d.2.2.1.length : Int) ≤ d.2.1) ∨ (∃ r ∈ d.2.2.1, ∃ q ∈ r, q < 0 ∨ (d.2.2.1.length : Int) ≤ q) ∨ (∃ s ∈ d.2.2.2.1, mb s)
open Classical in
/-- What is wrong with an automaton of at most so many states, with such marks. -/
noncomputable def detE (mx : Int) (mb : Int → Prop) (d : Dt) : Int := if d.1 < 1 ∨ 4 < d.1 then 2 else if DBig mx d then 1 else if DRag d then 3 else if DOut mb d then 2 else 0
structure DOk (mx : Int) (mb : Int → Prop) (d : Dt) : Prop where
  let1 : 1 ≤ d.1 ∧ d.1 ≤ 4
  n1 : 1 ≤ d.2.2.1.length ∧ (d.2.2.1.length : Int) ≤ mx
  st : 0 ≤ d.2.1 ∧ d.2.1 < d.2.2.1.length
  mkl : (d.2.2.2.1.length : Int) = d.2.2.1.length
  mok : ∀ s ∈ d.2.2.2.1, ¬ mb s
  tab : Tab d.1 d.2.2.1
theorem detE_zero {mx : Int} {mb : Int → Prop} {d : Dt} (h : detE mx mb d = 0) : DOk mx mb d := by
  unfold detE at h
  by_cases c1 : d.1 < 1 ∨ 4 < d.1
  · rw [if_pos c1] at h; omega
  rw [if_neg c1] at h
  by_cases c2 : DBig mx d
  · rw [if_pos c2] at h; omega
  rw [if_neg c2] at h
  by_cases c3 : DRag d
  · rw [if_pos c3] at h; omega
  rw [if_neg c3] at h
  by_cases c4 : DOut mb d
  · rw [if_pos c4] at h; omega
  unfold DBig at c2; unfold DRag at c3; unfold DOut at c4
  refine ⟨by omega, by omega, ?_, ?_, fun s hs hm => c4 (.inr (.inr ⟨s, hs, hm⟩)), fun r hr => ?_, fun r hr q hq => ?_⟩
  · have : ¬ (d.2.1 < 0 ∨ (d.2.2.1.length : Int) ≤ d.2.1) := fun h => c4 (.inl h)
    omega
  · exact Decidable.not_not.1 fun h => c3 (.inl h)
  · by_cases e : (r.length : Int) = d.1
    · exact e
    · exact absurd (.inr ⟨r, hr, e⟩) c3
  · have : ¬ (q < 0 ∨ (d.2.2.1.length : Int) ≤ q) := fun h => c4 (.inr (.inl ⟨r, hr, q, hq, h⟩))
    omega

section
variable {d : Dt} {mb : Int → Prop}
def sigC (d : Dt) (c : List Int) (q : Int) : Int × List Int := (ix c q, (ix d.2.2.1 q).map (ix c))
def ksC (d : Dt) (c : List Int) : Nat → List (Int × List Int)
  | 0 => []
  | t + 1 => if sigC d c (t : Int) ∈ ksC d c t then ksC d c t else ksC d c t ++ [sigC d c (t : Int)]
noncomputable def idxC (d : Dt) (c : List Int) (q : Nat) : Nat := (mfind (ksC d c (q + 1)) (sigC d c (q : Int))).getD 0
noncomputable def rfC (d : Dt) (c : List Int) : List Int := mkR d.2.2.1.length fun q => (idxC d c q.toNat : Int)
theorem ksC_succ (c : List Int) (t : Nat) : ksC d c (t + 1) = if sigC d c (t : Int) ∈ ksC d c t then ksC d c t else ksC d c t ++ [sigC d c (t : Int)] := rfl
theorem ksC_pre (c : List Int) : ∀ t, ∃ x, ksC d c (t + 1) = ksC d c t ++ x := fun t => by
  rw [ksC_succ]
  by_cases h : sigC d c (t : Int) ∈ ksC d c t
  · exact ⟨[], by rw [if_pos h, List.append_nil]⟩
  · exact ⟨_, by rw [if_neg h]⟩
theorem ksC_mem (c : List Int) : ∀ t q : Nat, q < t → sigC d c (q : Int) ∈ ksC d c t
  | t + 1, q, h => by
    rw [ksC_succ]
    by_cases e : q = t
    · subst e
      by_cases h : sigC d c (q : Int) ∈ ksC d c q
      · rw [if_pos h]; exact h
      · rw [if_neg h]; simp
    · have := ksC_mem c t q (by omega)
      by_cases h : sigC d c (t : Int) ∈ ksC d c t
      · rw [if_pos h]; exact this
      · rw [if_neg h]; simp [this]
theorem ksC_of (c : List Int) : ∀ (t : Nat), ∀ k ∈ ksC d c t, ∃ q : Nat, q < t ∧ k = sigC d c (q : Int)
  | 0, k, h => by cases h
  | t + 1, k, h => by
    rw [ksC_succ] at h
    by_cases e : sigC d c (t : Int) ∈ ksC d c t
    · rw [if_pos e] at h
      obtain ⟨q, h1, h2⟩ := ksC_of c t k h
      exact ⟨q, by omega, h2⟩
    · rw [if_neg e] at h
      rcases List.mem_append.1 h with h | h
      · obtain ⟨q, h1, h2⟩ := ksC_of c t k h
        exact ⟨q, by omega, h2⟩
      · exact ⟨t, by omega, List.mem_singleton.1 h⟩
theorem ksC_nodup (c : List Int) : ∀ t, (ksC d c t).Nodup
  | 0 => List.nodup_nil
  | t + 1 => by
    rw [ksC_succ]
    by_cases h : sigC d c (t : Int) ∈ ksC d c t
    · rw [if_pos h]; exact ksC_nodup c t
    · rw [if_neg h, List.nodup_append]
      exact ⟨ksC_nodup c t, by simp, fun a ha b hb => by rw [List.mem_singleton.1 hb]; rintro rfl; exact h ha⟩
theorem ksC_le (c : List Int) : ∀ t, (ksC d c t).length ≤ t
  | 0 => Nat.le_refl _
  | t + 1 => by
    have := ksC_le c t
    rw [ksC_succ]
    split
    · omega
    · rw [List.length_append, List.length_singleton]; omega
theorem idxC_at (c : List Int) (q : Nat) : ∀ t, q < t → mfind (ksC d c t) (sigC d c (q : Int)) = some (idxC d c q)
  | t + 1, h => by
    by_cases e : q = t
    · subst e
      obtain ⟨j, hj⟩ := mfind_mem (ksC_mem (d := d) c (q + 1) q (by omega))
      unfold idxC; rw [hj]; rfl
    · obtain ⟨x, hx⟩ := ksC_pre (d := d) c t
      rw [hx]; exact mfind_app x (idxC_at c q t (by omega))
theorem idxC_iff (c : List Int) {q r : Nat} : idxC d c q = idxC d c r ↔ sigC d c (q : Int) = sigC d c (r : Int) := by
  have h1 := idxC_at (d := d) c q (max q r + 1) (by omega)
  have h2 := idxC_at (d := d) c r (max q r + 1) (by omega)
  constructor
  · intro e; rw [← e] at h2; exact mfind_inj h1 h2
  · intro e; rw [e, h2] at h1; exact (Option.some.inj h1).symm
theorem idxC_lt (c : List Int) {q t : Nat} (h : q < t) : idxC d c q < (ksC d c t).length := mfind_lt (idxC_at c q t h)
theorem idxC_sur (c : List Int) {t j : Nat} (h : j < (ksC d c t).length) : ∃ q, q < t ∧ idxC d c q = j := by
  obtain ⟨q, hq, e⟩ := ksC_of c t _ (List.getElem_mem h)
  refine ⟨q, hq, ?_⟩
  have h1 := idxC_at (d := d) c q t hq
  rw [← e, mfind_nodup (ksC_nodup c t) h] at h1
  exact (Option.some.inj h1).symm
/-- Classes so far: small numbers. -/
structure ClsOk (d : Dt) (c : List Int) : Prop where
  len : c.length = d.2.2.1.length
  b : ∀ q : Int, 0 ≤ q → q < c.length → 0 ≤ ix c q ∧ ix c q < 65536
theorem rfC_len (c : List Int) : (rfC d c).length = d.2.2.1.length := mkR_len _ _
theorem rfC_ix (c : List Int) {q : Int} (h0 : 0 ≤ q) (h1 : q < d.2.2.1.length) : ix (rfC d c) q = idxC d c q.toNat := mkR_ix h0 h1
theorem sigC_len (h : DOk 3000 mb d) (c : List Int) {q : Int} (h0 : 0 ≤ q) (h1 : q < d.2.2.1.length) : ((sigC d c q).2.length : Int) = d.1 := by
  unfold sigC
  rw [List.length_map]; exact h.tab.rowlen h0 h1
theorem sigC_b (h : DOk 3000 mb d) {c : List Int} (hc : ClsOk d c) {q : Int} (h0 : 0 ≤ q) (h1 : q < d.2.2.1.length) : ∀ x ∈ (sigC d c q).2, 0 ≤ x ∧ x < 65536 := by
  intro x hx
  unfold sigC at hx
  obtain ⟨y, hy, rfl⟩ := List.mem_map.1 hx
  have := h.tab.to _ (ix_mem h0 h1) y hy
  exact hc.b y this.1 (by rw [hc.len]; exact this.2)
theorem sigC_row (h : DOk 3000 mb d) (c : List Int) {q a : Int} (h0 : 0 ≤ q) (h1 : q < d.2.2.1.length) (a0 : 0 ≤ a) (a1 : a < d.1) : ix (sigC d c q).2 a = ix c (ix (ix d.2.2.1 q) a) := by
  have := h.tab.rowlen h0 h1
  unfold sigC
  exact ix_map _ a0 (by omega)
theorem sigC_eq (h : DOk 3000 mb d) (c : List Int) {p q : Int} (p0 : 0 ≤ p) (p1 : p < d.2.2.1.length) (q0 : 0 ≤ q) (q1 : q < d.2.2.1.length) : sigC d c p = sigC d c q ↔ ix c p = ix c q ∧ ∀ a : Int, 0 ≤ a → a < d.1 → ix c (ix (ix d.2.2.1 p) a) = ix c (ix (ix d.2.2.1 q) a) := by
  have l1 := sigC_len h c p0 p1
  have l2 := sigC_len h c q0 q1
  constructor
  · intro e
    refine ⟨congrArg Prod.fst e, fun a a0 a1 => ?_⟩
    rw [← sigC_row h c p0 p1 a0 a1, ← sigC_row h c q0 q1 a0 a1, e]
  · rintro ⟨e1, e2⟩
    refine Prod.ext e1 (ix_ext (by omega) fun a a0 a1 => ?_)
    rw [sigC_row h c p0 p1 a0 (by omega), sigC_row h c q0 q1 a0 (by omega)]
    exact e2 a a0 (by omega)
def encK (k : Int × List Int) : Int × List UInt8 × Unit := (k.1, keyB k.2, ())
theorem encK_inj {k l : Int × List Int} (hk : ∀ x ∈ k.2, 0 ≤ x ∧ x < 65536) (hl : ∀ x ∈ l.2, 0 ≤ x ∧ x < 65536) (e : encK k = encK l) : k = l := by
  unfold encK at e
  injection e with e1 e2
  injection e2 with e2 e3
  exact Prod.ext e1 (keyB_inj hk hl e2)
/-- The program's reading of one state. -/
theorem det_Classes_row (h : DOk 3000 mb d) {c : List Int} (hc : ClsOk d c) {t : Nat} (ht : t < d.2.2.1.length) {number : List (Int × List UInt8 × Unit)} {number_1 next' : List Int} {r6} :
    det_Classes_L10 d c t number number_1 next' r6 0 [] = if mhas number (encK (sigC d c t)) = true then det_Classes_J17 c t next' r6 (keyL (sigC d c t).2) number number_1
      else det_Classes_J17 c t next' r6 (keyL (sigC d c t).2) (mputK number (encK (sigC d c t))) (mputV number number_1 (encK (sigC d c t)) (number.length : Int)) := by
  have hrl := h.tab.rowlen (q := (t : Int)) (by omega) (by omega)
  have hlt := h.let1
  have hcl := hc.len
  have key : ∀ (n : Nat) (a : Int), ((ix d.2.2.1 (t : Int)).length - a).toNat = n → 0 ≤ a → a ≤ (ix d.2.2.1 (t : Int)).length →
      det_Classes_L10 d c t number number_1 next' r6 a (keyL ((sigC d c t).2.take a.toNat)) = det_Classes_L10 d c t number number_1 next' r6 (ix d.2.2.1 (t : Int)).length (keyL (sigC d c t).2) := by
    intro n
    induction n with
    | zero =>
      intro a hn a0 a1
      obtain rfl : a = (ix d.2.2.1 (t : Int)).length := by omega
      rw [List.take_of_length_le (by unfold sigC; rw [List.length_map]; omega)]
    | succ n ih =>
      intro a hn a0 a1
      have hst := h.tab.stpb (q := (t : Int)) (a := a) (by omega) (by omega) a0 (by omega)
      unfold stp at hst
      rw [← ih (a + 1) (by omega) (by omega) (by omega)]
      conv => lhs; rw [det_Classes_L10_eq]; unfold det_Classes_L10_B
      have hk := keyL_len ((sigC d c t).2.take a.toNat)
      rw [List.length_take] at hk
      have hsl := sigC_len h c (q := (t : Int)) (by omega) (by omega)
      rw [if_pos (by simp; omega)]
      refine G_to (by omega) (G_to (by omega) (G_to (by omega) (G_to (by omega) (G_to (by omega) (G_to (by omega) (G_to (by unfold room; simp; omega) (G_to (by unfold fits; omega) ?_)))))))
      congr 1
      rw [ix_take a0 (by omega), sigC_row h c (q := (t : Int)) (by omega) (by omega) a0 (by omega)]
      unfold keyL
      rw [List.flatMap_append]; rfl
  refine (key _ 0 rfl (by omega) (by omega)).trans ?_
  rw [det_Classes_L10_eq]; unfold det_Classes_L10_B
  rw [if_neg (by simp)]
  refine G_to (by omega) (G_to (by omega) ?_)
  rw [show (ix c (t : Int), bstr (keyL (sigC d c t).2), ()) = encK (sigC d c t) from rfl]
  by_cases c1 : mhas number (encK (sigC d c t)) = true
  · rw [if_neg (by simp [c1]), if_pos c1]
  · rw [if_pos (by simpa using c1), if_neg c1]
theorem det_Classes_pass (h : DOk 3000 mb d) {c : List Int} (hc : ClsOk d c) {count : Int} {r3} : ∀ (n t : Nat) (next' : List Int), d.2.2.1.length - t = n → t ≤ d.2.2.1.length → next'.length = d.2.2.1.length → (∀ j : Int, 0 ≤ j → j < t → ix next' j = ix (rfC d c) j) →
    det_Classes_L6 d count c r3 t ((ksC d c t).map encK) (iota (ksC d c t).length) next' = if ((ksC d c d.2.2.1.length).length : Int) = count then some (rfC d c) else r3 ((ksC d c d.2.2.1.length).length : Int) (rfC d c) := by
  have hn := h.n1
  intro n
  induction n with
  | zero =>
    intro t next' hn2 ht hl hj
    obtain rfl : t = d.2.2.1.length := by omega
    have : next' = rfC d c := ix_ext (by rw [rfC_len]; exact hl) fun j j0 j1 => hj j j0 (by omega)
    rw [det_Classes_L6_eq]; unfold det_Classes_L6_B
    rw [if_neg (by simp), List.length_map, this]
    by_cases e : ((ksC d c d.2.2.1.length).length : Int) = count
    · rw [if_pos (decide_eq_true e), if_pos e]
    · rw [if_neg (by simpa using e), if_neg e]
  | succ n ih =>
    intro t next' hn2 ht hl hj
    rw [det_Classes_L6_eq]; unfold det_Classes_L6_B
    rw [if_pos (by simp; omega)]
    refine G_to (by omega) ?_
    rw [det_Classes_row h hc (by omega)]
    have inj : ∀ y ∈ ksC d c t, encK y = encK (sigC d c t) → y = sigC d c t := fun y hy e => by
      obtain ⟨q, hq, rfl⟩ := ksC_of c t y hy
      exact encK_inj (sigC_b h hc (by omega) (by omega)) (sigC_b h hc (by omega) (by omega)) e
    have hmem : encK (sigC d c t) ∈ (ksC d c t).map encK ↔ sigC d c t ∈ ksC d c t := by
      rw [List.mem_map]
      exact ⟨fun ⟨y, hy, e⟩ => inj y hy e ▸ hy, fun hy => ⟨_, hy, rfl⟩⟩
    have hat := idxC_at (d := d) c t (t + 1) (by omega)
    have inj' : ∀ y ∈ ksC d c (t + 1), encK y = encK (sigC d c t) → y = sigC d c t := fun y hy e => by
      obtain ⟨q, hq, rfl⟩ := ksC_of c (t + 1) y hy
      exact encK_inj (sigC_b h hc (by omega) (by omega)) (sigC_b h hc (by omega) (by omega)) e
    have hget : mget ((ksC d c (t + 1)).map encK) (iota (ksC d c (t + 1)).length) (encK (sigC d c t)) 0 = idxC d c t := by
      have h1 : mfind ((ksC d c (t + 1)).map encK) (encK (sigC d c t)) = some (idxC d c t) := by rw [mfind_map encK inj', hat]
      have := mget_iota h1
      rwa [List.length_map] at this
    have fin : det_Classes_J17 c t next' (det_Classes_L6 d count c r3) (keyL (sigC d c t).2) ((ksC d c (t + 1)).map encK) (iota (ksC d c (t + 1)).length) = if ((ksC d c d.2.2.1.length).length : Int) = count then some (rfC d c) else r3 ((ksC d c d.2.2.1.length).length : Int) (rfC d c) := by
      unfold det_Classes_J17
      refine G_to (by omega) (G_to (by omega) (G_to (by unfold fits; omega) ?_))
      rw [show (ix c (t : Int), bstr (keyL (sigC d c t).2), ()) = encK (sigC d c t) from rfl, hget]
      refine ih (t + 1) _ (by omega) (by omega) (by rw [List.length_set]; exact hl) (fun j j0 j1 => ?_)
      by_cases e : j = t
      · subst e
        rw [ix_set_same j0 (by omega), rfC_ix c j0 (by omega)]; simp
      · rw [ix_set_ne (by omega) j0 (Ne.symm e)]; exact hj j j0 (by omega)
    by_cases e : sigC d c t ∈ ksC d c t
    · rw [if_pos (mhas_iff.2 (hmem.2 e))]
      rw [ksC_succ, if_pos e] at fin
      exact fin
    · have hne := fun hh => e (hmem.1 hh)
      rw [if_neg (fun hh => hne (mhas_iff.1 hh)), mputK_new hne]
      have hv := mputV_iota hne
      rw [List.length_map] at hv
      rw [List.length_map, hv]
      rw [ksC_succ, if_neg e] at fin
      rw [List.map_append] at fin
      rw [List.length_append, List.length_map]
      rw [List.length_append] at fin
      exact fin
/-- The second one's: is it alike? -/
theorem r3_Classes_L14_spec (h : DOk 3000 mb d) {c : List Int} (hc : ClsOk d c) {n q : Int} {next' first : List Int} {r7 k r10} (q0 : 0 ≤ q) (q1 : q < d.2.2.1.length) (p0 : 0 ≤ ix first k) (p1 : ix first k < d.2.2.1.length) (hk : 0 ≤ k ∧ k ≤ 100000) : ∀ (f : Nat) (same : Bool) (a : Int), (d.1 - a).toNat = f → 0 ≤ a → a ≤ d.1 →
    (same = true ↔ ix c (ix first k) = ix c q ∧ ∀ b : Int, 0 ≤ b → b < a → ix c (ix (ix d.2.2.1 (ix first k)) b) = ix c (ix (ix d.2.2.1 q) b)) ∨ (same = false ∧ sigC d c (ix first k) ≠ sigC d c q) →
    r3_Classes_L14 d c n q next' first r7 k r10 same a = if sigC d c (ix first k) = sigC d c q then r3_Classes_J18 n q next' first r7 k else r10 (k + 1) := by
  have hlt := h.let1
  have hcl := hc.len
  have bad : ∀ a : Int, a ≤ d.1 → sigC d c (ix first k) ≠ sigC d c q → r3_Classes_L14 d c n q next' first r7 k r10 false a = if sigC d c (ix first k) = sigC d c q then r3_Classes_J18 n q next' first r7 k else r10 (k + 1) := fun a _ hne => by
    rw [if_neg hne, r3_Classes_L14_eq]; unfold r3_Classes_L14_B r3_Classes_J14
    simp only [Bool.false_eq_true, if_false, ite_self]
    exact G_to (by unfold fits; omega) rfl
  intro f
  induction f with
  | zero =>
    intro same a hf a0 a1 hs
    obtain rfl : a = d.1 := by omega
    rcases hs with hs | ⟨rfl, hs⟩
    · rw [← sigC_eq h c p0 p1 q0 q1] at hs
      cases same with
      | false => exact bad _ (by omega) (fun e => by have := hs.2 e; cases this)
      | true =>
        rw [if_pos (hs.1 rfl), r3_Classes_L14_eq]; unfold r3_Classes_L14_B r3_Classes_J14
        rw [if_neg (by simp), if_neg (by simp), if_pos rfl]
    · exact bad _ (by omega) hs
  | succ f ih =>
    intro same a hf a0 a1 hs
    rcases hs with hs | ⟨rfl, hs⟩
    · cases same with
      | false =>
        refine bad _ a1 (fun e => ?_)
        rw [sigC_eq h c p0 p1 q0 q1] at e
        have := hs.2 ⟨e.1, fun b b0 b1 => e.2 b b0 (by omega)⟩
        cases this
      | true =>
        have hp := h.tab.rowlen p0 p1
        have hq := h.tab.rowlen q0 q1
        have sp := h.tab.stpb p0 p1 a0 (by omega)
        have sq := h.tab.stpb q0 q1 a0 (by omega)
        unfold stp at sp sq
        rw [r3_Classes_L14_eq]; unfold r3_Classes_L14_B r3_Classes_J14 r3_Classes_J14_1
        rw [if_pos (by simp; omega), if_pos rfl]
        refine G_to (by omega) (G_to (by omega) (G_to (by omega) (G_to (by omega) (G_to (by omega) (G_to (by omega) (G_to (by omega) (G_to (by omega) (G_to (by unfold fits; omega) ?_))))))))
        refine ih _ (a + 1) (by omega) (by omega) (by omega) (.inl ?_)
        rw [decide_eq_true_iff]
        have hs' := hs.1 rfl
        constructor
        · intro e
          refine ⟨hs'.1, fun b b0 b1 => ?_⟩
          by_cases e2 : b = a
          · rw [e2]; exact e
          · exact hs'.2 b b0 (by omega)
        · intro e; exact e.2 a a0 (by omega)
    · exact bad _ a1 hs
theorem r3_Classes_search (h : DOk 3000 mb d) {c : List Int} (hc : ClsOk d c) {t : Nat} (ht : t < d.2.2.1.length) {next' first : List Int} {r7} (hl : next'.length = d.2.2.1.length) (hf : first.map (sigC d c) = ksC d c t) (hb : ∀ p : Int, p ∈ first → 0 ≤ p ∧ p < d.2.2.1.length) :
    ∃ first' : List Int, first'.map (sigC d c) = ksC d c (t + 1) ∧ (∀ p : Int, p ∈ first' → 0 ≤ p ∧ p < d.2.2.1.length) ∧ r3_Classes_L10 d c (first.length : Int) t next' first r7 0 = r7 (first'.length : Int) ((t : Int) + 1) (next'.set t (idxC d c t : Int)) first' := by
  have hn := h.n1
  have hfl : first.length = (ksC d c t).length := by rw [← hf, List.length_map]
  have hle := ksC_le (d := d) c t
  have hcl := hc.len
  have key : ∀ (f : Nat) (k : Int), (first.length - k).toNat = f → 0 ≤ k → k ≤ first.length → (∀ j : Int, 0 ≤ j → j < k → sigC d c (ix first j) ≠ sigC d c t) →
      ∃ first' : List Int, first'.map (sigC d c) = ksC d c (t + 1) ∧ (∀ p : Int, p ∈ first' → 0 ≤ p ∧ p < d.2.2.1.length) ∧ r3_Classes_L10 d c (first.length : Int) t next' first r7 k = r7 (first'.length : Int) ((t : Int) + 1) (next'.set t (idxC d c t : Int)) first' := by
    intro f
    induction f with
    | zero =>
      intro k hk k0 k1 hj
      obtain rfl : k = first.length := by omega
      have hnot : sigC d c t ∉ ksC d c t := fun hm => by
        rw [← hf] at hm
        obtain ⟨p, hp, e⟩ := List.mem_map.1 hm
        obtain ⟨j, j0, j1, rfl⟩ := (ex_ix (P := fun x => x = p)).1 ⟨p, hp, rfl⟩
        exact hj j j0 j1 e
      have hidx : idxC d c t = first.length := by
        have h1 := idxC_at (d := d) c t (t + 1) (by omega)
        rw [ksC_succ, if_neg hnot, mfind_new hnot] at h1
        rw [hfl]; exact (Option.some.inj h1).symm
      refine ⟨first ++ [(t : Int)], by rw [List.map_append, hf, ksC_succ, if_neg hnot]; rfl, fun p hp => (List.mem_append.1 hp).elim (hb p) (fun e => by rw [List.mem_singleton.1 e]; omega), ?_⟩
      rw [r3_Classes_L10_eq]; unfold r3_Classes_L10_B r3_Classes_J18 r3_Classes_J21
      rw [if_neg (by simp), if_pos (by simp), hidx]
      refine G_to (by unfold room; simp; omega) (G_to (by unfold fits; omega) (G_to (by omega) (G_to (by omega) (G_to (by unfold fits; omega) ?_))))
      rw [List.length_append, List.length_singleton]; rfl
    | succ f ih =>
      intro k hk k0 k1 hj
      have hp := hb _ (ix_mem k0 (by omega : k < first.length))
      rw [r3_Classes_L10_eq]; unfold r3_Classes_L10_B
      rw [if_pos (by simp; omega)]
      have hL := r3_Classes_L14_spec (n := (first.length : Int)) (next' := next') (first := first) (r7 := r7) (k := k) (r10 := r3_Classes_L10 d c (first.length : Int) t next' first r7) h hc (q := (t : Int)) (by omega) (by omega) hp.1 hp.2 (by omega) _ (decide (ix c (ix first k) = ix c (t : Int))) 0 rfl (by omega) (by have := h.let1; omega) (.inl (by
        rw [decide_eq_true_iff]
        exact ⟨fun e => ⟨e, fun b b0 b1 => by omega⟩, fun e => e.1⟩))
      have hG : ∀ x : Option (List Int), G (0 ≤ k ∧ k < (first.length : Int)) (G (k.toNat < first.length) (G (0 ≤ ix first k ∧ ix first k < (c.length : Int)) (G ((ix first k).toNat < c.length) (G (0 ≤ (t : Int) ∧ (t : Int) < (c.length : Int)) (G (((t : Int)).toNat < c.length) x))))) = x := fun x =>
        G_to (by omega) (G_to (by omega) (G_to (by omega) (G_to (by omega) (G_to (by omega) (G_to (by omega) rfl)))))
      rw [hG, hL]
      by_cases e : sigC d c (ix first k) = sigC d c t
      · rw [if_pos e]
        have hget : (ksC d c t)[k.toNat]? = some (sigC d c t) := by
          rw [← hf, List.getElem?_map, ix_some k0 (by omega), Option.map_some, e]
        have hin : sigC d c t ∈ ksC d c t := List.mem_of_getElem? hget
        have hidx : (idxC d c t : Int) = k := by
          have h1 := idxC_at (d := d) c t (t + 1) (by omega)
          rw [ksC_succ, if_pos hin, mfind_at hget (fun j hj2 e2 => by
            have h3 := hj (j : Int) (by omega) (by omega)
            rw [← hf, List.getElem?_map, ← Int.toNat_natCast j, ix_some (by omega) (by omega), Option.map_some] at e2
            exact h3 (Option.some.inj e2))] at h1
          have := Option.some.inj h1
          omega
        refine ⟨first, by rw [hf, ksC_succ, if_pos hin], hb, ?_⟩
        unfold r3_Classes_J18 r3_Classes_J21
        rw [if_neg (by simp; omega), hidx]
        exact G_to (by omega) (G_to (by omega) (G_to (by unfold fits; omega) rfl))
      · rw [if_neg e]
        refine ih (k + 1) (by omega) (by omega) (by omega) (fun j j0 j1 => ?_)
        by_cases e2 : j = k
        · rw [e2]; exact e
        · exact hj j j0 (by omega)
  exact key _ 0 rfl (by omega) (by omega) (fun j j0 j1 => by omega)
theorem r3_Classes_pass (h : DOk 3000 mb d) {c : List Int} (hc : ClsOk d c) {count : Int} {r3} : ∀ (n t : Nat) (next' first : List Int), d.2.2.1.length - t = n → t ≤ d.2.2.1.length → next'.length = d.2.2.1.length → (∀ j : Int, 0 ≤ j → j < t → ix next' j = ix (rfC d c) j) → first.map (sigC d c) = ksC d c t → (∀ p : Int, p ∈ first → 0 ≤ p ∧ p < d.2.2.1.length) →
    r3_Classes_L7 d count c r3 (first.length : Int) t next' first = if ((ksC d c d.2.2.1.length).length : Int) = count then some (rfC d c) else r3 ((ksC d c d.2.2.1.length).length : Int) (rfC d c) := by
  have hn := h.n1
  have hcl := hc.len
  intro n
  induction n with
  | zero =>
    intro t next' first hn2 ht hl hj hf hb
    obtain rfl : t = d.2.2.1.length := by omega
    have : next' = rfC d c := ix_ext (by rw [rfC_len]; exact hl) fun j j0 j1 => hj j j0 (by omega)
    have hfl : first.length = (ksC d c d.2.2.1.length).length := by rw [← hf, List.length_map]
    rw [r3_Classes_L7_eq]; unfold r3_Classes_L7_B
    rw [if_neg (by simp; omega), this, hfl]
    by_cases e : ((ksC d c d.2.2.1.length).length : Int) = count
    · rw [if_pos (decide_eq_true e), if_pos e]
    · rw [if_neg (by simpa using e), if_neg e]
  | succ n ih =>
    intro t next' first hn2 ht hl hj hf hb
    rw [r3_Classes_L7_eq]; unfold r3_Classes_L7_B
    rw [if_pos (by simp; omega)]
    obtain ⟨first', f1, f2, f3⟩ := r3_Classes_search (r7 := r3_Classes_L7 d count c r3) h hc (by omega : t < d.2.2.1.length) hl hf hb
    refine f3.trans ?_
    refine ih (t + 1) _ first' (by omega) (by omega) (by rw [List.length_set]; exact hl) (fun j j0 j1 => ?_) f1 f2
    by_cases e : j = t
    · subst e
      have := ix_set_same (l := next') (i := (t : Int)) (x := (idxC d c t : Int)) (by omega) (by omega)
      rw [Int.toNat_natCast] at this
      rw [this, rfC_ix c j0 (by omega), Int.toNat_natCast]
    · have := ix_set_ne (l := next') (i := (t : Int)) (j := j) (x := (idxC d c t : Int)) (by omega) j0 (Ne.symm e)
      rw [Int.toNat_natCast] at this
      rw [this]; exact hj j j0 (by omega)
end

section
variable {d : Dt}
abbrev badD (m : Int) : Prop := ¬ m = 0 ∧ ¬ m = 1
/-- The classes in the end. -/
structure FinC (d : Dt) (C : List Int) (K : Nat) : Prop where
  len : C.length = d.2.2.1.length
  le : K ≤ d.2.2.1.length
  b : ∀ q : Int, 0 ≤ q → q < d.2.2.1.length → 0 ≤ ix C q ∧ ix C q < K
  sur : ∀ v : Int, 0 ≤ v → v < K → ∃ q : Int, 0 ≤ q ∧ q < d.2.2.1.length ∧ ix C q = v
  mark : ∀ q r : Int, 0 ≤ q → q < d.2.2.1.length → 0 ≤ r → r < d.2.2.1.length → ix C q = ix C r → ix d.2.2.2.1 q = ix d.2.2.2.1 r
  stable : ∀ q r : Int, 0 ≤ q → q < d.2.2.1.length → 0 ≤ r → r < d.2.2.1.length → ix C q = ix C r → ∀ a : Int, 0 ≤ a → a < d.1 → ix C (ix (ix d.2.2.1 q) a) = ix C (ix (ix d.2.2.1 r) a)
theorem rfC_same {c : List Int} {q r : Int} (q0 : 0 ≤ q) (q1 : q < d.2.2.1.length) (r0 : 0 ≤ r) (r1 : r < d.2.2.1.length) : ix (rfC d c) q = ix (rfC d c) r ↔ sigC d c q = sigC d c r := by
  rw [rfC_ix c q0 q1, rfC_ix c r0 r1]
  have := idxC_iff (d := d) c (q := q.toNat) (r := r.toNat)
  rw [Int.toNat_of_nonneg q0, Int.toNat_of_nonneg r0] at this
  rw [← this]
  exact ⟨fun e => by exact_mod_cast e, fun e => by rw [e]⟩
theorem iota_mem {n : Nat} {v : Int} : v ∈ iota n ↔ 0 ≤ v ∧ v < n := by
  unfold iota
  rw [List.mem_map]
  constructor
  · rintro ⟨j, hj, rfl⟩; have := List.mem_range.1 hj; omega
  · rintro ⟨h0, h1⟩; exact ⟨v.toNat, List.mem_range.2 (by omega), by omega⟩
theorem iota_nodup (n : Nat) : (iota n).Nodup := by
  unfold iota
  refine List.Pairwise.map _ (fun a b (h : a ≠ b) => by omega) (List.nodup_range (n := n))
theorem classes_iter (h : DOk 3000 badD d) : ∀ (f k : Nat) (c : List Int), d.2.2.1.length - k = f → ClsOk d c →
    (∀ q r : Int, 0 ≤ q → q < d.2.2.1.length → 0 ≤ r → r < d.2.2.1.length → ix c q = ix c r → ix d.2.2.2.1 q = ix d.2.2.2.1 r) → (∀ v : Int, 0 ≤ v → v < k → ∃ q : Int, 0 ≤ q ∧ q < d.2.2.1.length ∧ ix c q = v) →
    ∃ C K, FinC d C K ∧ det_Classes_L3 d (k : Int) c = some C ∧ r3_Classes_L3 d (k : Int) c = some C := by
  have hn := h.n1
  intro f
  induction f using Nat.strongRecOn with
  | ind f ih =>
  intro k c hf hc hm hs
  have hcl := hc.len
  have hK := ksC_le (d := d) c d.2.2.1.length
  have hcov : ∀ x ∈ iota k, x ∈ (ksC d c d.2.2.1.length).map Prod.fst := fun x hx => by
    obtain ⟨x0, x1⟩ := iota_mem.1 hx
    obtain ⟨q, q0, q1, e⟩ := hs x x0 x1
    have := ksC_mem (d := d) c d.2.2.1.length q.toNat (by omega)
    rw [Int.toNat_of_nonneg q0] at this
    exact List.mem_map.2 ⟨_, this, e⟩
  have hge : k ≤ (ksC d c d.2.2.1.length).length := by
    have := pigeon (iota_nodup k) hcov
    rwa [iota_len, List.length_map] at this
  have hpos : 0 < (ksC d c d.2.2.1.length).length := List.length_pos_of_mem (ksC_mem (d := d) c d.2.2.1.length 0 (by omega))
  have eP : det_Classes_L3 d (k : Int) c = if ((ksC d c d.2.2.1.length).length : Int) = k then some (rfC d c) else det_Classes_L3 d ((ksC d c d.2.2.1.length).length : Int) (rfC d c) := by
    conv => lhs; rw [det_Classes_L3_eq]; unfold det_Classes_L3_B
    refine G_to (by unfold mkOK; omega) ?_
    exact det_Classes_pass h hc _ 0 _ rfl (by omega) (by simp; omega) (fun j j0 j1 => by omega)
  have eR : r3_Classes_L3 d (k : Int) c = if ((ksC d c d.2.2.1.length).length : Int) = k then some (rfC d c) else r3_Classes_L3 d ((ksC d c d.2.2.1.length).length : Int) (rfC d c) := by
    conv => lhs; rw [r3_Classes_L3_eq]; unfold r3_Classes_L3_B
    refine G_to (by unfold mkOK; omega) ?_
    exact r3_Classes_pass h hc _ 0 _ [] rfl (by omega) (by simp; omega) (fun j j0 j1 => by omega) rfl (fun p hp => by cases hp)
  have b' : ∀ q : Int, 0 ≤ q → q < d.2.2.1.length → 0 ≤ ix (rfC d c) q ∧ ix (rfC d c) q < (ksC d c d.2.2.1.length).length := fun q q0 q1 => by
    rw [rfC_ix c q0 q1]
    have := idxC_lt (d := d) c (q := q.toNat) (t := d.2.2.1.length) (by omega)
    omega
  have sur' : ∀ v : Int, 0 ≤ v → v < (ksC d c d.2.2.1.length).length → ∃ q : Int, 0 ≤ q ∧ q < d.2.2.1.length ∧ ix (rfC d c) q = v := fun v v0 v1 => by
    obtain ⟨q, hq, e⟩ := idxC_sur (d := d) c (t := d.2.2.1.length) (j := v.toNat) (by omega)
    refine ⟨q, by omega, by omega, ?_⟩
    rw [rfC_ix c (by omega) (by omega), Int.toNat_natCast, e]; omega
  have m' : ∀ q r : Int, 0 ≤ q → q < d.2.2.1.length → 0 ≤ r → r < d.2.2.1.length → ix (rfC d c) q = ix (rfC d c) r → ix d.2.2.2.1 q = ix d.2.2.2.1 r := fun q r q0 q1 r0 r1 e =>
    hm q r q0 q1 r0 r1 (congrArg Prod.fst ((rfC_same q0 q1 r0 r1).1 e))
  by_cases e : ((ksC d c d.2.2.1.length).length : Int) = k
  · rw [if_pos e] at eP eR
    refine ⟨rfC d c, _, ⟨rfC_len c, hK, b', sur', m', fun q r q0 q1 r0 r1 he a a0 a1 => ?_⟩, eP, eR⟩
    have hnd : ((ksC d c d.2.2.1.length).map Prod.fst).Nodup := cover_nodup (iota_nodup k) hcov (by rw [List.length_map, iota_len]; omega)
    have tot : ∀ x y : Int, 0 ≤ x → x < d.2.2.1.length → 0 ≤ y → y < d.2.2.1.length → ix c x = ix c y → ix (rfC d c) x = ix (rfC d c) y := fun x y x0 x1 y0 y1 exy => by
      rw [rfC_same x0 x1 y0 y1]
      have hx := ksC_mem (d := d) c d.2.2.1.length x.toNat (by omega)
      have hy := ksC_mem (d := d) c d.2.2.1.length y.toNat (by omega)
      rw [Int.toNat_of_nonneg x0] at hx
      rw [Int.toNat_of_nonneg y0] at hy
      obtain ⟨i, hi, ei⟩ := List.mem_iff_getElem.1 hx
      obtain ⟨j, hj, ej⟩ := List.mem_iff_getElem.1 hy
      have key : ∀ i j : Nat, (hi : i < (ksC d c d.2.2.1.length).length) → (hj : j < (ksC d c d.2.2.1.length).length) → i < j → (ksC d c d.2.2.1.length)[i].1 ≠ (ksC d c d.2.2.1.length)[j].1 := fun i j hi hj hlt hh => by
        have := List.pairwise_iff_getElem.1 hnd i j (by rw [List.length_map]; exact hi) (by rw [List.length_map]; exact hj) hlt
        rw [List.getElem_map, List.getElem_map] at this
        exact this hh
      have hfst : (ksC d c d.2.2.1.length)[i].1 = (ksC d c d.2.2.1.length)[j].1 := by rw [ei, ej]; exact exy
      have : i = j := by
        rcases Nat.lt_trichotomy i j with hlt | rfl | hlt
        · exact absurd hfst (key i j hi hj hlt)
        · rfl
        · exact absurd hfst.symm (key j i hj hi hlt)
      subst this
      rw [← ei, ej]
    have hsig := (sigC_eq h c q0 q1 r0 r1).1 ((rfC_same q0 q1 r0 r1).1 he)
    have sq := h.tab.stpb q0 q1 a0 a1
    have sr := h.tab.stpb r0 r1 a0 a1
    unfold stp at sq sr
    exact tot _ _ sq.1 sq.2 sr.1 sr.2 (hsig.2 a a0 a1)
  · rw [if_neg e] at eP eR
    rw [eP, eR]
    have hlt : k < (ksC d c d.2.2.1.length).length := by omega
    exact ih (d.2.2.1.length - (ksC d c d.2.2.1.length).length) (by omega) _ (rfC d c) rfl ⟨rfC_len c, fun q q0 q1 => by
      rw [rfC_len] at q1
      have := b' q q0 q1
      omega⟩ m' sur'
theorem classes_both (h : DOk 3000 badD d) : ∃ C K, FinC d C K ∧ det_Classes d = some C ∧ r3_Classes d = some C := by
  have hn := h.n1
  have hmk := h.mkl
  have hc : ClsOk d d.2.2.2.1 := ⟨by omega, fun q q0 q1 => by
    have := h.mok _ (ix_mem q0 q1)
    omega⟩
  obtain ⟨C, K, h1, h2, h3⟩ := classes_iter h _ 0 d.2.2.2.1 rfl hc (fun q r _ _ _ _ e => e) (fun v v0 v1 => by omega)
  refine ⟨C, K, h1, ?_, ?_⟩
  · unfold det_Classes
    exact bind_to (slices_Clone_spec (by omega)) h2
  · unfold r3_Classes
    exact G_to (by unfold room; simp; omega) h3
end

section
variable {d : Dt}
structure RowOk (d : Dt) (C Q : List Int) (i : Int) (row : List Int) : Prop where
  len : (row.length : Int) = d.1
  to : ∀ a : Int, 0 ≤ a → a < d.1 → 0 ≤ ix row a ∧ ix row a < Q.length ∧ ix C (ix Q (ix row a)) = ix C (ix (ix d.2.2.1 (ix Q i)) a)
structure QOk (d : Dt) (C Q : List Int) : Prop where
  b : ∀ q : Int, q ∈ Q → 0 ≤ q ∧ q < d.2.2.1.length
  nd : (Q.map (ix C)).Nodup
  z : 0 < Q.length ∧ ix Q 0 = d.2.1
structure PartOk (d : Dt) (C Q : List Int) (D2 : List (List Int)) (D3 : List Int) : Prop where
  q : QOk d C Q
  l2 : D2.length ≤ Q.length
  l3 : D3.length = D2.length
  row : ∀ i : Int, 0 ≤ i → i < D2.length → RowOk d C Q i (ix D2 i)
  mark : ∀ i : Int, 0 ≤ i → i < D2.length → ix D3 i = ix d.2.2.2.1 (ix Q i)
theorem QOk.le {C Q : List Int} {K : Nat} (hC : FinC d C K) (h : QOk d C Q) : Q.length ≤ K := by
  have := pigeon_int (n := K) h.nd (fun v hv => by
    obtain ⟨q, hq, rfl⟩ := List.mem_map.1 hv
    have := h.b q hq
    exact hC.b q this.1 this.2)
  rwa [List.length_map] at this
theorem RowOk.ext {C Q : List Int} {i : Int} {row : List Int} (h : RowOk d C Q i row) (i0 : 0 ≤ i) (i1 : i < Q.length) (x : List Int) : RowOk d C (Q ++ x) i row :=
  ⟨h.len, fun a a0 a1 => by
    obtain ⟨h1, h2, h3⟩ := h.to a a0 a1
    rw [ix_append_left h1 h2, ix_append_left i0 i1]
    exact ⟨h1, by rw [List.length_append]; omega, h3⟩⟩
/-- A least automaton, and of which states its states are. -/
structure LeastOk (d o : Dt) (C Q : List Int) (K : Nat) : Prop where
  fin : FinC d C K
  part : PartOk d C Q o.2.2.1 o.2.2.2.1
  all : o.2.2.1.length = Q.length
  let1 : o.1 = d.1
  st : o.2.1 = 0
/-- What numbers stand for classes. -/
def NumOk (d : Dt) (C Q NA : List Int) : Prop := NA.length = d.2.2.1.length ∧ ∀ v : Int, 0 ≤ v → v < d.2.2.1.length → ix NA v = match mfind (Q.map (ix C)) v with
  | some j => (j : Int)
  | none => -1
structure OfOk (d : Dt) (C l : List Int) (K : Nat) : Prop where
  len : l.length = d.2.2.1.length
  b : ∀ v : Int, 0 ≤ v → v < K → 0 ≤ ix l v ∧ ix l v < d.2.2.1.length ∧ ix C (ix l v) = v
theorem least_letters (h : DOk 3000 badD d) {C l Q0 : List Int} {K : Nat} (hC : FinC d C K) (hl : OfOk d C l K) {L0 : List Int} {D2 : List (List Int)} {D3 : List Int} {r4 r11} {i : Int} (hi : i = D2.length) (eL : ix L0 i = ix C (ix Q0 i)) :
    ∀ (f : Nat) (t : Int) (Q NA row : List Int), (d.1 - t).toNat = f → 0 ≤ t → t ≤ d.1 → PartOk d C Q D2 D3 → i < Q.length → ix Q i = ix Q0 i → NumOk d C Q NA → (row.length : Int) = d.1 →
      (∀ a : Int, 0 ≤ a → a < t → 0 ≤ ix row a ∧ ix row a < Q.length ∧ ix C (ix Q (ix row a)) = ix C (ix (ix d.2.2.1 (ix Q i)) a)) →
    ∃ x NA' row', PartOk d C (Q ++ x) (D2 ++ [row']) (D3 ++ [ix d.2.2.2.1 (ix Q i)]) ∧ NumOk d C (Q ++ x) NA' ∧
      det_Explore_L8 d.1 C d l d l ((C.length : Int) + 1) d.1 0 L0 D2 D3 r4 t (Q.map (ix C)) (iota (Q.map (ix C)).length) (Q.map (ix C)) row = r4 d.1 0 ((Q ++ x).map (ix C)) (iota ((Q ++ x).map (ix C)).length) ((Q ++ x).map (ix C)) (D2 ++ [row']) (D3 ++ [ix d.2.2.2.1 (ix Q i)]) ∧
      r3_Least_L15 d C i d.1 0 D2 D3 r11 t NA Q row = r11 (i + 1) NA' (Q ++ x) d.1 0 (D2 ++ [row']) (D3 ++ [ix d.2.2.2.1 (ix Q i)]) := by
  have hn := h.n1
  have hlt := h.let1
  have hmk := h.mkl
  have hcl := hC.len
  have hK := hC.le
  intro f
  induction f with
  | zero =>
    intro t Q NA row hf t0 t1 hP hiQ eQ hN hrl hrow
    obtain rfl : t = d.1 := by omega
    have hQK := hP.q.le hC
    have hq := hP.q.b _ (ix_mem (by omega) hiQ)
    have hv := hC.b _ hq.1 hq.2
    obtain ⟨o1, o2, o3⟩ := hl.b _ hv.1 hv.2
    have hl3 := hP.l3
    have hll := hl.len
    have hmark : ix d.2.2.2.1 (ix l (ix C (ix Q i))) = ix d.2.2.2.1 (ix Q i) := hC.mark _ _ o1 o2 hq.1 hq.2 o3
    refine ⟨[], NA, row, ⟨by simpa using hP.q, by rw [List.length_append, List.length_append, List.length_singleton]; omega, by rw [List.length_append, List.length_append, List.length_singleton, List.length_singleton]; omega, fun j j0 j1 => ?_, fun j j0 j1 => ?_⟩, by simpa using hN, ?_, ?_⟩
    · rw [List.length_append, List.length_singleton] at j1
      rw [List.append_nil]
      by_cases e : j < D2.length
      · rw [ix_append_left j0 e]; exact hP.row j j0 e
      · obtain rfl : j = D2.length := by omega
        rw [ix_append_last, ← hi]; exact ⟨hrl, hrow⟩
    · rw [List.length_append, List.length_singleton] at j1
      rw [List.append_nil]
      by_cases e : j < D2.length
      · rw [ix_append_left j0 (by omega)]; exact hP.mark j j0 e
      · have e1 : j = D3.length := by omega
        have e2 : j = i := by omega
        rw [e1, ix_append_last, ← e1, e2]
    · rw [det_Explore_L8_eq]; unfold det_Explore_L8_B det_Smallest_2
      rw [if_neg (by simp), ← hi, eL, ← eQ, List.append_nil]
      refine G_to (by unfold room; simp; have := hP.l2; omega) ?_
      refine bind_to (y := ix d.2.2.2.1 (ix Q i)) ?_ ?_
      · rw [← hmark]
        exact G_to (by omega) (G_to (by omega) rfl)
      · exact G_to (by unfold room; simp; have := hP.l2; omega) rfl
    · rw [r3_Least_L15_eq]; unfold r3_Least_L15_B
      rw [if_neg (by simp), List.append_nil]
      exact G_to (by unfold room; simp; have := hP.l2; omega) (G_to (by omega) (G_to (by omega) (G_to (by omega) (G_to (by unfold room; simp; have := hP.l2; omega) (G_to (by unfold fits; omega) rfl)))))
  | succ f ih =>
    intro t Q NA row hf t0 t1 hP hiQ eQ hN hrl hrow
    have hQK := hP.q.le hC
    have hq := hP.q.b _ (ix_mem (by omega) hiQ)
    have hv := hC.b _ hq.1 hq.2
    obtain ⟨o1, o2, o3⟩ := hl.b _ hv.1 hv.2
    have hll := hl.len
    have hr1 := h.tab.rowlen hq.1 hq.2
    have hr2 := h.tab.rowlen o1 o2
    have hx := h.tab.stpb hq.1 hq.2 t0 (by omega)
    have hy := h.tab.stpb o1 o2 t0 (by omega)
    unfold stp at hx hy
    have hst := hC.stable _ _ o1 o2 hq.1 hq.2 o3 t t0 (by omega)
    have hw := hC.b _ hx.1 hx.2
    have hNx := hN.2 _ hw.1 (by omega : _ < (d.2.2.1.length : Int))
    have hNl := hN.1
    -- the next state and its class
    obtain ⟨x, hxd⟩ : ∃ x, x = ix (ix d.2.2.1 (ix Q i)) t := ⟨_, rfl⟩
    rw [← hxd] at hx hst hw hNx
    have s1 : det_Smallest_1 (ix L0 (D2.length : Int)) t C d l = some (ix C x) := by
      unfold det_Smallest_1
      rw [← hi, eL, ← eQ, ← hst]
      exact G_to (by omega) (G_to (by omega) (G_to (by omega) (G_to (by omega) rfl)))
    have hP1 : det_Explore_L8 d.1 C d l d l ((C.length : Int) + 1) d.1 0 L0 D2 D3 r4 t (Q.map (ix C)) (iota (Q.map (ix C)).length) (Q.map (ix C)) row =
        if ix C x ∈ Q.map (ix C) then det_Explore_L8 d.1 C d l d l ((C.length : Int) + 1) d.1 0 L0 D2 D3 r4 (t + 1) (Q.map (ix C)) (iota (Q.map (ix C)).length) (Q.map (ix C)) (row.set t.toNat (mget (Q.map (ix C)) (iota (Q.map (ix C)).length) (ix C x) 0))
        else det_Explore_L8 d.1 C d l d l ((C.length : Int) + 1) d.1 0 L0 D2 D3 r4 (t + 1) ((Q ++ [x]).map (ix C)) (iota ((Q ++ [x]).map (ix C)).length) ((Q ++ [x]).map (ix C)) (row.set t.toNat (Q.length : Int)) := by
      conv => lhs; rw [det_Explore_L8_eq]; unfold det_Explore_L8_B
      rw [if_pos (by simp; omega)]
      refine bind_to s1 ?_
      unfold det_Explore_J17
      by_cases c : ix C x ∈ Q.map (ix C)
      · rw [if_neg (by rw [mhas_iff.2 c]; simp), if_pos c]
        exact G_to (by omega) (G_to (by omega) (G_to (by unfold fits; omega) rfl))
      · have hh : mhas (Q.map (ix C)) (ix C x) = false := by
          cases e : mhas (Q.map (ix C)) (ix C x) with
          | false => rfl
          | true => exact absurd (mhas_iff.1 e) c
        rw [if_pos (by rw [hh]; rfl), if_neg c, if_neg (by rw [decide_eq_true_iff, List.length_map]; omega), mputK_new c, mputV_iota c, List.map_append, List.map_singleton, List.length_map]
        exact G_to (by unfold room; simp; omega) (G_to (by omega) (G_to (by omega) (G_to (by unfold fits; omega) rfl)))
    have hR1 : r3_Least_L15 d C i d.1 0 D2 D3 r11 t NA Q row =
        if ix NA (ix C x) < 0 then r3_Least_L15 d C i d.1 0 D2 D3 r11 (t + 1) (NA.set (ix C x).toNat (Q.length : Int)) (Q ++ [x]) (row.set t.toNat (Q.length : Int))
        else r3_Least_L15 d C i d.1 0 D2 D3 r11 (t + 1) NA Q (row.set t.toNat (ix NA (ix C x))) := by
      conv => lhs; rw [r3_Least_L15_eq]; unfold r3_Least_L15_B
      rw [if_pos (by simp; omega), ← hxd]
      refine G_to (by omega) (G_to (by omega) (G_to (by omega) (G_to (by omega) (G_to (by omega) (G_to (by omega) (G_to (by omega) (G_to (by omega) ?_)))))))
      unfold r3_Least_J20
      by_cases c : ix NA (ix C x) < 0
      · rw [if_pos (decide_eq_true c), if_pos c]
        refine G_to (by omega) (G_to (by omega) (G_to (by omega) (G_to (by omega) (G_to (by unfold room; simp; omega) ?_))))
        rw [← hxd, ix_set_same hw.1 (by omega)]
        exact G_to (by omega) (G_to (by omega) (G_to (by rw [List.length_set]; omega) (G_to (by rw [List.length_set]; omega) (G_to (by omega) (G_to (by omega) (G_to (by unfold fits; omega) rfl))))))
      · rw [if_neg (by simpa using c), if_neg c, ← hxd]
        exact G_to (by omega) (G_to (by omega) (G_to (by omega) (G_to (by omega) (G_to (by omega) (G_to (by omega) (G_to (by unfold fits; omega) rfl))))))
    rw [hP1, hR1]
    have rowstep : ∀ (Q' : List Int) (v : Int), (∀ j : Int, 0 ≤ j → j < Q.length → ix Q' j = ix Q j) → Q.length ≤ Q'.length → 0 ≤ v → v < Q'.length → ix C (ix Q' v) = ix C x →
        ∀ a : Int, 0 ≤ a → a < t + 1 → 0 ≤ ix (row.set t.toNat v) a ∧ ix (row.set t.toNat v) a < Q'.length ∧ ix C (ix Q' (ix (row.set t.toNat v) a)) = ix C (ix (ix d.2.2.1 (ix Q' i)) a) := fun Q' v hQ' hle v0 v1 hv' a a0 a1 => by
      by_cases e : a = t
      · subst e
        rw [ix_set_same a0 (by omega), hQ' i (by omega) hiQ, ← hxd]; exact ⟨v0, v1, hv'⟩
      · obtain ⟨h1, h2, h3⟩ := hrow a a0 (by omega)
        rw [ix_set_ne t0 a0 (Ne.symm e), hQ' _ h1 h2, hQ' i (by omega) hiQ]
        exact ⟨h1, by omega, h3⟩
    by_cases c : ix C x ∈ Q.map (ix C)
    · obtain ⟨j, hj⟩ := mfind_mem c
      have hjl := mfind_lt hj
      rw [List.length_map] at hjl
      have hjx : ix C (ix Q j) = ix C x := by
        have := mfind_get hj
        rw [List.getElem?_map, List.getElem?_eq_getElem hjl, Option.map_some] at this
        have e2 : ix Q (j : Int) = Q[j] := by rw [ix_eq (l := Q) (by omega) (by omega)]; simp
        rw [e2]
        exact Option.some.inj this
      rw [hj] at hNx
      have hNx : ix NA (ix C x) = (j : Int) := hNx
      rw [if_pos c, if_neg (by omega), mget_iota hj, hNx]
      exact ih (t + 1) Q NA _ (by omega) (by omega) (by omega) hP hiQ eQ hN (by rw [List.length_set]; exact hrl) (rowstep Q j (fun _ _ _ => rfl) (Nat.le_refl _) (by omega) (by omega) hjx)
    · rw [mfind_none.2 c] at hNx
      have hNx : ix NA (ix C x) = -1 := hNx
      rw [if_neg c, if_pos (by omega)]
      have hQ' : ∀ j : Int, 0 ≤ j → j < Q.length → ix (Q ++ [x]) j = ix Q j := fun j j0 j1 => ix_append_left j0 j1
      have hP' : PartOk d C (Q ++ [x]) D2 D3 := by
        refine ⟨⟨fun q hq => (List.mem_append.1 hq).elim (hP.q.b q) (fun e => by rw [List.mem_singleton.1 e]; exact hx), ?_, ?_⟩, by rw [List.length_append]; have := hP.l2; omega, hP.l3, fun j j0 j1 => ?_, fun j j0 j1 => ?_⟩
        · rw [List.map_append, List.nodup_append]
          exact ⟨hP.q.nd, by simp, fun u hu w hw => by rw [List.map_singleton, List.mem_singleton] at hw; rw [hw]; rintro rfl; exact c hu⟩
        · have := hP.q.z
          exact ⟨by simp, by rw [hQ' 0 (by omega) (by omega)]; exact this.2⟩
        · exact (hP.row j j0 j1).ext j0 (by have := hP.l2; omega) _
        · rw [hQ' j j0 (by have := hP.l2; omega)]; exact hP.mark j j0 j1
      have hN' : NumOk d C (Q ++ [x]) (NA.set (ix C x).toNat (Q.length : Int)) := by
        refine ⟨by rw [List.length_set]; exact hN.1, fun v v0 v1 => ?_⟩
        rw [List.map_append, List.map_singleton]
        by_cases e : v = ix C x
        · subst e
          rw [ix_set_same v0 (by omega), mfind_new c]
          simp
        · rw [ix_set_ne hw.1 v0 (Ne.symm e), hN.2 v v0 v1]
          cases hm : mfind (Q.map (ix C)) v with
          | some j => rw [mfind_app _ hm]
          | none =>
            rw [mfind_none.2 (fun hh => by
              rcases List.mem_append.1 hh with hh | hh
              · exact mfind_none.1 hm hh
              · exact e (List.mem_singleton.1 hh))]
      obtain ⟨y, NA', row', z1, z2, z3, z4⟩ := ih (t + 1) (Q ++ [x]) _ (row.set t.toNat (Q.length : Int)) (by omega) (by omega) (by omega) hP' (by rw [List.length_append]; omega) (by rw [hQ' i (by omega) hiQ]; exact eQ) hN' (by rw [List.length_set]; exact hrl)
        (rowstep (Q ++ [x]) (Q.length : Int) hQ' (by rw [List.length_append]; omega) (by omega) (by rw [List.length_append, List.length_singleton]; omega) (by rw [ix_append_last]))
      rw [hQ' i (by omega) hiQ] at z1 z3 z4
      rw [List.append_assoc] at z1 z2 z3 z4
      exact ⟨_, NA', row', z1, z2, z3, z4⟩
theorem least_main (h : DOk 3000 badD d) {C l : List Int} {K : Nat} (hC : FinC d C K) (hl : OfOk d C l K) : ∀ (f : Nat) (Q NA : List Int) (D2 : List (List Int)) (D3 : List Int), 3000 - D2.length = f → PartOk d C Q D2 D3 → NumOk d C Q NA →
    ∃ o Q', LeastOk d o C Q' K ∧ det_Explore_L4 d.1 C d l d l ((C.length : Int) + 1) d.1 0 (Q.map (ix C)) (iota (Q.map (ix C)).length) (Q.map (ix C)) D2 D3 = some (o, true) ∧ r3_Least_L11 d C (D2.length : Int) NA Q d.1 0 D2 D3 = some o := by
  have hn := h.n1
  have hlt := h.let1
  intro f
  induction f using Nat.strongRecOn with
  | ind f ih =>
  intro Q NA D2 D3 hf hP hN
  have hQK := hP.q.le hC
  have hK := hC.le
  rw [det_Explore_L4_eq, r3_Least_L11_eq]; unfold det_Explore_L4_B r3_Least_L11_B
  by_cases e : D2.length < Q.length
  · have e1 : ix (Q.map (ix C)) (D2.length : Int) = ix C (ix Q (D2.length : Int)) := ix_map _ (by omega) (by omega)
    obtain ⟨x, NA', row', z1, z2, z3, z4⟩ := least_letters (r4 := det_Explore_L4 d.1 C d l d l ((C.length : Int) + 1)) (r11 := r3_Least_L11 d C) h hC hl (L0 := Q.map (ix C)) (Q0 := Q) (D2 := D2) (D3 := D3) rfl e1 _ 0 Q NA (List.replicate d.1.toNat 0) rfl (by omega) (by omega) hP (by omega) rfl hN (by rw [List.length_replicate]; omega) (fun a a0 a1 => by omega)
    obtain ⟨o, Q', w1, w2, w3⟩ := ih (3000 - (D2 ++ [row']).length) (by rw [List.length_append, List.length_singleton]; have := z1.q.le hC; have := z1.l2; rw [List.length_append, List.length_singleton] at this; omega) (Q ++ x) NA' (D2 ++ [row']) _ rfl z1 z2
    refine ⟨o, Q', w1, ?_, ?_⟩
    · rw [if_pos (by simp; omega)]
      exact G_to (by rw [List.length_map]; omega) (G_to (by rw [List.length_map]; omega) (G_to (by unfold mkOK; omega) (z3.trans w2)))
    · rw [if_pos (by simp; omega)]
      refine G_to (by unfold mkOK; omega) (z4.trans ?_)
      rw [List.length_append, List.length_singleton] at w3
      exact w3
  · refine ⟨(d.1, 0, D2, D3, ()), Q, ⟨hC, hP, by have := hP.l2; show D2.length = Q.length; omega, rfl, rfl⟩, ?_, ?_⟩
    · rw [if_neg (by rw [decide_eq_true_iff, List.length_map]; omega)]
    · rw [if_neg (by simp; omega)]
theorem Smallest_of (h : DOk 3000 badD d) {C : List Int} {K : Nat} (hC : FinC d C K) : ∃ l, OfOk d C l K ∧ det_Smallest_L4 d C 0 (List.replicate C.length 0) = det_Smallest_L4 d C (C.length : Int) l := by
  have hn := h.n1
  have hcl := hC.len
  have hK := hC.le
  have key : ∀ (f : Nat) (t : Int) (l : List Int), (C.length - t).toNat = f → 0 ≤ t → t ≤ C.length → l.length = C.length → (∀ v : Int, 0 ≤ v → v < K → (∃ q : Int, 0 ≤ q ∧ q < t ∧ ix C q = v) → 0 ≤ ix l v ∧ ix l v < d.2.2.1.length ∧ ix C (ix l v) = v) →
      ∃ l', OfOk d C l' K ∧ det_Smallest_L4 d C t l = det_Smallest_L4 d C (C.length : Int) l' := by
    intro f
    induction f with
    | zero =>
      intro t l hf t0 t1 hll hv
      obtain rfl : t = C.length := by omega
      exact ⟨l, ⟨by omega, fun v v0 v1 => by
        obtain ⟨q, q0, q1, e⟩ := hC.sur v v0 v1
        exact hv v v0 v1 ⟨q, q0, by omega, e⟩⟩, rfl⟩
    | succ f ih =>
      intro t l hf t0 t1 hll hv
      have hb := hC.b t t0 (by omega)
      obtain ⟨l', h1, h2⟩ := ih (t + 1) (l.set (ix C t).toNat t) (by omega) (by omega) (by omega) (by rw [List.length_set]; exact hll) (fun v v0 v1 ⟨q, q0, q1, e⟩ => by
        by_cases e2 : v = ix C t
        · subst e2
          rw [ix_set_same v0 (by omega)]; exact ⟨t0, by omega, rfl⟩
        · rw [ix_set_ne hb.1 v0 (Ne.symm e2)]
          refine hv v v0 v1 ⟨q, q0, ?_, e⟩
          by_cases e3 : q = t
          · subst e3; exact absurd e.symm e2
          · omega)
      refine ⟨l', h1, ?_⟩
      rw [← h2]
      conv => lhs; rw [det_Smallest_L4_eq]; unfold det_Smallest_L4_B
      rw [if_pos (by simp; omega)]
      exact G_to (by omega) (G_to (by omega) (G_to (by omega) (G_to (by omega) (G_to (by unfold fits; omega) rfl))))
  exact key _ 0 _ rfl (by omega) (by omega) (by rw [List.length_replicate]) (fun v v0 v1 ⟨q, q0, q1, _⟩ => by omega)
theorem Least_num (h : DOk 3000 badD d) {C : List Int} {K : Nat} (hC : FinC d C K) : r3_Least_L4 d C 0 (List.replicate C.length 0) = r3_Least_L4 d C (C.length : Int) (List.replicate C.length (-1)) := by
  have hn := h.n1
  have hcl := hC.len
  have key : ∀ (f : Nat) (t : Int) (l : List Int), (C.length - t).toNat = f → 0 ≤ t → t ≤ C.length → l.length = C.length → (∀ v : Int, 0 ≤ v → v < t → ix l v = -1) → r3_Least_L4 d C t l = r3_Least_L4 d C (C.length : Int) (List.replicate C.length (-1)) := by
    intro f
    induction f with
    | zero =>
      intro t l hf t0 t1 hll hv
      obtain rfl : t = C.length := by omega
      rw [show l = List.replicate C.length (-1) from ix_ext (by rw [List.length_replicate]; exact hll) fun j j0 j1 => by rw [ix_replicate j0 (by omega), hv j j0 (by omega)]]
    | succ f ih =>
      intro t l hf t0 t1 hll hv
      rw [← ih (t + 1) (l.set t.toNat (-1)) (by omega) (by omega) (by omega) (by rw [List.length_set]; exact hll) (fun v v0 v1 => by
        by_cases e2 : v = t
        · subst e2; rw [ix_set_same v0 (by omega)]
        · rw [ix_set_ne t0 v0 (Ne.symm e2)]; exact hv v v0 (by omega))]
      conv => lhs; rw [r3_Least_L4_eq]; unfold r3_Least_L4_B
      rw [if_pos (by simp; omega)]
      exact G_to (by omega) (G_to (by omega) (G_to (by unfold fits; omega) rfl))
  exact key _ 0 _ rfl (by omega) (by omega) (by rw [List.length_replicate]) (fun v v0 v1 => by omega)
/-- The program's least automaton and the document's are one. -/
theorem least_both (h : DOk 3000 badD d) : ∃ o C Q K, LeastOk d o C Q K ∧ det_Smallest d = some o ∧ r3_Least d = some o := by
  have hn := h.n1
  obtain ⟨C, K, hC, c1, c2⟩ := classes_both h
  obtain ⟨l, hl, l1⟩ := Smallest_of h hC
  have hs := h.st
  have hcl := hC.len
  have hb := hC.b _ hs.1 hs.2
  have hK := hC.le
  have hP : PartOk d C [d.2.1] [] [] := ⟨⟨fun q hq => by rw [List.mem_singleton.1 hq]; exact hs, by simp, by simp, rfl⟩, by simp, rfl, fun i i0 i1 => by simp at i1; omega, fun i i0 i1 => by simp at i1; omega⟩
  have hN : NumOk d C [d.2.1] ((List.replicate C.length (-1 : Int)).set (ix C d.2.1).toNat 0) := by
    refine ⟨by rw [List.length_set, List.length_replicate]; exact hcl, fun v v0 v1 => ?_⟩
    rw [List.map_singleton]
    by_cases e : v = ix C d.2.1
    · subst e
      rw [ix_set_same v0 (by rw [List.length_replicate]; omega), mfind_hd]; rfl
    · rw [ix_set_ne hb.1 v0 (Ne.symm e), ix_replicate v0 (by omega), mfind_none.2 (by simpa using e)]
  obtain ⟨o, Q, w1, w2, w3⟩ := least_main h hC hl _ [d.2.1] _ [] [] rfl hP hN
  have ed : (d.1, d.2.1, d.2.2.1, d.2.2.2.1, ()) = d := rfl
  refine ⟨o, C, Q, K, w1, ?_, ?_⟩
  · unfold det_Smallest
    rw [ed]
    refine bind_to c1 ?_
    refine G_to (by unfold mkOK; omega) ?_
    rw [Int.toNat_natCast, l1, det_Smallest_L4_eq]; unfold det_Smallest_L4_B
    rw [if_neg (by simp)]
    refine G_to (by omega) (G_to (by omega) (G_to (by unfold fits; omega) ?_))
    have hE : det_Explore d.1 (ix C d.2.1) C d l d l ((C.length : Int) + 1) = some (o, true) := w2
    refine both_to ?_ ?_
    · rw [ed]
      exact bind_to hE rfl
    · rw [ed]
      exact bind_to hE rfl
  · unfold r3_Least
    rw [ed]
    refine bind_to c2 ?_
    refine G_to (by unfold mkOK; omega) ?_
    rw [Int.toNat_natCast, Least_num h hC, r3_Least_L4_eq]; unfold r3_Least_L4_B
    rw [if_neg (by simp)]
    exact G_to (by omega) (G_to (by omega) (G_to (by rw [List.length_replicate]; omega) (G_to (by rw [List.length_replicate]; omega) w3)))
end

theorem det_Key_spec {l : List Int} (hl : l.length ≤ 1000000) : det_Key l = some (keyB l) := by
  have key : ∀ (n : Nat) (t : Int), (l.length - t).toNat = n → 0 ≤ t → t ≤ l.length → det_Key_L3 l t (keyL (l.take t.toNat)) = some (keyB l) := by
    intro n
    induction n with
    | zero =>
      intro t hn h0 h1
      rw [det_Key_L3_eq]; unfold det_Key_L3_B
      rw [if_neg (by simp; omega), List.take_of_length_le (by omega)]; rfl
    | succ n ih =>
      intro t hn h0 h1
      rw [det_Key_L3_eq]; unfold det_Key_L3_B
      have hk := keyL_len (l.take t.toNat)
      rw [List.length_take] at hk
      rw [if_pos (by simp; omega)]
      refine G_to (by omega) (G_to (by omega) (G_to (by unfold room; simp; omega) (G_to (by unfold fits; omega) ?_)))
      rw [← ih (t + 1) (by omega) (by omega) (by omega), ix_take h0 (by omega)]
      unfold keyL
      rw [List.flatMap_append]
      rfl
  unfold det_Key
  exact key _ 0 rfl (by omega) (by omega)
theorem mget_nz {α : Type} {ks : List α} {vs : List Int} {x : α} (hl : vs.length = ks.length) (hv : ∀ v ∈ vs, v ≠ 0) : mget ks vs x 0 = 0 ↔ x ∉ ks := by
  unfold mget
  cases e : mfind ks x with
  | none => simp [mfind_none.1 e]
  | some j =>
    have hj := mfind_lt e
    have hx := List.mem_of_getElem? (mfind_get e)
    have h1 : vs.getD j 0 = vs[j] := by simp [List.getD_eq_getElem?_getD, show j < vs.length by omega]
    have := hv _ (List.getElem_mem (show j < vs.length by omega))
    show vs.getD j 0 = 0 ↔ _
    rw [h1]
    exact ⟨fun e2 => absurd e2 this, fun e2 => absurd hx e2⟩
/-- All rows of so many numbers below b. -/
def allV (b : Nat) : Nat → List (List Int)
  | 0 => [[]]
  | n + 1 => (allV b n).flatMap fun l => (List.range b).map fun x : Nat => (x : Int) :: l
theorem allV_len (b : Nat) : ∀ n, (allV b n).length = b ^ n
  | 0 => rfl
  | n + 1 => by
    unfold allV
    have key : ∀ u : List (List Int), (u.flatMap fun l => (List.range b).map fun x : Nat => (x : Int) :: l).length = u.length * b := by
      intro u
      induction u with
      | nil => simp
      | cons x u ih => rw [List.flatMap_cons, List.length_append, ih, List.length_map, List.length_range, List.length_cons, Nat.succ_mul, Nat.add_comm]
    rw [key, allV_len b n, Nat.pow_succ]
theorem allV_mem {b : Nat} : ∀ {l : List Int}, (∀ x ∈ l, 0 ≤ x ∧ x < b) → l ∈ allV b l.length
  | [], _ => by simp [allV]
  | x :: l, h => by
    have hx := h x (by simp)
    rw [List.length_cons, allV, List.mem_flatMap]
    exact ⟨l, allV_mem (fun y hy => h y (by simp [hy])), List.mem_map.2 ⟨x.toNat, List.mem_range.2 (by omega), by rw [Int.toNat_of_nonneg hx.1]⟩⟩

section
variable {o : Dt}
abbrev El := List Int × List Int × Unit
structure MOk (o : Dt) : Prop where
  tab : Tab o.1 o.2.2.1
  let1 : 1 ≤ o.1 ∧ o.1 ≤ 4
  n1 : 1 ≤ o.2.2.1.length ∧ o.2.2.1.length ≤ 5
def does (o : Dt) (w : List Int) : List Int := mkR o.2.2.1.length fun q => wlk o.2.2.1 q w
abbrev LetOk (o : Dt) (w : List Int) : Prop := ∀ a ∈ w, 0 ≤ a ∧ a < o.1
theorem does_len (w : List Int) : (does o w).length = o.2.2.1.length := mkR_len _ _
theorem does_ix {w : List Int} {q : Int} (q0 : 0 ≤ q) (q1 : q < o.2.2.1.length) : ix (does o w) q = wlk o.2.2.1 q w := mkR_ix q0 q1
theorem does_b (h : MOk o) {w : List Int} (hw : LetOk o w) : ∀ x ∈ does o w, 0 ≤ x ∧ x < o.2.2.1.length := by
  intro x hx
  obtain ⟨j, j0, j1, rfl⟩ := (ex_ix (P := fun y => y = x)).1 ⟨x, hx, rfl⟩
  rw [does_len] at j1
  rw [does_ix j0 j1]
  exact h.tab.wlkb j0 j1 hw
theorem does_snoc (w : List Int) (a : Int) : does o (w ++ [a]) = (does o w).map fun p => stp o.2.2.1 p a := by
  unfold does mkR
  rw [List.map_map]
  refine List.map_congr_left fun q _ => ?_
  show wlk _ _ (w ++ [a]) = stp _ (wlk _ _ w) a
  unfold wlk
  rw [List.foldl_append]; rfl
structure ElOk (o : Dt) (e : El) (j : Int) : Prop where
  does : e.1 = does o e.2.1
  lets : LetOk o e.2.1
  short : (e.2.1.length : Int) ≤ j
structure LOk (o : Dt) (L : List El) : Prop where
  el : ∀ j : Int, 0 ≤ j → j < L.length → ElOk o (ix L j) j
  nd : (L.map Prod.fst).Nodup
theorem LOk.mem {L : List El} (h : LOk o L) {e : El} (he : e ∈ L) : ∃ j : Int, 0 ≤ j ∧ j < L.length ∧ ix L j = e := by
  obtain ⟨j, j0, j1, e2⟩ := (ex_ix (P := fun x => x = e)).1 ⟨e, he, rfl⟩
  exact ⟨j, j0, j1, e2⟩
theorem LOk.row {L : List El} (hm : MOk o) (h : LOk o L) {e : El} (he : e ∈ L) : e.1.length = o.2.2.1.length ∧ ∀ x ∈ e.1, 0 ≤ x ∧ x < o.2.2.1.length := by
  obtain ⟨j, j0, j1, rfl⟩ := h.mem he
  have hel := h.el j j0 j1
  rw [hel.does]
  exact ⟨does_len _, does_b hm hel.lets⟩
theorem LOk.len {L : List El} (hm : MOk o) (h : LOk o L) : L.length ≤ 3125 := by
  have hn := hm.n1
  have := pigeon (U := allV 5 o.2.2.1.length) h.nd (fun x hx => by
    obtain ⟨e, he, rfl⟩ := List.mem_map.1 hx
    obtain ⟨h1, h2⟩ := h.row hm he
    have := allV_mem (b := 5) (l := e.1) (fun y hy => by have := h2 y hy; omega)
    rwa [h1] at this)
  rw [List.length_map, allV_len] at this
  have h4 : 5 ^ o.2.2.1.length ≤ 5 ^ 5 := Nat.pow_le_pow_right (by omega) hn.2
  omega
theorem LOk.push {L : List El} (hm : MOk o) (h : LOk o L) {i a : Int} (i0 : 0 ≤ i) (i1 : i < L.length) (a0 : 0 ≤ a) (a1 : a < o.1) (hn : does o ((ix L i).2.1 ++ [a]) ∉ L.map Prod.fst) : LOk o (L ++ [(does o ((ix L i).2.1 ++ [a]), (ix L i).2.1 ++ [a], ())]) := by
  refine ⟨fun j j0 j1 => ?_, ?_⟩
  · rw [List.length_append, List.length_singleton] at j1
    by_cases e : j < L.length
    · rw [ix_append_left j0 e]; exact h.el j j0 e
    · obtain rfl : j = L.length := by omega
      rw [ix_append_last]
      have := h.el i i0 i1
      refine ⟨rfl, fun b hb => (List.mem_append.1 hb).elim (this.lets b) (fun e => by rw [List.mem_singleton.1 e]; exact ⟨a0, a1⟩), ?_⟩
      rw [List.length_append, List.length_singleton]
      have := this.short
      omega
  · rw [List.map_append, List.nodup_append]
    exact ⟨h.nd, by simp, fun u hu v hv => by rw [List.map_singleton, List.mem_singleton] at hv; rw [hv]; rintro rfl; exact hn hu⟩
theorem r3_After_el (h : MOk o) {w : List Int} (hw : LetOk o w) (hl : w.length ≤ 1000000) {q : Int} (q0 : 0 ≤ q) (q1 : q < o.2.2.1.length) : r3_After o q w = some (wlk o.2.2.1 q w) :=
  r3_After_spec (d := o) h.tab hw hl q0 q1
theorem r4_Does_spec (h : MOk o) {w : List Int} (hw : LetOk o w) (hl : w.length ≤ 1000000) : r4_Does o w = some (does o w) := by
  have hn := h.n1
  have key : ∀ (n : Nat) (q : Int) (out : List Int), (o.2.2.1.length - q).toNat = n → 0 ≤ q → q ≤ o.2.2.1.length → out.length = q → (∀ j : Int, 0 ≤ j → j < q → ix out j = ix (does o w) j) → r4_Does_L3 o w q out = some (does o w) := by
    intro n
    induction n with
    | zero =>
      intro q out hn2 q0 q1 ho hj
      rw [r4_Does_L3_eq]; unfold r4_Does_L3_B
      rw [if_neg (by simp; omega)]
      exact congrArg some (ix_ext (by rw [does_len]; omega) fun j j0 j1 => hj j j0 (by omega))
    | succ n ih =>
      intro q out hn2 q0 q1 ho hj
      rw [r4_Does_L3_eq]; unfold r4_Does_L3_B
      rw [if_pos (by simp; omega)]
      refine bind_to (r3_After_el h hw hl q0 (by omega)) ?_
      refine G_to (by unfold room; simp; omega) (G_to (by unfold fits; omega) ?_)
      refine ih (q + 1) _ (by omega) (by omega) (by omega) (by simp; omega) (fun j j0 j1 => ?_)
      by_cases e : j < q
      · rw [ix_append_left j0 (by omega)]; exact hj j j0 e
      · obtain rfl : j = out.length := by omega
        rw [ix_append_last, does_ix (by omega) (by omega), ho]
  unfold r4_Does
  exact key _ 0 [] rfl (by omega) (by omega) rfl (fun j j0 j1 => by omega)
def keyE (e : El) : List UInt8 := keyB e.1
theorem keyE_iff {L : List El} (hm : MOk o) (h : LOk o L) {w : List Int} (hw : LetOk o w) : keyB (does o w) ∈ L.map keyE ↔ does o w ∈ L.map Prod.fst := by
  have hn := hm.n1
  rw [List.mem_map, List.mem_map]
  constructor
  · rintro ⟨e, he, e2⟩
    refine ⟨e, he, keyB_inj (fun x hx => ?_) (fun x hx => ?_) e2⟩
    · have := (h.row hm he).2 x hx; omega
    · have := does_b hm hw x hx; omega
  · rintro ⟨e, he, e2⟩; exact ⟨e, he, by unfold keyE; rw [e2]⟩
theorem el_L17 (hm : MOk o) {L : List El} (h : LOk o L) {i t : Int} (i0 : 0 ≤ i) (i1 : i < L.length) (t0 : 0 ≤ t) (t1 : t < o.1) {vs : List Int} (hl : vs.length = L.length) (hv : ∀ v ∈ vs, v ≠ 0) {r13} :
    monoid_elements_L17 o i t (L.map keyE) vs L r13 0 ((ix L i).2.1 ++ [t]) [] = if does o ((ix L i).2.1 ++ [t]) ∈ L.map Prod.fst then r13 (t + 1) (L.map keyE) vs L
      else r13 (t + 1) ((L ++ [(does o ((ix L i).2.1 ++ [t]), (ix L i).2.1 ++ [t], ())]).map keyE) (vs ++ [(L.length : Int) + 1]) (L ++ [(does o ((ix L i).2.1 ++ [t]), (ix L i).2.1 ++ [t], ())]) := by
  have hn := hm.n1
  have hl1 := hm.let1
  have hL := h.len hm
  have hel := h.el i i0 i1
  have hsh := hel.short
  have hdl : (ix L i).1.length = o.2.2.1.length := by rw [hel.does]; exact does_len _
  have hw' : LetOk o ((ix L i).2.1 ++ [t]) := fun b hb => (List.mem_append.1 hb).elim (hel.lets b) (fun e => by rw [List.mem_singleton.1 e]; exact ⟨t0, t1⟩)
  have hres : (ix L i).1.map (fun p => stp o.2.2.1 p t) = does o ((ix L i).2.1 ++ [t]) := by rw [does_snoc, ← hel.does]
  have key : ∀ (n : Nat) (k : Int), ((ix L i).1.length - k).toNat = n → 0 ≤ k → k ≤ (ix L i).1.length → monoid_elements_L17 o i t (L.map keyE) vs L r13 k ((ix L i).2.1 ++ [t]) (((ix L i).1.take k.toNat).map fun p => stp o.2.2.1 p t) =
      monoid_elements_L17 o i t (L.map keyE) vs L r13 (ix L i).1.length ((ix L i).2.1 ++ [t]) (does o ((ix L i).2.1 ++ [t])) := by
    intro n
    induction n with
    | zero =>
      intro k hk k0 k1
      obtain rfl : k = (ix L i).1.length := by omega
      rw [List.take_of_length_le (by omega), hres]
    | succ n ih =>
      intro k hk k0 k1
      have hp := (h.row hm (ix_mem i0 i1)).2 _ (ix_mem k0 (by omega : k < (ix L i).1.length))
      have hrl := hm.tab.rowlen hp.1 hp.2
      rw [← ih (k + 1) (by omega) (by omega) (by omega)]
      conv => lhs; rw [monoid_elements_L17_eq]; unfold monoid_elements_L17_B
      rw [if_pos (by simp; omega), ix_take k0 (by omega), List.map_append]
      exact G_to (by omega) (G_to (by omega) (G_to (by omega) (G_to (by unfold room; simp; omega) (G_to (by unfold fits; omega) rfl))))
  refine (key _ 0 rfl (by omega) (by omega)).trans ?_
  rw [monoid_elements_L17_eq]; unfold monoid_elements_L17_B
  rw [if_neg (by simp)]
  refine bind_to (det_Key_spec (by rw [does_len]; omega)) ?_
  have kn := keyE_iff hm h hw'
  unfold monoid_elements_J24
  have hl' : vs.length = (L.map keyE).length := by rw [List.length_map]; exact hl
  by_cases c : does o ((ix L i).2.1 ++ [t]) ∈ L.map Prod.fst
  · rw [if_neg (fun hh => (mget_nz hl' hv).1 (of_decide_eq_true hh) (kn.2 c)), if_pos c]
    exact G_to (by unfold fits; omega) rfl
  · have hk : keyB (does o ((ix L i).2.1 ++ [t])) ∉ L.map keyE := fun hh => c (kn.1 hh)
    rw [if_pos (decide_eq_true ((mget_nz hl' hv).2 hk)), if_neg c, mputK_new hk]
    refine G_to (by unfold room; simp; omega) (G_to (by unfold fits; omega) ?_)
    have : mputV (L.map keyE) vs (keyB (does o ((ix L i).2.1 ++ [t]))) (((L ++ [(does o ((ix L i).2.1 ++ [t]), (ix L i).2.1 ++ [t], ())]).length : Int)) = vs ++ [(L.length : Int) + 1] := by
      unfold mputV; rw [mfind_none.2 hk, List.length_append, List.length_singleton]; rfl
    rw [this, List.map_append]; rfl
theorem el_L14 (hm : MOk o) {L : List El} (h : LOk o L) {i a : Int} (i0 : 0 ≤ i) (i1 : i < L.length) (a0 : 0 ≤ a ∧ a ≤ 10) {y : List Int} {r7} : ∀ (n : Nat) (k : Int), (L.length - k).toNat = n → 0 ≤ k → k ≤ L.length → (∀ j : Int, 0 ≤ j → j < k → (ix L j).1 ≠ y) →
    r4_Elements_L14 i a L r7 y false k = if y ∈ L.map Prod.fst then r7 (a + 1) L else r7 (a + 1) (L ++ [(y, (ix L i).2.1 ++ [a], ())]) := by
  have hL := h.len hm
  have hn := hm.n1
  intro n
  induction n with
  | zero =>
    intro k hk k0 k1 hj
    have hy : y ∉ L.map Prod.fst := fun hy => by
      obtain ⟨e, he, rfl⟩ := List.mem_map.1 hy
      obtain ⟨j, j0, j1, rfl⟩ := h.mem he
      exact hj j j0 (by omega) rfl
    rw [r4_Elements_L14_eq]; unfold r4_Elements_L14_B r4_Elements_J14
    rw [if_neg (by simp; omega), if_neg (by simp), if_pos (by simp), if_neg hy]
    exact G_to (by unfold room; simp; omega) (G_to (by unfold fits; omega) rfl)
  | succ n ih =>
    intro k hk k0 k1 hj
    have hkl := (h.row hm (ix_mem k0 (by omega : k < L.length))).1
    rw [r4_Elements_L14_eq]; unfold r4_Elements_L14_B r4_Elements_J14 r4_Elements_J14_1
    rw [if_pos (by simp; omega), if_pos (by simp)]
    refine G_to (by omega) (G_to (by omega) ?_)
    refine bind_to (r1_Words_spec (by omega)) ?_
    refine G_to (by unfold fits; omega) ?_
    by_cases e : (ix L k).1 = y
    · rw [decide_eq_true e, if_pos (List.mem_map.2 ⟨_, ix_mem k0 (by omega), e⟩), r4_Elements_L14_eq]; unfold r4_Elements_L14_B
      have : ∀ b : Bool, (if b = true then r4_Elements_J14 i a L r7 y true (k + 1) (r4_Elements_L14 i a L r7 y) (!true) else r4_Elements_J14 i a L r7 y true (k + 1) (r4_Elements_L14 i a L r7 y) false) = r7 (a + 1) L := fun b => by
        unfold r4_Elements_J14
        simp only [Bool.not_true, Bool.false_eq_true, if_false, ite_self]
        exact G_to (by unfold fits; omega) rfl
      exact this _
    · rw [decide_eq_false e]
      refine ih (k + 1) (by omega) (by omega) (by omega) (fun j j0 j1 => ?_)
      by_cases e2 : j = k
      · rw [e2]; exact e
      · exact hj j j0 (by omega)
theorem el_letters (hm : MOk o) {i : Int} (i0 : 0 ≤ i) {r10 r4} : ∀ (n : Nat) (t : Int) (L : List El) (vs : List Int), (o.1 - t).toNat = n → 0 ≤ t → t ≤ o.1 → LOk o L → i < L.length → vs.length = L.length → (∀ v ∈ vs, v ≠ 0) →
    ∃ x vs', LOk o (L ++ x) ∧ vs'.length = (L ++ x).length ∧ (∀ v ∈ vs', v ≠ 0) ∧ monoid_elements_L13 o i r10 t (L.map keyE) vs L = r10 (i + 1) ((L ++ x).map keyE) vs' (L ++ x) ∧ r4_Elements_L7 o i r4 t L = r4 (i + 1) (L ++ x) := by
  have hl1 := hm.let1
  intro n
  induction n with
  | zero =>
    intro t L vs hn t0 t1 h i1 hl hv
    have hL := h.len hm
    refine ⟨[], vs, by simpa using h, by simpa using hl, hv, ?_, ?_⟩
    · rw [monoid_elements_L13_eq]; unfold monoid_elements_L13_B
      rw [if_neg (by simp; omega), List.append_nil]
      exact G_to (by unfold fits; omega) rfl
    · rw [r4_Elements_L7_eq]; unfold r4_Elements_L7_B
      rw [if_neg (by simp; omega), List.append_nil]
      exact G_to (by unfold fits; omega) rfl
  | succ n ih =>
    intro t L vs hn t0 t1 h i1 hl hv
    have hL := h.len hm
    have hel := h.el i i0 i1
    have hsh := hel.short
    have ed : (o.1, o.2.1, o.2.2.1, o.2.2.2.1, ()) = o := rfl
    have hw' : LetOk o ((ix L i).2.1 ++ [t]) := fun b hb => (List.mem_append.1 hb).elim (hel.lets b) (fun e => by rw [List.mem_singleton.1 e]; exact ⟨t0, by omega⟩)
    have eP : monoid_elements_L13 o i r10 t (L.map keyE) vs L = monoid_elements_L17 o i t (L.map keyE) vs L (monoid_elements_L13 o i r10) 0 ((ix L i).2.1 ++ [t]) [] := by
      conv => lhs; rw [monoid_elements_L13_eq]; unfold monoid_elements_L13_B
      rw [if_pos (by simp; omega)]
      refine G_to (by omega) (G_to (by omega) ?_)
      refine bind_to (slices_Clone_spec (by omega)) ?_
      exact G_to (by unfold room; simp; omega) (G_to (by omega) (G_to (by omega) rfl))
    have eR : r4_Elements_L7 o i r4 t L = r4_Elements_L14 i t L (r4_Elements_L7 o i r4) (does o ((ix L i).2.1 ++ [t])) false 0 := by
      conv => lhs; rw [r4_Elements_L7_eq]; unfold r4_Elements_L7_B
      rw [if_pos (by simp; omega), ed, List.nil_append]
      refine G_to (by omega) (G_to (by omega) (G_to (by unfold room; simp; omega) (G_to (by unfold room; simp; omega) ?_)))
      exact bind_to (r4_Does_spec hm hw' (by simp; omega)) rfl
    rw [eP, eR, el_L17 hm h i0 i1 t0 (by omega) hl hv, el_L14 hm h i0 i1 (by omega) _ 0 rfl (by omega) (by omega) (fun j j0 j1 => by omega)]
    by_cases c : does o ((ix L i).2.1 ++ [t]) ∈ L.map Prod.fst
    · rw [if_pos c, if_pos c]
      exact ih (t + 1) L vs (by omega) (by omega) (by omega) h i1 hl hv
    · rw [if_neg c, if_neg c]
      obtain ⟨x, vs', y1, y2, y3, y4, y5⟩ := ih (t + 1) (L ++ [(does o ((ix L i).2.1 ++ [t]), (ix L i).2.1 ++ [t], ())]) (vs ++ [(L.length : Int) + 1]) (by omega) (by omega) (by omega) (h.push hm i0 i1 t0 (by omega) c) (by rw [List.length_append]; omega) (by simp [hl]) (fun v hv' => (List.mem_append.1 hv').elim (hv v) (fun e => by rw [List.mem_singleton.1 e]; omega))
      rw [List.append_assoc] at y1 y2 y4 y5
      exact ⟨_, vs', y1, y2, y3, y4, y5⟩
theorem el_main (hm : MOk o) : ∀ (N : Nat) (i : Int) (L : List El) (vs : List Int), (3125 - i).toNat = N → 0 ≤ i → i ≤ L.length → LOk o L → vs.length = L.length → (∀ v ∈ vs, v ≠ 0) →
    ∃ R, LOk o R ∧ monoid_elements_L10 o i (L.map keyE) vs L = some R ∧ r4_Elements_L4 o i L = some R := by
  have hl1 := hm.let1
  intro N
  induction N using Nat.strongRecOn with
  | ind N ih =>
  intro i L vs hN i0 i1 h hl hv
  have hL := h.len hm
  rw [monoid_elements_L10_eq, r4_Elements_L4_eq]; unfold monoid_elements_L10_B r4_Elements_L4_B
  by_cases e : i < L.length
  · obtain ⟨x, vs', y1, y2, y3, y4, y5⟩ := el_letters (r10 := monoid_elements_L10 o) (r4 := r4_Elements_L4 o) hm i0 _ 0 L vs rfl (by omega) (by omega) h e hl hv
    obtain ⟨R, z1, z2, z3⟩ := ih (3125 - (i + 1)).toNat (by omega) (i + 1) (L ++ x) vs' rfl (by omega) (by rw [List.length_append]; omega) y1 y2 y3
    refine ⟨R, z1, ?_, ?_⟩
    · rw [if_pos (by simp; omega)]; exact y4.trans z2
    · rw [if_pos (by simp; omega)]; exact y5.trans z3
  · refine ⟨L, h, ?_, ?_⟩
    · rw [if_neg (by simp; omega)]
    · rw [if_neg (by simp; omega)]
theorem elements_both (hm : MOk o) : ∃ R, LOk o R ∧ monoid_elements o = some R ∧ r4_Elements o = some R := by
  have hn := hm.n1
  have hnil : LetOk o [] := fun a ha => by cases ha
  have h1 : LOk o [(does o [], [], ())] := ⟨fun j j0 j1 => by
    obtain rfl : j = 0 := by simp at j1; omega
    exact ⟨rfl, hnil, by show ((0 : Nat) : Int) ≤ 0; omega⟩, by simp⟩
  obtain ⟨R, z1, z2, z3⟩ := el_main hm _ 0 [(does o [], [], ())] [1] rfl (by omega) (by simp) h1 rfl (by simp)
  refine ⟨R, z1, ?_, ?_⟩
  · have key : ∀ (n : Nat) (t : Int) (first : List Int), (o.2.2.1.length - t).toNat = n → 0 ≤ t → t ≤ o.2.2.1.length → first.length = t → (∀ j : Int, 0 ≤ j → j < t → ix first j = j) → monoid_elements_L3 o t first = some R := by
      intro n
      induction n with
      | zero =>
        intro t first hn2 t0 t1 hl hj
        have : first = does o [] := ix_ext (by rw [does_len]; omega) fun j j0 j1 => by rw [hj j j0 (by omega), does_ix j0 (by omega)]; rfl
        rw [monoid_elements_L3_eq]; unfold monoid_elements_L3_B
        rw [if_neg (by simp; omega), this]
        refine bind_to (det_Key_spec (by rw [does_len]; omega)) ?_
        exact z2
      | succ n ih =>
        intro t first hn2 t0 t1 hl hj
        rw [monoid_elements_L3_eq]; unfold monoid_elements_L3_B
        rw [if_pos (by simp; omega)]
        refine G_to (by unfold room; simp; omega) (G_to (by unfold fits; omega) ?_)
        refine ih (t + 1) _ (by omega) (by omega) (by omega) (by simp; omega) (fun j j0 j1 => ?_)
        by_cases e : j < t
        · rw [ix_append_left j0 (by omega)]; exact hj j j0 e
        · obtain rfl : j = first.length := by omega
          rw [ix_append_last, hl]
    unfold monoid_elements
    exact key _ 0 [] rfl (by omega) (by omega) rfl (fun j j0 j1 => by omega)
  · unfold r4_Elements
    refine bind_to (r4_Does_spec hm hnil (by simp)) ?_
    exact z3
end

theorem det_mk (m : Int) : Tells (det_Check_4 m) (badD m) := by
  unfold det_Check_4
  by_cases h : m = 0
  · rw [if_neg (by simpa using h)]; exact Tells.of (by simp [h])
  · rw [if_pos (by simpa using h)]; exact Tells.dec (by simp [h])
theorem det_Check_spec {d : Dt} : det_Check d = some (detE 3000 badD d) := by
  unfold det_Check detE
  by_cases c1 : d.1 < 1 ∨ 4 < d.1
  · rw [if_pos c1]
    (try dsimp only); (repeat' first | (with_reducible refine G_to ?_ ?_; focus (first | omega | (unfold fits; omega) | (unfold room; (try simp only [List.length_append, List.length_cons, List.length_nil]); omega))) | (with_reducible refine both_to ?_ ?_) | (with_reducible refine itet_to ?_) | (with_reducible refine itef_to ?_) | (with_reducible refine ite_to (fun _ => ?_) (fun _ => ?_))) <;> try (exfalso; omega)
    all_goals rfl
  rw [if_neg c1]
  by_cases c2 : DBig 3000 d
  · rw [if_pos c2]; unfold DBig at c2
    (try dsimp only); (repeat' first | (with_reducible refine G_to ?_ ?_; focus (first | omega | (unfold fits; omega) | (unfold room; (try simp only [List.length_append, List.length_cons, List.length_nil]); omega))) | (with_reducible refine both_to ?_ ?_) | (with_reducible refine itet_to ?_) | (with_reducible refine itef_to ?_) | (with_reducible refine ite_to (fun _ => ?_) (fun _ => ?_))) <;> try (exfalso; omega)
    all_goals rfl
  rw [if_neg c2]
  unfold DBig at c2
  by_cases c3 : (d.2.2.2.1.length : Int) = d.2.2.1.length
  case neg =>
    rw [if_pos (show DRag d from .inl c3)]
    (try dsimp only); (repeat' first | (with_reducible refine G_to ?_ ?_; focus (first | omega | (unfold fits; omega) | (unfold room; (try simp only [List.length_append, List.length_cons, List.length_nil]); omega))) | (with_reducible refine both_to ?_ ?_) | (with_reducible refine itet_to ?_) | (with_reducible refine itef_to ?_) | (with_reducible refine ite_to (fun _ => ?_) (fun _ => ?_))) <;> try (exfalso; omega)
    all_goals rfl
  (try dsimp only); (repeat' first | (with_reducible refine G_to ?_ ?_; focus (first | omega | (unfold fits; omega) | (unfold room; (try simp only [List.length_append, List.length_cons, List.length_nil]); omega))) | (with_reducible refine both_to ?_ ?_) | (with_reducible refine itet_to ?_) | (with_reducible refine itef_to ?_) | (with_reducible refine ite_to (fun _ => ?_) (fun _ => ?_))) <;> try (exfalso; omega)
  have k1 : Tells (slices_ContainsFunc d.2.2.1 d) (∃ r ∈ d.2.2.1, ¬ (r.length : Int) = d.1) := contains_tells (f := fun r => det_Check_1 r d) (slices_IndexFunc_L2_eq d.2.2.1 d) (by omega) (fun x _ => Tells.dec Iff.rfl)
  have nn : ∀ q t : Int, Tells (det_Check_2 q t) (q < 0 ∨ t ≤ q) := fun q t => by
    unfold det_Check_2
    by_cases h : q < 0
    · rw [if_pos (decide_eq_true h)]; exact Tells.of (by simp [h])
    · rw [if_neg (by simpa using h)]; exact Tells.dec (by omega)
  have k2 : ∀ r ∈ d.2.2.1, r.length ≤ 1000 → Tells (slices_ContainsFunc_2 r (d.2.2.1.length : Int)) (∃ q ∈ r, q < 0 ∨ (d.2.2.1.length : Int) ≤ q) := fun r _ hr => contains_tells (f := fun q => det_Check_2 q (d.2.2.1.length : Int)) (slices_IndexFunc_2_L2_eq r (d.2.2.1.length : Int)) (by omega) (fun x _ => nn x _)
  have k4 : Tells (slices_ContainsFunc_3 d.2.2.2.1) (∃ s ∈ d.2.2.2.1, (badD) s) := contains_tells (f := fun q => det_Check_4 q) (slices_IndexFunc_3_L2_eq d.2.2.2.1) (by omega) (fun x _ => det_mk x)
  refine k1.to (fun h => by rw [if_pos (show DRag d from .inr h)]) (fun h => ?_)
  rw [if_neg (show ¬ DRag d from fun hh => hh.elim (fun e => e c3) h)]
  have hr : ∀ r ∈ d.2.2.1, r.length ≤ 1000 := fun r hr => by
    by_cases e : (r.length : Int) = d.1
    · omega
    · exact absurd ⟨r, hr, e⟩ h
  refine (nn _ _).to (fun h => by rw [if_pos (show DOut _ d from .inl h)]) (fun h1 => ?_)
  obtain ⟨b, hb, hb2⟩ : ∃ b, slices_ContainsFunc_1 d.2.2.1 (d.2.2.1.length : Int) = some (b, (d.2.2.1.length : Int)) ∧ (b = true ↔ ∃ r ∈ d.2.2.1, ∃ q ∈ r, q < 0 ∨ (d.2.2.1.length : Int) ≤ q) :=
    contains_tells2 (f := det_Check_3) (slices_IndexFunc_1_L2_eq d.2.2.1) (by omega) (fun r hrm => by
      obtain ⟨b, e, e2⟩ := k2 r hrm (hr r hrm)
      exact ⟨b, by unfold det_Check_3; rw [e]; rfl, e2⟩)
  rw [hb]
  refine bind_to rfl ?_
  refine iteb_to (fun h => by rw [if_pos (show DOut _ d from .inr (.inl (hb2.1 h)))]) (fun h2 => ?_)
  refine k4.to (fun h => by rw [if_pos (show DOut _ d from .inr (.inr h))]) (fun h3 => ?_)
  rw [if_neg (show ¬ DOut _ d from fun h => h.elim h1 (fun h => h.elim (fun h => by rw [hb2.2 h] at h2; cases h2) h3))]

theorem r3_Check_spec {d : Dt} : r3_Check d = some (detE 3000 badD d) := by
  unfold r3_Check detE
  by_cases c1 : d.1 < 1 ∨ 4 < d.1
  · rw [if_pos c1]
    (try dsimp only); (repeat' first | (with_reducible refine G_to ?_ ?_; focus (first | omega | (unfold fits; omega) | (unfold room; (try simp only [List.length_append, List.length_cons, List.length_nil]); omega))) | (with_reducible refine both_to ?_ ?_) | (with_reducible refine itet_to ?_) | (with_reducible refine itef_to ?_) | (with_reducible refine ite_to (fun _ => ?_) (fun _ => ?_))) <;> try (exfalso; omega)
    all_goals rfl
  rw [if_neg c1]
  by_cases c2 : DBig 3000 d
  · rw [if_pos c2]; unfold DBig at c2
    (try dsimp only); (repeat' first | (with_reducible refine G_to ?_ ?_; focus (first | omega | (unfold fits; omega) | (unfold room; (try simp only [List.length_append, List.length_cons, List.length_nil]); omega))) | (with_reducible refine both_to ?_ ?_) | (with_reducible refine itet_to ?_) | (with_reducible refine itef_to ?_) | (with_reducible refine ite_to (fun _ => ?_) (fun _ => ?_))) <;> try (exfalso; omega)
    all_goals rfl
  rw [if_neg c2]
  unfold DBig at c2
  by_cases c3 : (d.2.2.2.1.length : Int) = d.2.2.1.length
  case neg =>
    rw [if_pos (show DRag d from .inl c3)]
    (try dsimp only); (repeat' first | (with_reducible refine G_to ?_ ?_; focus (first | omega | (unfold fits; omega) | (unfold room; (try simp only [List.length_append, List.length_cons, List.length_nil]); omega))) | (with_reducible refine both_to ?_ ?_) | (with_reducible refine itet_to ?_) | (with_reducible refine itef_to ?_) | (with_reducible refine ite_to (fun _ => ?_) (fun _ => ?_))) <;> try (exfalso; omega)
    all_goals rfl
  (try dsimp only); (repeat' first | (with_reducible refine G_to ?_ ?_; focus (first | omega | (unfold fits; omega) | (unfold room; (try simp only [List.length_append, List.length_cons, List.length_nil]); omega))) | (with_reducible refine both_to ?_ ?_) | (with_reducible refine itet_to ?_) | (with_reducible refine itef_to ?_) | (with_reducible refine ite_to (fun _ => ?_) (fun _ => ?_))) <;> try (exfalso; omega)
  refine scan_to (len := (d.2.2.1.length : Int)) (bad := fun t => ¬ ((ix d.2.2.1 t).length : Int) = d.1) (by omega) (fun t h0 h1 => ⟨fun hb => ?_, fun hb => ?_⟩) (fun hh => ?_)
  · rw [r3_Check_L9_eq]; unfold r3_Check_L9_B
    (try dsimp only); (repeat' first | (with_reducible refine G_to ?_ ?_; focus (first | omega | (unfold fits; omega) | (unfold room; (try simp only [List.length_append, List.length_cons, List.length_nil]); omega))) | (with_reducible refine both_to ?_ ?_) | (with_reducible refine itet_to ?_) | (with_reducible refine itef_to ?_) | (with_reducible refine ite_to (fun _ => ?_) (fun _ => ?_))) <;> try (exfalso; omega)
    rw [if_pos (show DRag d from .inr (ex_ix.2 ⟨t, by omega, by omega, hb⟩))]
  · conv => lhs; rw [r3_Check_L9_eq]; unfold r3_Check_L9_B
    (try dsimp only); (repeat' first | (with_reducible refine G_to ?_ ?_; focus (first | omega | (unfold fits; omega) | (unfold room; (try simp only [List.length_append, List.length_cons, List.length_nil]); omega))) | (with_reducible refine both_to ?_ ?_) | (with_reducible refine itet_to ?_) | (with_reducible refine itef_to ?_) | (with_reducible refine ite_to (fun _ => ?_) (fun _ => ?_))) <;> try (exfalso; omega)
    all_goals first | rfl | (exfalso; exact hb ‹_›) | (exfalso; exact absurd ‹_› hb)
  rw [if_neg (show ¬ DRag d from fun h => h.elim (fun e => e c3) (fun h => by obtain ⟨i, i0, i1, i2⟩ := ex_ix.1 h; exact hh i i0 i1 i2))]
  rw [r3_Check_L9_eq]; unfold r3_Check_L9_B
  by_cases c4 : d.2.1 < 0 ∨ (d.2.2.1.length : Int) ≤ d.2.1
  · rw [if_pos (show DOut _ d from .inl c4)]
    (try dsimp only); (repeat' first | (with_reducible refine G_to ?_ ?_; focus (first | omega | (unfold fits; omega) | (unfold room; (try simp only [List.length_append, List.length_cons, List.length_nil]); omega))) | (with_reducible refine both_to ?_ ?_) | (with_reducible refine itet_to ?_) | (with_reducible refine itef_to ?_) | (with_reducible refine ite_to (fun _ => ?_) (fun _ => ?_))) <;> try (exfalso; omega)
    all_goals rfl
  (try dsimp only); (repeat' first | (with_reducible refine G_to ?_ ?_; focus (first | omega | (unfold fits; omega) | (unfold room; (try simp only [List.length_append, List.length_cons, List.length_nil]); omega))) | (with_reducible refine both_to ?_ ?_) | (with_reducible refine itet_to ?_) | (with_reducible refine itef_to ?_) | (with_reducible refine ite_to (fun _ => ?_) (fun _ => ?_))) <;> try (exfalso; omega)
  have hlen : ∀ t : Int, 0 ≤ t → t < d.2.2.1.length → ((ix d.2.2.1 t).length : Int) = d.1 := fun t a b => Decidable.not_not.1 (hh t a b)
  refine scan_to (len := (d.2.2.1.length : Int)) (bad := fun t => ∃ q ∈ ix d.2.2.1 t, q < 0 ∨ (d.2.2.1.length : Int) ≤ q) (by omega) (fun t h0 h1 => ⟨fun hb => ?_, fun hb => ?_⟩) (fun hh2 => ?_)
  · rw [r3_Check_L16_eq]; unfold r3_Check_L16_B
    (try dsimp only); (repeat' first | (with_reducible refine G_to ?_ ?_; focus (first | omega | (unfold fits; omega) | (unfold room; (try simp only [List.length_append, List.length_cons, List.length_nil]); omega))) | (with_reducible refine both_to ?_ ?_) | (with_reducible refine itet_to ?_) | (with_reducible refine itef_to ?_) | (with_reducible refine ite_to (fun _ => ?_) (fun _ => ?_))) <;> try (exfalso; omega)
    have hlt := hlen t h0 h1
    refine scan_to (len := d.1) (bad := fun a => ix (ix d.2.2.1 t) a < 0 ∨ (d.2.2.1.length : Int) ≤ ix (ix d.2.2.1 t) a) (by omega) (fun a a0 a1 => ⟨fun hb => ?_, fun hb => ?_⟩) (fun hh3 => ?_)
    · rw [r3_Check_L19_eq]; unfold r3_Check_L19_B
      (try dsimp only); (repeat' first | (with_reducible refine G_to ?_ ?_; focus (first | omega | (unfold fits; omega) | (unfold room; (try simp only [List.length_append, List.length_cons, List.length_nil]); omega))) | (with_reducible refine both_to ?_ ?_) | (with_reducible refine itet_to ?_) | (with_reducible refine itef_to ?_) | (with_reducible refine ite_to (fun _ => ?_) (fun _ => ?_))) <;> try (exfalso; omega)
      all_goals rw [if_pos (show DOut _ d from .inr (.inl (ex_ix.2 ⟨t, h0, h1, ex_ix.2 ⟨a, a0, by omega, hb⟩⟩)))]
    · conv => lhs; rw [r3_Check_L19_eq]; unfold r3_Check_L19_B
      (try dsimp only); (repeat' first | (with_reducible refine G_to ?_ ?_; focus (first | omega | (unfold fits; omega) | (unfold room; (try simp only [List.length_append, List.length_cons, List.length_nil]); omega))) | (with_reducible refine both_to ?_ ?_) | (with_reducible refine itet_to ?_) | (with_reducible refine itef_to ?_) | (with_reducible refine ite_to (fun _ => ?_) (fun _ => ?_))) <;> try (exfalso; omega)
      all_goals rfl
    · exfalso
      obtain ⟨i, i0, i1, i2⟩ := ex_ix.1 hb
      exact hh3 i i0 (by omega) i2
  · conv => lhs; rw [r3_Check_L16_eq]; unfold r3_Check_L16_B
    (try dsimp only); (repeat' first | (with_reducible refine G_to ?_ ?_; focus (first | omega | (unfold fits; omega) | (unfold room; (try simp only [List.length_append, List.length_cons, List.length_nil]); omega))) | (with_reducible refine both_to ?_ ?_) | (with_reducible refine itet_to ?_) | (with_reducible refine itef_to ?_) | (with_reducible refine ite_to (fun _ => ?_) (fun _ => ?_))) <;> try (exfalso; omega)
    have hlt := hlen t h0 h1
    refine scan_to (len := d.1) (bad := fun a => ix (ix d.2.2.1 t) a < 0 ∨ (d.2.2.1.length : Int) ≤ ix (ix d.2.2.1 t) a) (by omega) (fun a a0 a1 => ⟨fun hb' => ?_, fun hb => ?_⟩) (fun hh3 => ?_)
    · exfalso; exact hb (ex_ix.2 ⟨a, a0, by omega, hb'⟩)
    · conv => lhs; rw [r3_Check_L19_eq]; unfold r3_Check_L19_B
      (try dsimp only); (repeat' first | (with_reducible refine G_to ?_ ?_; focus (first | omega | (unfold fits; omega) | (unfold room; (try simp only [List.length_append, List.length_cons, List.length_nil]); omega))) | (with_reducible refine both_to ?_ ?_) | (with_reducible refine itet_to ?_) | (with_reducible refine itef_to ?_) | (with_reducible refine ite_to (fun _ => ?_) (fun _ => ?_))) <;> try (exfalso; omega)
      all_goals rfl
    · rw [r3_Check_L19_eq]; unfold r3_Check_L19_B
      (try dsimp only); (repeat' first | (with_reducible refine G_to ?_ ?_; focus (first | omega | (unfold fits; omega) | (unfold room; (try simp only [List.length_append, List.length_cons, List.length_nil]); omega))) | (with_reducible refine both_to ?_ ?_) | (with_reducible refine itet_to ?_) | (with_reducible refine itef_to ?_) | (with_reducible refine ite_to (fun _ => ?_) (fun _ => ?_))) <;> try (exfalso; omega)
      all_goals rfl
  have hnr : ¬ ∃ r ∈ d.2.2.1, ∃ q ∈ r, q < 0 ∨ (d.2.2.1.length : Int) ≤ q := fun h => by
    obtain ⟨t, h0, h1, hb⟩ := ex_ix.1 h
    exact hh2 t h0 h1 hb
  rw [r3_Check_L16_eq]; unfold r3_Check_L16_B
  (try dsimp only); (repeat' first | (with_reducible refine G_to ?_ ?_; focus (first | omega | (unfold fits; omega) | (unfold room; (try simp only [List.length_append, List.length_cons, List.length_nil]); omega))) | (with_reducible refine both_to ?_ ?_) | (with_reducible refine itet_to ?_) | (with_reducible refine itef_to ?_) | (with_reducible refine ite_to (fun _ => ?_) (fun _ => ?_))) <;> try (exfalso; omega)
  refine scan_to (len := (d.2.2.1.length : Int)) (bad := fun t => (badD) (ix d.2.2.2.1 t)) (by omega) (fun t h0 h1 => ⟨fun hb => ?_, fun hb => ?_⟩) (fun hh3 => ?_)
  · rw [if_pos (show DOut _ d from .inr (.inr (ex_ix.2 ⟨t, h0, by omega, hb⟩)))]
    rw [r3_Check_L24_eq]; unfold r3_Check_L24_B
    try dsimp only at hb
    (try dsimp only); (repeat' first | (with_reducible refine G_to ?_ ?_; focus (first | omega | (unfold fits; omega) | (unfold room; (try simp only [List.length_append, List.length_cons, List.length_nil]); omega))) | (with_reducible refine both_to ?_ ?_) | (with_reducible refine itet_to ?_) | (with_reducible refine itef_to ?_) | (with_reducible refine ite_to (fun _ => ?_) (fun _ => ?_))) <;> try (exfalso; omega)
    all_goals first | rfl | (exfalso; exact hb.1 ‹_›) | (exfalso; exact hb.2 ‹_›)
  · conv => lhs; rw [r3_Check_L24_eq]; unfold r3_Check_L24_B
    try dsimp only at hb
    (try dsimp only); (repeat' first | (with_reducible refine G_to ?_ ?_; focus (first | omega | (unfold fits; omega) | (unfold room; (try simp only [List.length_append, List.length_cons, List.length_nil]); omega))) | (with_reducible refine both_to ?_ ?_) | (with_reducible refine itet_to ?_) | (with_reducible refine itef_to ?_) | (with_reducible refine ite_to (fun _ => ?_) (fun _ => ?_))) <;> try (exfalso; omega)
    all_goals first | rfl | (exfalso; exact hb ⟨‹_›, ‹_›⟩)
  rw [if_neg (show ¬ DOut _ d from fun h => h.elim c4 (fun h => h.elim hnr (fun h => by
    obtain ⟨t, h0, h1, hb⟩ := ex_ix.1 h
    exact hh3 t h0 (by omega) hb)))]
  rw [r3_Check_L24_eq]; unfold r3_Check_L24_B
  (try dsimp only); (repeat' first | (with_reducible refine G_to ?_ ?_; focus (first | omega | (unfold fits; omega) | (unfold room; (try simp only [List.length_append, List.length_cons, List.length_nil]); omega))) | (with_reducible refine both_to ?_ ?_) | (with_reducible refine itet_to ?_) | (with_reducible refine itef_to ?_) | (with_reducible refine ite_to (fun _ => ?_) (fun _ => ?_))) <;> try (exfalso; omega)
  all_goals rfl

theorem LeastOk.tab {d o : Dt} {C Q : List Int} {K : Nat} (h : LeastOk d o C Q K) : Tab o.1 o.2.2.1 := by
  refine ⟨fun r hr => ?_, fun r hr q hq => ?_⟩
  · obtain ⟨j, j0, j1, rfl⟩ := (ex_ix (P := fun x => x = r)).1 ⟨r, hr, rfl⟩
    rw [h.let1]; exact (h.part.row j j0 j1).len
  · obtain ⟨j, j0, j1, rfl⟩ := (ex_ix (P := fun x => x = r)).1 ⟨r, hr, rfl⟩
    have hr := h.part.row j j0 j1
    obtain ⟨k, k0, k1, rfl⟩ := (ex_ix (P := fun x => x = q)).1 ⟨q, hq, rfl⟩
    have := hr.to k k0 (by rw [← hr.len]; exact k1)
    rw [h.all]; exact ⟨this.1, this.2.1⟩
theorem LeastOk.mok {d o : Dt} {C Q : List Int} {K : Nat} (hd : DOk 3000 badD d) (h : LeastOk d o C Q K) (h5 : o.2.2.1.length ≤ 5) : MOk o := by
  have := h.part.q.z.1
  have := h.all
  have := hd.let1
  have := h.let1
  exact ⟨h.tab, by omega, by omega, h5⟩
section
variable {d : Dt}
theorem det_Least_bad (hm : ¬ detE 3000 badD d = 0) : det_Least d = some ((0, 0, [], [], ()), detE 3000 badD d) := by
  unfold det_Least
  refine bind_to det_Check_spec ?_
  rw [show detE 3000 badD (d.1, d.2.1, d.2.2.1, d.2.2.2.1, ()) = detE 3000 badD d from rfl]
  rw [if_pos (decide_eq_true hm)]
theorem det_Least_good (hm : detE 3000 badD d = 0) {o : Dt} (ho : det_Smallest d = some o) : det_Least d = some (o, 0) := by
  unfold det_Least
  refine bind_to det_Check_spec ?_
  rw [show detE 3000 badD (d.1, d.2.1, d.2.2.1, d.2.2.2.1, ()) = 0 from hm, if_neg (by simp)]
  exact bind_to ho rfl
theorem small_both : (∃ e, ¬ e = 0 ∧ monoid_small d = some ((0, 0, [], [], ()), e) ∧ law_small d = some ((0, 0, [], [], ()), e)) ∨ (∃ o C Q K, detE 3000 badD d = 0 ∧ LeastOk d o C Q K ∧ MOk o ∧ monoid_small d = some (o, 0) ∧ law_small d = some (o, 0)) := by
  have ed : (d.1, d.2.1, d.2.2.1, d.2.2.2.1, ()) = d := rfl
  by_cases hm : detE 3000 badD d = 0
  · have h := detE_zero hm
    obtain ⟨o, C, Q, K, w1, w2, w3⟩ := least_both h
    have hL := det_Least_good hm w2
    have eo : (o.1, o.2.1, o.2.2.1, o.2.2.2.1, ()) = o := rfl
    by_cases h5 : o.2.2.1.length ≤ 5
    · refine .inr ⟨o, C, Q, K, hm, w1, w1.mok h h5, ?_, ?_⟩
      · unfold monoid_small
        rw [ed]
        refine bind_to hL ?_
        rw [if_neg (by simp), if_neg (by simp; omega)]
      · unfold law_small
        refine bind_to r3_Check_spec ?_
        rw [if_neg (by simpa using hm), ed]
        refine bind_to w3 ?_
        rw [if_neg (by simp; omega)]
    · refine .inl ⟨1, by omega, ?_, ?_⟩
      · unfold monoid_small
        rw [ed]
        refine bind_to hL ?_
        rw [if_neg (by simp), if_pos (by simp; omega)]
      · unfold law_small
        refine bind_to r3_Check_spec ?_
        rw [if_neg (by simpa using hm), ed]
        refine bind_to w3 ?_
        rw [if_pos (by simp; omega)]
  · refine .inl ⟨_, hm, ?_, ?_⟩
    · unfold monoid_small
      rw [ed]
      refine bind_to (det_Least_bad hm) ?_
      rw [if_pos (by simpa using hm)]
    · unfold law_small
      refine bind_to r3_Check_spec ?_
      rw [if_pos (by simpa using hm)]
end

section
variable {o : Dt}
theorem turn_both (hm : MOk o) {R : List El} (h : LOk o R) {t : Int} (t0 : 0 ≤ t) (t1 : t < R.length) {q : Int} (q0 : 0 ≤ q) (q1 : q < o.2.2.1.length) : ∀ (f : Nat) (k p : Int), ((o.2.2.1.length : Int) + 1 - k).toNat = f → 1 ≤ k → k ≤ o.2.2.1.length + 1 → 0 ≤ p → p < o.2.2.1.length →
    ∃ v : Int, 0 ≤ v ∧ v ≤ o.2.2.1.length + 1 ∧ r4_Turns_L3 (ix R t).1 q p k = some v ∧ ∀ (best : Int) (r9 : Int → Int → Option (List Int × Int × Bool × Int)), monoid_Counts_L12 R t best q r9 k p = if 1 < v ∧ (best = 0 ∨ v < best) then r9 v (q + 1) else r9 best (q + 1) := by
  have hn := hm.n1
  obtain ⟨hl, hb⟩ := h.row hm (ix_mem t0 t1)
  have fin : ∀ (best : Int) (r9 : Int → Int → Option (List Int × Int × Bool × Int)) (k p : Int) (r12 : Int → Int → Option (List Int × Int × Bool × Int)), monoid_Counts_J12 R t best q r9 k p r12 false = if p = q then (if 1 < k ∧ (best = 0 ∨ k < best) then r9 k (q + 1) else r9 best (q + 1)) else r9 best (q + 1) := by
    intro best r9 k p r12
    unfold monoid_Counts_J12
    rw [if_neg (by simp), G_pos (by unfold fits; omega), G_pos (by unfold fits; omega)]
    by_cases c1 : p = q
    · rw [if_pos (decide_eq_true c1), if_pos c1]
      by_cases c2 : 1 < k
      · rw [if_pos (decide_eq_true c2)]
        by_cases c3 : best = 0
        · rw [if_pos (decide_eq_true c3), if_pos ⟨c2, .inl c3⟩]
        · rw [if_neg (by simpa using c3)]
          by_cases c4 : k < best
          · rw [if_pos (decide_eq_true c4), if_pos ⟨c2, .inr c4⟩]
          · rw [if_neg (by simpa using c4), if_neg (fun hh => hh.2.elim c3 c4)]
      · rw [if_neg (by simpa using c2), if_neg (fun hh => c2 hh.1)]
    · rw [if_neg (by simpa using c1), if_neg c1]
  intro f
  induction f with
  | zero =>
    intro k p hf k1 k2 p0 p1
    obtain rfl : k = o.2.2.1.length + 1 := by omega
    by_cases c : p = q
    · refine ⟨o.2.2.1.length + 1, by omega, by omega, ?_, fun best r9 => ?_⟩
      · rw [r4_Turns_L3_eq]; unfold r4_Turns_L3_B r4_Turns_J3
        rw [if_neg (by simp; omega), if_neg (by simp), if_neg (by simpa using c)]
      · rw [monoid_Counts_L12_eq]; unfold monoid_Counts_L12_B
        rw [if_neg (by simpa using c), fin, if_pos c]
    · refine ⟨0, by omega, by omega, ?_, fun best r9 => ?_⟩
      · rw [r4_Turns_L3_eq]; unfold r4_Turns_L3_B r4_Turns_J3
        rw [if_neg (by simp; omega), if_neg (by simp), if_pos (by simpa using c)]
      · rw [monoid_Counts_L12_eq]; unfold monoid_Counts_L12_B
        rw [if_pos (by simpa using c), show decide ((o.2.2.1.length : Int) + 1 ≤ (((ix R t).1).length : Int)) = false by simp; omega, fin, if_neg c, if_neg (by omega)]
  | succ f ih =>
    intro k p hf k1 k2 p0 p1
    by_cases c : p = q
    · refine ⟨k, by omega, by omega, ?_, fun best r9 => ?_⟩
      · rw [r4_Turns_L3_eq]; unfold r4_Turns_L3_B r4_Turns_J3
        rw [show decide (¬ p = q) = false by simpa using c]
        simp only [Bool.false_eq_true, if_false, ite_self]
      · rw [monoid_Counts_L12_eq]; unfold monoid_Counts_L12_B
        rw [if_neg (by simpa using c), fin, if_pos c]
    · have hp := hb _ (ix_mem p0 (by omega : p < (ix R t).1.length))
      obtain ⟨v, v0, v1, v2, v3⟩ := ih (k + 1) (ix (ix R t).1 p) (by omega) (by omega) (by omega) hp.1 hp.2
      refine ⟨v, v0, v1, ?_, fun best r9 => ?_⟩
      · rw [r4_Turns_L3_eq]; unfold r4_Turns_L3_B r4_Turns_J3 r4_Turns_J3_1
        rw [if_pos (by simp; omega), if_pos (by simpa using c)]
        exact G_to (by omega) (G_to (by unfold fits; omega) v2)
      · rw [monoid_Counts_L12_eq]; unfold monoid_Counts_L12_B
        rw [if_pos (by simpa using c), show decide (k ≤ (((ix R t).1).length : Int)) = true by simp; omega]
        unfold monoid_Counts_J12 monoid_Counts_J12_1
        rw [if_pos rfl]
        exact G_to (by omega) (G_to (by unfold fits; omega) (v3 best r9))
theorem best_both (hm : MOk o) {R : List El} (h : LOk o R) {t : Int} (t0 : 0 ≤ t) (t1 : t < R.length) {r5 r3} : ∀ (f : Nat) (q best : Int), (o.2.2.1.length - q).toNat = f → 0 ≤ q → q ≤ o.2.2.1.length → 0 ≤ best → best ≤ 10 →
    ∃ b : Int, 0 ≤ b ∧ monoid_Counts_L9 R t r5 best q = (if 0 < b then some ((ix R t).2.1, b, true, 0) else r5 (t + 1)) ∧ r4_Counts_L7 o R t r3 best q = (if 0 < b then some ((ix R t).2.1, b) else r3 (t + 1)) := by
  have hn := hm.n1
  have hL := h.len hm
  obtain ⟨hl, hb⟩ := h.row hm (ix_mem t0 t1)
  intro f
  induction f with
  | zero =>
    intro q best hf q0 q1 b0 b1
    refine ⟨best, b0, ?_, ?_⟩
    · rw [monoid_Counts_L9_eq]; unfold monoid_Counts_L9_B
      rw [if_neg (by simp; omega), G_pos (by unfold fits; omega)]
      by_cases c : 0 < best
      · rw [if_pos (decide_eq_true c), if_pos c]
      · rw [if_neg (by simpa using c), if_neg c]
    · rw [r4_Counts_L7_eq]; unfold r4_Counts_L7_B
      rw [if_neg (by simp; omega), G_pos (by omega), G_pos (by omega), G_pos (by unfold fits; omega)]
      by_cases c : 0 < best
      · rw [if_pos (decide_eq_true c), if_pos c]
      · rw [if_neg (by simpa using c), if_neg c]
  | succ f ih =>
    intro q best hf q0 q1 b0 b1
    have hp := hb _ (ix_mem q0 (by omega : q < (ix R t).1.length))
    obtain ⟨v, v0, v1, v2, v3⟩ := turn_both hm h t0 t1 q0 (by omega) _ 1 (ix (ix R t).1 q) rfl (by omega) (by omega) hp.1 hp.2
    have e1 : monoid_Counts_L9 R t r5 best q = monoid_Counts_L9 R t r5 (if 1 < v ∧ (best = 0 ∨ v < best) then v else best) (q + 1) := by
      conv => lhs; rw [monoid_Counts_L9_eq]; unfold monoid_Counts_L9_B
      rw [if_pos (by simp; omega), G_pos (by omega), v3]
      split <;> rfl
    have e2 : r4_Counts_L7 o R t r3 best q = r4_Counts_L7 o R t r3 (if 1 < v ∧ (best = 0 ∨ v < best) then v else best) (q + 1) := by
      conv => lhs; rw [r4_Counts_L7_eq]; unfold r4_Counts_L7_B
      rw [if_pos (by simp; omega), G_pos (by omega), G_pos (by omega)]
      have ht : r4_Turns (ix R t).1 q = some v := by unfold r4_Turns; rw [G_pos (by omega)]; exact v2
      refine bind_to ht ?_
      rw [G_pos (by unfold fits; omega), G_pos (by unfold fits; omega)]
      by_cases c2 : 1 < v
      · rw [if_pos (decide_eq_true c2)]
        by_cases c3 : best = 0
        · rw [if_pos (decide_eq_true c3), if_pos ⟨c2, .inl c3⟩]
        · rw [if_neg (by simpa using c3)]
          by_cases c4 : v < best
          · rw [if_pos (decide_eq_true c4), if_pos ⟨c2, .inr c4⟩]
          · rw [if_neg (by simpa using c4), if_neg (fun hh => hh.2.elim c3 c4)]
      · rw [if_neg (by simpa using c2), if_neg (fun hh => c2 hh.1)]
    rw [e1, e2]
    exact ih (q + 1) _ (by omega) (by omega) (by omega) (by split <;> omega) (by split <;> omega)
theorem counts_both (hm : MOk o) {R : List El} (h : LOk o R) : ∀ (f : Nat) (t : Int), (R.length - t).toNat = f → 0 ≤ t → t ≤ R.length → ∃ (w : List Int) (b : Int), w.length ≤ 10000 ∧ 0 ≤ b ∧ monoid_Counts_L5 R t = some (w, b, decide (0 < b), 0) ∧ r4_Counts_L3 o R t = some (w, b) := by
  have hL := h.len hm
  have hn := hm.n1
  intro f
  induction f with
  | zero =>
    intro t hf t0 t1
    refine ⟨[], 0, by simp, by omega, ?_, ?_⟩
    · rw [monoid_Counts_L5_eq]; unfold monoid_Counts_L5_B
      rw [if_neg (by simp; omega)]; rfl
    · rw [r4_Counts_L3_eq]; unfold r4_Counts_L3_B
      rw [if_neg (by simp; omega)]
  | succ f ih =>
    intro t hf t0 t1
    have hel := h.el t t0 (by omega)
    have hsh := hel.short
    obtain ⟨b, b0, p1, p2⟩ := best_both (r5 := monoid_Counts_L5 R) (r3 := r4_Counts_L3 o R) hm h t0 (by omega : t < R.length) _ 0 0 rfl (by omega) (by omega) (by omega) (by omega)
    have e1 : monoid_Counts_L5 R t = monoid_Counts_L9 R t (monoid_Counts_L5 R) 0 0 := by
      conv => lhs; rw [monoid_Counts_L5_eq]; unfold monoid_Counts_L5_B
      rw [if_pos (by simp; omega), G_pos (by omega), G_pos (by omega)]
    have e2 : r4_Counts_L3 o R t = r4_Counts_L7 o R t (r4_Counts_L3 o R) 0 0 := by
      conv => lhs; rw [r4_Counts_L3_eq]; unfold r4_Counts_L3_B
      rw [if_pos (by simp; omega)]
    rw [e1, e2, p1, p2]
    by_cases c : 0 < b
    · exact ⟨(ix R t).2.1, b, by omega, b0, by rw [if_pos c, decide_eq_true c], by rw [if_pos c]⟩
    · rw [if_neg c, if_neg c]
      exact ih (t + 1) (by omega) (by omega) (by omega)
end
theorem law_true (d : Dt) : law_MonoidCounts d = some true := by
  have ed : (d.1, d.2.1, d.2.2.1, d.2.2.2.1, ()) = d := rfl
  unfold law_MonoidCounts
  rw [ed]
  rcases small_both (d := d) with ⟨e, he, s1, s2⟩ | ⟨o, C, Q, K, h0, hlo, hm, s1, s2⟩
  · have p : monoid_Counts d = some ([], 0, false, e) := by
      unfold monoid_Counts
      rw [ed]
      refine bind_to s1 ?_
      rw [if_pos (by simpa using he)]
    refine bind_to p ?_
    refine bind_to s2 ?_
    rw [if_pos (by simpa using he), if_pos (by simp)]
    rfl
  · have eo : (o.1, o.2.1, o.2.2.1, o.2.2.2.1, ()) = o := rfl
    obtain ⟨R, r1, r2, r3⟩ := elements_both hm
    obtain ⟨w, b, hw, b0, c1, c2⟩ := counts_both hm r1 _ 0 rfl (by omega) (by omega)
    have p : monoid_Counts d = some (w, b, decide (0 < b), 0) := by
      unfold monoid_Counts
      rw [ed]
      refine bind_to s1 ?_
      rw [if_neg (by simp), eo]
      exact bind_to r2 c1
    have p2 : r4_Counts o = some (w, b) := by
      unfold r4_Counts
      rw [eo]
      exact bind_to r3 c2
    refine bind_to p ?_
    refine bind_to s2 ?_
    rw [if_neg (by simp), eo]
    refine bind_to p2 ?_
    refine bind_to (r1_Words_spec (by show w.length ≤ _; omega)) ?_
    rw [if_pos (by simp), if_pos (by simp), if_pos (by simp)]
    simp

end Go.Proofs.Ytmjgkbhiogegbaa.monoidCountsW
