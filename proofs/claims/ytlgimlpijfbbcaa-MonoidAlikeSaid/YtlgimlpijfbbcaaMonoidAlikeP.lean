/- The law 'MonoidAlike' of the plain functions. -/
import Derived.Test.YtlgimlpijfbbcaaMonoidAlikeD
set_option maxHeartbeats 1000000
set_option maxRecDepth 20000
set_option linter.unusedSimpArgs false
set_option linter.unusedVariables false
set_option linter.unusedSectionVars false
namespace Go.Proofs.Ytlgimlpijfbbcaa.monoidAlikeW
open Go Go.Ab
theorem wrap_nat {n : Nat} (h : n < 9223372036854775808) : IntKind.wrap .i64 (n : Int) = n := by
  unfold IntKind.wrap
  simp [IntKind.bits, IntKind.signed]
  omega
theorem ofInt_nat (m : Nat) : BitVec.ofInt 64 (m : Int) = BitVec.ofNat 64 m := by
  apply BitVec.eq_of_toNat_eq; simp
theorem iand_nat {m n : Nat} (hm : m < 9223372036854775808) (hn : n < 9223372036854775808) : iand .i64 (m : Int) (n : Int) = ((m &&& n : Nat) : Int) := by
  unfold iand
  have h : (BitVec.ofInt IntKind.i64.bits (m : Int) &&& BitVec.ofInt IntKind.i64.bits (n : Int)).toNat = m &&& n := by
    show (BitVec.ofInt 64 (m : Int) &&& BitVec.ofInt 64 (n : Int)).toNat = m &&& n
    rw [ofInt_nat, ofInt_nat, BitVec.toNat_and, BitVec.toNat_ofNat, BitVec.toNat_ofNat, Nat.mod_eq_of_lt (by omega), Nat.mod_eq_of_lt (by omega)]
  rw [h, wrap_nat (Nat.lt_of_le_of_lt Nat.and_le_left hm)]
theorem ior_nat {m n : Nat} (hm : m < 9223372036854775808) (hn : n < 9223372036854775808) : ior .i64 (m : Int) (n : Int) = ((m ||| n : Nat) : Int) := by
  unfold ior
  have h : (BitVec.ofInt IntKind.i64.bits (m : Int) ||| BitVec.ofInt IntKind.i64.bits (n : Int)).toNat = m ||| n := by
    show (BitVec.ofInt 64 (m : Int) ||| BitVec.ofInt 64 (n : Int)).toNat = m ||| n
    rw [ofInt_nat, ofInt_nat, BitVec.toNat_or, BitVec.toNat_ofNat, BitVec.toNat_ofNat, Nat.mod_eq_of_lt (by omega), Nat.mod_eq_of_lt (by omega)]
  rw [h, wrap_nat (Nat.or_lt_two_pow (n := 63) hm hn)]
theorem ishl_nat {m k : Nat} (hk : k < 63) (h : m * 2 ^ k < 9223372036854775808) : ishl .i64 (m : Int) (k : Int) = ((m <<< k : Nat) : Int) := by
  unfold ishl
  have e : min ((k : Int).toNat) IntKind.i64.bits = k := by
    show min ((k : Int).toNat) 64 = k
    omega
  rw [e, Nat.shiftLeft_eq]
  have : (m : Int) * 2 ^ k = ((m * 2 ^ k : Nat) : Int) := by push_cast; rfl
  rw [this, wrap_nat h]
theorem ishr_nat {m k : Nat} (hk : k ≤ 64) : ishr .i64 (m : Int) (k : Int) = ((m >>> k : Nat) : Int) := by
  unfold ishr
  have e : min ((k : Int).toNat) IntKind.i64.bits = k := by
    show min ((k : Int).toNat) 64 = k
    omega
  rw [e, Nat.shiftRight_eq_div_pow, Int.fdiv_eq_ediv_of_nonneg _ (by exact_mod_cast Nat.zero_le _)]
  push_cast; rfl
/-- Bits: the q-th one is put. -/
theorem ior_bit {m q : Nat} (hm : m < 4611686018427387904) (hq : q < 62) : ior .i64 (m : Int) (ishl .i64 1 (q : Int)) = ((m ||| 2 ^ q : Nat) : Int) ∧ m ||| 2 ^ q < 4611686018427387904 := by
  have h2 : 2 ^ q < 4611686018427387904 := Nat.pow_lt_pow_right (a := 2) (n := 62) (by omega) hq
  have h1 : ishl .i64 1 (q : Int) = ((2 ^ q : Nat) : Int) := by
    have := ishl_nat (m := 1) (k := q) (by omega) (by omega)
    rw [Nat.shiftLeft_eq, Nat.one_mul] at this
    exact this
  rw [h1, ior_nat (by omega) (by omega)]
  exact ⟨rfl, Nat.or_lt_two_pow (n := 62) hm h2⟩

/-- The answer is yes just if P. -/
def Tells (o : Option Bool) (P : Prop) : Prop := ∃ b, o = some b ∧ (b = true ↔ P)
theorem Tells.of {b : Bool} {P : Prop} (h : b = true ↔ P) : Tells (some b) P := ⟨b, rfl, h⟩
theorem Tells.dec {P Q : Prop} [Decidable P] (h : P ↔ Q) : Tells (some (decide P)) Q := ⟨_, rfl, by simpa using h⟩
theorem Tells.iff {o : Option Bool} {P Q : Prop} (h : Tells o P) (k : P ↔ Q) : Tells o Q := let ⟨b, h1, h2⟩ := h; ⟨b, h1, h2.trans k⟩
theorem Tells.eq {o : Option Bool} {P : Prop} [Decidable P] (h : Tells o P) : o = some (decide P) := by
  obtain ⟨b, rfl, hb⟩ := h
  by_cases hp : P
  · simp [hp, hb.2 hp]
  · have : b = false := by cases b; rfl; exact absurd (hb.1 rfl) hp
    simp [hp, this]
theorem Tells.to {R : Type} {o : Option Bool} {P : Prop} {k1 k2 x : Option R} (h : Tells o P) (h1 : P → k1 = x) (h2 : ¬ P → k2 = x) : (o.bind fun y => if y = true then k1 else k2) = x := by
  obtain ⟨b, rfl, hb⟩ := h
  refine bind_to rfl ?_
  cases b
  · exact h2 fun hp => by simpa using hb.2 hp
  · exact h1 (hb.1 rfl)
theorem Tells.bind {R : Type} {o : Option Bool} {P : Prop} {k : Bool → Option R} {x : Option R} (h : Tells o P) (h1 : ∀ b, (b = true ↔ P) → k b = x) : o.bind k = x := by
  obtain ⟨b, rfl, hb⟩ := h
  exact h1 b hb
section
variable {α C : Type} [Inhabited α]
theorem ex_ix {l : List α} {P : α → Prop} : (∃ x ∈ l, P x) ↔ ∃ i : Int, 0 ≤ i ∧ i < l.length ∧ P (ix l i) := by
  constructor
  · rintro ⟨x, hx, hp⟩
    obtain ⟨i, hi, rfl⟩ := List.mem_iff_getElem.1 hx
    refine ⟨i, by omega, by omega, ?_⟩
    rwa [ix_eq (by omega) (by omega)]
  · rintro ⟨i, h0, h1, hp⟩
    exact ⟨_, ix_mem h0 h1, hp⟩
theorem index_loop {s : List α} {f : α → Option Bool} {L : Int → Option Int} {P : α → Prop} (hs : s.length ≤ 4611686018427387904)
    (hL : ∀ t, L t = if decide (t < (s.length : Int)) = true then G (0 ≤ t ∧ t < (s.length : Int)) ((f (ix s t)).bind fun y => if y = true then some t else G (fits (t + 1)) (L (t + 1))) else some (-1))
    (hf : ∀ x ∈ s, Tells (f x) (P x)) : ∀ (n : Nat) (t : Int), 0 ≤ t → t ≤ s.length → (s.length - t).toNat = n →
      ∃ i, L t = some i ∧ ((i = -1 ∧ ∀ j : Int, t ≤ j → j < s.length → ¬ P (ix s j)) ∨ (t ≤ i ∧ i < s.length ∧ P (ix s i) ∧ ∀ j : Int, t ≤ j → j < i → ¬ P (ix s j))) := by
  intro n
  induction n with
  | zero =>
    intro t h0 h1 hn
    refine ⟨-1, ?_, .inl ⟨rfl, fun j a b => by omega⟩⟩
    rw [hL, if_neg (by simp; omega)]
  | succ n ih =>
    intro t h0 h1 hn
    rw [hL, if_pos (by simp; omega), G_pos (by omega)]
    obtain ⟨b, hb, hbp⟩ := hf _ (ix_mem h0 (by omega : t < s.length))
    rw [hb]
    cases b with
    | true => exact ⟨t, rfl, .inr ⟨by omega, by omega, hbp.1 rfl, fun j a b => by omega⟩⟩
    | false =>
      have hnp : ¬ P (ix s t) := fun hp => by simpa using hbp.2 hp
      obtain ⟨i, hi, hc⟩ := ih (t + 1) (by omega) (by omega) (by omega)
      refine ⟨i, ?_, ?_⟩
      · refine (if_neg (by simp) : (if false = true then some t else G (fits (t + 1)) (L (t + 1))) = _).trans ?_
        rw [G_pos (by unfold fits; omega), hi]
      · rcases hc with ⟨h2, h3⟩ | ⟨h2, h3, h4, h5⟩
        · refine .inl ⟨h2, fun j a b => ?_⟩
          by_cases e : j = t
          · rw [e]; exact hnp
          · exact h3 j (by omega) b
        · refine .inr ⟨by omega, h3, h4, fun j a b => ?_⟩
          by_cases e : j = t
          · rw [e]; exact hnp
          · exact h5 j (by omega) b
theorem contains_tells {s : List α} {f : α → Option Bool} {L : Int → Option Int} {P : α → Prop}
    (hL : ∀ t, L t = if decide (t < (s.length : Int)) = true then G (0 ≤ t ∧ t < (s.length : Int)) ((f (ix s t)).bind fun y => if y = true then some t else G (fits (t + 1)) (L (t + 1))) else some (-1))
    (hs : s.length ≤ 4611686018427387904) (hf : ∀ x ∈ s, Tells (f x) (P x)) : Tells ((L 0).bind fun y => some (decide ((0 : Int) ≤ y))) (∃ x ∈ s, P x) := by
  obtain ⟨i, hi, hc⟩ := index_loop hs hL hf _ 0 (by omega) (by omega) rfl
  rw [hi]
  refine ⟨decide (0 ≤ i), rfl, ?_⟩
  rw [decide_eq_true_iff, ex_ix]
  rcases hc with ⟨h2, h3⟩ | ⟨h2, h3, h4, h5⟩
  · constructor
    · intro h; omega
    · rintro ⟨j, h0, h1, hp⟩; exact absurd hp (h3 j h0 h1)
  · exact ⟨fun _ => ⟨i, by omega, h3, h4⟩, fun _ => by omega⟩
/-- .. of what carries along what it reads. -/
theorem contains_tells2 {s : List α} {c : C} {f : α → C → Option (Bool × C)} {L : Int → C → Option (Int × C)} {P : α → Prop}
    (hL : ∀ t c, L t c = if decide (t < (s.length : Int)) = true then G (0 ≤ t ∧ t < (s.length : Int)) ((f (ix s t) c).bind fun y => if y.1 = true then some (t, y.2) else G (fits (t + 1)) (L (t + 1) y.2)) else some (-1, c))
    (hs : s.length ≤ 4611686018427387904) (hf : ∀ x ∈ s, ∃ b, f x c = some (b, c) ∧ (b = true ↔ P x)) : ∃ b, ((L 0 c).bind fun y => some (decide ((0 : Int) ≤ y.1), y.2)) = some (b, c) ∧ (b = true ↔ ∃ x ∈ s, P x) := by
  have key : ∀ (n : Nat) (t : Int), 0 ≤ t → t ≤ s.length → (s.length - t).toNat = n →
      ∃ i, L t c = some (i, c) ∧ ((i = -1 ∧ ∀ j : Int, t ≤ j → j < s.length → ¬ P (ix s j)) ∨ (t ≤ i ∧ i < s.length ∧ P (ix s i))) := by
    intro n
    induction n with
    | zero =>
      intro t h0 h1 hn
      refine ⟨-1, ?_, .inl ⟨rfl, fun j a b => by omega⟩⟩
      rw [hL, if_neg (by simp; omega)]
    | succ n ih =>
      intro t h0 h1 hn
      rw [hL, if_pos (by simp; omega), G_pos (by omega)]
      obtain ⟨b, hb, hbp⟩ := hf _ (ix_mem h0 (by omega : t < s.length))
      rw [hb]
      cases b with
      | true => exact ⟨t, rfl, .inr ⟨by omega, by omega, hbp.1 rfl⟩⟩
      | false =>
        have hnp : ¬ P (ix s t) := fun hp => by simpa using hbp.2 hp
        obtain ⟨i, hi, hc⟩ := ih (t + 1) (by omega) (by omega) (by omega)
        refine ⟨i, ?_, ?_⟩
        · refine (if_neg (by simp) : (if false = true then some (t, c) else G (fits (t + 1)) (L (t + 1) c)) = _).trans ?_
          rw [G_pos (by unfold fits; omega), hi]
        · rcases hc with ⟨h2, h3⟩ | ⟨h2, h3, h4⟩
          · refine .inl ⟨h2, fun j a b => ?_⟩
            by_cases e : j = t
            · rw [e]; exact hnp
            · exact h3 j (by omega) b
          · exact .inr ⟨by omega, h3, h4⟩
  obtain ⟨i, hi, hc⟩ := key _ 0 (by omega) (by omega) rfl
  rw [hi]
  refine ⟨decide (0 ≤ i), rfl, ?_⟩
  rw [decide_eq_true_iff, ex_ix]
  rcases hc with ⟨h2, h3⟩ | ⟨h2, h3, h4⟩
  · constructor
    · intro h; omega
    · rintro ⟨j, h0, h1, hp⟩; exact absurd hp (h3 j h0 h1)
  · exact ⟨fun _ => ⟨i, by omega, h3, h4⟩, fun _ => by omega⟩
end
/-- A loop that looks for the first fault. -/
theorem scan_to {R : Type} {len : Int} {L : Int → Option R} {bad : Int → Prop} {x : Option R} {lo : Int} (h0 : lo ≤ len)
    (hs : ∀ t, lo ≤ t → t < len → (bad t → L t = x) ∧ (¬ bad t → L t = L (t + 1))) (hf : (∀ t, lo ≤ t → t < len → ¬ bad t) → L len = x) : L lo = x := by
  have key : ∀ (n : Nat) (t : Int), lo ≤ t → t ≤ len → (len - t).toNat = n → (∀ j, lo ≤ j → j < t → ¬ bad j) → L t = x := by
    intro n
    induction n with
    | zero =>
      intro t h1 h2 hn h
      obtain rfl : t = len := by omega
      exact hf h
    | succ n ih =>
      intro t h1 h2 hn h
      by_cases hb : bad t
      · exact (hs t h1 (by omega)).1 hb
      · rw [(hs t h1 (by omega)).2 hb]
        refine ih (t + 1) (by omega) (by omega) (by omega) fun j a b => ?_
        by_cases e : j = t
        · rw [e]; exact hb
        · exact h j a (by omega)
  exact key _ lo (Int.le_refl _) h0 rfl (fun j a b => by omega)
/-- A loop that counts, with a state. -/
theorem fold_to {R S : Type} {len : Int} {L : Int → S → Option R} {f : Int → S → S} {lo : Int} {I : Int → S → Prop} {s : S} (h0 : lo ≤ len) (hI : I lo s)
    (hs : ∀ t s, lo ≤ t → t < len → I t s → L t s = L (t + 1) (f t s) ∧ I (t + 1) (f t s)) : ∃ s', I len s' ∧ L lo s = L len s' := by
  have key : ∀ (n : Nat) (t : Int) (s : S), lo ≤ t → t ≤ len → (len - t).toNat = n → I t s → ∃ s', I len s' ∧ L t s = L len s' := by
    intro n
    induction n with
    | zero =>
      intro t s h1 h2 hn h
      obtain rfl : t = len := by omega
      exact ⟨s, h, rfl⟩
    | succ n ih =>
      intro t s h1 h2 hn h
      obtain ⟨e, h3⟩ := hs t s h1 (by omega) h
      obtain ⟨s', h4, h5⟩ := ih (t + 1) _ (by omega) (by omega) (by omega) h3
      exact ⟨s', h4, e.trans h5⟩
  exact key _ lo s (Int.le_refl _) h0 rfl hI

theorem r1_Words_L4_spec {a b : List Int} (hl : a.length = b.length) : ∀ (n : Nat) (i : Int), 0 ≤ i → i ≤ a.length → (a.length - i).toNat = n → a.length ≤ 2305843009213693951 → (∀ j : Int, 0 ≤ j → j < i → ix a j = ix b j) → r1_Words_L4 a b i = some (decide (a = b)) := by
  intro n
  induction n with
  | zero =>
    intro i h0 h1 hn hs h
    rw [r1_Words_L4_eq]; unfold r1_Words_L4_B
    (try dsimp only); (repeat' first | (with_reducible refine G_to ?_ ?_; focus (first | omega | (unfold fits; omega) | (unfold room; (try simp only [List.length_append, List.length_cons, List.length_nil]); omega))) | (with_reducible refine both_to ?_ ?_) | (with_reducible refine itet_to ?_) | (with_reducible refine itef_to ?_) | (with_reducible refine ite_to (fun _ => ?_) (fun _ => ?_))) <;> try (exfalso; omega)
    · rw [Option.some_inj, eq_comm, decide_eq_true_iff]; exact ix_ext hl (fun j a b => h j a (by omega))
  | succ n ih =>
    intro i h0 h1 hn hs h
    rw [r1_Words_L4_eq]; unfold r1_Words_L4_B
    (try dsimp only); (repeat' first | (with_reducible refine G_to ?_ ?_; focus (first | omega | (unfold fits; omega) | (unfold room; (try simp only [List.length_append, List.length_cons, List.length_nil]); omega))) | (with_reducible refine both_to ?_ ?_) | (with_reducible refine itet_to ?_) | (with_reducible refine itef_to ?_) | (with_reducible refine ite_to (fun _ => ?_) (fun _ => ?_))) <;> try (exfalso; omega)
    · rw [Option.some_inj, eq_comm, decide_eq_false_iff_not]; rintro rfl; contradiction
    · rename_i hx; exact ih _ (by omega) (by omega) (by omega) hs (below_succ h (Decidable.not_not.1 hx))
theorem r1_Words_spec {a b : List Int} (hs : a.length ≤ 2305843009213693951) : r1_Words a b = some (decide (a = b)) := by
  unfold r1_Words
  (try dsimp only); (repeat' first | (with_reducible refine G_to ?_ ?_; focus (first | omega | (unfold fits; omega) | (unfold room; (try simp only [List.length_append, List.length_cons, List.length_nil]); omega))) | (with_reducible refine both_to ?_ ?_) | (with_reducible refine itet_to ?_) | (with_reducible refine itef_to ?_) | (with_reducible refine ite_to (fun _ => ?_) (fun _ => ?_))) <;> try (exfalso; omega)
  · rw [Option.some_inj, eq_comm, decide_eq_false_iff_not]; rintro rfl; contradiction
  · exact r1_Words_L4_spec (by omega) _ 0 (by omega) (by omega) rfl hs (fun j a b => by omega)

theorem slices_Clone_spec {s : List Int} (hs : s.length * 8 ≤ 140737488355328) : slices_Clone s = some s := by
  have hr : G (room ([] : List Int) s 8) (some (([] : List Int) ++ s)) = some s := by
    rw [G_pos (room_of (by simpa using hs))]; rfl
  unfold slices_Clone
  refine itep_to (fun h => ?_) (fun h => hr)
  obtain rfl : s = [] := List.length_eq_zero_iff.1 h
  rw [hr]; exact both_self (ts := [(.list (.int .i64))]) (some ([] : List Int))

/-- A walk over a table. -/
def stp (N : List (List Int)) (q a : Int) : Int := ix (ix N q) a
def wlk (N : List (List Int)) (q : Int) (w : List Int) : Int := w.foldl (stp N) q
/-- The places come by. -/
def trc (N : List (List Int)) : Int → List Int → List Int
  | _, [] => []
  | q, a :: w => stp N q a :: trc N (stp N q a) w
/-- A table of so many letters. -/
structure Tab (L : Int) (N : List (List Int)) : Prop where
  row : ∀ r ∈ N, (r.length : Int) = L
  to : ∀ r ∈ N, ∀ q ∈ r, 0 ≤ q ∧ q < N.length
theorem Tab.stpb {L : Int} {N : List (List Int)} (h : Tab L N) {q a : Int} (q0 : 0 ≤ q) (q1 : q < N.length) (a0 : 0 ≤ a) (a1 : a < L) : 0 ≤ stp N q a ∧ stp N q a < N.length := by
  have h1 := ix_mem q0 q1
  have h2 := h.row _ h1
  exact h.to _ h1 _ (ix_mem a0 (by omega))
theorem Tab.rowlen {L : Int} {N : List (List Int)} (h : Tab L N) {q : Int} (q0 : 0 ≤ q) (q1 : q < N.length) : ((ix N q).length : Int) = L := h.row _ (ix_mem q0 q1)
theorem Tab.wlkb {L : Int} {N : List (List Int)} (h : Tab L N) : ∀ {w : List Int} {q : Int}, 0 ≤ q → q < N.length → (∀ a ∈ w, 0 ≤ a ∧ a < L) → 0 ≤ wlk N q w ∧ wlk N q w < N.length
  | [], q, q0, q1, _ => ⟨q0, q1⟩
  | a :: w, q, q0, q1, hw => by
    have := h.stpb q0 q1 (hw a (by simp)).1 (hw a (by simp)).2
    exact Tab.wlkb h (q := stp N q a) (w := w) this.1 this.2 (fun b hb => hw b (by simp [hb]))
theorem Tab.trcb {L : Int} {N : List (List Int)} (h : Tab L N) : ∀ {w : List Int} {q : Int}, 0 ≤ q → q < N.length → (∀ a ∈ w, 0 ≤ a ∧ a < L) → ∀ p ∈ trc N q w, 0 ≤ p ∧ p < N.length
  | [], q, q0, q1, _, p, hp => by cases hp
  | a :: w, q, q0, q1, hw, p, hp => by
    have := h.stpb q0 q1 (hw a (by simp)).1 (hw a (by simp)).2
    rcases List.mem_cons.1 hp with rfl | hp
    · exact this
    · exact Tab.trcb h this.1 this.2 (fun b hb => hw b (by simp [hb])) p hp

theorem det_After_spec {d : Int × Int × List (List Int) × List Int × Unit} {L : Int} (h : Tab L d.2.2.1) {w : List Int} (hw : ∀ a ∈ w, 0 ≤ a ∧ a < L) (hl : w.length ≤ 1000000) {q : Int} (q0 : 0 ≤ q) (q1 : q < d.2.2.1.length) : det_After d q w = some (wlk d.2.2.1 q w) := by
  have key : ∀ (n : Nat) (t q : Int), (w.length - t).toNat = n → 0 ≤ t → t ≤ w.length → 0 ≤ q → q < d.2.2.1.length → det_After_L2 d w q t = some (wlk d.2.2.1 q (w.drop t.toNat)) := by
    intro n
    induction n with
    | zero =>
      intro t q hn h0 h1 q0 q1
      rw [det_After_L2_eq]; unfold det_After_L2_B
      (try dsimp only); (repeat' first | (with_reducible refine G_to ?_ ?_; focus (first | omega | (unfold fits; omega) | (unfold room; (try simp only [List.length_append, List.length_cons, List.length_nil]); omega))) | (with_reducible refine both_to ?_ ?_) | (with_reducible refine itet_to ?_) | (with_reducible refine itef_to ?_) | (with_reducible refine ite_to (fun _ => ?_) (fun _ => ?_))) <;> try (exfalso; omega)
      rw [List.drop_of_length_le (by omega)]; rfl
    | succ n ih =>
      intro t q hn h0 h1 q0 q1
      have ha := hw _ (ix_mem h0 (by omega : t < w.length))
      have hr := h.rowlen q0 q1
      have hs := h.stpb q0 q1 ha.1 ha.2
      rw [det_After_L2_eq]; unfold det_After_L2_B
      (try dsimp only); (repeat' first | (with_reducible refine G_to ?_ ?_; focus (first | omega | (unfold fits; omega) | (unfold room; (try simp only [List.length_append, List.length_cons, List.length_nil]); omega))) | (with_reducible refine both_to ?_ ?_) | (with_reducible refine itet_to ?_) | (with_reducible refine itef_to ?_) | (with_reducible refine ite_to (fun _ => ?_) (fun _ => ?_))) <;> try (exfalso; omega)
      rw [ix_drop h0 (by omega)]
      exact ih (t + 1) _ (by omega) (by omega) (by omega) hs.1 hs.2
  exact key _ 0 q rfl (by omega) (by omega) q0 q1

theorem r3_After_spec {d : Int × Int × List (List Int) × List Int × Unit} {L : Int} (h : Tab L d.2.2.1) {w : List Int} (hw : ∀ a ∈ w, 0 ≤ a ∧ a < L) (hl : w.length ≤ 1000000) {q : Int} (q0 : 0 ≤ q) (q1 : q < d.2.2.1.length) : r3_After d q w = some (wlk d.2.2.1 q w) := by
  have key : ∀ (n : Nat) (t q : Int), (w.length - t).toNat = n → 0 ≤ t → t ≤ w.length → 0 ≤ q → q < d.2.2.1.length → r3_After_L2 d w q t = some (wlk d.2.2.1 q (w.drop t.toNat)) := by
    intro n
    induction n with
    | zero =>
      intro t q hn h0 h1 q0 q1
      rw [r3_After_L2_eq]; unfold r3_After_L2_B
      (try dsimp only); (repeat' first | (with_reducible refine G_to ?_ ?_; focus (first | omega | (unfold fits; omega) | (unfold room; (try simp only [List.length_append, List.length_cons, List.length_nil]); omega))) | (with_reducible refine both_to ?_ ?_) | (with_reducible refine itet_to ?_) | (with_reducible refine itef_to ?_) | (with_reducible refine ite_to (fun _ => ?_) (fun _ => ?_))) <;> try (exfalso; omega)
      rw [List.drop_of_length_le (by omega)]; rfl
    | succ n ih =>
      intro t q hn h0 h1 q0 q1
      have ha := hw _ (ix_mem h0 (by omega : t < w.length))
      have hr := h.rowlen q0 q1
      have hs := h.stpb q0 q1 ha.1 ha.2
      rw [r3_After_L2_eq]; unfold r3_After_L2_B
      (try dsimp only); (repeat' first | (with_reducible refine G_to ?_ ?_; focus (first | omega | (unfold fits; omega) | (unfold room; (try simp only [List.length_append, List.length_cons, List.length_nil]); omega))) | (with_reducible refine both_to ?_ ?_) | (with_reducible refine itet_to ?_) | (with_reducible refine itef_to ?_) | (with_reducible refine ite_to (fun _ => ?_) (fun _ => ?_))) <;> try (exfalso; omega)
      rw [ix_drop h0 (by omega)]
      exact ih (t + 1) _ (by omega) (by omega) (by omega) hs.1 hs.2
  exact key _ 0 q rfl (by omega) (by omega) q0 q1

theorem mfind_none {α : Type} : ∀ {ks : List α} {x : α}, mfind ks x = none ↔ x ∉ ks
  | [], x => by simp [mfind]
  | y :: ys, x => by
    unfold mfind
    by_cases h : y = x
    · rw [if_pos h]; simp [h]
    · rw [if_neg h, Option.map_eq_none_iff, mfind_none]
      simp [Ne.symm h]
/-- A map that only marks: all its elements are one. -/
abbrev ones {α : Type} (ks : List α) : List Int := List.replicate ks.length 1
theorem mget_ones {α : Type} {ks : List α} {x : α} : (mget ks (ones ks) x 0 = 0) ↔ x ∉ ks := by
  unfold mget
  cases h : mfind ks x with
  | none => simp [mfind_none.1 h]
  | some j =>
    have hx : x ∈ ks := by
      refine Classical.byContradiction fun hn => ?_
      rw [mfind_none.2 hn] at h; cases h
    have := mfind_lt h
    simp [hx, this]
theorem mputK_new {α : Type} {ks : List α} {x : α} (h : x ∉ ks) : mputK ks x = ks ++ [x] := by
  unfold mputK; rw [mfind_none.2 h]
theorem mputV_new {α : Type} {ks : List α} {x : α} (h : x ∉ ks) : mputV ks (ones ks) x 1 = ones (ks ++ [x]) := by
  unfold mputV; rw [mfind_none.2 h]
  show List.replicate ks.length 1 ++ [1] = List.replicate (ks ++ [x]).length 1
  rw [List.length_append, List.length_singleton, List.replicate_succ']

theorem pigeon {α : Type} [DecidableEq α] : ∀ {l U : List α}, l.Nodup → (∀ x ∈ l, x ∈ U) → l.length ≤ U.length
  | [], _, _, _ => Nat.zero_le _
  | a :: l, U, hn, hs => by
    have ha := hs a (by simp)
    obtain ⟨h1, h2⟩ := List.nodup_cons.1 hn
    have := pigeon (U := U.erase a) h2 (fun x hx => (List.mem_erase_of_ne (by rintro rfl; exact h1 hx)).2 (hs x (by simp [hx])))
    rw [List.length_erase_of_mem ha] at this
    have hp : 0 < U.length := List.length_pos_of_mem ha
    rw [List.length_cons]; omega
theorem pigeon_int {l : List Int} {n : Nat} (h : l.Nodup) (hb : ∀ x ∈ l, 0 ≤ x ∧ x < n) : l.length ≤ n := by
  have := pigeon (U := (List.range n).map Int.ofNat) h (fun x hx => by
    have := hb x hx
    exact List.mem_map.2 ⟨x.toNat, List.mem_range.2 (by omega), by show ((x.toNat : Nat) : Int) = x; omega⟩)
  simpa using this

theorem mfind_mem {α : Type} {ks : List α} {x : α} (h : x ∈ ks) : ∃ j, mfind ks x = some j := by
  cases e : mfind ks x with
  | none => exact absurd h (mfind_none.1 e)
  | some j => exact ⟨j, rfl⟩
theorem mfind_hd {α : Type} (ks : List α) (x : α) : mfind (x :: ks) x = some 0 := by unfold mfind; rw [if_pos rfl]
theorem mfind_tl {α : Type} {ks : List α} {x y : α} (h : y ≠ x) : mfind (y :: ks) x = (mfind ks x).map (· + 1) := by
  rw [mfind, if_neg h]
theorem mfind_app {α : Type} : ∀ {ks : List α} {x : α} {j : Nat} (l : List α), mfind ks x = some j → mfind (ks ++ l) x = some j
  | [], _, _, _, h => by cases h
  | y :: ks, x, j, l, h => by
    rw [List.cons_append]
    by_cases e : y = x
    · subst e; rw [mfind_hd] at h ⊢; exact h
    · rw [mfind_tl e] at h ⊢
      cases hm : mfind ks x with
      | none => rw [hm] at h; cases h
      | some i => rw [hm] at h; rw [mfind_app l hm]; exact h
theorem mfind_new {α : Type} : ∀ {ks : List α} {x : α}, x ∉ ks → mfind (ks ++ [x]) x = some ks.length
  | [], x, _ => mfind_hd _ _
  | y :: ks, x, h => by
    have hy : y ≠ x := by rintro rfl; exact h (by simp)
    rw [List.cons_append, mfind_tl hy, mfind_new (fun hh => h (by simp [hh]))]; rfl
theorem mfind_at {α : Type} : ∀ {ks : List α} {x : α} {k : Nat}, ks[k]? = some x → (∀ j, j < k → ks[j]? ≠ some x) → mfind ks x = some k
  | [], _, _, h, _ => by simp at h
  | y :: ks, x, k, h, hf => by
    cases k with
    | zero =>
      have : y = x := by simpa using h
      subst this; exact mfind_hd _ _
    | succ k =>
      have hy : y ≠ x := by have := hf 0 (by omega); simpa using this
      rw [mfind_tl hy, mfind_at (k := k) (by simpa using h) (fun j hj => by have := hf (j + 1) (by omega); simpa using this)]; rfl
theorem mfind_inj {α : Type} {ks : List α} {x y : α} {j : Nat} (h : mfind ks x = some j) (k : mfind ks y = some j) : x = y := by
  have := mfind_get h; rw [mfind_get k] at this; injection this with this; exact this.symm
theorem mfind_nodup {α : Type} {ks : List α} (hn : ks.Nodup) {j : Nat} (hj : j < ks.length) : mfind ks ks[j] = some j :=
  mfind_at (by simp) fun i hi e => by
    have hi' : i < ks.length := by omega
    rw [List.getElem?_eq_getElem hi'] at e
    exact List.pairwise_iff_getElem.1 hn i j hi' hj hi (Option.some.inj e)
theorem mfind_map {α β : Type} (f : α → β) : ∀ {ks : List α} {x : α}, (∀ y ∈ ks, f y = f x → y = x) → mfind (ks.map f) (f x) = mfind ks x
  | [], _, _ => rfl
  | y :: ks, x, h => by
    have ih := mfind_map f (ks := ks) (x := x) (fun z hz => h z (by simp [hz]))
    rw [List.map_cons]
    by_cases e : y = x
    · subst e; rw [mfind_hd, mfind_hd]
    · rw [mfind_tl e, mfind_tl (fun hh => e (h y (by simp) hh)), ih]
/-- 0, 1, 2, .. -/
def iota (n : Nat) : List Int := (List.range n).map fun j : Nat => (j : Int)
theorem iota_len (n : Nat) : (iota n).length = n := by simp [iota]
theorem iota_succ (n : Nat) : iota (n + 1) = iota n ++ [(n : Int)] := by simp [iota, List.range_succ]
theorem mget_iota {α : Type} {ks : List α} {x : α} {j : Nat} (h : mfind ks x = some j) : mget ks (iota ks.length) x 0 = j := by
  have := mfind_lt h
  unfold mget; rw [h]
  simp [iota, this]
theorem mhas_iff {α : Type} {ks : List α} {x : α} : mhas ks x = true ↔ x ∈ ks := by
  unfold mhas
  cases e : mfind ks x with
  | none => simp [mfind_none.1 e]
  | some j =>
    have := mfind_get e
    simp [List.mem_of_getElem? this]
theorem mputV_iota {α : Type} {ks : List α} {x : α} (h : x ∉ ks) : mputV ks (iota ks.length) x ks.length = iota (ks ++ [x]).length := by
  unfold mputV; rw [mfind_none.2 h, List.length_append, List.length_singleton, iota_succ]
theorem cover_nodup {α : Type} [DecidableEq α] : ∀ {l U : List α}, U.Nodup → (∀ x ∈ U, x ∈ l) → l.length ≤ U.length → l.Nodup
  | [], _, _, _, _ => List.nodup_nil
  | a :: l, U, hU, hs, hl => by
    have ha : a ∉ l := fun ha => by
      have := pigeon (l := U) (U := l) hU (fun x hx => by
        rcases List.mem_cons.1 (hs x hx) with rfl | h
        · exact ha
        · exact h)
      rw [List.length_cons] at hl; omega
    refine List.nodup_cons.2 ⟨ha, ?_⟩
    refine cover_nodup (U := U.erase a) (hU.erase a) (fun x hx => ?_) ?_
    · have hne : x ≠ a := ((List.Nodup.mem_erase_iff hU).1 hx).1
      rcases List.mem_cons.1 (hs x (List.mem_of_mem_erase hx)) with h | h
      · exact absurd h hne
      · exact h
    · have : U.length - 1 ≤ (U.erase a).length := by
        by_cases h : a ∈ U
        · rw [List.length_erase_of_mem h]; omega
        · rw [List.erase_of_not_mem h]; omega
      rw [List.length_cons] at hl; omega

/-- The bytes of a list of small numbers. -/
def keyL (l : List Int) : List Int := l.flatMap fun x => [IntKind.wrap .u8 x, IntKind.wrap .u8 (ishr .i64 x 8)]
def keyB (l : List Int) : List UInt8 := bstr (keyL l)
theorem wrap_u8 (x : Int) : IntKind.wrap .u8 x = x % 256 := by
  unfold IntKind.wrap
  simp [IntKind.bits, IntKind.signed]
theorem keyB_cons (x : Int) (l : List Int) : keyB (x :: l) = UInt8.ofNat (x % 256).toNat :: UInt8.ofNat (ishr .i64 x 8 % 256).toNat :: keyB l := by
  unfold keyB keyL bstr
  simp [wrap_u8]
theorem u8_inj {a b : Int} (h : UInt8.ofNat (a % 256).toNat = UInt8.ofNat (b % 256).toNat) : a % 256 = b % 256 := by
  have := congrArg UInt8.toNat h
  simp only [UInt8.toNat_ofNat'] at this
  omega
theorem keyB_inj : ∀ {l k : List Int}, (∀ x ∈ l, 0 ≤ x ∧ x < 65536) → (∀ x ∈ k, 0 ≤ x ∧ x < 65536) → keyB l = keyB k → l = k
  | [], [], _, _, _ => rfl
  | [], y :: k, _, _, h => by rw [keyB_cons] at h; cases h
  | x :: l, [], _, _, h => by rw [keyB_cons] at h; cases h
  | x :: l, y :: k, hl, hk, h => by
    rw [keyB_cons, keyB_cons] at h
    injection h with h1 h
    injection h with h2 h
    have hx := hl x (by simp)
    have hy := hk y (by simp)
    have e1 := u8_inj h1
    have e2 := u8_inj h2
    obtain ⟨a, rfl⟩ : ∃ a : Nat, x = a := ⟨x.toNat, by omega⟩
    obtain ⟨b, rfl⟩ : ∃ b : Nat, y = b := ⟨y.toNat, by omega⟩
    rw [show (8 : Int) = ((8 : Nat) : Int) from rfl, ishr_nat (by omega), ishr_nat (by omega), Nat.shiftRight_eq_div_pow, Nat.shiftRight_eq_div_pow] at e2
    have : a = b := by omega
    rw [this, keyB_inj (fun z hz => hl z (by simp [hz])) (fun z hz => hk z (by simp [hz])) h]
theorem keyL_len (l : List Int) : (keyL l).length = 2 * l.length := by
  induction l with
  | nil => rfl
  | cons x l ih => unfold keyL at *; rw [List.flatMap_cons, List.length_append, ih]; simp; omega
/-- A row of so many numbers. -/
def mkR (n : Nat) (g : Int → Int) : List Int := (List.range n).map fun a : Nat => g a
theorem mkR_len (n : Nat) (g : Int → Int) : (mkR n g).length = n := by simp [mkR]
theorem mkR_ix {n : Nat} {g : Int → Int} {a : Int} (h0 : 0 ≤ a) (h1 : a < n) : ix (mkR n g) a = g a := by
  rw [ix_eq h0 (by rw [mkR_len]; exact h1)]
  simp [mkR, Int.toNat_of_nonneg h0]
theorem mkR_of {n : Nat} {g : Int → Int} {l : List Int} (hl : l.length = n) (h : ∀ a : Int, 0 ≤ a → a < n → ix l a = g a) : l = mkR n g :=
  ix_ext (by rw [mkR_len, hl]) fun j j0 j1 => by rw [mkR_ix j0 (by omega), h j j0 (by omega)]

abbrev Dt := Int × Int × (List (List Int)) × (List Int) × Unit
def DBig (mx : Int) (d : Dt) : Prop := d.2.2.1.length < 1 ∨ mx < d.2.2.1.length
def DRag (d : Dt) : Prop := ¬ (d.2.2.2.1.length : Int) = d.2.2.1.length ∨ ∃ r ∈ d.2.2.1, ¬ (r.length : Int) = d.1
def DOut (mb : Int → Prop) (d : Dt) : Prop := (d.2.1 < 0 ∨ (d.2.2.1.length : Int) ≤ d.2.1) ∨ (∃ r ∈ d.2.2.1, ∃ q ∈ r, q < 0 ∨ (d.2.2.1.length : Int) ≤ q) ∨ (∃ s ∈ d.2.2.2.1, mb s)
open Classical in
/-- What is wrong with an automaton of at most so many states, with such marks. -/
noncomputable def detE (mx : Int) (mb : Int → Prop) (d : Dt) : Int := if d.1 < 1 ∨ 4 < d.1 then 2 else if DBig mx d then 1 else if DRag d then 3 else if DOut mb d then 2 else 0
structure DOk (mx : Int) (mb : Int → Prop) (d : Dt) : Prop where
  let1 : 1 ≤ d.1 ∧ d.1 ≤ 4
  n1 : 1 ≤ d.2.2.1.length ∧ (d.2.2.1.length : Int) ≤ mx
  st : 0 ≤ d.2.1 ∧ d.2.1 < d.2.2.1.length
  mkl : (d.2.2.2.1.length : Int) = d.2.2.1.length
  mok : ∀ s ∈ d.2.2.2.1, ¬ mb s
  tab : Tab d.1 d.2.2.1
theorem detE_zero {mx : Int} {mb : Int → Prop} {d : Dt} (h : detE mx mb d = 0) : DOk mx mb d := by
  unfold detE at h
  by_cases c1 : d.1 < 1 ∨ 4 < d.1
  · rw [if_pos c1] at h; omega
  rw [if_neg c1] at h
  by_cases c2 : DBig mx d
  · rw [if_pos c2] at h; omega
  rw [if_neg c2] at h
  by_cases c3 : DRag d
  · rw [if_pos c3] at h; omega
  rw [if_neg c3] at h
  by_cases c4 : DOut mb d
  · rw [if_pos c4] at h; omega
  unfold DBig at c2; unfold DRag at c3; unfold DOut at c4
  refine ⟨by omega, by omega, ?_, ?_, fun s hs hm => c4 (.inr (.inr ⟨s, hs, hm⟩)), fun r hr => ?_, fun r hr q hq => ?_⟩
  · have : ¬ (d.2.1 < 0 ∨ (d.2.2.1.length : Int) ≤ d.2.1) := fun h => c4 (.inl h)
    omega
  · exact Decidable.not_not.1 fun h => c3 (.inl h)
  · by_cases e : (r.length : Int) = d.1
    · exact e
    · exact absurd (.inr ⟨r, hr, e⟩) c3
  · have : ¬ (q < 0 ∨ (d.2.2.1.length : Int) ≤ q) := fun h => c4 (.inr (.inl ⟨r, hr, q, hq, h⟩))
    omega
theorem detE_of {mx : Int} {mb : Int → Prop} {d : Dt} (h : DOk mx mb d) : detE mx mb d = 0 := by
  have h1 := h.let1
  have h2 := h.n1
  have h3 := h.st
  have h4 := h.mkl
  unfold detE
  rw [if_neg (by omega), if_neg (by unfold DBig; omega), if_neg, if_neg]
  · rintro (hh | ⟨r, hr, q, hq, hh⟩ | ⟨s, hs, hh⟩)
    · omega
    · have := h.tab.to r hr q hq
      omega
    · exact h.mok s hs hh
  · rintro (hh | ⟨r, hr, hh⟩)
    · exact hh h4
    · exact hh (h.tab.row r hr)

section
variable {d : Dt} {mb : Int → Prop}
def sigC (d : Dt) (c : List Int) (q : Int) : Int × List Int := (ix c q, (ix d.2.2.1 q).map (ix c))
def ksC (d : Dt) (c : List Int) : Nat → List (Int × List Int)
  | 0 => []
  | t + 1 => if sigC d c (t : Int) ∈ ksC d c t then ksC d c t else ksC d c t ++ [sigC d c (t : Int)]
noncomputable def idxC (d : Dt) (c : List Int) (q : Nat) : Nat := (mfind (ksC d c (q + 1)) (sigC d c (q : Int))).getD 0
noncomputable def rfC (d : Dt) (c : List Int) : List Int := mkR d.2.2.1.length fun q => (idxC d c q.toNat : Int)
theorem ksC_succ (c : List Int) (t : Nat) : ksC d c (t + 1) = if sigC d c (t : Int) ∈ ksC d c t then ksC d c t else ksC d c t ++ [sigC d c (t : Int)] := rfl
theorem ksC_pre (c : List Int) : ∀ t, ∃ x, ksC d c (t + 1) = ksC d c t ++ x := fun t => by
  rw [ksC_succ]
  by_cases h : sigC d c (t : Int) ∈ ksC d c t
  · exact ⟨[], by rw [if_pos h, List.append_nil]⟩
  · exact ⟨_, by rw [if_neg h]⟩
theorem ksC_mem (c : List Int) : ∀ t q : Nat, q < t → sigC d c (q : Int) ∈ ksC d c t
  | t + 1, q, h => by
    rw [ksC_succ]
    by_cases e : q = t
    · subst e
      by_cases h : sigC d c (q : Int) ∈ ksC d c q
      · rw [if_pos h]; exact h
      · rw [if_neg h]; simp
    · have := ksC_mem c t q (by omega)
      by_cases h : sigC d c (t : Int) ∈ ksC d c t
      · rw [if_pos h]; exact this
      · rw [if_neg h]; simp [this]
theorem ksC_of (c : List Int) : ∀ (t : Nat), ∀ k ∈ ksC d c t, ∃ q : Nat, q < t ∧ k = sigC d c (q : Int)
  | 0, k, h => by cases h
  | t + 1, k, h => by
    rw [ksC_succ] at h
    by_cases e : sigC d c (t : Int) ∈ ksC d c t
    · rw [if_pos e] at h
      obtain ⟨q, h1, h2⟩ := ksC_of c t k h
      exact ⟨q, by omega, h2⟩
    · rw [if_neg e] at h
      rcases List.mem_append.1 h with h | h
      · obtain ⟨q, h1, h2⟩ := ksC_of c t k h
        exact ⟨q, by omega, h2⟩
      · exact ⟨t, by omega, List.mem_singleton.1 h⟩
theorem ksC_nodup (c : List Int) : ∀ t, (ksC d c t).Nodup
  | 0 => List.nodup_nil
  | t + 1 => by
    rw [ksC_succ]
    by_cases h : sigC d c (t : Int) ∈ ksC d c t
    · rw [if_pos h]; exact ksC_nodup c t
    · rw [if_neg h, List.nodup_append]
      exact ⟨ksC_nodup c t, by simp, fun a ha b hb => by rw [List.mem_singleton.1 hb]; rintro rfl; exact h ha⟩
theorem ksC_le (c : List Int) : ∀ t, (ksC d c t).length ≤ t
  | 0 => Nat.le_refl _
  | t + 1 => by
    have := ksC_le c t
    rw [ksC_succ]
    split
    · omega
    · rw [List.length_append, List.length_singleton]; omega
theorem idxC_at (c : List Int) (q : Nat) : ∀ t, q < t → mfind (ksC d c t) (sigC d c (q : Int)) = some (idxC d c q)
  | t + 1, h => by
    by_cases e : q = t
    · subst e
      obtain ⟨j, hj⟩ := mfind_mem (ksC_mem (d := d) c (q + 1) q (by omega))
      unfold idxC; rw [hj]; rfl
    · obtain ⟨x, hx⟩ := ksC_pre (d := d) c t
      rw [hx]; exact mfind_app x (idxC_at c q t (by omega))
theorem idxC_iff (c : List Int) {q r : Nat} : idxC d c q = idxC d c r ↔ sigC d c (q : Int) = sigC d c (r : Int) := by
  have h1 := idxC_at (d := d) c q (max q r + 1) (by omega)
  have h2 := idxC_at (d := d) c r (max q r + 1) (by omega)
  constructor
  · intro e; rw [← e] at h2; exact mfind_inj h1 h2
  · intro e; rw [e, h2] at h1; exact (Option.some.inj h1).symm
theorem idxC_lt (c : List Int) {q t : Nat} (h : q < t) : idxC d c q < (ksC d c t).length := mfind_lt (idxC_at c q t h)
theorem idxC_sur (c : List Int) {t j : Nat} (h : j < (ksC d c t).length) : ∃ q, q < t ∧ idxC d c q = j := by
  obtain ⟨q, hq, e⟩ := ksC_of c t _ (List.getElem_mem h)
  refine ⟨q, hq, ?_⟩
  have h1 := idxC_at (d := d) c q t hq
  rw [← e, mfind_nodup (ksC_nodup c t) h] at h1
  exact (Option.some.inj h1).symm
/-- Classes so far: small numbers. -/
structure ClsOk (d : Dt) (c : List Int) : Prop where
  len : c.length = d.2.2.1.length
  b : ∀ q : Int, 0 ≤ q → q < c.length → 0 ≤ ix c q ∧ ix c q < 65536
theorem rfC_len (c : List Int) : (rfC d c).length = d.2.2.1.length := mkR_len _ _
theorem rfC_ix (c : List Int) {q : Int} (h0 : 0 ≤ q) (h1 : q < d.2.2.1.length) : ix (rfC d c) q = idxC d c q.toNat := mkR_ix h0 h1
theorem sigC_len (h : DOk 3000 mb d) (c : List Int) {q : Int} (h0 : 0 ≤ q) (h1 : q < d.2.2.1.length) : ((sigC d c q).2.length : Int) = d.1 := by
  unfold sigC
  rw [List.length_map]; exact h.tab.rowlen h0 h1
theorem sigC_b (h : DOk 3000 mb d) {c : List Int} (hc : ClsOk d c) {q : Int} (h0 : 0 ≤ q) (h1 : q < d.2.2.1.length) : ∀ x ∈ (sigC d c q).2, 0 ≤ x ∧ x < 65536 := by
  intro x hx
  unfold sigC at hx
  obtain ⟨y, hy, rfl⟩ := List.mem_map.1 hx
  have := h.tab.to _ (ix_mem h0 h1) y hy
  exact hc.b y this.1 (by rw [hc.len]; exact this.2)
theorem sigC_row (h : DOk 3000 mb d) (c : List Int) {q a : Int} (h0 : 0 ≤ q) (h1 : q < d.2.2.1.length) (a0 : 0 ≤ a) (a1 : a < d.1) : ix (sigC d c q).2 a = ix c (ix (ix d.2.2.1 q) a) := by
  have := h.tab.rowlen h0 h1
  unfold sigC
  exact ix_map _ a0 (by omega)
theorem sigC_eq (h : DOk 3000 mb d) (c : List Int) {p q : Int} (p0 : 0 ≤ p) (p1 : p < d.2.2.1.length) (q0 : 0 ≤ q) (q1 : q < d.2.2.1.length) : sigC d c p = sigC d c q ↔ ix c p = ix c q ∧ ∀ a : Int, 0 ≤ a → a < d.1 → ix c (ix (ix d.2.2.1 p) a) = ix c (ix (ix d.2.2.1 q) a) := by
  have l1 := sigC_len h c p0 p1
  have l2 := sigC_len h c q0 q1
  constructor
  · intro e
    refine ⟨congrArg Prod.fst e, fun a a0 a1 => ?_⟩
    rw [← sigC_row h c p0 p1 a0 a1, ← sigC_row h c q0 q1 a0 a1, e]
  · rintro ⟨e1, e2⟩
    refine Prod.ext e1 (ix_ext (by omega) fun a a0 a1 => ?_)
    rw [sigC_row h c p0 p1 a0 (by omega), sigC_row h c q0 q1 a0 (by omega)]
    exact e2 a a0 (by omega)
def encK (k : Int × List Int) : Int × List UInt8 × Unit := (k.1, keyB k.2, ())
theorem encK_inj {k l : Int × List Int} (hk : ∀ x ∈ k.2, 0 ≤ x ∧ x < 65536) (hl : ∀ x ∈ l.2, 0 ≤ x ∧ x < 65536) (e : encK k = encK l) : k = l := by
  unfold encK at e
  injection e with e1 e2
  injection e2 with e2 e3
  exact Prod.ext e1 (keyB_inj hk hl e2)
/-- The program's reading of one state. -/
theorem det_Classes_row (h : DOk 3000 mb d) {c : List Int} (hc : ClsOk d c) {t : Nat} (ht : t < d.2.2.1.length) {number : List (Int × List UInt8 × Unit)} {number_1 next' : List Int} {r6} :
    det_Classes_L10 d c t number number_1 next' r6 0 [] = if mhas number (encK (sigC d c t)) = true then det_Classes_J17 c t next' r6 (keyL (sigC d c t).2) number number_1
      else det_Classes_J17 c t next' r6 (keyL (sigC d c t).2) (mputK number (encK (sigC d c t))) (mputV number number_1 (encK (sigC d c t)) (number.length : Int)) := by
  have hrl := h.tab.rowlen (q := (t : Int)) (by omega) (by omega)
  have hlt := h.let1
  have hcl := hc.len
  have key : ∀ (n : Nat) (a : Int), ((ix d.2.2.1 (t : Int)).length - a).toNat = n → 0 ≤ a → a ≤ (ix d.2.2.1 (t : Int)).length →
      det_Classes_L10 d c t number number_1 next' r6 a (keyL ((sigC d c t).2.take a.toNat)) = det_Classes_L10 d c t number number_1 next' r6 (ix d.2.2.1 (t : Int)).length (keyL (sigC d c t).2) := by
    intro n
    induction n with
    | zero =>
      intro a hn a0 a1
      obtain rfl : a = (ix d.2.2.1 (t : Int)).length := by omega
      rw [List.take_of_length_le (by unfold sigC; rw [List.length_map]; omega)]
    | succ n ih =>
      intro a hn a0 a1
      have hst := h.tab.stpb (q := (t : Int)) (a := a) (by omega) (by omega) a0 (by omega)
      unfold stp at hst
      rw [← ih (a + 1) (by omega) (by omega) (by omega)]
      conv => lhs; rw [det_Classes_L10_eq]; unfold det_Classes_L10_B
      have hk := keyL_len ((sigC d c t).2.take a.toNat)
      rw [List.length_take] at hk
      have hsl := sigC_len h c (q := (t : Int)) (by omega) (by omega)
      rw [if_pos (by simp; omega)]
      refine G_to (by omega) (G_to (by omega) (G_to (by omega) (G_to (by omega) (G_to (by omega) (G_to (by omega) (G_to (by unfold room; simp; omega) (G_to (by unfold fits; omega) ?_)))))))
      congr 1
      rw [ix_take a0 (by omega), sigC_row h c (q := (t : Int)) (by omega) (by omega) a0 (by omega)]
      unfold keyL
      rw [List.flatMap_append]; rfl
  refine (key _ 0 rfl (by omega) (by omega)).trans ?_
  rw [det_Classes_L10_eq]; unfold det_Classes_L10_B
  rw [if_neg (by simp)]
  refine G_to (by omega) (G_to (by omega) ?_)
  rw [show (ix c (t : Int), bstr (keyL (sigC d c t).2), ()) = encK (sigC d c t) from rfl]
  by_cases c1 : mhas number (encK (sigC d c t)) = true
  · rw [if_neg (by simp [c1]), if_pos c1]
  · rw [if_pos (by simpa using c1), if_neg c1]
theorem det_Classes_pass (h : DOk 3000 mb d) {c : List Int} (hc : ClsOk d c) {count : Int} {r3} : ∀ (n t : Nat) (next' : List Int), d.2.2.1.length - t = n → t ≤ d.2.2.1.length → next'.length = d.2.2.1.length → (∀ j : Int, 0 ≤ j → j < t → ix next' j = ix (rfC d c) j) →
    det_Classes_L6 d count c r3 t ((ksC d c t).map encK) (iota (ksC d c t).length) next' = if ((ksC d c d.2.2.1.length).length : Int) = count then some (rfC d c) else r3 ((ksC d c d.2.2.1.length).length : Int) (rfC d c) := by
  have hn := h.n1
  intro n
  induction n with
  | zero =>
    intro t next' hn2 ht hl hj
    obtain rfl : t = d.2.2.1.length := by omega
    have : next' = rfC d c := ix_ext (by rw [rfC_len]; exact hl) fun j j0 j1 => hj j j0 (by omega)
    rw [det_Classes_L6_eq]; unfold det_Classes_L6_B
    rw [if_neg (by simp), List.length_map, this]
    by_cases e : ((ksC d c d.2.2.1.length).length : Int) = count
    · rw [if_pos (decide_eq_true e), if_pos e]
    · rw [if_neg (by simpa using e), if_neg e]
  | succ n ih =>
    intro t next' hn2 ht hl hj
    rw [det_Classes_L6_eq]; unfold det_Classes_L6_B
    rw [if_pos (by simp; omega)]
    refine G_to (by omega) ?_
    rw [det_Classes_row h hc (by omega)]
    have inj : ∀ y ∈ ksC d c t, encK y = encK (sigC d c t) → y = sigC d c t := fun y hy e => by
      obtain ⟨q, hq, rfl⟩ := ksC_of c t y hy
      exact encK_inj (sigC_b h hc (by omega) (by omega)) (sigC_b h hc (by omega) (by omega)) e
    have hmem : encK (sigC d c t) ∈ (ksC d c t).map encK ↔ sigC d c t ∈ ksC d c t := by
      rw [List.mem_map]
      exact ⟨fun ⟨y, hy, e⟩ => inj y hy e ▸ hy, fun hy => ⟨_, hy, rfl⟩⟩
    have hat := idxC_at (d := d) c t (t + 1) (by omega)
    have inj' : ∀ y ∈ ksC d c (t + 1), encK y = encK (sigC d c t) → y = sigC d c t := fun y hy e => by
      obtain ⟨q, hq, rfl⟩ := ksC_of c (t + 1) y hy
      exact encK_inj (sigC_b h hc (by omega) (by omega)) (sigC_b h hc (by omega) (by omega)) e
    have hget : mget ((ksC d c (t + 1)).map encK) (iota (ksC d c (t + 1)).length) (encK (sigC d c t)) 0 = idxC d c t := by
      have h1 : mfind ((ksC d c (t + 1)).map encK) (encK (sigC d c t)) = some (idxC d c t) := by rw [mfind_map encK inj', hat]
      have := mget_iota h1
      rwa [List.length_map] at this
    have fin : det_Classes_J17 c t next' (det_Classes_L6 d count c r3) (keyL (sigC d c t).2) ((ksC d c (t + 1)).map encK) (iota (ksC d c (t + 1)).length) = if ((ksC d c d.2.2.1.length).length : Int) = count then some (rfC d c) else r3 ((ksC d c d.2.2.1.length).length : Int) (rfC d c) := by
      unfold det_Classes_J17
      refine G_to (by omega) (G_to (by omega) (G_to (by unfold fits; omega) ?_))
      rw [show (ix c (t : Int), bstr (keyL (sigC d c t).2), ()) = encK (sigC d c t) from rfl, hget]
      refine ih (t + 1) _ (by omega) (by omega) (by rw [List.length_set]; exact hl) (fun j j0 j1 => ?_)
      by_cases e : j = t
      · subst e
        rw [ix_set_same j0 (by omega), rfC_ix c j0 (by omega)]; simp
      · rw [ix_set_ne (by omega) j0 (Ne.symm e)]; exact hj j j0 (by omega)
    by_cases e : sigC d c t ∈ ksC d c t
    · rw [if_pos (mhas_iff.2 (hmem.2 e))]
      rw [ksC_succ, if_pos e] at fin
      exact fin
    · have hne := fun hh => e (hmem.1 hh)
      rw [if_neg (fun hh => hne (mhas_iff.1 hh)), mputK_new hne]
      have hv := mputV_iota hne
      rw [List.length_map] at hv
      rw [List.length_map, hv]
      rw [ksC_succ, if_neg e] at fin
      rw [List.map_append] at fin
      rw [List.length_append, List.length_map]
      rw [List.length_append] at fin
      exact fin
/-- The second one's: is it alike? -/
theorem r3_Classes_L14_spec (h : DOk 3000 mb d) {c : List Int} (hc : ClsOk d c) {n q : Int} {next' first : List Int} {r7 k r10} (q0 : 0 ≤ q) (q1 : q < d.2.2.1.length) (p0 : 0 ≤ ix first k) (p1 : ix first k < d.2.2.1.length) (hk : 0 ≤ k ∧ k ≤ 100000) : ∀ (f : Nat) (same : Bool) (a : Int), (d.1 - a).toNat = f → 0 ≤ a → a ≤ d.1 →
    (same = true ↔ ix c (ix first k) = ix c q ∧ ∀ b : Int, 0 ≤ b → b < a → ix c (ix (ix d.2.2.1 (ix first k)) b) = ix c (ix (ix d.2.2.1 q) b)) ∨ (same = false ∧ sigC d c (ix first k) ≠ sigC d c q) →
    r3_Classes_L14 d c n q next' first r7 k r10 same a = if sigC d c (ix first k) = sigC d c q then r3_Classes_J18 n q next' first r7 k else r10 (k + 1) := by
  have hlt := h.let1
  have hcl := hc.len
  have bad : ∀ a : Int, a ≤ d.1 → sigC d c (ix first k) ≠ sigC d c q → r3_Classes_L14 d c n q next' first r7 k r10 false a = if sigC d c (ix first k) = sigC d c q then r3_Classes_J18 n q next' first r7 k else r10 (k + 1) := fun a _ hne => by
    rw [if_neg hne, r3_Classes_L14_eq]; unfold r3_Classes_L14_B r3_Classes_J15
    simp only [Bool.false_eq_true, if_false, ite_self]
    exact G_to (by unfold fits; omega) rfl
  intro f
  induction f with
  | zero =>
    intro same a hf a0 a1 hs
    obtain rfl : a = d.1 := by omega
    rcases hs with hs | ⟨rfl, hs⟩
    · rw [← sigC_eq h c p0 p1 q0 q1] at hs
      cases same with
      | false => exact bad _ (by omega) (fun e => by have := hs.2 e; cases this)
      | true =>
        rw [if_pos (hs.1 rfl), r3_Classes_L14_eq]; unfold r3_Classes_L14_B r3_Classes_J15
        rw [if_neg (by simp), if_pos rfl]
    · exact bad _ (by omega) hs
  | succ f ih =>
    intro same a hf a0 a1 hs
    rcases hs with hs | ⟨rfl, hs⟩
    · cases same with
      | false =>
        refine bad _ a1 (fun e => ?_)
        rw [sigC_eq h c p0 p1 q0 q1] at e
        have := hs.2 ⟨e.1, fun b b0 b1 => e.2 b b0 (by omega)⟩
        cases this
      | true =>
        have hp := h.tab.rowlen p0 p1
        have hq := h.tab.rowlen q0 q1
        have sp := h.tab.stpb p0 p1 a0 (by omega)
        have sq := h.tab.stpb q0 q1 a0 (by omega)
        unfold stp at sp sq
        rw [r3_Classes_L14_eq]; unfold r3_Classes_L14_B r3_Classes_J15
        rw [if_pos (by simp; omega), if_pos rfl]
        refine G_to (by omega) (G_to (by omega) (G_to (by omega) (G_to (by omega) (G_to (by omega) (G_to (by omega) (G_to (by omega) (G_to (by omega) (G_to (by unfold fits; omega) ?_))))))))
        refine ih _ (a + 1) (by omega) (by omega) (by omega) (.inl ?_)
        rw [decide_eq_true_iff]
        have hs' := hs.1 rfl
        constructor
        · intro e
          refine ⟨hs'.1, fun b b0 b1 => ?_⟩
          by_cases e2 : b = a
          · rw [e2]; exact e
          · exact hs'.2 b b0 (by omega)
        · intro e; exact e.2 a a0 (by omega)
    · exact bad _ a1 hs
theorem r3_Classes_search (h : DOk 3000 mb d) {c : List Int} (hc : ClsOk d c) {t : Nat} (ht : t < d.2.2.1.length) {next' first : List Int} {r7} (hl : next'.length = d.2.2.1.length) (hf : first.map (sigC d c) = ksC d c t) (hb : ∀ p : Int, p ∈ first → 0 ≤ p ∧ p < d.2.2.1.length) :
    ∃ first' : List Int, first'.map (sigC d c) = ksC d c (t + 1) ∧ (∀ p : Int, p ∈ first' → 0 ≤ p ∧ p < d.2.2.1.length) ∧ r3_Classes_L10 d c (first.length : Int) t next' first r7 0 = r7 (first'.length : Int) ((t : Int) + 1) (next'.set t (idxC d c t : Int)) first' := by
  have hn := h.n1
  have hfl : first.length = (ksC d c t).length := by rw [← hf, List.length_map]
  have hle := ksC_le (d := d) c t
  have hcl := hc.len
  have key : ∀ (f : Nat) (k : Int), (first.length - k).toNat = f → 0 ≤ k → k ≤ first.length → (∀ j : Int, 0 ≤ j → j < k → sigC d c (ix first j) ≠ sigC d c t) →
      ∃ first' : List Int, first'.map (sigC d c) = ksC d c (t + 1) ∧ (∀ p : Int, p ∈ first' → 0 ≤ p ∧ p < d.2.2.1.length) ∧ r3_Classes_L10 d c (first.length : Int) t next' first r7 k = r7 (first'.length : Int) ((t : Int) + 1) (next'.set t (idxC d c t : Int)) first' := by
    intro f
    induction f with
    | zero =>
      intro k hk k0 k1 hj
      obtain rfl : k = first.length := by omega
      have hnot : sigC d c t ∉ ksC d c t := fun hm => by
        rw [← hf] at hm
        obtain ⟨p, hp, e⟩ := List.mem_map.1 hm
        obtain ⟨j, j0, j1, rfl⟩ := (ex_ix (P := fun x => x = p)).1 ⟨p, hp, rfl⟩
        exact hj j j0 j1 e
      have hidx : idxC d c t = first.length := by
        have h1 := idxC_at (d := d) c t (t + 1) (by omega)
        rw [ksC_succ, if_neg hnot, mfind_new hnot] at h1
        rw [hfl]; exact (Option.some.inj h1).symm
      refine ⟨first ++ [(t : Int)], by rw [List.map_append, hf, ksC_succ, if_neg hnot]; rfl, fun p hp => (List.mem_append.1 hp).elim (hb p) (fun e => by rw [List.mem_singleton.1 e]; omega), ?_⟩
      rw [r3_Classes_L10_eq]; unfold r3_Classes_L10_B r3_Classes_J18 r3_Classes_J21
      rw [if_neg (by simp), if_pos (by simp), hidx]
      refine G_to (by unfold room; simp; omega) (G_to (by unfold fits; omega) (G_to (by omega) (G_to (by omega) (G_to (by unfold fits; omega) ?_))))
      rw [List.length_append, List.length_singleton]; rfl
    | succ f ih =>
      intro k hk k0 k1 hj
      have hp := hb _ (ix_mem k0 (by omega : k < first.length))
      rw [r3_Classes_L10_eq]; unfold r3_Classes_L10_B
      rw [if_pos (by simp; omega)]
      have hL := r3_Classes_L14_spec (n := (first.length : Int)) (next' := next') (first := first) (r7 := r7) (k := k) (r10 := r3_Classes_L10 d c (first.length : Int) t next' first r7) h hc (q := (t : Int)) (by omega) (by omega) hp.1 hp.2 (by omega) _ (decide (ix c (ix first k) = ix c (t : Int))) 0 rfl (by omega) (by have := h.let1; omega) (.inl (by
        rw [decide_eq_true_iff]
        exact ⟨fun e => ⟨e, fun b b0 b1 => by omega⟩, fun e => e.1⟩))
      have hG : ∀ x : Option (List Int), G (0 ≤ k ∧ k < (first.length : Int)) (G (k.toNat < first.length) (G (0 ≤ ix first k ∧ ix first k < (c.length : Int)) (G ((ix first k).toNat < c.length) (G (0 ≤ (t : Int) ∧ (t : Int) < (c.length : Int)) (G (((t : Int)).toNat < c.length) x))))) = x := fun x =>
        G_to (by omega) (G_to (by omega) (G_to (by omega) (G_to (by omega) (G_to (by omega) (G_to (by omega) rfl)))))
      rw [hG, hL]
      by_cases e : sigC d c (ix first k) = sigC d c t
      · rw [if_pos e]
        have hget : (ksC d c t)[k.toNat]? = some (sigC d c t) := by
          rw [← hf, List.getElem?_map, ix_some k0 (by omega), Option.map_some, e]
        have hin : sigC d c t ∈ ksC d c t := List.mem_of_getElem? hget
        have hidx : (idxC d c t : Int) = k := by
          have h1 := idxC_at (d := d) c t (t + 1) (by omega)
          rw [ksC_succ, if_pos hin, mfind_at hget (fun j hj2 e2 => by
            have h3 := hj (j : Int) (by omega) (by omega)
            rw [← hf, List.getElem?_map, ← Int.toNat_natCast j, ix_some (by omega) (by omega), Option.map_some] at e2
            exact h3 (Option.some.inj e2))] at h1
          have := Option.some.inj h1
          omega
        refine ⟨first, by rw [hf, ksC_succ, if_pos hin], hb, ?_⟩
        unfold r3_Classes_J18 r3_Classes_J21
        rw [if_neg (by simp; omega), hidx]
        exact G_to (by omega) (G_to (by omega) (G_to (by unfold fits; omega) rfl))
      · rw [if_neg e]
        refine ih (k + 1) (by omega) (by omega) (by omega) (fun j j0 j1 => ?_)
        by_cases e2 : j = k
        · rw [e2]; exact e
        · exact hj j j0 (by omega)
  exact key _ 0 rfl (by omega) (by omega) (fun j j0 j1 => by omega)
theorem r3_Classes_pass (h : DOk 3000 mb d) {c : List Int} (hc : ClsOk d c) {count : Int} {r3} : ∀ (n t : Nat) (next' first : List Int), d.2.2.1.length - t = n → t ≤ d.2.2.1.length → next'.length = d.2.2.1.length → (∀ j : Int, 0 ≤ j → j < t → ix next' j = ix (rfC d c) j) → first.map (sigC d c) = ksC d c t → (∀ p : Int, p ∈ first → 0 ≤ p ∧ p < d.2.2.1.length) →
    r3_Classes_L7 d count c r3 (first.length : Int) t next' first = if ((ksC d c d.2.2.1.length).length : Int) = count then some (rfC d c) else r3 ((ksC d c d.2.2.1.length).length : Int) (rfC d c) := by
  have hn := h.n1
  have hcl := hc.len
  intro n
  induction n with
  | zero =>
    intro t next' first hn2 ht hl hj hf hb
    obtain rfl : t = d.2.2.1.length := by omega
    have : next' = rfC d c := ix_ext (by rw [rfC_len]; exact hl) fun j j0 j1 => hj j j0 (by omega)
    have hfl : first.length = (ksC d c d.2.2.1.length).length := by rw [← hf, List.length_map]
    rw [r3_Classes_L7_eq]; unfold r3_Classes_L7_B
    rw [if_neg (by simp; omega), this, hfl]
    by_cases e : ((ksC d c d.2.2.1.length).length : Int) = count
    · rw [if_pos (decide_eq_true e), if_pos e]
    · rw [if_neg (by simpa using e), if_neg e]
  | succ n ih =>
    intro t next' first hn2 ht hl hj hf hb
    rw [r3_Classes_L7_eq]; unfold r3_Classes_L7_B
    rw [if_pos (by simp; omega)]
    obtain ⟨first', f1, f2, f3⟩ := r3_Classes_search (r7 := r3_Classes_L7 d count c r3) h hc (by omega : t < d.2.2.1.length) hl hf hb
    refine f3.trans ?_
    refine ih (t + 1) _ first' (by omega) (by omega) (by rw [List.length_set]; exact hl) (fun j j0 j1 => ?_) f1 f2
    by_cases e : j = t
    · subst e
      have := ix_set_same (l := next') (i := (t : Int)) (x := (idxC d c t : Int)) (by omega) (by omega)
      rw [Int.toNat_natCast] at this
      rw [this, rfC_ix c j0 (by omega), Int.toNat_natCast]
    · have := ix_set_ne (l := next') (i := (t : Int)) (j := j) (x := (idxC d c t : Int)) (by omega) j0 (Ne.symm e)
      rw [Int.toNat_natCast] at this
      rw [this]; exact hj j j0 (by omega)
end

section
variable {d : Dt}
abbrev badD (m : Int) : Prop := ¬ m = 0 ∧ ¬ m = 1
/-- No word tells two states apart. -/
def LEq (d : Dt) (q : Int) (e : Dt) (r : Int) : Prop := ∀ w : List Int, (∀ a ∈ w, 0 ≤ a ∧ a < d.1) → ix d.2.2.2.1 (wlk d.2.2.1 q w) = ix e.2.2.2.1 (wlk e.2.2.1 r w)
theorem LEq.step {d e : Dt} {q r : Int} (h : LEq d q e r) {a : Int} (a0 : 0 ≤ a) (a1 : a < d.1) : LEq d (ix (ix d.2.2.1 q) a) e (ix (ix e.2.2.1 r) a) := fun w hw => h (a :: w) (fun b hb => (List.mem_cons.1 hb).elim (fun e => by rw [e]; exact ⟨a0, a1⟩) (hw b))
/-- The classes in the end. -/
structure FinC (d : Dt) (C : List Int) (K : Nat) : Prop where
  len : C.length = d.2.2.1.length
  le : K ≤ d.2.2.1.length
  b : ∀ q : Int, 0 ≤ q → q < d.2.2.1.length → 0 ≤ ix C q ∧ ix C q < K
  sur : ∀ v : Int, 0 ≤ v → v < K → ∃ q : Int, 0 ≤ q ∧ q < d.2.2.1.length ∧ ix C q = v
  mark : ∀ q r : Int, 0 ≤ q → q < d.2.2.1.length → 0 ≤ r → r < d.2.2.1.length → ix C q = ix C r → ix d.2.2.2.1 q = ix d.2.2.2.1 r
  stable : ∀ q r : Int, 0 ≤ q → q < d.2.2.1.length → 0 ≤ r → r < d.2.2.1.length → ix C q = ix C r → ∀ a : Int, 0 ≤ a → a < d.1 → ix C (ix (ix d.2.2.1 q) a) = ix C (ix (ix d.2.2.1 r) a)
  coarse : ∀ q r : Int, 0 ≤ q → q < d.2.2.1.length → 0 ≤ r → r < d.2.2.1.length → LEq d q d r → ix C q = ix C r
theorem rfC_same {c : List Int} {q r : Int} (q0 : 0 ≤ q) (q1 : q < d.2.2.1.length) (r0 : 0 ≤ r) (r1 : r < d.2.2.1.length) : ix (rfC d c) q = ix (rfC d c) r ↔ sigC d c q = sigC d c r := by
  rw [rfC_ix c q0 q1, rfC_ix c r0 r1]
  have := idxC_iff (d := d) c (q := q.toNat) (r := r.toNat)
  rw [Int.toNat_of_nonneg q0, Int.toNat_of_nonneg r0] at this
  rw [← this]
  exact ⟨fun e => by exact_mod_cast e, fun e => by rw [e]⟩
theorem iota_mem {n : Nat} {v : Int} : v ∈ iota n ↔ 0 ≤ v ∧ v < n := by
  unfold iota
  rw [List.mem_map]
  constructor
  · rintro ⟨j, hj, rfl⟩; have := List.mem_range.1 hj; omega
  · rintro ⟨h0, h1⟩; exact ⟨v.toNat, List.mem_range.2 (by omega), by omega⟩
theorem iota_nodup (n : Nat) : (iota n).Nodup := by
  unfold iota
  refine List.Pairwise.map _ (fun a b (h : a ≠ b) => by omega) (List.nodup_range (n := n))
theorem classes_iter (h : DOk 3000 badD d) : ∀ (f k : Nat) (c : List Int), d.2.2.1.length - k = f → ClsOk d c →
    (∀ q r : Int, 0 ≤ q → q < d.2.2.1.length → 0 ≤ r → r < d.2.2.1.length → ix c q = ix c r → ix d.2.2.2.1 q = ix d.2.2.2.1 r) → (∀ v : Int, 0 ≤ v → v < k → ∃ q : Int, 0 ≤ q ∧ q < d.2.2.1.length ∧ ix c q = v) → (∀ q r : Int, 0 ≤ q → q < d.2.2.1.length → 0 ≤ r → r < d.2.2.1.length → LEq d q d r → ix c q = ix c r) →
    ∃ C K, FinC d C K ∧ det_Classes_L3 d (k : Int) c = some C ∧ r3_Classes_L3 d (k : Int) c = some C := by
  have hn := h.n1
  intro f
  induction f using Nat.strongRecOn with
  | ind f ih =>
  intro k c hf hc hm hs hco
  have hcl := hc.len
  have hK := ksC_le (d := d) c d.2.2.1.length
  have hcov : ∀ x ∈ iota k, x ∈ (ksC d c d.2.2.1.length).map Prod.fst := fun x hx => by
    obtain ⟨x0, x1⟩ := iota_mem.1 hx
    obtain ⟨q, q0, q1, e⟩ := hs x x0 x1
    have := ksC_mem (d := d) c d.2.2.1.length q.toNat (by omega)
    rw [Int.toNat_of_nonneg q0] at this
    exact List.mem_map.2 ⟨_, this, e⟩
  have hge : k ≤ (ksC d c d.2.2.1.length).length := by
    have := pigeon (iota_nodup k) hcov
    rwa [iota_len, List.length_map] at this
  have hpos : 0 < (ksC d c d.2.2.1.length).length := List.length_pos_of_mem (ksC_mem (d := d) c d.2.2.1.length 0 (by omega))
  have eP : det_Classes_L3 d (k : Int) c = if ((ksC d c d.2.2.1.length).length : Int) = k then some (rfC d c) else det_Classes_L3 d ((ksC d c d.2.2.1.length).length : Int) (rfC d c) := by
    conv => lhs; rw [det_Classes_L3_eq]; unfold det_Classes_L3_B
    refine G_to (by unfold mkOK; omega) ?_
    exact det_Classes_pass h hc _ 0 _ rfl (by omega) (by simp; omega) (fun j j0 j1 => by omega)
  have eR : r3_Classes_L3 d (k : Int) c = if ((ksC d c d.2.2.1.length).length : Int) = k then some (rfC d c) else r3_Classes_L3 d ((ksC d c d.2.2.1.length).length : Int) (rfC d c) := by
    conv => lhs; rw [r3_Classes_L3_eq]; unfold r3_Classes_L3_B
    refine G_to (by unfold mkOK; omega) ?_
    exact r3_Classes_pass h hc _ 0 _ [] rfl (by omega) (by simp; omega) (fun j j0 j1 => by omega) rfl (fun p hp => by cases hp)
  have b' : ∀ q : Int, 0 ≤ q → q < d.2.2.1.length → 0 ≤ ix (rfC d c) q ∧ ix (rfC d c) q < (ksC d c d.2.2.1.length).length := fun q q0 q1 => by
    rw [rfC_ix c q0 q1]
    have := idxC_lt (d := d) c (q := q.toNat) (t := d.2.2.1.length) (by omega)
    omega
  have sur' : ∀ v : Int, 0 ≤ v → v < (ksC d c d.2.2.1.length).length → ∃ q : Int, 0 ≤ q ∧ q < d.2.2.1.length ∧ ix (rfC d c) q = v := fun v v0 v1 => by
    obtain ⟨q, hq, e⟩ := idxC_sur (d := d) c (t := d.2.2.1.length) (j := v.toNat) (by omega)
    refine ⟨q, by omega, by omega, ?_⟩
    rw [rfC_ix c (by omega) (by omega), Int.toNat_natCast, e]; omega
  have m' : ∀ q r : Int, 0 ≤ q → q < d.2.2.1.length → 0 ≤ r → r < d.2.2.1.length → ix (rfC d c) q = ix (rfC d c) r → ix d.2.2.2.1 q = ix d.2.2.2.1 r := fun q r q0 q1 r0 r1 e =>
    hm q r q0 q1 r0 r1 (congrArg Prod.fst ((rfC_same q0 q1 r0 r1).1 e))
  have co' : ∀ q r : Int, 0 ≤ q → q < d.2.2.1.length → 0 ≤ r → r < d.2.2.1.length → LEq d q d r → ix (rfC d c) q = ix (rfC d c) r := fun q r q0 q1 r0 r1 hq => by
    refine (rfC_same q0 q1 r0 r1).2 ((sigC_eq h c q0 q1 r0 r1).2 ⟨hco q r q0 q1 r0 r1 hq, fun a a0 a1 => ?_⟩)
    have sq := h.tab.stpb q0 q1 a0 a1
    have sr := h.tab.stpb r0 r1 a0 a1
    exact hco _ _ sq.1 sq.2 sr.1 sr.2 (hq.step a0 a1)
  by_cases e : ((ksC d c d.2.2.1.length).length : Int) = k
  · rw [if_pos e] at eP eR
    refine ⟨rfC d c, _, ⟨rfC_len c, hK, b', sur', m', fun q r q0 q1 r0 r1 he a a0 a1 => ?_, co'⟩, eP, eR⟩
    have hnd : ((ksC d c d.2.2.1.length).map Prod.fst).Nodup := cover_nodup (iota_nodup k) hcov (by rw [List.length_map, iota_len]; omega)
    have tot : ∀ x y : Int, 0 ≤ x → x < d.2.2.1.length → 0 ≤ y → y < d.2.2.1.length → ix c x = ix c y → ix (rfC d c) x = ix (rfC d c) y := fun x y x0 x1 y0 y1 exy => by
      rw [rfC_same x0 x1 y0 y1]
      have hx := ksC_mem (d := d) c d.2.2.1.length x.toNat (by omega)
      have hy := ksC_mem (d := d) c d.2.2.1.length y.toNat (by omega)
      rw [Int.toNat_of_nonneg x0] at hx
      rw [Int.toNat_of_nonneg y0] at hy
      obtain ⟨i, hi, ei⟩ := List.mem_iff_getElem.1 hx
      obtain ⟨j, hj, ej⟩ := List.mem_iff_getElem.1 hy
      have key : ∀ i j : Nat, (hi : i < (ksC d c d.2.2.1.length).length) → (hj : j < (ksC d c d.2.2.1.length).length) → i < j → (ksC d c d.2.2.1.length)[i].1 ≠ (ksC d c d.2.2.1.length)[j].1 := fun i j hi hj hlt hh => by
        have := List.pairwise_iff_getElem.1 hnd i j (by rw [List.length_map]; exact hi) (by rw [List.length_map]; exact hj) hlt
        rw [List.getElem_map, List.getElem_map] at this
        exact this hh
      have hfst : (ksC d c d.2.2.1.length)[i].1 = (ksC d c d.2.2.1.length)[j].1 := by rw [ei, ej]; exact exy
      have : i = j := by
        rcases Nat.lt_trichotomy i j with hlt | rfl | hlt
        · exact absurd hfst (key i j hi hj hlt)
        · rfl
        · exact absurd hfst.symm (key j i hj hi hlt)
      subst this
      rw [← ei, ej]
    have hsig := (sigC_eq h c q0 q1 r0 r1).1 ((rfC_same q0 q1 r0 r1).1 he)
    have sq := h.tab.stpb q0 q1 a0 a1
    have sr := h.tab.stpb r0 r1 a0 a1
    unfold stp at sq sr
    exact tot _ _ sq.1 sq.2 sr.1 sr.2 (hsig.2 a a0 a1)
  · rw [if_neg e] at eP eR
    rw [eP, eR]
    have hlt : k < (ksC d c d.2.2.1.length).length := by omega
    exact ih (d.2.2.1.length - (ksC d c d.2.2.1.length).length) (by omega) _ (rfC d c) rfl ⟨rfC_len c, fun q q0 q1 => by
      rw [rfC_len] at q1
      have := b' q q0 q1
      omega⟩ m' sur' co'
theorem classes_both (h : DOk 3000 badD d) : ∃ C K, FinC d C K ∧ det_Classes d = some C ∧ r3_Classes d = some C := by
  have hn := h.n1
  have hmk := h.mkl
  have hc : ClsOk d d.2.2.2.1 := ⟨by omega, fun q q0 q1 => by
    have := h.mok _ (ix_mem q0 q1)
    omega⟩
  obtain ⟨C, K, h1, h2, h3⟩ := classes_iter h _ 0 d.2.2.2.1 rfl hc (fun q r _ _ _ _ e => e) (fun v v0 v1 => by omega) (fun q r _ _ _ _ e => e [] (fun a ha => by cases ha))
  refine ⟨C, K, h1, ?_, ?_⟩
  · unfold det_Classes
    exact bind_to (slices_Clone_spec (by omega)) h2
  · unfold r3_Classes
    exact G_to (by unfold room; simp; omega) h3
end

/-- Going by keys: the keys met, and a row, after so many letters. -/
noncomputable def xRow (nx : Int → Int → Int) (s : Int) (l : List Int) : Nat → List Int × List Int
  | 0 => (l, [])
  | t + 1 => match mfind (xRow nx s l t).1 (nx s (t : Int)) with
    | some j => ((xRow nx s l t).1, (xRow nx s l t).2 ++ [(j : Int)])
    | none => ((xRow nx s l t).1 ++ [nx s (t : Int)], (xRow nx s l t).2 ++ [((xRow nx s l t).1.length : Int)])
/-- .. after so many keys. -/
noncomputable def xSt (nx : Int → Int → Int) (mk : Int → Int) (L : Nat) (first : Int) : Nat → List Int × List (List Int) × List Int
  | 0 => ([first], [], [])
  | i + 1 => ((xRow nx (ix (xSt nx mk L first i).1 (i : Int)) (xSt nx mk L first i).1 L).1, (xSt nx mk L first i).2.1 ++ [(xRow nx (ix (xSt nx mk L first i).1 (i : Int)) (xSt nx mk L first i).1 L).2], (xSt nx mk L first i).2.2 ++ [mk (ix (xSt nx mk L first i).1 (i : Int))])
theorem xRow_some {nx : Int → Int → Int} {s : Int} {l : List Int} {t j : Nat} (h : mfind (xRow nx s l t).1 (nx s (t : Int)) = some j) : xRow nx s l (t + 1) = ((xRow nx s l t).1, (xRow nx s l t).2 ++ [(j : Int)]) := by
  rw [xRow, h]
theorem xRow_none {nx : Int → Int → Int} {s : Int} {l : List Int} {t : Nat} (h : mfind (xRow nx s l t).1 (nx s (t : Int)) = none) : xRow nx s l (t + 1) = ((xRow nx s l t).1 ++ [nx s (t : Int)], (xRow nx s l t).2 ++ [((xRow nx s l t).1.length : Int)]) := by
  rw [xRow, h]
section
variable {nx : Int → Int → Int} {mk : Int → Int} {L : Nat} {first : Int} {B : Nat} {P : Int → Prop}
/-- Keys are small numbers of a kind. -/
structure XOk (nx : Int → Int → Int) (mk : Int → Int) (L : Nat) (first : Int) (B : Nat) (P : Int → Prop) : Prop where
  b : ∀ s, P s → 0 ≤ s ∧ s < B
  f : P first
  n : ∀ s, P s → ∀ t : Int, 0 ≤ t → t < L → P (nx s t)
  m : ∀ s, P s → mk s = 0 ∨ mk s = 1
structure LiOk (B : Nat) (P : Int → Prop) (l : List Int) : Prop where
  nd : l.Nodup
  p : ∀ x ∈ l, P x
theorem LiOk.len (h : XOk nx mk L first B P) {l : List Int} (k : LiOk B P l) : l.length ≤ B := pigeon_int k.nd (fun x hx => h.b x (k.p x hx))
structure XR (nx : Int → Int → Int) (s : Int) (l : List Int) (t : Nat) (r : List Int × List Int) : Prop where
  pre : ∃ x, r.1 = l ++ x
  len : r.2.length = t
  to : ∀ a : Int, 0 ≤ a → a < t → 0 ≤ ix r.2 a ∧ ix r.2 a < r.1.length ∧ ix r.1 (ix r.2 a) = nx s a
theorem mfind_ix {l : List Int} {x : Int} {j : Nat} (h : mfind l x = some j) : (j : Int) < l.length ∧ ix l (j : Int) = x := by
  have h1 := mfind_lt h
  have h2 := mfind_get h
  refine ⟨by omega, ?_⟩
  rw [List.getElem?_eq_getElem h1] at h2
  rw [ix_eq (l := l) (by omega) (by omega)]
  simpa using h2
theorem xRow_ok (h : XOk nx mk L first B P) {s : Int} (hs : P s) {l : List Int} (hl : LiOk B P l) : ∀ t : Nat, t ≤ L → LiOk B P (xRow nx s l t).1 ∧ XR nx s l t (xRow nx s l t)
  | 0, _ => ⟨hl, ⟨[], by simp [xRow]⟩, rfl, fun a a0 a1 => by omega⟩
  | t + 1, ht => by
    obtain ⟨h1, ⟨⟨x, hx⟩, h2, h3⟩⟩ := xRow_ok h hs hl t (by omega)
    have hp := h.n s hs (t : Int) (by omega) (by omega)
    unfold xRow
    cases e : mfind (xRow nx s l t).1 (nx s (t : Int)) with
    | some j =>
      obtain ⟨j1, j2⟩ := mfind_ix e
      refine ⟨h1, ⟨⟨x, hx⟩, by simp [h2], fun a a0 a1 => ?_⟩⟩
      show 0 ≤ ix ((xRow nx s l t).2 ++ [(j : Int)]) a ∧ _
      by_cases c : a < t
      · rw [ix_append_left a0 (by omega)]; exact h3 a a0 c
      · obtain rfl : a = ((xRow nx s l t).2.length : Int) := by omega
        rw [ix_append_last]
        refine ⟨by omega, j1, ?_⟩
        show ix (xRow nx s l t).1 (j : Int) = _
        rw [j2, h2]
    | none =>
      have hn := mfind_none.1 e
      refine ⟨⟨?_, fun y hy => (List.mem_append.1 hy).elim (h1.p y) (fun e2 => by rw [List.mem_singleton.1 e2]; exact hp)⟩, ⟨⟨x ++ [nx s (t : Int)], by show (xRow nx s l t).1 ++ _ = _; rw [hx, List.append_assoc]⟩, by simp [h2], fun a a0 a1 => ?_⟩⟩
      · show ((xRow nx s l t).1 ++ [nx s (t : Int)]).Nodup
        rw [List.nodup_append]
        exact ⟨h1.nd, by simp, fun u hu v hv => by rw [List.mem_singleton.1 hv]; rintro rfl; exact hn hu⟩
      · show 0 ≤ ix ((xRow nx s l t).2 ++ [((xRow nx s l t).1.length : Int)]) a ∧ ix ((xRow nx s l t).2 ++ [((xRow nx s l t).1.length : Int)]) a < (((xRow nx s l t).1 ++ [nx s (t : Int)]).length : Int) ∧ ix ((xRow nx s l t).1 ++ [nx s (t : Int)]) (ix ((xRow nx s l t).2 ++ [((xRow nx s l t).1.length : Int)]) a) = nx s a
        rw [List.length_append, List.length_singleton]
        by_cases c : a < t
        · obtain ⟨g1, g2, g3⟩ := h3 a a0 c
          rw [ix_append_left a0 (by omega), ix_append_left g1 g2]
          exact ⟨g1, by omega, g3⟩
        · obtain rfl : a = ((xRow nx s l t).2.length : Int) := by omega
          rw [ix_append_last, ix_append_last, h2]
          exact ⟨by omega, by omega, rfl⟩
structure XS (nx : Int → Int → Int) (mk : Int → Int) (L : Nat) (first : Int) (i : Nat) (x : List Int × List (List Int) × List Int) : Prop where
  z : ix x.1 0 = first
  r : x.2.1.length = i
  m : x.2.2.length = i
  row : ∀ k : Int, 0 ≤ k → k < i → (ix x.2.1 k).length = L ∧ ∀ a : Int, 0 ≤ a → a < L → 0 ≤ ix (ix x.2.1 k) a ∧ ix (ix x.2.1 k) a < x.1.length ∧ ix x.1 (ix (ix x.2.1 k) a) = nx (ix x.1 k) a
  mark : ∀ k : Int, 0 ≤ k → k < i → ix x.2.2 k = mk (ix x.1 k)
/-- It goes on until i. -/
def XGo (nx : Int → Int → Int) (mk : Int → Int) (L : Nat) (first : Int) (i : Nat) : Prop := ∀ k < i, k < (xSt nx mk L first k).1.length
theorem xSt_ok (h : XOk nx mk L first B P) : ∀ i : Nat, XGo nx mk L first i → LiOk B P (xSt nx mk L first i).1 ∧ i ≤ (xSt nx mk L first i).1.length ∧ XS nx mk L first i (xSt nx mk L first i)
  | 0, _ => ⟨⟨by simp [xSt], fun x hx => by
      have : x = first := by simpa [xSt] using hx
      rw [this]; exact h.f⟩, by omega, rfl, rfl, rfl, fun k k0 k1 => by omega, fun k k0 k1 => by omega⟩
  | i + 1, hg => by
    obtain ⟨h1, h2, h3⟩ := xSt_ok h i (fun k hk => hg k (by omega))
    have hi := hg i (by omega)
    have hP := h1.p _ (ix_mem (by omega) (by omega : (i : Int) < (xSt nx mk L first i).1.length))
    obtain ⟨g1, ⟨⟨x, hx⟩, g2, g3⟩⟩ := xRow_ok h hP h1 L (Nat.le_refl _)
    unfold xSt
    generalize hX : xSt nx mk L first i = X at *
    generalize hR : xRow nx (ix X.1 (i : Int)) X.1 L = R at *
    have pre : ∀ k : Int, 0 ≤ k → k < X.1.length → ix R.1 k = ix X.1 k := fun k k0 k1 => by rw [hx, ix_append_left k0 k1]
    have lenR : X.1.length ≤ R.1.length := by rw [hx, List.length_append]; omega
    refine ⟨g1, by show i + 1 ≤ R.1.length; omega, ?_, by simp [h3.r], by simp [h3.m], fun k k0 k1 => ?_, fun k k0 k1 => ?_⟩
    · show ix R.1 0 = first
      rw [pre 0 (by omega) (by omega)]; exact h3.z
    · show (ix (X.2.1 ++ [R.2]) k).length = L ∧ ∀ a : Int, 0 ≤ a → a < L → 0 ≤ ix (ix (X.2.1 ++ [R.2]) k) a ∧ ix (ix (X.2.1 ++ [R.2]) k) a < R.1.length ∧ ix R.1 (ix (ix (X.2.1 ++ [R.2]) k) a) = nx (ix R.1 k) a
      have hr := h3.r
      by_cases c : k < i
      · obtain ⟨r1, r2⟩ := h3.row k k0 c
        rw [ix_append_left k0 (by omega), pre k k0 (by omega)]
        refine ⟨r1, fun a a0 a1 => ?_⟩
        obtain ⟨s1, s2, s3⟩ := r2 a a0 a1
        rw [pre _ s1 s2]
        exact ⟨s1, by omega, s3⟩
      · have hk : k = (X.2.1.length : Int) := by omega
        rw [hk, ix_append_last, hr, pre (i : Int) (by omega) (by omega)]
        exact ⟨g2, fun a a0 a1 => g3 a a0 a1⟩
    · show ix (X.2.2 ++ [mk (ix X.1 (i : Int))]) k = mk (ix R.1 k)
      have hm := h3.m
      rw [pre k k0 (by omega)]
      by_cases c : k < i
      · rw [ix_append_left k0 (by omega)]; exact h3.mark k k0 c
      · have hk : k = (X.2.2.length : Int) := by omega
        rw [hk, ix_append_last, hm]
theorem xSt_stops (h : XOk nx mk L first B P) : ∃ n, n ≤ B ∧ XGo nx mk L first n ∧ (xSt nx mk L first n).1.length = n := by
  have key : ∀ f i : Nat, B - i = f → XGo nx mk L first i → ∃ n, n ≤ B ∧ XGo nx mk L first n ∧ (xSt nx mk L first n).1.length = n := by
    intro f
    induction f with
    | zero =>
      intro i hf hg
      obtain ⟨h1, h2, _⟩ := xSt_ok h i hg
      have := h1.len h
      exact ⟨i, by omega, hg, by omega⟩
    | succ f ih =>
      intro i hf hg
      obtain ⟨h1, h2, _⟩ := xSt_ok h i hg
      have := h1.len h
      by_cases c : (xSt nx mk L first i).1.length = i
      · exact ⟨i, by omega, hg, c⟩
      · refine ih (i + 1) (by omega) (fun k hk => ?_)
        by_cases e : k = i
        · subst e; omega
        · exact hg k (by omega)
  exact key _ 0 rfl (fun k hk => by omega)
/-- The automaton that comes of it. -/
noncomputable def xAut (nx : Int → Int → Int) (mk : Int → Int) (L : Nat) (first : Int) (n : Nat) : Dt := ((L : Int), 0, (xSt nx mk L first n).2.1, (xSt nx mk L first n).2.2, ())
theorem xAut_ok (h : XOk nx mk L first B P) (hL : 1 ≤ L ∧ L ≤ 4) (hB : B ≤ 3000) {n : Nat} (hg : XGo nx mk L first n) (hn : (xSt nx mk L first n).1.length = n) : DOk 3000 badD (xAut nx mk L first n) := by
  obtain ⟨h1, h2, h3⟩ := xSt_ok h n hg
  have hb := h1.len h
  have hr := h3.r
  have hm := h3.m
  have hpos : 0 < n := by
    refine Nat.pos_of_ne_zero fun e => ?_
    subst e
    simp [xSt] at hn
  refine ⟨by show 1 ≤ (L : Int) ∧ (L : Int) ≤ 4; omega, ?_, ?_, ?_, fun s hs => ?_, ⟨fun r hr2 => ?_, fun r hr2 q hq => ?_⟩⟩
  · show 1 ≤ (xSt nx mk L first n).2.1.length ∧ ((xSt nx mk L first n).2.1.length : Int) ≤ 3000
    omega
  · show (0 : Int) ≤ 0 ∧ (0 : Int) < ((xSt nx mk L first n).2.1.length : Int)
    omega
  · show ((xSt nx mk L first n).2.2.length : Int) = ((xSt nx mk L first n).2.1.length : Int)
    omega
  · obtain ⟨k, k0, k1, rfl⟩ := (ex_ix (P := fun x => x = s)).1 ⟨s, hs, rfl⟩
    have hk : k < n := by
      have : k < ((xSt nx mk L first n).2.2.length : Int) := k1
      omega
    have e : ix (xAut nx mk L first n).2.2.2.1 k = mk (ix (xSt nx mk L first n).1 k) := h3.mark k k0 hk
    rw [e]
    have := h.m _ (h1.p _ (ix_mem k0 (by omega)))
    omega
  · obtain ⟨k, k0, k1, rfl⟩ := (ex_ix (P := fun x => x = r)).1 ⟨r, hr2, rfl⟩
    have hk : k < n := by
      have : k < ((xSt nx mk L first n).2.1.length : Int) := k1
      omega
    have := (h3.row k k0 hk).1
    show ((ix (xSt nx mk L first n).2.1 k).length : Int) = (L : Int)
    omega
  · obtain ⟨k, k0, k1, rfl⟩ := (ex_ix (P := fun x => x = r)).1 ⟨r, hr2, rfl⟩
    have hk : k < n := by
      have : k < ((xSt nx mk L first n).2.1.length : Int) := k1
      omega
    obtain ⟨r1, r2⟩ := h3.row k k0 hk
    obtain ⟨a, a0, a1, rfl⟩ := (ex_ix (P := fun x => x = q)).1 ⟨q, hq, rfl⟩
    have ha : a < (L : Int) := by
      have : a < ((ix (xSt nx mk L first n).2.1 k).length : Int) := a1
      omega
    obtain ⟨s1, s2, s3⟩ := r2 a a0 ha
    show 0 ≤ ix (ix (xSt nx mk L first n).2.1 k) a ∧ ix (ix (xSt nx mk L first n).2.1 k) a < ((xSt nx mk L first n).2.1.length : Int)
    omega
/-- A walk in it is a walk by keys. -/
theorem xAut_walk (h : XOk nx mk L first B P) {n : Nat} (hg : XGo nx mk L first n) (hn : (xSt nx mk L first n).1.length = n) : ∀ (w : List Int) (q : Int), 0 ≤ q → q < n → (∀ a ∈ w, 0 ≤ a ∧ a < (L : Int)) →
    0 ≤ wlk (xAut nx mk L first n).2.2.1 q w ∧ wlk (xAut nx mk L first n).2.2.1 q w < n ∧ ix (xSt nx mk L first n).1 (wlk (xAut nx mk L first n).2.2.1 q w) = w.foldl nx (ix (xSt nx mk L first n).1 q)
  | [], q, q0, q1, _ => ⟨q0, q1, rfl⟩
  | a :: w, q, q0, q1, hw => by
    obtain ⟨_, _, h3⟩ := xSt_ok h n hg
    have ha := hw a (by simp)
    obtain ⟨s1, s2, s3⟩ := (h3.row q q0 q1).2 a ha.1 ha.2
    have := xAut_walk h hg hn w (ix (ix (xSt nx mk L first n).2.1 q) a) s1 (by omega) (fun b hb => hw b (by simp [hb]))
    rw [s3] at this
    exact this
end

section
variable {d : Dt}
structure RowOk (d : Dt) (C Q : List Int) (i : Int) (row : List Int) : Prop where
  len : (row.length : Int) = d.1
  to : ∀ a : Int, 0 ≤ a → a < d.1 → 0 ≤ ix row a ∧ ix row a < Q.length ∧ ix C (ix Q (ix row a)) = ix C (ix (ix d.2.2.1 (ix Q i)) a)
structure QOk (d : Dt) (C Q : List Int) : Prop where
  b : ∀ q : Int, q ∈ Q → 0 ≤ q ∧ q < d.2.2.1.length
  nd : (Q.map (ix C)).Nodup
  z : 0 < Q.length ∧ ix Q 0 = d.2.1
structure PartOk (d : Dt) (C Q : List Int) (D2 : List (List Int)) (D3 : List Int) : Prop where
  q : QOk d C Q
  l2 : D2.length ≤ Q.length
  l3 : D3.length = D2.length
  row : ∀ i : Int, 0 ≤ i → i < D2.length → RowOk d C Q i (ix D2 i)
  mark : ∀ i : Int, 0 ≤ i → i < D2.length → ix D3 i = ix d.2.2.2.1 (ix Q i)
theorem QOk.le {C Q : List Int} {K : Nat} (hC : FinC d C K) (h : QOk d C Q) : Q.length ≤ K := by
  have := pigeon_int (n := K) h.nd (fun v hv => by
    obtain ⟨q, hq, rfl⟩ := List.mem_map.1 hv
    have := h.b q hq
    exact hC.b q this.1 this.2)
  rwa [List.length_map] at this
theorem RowOk.ext {C Q : List Int} {i : Int} {row : List Int} (h : RowOk d C Q i row) (i0 : 0 ≤ i) (i1 : i < Q.length) (x : List Int) : RowOk d C (Q ++ x) i row :=
  ⟨h.len, fun a a0 a1 => by
    obtain ⟨h1, h2, h3⟩ := h.to a a0 a1
    rw [ix_append_left h1 h2, ix_append_left i0 i1]
    exact ⟨h1, by rw [List.length_append]; omega, h3⟩⟩
structure OfOk (d : Dt) (C l : List Int) (K : Nat) : Prop where
  len : l.length = d.2.2.1.length
  b : ∀ v : Int, 0 ≤ v → v < K → 0 ≤ ix l v ∧ ix l v < d.2.2.1.length ∧ ix C (ix l v) = v
/-- Going by classes. -/
noncomputable def nxC (d : Dt) (C l : List Int) (v a : Int) : Int := ix C (ix (ix d.2.2.1 (ix l v)) a)
noncomputable def mkC (d : Dt) (l : List Int) (v : Int) : Int := ix d.2.2.2.1 (ix l v)
/-- A least automaton, and of which states its states are. -/
structure LeastOk (d o : Dt) (C Q : List Int) (K : Nat) : Prop where
  fin : FinC d C K
  part : PartOk d C Q o.2.2.1 o.2.2.2.1
  all : o.2.2.1.length = Q.length
  let1 : o.1 = d.1
  st : o.2.1 = 0
  by1 : ∃ (l : List Int) (n : Nat), OfOk d C l K ∧ XGo (nxC d C l) (mkC d l) d.1.toNat (ix C d.2.1) n ∧ (xSt (nxC d C l) (mkC d l) d.1.toNat (ix C d.2.1) n).1.length = n ∧ o = xAut (nxC d C l) (mkC d l) d.1.toNat (ix C d.2.1) n
/-- What numbers stand for classes. -/
def NumOk (d : Dt) (C Q NA : List Int) : Prop := NA.length = d.2.2.1.length ∧ ∀ v : Int, 0 ≤ v → v < d.2.2.1.length → ix NA v = match mfind (Q.map (ix C)) v with
  | some j => (j : Int)
  | none => -1
theorem take_set_succ {row : List Int} {t : Nat} {v : Int} (h : t < row.length) : (row.set t v).take (t + 1) = row.take t ++ [v] := by
  rw [List.take_add_one, List.take_set_of_le (Nat.le_refl _), List.getElem?_set_self h]; rfl
theorem least_letters (h : DOk 3000 badD d) {C l Q0 : List Int} {K : Nat} (hC : FinC d C K) (hl : OfOk d C l K) {L0 : List Int} {D2 : List (List Int)} {D3 : List Int} {r4 r11} {lk : List Int} {i : Int} (hi : i = D2.length) (eL : ix L0 i = ix C (ix Q0 i)) :
    ∀ (f : Nat) (t : Int) (Q NA row : List Int), (d.1 - t).toNat = f → 0 ≤ t → t ≤ d.1 → PartOk d C Q D2 D3 → i < Q.length → ix Q i = ix Q0 i → NumOk d C Q NA → (row.length : Int) = d.1 →
      (∀ a : Int, 0 ≤ a → a < t → 0 ≤ ix row a ∧ ix row a < Q.length ∧ ix C (ix Q (ix row a)) = ix C (ix (ix d.2.2.1 (ix Q i)) a)) → xRow (nxC d C l) (ix C (ix Q0 i)) lk t.toNat = (Q.map (ix C), row.take t.toNat) →
    ∃ x NA' row', xRow (nxC d C l) (ix C (ix Q0 i)) lk d.1.toNat = ((Q ++ x).map (ix C), row') ∧ PartOk d C (Q ++ x) (D2 ++ [row']) (D3 ++ [ix d.2.2.2.1 (ix Q i)]) ∧ NumOk d C (Q ++ x) NA' ∧
      det_Explore_L8 d.1 C d l d l ((C.length : Int) + 1) d.1 0 L0 D2 D3 r4 t (Q.map (ix C)) (iota (Q.map (ix C)).length) (Q.map (ix C)) row = r4 d.1 0 ((Q ++ x).map (ix C)) (iota ((Q ++ x).map (ix C)).length) ((Q ++ x).map (ix C)) (D2 ++ [row']) (D3 ++ [ix d.2.2.2.1 (ix Q i)]) ∧
      r3_Least_L15 d C i d.1 0 D2 D3 r11 t NA Q row = r11 (i + 1) NA' (Q ++ x) d.1 0 (D2 ++ [row']) (D3 ++ [ix d.2.2.2.1 (ix Q i)]) := by
  have hn := h.n1
  have hlt := h.let1
  have hmk := h.mkl
  have hcl := hC.len
  have hK := hC.le
  intro f
  induction f with
  | zero =>
    intro t Q NA row hf t0 t1 hP hiQ eQ hN hrl hrow hxr
    obtain rfl : t = d.1 := by omega
    have hQK := hP.q.le hC
    have hq := hP.q.b _ (ix_mem (by omega) hiQ)
    have hv := hC.b _ hq.1 hq.2
    obtain ⟨o1, o2, o3⟩ := hl.b _ hv.1 hv.2
    have hl3 := hP.l3
    have hll := hl.len
    have hmark : ix d.2.2.2.1 (ix l (ix C (ix Q i))) = ix d.2.2.2.1 (ix Q i) := hC.mark _ _ o1 o2 hq.1 hq.2 o3
    refine ⟨[], NA, row, by rw [hxr, List.append_nil, List.take_of_length_le (by omega)], ⟨by simpa using hP.q, by rw [List.length_append, List.length_append, List.length_singleton]; omega, by rw [List.length_append, List.length_append, List.length_singleton, List.length_singleton]; omega, fun j j0 j1 => ?_, fun j j0 j1 => ?_⟩, by simpa using hN, ?_, ?_⟩
    · rw [List.length_append, List.length_singleton] at j1
      rw [List.append_nil]
      by_cases e : j < D2.length
      · rw [ix_append_left j0 e]; exact hP.row j j0 e
      · obtain rfl : j = D2.length := by omega
        rw [ix_append_last, ← hi]; exact ⟨hrl, hrow⟩
    · rw [List.length_append, List.length_singleton] at j1
      rw [List.append_nil]
      by_cases e : j < D2.length
      · rw [ix_append_left j0 (by omega)]; exact hP.mark j j0 e
      · have e1 : j = D3.length := by omega
        have e2 : j = i := by omega
        rw [e1, ix_append_last, ← e1, e2]
    · rw [det_Explore_L8_eq]; unfold det_Explore_L8_B det_Smallest_2
      rw [if_neg (by simp), ← hi, eL, ← eQ, List.append_nil]
      refine G_to (by unfold room; simp; have := hP.l2; omega) ?_
      refine bind_to (y := ix d.2.2.2.1 (ix Q i)) ?_ ?_
      · rw [← hmark]
        exact G_to (by omega) (G_to (by omega) rfl)
      · exact G_to (by unfold room; simp; have := hP.l2; omega) rfl
    · rw [r3_Least_L15_eq]; unfold r3_Least_L15_B
      rw [if_neg (by simp), List.append_nil]
      exact G_to (by unfold room; simp; have := hP.l2; omega) (G_to (by omega) (G_to (by omega) (G_to (by omega) (G_to (by unfold room; simp; have := hP.l2; omega) (G_to (by unfold fits; omega) rfl)))))
  | succ f ih =>
    intro t Q NA row hf t0 t1 hP hiQ eQ hN hrl hrow hxr
    have hQK := hP.q.le hC
    have hq := hP.q.b _ (ix_mem (by omega) hiQ)
    have hv := hC.b _ hq.1 hq.2
    obtain ⟨o1, o2, o3⟩ := hl.b _ hv.1 hv.2
    have hll := hl.len
    have hr1 := h.tab.rowlen hq.1 hq.2
    have hr2 := h.tab.rowlen o1 o2
    have hx := h.tab.stpb hq.1 hq.2 t0 (by omega)
    have hy := h.tab.stpb o1 o2 t0 (by omega)
    unfold stp at hx hy
    have hst := hC.stable _ _ o1 o2 hq.1 hq.2 o3 t t0 (by omega)
    have hw := hC.b _ hx.1 hx.2
    have hNx := hN.2 _ hw.1 (by omega : _ < (d.2.2.1.length : Int))
    have hNl := hN.1
    -- the next state and its class
    obtain ⟨x, hxd⟩ : ∃ x, x = ix (ix d.2.2.1 (ix Q i)) t := ⟨_, rfl⟩
    rw [← hxd] at hx hst hw hNx
    have hnx : nxC d C l (ix C (ix Q0 i)) (t.toNat : Int) = ix C x := by
      unfold nxC
      rw [← eQ, Int.toNat_of_nonneg t0]; exact hst
    have s1 : det_Smallest_1 (ix L0 (D2.length : Int)) t C d l = some (ix C x) := by
      unfold det_Smallest_1
      rw [← hi, eL, ← eQ, ← hst]
      exact G_to (by omega) (G_to (by omega) (G_to (by omega) (G_to (by omega) rfl)))
    have hP1 : det_Explore_L8 d.1 C d l d l ((C.length : Int) + 1) d.1 0 L0 D2 D3 r4 t (Q.map (ix C)) (iota (Q.map (ix C)).length) (Q.map (ix C)) row =
        if ix C x ∈ Q.map (ix C) then det_Explore_L8 d.1 C d l d l ((C.length : Int) + 1) d.1 0 L0 D2 D3 r4 (t + 1) (Q.map (ix C)) (iota (Q.map (ix C)).length) (Q.map (ix C)) (row.set t.toNat (mget (Q.map (ix C)) (iota (Q.map (ix C)).length) (ix C x) 0))
        else det_Explore_L8 d.1 C d l d l ((C.length : Int) + 1) d.1 0 L0 D2 D3 r4 (t + 1) ((Q ++ [x]).map (ix C)) (iota ((Q ++ [x]).map (ix C)).length) ((Q ++ [x]).map (ix C)) (row.set t.toNat (Q.length : Int)) := by
      conv => lhs; rw [det_Explore_L8_eq]; unfold det_Explore_L8_B
      rw [if_pos (by simp; omega)]
      refine bind_to s1 ?_
      unfold det_Explore_J17
      by_cases c : ix C x ∈ Q.map (ix C)
      · rw [if_neg (by rw [mhas_iff.2 c]; simp), if_pos c]
        exact G_to (by omega) (G_to (by omega) (G_to (by unfold fits; omega) rfl))
      · have hh : mhas (Q.map (ix C)) (ix C x) = false := by
          cases e : mhas (Q.map (ix C)) (ix C x) with
          | false => rfl
          | true => exact absurd (mhas_iff.1 e) c
        rw [if_pos (by rw [hh]; rfl), if_neg c, if_neg (by rw [decide_eq_true_iff, List.length_map]; omega), mputK_new c, mputV_iota c, List.map_append, List.map_singleton, List.length_map]
        exact G_to (by unfold room; simp; omega) (G_to (by omega) (G_to (by omega) (G_to (by unfold fits; omega) rfl)))
    have hR1 : r3_Least_L15 d C i d.1 0 D2 D3 r11 t NA Q row =
        if ix NA (ix C x) < 0 then r3_Least_L15 d C i d.1 0 D2 D3 r11 (t + 1) (NA.set (ix C x).toNat (Q.length : Int)) (Q ++ [x]) (row.set t.toNat (Q.length : Int))
        else r3_Least_L15 d C i d.1 0 D2 D3 r11 (t + 1) NA Q (row.set t.toNat (ix NA (ix C x))) := by
      conv => lhs; rw [r3_Least_L15_eq]; unfold r3_Least_L15_B
      rw [if_pos (by simp; omega), ← hxd]
      refine G_to (by omega) (G_to (by omega) (G_to (by omega) (G_to (by omega) (G_to (by omega) (G_to (by omega) (G_to (by omega) (G_to (by omega) ?_)))))))
      unfold r3_Least_J20
      by_cases c : ix NA (ix C x) < 0
      · rw [if_pos (decide_eq_true c), if_pos c]
        refine G_to (by omega) (G_to (by omega) (G_to (by omega) (G_to (by omega) (G_to (by unfold room; simp; omega) ?_))))
        rw [← hxd, ix_set_same hw.1 (by omega)]
        exact G_to (by omega) (G_to (by omega) (G_to (by rw [List.length_set]; omega) (G_to (by rw [List.length_set]; omega) (G_to (by omega) (G_to (by omega) (G_to (by unfold fits; omega) rfl))))))
      · rw [if_neg (by simpa using c), if_neg c, ← hxd]
        exact G_to (by omega) (G_to (by omega) (G_to (by omega) (G_to (by omega) (G_to (by omega) (G_to (by omega) (G_to (by unfold fits; omega) rfl))))))
    rw [hP1, hR1]
    have rowstep : ∀ (Q' : List Int) (v : Int), (∀ j : Int, 0 ≤ j → j < Q.length → ix Q' j = ix Q j) → Q.length ≤ Q'.length → 0 ≤ v → v < Q'.length → ix C (ix Q' v) = ix C x →
        ∀ a : Int, 0 ≤ a → a < t + 1 → 0 ≤ ix (row.set t.toNat v) a ∧ ix (row.set t.toNat v) a < Q'.length ∧ ix C (ix Q' (ix (row.set t.toNat v) a)) = ix C (ix (ix d.2.2.1 (ix Q' i)) a) := fun Q' v hQ' hle v0 v1 hv' a a0 a1 => by
      by_cases e : a = t
      · subst e
        rw [ix_set_same a0 (by omega), hQ' i (by omega) hiQ, ← hxd]; exact ⟨v0, v1, hv'⟩
      · obtain ⟨h1, h2, h3⟩ := hrow a a0 (by omega)
        rw [ix_set_ne t0 a0 (Ne.symm e), hQ' _ h1 h2, hQ' i (by omega) hiQ]
        exact ⟨h1, by omega, h3⟩
    by_cases c : ix C x ∈ Q.map (ix C)
    · obtain ⟨j, hj⟩ := mfind_mem c
      have hjl := mfind_lt hj
      rw [List.length_map] at hjl
      have hjx : ix C (ix Q j) = ix C x := by
        have := mfind_get hj
        rw [List.getElem?_map, List.getElem?_eq_getElem hjl, Option.map_some] at this
        have e2 : ix Q (j : Int) = Q[j] := by rw [ix_eq (l := Q) (by omega) (by omega)]; simp
        rw [e2]
        exact Option.some.inj this
      rw [hj] at hNx
      have hNx : ix NA (ix C x) = (j : Int) := hNx
      rw [if_pos c, if_neg (by omega), mget_iota hj, hNx]
      refine ih (t + 1) Q NA _ (by omega) (by omega) (by omega) hP hiQ eQ hN (by rw [List.length_set]; exact hrl) (rowstep Q j (fun _ _ _ => rfl) (Nat.le_refl _) (by omega) (by omega) hjx) ?_
      rw [show (t + 1).toNat = t.toNat + 1 by omega, xRow_some (j := j) (by rw [hxr, hnx]; exact hj), hxr, take_set_succ (by omega)]
    · rw [mfind_none.2 c] at hNx
      have hNx : ix NA (ix C x) = -1 := hNx
      rw [if_neg c, if_pos (by omega)]
      have hQ' : ∀ j : Int, 0 ≤ j → j < Q.length → ix (Q ++ [x]) j = ix Q j := fun j j0 j1 => ix_append_left j0 j1
      have hP' : PartOk d C (Q ++ [x]) D2 D3 := by
        refine ⟨⟨fun q hq => (List.mem_append.1 hq).elim (hP.q.b q) (fun e => by rw [List.mem_singleton.1 e]; exact hx), ?_, ?_⟩, by rw [List.length_append]; have := hP.l2; omega, hP.l3, fun j j0 j1 => ?_, fun j j0 j1 => ?_⟩
        · rw [List.map_append, List.nodup_append]
          exact ⟨hP.q.nd, by simp, fun u hu w hw => by rw [List.map_singleton, List.mem_singleton] at hw; rw [hw]; rintro rfl; exact c hu⟩
        · have := hP.q.z
          exact ⟨by simp, by rw [hQ' 0 (by omega) (by omega)]; exact this.2⟩
        · exact (hP.row j j0 j1).ext j0 (by have := hP.l2; omega) _
        · rw [hQ' j j0 (by have := hP.l2; omega)]; exact hP.mark j j0 j1
      have hN' : NumOk d C (Q ++ [x]) (NA.set (ix C x).toNat (Q.length : Int)) := by
        refine ⟨by rw [List.length_set]; exact hN.1, fun v v0 v1 => ?_⟩
        rw [List.map_append, List.map_singleton]
        by_cases e : v = ix C x
        · subst e
          rw [ix_set_same v0 (by omega), mfind_new c]
          simp
        · rw [ix_set_ne hw.1 v0 (Ne.symm e), hN.2 v v0 v1]
          cases hm : mfind (Q.map (ix C)) v with
          | some j => rw [mfind_app _ hm]
          | none =>
            rw [mfind_none.2 (fun hh => by
              rcases List.mem_append.1 hh with hh | hh
              · exact mfind_none.1 hm hh
              · exact e (List.mem_singleton.1 hh))]
      obtain ⟨y, NA', row', z0, z1, z2, z3, z4⟩ := ih (t + 1) (Q ++ [x]) _ (row.set t.toNat (Q.length : Int)) (by omega) (by omega) (by omega) hP' (by rw [List.length_append]; omega) (by rw [hQ' i (by omega) hiQ]; exact eQ) hN' (by rw [List.length_set]; exact hrl)
        (rowstep (Q ++ [x]) (Q.length : Int) hQ' (by rw [List.length_append]; omega) (by omega) (by rw [List.length_append, List.length_singleton]; omega) (by rw [ix_append_last])) (by rw [show (t + 1).toNat = t.toNat + 1 by omega, xRow_none (by rw [hxr, hnx]; exact mfind_none.2 c), hxr, hnx, take_set_succ (by omega), List.length_map, List.map_append, List.map_singleton])
      rw [hQ' i (by omega) hiQ] at z1 z3 z4
      rw [List.append_assoc] at z0 z1 z2 z3 z4
      exact ⟨_, NA', row', z0, z1, z2, z3, z4⟩
theorem least_main (h : DOk 3000 badD d) {C l : List Int} {K : Nat} (hC : FinC d C K) (hl : OfOk d C l K) : ∀ (f : Nat) (Q NA : List Int) (D2 : List (List Int)) (D3 : List Int), 3000 - D2.length = f → PartOk d C Q D2 D3 → NumOk d C Q NA → XGo (nxC d C l) (mkC d l) d.1.toNat (ix C d.2.1) D2.length → xSt (nxC d C l) (mkC d l) d.1.toNat (ix C d.2.1) D2.length = (Q.map (ix C), D2, D3) →
    ∃ o Q', LeastOk d o C Q' K ∧ det_Explore_L4 d.1 C d l d l ((C.length : Int) + 1) d.1 0 (Q.map (ix C)) (iota (Q.map (ix C)).length) (Q.map (ix C)) D2 D3 = some (o, true) ∧ r3_Least_L11 d C (D2.length : Int) NA Q d.1 0 D2 D3 = some o := by
  have hn := h.n1
  have hlt := h.let1
  intro f
  induction f using Nat.strongRecOn with
  | ind f ih =>
  intro Q NA D2 D3 hf hP hN hgo hxs
  have hQK := hP.q.le hC
  have hK := hC.le
  rw [det_Explore_L4_eq, r3_Least_L11_eq]; unfold det_Explore_L4_B r3_Least_L11_B
  by_cases e : D2.length < Q.length
  · have e1 : ix (Q.map (ix C)) (D2.length : Int) = ix C (ix Q (D2.length : Int)) := ix_map _ (by omega) (by omega)
    obtain ⟨x, NA', row', z0, z1, z2, z3, z4⟩ := least_letters (lk := Q.map (ix C)) (r4 := det_Explore_L4 d.1 C d l d l ((C.length : Int) + 1)) (r11 := r3_Least_L11 d C) h hC hl (L0 := Q.map (ix C)) (Q0 := Q) (D2 := D2) (D3 := D3) rfl e1 _ 0 Q NA (List.replicate d.1.toNat 0) rfl (by omega) (by omega) hP (by omega) rfl hN (by rw [List.length_replicate]; omega) (fun a a0 a1 => by omega) (by simp [xRow])
    have hq := hP.q.b _ (ix_mem (by omega) (by omega : (D2.length : Int) < Q.length))
    have hv := hC.b _ hq.1 hq.2
    obtain ⟨o1, o2, o3⟩ := hl.b _ hv.1 hv.2
    have hmark : mkC d l (ix C (ix Q (D2.length : Int))) = ix d.2.2.2.1 (ix Q (D2.length : Int)) := hC.mark _ _ o1 o2 hq.1 hq.2 o3
    have hgo' : XGo (nxC d C l) (mkC d l) d.1.toNat (ix C d.2.1) (D2 ++ [row']).length := fun k hk => by
      rw [List.length_append, List.length_singleton] at hk
      by_cases c : k < D2.length
      · exact hgo k c
      · obtain rfl : k = D2.length := by omega
        rw [hxs, List.length_map]; exact e
    have hxs' : xSt (nxC d C l) (mkC d l) d.1.toNat (ix C d.2.1) (D2 ++ [row']).length = ((Q ++ x).map (ix C), D2 ++ [row'], D3 ++ [ix d.2.2.2.1 (ix Q (D2.length : Int))]) := by
      rw [List.length_append, List.length_singleton, xSt, hxs]
      show ((xRow _ (ix (Q.map (ix C)) (D2.length : Int)) (Q.map (ix C)) d.1.toNat).1, D2 ++ [(xRow _ (ix (Q.map (ix C)) (D2.length : Int)) (Q.map (ix C)) d.1.toNat).2], D3 ++ [mkC d l (ix (Q.map (ix C)) (D2.length : Int))]) = _
      rw [e1, z0, hmark]
    obtain ⟨o, Q', w1, w2, w3⟩ := ih (3000 - (D2 ++ [row']).length) (by rw [List.length_append, List.length_singleton]; have := z1.q.le hC; have := z1.l2; rw [List.length_append, List.length_singleton] at this; omega) (Q ++ x) NA' (D2 ++ [row']) _ rfl z1 z2 hgo' hxs'
    refine ⟨o, Q', w1, ?_, ?_⟩
    · rw [if_pos (by simp; omega)]
      exact G_to (by rw [List.length_map]; omega) (G_to (by rw [List.length_map]; omega) (G_to (by unfold mkOK; omega) (z3.trans w2)))
    · rw [if_pos (by simp; omega)]
      refine G_to (by unfold mkOK; omega) (z4.trans ?_)
      rw [List.length_append, List.length_singleton] at w3
      exact w3
  · refine ⟨(d.1, 0, D2, D3, ()), Q, ⟨hC, hP, by have := hP.l2; show D2.length = Q.length; omega, rfl, rfl, l, D2.length, hl, hgo, by rw [hxs, List.length_map]; have := hP.l2; omega, by unfold xAut; rw [hxs, Int.toNat_of_nonneg (by omega)]⟩, ?_, ?_⟩
    · rw [if_neg (by rw [decide_eq_true_iff, List.length_map]; omega)]
    · rw [if_neg (by simp; omega)]
theorem Smallest_of (h : DOk 3000 badD d) {C : List Int} {K : Nat} (hC : FinC d C K) : ∃ l, OfOk d C l K ∧ det_Smallest_L4 d C 0 (List.replicate C.length 0) = det_Smallest_L4 d C (C.length : Int) l := by
  have hn := h.n1
  have hcl := hC.len
  have hK := hC.le
  have key : ∀ (f : Nat) (t : Int) (l : List Int), (C.length - t).toNat = f → 0 ≤ t → t ≤ C.length → l.length = C.length → (∀ v : Int, 0 ≤ v → v < K → (∃ q : Int, 0 ≤ q ∧ q < t ∧ ix C q = v) → 0 ≤ ix l v ∧ ix l v < d.2.2.1.length ∧ ix C (ix l v) = v) →
      ∃ l', OfOk d C l' K ∧ det_Smallest_L4 d C t l = det_Smallest_L4 d C (C.length : Int) l' := by
    intro f
    induction f with
    | zero =>
      intro t l hf t0 t1 hll hv
      obtain rfl : t = C.length := by omega
      exact ⟨l, ⟨by omega, fun v v0 v1 => by
        obtain ⟨q, q0, q1, e⟩ := hC.sur v v0 v1
        exact hv v v0 v1 ⟨q, q0, by omega, e⟩⟩, rfl⟩
    | succ f ih =>
      intro t l hf t0 t1 hll hv
      have hb := hC.b t t0 (by omega)
      obtain ⟨l', h1, h2⟩ := ih (t + 1) (l.set (ix C t).toNat t) (by omega) (by omega) (by omega) (by rw [List.length_set]; exact hll) (fun v v0 v1 ⟨q, q0, q1, e⟩ => by
        by_cases e2 : v = ix C t
        · subst e2
          rw [ix_set_same v0 (by omega)]; exact ⟨t0, by omega, rfl⟩
        · rw [ix_set_ne hb.1 v0 (Ne.symm e2)]
          refine hv v v0 v1 ⟨q, q0, ?_, e⟩
          by_cases e3 : q = t
          · subst e3; exact absurd e.symm e2
          · omega)
      refine ⟨l', h1, ?_⟩
      rw [← h2]
      conv => lhs; rw [det_Smallest_L4_eq]; unfold det_Smallest_L4_B
      rw [if_pos (by simp; omega)]
      exact G_to (by omega) (G_to (by omega) (G_to (by omega) (G_to (by omega) (G_to (by unfold fits; omega) rfl))))
  exact key _ 0 _ rfl (by omega) (by omega) (by rw [List.length_replicate]) (fun v v0 v1 ⟨q, q0, q1, _⟩ => by omega)
theorem Least_num (h : DOk 3000 badD d) {C : List Int} {K : Nat} (hC : FinC d C K) : r3_Least_L4 d C 0 (List.replicate C.length 0) = r3_Least_L4 d C (C.length : Int) (List.replicate C.length (-1)) := by
  have hn := h.n1
  have hcl := hC.len
  have key : ∀ (f : Nat) (t : Int) (l : List Int), (C.length - t).toNat = f → 0 ≤ t → t ≤ C.length → l.length = C.length → (∀ v : Int, 0 ≤ v → v < t → ix l v = -1) → r3_Least_L4 d C t l = r3_Least_L4 d C (C.length : Int) (List.replicate C.length (-1)) := by
    intro f
    induction f with
    | zero =>
      intro t l hf t0 t1 hll hv
      obtain rfl : t = C.length := by omega
      rw [show l = List.replicate C.length (-1) from ix_ext (by rw [List.length_replicate]; exact hll) fun j j0 j1 => by rw [ix_replicate j0 (by omega), hv j j0 (by omega)]]
    | succ f ih =>
      intro t l hf t0 t1 hll hv
      rw [← ih (t + 1) (l.set t.toNat (-1)) (by omega) (by omega) (by omega) (by rw [List.length_set]; exact hll) (fun v v0 v1 => by
        by_cases e2 : v = t
        · subst e2; rw [ix_set_same v0 (by omega)]
        · rw [ix_set_ne t0 v0 (Ne.symm e2)]; exact hv v v0 (by omega))]
      conv => lhs; rw [r3_Least_L4_eq]; unfold r3_Least_L4_B
      rw [if_pos (by simp; omega)]
      exact G_to (by omega) (G_to (by omega) (G_to (by unfold fits; omega) rfl))
  exact key _ 0 _ rfl (by omega) (by omega) (by rw [List.length_replicate]) (fun v v0 v1 => by omega)
/-- The program's least automaton and the document's are one. -/
theorem least_both (h : DOk 3000 badD d) : ∃ o C Q K, LeastOk d o C Q K ∧ det_Smallest d = some o ∧ r3_Least d = some o := by
  have hn := h.n1
  obtain ⟨C, K, hC, c1, c2⟩ := classes_both h
  obtain ⟨l, hl, l1⟩ := Smallest_of h hC
  have hs := h.st
  have hcl := hC.len
  have hb := hC.b _ hs.1 hs.2
  have hK := hC.le
  have hP : PartOk d C [d.2.1] [] [] := ⟨⟨fun q hq => by rw [List.mem_singleton.1 hq]; exact hs, by simp, by simp, rfl⟩, by simp, rfl, fun i i0 i1 => by simp at i1; omega, fun i i0 i1 => by simp at i1; omega⟩
  have hN : NumOk d C [d.2.1] ((List.replicate C.length (-1 : Int)).set (ix C d.2.1).toNat 0) := by
    refine ⟨by rw [List.length_set, List.length_replicate]; exact hcl, fun v v0 v1 => ?_⟩
    rw [List.map_singleton]
    by_cases e : v = ix C d.2.1
    · subst e
      rw [ix_set_same v0 (by rw [List.length_replicate]; omega), mfind_hd]; rfl
    · rw [ix_set_ne hb.1 v0 (Ne.symm e), ix_replicate v0 (by omega), mfind_none.2 (by simpa using e)]
  obtain ⟨o, Q, w1, w2, w3⟩ := least_main h hC hl _ [d.2.1] _ [] [] rfl hP hN (fun k hk => by simp at hk) rfl
  have ed : (d.1, d.2.1, d.2.2.1, d.2.2.2.1, ()) = d := rfl
  refine ⟨o, C, Q, K, w1, ?_, ?_⟩
  · unfold det_Smallest
    rw [ed]
    refine bind_to c1 ?_
    refine G_to (by unfold mkOK; omega) ?_
    rw [Int.toNat_natCast, l1, det_Smallest_L4_eq]; unfold det_Smallest_L4_B
    rw [if_neg (by simp)]
    refine G_to (by omega) (G_to (by omega) (G_to (by unfold fits; omega) ?_))
    have hE : det_Explore d.1 (ix C d.2.1) C d l d l ((C.length : Int) + 1) = some (o, true) := w2
    refine both_to ?_ ?_
    · rw [ed]
      exact bind_to hE rfl
    · rw [ed]
      exact bind_to hE rfl
  · unfold r3_Least
    rw [ed]
    refine bind_to c2 ?_
    refine G_to (by unfold mkOK; omega) ?_
    rw [Int.toNat_natCast, Least_num h hC, r3_Least_L4_eq]; unfold r3_Least_L4_B
    rw [if_neg (by simp)]
    exact G_to (by omega) (G_to (by omega) (G_to (by rw [List.length_replicate]; omega) (G_to (by rw [List.length_replicate]; omega) w3)))
end

/-- The least automaton goes along. -/
theorem least_walk {d o : Dt} {C Q : List Int} {K : Nat} (hd : DOk 3000 badD d) (h : LeastOk d o C Q K) : ∀ (w : List Int) (i q : Int), 0 ≤ i → i < Q.length → 0 ≤ q → q < d.2.2.1.length → ix C (ix Q i) = ix C q → (∀ a ∈ w, 0 ≤ a ∧ a < d.1) →
    0 ≤ wlk o.2.2.1 i w ∧ wlk o.2.2.1 i w < Q.length ∧ ix C (ix Q (wlk o.2.2.1 i w)) = ix C (wlk d.2.2.1 q w)
  | [], i, q, i0, i1, _, _, e, _ => ⟨i0, i1, e⟩
  | a :: w, i, q, i0, i1, q0, q1, e, hw => by
    have ha := hw a (by simp)
    have hr := h.part.row i i0 (by rw [h.all]; exact i1)
    obtain ⟨t1, t2, t3⟩ := hr.to a ha.1 ha.2
    have hq := h.part.q.b _ (ix_mem i0 i1)
    have hs := hd.tab.stpb q0 q1 ha.1 ha.2
    have hst := h.fin.stable _ _ hq.1 hq.2 q0 q1 e a ha.1 ha.2
    exact least_walk hd h w (ix (ix o.2.2.1 i) a) (stp d.2.2.1 q a) t1 t2 hs.1 hs.2 (t3.trans hst) (fun b hb => hw b (by simp [hb]))
theorem least_mark {d o : Dt} {C Q : List Int} {K : Nat} (hd : DOk 3000 badD d) (h : LeastOk d o C Q K) {w : List Int} (hw : ∀ a ∈ w, 0 ≤ a ∧ a < d.1) : 0 ≤ wlk o.2.2.1 o.2.1 w ∧ wlk o.2.2.1 o.2.1 w < o.2.2.1.length ∧ ix o.2.2.2.1 (wlk o.2.2.1 o.2.1 w) = ix d.2.2.2.1 (wlk d.2.2.1 d.2.1 w) := by
  have hz := h.part.q.z
  have hst := hd.st
  obtain ⟨h1, h2, h3⟩ := least_walk hd h w 0 d.2.1 (by omega) (by omega) hst.1 hst.2 (by rw [hz.2]) hw
  rw [h.st]
  refine ⟨h1, by rw [h.all]; exact h2, ?_⟩
  rw [h.part.mark _ h1 (by rw [h.all]; exact h2)]
  have hq := h.part.q.b _ (ix_mem h1 h2)
  have hw2 := hd.tab.wlkb hst.1 hst.2 hw
  exact h.fin.mark _ _ hq.1 hq.2 hw2.1 hw2.2 h3
theorem LeastOk.tab' {d o : Dt} {C Q : List Int} {K : Nat} (h : LeastOk d o C Q K) : Tab o.1 o.2.2.1 := by
  refine ⟨fun r hr => ?_, fun r hr q hq => ?_⟩
  · obtain ⟨j, j0, j1, rfl⟩ := (ex_ix (P := fun x => x = r)).1 ⟨r, hr, rfl⟩
    rw [h.let1]; exact (h.part.row j j0 j1).len
  · obtain ⟨j, j0, j1, rfl⟩ := (ex_ix (P := fun x => x = r)).1 ⟨r, hr, rfl⟩
    have hr := h.part.row j j0 j1
    obtain ⟨k, k0, k1, rfl⟩ := (ex_ix (P := fun x => x = q)).1 ⟨q, hq, rfl⟩
    have := hr.to k k0 (by rw [← hr.len]; exact k1)
    rw [h.all]; exact ⟨this.1, this.2.1⟩

/- One language, one least automaton. -/
theorem xRow_map {nx nx' : Int → Int → Int} {f : Int → Int} {P : Int → Prop} {L : Nat} (hinj : ∀ x y, P x → P y → f x = f y → x = y) (hn : ∀ s, P s → ∀ t : Int, 0 ≤ t → t < L → P (nx s t) ∧ f (nx s t) = nx' (f s) t) {s : Int} (hs : P s) {l : List Int} (hl : ∀ x ∈ l, P x) : ∀ t : Nat, t ≤ L →
    (∀ x ∈ (xRow nx s l t).1, P x) ∧ xRow nx' (f s) (l.map f) t = ((xRow nx s l t).1.map f, (xRow nx s l t).2)
  | 0, _ => ⟨hl, rfl⟩
  | t + 1, ht => by
    obtain ⟨h1, h2⟩ := xRow_map hinj hn hs hl t (by omega)
    obtain ⟨p1, p2⟩ := hn s hs t (by omega) (by omega)
    have e : mfind ((xRow nx s l t).1.map f) (nx' (f s) t) = mfind (xRow nx s l t).1 (nx s t) := by
      rw [← p2]
      exact mfind_map f (fun y hy he => hinj _ _ (h1 y hy) p1 he)
    cases c : mfind (xRow nx s l t).1 (nx s t) with
    | some j =>
      rw [xRow_some c, xRow_some (j := j) (by rw [h2, e, c]), h2]
      exact ⟨h1, rfl⟩
    | none =>
      rw [xRow_none c, xRow_none (by rw [h2, e, c]), h2]
      refine ⟨fun x hx => (List.mem_append.1 hx).elim (h1 x) (fun hh => by rw [List.mem_singleton.1 hh]; exact p1), ?_⟩
      rw [← p2]; simp
theorem xSt_map {nx nx' : Int → Int → Int} {mk mk' : Int → Int} {f : Int → Int} {P : Int → Prop} {L : Nat} {first : Int} (hf : P first) (hinj : ∀ x y, P x → P y → f x = f y → x = y) (hn : ∀ s, P s → ∀ t : Int, 0 ≤ t → t < L → P (nx s t) ∧ f (nx s t) = nx' (f s) t) (hm : ∀ s, P s → mk' (f s) = mk s) : ∀ i : Nat, XGo nx mk L first i →
    (∀ x ∈ (xSt nx mk L first i).1, P x) ∧ xSt nx' mk' L (f first) i = ((xSt nx mk L first i).1.map f, (xSt nx mk L first i).2.1, (xSt nx mk L first i).2.2)
  | 0, _ => ⟨fun x hx => by
      have : x = first := by simpa [xSt] using hx
      rw [this]; exact hf, rfl⟩
  | i + 1, hg => by
    obtain ⟨h1, h2⟩ := xSt_map hf hinj hn hm i (fun k hk => hg k (by omega))
    have hi := hg i (by omega)
    have hP := h1 _ (ix_mem (i := (i : Int)) (by omega) (by omega))
    have e : ix ((xSt nx mk L first i).1.map f) (i : Int) = f (ix (xSt nx mk L first i).1 (i : Int)) := ix_map _ (by omega) (by omega)
    obtain ⟨g1, g2⟩ := xRow_map hinj hn hP h1 L (Nat.le_refl _)
    refine ⟨g1, ?_⟩
    rw [xSt, h2]
    show ((xRow nx' (ix ((xSt nx mk L first i).1.map f) (i : Int)) ((xSt nx mk L first i).1.map f) L).1, (xSt nx mk L first i).2.1 ++ [(xRow nx' (ix ((xSt nx mk L first i).1.map f) (i : Int)) ((xSt nx mk L first i).1.map f) L).2], (xSt nx mk L first i).2.2 ++ [mk' (ix ((xSt nx mk L first i).1.map f) (i : Int))]) = _
    rw [e, g2, hm _ hP]
    rfl
theorem LEq.symm {d e : Dt} {q r : Int} (hL : d.1 = e.1) (h : LEq d q e r) : LEq e r d q := fun w hw => (h w (fun a ha => by rw [hL]; exact hw a ha)).symm
theorem LEq.trans {d e f : Dt} {q r s : Int} (hL : d.1 = e.1) (h : LEq d q e r) (k : LEq e r f s) : LEq d q f s := fun w hw => (h w hw).trans (k w (fun a ha => by rw [← hL]; exact hw a ha))
theorem cls_LEq {d : Dt} (hd : DOk 3000 badD d) {C : List Int} {K : Nat} (hC : FinC d C K) {q r : Int} (q0 : 0 ≤ q) (q1 : q < d.2.2.1.length) (r0 : 0 ≤ r) (r1 : r < d.2.2.1.length) (h : ix C q = ix C r) : LEq d q d r := by
  intro w
  induction w generalizing q r with
  | nil => intro _; exact hC.mark _ _ q0 q1 r0 r1 h
  | cons a w ih =>
    intro hw
    have ha := hw a (by simp)
    have sq := hd.tab.stpb q0 q1 ha.1 ha.2
    have sr := hd.tab.stpb r0 r1 ha.1 ha.2
    exact ih sq.1 sq.2 sr.1 sr.2 (hC.stable _ _ q0 q1 r0 r1 h a ha.1 ha.2) (fun b hb => hw b (by simp [hb]))
theorem least_one {d e o p : Dt} {C Q C' Q' : List Int} {K K' : Nat} (hd : DOk 3000 badD d) (he : DOk 3000 badD e) (h : LeastOk d o C Q K) (k : LeastOk e p C' Q' K') (hL : d.1 = e.1) (hq : LEq d d.2.1 e e.2.1) : o = p := by
  obtain ⟨l, n, hl, go, gn, rfl⟩ := h.by1
  obtain ⟨l', n', hl', go', gn', rfl⟩ := k.by1
  have hC := h.fin
  have hC' := k.fin
  have hds := hd.st
  have hes := he.st
  let P : Int → Prop := fun v => 0 ≤ v ∧ v < K ∧ ∃ v' : Int, 0 ≤ v' ∧ v' < K' ∧ LEq d (ix l v) e (ix l' v')
  let f : Int → Int := fun v => Classical.epsilon fun v' : Int => 0 ≤ v' ∧ v' < K' ∧ LEq d (ix l v) e (ix l' v')
  have fs : ∀ v, P v → 0 ≤ f v ∧ f v < K' ∧ LEq d (ix l v) e (ix l' (f v)) := fun v hv => Classical.epsilon_spec hv.2.2
  have cl : ∀ x y : Int, 0 ≤ x → x < K → 0 ≤ y → y < K → LEq d (ix l x) d (ix l y) → x = y := fun x y x0 x1 y0 y1 hxy => by
    obtain ⟨a1, a2, a3⟩ := hl.b x x0 x1
    obtain ⟨b1, b2, b3⟩ := hl.b y y0 y1
    rw [← a3, ← b3]
    exact hC.coarse _ _ a1 a2 b1 b2 hxy
  have cl' : ∀ x y : Int, 0 ≤ x → x < K' → 0 ≤ y → y < K' → LEq e (ix l' x) e (ix l' y) → x = y := fun x y x0 x1 y0 y1 hxy => by
    obtain ⟨a1, a2, a3⟩ := hl'.b x x0 x1
    obtain ⟨b1, b2, b3⟩ := hl'.b y y0 y1
    rw [← a3, ← b3]
    exact hC'.coarse _ _ a1 a2 b1 b2 hxy
  have hinj : ∀ x y, P x → P y → f x = f y → x = y := fun x y hx hy hxy => by
    obtain ⟨_, _, a3⟩ := fs x hx
    obtain ⟨_, _, b3⟩ := fs y hy
    rw [hxy] at a3
    exact cl x y hx.1 hx.2.1 hy.1 hy.2.1 (a3.trans hL (b3.symm hL))
  -- of two states that no word tells apart, the classes
  have link : ∀ q r : Int, 0 ≤ q → q < d.2.2.1.length → 0 ≤ r → r < e.2.2.1.length → LEq d q e r → P (ix C q) ∧ f (ix C q) = ix C' r := fun q r q0 q1 r0 r1 hqr => by
    have bq := hC.b q q0 q1
    have br := hC'.b r r0 r1
    obtain ⟨a1, a2, a3⟩ := hl.b _ bq.1 bq.2
    obtain ⟨b1, b2, b3⟩ := hl'.b _ br.1 br.2
    have h1 : LEq d (ix l (ix C q)) d q := cls_LEq hd hC a1 a2 q0 q1 a3
    have h2 : LEq e (ix l' (ix C' r)) e r := cls_LEq he hC' b1 b2 r0 r1 b3
    have h3 : LEq d (ix l (ix C q)) e (ix l' (ix C' r)) := (h1.trans rfl hqr).trans hL (h2.symm rfl)
    have hP : P (ix C q) := ⟨bq.1, bq.2, _, br.1, br.2, h3⟩
    obtain ⟨c1, c2, c3⟩ := fs _ hP
    exact ⟨hP, cl' _ _ c1 c2 br.1 br.2 ((c3.symm hL).trans hL.symm h3)⟩
  have hn : ∀ s, P s → ∀ t : Int, 0 ≤ t → t < d.1.toNat → P (nxC d C l s t) ∧ f (nxC d C l s t) = nxC e C' l' (f s) t := fun s hs t t0 t1 => by
    obtain ⟨c1, c2, c3⟩ := fs s hs
    obtain ⟨a1, a2, _⟩ := hl.b s hs.1 hs.2.1
    obtain ⟨b1, b2, _⟩ := hl'.b _ c1 c2
    have sq := hd.tab.stpb a1 a2 t0 (by omega)
    have sr := he.tab.stpb b1 b2 t0 (by omega)
    exact link _ _ sq.1 sq.2 sr.1 sr.2 (c3.step t0 (by omega))
  have hm : ∀ s, P s → mkC e l' (f s) = mkC d l s := fun s hs => by
    obtain ⟨_, _, c3⟩ := fs s hs
    exact (c3 [] (fun a ha => by cases ha)).symm
  obtain ⟨hf, ef⟩ := link _ _ hds.1 hds.2 hes.1 hes.2 hq
  have hm' := fun i hi => xSt_map (nx := nxC d C l) (nx' := nxC e C' l') (mk := mkC d l) (mk' := mkC e l') (f := f) (L := d.1.toNat) hf hinj hn hm i hi
  rw [ef] at hm'
  rw [← hL] at go' gn' ⊢
  have hnn : n = n' := by
    rcases Nat.lt_trichotomy n n' with c | c | c
    · have := go' n c
      rw [(hm' n go).2, List.length_map] at this
      omega
    · exact c
    · have := go n' c
      rw [(hm' n' (fun k hk => go k (by omega))).2, List.length_map] at gn'
      omega
  subst hnn
  unfold xAut
  rw [(hm' n go).2]

theorem r1_May_L6_spec {letters : Int} {w : List Int} (hL : 1 ≤ letters ∧ letters ≤ 4) (hw : w.length ≤ (60 : Int)) : ∀ (n : Nat) (i : Int), 0 ≤ i → i ≤ w.length → (w.length - i).toNat = n → (∀ j : Int, 0 ≤ j → j < i → 0 ≤ ix w j ∧ ix w j < letters) → r1_May_L6 letters w i = some (mayE letters w) := by
  intro n
  induction n with
  | zero =>
    intro i h0 h1 hn h
    rw [r1_May_L6_eq]; unfold r1_May_L6_B
    (try dsimp only); (repeat' first | (with_reducible refine G_to ?_ ?_; focus (first | omega | (unfold fits; omega) | (unfold room; (try simp only [List.length_append, List.length_cons, List.length_nil]); omega))) | (with_reducible refine both_to ?_ ?_) | (with_reducible refine itet_to ?_) | (with_reducible refine itef_to ?_) | (with_reducible refine ite_to (fun _ => ?_) (fun _ => ?_))) <;> try (exfalso; omega)
    · rw [mayE_ok hL hw (fun j a b => h j a (by omega))]
  | succ n ih =>
    intro i h0 h1 hn h
    rw [r1_May_L6_eq]; unfold r1_May_L6_B
    (try dsimp only); (repeat' first | (with_reducible refine G_to ?_ ?_; focus (first | omega | (unfold fits; omega) | (unfold room; (try simp only [List.length_append, List.length_cons, List.length_nil]); omega))) | (with_reducible refine both_to ?_ ?_) | (with_reducible refine itet_to ?_) | (with_reducible refine itef_to ?_) | (with_reducible refine ite_to (fun _ => ?_) (fun _ => ?_))) <;> try (exfalso; omega)
    · rw [mayE_bad hL hw (i := i) (by omega) (by omega)]
    · rw [mayE_bad hL hw (i := i) (by omega) (by omega)]
    · exact ih _ (by omega) (by omega) (by omega) (below_succ h (by omega))
theorem r1_May_spec {letters : Int} {w : List Int} : r1_May letters w = some (mayE letters w) := by
  unfold r1_May
  (try dsimp only); (repeat' first | (with_reducible refine G_to ?_ ?_; focus (first | omega | (unfold fits; omega) | (unfold room; (try simp only [List.length_append, List.length_cons, List.length_nil]); omega))) | (with_reducible refine both_to ?_ ?_) | (with_reducible refine itet_to ?_) | (with_reducible refine itef_to ?_) | (with_reducible refine ite_to (fun _ => ?_) (fun _ => ?_))) <;> try (exfalso; omega)
  · rw [mayE_range (by omega)]
  · rw [mayE_range (by omega)]
  · rw [mayE_size (by omega) (by omega)]
  · exact r1_May_L6_spec (by omega) (by omega) _ 0 (by omega) (by omega) rfl (fun j a b => by omega)

theorem word_May_L6_spec {letters : Int} {w : List Int} (hL : 1 ≤ letters ∧ letters ≤ 4) (hw : w.length ≤ (60 : Int)) : ∀ (n : Nat) (i : Int), 0 ≤ i → i ≤ w.length → (w.length - i).toNat = n → (∀ j : Int, 0 ≤ j → j < i → 0 ≤ ix w j ∧ ix w j < letters) → word_May_L6 letters w i = some (mayE letters w) := by
  intro n
  induction n with
  | zero =>
    intro i h0 h1 hn h
    rw [word_May_L6_eq]; unfold word_May_L6_B
    (try dsimp only); (repeat' first | (with_reducible refine G_to ?_ ?_; focus (first | omega | (unfold fits; omega) | (unfold room; (try simp only [List.length_append, List.length_cons, List.length_nil]); omega))) | (with_reducible refine both_to ?_ ?_) | (with_reducible refine itet_to ?_) | (with_reducible refine itef_to ?_) | (with_reducible refine ite_to (fun _ => ?_) (fun _ => ?_))) <;> try (exfalso; omega)
    · rw [mayE_ok hL hw (fun j a b => h j a (by omega))]
  | succ n ih =>
    intro i h0 h1 hn h
    rw [word_May_L6_eq]; unfold word_May_L6_B
    (try dsimp only); (repeat' first | (with_reducible refine G_to ?_ ?_; focus (first | omega | (unfold fits; omega) | (unfold room; (try simp only [List.length_append, List.length_cons, List.length_nil]); omega))) | (with_reducible refine both_to ?_ ?_) | (with_reducible refine itet_to ?_) | (with_reducible refine itef_to ?_) | (with_reducible refine ite_to (fun _ => ?_) (fun _ => ?_))) <;> try (exfalso; omega)
    · rw [mayE_bad hL hw (i := i) (by omega) (by omega)]
    · rw [mayE_bad hL hw (i := i) (by omega) (by omega)]
    · exact ih _ (by omega) (by omega) (by omega) (below_succ h (by omega))
theorem word_May_spec {letters : Int} {w : List Int} : word_May letters w = some (mayE letters w) := by
  unfold word_May
  (try dsimp only); (repeat' first | (with_reducible refine G_to ?_ ?_; focus (first | omega | (unfold fits; omega) | (unfold room; (try simp only [List.length_append, List.length_cons, List.length_nil]); omega))) | (with_reducible refine both_to ?_ ?_) | (with_reducible refine itet_to ?_) | (with_reducible refine itef_to ?_) | (with_reducible refine ite_to (fun _ => ?_) (fun _ => ?_))) <;> try (exfalso; omega)
  · rw [mayE_range (by omega)]
  · rw [mayE_range (by omega)]
  · rw [mayE_size (by omega) (by omega)]
  · exact word_May_L6_spec (by omega) (by omega) _ 0 (by omega) (by omega) rfl (fun j a b => by omega)

/- Breadth first, with first words. -/
open Classical in
noncomputable def bRow {α : Type} [Inhabited α] (nx : α → Int → α) (s : α) (w : List Int) (l : List α × List (List Int)) : Nat → List α × List (List Int)
  | 0 => l
  | t + 1 => if nx s (t : Int) ∈ (bRow nx s w l t).1 then bRow nx s w l t else ((bRow nx s w l t).1 ++ [nx s (t : Int)], (bRow nx s w l t).2 ++ [w ++ [(t : Int)]])
noncomputable def bSt {α : Type} [Inhabited α] (nx : α → Int → α) (L : Nat) (first : α) : Nat → List α × List (List Int)
  | 0 => ([first], [[]])
  | i + 1 => bRow nx (ix (bSt nx L first i).1 (i : Int)) (ix (bSt nx L first i).2 (i : Int)) (bSt nx L first i) L
section
variable {α : Type} [Inhabited α] {nx : α → Int → α} {L : Nat} {first : α} {N : Nat} {P : α → Prop}
theorem bRow_old {s : α} {w : List Int} {l : List α × List (List Int)} {t : Nat} (h : nx s (t : Int) ∈ (bRow nx s w l t).1) : bRow nx s w l (t + 1) = bRow nx s w l t := by
  rw [bRow, if_pos h]
theorem bRow_new {s : α} {w : List Int} {l : List α × List (List Int)} {t : Nat} (h : nx s (t : Int) ∉ (bRow nx s w l t).1) : bRow nx s w l (t + 1) = ((bRow nx s w l t).1 ++ [nx s (t : Int)], (bRow nx s w l t).2 ++ [w ++ [(t : Int)]]) := by
  rw [bRow, if_neg h]
structure BOk (nx : α → Int → α) (L : Nat) (first : α) (N : Nat) (P : α → Prop) : Prop where
  f : P first
  n : ∀ s, P s → ∀ t : Int, 0 ≤ t → t < L → P (nx s t)
  b : ∀ l : List α, l.Nodup → (∀ x ∈ l, P x) → l.length ≤ N
/-- What is met, and by which words. -/
structure BI (nx : α → Int → α) (L : Nat) (first : α) (P : α → Prop) (x : List α × List (List Int)) : Prop where
  nd : x.1.Nodup
  p : ∀ s ∈ x.1, P s
  len : x.2.length = x.1.length
  pos : 0 < x.1.length
  z : ix x.1 0 = first
  wd : ∀ j : Int, 0 ≤ j → j < x.1.length → ((ix x.2 j).length : Int) ≤ j ∧ (∀ a ∈ ix x.2 j, 0 ≤ a ∧ a < L) ∧ (ix x.2 j).foldl nx first = ix x.1 j
structure Grows (x y : List α × List (List Int)) : Prop where
  a : ∃ l, y.1 = x.1 ++ l
  b : ∃ l, y.2 = x.2 ++ l
theorem Grows.refl (x : List α × List (List Int)) : Grows x x := ⟨⟨[], by simp⟩, ⟨[], by simp⟩⟩
theorem Grows.trans {x y z : List α × List (List Int)} (h : Grows x y) (k : Grows y z) : Grows x z := by
  obtain ⟨⟨l, h1⟩, ⟨m, h2⟩⟩ := h
  obtain ⟨⟨l', k1⟩, ⟨m', k2⟩⟩ := k
  exact ⟨⟨l ++ l', by rw [k1, h1, List.append_assoc]⟩, ⟨m ++ m', by rw [k2, h2, List.append_assoc]⟩⟩
theorem Grows.ix1 {x y : List α × List (List Int)} (h : Grows x y) {j : Int} (j0 : 0 ≤ j) (j1 : j < x.1.length) : ix y.1 j = ix x.1 j := by
  obtain ⟨l, h1⟩ := h.a
  rw [h1, ix_append_left j0 j1]
theorem Grows.ix2 {x y : List α × List (List Int)} (h : Grows x y) {j : Int} (j0 : 0 ≤ j) (j1 : j < x.2.length) : ix y.2 j = ix x.2 j := by
  obtain ⟨l, h1⟩ := h.b
  rw [h1, ix_append_left j0 j1]
theorem Grows.mem {x y : List α × List (List Int)} (h : Grows x y) {s : α} (hs : s ∈ x.1) : s ∈ y.1 := by
  obtain ⟨l, h1⟩ := h.a
  rw [h1]; exact List.mem_append_left _ hs
theorem Grows.le {x y : List α × List (List Int)} (h : Grows x y) : x.1.length ≤ y.1.length := by
  obtain ⟨l, h1⟩ := h.a
  rw [h1, List.length_append]; omega
theorem bRow_ok (h : BOk nx L first N P) {x : List α × List (List Int)} (hx : BI nx L first P x) {i : Nat} (hi : i < x.1.length) : ∀ t : Nat, t ≤ L →
    BI nx L first P (bRow nx (ix x.1 (i : Int)) (ix x.2 (i : Int)) x t) ∧ Grows x (bRow nx (ix x.1 (i : Int)) (ix x.2 (i : Int)) x t) ∧ ∀ a : Int, 0 ≤ a → a < t → nx (ix x.1 (i : Int)) a ∈ (bRow nx (ix x.1 (i : Int)) (ix x.2 (i : Int)) x t).1
  | 0, _ => ⟨hx, .refl x, fun a a0 a1 => by omega⟩
  | t + 1, ht => by
    obtain ⟨h1, h2, h3⟩ := bRow_ok h hx hi t (by omega)
    have hP := hx.p _ (ix_mem (i := (i : Int)) (by omega) (by omega))
    have hn := h.n _ hP (t : Int) (by omega) (by omega)
    by_cases c : nx (ix x.1 (i : Int)) (t : Int) ∈ (bRow nx (ix x.1 (i : Int)) (ix x.2 (i : Int)) x t).1
    · rw [bRow_old c]
      refine ⟨h1, h2, fun a a0 a1 => ?_⟩
      by_cases e : a = t
      · rw [e]; exact c
      · exact h3 a a0 (by omega)
    · rw [bRow_new c]
      generalize bRow nx (ix x.1 (i : Int)) (ix x.2 (i : Int)) x t = y at *
      have hl := h1.len
      have hg : Grows y (y.1 ++ [nx (ix x.1 (i : Int)) (t : Int)], y.2 ++ [ix x.2 (i : Int) ++ [(t : Int)]]) := ⟨⟨_, rfl⟩, ⟨_, rfl⟩⟩
      have hle := h2.le
      refine ⟨⟨?_, fun s hs => (List.mem_append.1 hs).elim (h1.p s) (fun e => by rw [List.mem_singleton.1 e]; exact hn), by simp [hl], by simp, ?_, fun j j0 j1 => ?_⟩, h2.trans hg, fun a a0 a1 => ?_⟩
      · show (y.1 ++ [nx (ix x.1 (i : Int)) (t : Int)]).Nodup
        rw [List.nodup_append]
        exact ⟨h1.nd, by simp, fun u hu v hv => by rw [List.mem_singleton.1 hv]; rintro rfl; exact c hu⟩
      · rw [hg.ix1 (by omega) (by have := h1.pos; omega)]; exact h1.z
      · by_cases e : j < y.1.length
        · rw [hg.ix1 j0 e, hg.ix2 j0 (by omega)]; exact h1.wd j j0 e
        · have hj : j = (y.1.length : Int) := by
            have : j < ((y.1 ++ [nx (ix x.1 (i : Int)) (t : Int)]).length : Int) := j1
            rw [List.length_append, List.length_singleton] at this
            omega
          have e1 : ix (y.2 ++ [ix x.2 (i : Int) ++ [(t : Int)]]) j = ix x.2 (i : Int) ++ [(t : Int)] := by rw [hj, ← hl, ix_append_last]
          have e2 : ix (y.1 ++ [nx (ix x.1 (i : Int)) (t : Int)]) j = nx (ix x.1 (i : Int)) (t : Int) := by rw [hj, ix_append_last]
          obtain ⟨w1, w2, w3⟩ := hx.wd (i : Int) (by omega) (by omega)
          refine ⟨?_, fun a ha => ?_, ?_⟩
          · rw [e1, List.length_append, List.length_singleton]; omega
          · rw [e1] at ha
            rcases List.mem_append.1 ha with ha | ha
            · exact w2 a ha
            · rw [List.mem_singleton.1 ha]; omega
          · rw [e1, e2, List.foldl_append, w3]; rfl
      · by_cases e : a = t
        · rw [e]; simp
        · exact hg.mem (h3 a a0 (by omega))
def BGo (nx : α → Int → α) (L : Nat) (first : α) (i : Nat) : Prop := ∀ k < i, k < (bSt nx L first k).1.length
theorem bSt_ok (h : BOk nx L first N P) : ∀ i : Nat, BGo nx L first i → BI nx L first P (bSt nx L first i) ∧ i ≤ (bSt nx L first i).1.length ∧ ∀ j : Nat, j ≤ i → Grows (bSt nx L first j) (bSt nx L first i)
  | 0, _ => by
    refine ⟨⟨by simp [bSt], fun s hs => ?_, rfl, by simp [bSt], rfl, fun j j0 j1 => ?_⟩, by omega, fun j hj => ?_⟩
    · have : s = first := by simpa [bSt] using hs
      rw [this]; exact h.f
    · obtain rfl : j = 0 := by
        have : j < ([first].length : Int) := j1
        simp at this; omega
      refine ⟨Int.le_refl 0, fun a ha => ?_, rfl⟩
      cases (show a ∈ ([] : List Int) from ha)
    · obtain rfl : j = 0 := by omega
      exact .refl _
  | i + 1, hg => by
    obtain ⟨h1, h2, h3⟩ := bSt_ok h i (fun k hk => hg k (by omega))
    have hi := hg i (by omega)
    obtain ⟨g1, g2, g3⟩ := bRow_ok h h1 hi L (Nat.le_refl _)
    have hl1 := h1.pos
    refine ⟨g1, ?_, fun j hj => ?_⟩
    · have := g2.le
      by_cases c : i + 1 ≤ (bSt nx L first i).1.length
      · show i + 1 ≤ (bRow _ _ _ _ L).1.length; omega
      · show i + 1 ≤ (bRow _ _ _ _ L).1.length; omega
    · by_cases c : j ≤ i
      · exact (h3 j c).trans g2
      · obtain rfl : j = i + 1 := by omega
        exact .refl _
theorem bSt_closed (h : BOk nx L first N P) {i : Nat} (hg : BGo nx L first i) {j : Nat} (hj : j < i) {a : Int} (a0 : 0 ≤ a) (a1 : a < L) : nx (ix (bSt nx L first i).1 (j : Int)) a ∈ (bSt nx L first i).1 := by
  obtain ⟨h1, h2, h3⟩ := bSt_ok h i hg
  obtain ⟨k1, _, _⟩ := bSt_ok h j (fun k hk => hg k (by omega))
  have hl := hg j hj
  obtain ⟨_, _, g3⟩ := bRow_ok h k1 hl L (Nat.le_refl _)
  rw [(h3 j (by omega)).ix1 (by omega) (by omega)]
  exact (h3 (j + 1) (by omega)).mem (g3 a a0 a1)
theorem bSt_stops (h : BOk nx L first N P) : ∃ n, n ≤ N ∧ BGo nx L first n ∧ (bSt nx L first n).1.length = n := by
  have key : ∀ f i : Nat, N - i = f → BGo nx L first i → ∃ n, n ≤ N ∧ BGo nx L first n ∧ (bSt nx L first n).1.length = n := by
    intro f
    induction f with
    | zero =>
      intro i hf hg
      obtain ⟨h1, h2, _⟩ := bSt_ok h i hg
      have := h.b _ h1.nd h1.p
      exact ⟨i, by omega, hg, by omega⟩
    | succ f ih =>
      intro i hf hg
      obtain ⟨h1, h2, _⟩ := bSt_ok h i hg
      have := h.b _ h1.nd h1.p
      by_cases c : (bSt nx L first i).1.length = i
      · exact ⟨i, by omega, hg, c⟩
      · refine ih (i + 1) (by omega) (fun k hk => ?_)
        by_cases e : k = i
        · subst e; omega
        · exact hg k (by omega)
  exact key _ 0 rfl (fun k hk => by omega)
/-- All that any word leads to is met. -/
theorem bSt_all (h : BOk nx L first N P) {n : Nat} (hg : BGo nx L first n) (hn : (bSt nx L first n).1.length = n) {w : List Int} (hw : ∀ a ∈ w, 0 ≤ a ∧ a < (L : Int)) : w.foldl nx first ∈ (bSt nx L first n).1 := by
  obtain ⟨h1, h2, h3⟩ := bSt_ok h n hg
  have key : ∀ (w : List Int) (s : α), s ∈ (bSt nx L first n).1 → (∀ a ∈ w, 0 ≤ a ∧ a < (L : Int)) → w.foldl nx s ∈ (bSt nx L first n).1 := by
    intro w
    induction w with
    | nil => intro s hs _; exact hs
    | cons a w ih =>
      intro s hs hw
      have ha := hw a (by simp)
      refine ih (nx s a) ?_ (fun b hb => hw b (by simp [hb]))
      obtain ⟨j, hj, rfl⟩ := List.mem_iff_getElem.1 hs
      have e : ix (bSt nx L first n).1 (j : Int) = (bSt nx L first n).1[j] := by unfold ix; simp [hj]
      rw [← e]
      exact bSt_closed h hg (by omega) ha.1 ha.2
  refine key w first ?_ hw
  have := ix_mem (l := (bSt nx L first n).1) (i := 0) (by omega) (by have := h1.pos; omega)
  rwa [h1.z] at this
/-- What a search for something finds. -/
def BRes (nx : α → Int → α) (L : Nat) (first : α) (n : Nat) (ok : α → Prop) (r : List Int × Bool) : Prop :=
  (∃ i : Nat, i < n ∧ ok (ix (bSt nx L first n).1 (i : Int)) ∧ (∀ j : Nat, j < i → ¬ ok (ix (bSt nx L first n).1 (j : Int))) ∧ r = (ix (bSt nx L first n).2 (i : Int), true)) ∨ ((∀ j : Nat, j < n → ¬ ok (ix (bSt nx L first n).1 (j : Int))) ∧ r = ([], false))
theorem BRes.one {n : Nat} {ok : α → Prop} {r r' : List Int × Bool} (h : BRes nx L first n ok r) (k : BRes nx L first n ok r') : r = r' := by
  rcases h with ⟨i, i1, i2, i3, rfl⟩ | ⟨h1, rfl⟩
  · rcases k with ⟨j, j1, j2, j3, rfl⟩ | ⟨k1, rfl⟩
    · rcases Nat.lt_trichotomy i j with c | rfl | c
      · exact absurd i2 (j3 i c)
      · rfl
      · exact absurd j2 (i3 j c)
    · exact absurd i2 (k1 i i1)
  · rcases k with ⟨j, j1, j2, j3, rfl⟩ | ⟨k1, rfl⟩
    · exact absurd j2 (h1 j j1)
    · rfl
theorem BRes.tells (h : BOk nx L first N P) {n : Nat} (hg : BGo nx L first n) (hn : (bSt nx L first n).1.length = n) {ok : α → Prop} {r : List Int × Bool} (k : BRes nx L first n ok r) :
    (∃ w : List Int, r = (w, true) ∧ w.length ≤ n ∧ (∀ a ∈ w, 0 ≤ a ∧ a < (L : Int)) ∧ ok (w.foldl nx first)) ∨ (r = ([], false) ∧ ∀ w : List Int, (∀ a ∈ w, 0 ≤ a ∧ a < (L : Int)) → ¬ ok (w.foldl nx first)) := by
  obtain ⟨h1, h2, h3⟩ := bSt_ok h n hg
  rcases k with ⟨i, i1, i2, i3, rfl⟩ | ⟨h4, rfl⟩
  · obtain ⟨w1, w2, w3⟩ := h1.wd (i : Int) (by omega) (by omega)
    exact .inl ⟨_, rfl, by omega, w2, by rw [w3]; exact i2⟩
  · refine .inr ⟨rfl, fun w hw hh => ?_⟩
    obtain ⟨j, hj, e⟩ := List.mem_iff_getElem.1 (bSt_all h hg hn hw)
    refine h4 j (by omega) ?_
    have e2 : ix (bSt nx L first n).1 (j : Int) = (bSt nx L first n).1[j] := by unfold ix; simp [hj]
    rw [e2, e]; exact hh
end

/- The program's search among pairs: det_seeks. -/
abbrev Cp := Int × Int × Unit
theorem mget_at {α : Type} [Inhabited α] {ks : List α} (hn : ks.Nodup) {vs : List (List Int)} (hl : vs.length = ks.length) {i : Int} (i0 : 0 ≤ i) (i1 : i < ks.length) : mget ks vs (ix ks i) ([] : List Int) = ix vs i := by
  have := mfind_nodup hn (j := i.toNat) (by omega)
  rw [← ix_eq i0 i1] at this
  unfold mget
  rw [this]
  show vs.getD i.toNat [] = _
  rfl
theorem mputV_new' {α β : Type} {ks : List α} {vs : List β} {x : α} {y : β} (h : x ∉ ks) : mputV ks vs x y = vs ++ [y] := by
  unfold mputV; rw [mfind_none.2 h]
theorem det_seeks_row {nx : Cp → Int → Cp} {g : Int} {first : Cp} {N : Nat} {P : Cp → Prop} {a : Dt} (hb : BOk nx g.toNat first N P) (hN : N ≤ 9000000) (hg : 0 ≤ g ∧ g ≤ 4) (hnx : ∀ s, P s → ∀ t, 0 ≤ t → t < g → det_Apart_1 s t a = some (nx s t)) {x : List Cp × List (List Int)} (hx : BI nx g.toNat first P x) {i : Nat} (hi : i < x.1.length) {r3} : ∀ (f t : Nat), g.toNat - t = f → t ≤ g.toNat →
    det_seeks_L8 g a r3 t (bRow nx (ix x.1 (i : Int)) (ix x.2 (i : Int)) x t).1 (bRow nx (ix x.1 (i : Int)) (ix x.2 (i : Int)) x t).2 ((bRow nx (ix x.1 (i : Int)) (ix x.2 (i : Int)) x t).1.drop i) =
      r3 (bRow nx (ix x.1 (i : Int)) (ix x.2 (i : Int)) x g.toNat).1 (bRow nx (ix x.1 (i : Int)) (ix x.2 (i : Int)) x g.toNat).2 ((bRow nx (ix x.1 (i : Int)) (ix x.2 (i : Int)) x g.toNat).1.drop (i + 1)) := by
  intro f
  induction f with
  | zero =>
    intro t hf ht
    obtain rfl : t = g.toNat := by omega
    obtain ⟨h1, h2, _⟩ := bRow_ok hb hx hi g.toNat (Nat.le_refl _)
    have hle := h2.le
    rw [det_seeks_L8_eq]; unfold det_seeks_L8_B
    rw [if_neg (by simp; omega)]
    refine G_to (by rw [List.length_drop]; omega) ?_
    rw [List.drop_drop]
    rfl
  | succ f ih =>
    intro t hf ht
    obtain ⟨h1, h2, _⟩ := bRow_ok hb hx hi t (by omega)
    have ih' := ih (t + 1) (by omega) (by omega)
    have hle := h2.le
    have hlN := hb.b _ h1.nd h1.p
    have hP := hx.p _ (ix_mem (i := (i : Int)) (by omega) (by omega))
    have e0 : ix ((bRow nx (ix x.1 (i : Int)) (ix x.2 (i : Int)) x t).1.drop i) 0 = ix x.1 (i : Int) := by
      refine Eq.trans ?_ (h2.ix1 (j := (i : Int)) (by omega) (by omega))
      have := ix_drop (l := (bRow nx (ix x.1 (i : Int)) (ix x.2 (i : Int)) x t).1) (i := (i : Int)) (by omega) (by omega)
      rw [Int.toNat_natCast] at this
      rw [this]; rfl
    have ew : mget (bRow nx (ix x.1 (i : Int)) (ix x.2 (i : Int)) x t).1 (bRow nx (ix x.1 (i : Int)) (ix x.2 (i : Int)) x t).2 (ix x.1 (i : Int)) ([] : List Int) = ix x.2 (i : Int) := by
      have hxl := hx.len
      have := mget_at h1.nd h1.len (i := (i : Int)) (by omega) (by omega)
      rw [h2.ix1 (by omega) (by omega), h2.ix2 (by omega) (by omega)] at this
      exact this
    have hwl := (hx.wd (i : Int) (by omega) (by omega)).1
    rw [det_seeks_L8_eq]; unfold det_seeks_L8_B
    rw [if_pos (by simp; omega)]
    refine G_to (by rw [List.length_drop]; omega) (G_to (by rw [List.length_drop]; show (0 : Nat) < _; omega) ?_)
    rw [e0]
    refine bind_to (hnx _ hP (t : Int) (by omega) (by omega)) ?_
    have ey : ((nx (ix x.1 (i : Int)) (t : Int)).1, ((nx (ix x.1 (i : Int)) (t : Int)).2.1, ())) = nx (ix x.1 (i : Int)) (t : Int) := rfl
    rw [ey]
    by_cases c : nx (ix x.1 (i : Int)) (t : Int) ∈ (bRow nx (ix x.1 (i : Int)) (ix x.2 (i : Int)) x t).1
    · rw [if_neg (by rw [mhas_iff.2 c]; simp)]
      rw [bRow_old c] at ih'
      exact G_to (by unfold fits; omega) ih'
    · have hh : mhas (bRow nx (ix x.1 (i : Int)) (ix x.2 (i : Int)) x t).1 (nx (ix x.1 (i : Int)) (t : Int)) = false := by
        cases e : mhas (bRow nx (ix x.1 (i : Int)) (ix x.2 (i : Int)) x t).1 (nx (ix x.1 (i : Int)) (t : Int)) with
        | false => rfl
        | true => exact absurd (mhas_iff.1 e) c
      rw [bRow_new c] at ih'
      rw [if_pos (by rw [hh]; rfl), ew]
      have hc : slices_Clone (ix x.2 (i : Int)) = some (ix x.2 (i : Int)) := slices_Clone_spec (by omega)
      have hr : room (ix x.2 (i : Int)) [(t : Int)] 8 := by unfold room; simp; omega
      refine G_to (by rw [List.length_drop]; omega) (G_to (by rw [List.length_drop]; show (0 : Nat) < _; omega) ?_)
      have hJ : det_seeks_J13 t ((bRow nx (ix x.1 (i : Int)) (ix x.2 (i : Int)) x t).1.drop i) (det_seeks_L8 g a r3) (nx (ix x.1 (i : Int)) (t : Int)) (mputK (bRow nx (ix x.1 (i : Int)) (ix x.2 (i : Int)) x t).1 (nx (ix x.1 (i : Int)) (t : Int))) (mputV (bRow nx (ix x.1 (i : Int)) (ix x.2 (i : Int)) x t).1 (bRow nx (ix x.1 (i : Int)) (ix x.2 (i : Int)) x t).2 (nx (ix x.1 (i : Int)) (t : Int)) (ix x.2 (i : Int) ++ [(t : Int)])) =
          r3 (bRow nx (ix x.1 (i : Int)) (ix x.2 (i : Int)) x g.toNat).1 (bRow nx (ix x.1 (i : Int)) (ix x.2 (i : Int)) x g.toNat).2 ((bRow nx (ix x.1 (i : Int)) (ix x.2 (i : Int)) x g.toNat).1.drop (i + 1)) := by
        unfold det_seeks_J13
        refine G_to (by unfold room; simp; omega) (G_to (by unfold fits; omega) ?_)
        rw [ey, mputK_new c, mputV_new' c, ← ih', List.drop_append_of_le_length (by omega)]
        rfl
      repeat' first | (with_reducible refine both_to ?_ ?_) | (with_reducible refine bind_to hc ?_) | (with_reducible refine G_to hr ?_)
      all_goals exact hJ
theorem det_seeks_spec {nx : Cp → Int → Cp} {okb : Cp → Bool} {g : Int} {first : Cp} {N : Nat} {P : Cp → Prop} {a : Dt} (hb : BOk nx g.toNat first N P) (hN : N ≤ 9000000) (hg : 0 ≤ g ∧ g ≤ 4) (hnx : ∀ s, P s → ∀ t, 0 ≤ t → t < g → det_Apart_1 s t a = some (nx s t)) (hok : ∀ s, P s → det_Apart_2 s a = some (okb s)) {n : Nat} (hgo : BGo nx g.toNat first n) (hn : (bSt nx g.toNat first n).1.length = n) :
    ∃ r, det_seeks first g a a = some r ∧ BRes nx g.toNat first n (fun s => okb s = true) r := by
  obtain ⟨h1, _, h3⟩ := bSt_ok hb n hgo
  have hfull := hb.b _ h1.nd h1.p
  have key : ∀ (f i : Nat), n - i = f → i ≤ n → (∀ j : Nat, j < i → ¬ okb (ix (bSt nx g.toNat first n).1 (j : Int)) = true) →
      ∃ r, det_seeks_L3 g a a (bSt nx g.toNat first i).1 (bSt nx g.toNat first i).2 ((bSt nx g.toNat first i).1.drop i) = some r ∧ BRes nx g.toNat first n (fun s => okb s = true) r := by
    intro f
    induction f with
    | zero =>
      intro i hf hi hno
      obtain rfl : i = n := by omega
      refine ⟨([], false), ?_, .inr ⟨hno, rfl⟩⟩
      rw [det_seeks_L3_eq]; unfold det_seeks_L3_B
      rw [if_neg (by rw [decide_eq_true_iff, List.length_drop]; omega)]
    | succ f ih =>
      intro i hf hi hno
      obtain ⟨k1, k2, _⟩ := bSt_ok hb i (fun k hk => hgo k (by omega))
      have hlt := hgo i (by omega)
      have hgr := h3 i (by omega)
      have hxl := k1.len
      have e0 : ix ((bSt nx g.toNat first i).1.drop i) 0 = ix (bSt nx g.toNat first i).1 (i : Int) := by
        have := ix_drop (l := (bSt nx g.toNat first i).1) (i := (i : Int)) (by omega) (by omega)
        rw [Int.toNat_natCast] at this
        rw [this]; rfl
      have hP := k1.p _ (ix_mem (i := (i : Int)) (by omega) (by omega))
      have ei : ix (bSt nx g.toNat first n).1 (i : Int) = ix (bSt nx g.toNat first i).1 (i : Int) := hgr.ix1 (by omega) (by omega)
      have ej : ix (bSt nx g.toNat first n).2 (i : Int) = ix (bSt nx g.toNat first i).2 (i : Int) := hgr.ix2 (by omega) (by omega)
      rw [det_seeks_L3_eq]; unfold det_seeks_L3_B
      rw [if_pos (by rw [decide_eq_true_iff, List.length_drop]; omega), G_pos (by rw [List.length_drop]; omega), G_pos (by rw [List.length_drop]; show (0 : Nat) < _; omega), e0, hok _ hP]
      show ∃ r, (if okb (ix (bSt nx g.toNat first i).1 (i : Int)) = true then _ else _) = some r ∧ _
      cases c : okb (ix (bSt nx g.toNat first i).1 (i : Int)) with
      | true =>
        rw [if_pos rfl, G_pos (by rw [List.length_drop]; omega), G_pos (by rw [List.length_drop]; show (0 : Nat) < _; omega), mget_at k1.nd hxl (by omega) (by omega)]
        exact ⟨_, rfl, .inl ⟨i, by omega, by rw [ei]; exact c, hno, by rw [ej]⟩⟩
      | false =>
        rw [if_neg (by simp)]
        obtain ⟨r, r1, r2⟩ := ih (i + 1) (by omega) (by omega) (fun j hj => by
          by_cases e : j = i
          · subst e; rw [ei, c]; simp
          · exact hno j (by omega))
        refine ⟨r, ?_, r2⟩
        rw [← r1]
        exact det_seeks_row hb hN hg hnx k1 hlt _ 0 rfl (by omega)
  exact key _ 0 rfl (by omega) (fun j hj => by omega)

/- Pairs of states. -/
def NX (a b : Dt) (s : Int × Int × Unit) (t : Int) : Int × Int × Unit := (ix (ix a.2.2.1 s.1) t, ix (ix b.2.2.1 s.2.1) t, ())
def okM (a b : Dt) (s : Int × Int × Unit) : Bool := decide (¬ ix a.2.2.2.1 s.1 = ix b.2.2.2.1 s.2.1)
def PR (a b : Dt) (s : Int × Int × Unit) : Prop := (0 ≤ s.1 ∧ s.1 < a.2.2.1.length) ∧ 0 ≤ s.2.1 ∧ s.2.1 < b.2.2.1.length
theorem pair_code {p q p' q' n : Int} (h : 0 ≤ q ∧ q < n) (h' : 0 ≤ q' ∧ q' < n) (e : p * n + q = p' * n + q') : p = p' ∧ q = q' := by
  have e1 : (p * n + q) / n = p := by
    rw [Int.mul_comm, Int.mul_add_ediv_left _ _ (by omega), Int.ediv_eq_zero_of_lt h.1 h.2]; omega
  have e2 : (p' * n + q') / n = p' := by
    rw [Int.mul_comm, Int.mul_add_ediv_left _ _ (by omega), Int.ediv_eq_zero_of_lt h'.1 h'.2]; omega
  have : p = p' := by rw [← e1, ← e2, e]
  subst this
  exact ⟨rfl, by omega⟩
theorem pair_lt {p q n m : Int} (h : 0 ≤ p ∧ p < m) (h' : 0 ≤ q ∧ q < n) : 0 ≤ p * n + q ∧ p * n + q < m * n := by
  have h1 : 0 ≤ p * n := Int.mul_nonneg h.1 (by omega)
  have h2 : (p + 1) * n ≤ m * n := Int.mul_le_mul_of_nonneg_right (by omega) (by omega)
  rw [Int.add_mul] at h2
  omega
theorem BOk_pairs {a b : Dt} {mb mb' : Int → Prop} (ha : DOk 3000 mb a) (hb : DOk 3000 mb' b) (hL : a.1 = b.1) {s : Int × Int × Unit} (hs : PR a b s) : BOk (NX a b) a.1.toNat s (a.2.2.1.length * b.2.2.1.length) (PR a b) := by
  have hn := hb.n1
  refine ⟨hs, fun s hs t t0 t1 => ?_, fun l hl hp => ?_⟩
  · have h1 := ha.tab.stpb hs.1.1 hs.1.2 t0 (by omega)
    have h2 := hb.tab.stpb hs.2.1 hs.2.2 t0 (by omega)
    exact ⟨h1, h2⟩
  · have hnd : (l.map fun s : Int × Int × Unit => s.1 * (b.2.2.1.length : Int) + s.2.1).Nodup := by
      refine List.Pairwise.map _ ?_ (List.Pairwise.and_mem.1 hl)
      rintro ⟨p, q, u⟩ ⟨p', q', u'⟩ ⟨hx, hy, hne⟩ e
      obtain ⟨rfl, rfl⟩ := pair_code (hp _ hx).2 (hp _ hy).2 e
      exact hne rfl
    have := pigeon_int (n := a.2.2.1.length * b.2.2.1.length) hnd (fun v hv => by
      obtain ⟨s, hs, rfl⟩ := List.mem_map.1 hv
      have := pair_lt (hp s hs).1 (hp s hs).2
      push_cast
      exact this)
    rwa [List.length_map] at this
theorem pairs_le {a b : Dt} {mb mb' : Int → Prop} (ha : DOk 3000 mb a) (hb : DOk 3000 mb' b) : a.2.2.1.length * b.2.2.1.length ≤ 9000000 := by
  have := Nat.mul_le_mul (show a.2.2.1.length ≤ 3000 by have := ha.n1; omega) (show b.2.2.1.length ≤ 3000 by have := hb.n1; omega)
  omega
theorem NX_walk {a b : Dt} : ∀ (w : List Int) (s : Int × Int × Unit), w.foldl (NX a b) s = (wlk a.2.2.1 s.1 w, wlk b.2.2.1 s.2.1 w, ())
  | [], s => rfl
  | x :: w, s => NX_walk w (NX a b s x)

theorem det_Key_spec {l : List Int} (hl : l.length ≤ 1000000) : det_Key l = some (keyB l) := by
  have key : ∀ (n : Nat) (t : Int), (l.length - t).toNat = n → 0 ≤ t → t ≤ l.length → det_Key_L3 l t (keyL (l.take t.toNat)) = some (keyB l) := by
    intro n
    induction n with
    | zero =>
      intro t hn h0 h1
      rw [det_Key_L3_eq]; unfold det_Key_L3_B
      rw [if_neg (by simp; omega), List.take_of_length_le (by omega)]; rfl
    | succ n ih =>
      intro t hn h0 h1
      rw [det_Key_L3_eq]; unfold det_Key_L3_B
      have hk := keyL_len (l.take t.toNat)
      rw [List.length_take] at hk
      rw [if_pos (by simp; omega)]
      refine G_to (by omega) (G_to (by omega) (G_to (by unfold room; simp; omega) (G_to (by unfold fits; omega) ?_)))
      rw [← ih (t + 1) (by omega) (by omega) (by omega), ix_take h0 (by omega)]
      unfold keyL
      rw [List.flatMap_append]
      rfl
  unfold det_Key
  exact key _ 0 rfl (by omega) (by omega)
theorem mget_nz {α : Type} {ks : List α} {vs : List Int} {x : α} (hl : vs.length = ks.length) (hv : ∀ v ∈ vs, v ≠ 0) : mget ks vs x 0 = 0 ↔ x ∉ ks := by
  unfold mget
  cases e : mfind ks x with
  | none => simp [mfind_none.1 e]
  | some j =>
    have hj := mfind_lt e
    have hx := List.mem_of_getElem? (mfind_get e)
    have h1 : vs.getD j 0 = vs[j] := by simp [List.getD_eq_getElem?_getD, show j < vs.length by omega]
    have := hv _ (List.getElem_mem (show j < vs.length by omega))
    show vs.getD j 0 = 0 ↔ _
    rw [h1]
    exact ⟨fun e2 => absurd e2 this, fun e2 => absurd hx e2⟩
/-- All rows of so many numbers below b. -/
def allV (b : Nat) : Nat → List (List Int)
  | 0 => [[]]
  | n + 1 => (allV b n).flatMap fun l => (List.range b).map fun x : Nat => (x : Int) :: l
theorem allV_len (b : Nat) : ∀ n, (allV b n).length = b ^ n
  | 0 => rfl
  | n + 1 => by
    unfold allV
    have key : ∀ u : List (List Int), (u.flatMap fun l => (List.range b).map fun x : Nat => (x : Int) :: l).length = u.length * b := by
      intro u
      induction u with
      | nil => simp
      | cons x u ih => rw [List.flatMap_cons, List.length_append, ih, List.length_map, List.length_range, List.length_cons, Nat.succ_mul, Nat.add_comm]
    rw [key, allV_len b n, Nat.pow_succ]
theorem allV_mem {b : Nat} : ∀ {l : List Int}, (∀ x ∈ l, 0 ≤ x ∧ x < b) → l ∈ allV b l.length
  | [], _ => by simp [allV]
  | x :: l, h => by
    have hx := h x (by simp)
    rw [List.length_cons, allV, List.mem_flatMap]
    exact ⟨l, allV_mem (fun y hy => h y (by simp [hy])), List.mem_map.2 ⟨x.toNat, List.mem_range.2 (by omega), by rw [Int.toNat_of_nonneg hx.1]⟩⟩

section
variable {o : Dt}
abbrev El := List Int × List Int × Unit
structure MOk (o : Dt) : Prop where
  tab : Tab o.1 o.2.2.1
  let1 : 1 ≤ o.1 ∧ o.1 ≤ 4
  n1 : 1 ≤ o.2.2.1.length ∧ o.2.2.1.length ≤ 5
def does (o : Dt) (w : List Int) : List Int := mkR o.2.2.1.length fun q => wlk o.2.2.1 q w
abbrev LetOk (o : Dt) (w : List Int) : Prop := ∀ a ∈ w, 0 ≤ a ∧ a < o.1
theorem does_len (w : List Int) : (does o w).length = o.2.2.1.length := mkR_len _ _
theorem does_ix {w : List Int} {q : Int} (q0 : 0 ≤ q) (q1 : q < o.2.2.1.length) : ix (does o w) q = wlk o.2.2.1 q w := mkR_ix q0 q1
theorem does_b (h : MOk o) {w : List Int} (hw : LetOk o w) : ∀ x ∈ does o w, 0 ≤ x ∧ x < o.2.2.1.length := by
  intro x hx
  obtain ⟨j, j0, j1, rfl⟩ := (ex_ix (P := fun y => y = x)).1 ⟨x, hx, rfl⟩
  rw [does_len] at j1
  rw [does_ix j0 j1]
  exact h.tab.wlkb j0 j1 hw
theorem does_snoc (w : List Int) (a : Int) : does o (w ++ [a]) = (does o w).map fun p => stp o.2.2.1 p a := by
  unfold does mkR
  rw [List.map_map]
  refine List.map_congr_left fun q _ => ?_
  show wlk _ _ (w ++ [a]) = stp _ (wlk _ _ w) a
  unfold wlk
  rw [List.foldl_append]; rfl
structure ElOk (o : Dt) (e : El) (j : Int) : Prop where
  does : e.1 = does o e.2.1
  lets : LetOk o e.2.1
  short : (e.2.1.length : Int) ≤ j
structure LOk (o : Dt) (L : List El) : Prop where
  el : ∀ j : Int, 0 ≤ j → j < L.length → ElOk o (ix L j) j
  nd : (L.map Prod.fst).Nodup
theorem LOk.mem {L : List El} (h : LOk o L) {e : El} (he : e ∈ L) : ∃ j : Int, 0 ≤ j ∧ j < L.length ∧ ix L j = e := by
  obtain ⟨j, j0, j1, e2⟩ := (ex_ix (P := fun x => x = e)).1 ⟨e, he, rfl⟩
  exact ⟨j, j0, j1, e2⟩
theorem LOk.row {L : List El} (hm : MOk o) (h : LOk o L) {e : El} (he : e ∈ L) : e.1.length = o.2.2.1.length ∧ ∀ x ∈ e.1, 0 ≤ x ∧ x < o.2.2.1.length := by
  obtain ⟨j, j0, j1, rfl⟩ := h.mem he
  have hel := h.el j j0 j1
  rw [hel.does]
  exact ⟨does_len _, does_b hm hel.lets⟩
theorem LOk.len {L : List El} (hm : MOk o) (h : LOk o L) : L.length ≤ 3125 := by
  have hn := hm.n1
  have := pigeon (U := allV 5 o.2.2.1.length) h.nd (fun x hx => by
    obtain ⟨e, he, rfl⟩ := List.mem_map.1 hx
    obtain ⟨h1, h2⟩ := h.row hm he
    have := allV_mem (b := 5) (l := e.1) (fun y hy => by have := h2 y hy; omega)
    rwa [h1] at this)
  rw [List.length_map, allV_len] at this
  have h4 : 5 ^ o.2.2.1.length ≤ 5 ^ 5 := Nat.pow_le_pow_right (by omega) hn.2
  omega
theorem LOk.push {L : List El} (hm : MOk o) (h : LOk o L) {i a : Int} (i0 : 0 ≤ i) (i1 : i < L.length) (a0 : 0 ≤ a) (a1 : a < o.1) (hn : does o ((ix L i).2.1 ++ [a]) ∉ L.map Prod.fst) : LOk o (L ++ [(does o ((ix L i).2.1 ++ [a]), (ix L i).2.1 ++ [a], ())]) := by
  refine ⟨fun j j0 j1 => ?_, ?_⟩
  · rw [List.length_append, List.length_singleton] at j1
    by_cases e : j < L.length
    · rw [ix_append_left j0 e]; exact h.el j j0 e
    · obtain rfl : j = L.length := by omega
      rw [ix_append_last]
      have := h.el i i0 i1
      refine ⟨rfl, fun b hb => (List.mem_append.1 hb).elim (this.lets b) (fun e => by rw [List.mem_singleton.1 e]; exact ⟨a0, a1⟩), ?_⟩
      rw [List.length_append, List.length_singleton]
      have := this.short
      omega
  · rw [List.map_append, List.nodup_append]
    exact ⟨h.nd, by simp, fun u hu v hv => by rw [List.map_singleton, List.mem_singleton] at hv; rw [hv]; rintro rfl; exact hn hu⟩
def keyE (e : El) : List UInt8 := keyB e.1
theorem keyE_iff {L : List El} (hm : MOk o) (h : LOk o L) {w : List Int} (hw : LetOk o w) : keyB (does o w) ∈ L.map keyE ↔ does o w ∈ L.map Prod.fst := by
  have hn := hm.n1
  rw [List.mem_map, List.mem_map]
  constructor
  · rintro ⟨e, he, e2⟩
    refine ⟨e, he, keyB_inj (fun x hx => ?_) (fun x hx => ?_) e2⟩
    · have := (h.row hm he).2 x hx; omega
    · have := does_b hm hw x hx; omega
  · rintro ⟨e, he, e2⟩; exact ⟨e, he, by unfold keyE; rw [e2]⟩
theorem el_L17 (hm : MOk o) {L : List El} (h : LOk o L) {i t : Int} (i0 : 0 ≤ i) (i1 : i < L.length) (t0 : 0 ≤ t) (t1 : t < o.1) {vs : List Int} (hl : vs.length = L.length) (hv : ∀ v ∈ vs, v ≠ 0) {r13} :
    monoid_elements_L17 o i t (L.map keyE) vs L r13 0 ((ix L i).2.1 ++ [t]) [] = if does o ((ix L i).2.1 ++ [t]) ∈ L.map Prod.fst then r13 (t + 1) (L.map keyE) vs L
      else r13 (t + 1) ((L ++ [(does o ((ix L i).2.1 ++ [t]), (ix L i).2.1 ++ [t], ())]).map keyE) (vs ++ [(L.length : Int) + 1]) (L ++ [(does o ((ix L i).2.1 ++ [t]), (ix L i).2.1 ++ [t], ())]) := by
  have hn := hm.n1
  have hl1 := hm.let1
  have hL := h.len hm
  have hel := h.el i i0 i1
  have hsh := hel.short
  have hdl : (ix L i).1.length = o.2.2.1.length := by rw [hel.does]; exact does_len _
  have hw' : LetOk o ((ix L i).2.1 ++ [t]) := fun b hb => (List.mem_append.1 hb).elim (hel.lets b) (fun e => by rw [List.mem_singleton.1 e]; exact ⟨t0, t1⟩)
  have hres : (ix L i).1.map (fun p => stp o.2.2.1 p t) = does o ((ix L i).2.1 ++ [t]) := by rw [does_snoc, ← hel.does]
  have key : ∀ (n : Nat) (k : Int), ((ix L i).1.length - k).toNat = n → 0 ≤ k → k ≤ (ix L i).1.length → monoid_elements_L17 o i t (L.map keyE) vs L r13 k ((ix L i).2.1 ++ [t]) (((ix L i).1.take k.toNat).map fun p => stp o.2.2.1 p t) =
      monoid_elements_L17 o i t (L.map keyE) vs L r13 (ix L i).1.length ((ix L i).2.1 ++ [t]) (does o ((ix L i).2.1 ++ [t])) := by
    intro n
    induction n with
    | zero =>
      intro k hk k0 k1
      obtain rfl : k = (ix L i).1.length := by omega
      rw [List.take_of_length_le (by omega), hres]
    | succ n ih =>
      intro k hk k0 k1
      have hp := (h.row hm (ix_mem i0 i1)).2 _ (ix_mem k0 (by omega : k < (ix L i).1.length))
      have hrl := hm.tab.rowlen hp.1 hp.2
      rw [← ih (k + 1) (by omega) (by omega) (by omega)]
      conv => lhs; rw [monoid_elements_L17_eq]; unfold monoid_elements_L17_B
      rw [if_pos (by simp; omega), ix_take k0 (by omega), List.map_append]
      exact G_to (by omega) (G_to (by omega) (G_to (by omega) (G_to (by unfold room; simp; omega) (G_to (by unfold fits; omega) rfl))))
  refine (key _ 0 rfl (by omega) (by omega)).trans ?_
  rw [monoid_elements_L17_eq]; unfold monoid_elements_L17_B
  rw [if_neg (by simp)]
  refine bind_to (det_Key_spec (by rw [does_len]; omega)) ?_
  have kn := keyE_iff hm h hw'
  unfold monoid_elements_J24
  have hl' : vs.length = (L.map keyE).length := by rw [List.length_map]; exact hl
  by_cases c : does o ((ix L i).2.1 ++ [t]) ∈ L.map Prod.fst
  · rw [if_neg (fun hh => (mget_nz hl' hv).1 (of_decide_eq_true hh) (kn.2 c)), if_pos c]
    exact G_to (by unfold fits; omega) rfl
  · have hk : keyB (does o ((ix L i).2.1 ++ [t])) ∉ L.map keyE := fun hh => c (kn.1 hh)
    rw [if_pos (decide_eq_true ((mget_nz hl' hv).2 hk)), if_neg c, mputK_new hk]
    refine G_to (by unfold room; simp; omega) (G_to (by unfold fits; omega) ?_)
    have : mputV (L.map keyE) vs (keyB (does o ((ix L i).2.1 ++ [t]))) (((L ++ [(does o ((ix L i).2.1 ++ [t]), (ix L i).2.1 ++ [t], ())]).length : Int)) = vs ++ [(L.length : Int) + 1] := by
      unfold mputV; rw [mfind_none.2 hk, List.length_append, List.length_singleton]; rfl
    rw [this, List.map_append]; rfl
theorem el_letters (hm : MOk o) {i : Int} (i0 : 0 ≤ i) {r10} : ∀ (n : Nat) (t : Int) (L : List El) (vs : List Int), (o.1 - t).toNat = n → 0 ≤ t → t ≤ o.1 → LOk o L → i < L.length → vs.length = L.length → (∀ v ∈ vs, v ≠ 0) →
    ∃ x vs', LOk o (L ++ x) ∧ vs'.length = (L ++ x).length ∧ (∀ v ∈ vs', v ≠ 0) ∧ monoid_elements_L13 o i r10 t (L.map keyE) vs L = r10 (i + 1) ((L ++ x).map keyE) vs' (L ++ x) ∧ ∀ a, t ≤ a → a < o.1 → does o ((ix L i).2.1 ++ [a]) ∈ (L ++ x).map Prod.fst := by
  have hl1 := hm.let1
  intro n
  induction n with
  | zero =>
    intro t L vs hn t0 t1 h i1 hl hv
    have hL := h.len hm
    refine ⟨[], vs, by simpa using h, by simpa using hl, hv, ?_, fun a h1 h2 => by omega⟩
    rw [monoid_elements_L13_eq]; unfold monoid_elements_L13_B
    rw [if_neg (by simp; omega), List.append_nil]
    exact G_to (by unfold fits; omega) rfl
  | succ n ih =>
    intro t L vs hn t0 t1 h i1 hl hv
    have hL := h.len hm
    have hel := h.el i i0 i1
    have hsh := hel.short
    have hw' : LetOk o ((ix L i).2.1 ++ [t]) := fun b hb => (List.mem_append.1 hb).elim (hel.lets b) (fun e => by rw [List.mem_singleton.1 e]; exact ⟨t0, by omega⟩)
    have eP : monoid_elements_L13 o i r10 t (L.map keyE) vs L = monoid_elements_L17 o i t (L.map keyE) vs L (monoid_elements_L13 o i r10) 0 ((ix L i).2.1 ++ [t]) [] := by
      conv => lhs; rw [monoid_elements_L13_eq]; unfold monoid_elements_L13_B
      rw [if_pos (by simp; omega)]
      refine G_to (by omega) (G_to (by omega) ?_)
      refine bind_to (slices_Clone_spec (by omega)) ?_
      exact G_to (by unfold room; simp; omega) (G_to (by omega) (G_to (by omega) rfl))
    rw [eP, el_L17 hm h i0 i1 t0 (by omega) hl hv]
    by_cases c : does o ((ix L i).2.1 ++ [t]) ∈ L.map Prod.fst
    · rw [if_pos c]
      obtain ⟨x, vs', y1, y2, y3, y4, y5⟩ := ih (t + 1) L vs (by omega) (by omega) (by omega) h i1 hl hv
      refine ⟨x, vs', y1, y2, y3, y4, fun a h1 h2 => ?_⟩
      by_cases e : a = t
      · rw [e, List.map_append]; exact List.mem_append_left _ c
      · exact y5 a (by omega) h2
    · rw [if_neg c]
      obtain ⟨x, vs', y1, y2, y3, y4, y5⟩ := ih (t + 1) (L ++ [(does o ((ix L i).2.1 ++ [t]), (ix L i).2.1 ++ [t], ())]) (vs ++ [(L.length : Int) + 1]) (by omega) (by omega) (by omega) (h.push hm i0 i1 t0 (by omega) c) (by rw [List.length_append]; omega) (by simp [hl]) (fun v hv' => (List.mem_append.1 hv').elim (hv v) (fun e => by rw [List.mem_singleton.1 e]; omega))
      rw [ix_append_left i0 i1] at y5
      rw [List.append_assoc] at y1 y2 y4 y5
      refine ⟨_, vs', y1, y2, y3, y4, fun a h1 h2 => ?_⟩
      by_cases e : a = t
      · rw [e]; simp
      · exact y5 a (by omega) h2
theorem el_main (hm : MOk o) : ∀ (N : Nat) (i : Int) (L : List El) (vs : List Int), (3125 - i).toNat = N → 0 ≤ i → i ≤ L.length → LOk o L → vs.length = L.length → (∀ v ∈ vs, v ≠ 0) → (∀ j a : Int, 0 ≤ j → j < i → 0 ≤ a → a < o.1 → does o ((ix L j).2.1 ++ [a]) ∈ L.map Prod.fst) →
    ∃ R x, R = L ++ x ∧ LOk o R ∧ monoid_elements_L10 o i (L.map keyE) vs L = some R ∧ (∀ j a : Int, 0 ≤ j → j < R.length → 0 ≤ a → a < o.1 → does o ((ix R j).2.1 ++ [a]) ∈ R.map Prod.fst) := by
  have hl1 := hm.let1
  intro N
  induction N using Nat.strongRecOn with
  | ind N ih =>
  intro i L vs hN i0 i1 h hl hv hcl
  have hL := h.len hm
  rw [monoid_elements_L10_eq]; unfold monoid_elements_L10_B
  by_cases e : i < L.length
  · obtain ⟨x, vs', y1, y2, y3, y4, y5⟩ := el_letters (r10 := monoid_elements_L10 o) hm i0 _ 0 L vs rfl (by omega) (by omega) h e hl hv
    obtain ⟨R, z, zR, z1, z2, z3⟩ := ih (3125 - (i + 1)).toNat (by omega) (i + 1) (L ++ x) vs' rfl (by omega) (by rw [List.length_append]; omega) y1 y2 y3 (fun j a j0 j1 a0 a1 => by
      rw [ix_append_left j0 (by omega)]
      by_cases e2 : j = i
      · rw [e2]; exact y5 a a0 a1
      · rw [List.map_append]; exact List.mem_append_left _ (hcl j a j0 (by omega) a0 a1))
    refine ⟨R, x ++ z, by rw [zR, List.append_assoc], z1, ?_, z3⟩
    rw [if_pos (by simp; omega)]; exact y4.trans z2
  · refine ⟨L, [], by simp, h, ?_, fun j a j0 j1 a0 a1 => hcl j a j0 (by omega) a0 a1⟩
    rw [if_neg (by simp; omega)]
theorem elements_all (hm : MOk o) : ∃ R, LOk o R ∧ monoid_elements o = some R ∧ ∀ w, LetOk o w → does o w ∈ R.map Prod.fst := by
  have hn := hm.n1
  have hnil : LetOk o [] := fun a ha => by cases ha
  have h1 : LOk o [(does o [], [], ())] := ⟨fun j j0 j1 => by
    obtain rfl : j = 0 := by simp at j1; omega
    exact ⟨rfl, hnil, by show ((0 : Nat) : Int) ≤ 0; omega⟩, by simp⟩
  obtain ⟨R, x, zR, z1, z2, z3⟩ := el_main hm _ 0 [(does o [], [], ())] [1] rfl (by omega) (by simp) h1 rfl (by simp) (fun j a j0 j1 => by omega)
  refine ⟨R, z1, ?_, ?_⟩
  · have key : ∀ (n : Nat) (t : Int) (first : List Int), (o.2.2.1.length - t).toNat = n → 0 ≤ t → t ≤ o.2.2.1.length → first.length = t → (∀ j : Int, 0 ≤ j → j < t → ix first j = j) → monoid_elements_L3 o t first = some R := by
      intro n
      induction n with
      | zero =>
        intro t first hn2 t0 t1 hl hj
        have : first = does o [] := ix_ext (by rw [does_len]; omega) fun j j0 j1 => by rw [hj j j0 (by omega), does_ix j0 (by omega)]; rfl
        rw [monoid_elements_L3_eq]; unfold monoid_elements_L3_B
        rw [if_neg (by simp; omega), this]
        refine bind_to (det_Key_spec (by rw [does_len]; omega)) ?_
        exact z2
      | succ n ih =>
        intro t first hn2 t0 t1 hl hj
        rw [monoid_elements_L3_eq]; unfold monoid_elements_L3_B
        rw [if_pos (by simp; omega)]
        refine G_to (by unfold room; simp; omega) (G_to (by unfold fits; omega) ?_)
        refine ih (t + 1) _ (by omega) (by omega) (by omega) (by simp; omega) (fun j j0 j1 => ?_)
        by_cases e : j < t
        · rw [ix_append_left j0 (by omega)]; exact hj j j0 e
        · obtain rfl : j = first.length := by omega
          rw [ix_append_last, hl]
    unfold monoid_elements
    exact key _ 0 [] rfl (by omega) (by omega) rfl (fun j j0 j1 => by omega)
  · have key : ∀ (m : Nat) (w : List Int), w.length = m → LetOk o w → does o w ∈ R.map Prod.fst := by
      intro m
      induction m with
      | zero =>
        intro w hw hl
        obtain rfl := List.length_eq_zero_iff.1 hw
        rw [zR]; simp
      | succ m ih =>
        intro w hw hl
        have hne : w ≠ [] := by rintro rfl; simp at hw
        have ew := List.dropLast_concat_getLast hne
        have hl1 : LetOk o w.dropLast := fun a ha => hl a ((List.dropLast_sublist w).subset ha)
        have hla := hl _ (List.getLast_mem hne)
        obtain ⟨e, he, ee⟩ := List.mem_map.1 (ih w.dropLast (by rw [List.length_dropLast]; omega) hl1)
        obtain ⟨j, j0, j1, rfl⟩ := z1.mem he
        have := z3 j _ j0 j1 hla.1 hla.2
        rw [does_snoc, ← (z1.el j j0 j1).does, ee, ← does_snoc, ew] at this
        exact this
    exact fun w hw => key _ w rfl hw
end

section
variable {o : Dt}
theorem r3_After_el (h : MOk o) {w : List Int} (hw : LetOk o w) (hl : w.length ≤ 1000000) {q : Int} (q0 : 0 ≤ q) (q1 : q < o.2.2.1.length) : r3_After o q w = some (wlk o.2.2.1 q w) :=
  r3_After_spec (d := o) h.tab hw hl q0 q1
theorem r4_Does_spec (h : MOk o) {w : List Int} (hw : LetOk o w) (hl : w.length ≤ 1000000) : r4_Does o w = some (does o w) := by
  have hn := h.n1
  have key : ∀ (n : Nat) (q : Int) (out : List Int), (o.2.2.1.length - q).toNat = n → 0 ≤ q → q ≤ o.2.2.1.length → out.length = q → (∀ j : Int, 0 ≤ j → j < q → ix out j = ix (does o w) j) → r4_Does_L3 o w q out = some (does o w) := by
    intro n
    induction n with
    | zero =>
      intro q out hn2 q0 q1 ho hj
      rw [r4_Does_L3_eq]; unfold r4_Does_L3_B
      rw [if_neg (by simp; omega)]
      exact congrArg some (ix_ext (by rw [does_len]; omega) fun j j0 j1 => hj j j0 (by omega))
    | succ n ih =>
      intro q out hn2 q0 q1 ho hj
      rw [r4_Does_L3_eq]; unfold r4_Does_L3_B
      rw [if_pos (by simp; omega)]
      refine bind_to (r3_After_el h hw hl q0 (by omega)) ?_
      refine G_to (by unfold room; simp; omega) (G_to (by unfold fits; omega) ?_)
      refine ih (q + 1) _ (by omega) (by omega) (by omega) (by simp; omega) (fun j j0 j1 => ?_)
      by_cases e : j < q
      · rw [ix_append_left j0 (by omega)]; exact hj j j0 e
      · obtain rfl : j = out.length := by omega
        rw [ix_append_last, does_ix (by omega) (by omega), ho]
  unfold r4_Does
  exact key _ 0 [] rfl (by omega) (by omega) rfl (fun j j0 j1 => by omega)
end

theorem det_mk (m : Int) : Tells (det_Check_4 m) (badD m) := by
  unfold det_Check_4
  by_cases h : m = 0
  · rw [if_neg (by simpa using h)]; exact Tells.of (by simp [h])
  · rw [if_pos (by simpa using h)]; exact Tells.dec (by simp [h])
theorem det_Check_spec {d : Dt} : det_Check d = some (detE 3000 badD d) := by
  unfold det_Check detE
  by_cases c1 : d.1 < 1 ∨ 4 < d.1
  · rw [if_pos c1]
    (try dsimp only); (repeat' first | (with_reducible refine G_to ?_ ?_; focus (first | omega | (unfold fits; omega) | (unfold room; (try simp only [List.length_append, List.length_cons, List.length_nil]); omega))) | (with_reducible refine both_to ?_ ?_) | (with_reducible refine itet_to ?_) | (with_reducible refine itef_to ?_) | (with_reducible refine ite_to (fun _ => ?_) (fun _ => ?_))) <;> try (exfalso; omega)
    all_goals rfl
  rw [if_neg c1]
  by_cases c2 : DBig 3000 d
  · rw [if_pos c2]; unfold DBig at c2
    (try dsimp only); (repeat' first | (with_reducible refine G_to ?_ ?_; focus (first | omega | (unfold fits; omega) | (unfold room; (try simp only [List.length_append, List.length_cons, List.length_nil]); omega))) | (with_reducible refine both_to ?_ ?_) | (with_reducible refine itet_to ?_) | (with_reducible refine itef_to ?_) | (with_reducible refine ite_to (fun _ => ?_) (fun _ => ?_))) <;> try (exfalso; omega)
    all_goals rfl
  rw [if_neg c2]
  unfold DBig at c2
  by_cases c3 : (d.2.2.2.1.length : Int) = d.2.2.1.length
  case neg =>
    rw [if_pos (show DRag d from .inl c3)]
    (try dsimp only); (repeat' first | (with_reducible refine G_to ?_ ?_; focus (first | omega | (unfold fits; omega) | (unfold room; (try simp only [List.length_append, List.length_cons, List.length_nil]); omega))) | (with_reducible refine both_to ?_ ?_) | (with_reducible refine itet_to ?_) | (with_reducible refine itef_to ?_) | (with_reducible refine ite_to (fun _ => ?_) (fun _ => ?_))) <;> try (exfalso; omega)
    all_goals rfl
  (try dsimp only); (repeat' first | (with_reducible refine G_to ?_ ?_; focus (first | omega | (unfold fits; omega) | (unfold room; (try simp only [List.length_append, List.length_cons, List.length_nil]); omega))) | (with_reducible refine both_to ?_ ?_) | (with_reducible refine itet_to ?_) | (with_reducible refine itef_to ?_) | (with_reducible refine ite_to (fun _ => ?_) (fun _ => ?_))) <;> try (exfalso; omega)
  have k1 : Tells (slices_ContainsFunc d.2.2.1 d) (∃ r ∈ d.2.2.1, ¬ (r.length : Int) = d.1) := contains_tells (f := fun r => det_Check_1 r d) (slices_IndexFunc_L2_eq d.2.2.1 d) (by omega) (fun x _ => Tells.dec Iff.rfl)
  have nn : ∀ q t : Int, Tells (det_Check_2 q t) (q < 0 ∨ t ≤ q) := fun q t => by
    unfold det_Check_2
    by_cases h : q < 0
    · rw [if_pos (decide_eq_true h)]; exact Tells.of (by simp [h])
    · rw [if_neg (by simpa using h)]; exact Tells.dec (by omega)
  have k2 : ∀ r ∈ d.2.2.1, r.length ≤ 1000 → Tells (slices_ContainsFunc_2 r (d.2.2.1.length : Int)) (∃ q ∈ r, q < 0 ∨ (d.2.2.1.length : Int) ≤ q) := fun r _ hr => contains_tells (f := fun q => det_Check_2 q (d.2.2.1.length : Int)) (slices_IndexFunc_2_L2_eq r (d.2.2.1.length : Int)) (by omega) (fun x _ => nn x _)
  have k4 : Tells (slices_ContainsFunc_3 d.2.2.2.1) (∃ s ∈ d.2.2.2.1, (badD) s) := contains_tells (f := fun q => det_Check_4 q) (slices_IndexFunc_3_L2_eq d.2.2.2.1) (by omega) (fun x _ => det_mk x)
  refine k1.to (fun h => by rw [if_pos (show DRag d from .inr h)]) (fun h => ?_)
  rw [if_neg (show ¬ DRag d from fun hh => hh.elim (fun e => e c3) h)]
  have hr : ∀ r ∈ d.2.2.1, r.length ≤ 1000 := fun r hr => by
    by_cases e : (r.length : Int) = d.1
    · omega
    · exact absurd ⟨r, hr, e⟩ h
  refine (nn _ _).to (fun h => by rw [if_pos (show DOut _ d from .inl h)]) (fun h1 => ?_)
  obtain ⟨b, hb, hb2⟩ : ∃ b, slices_ContainsFunc_1 d.2.2.1 (d.2.2.1.length : Int) = some (b, (d.2.2.1.length : Int)) ∧ (b = true ↔ ∃ r ∈ d.2.2.1, ∃ q ∈ r, q < 0 ∨ (d.2.2.1.length : Int) ≤ q) :=
    contains_tells2 (f := det_Check_3) (slices_IndexFunc_1_L2_eq d.2.2.1) (by omega) (fun r hrm => by
      obtain ⟨b, e, e2⟩ := k2 r hrm (hr r hrm)
      exact ⟨b, by unfold det_Check_3; rw [e]; rfl, e2⟩)
  rw [hb]
  refine bind_to rfl ?_
  refine iteb_to (fun h => by rw [if_pos (show DOut _ d from .inr (.inl (hb2.1 h)))]) (fun h2 => ?_)
  refine k4.to (fun h => by rw [if_pos (show DOut _ d from .inr (.inr h))]) (fun h3 => ?_)
  rw [if_neg (show ¬ DOut _ d from fun h => h.elim h1 (fun h => h.elim (fun h => by rw [hb2.2 h] at h2; cases h2) h3))]

theorem r3_Check_spec {d : Dt} : r3_Check d = some (detE 3000 badD d) := by
  unfold r3_Check detE
  by_cases c1 : d.1 < 1 ∨ 4 < d.1
  · rw [if_pos c1]
    (try dsimp only); (repeat' first | (with_reducible refine G_to ?_ ?_; focus (first | omega | (unfold fits; omega) | (unfold room; (try simp only [List.length_append, List.length_cons, List.length_nil]); omega))) | (with_reducible refine both_to ?_ ?_) | (with_reducible refine itet_to ?_) | (with_reducible refine itef_to ?_) | (with_reducible refine ite_to (fun _ => ?_) (fun _ => ?_))) <;> try (exfalso; omega)
    all_goals rfl
  rw [if_neg c1]
  by_cases c2 : DBig 3000 d
  · rw [if_pos c2]; unfold DBig at c2
    (try dsimp only); (repeat' first | (with_reducible refine G_to ?_ ?_; focus (first | omega | (unfold fits; omega) | (unfold room; (try simp only [List.length_append, List.length_cons, List.length_nil]); omega))) | (with_reducible refine both_to ?_ ?_) | (with_reducible refine itet_to ?_) | (with_reducible refine itef_to ?_) | (with_reducible refine ite_to (fun _ => ?_) (fun _ => ?_))) <;> try (exfalso; omega)
    all_goals rfl
  rw [if_neg c2]
  unfold DBig at c2
  by_cases c3 : (d.2.2.2.1.length : Int) = d.2.2.1.length
  case neg =>
    rw [if_pos (show DRag d from .inl c3)]
    (try dsimp only); (repeat' first | (with_reducible refine G_to ?_ ?_; focus (first | omega | (unfold fits; omega) | (unfold room; (try simp only [List.length_append, List.length_cons, List.length_nil]); omega))) | (with_reducible refine both_to ?_ ?_) | (with_reducible refine itet_to ?_) | (with_reducible refine itef_to ?_) | (with_reducible refine ite_to (fun _ => ?_) (fun _ => ?_))) <;> try (exfalso; omega)
    all_goals rfl
  (try dsimp only); (repeat' first | (with_reducible refine G_to ?_ ?_; focus (first | omega | (unfold fits; omega) | (unfold room; (try simp only [List.length_append, List.length_cons, List.length_nil]); omega))) | (with_reducible refine both_to ?_ ?_) | (with_reducible refine itet_to ?_) | (with_reducible refine itef_to ?_) | (with_reducible refine ite_to (fun _ => ?_) (fun _ => ?_))) <;> try (exfalso; omega)
  refine scan_to (len := (d.2.2.1.length : Int)) (bad := fun t => ¬ ((ix d.2.2.1 t).length : Int) = d.1) (by omega) (fun t h0 h1 => ⟨fun hb => ?_, fun hb => ?_⟩) (fun hh => ?_)
  · rw [r3_Check_L9_eq]; unfold r3_Check_L9_B
    (try dsimp only); (repeat' first | (with_reducible refine G_to ?_ ?_; focus (first | omega | (unfold fits; omega) | (unfold room; (try simp only [List.length_append, List.length_cons, List.length_nil]); omega))) | (with_reducible refine both_to ?_ ?_) | (with_reducible refine itet_to ?_) | (with_reducible refine itef_to ?_) | (with_reducible refine ite_to (fun _ => ?_) (fun _ => ?_))) <;> try (exfalso; omega)
    rw [if_pos (show DRag d from .inr (ex_ix.2 ⟨t, by omega, by omega, hb⟩))]
  · conv => lhs; rw [r3_Check_L9_eq]; unfold r3_Check_L9_B
    (try dsimp only); (repeat' first | (with_reducible refine G_to ?_ ?_; focus (first | omega | (unfold fits; omega) | (unfold room; (try simp only [List.length_append, List.length_cons, List.length_nil]); omega))) | (with_reducible refine both_to ?_ ?_) | (with_reducible refine itet_to ?_) | (with_reducible refine itef_to ?_) | (with_reducible refine ite_to (fun _ => ?_) (fun _ => ?_))) <;> try (exfalso; omega)
    all_goals first | rfl | (exfalso; exact hb ‹_›) | (exfalso; exact absurd ‹_› hb)
  rw [if_neg (show ¬ DRag d from fun h => h.elim (fun e => e c3) (fun h => by obtain ⟨i, i0, i1, i2⟩ := ex_ix.1 h; exact hh i i0 i1 i2))]
  rw [r3_Check_L9_eq]; unfold r3_Check_L9_B
  by_cases c4 : d.2.1 < 0 ∨ (d.2.2.1.length : Int) ≤ d.2.1
  · rw [if_pos (show DOut _ d from .inl c4)]
    (try dsimp only); (repeat' first | (with_reducible refine G_to ?_ ?_; focus (first | omega | (unfold fits; omega) | (unfold room; (try simp only [List.length_append, List.length_cons, List.length_nil]); omega))) | (with_reducible refine both_to ?_ ?_) | (with_reducible refine itet_to ?_) | (with_reducible refine itef_to ?_) | (with_reducible refine ite_to (fun _ => ?_) (fun _ => ?_))) <;> try (exfalso; omega)
    all_goals rfl
  (try dsimp only); (repeat' first | (with_reducible refine G_to ?_ ?_; focus (first | omega | (unfold fits; omega) | (unfold room; (try simp only [List.length_append, List.length_cons, List.length_nil]); omega))) | (with_reducible refine both_to ?_ ?_) | (with_reducible refine itet_to ?_) | (with_reducible refine itef_to ?_) | (with_reducible refine ite_to (fun _ => ?_) (fun _ => ?_))) <;> try (exfalso; omega)
  have hlen : ∀ t : Int, 0 ≤ t → t < d.2.2.1.length → ((ix d.2.2.1 t).length : Int) = d.1 := fun t a b => Decidable.not_not.1 (hh t a b)
  refine scan_to (len := (d.2.2.1.length : Int)) (bad := fun t => ∃ q ∈ ix d.2.2.1 t, q < 0 ∨ (d.2.2.1.length : Int) ≤ q) (by omega) (fun t h0 h1 => ⟨fun hb => ?_, fun hb => ?_⟩) (fun hh2 => ?_)
  · rw [r3_Check_L16_eq]; unfold r3_Check_L16_B
    (try dsimp only); (repeat' first | (with_reducible refine G_to ?_ ?_; focus (first | omega | (unfold fits; omega) | (unfold room; (try simp only [List.length_append, List.length_cons, List.length_nil]); omega))) | (with_reducible refine both_to ?_ ?_) | (with_reducible refine itet_to ?_) | (with_reducible refine itef_to ?_) | (with_reducible refine ite_to (fun _ => ?_) (fun _ => ?_))) <;> try (exfalso; omega)
    have hlt := hlen t h0 h1
    refine scan_to (len := d.1) (bad := fun a => ix (ix d.2.2.1 t) a < 0 ∨ (d.2.2.1.length : Int) ≤ ix (ix d.2.2.1 t) a) (by omega) (fun a a0 a1 => ⟨fun hb => ?_, fun hb => ?_⟩) (fun hh3 => ?_)
    · rw [r3_Check_L19_eq]; unfold r3_Check_L19_B
      (try dsimp only); (repeat' first | (with_reducible refine G_to ?_ ?_; focus (first | omega | (unfold fits; omega) | (unfold room; (try simp only [List.length_append, List.length_cons, List.length_nil]); omega))) | (with_reducible refine both_to ?_ ?_) | (with_reducible refine itet_to ?_) | (with_reducible refine itef_to ?_) | (with_reducible refine ite_to (fun _ => ?_) (fun _ => ?_))) <;> try (exfalso; omega)
      all_goals rw [if_pos (show DOut _ d from .inr (.inl (ex_ix.2 ⟨t, h0, h1, ex_ix.2 ⟨a, a0, by omega, hb⟩⟩)))]
    · conv => lhs; rw [r3_Check_L19_eq]; unfold r3_Check_L19_B
      (try dsimp only); (repeat' first | (with_reducible refine G_to ?_ ?_; focus (first | omega | (unfold fits; omega) | (unfold room; (try simp only [List.length_append, List.length_cons, List.length_nil]); omega))) | (with_reducible refine both_to ?_ ?_) | (with_reducible refine itet_to ?_) | (with_reducible refine itef_to ?_) | (with_reducible refine ite_to (fun _ => ?_) (fun _ => ?_))) <;> try (exfalso; omega)
      all_goals rfl
    · exfalso
      obtain ⟨i, i0, i1, i2⟩ := ex_ix.1 hb
      exact hh3 i i0 (by omega) i2
  · conv => lhs; rw [r3_Check_L16_eq]; unfold r3_Check_L16_B
    (try dsimp only); (repeat' first | (with_reducible refine G_to ?_ ?_; focus (first | omega | (unfold fits; omega) | (unfold room; (try simp only [List.length_append, List.length_cons, List.length_nil]); omega))) | (with_reducible refine both_to ?_ ?_) | (with_reducible refine itet_to ?_) | (with_reducible refine itef_to ?_) | (with_reducible refine ite_to (fun _ => ?_) (fun _ => ?_))) <;> try (exfalso; omega)
    have hlt := hlen t h0 h1
    refine scan_to (len := d.1) (bad := fun a => ix (ix d.2.2.1 t) a < 0 ∨ (d.2.2.1.length : Int) ≤ ix (ix d.2.2.1 t) a) (by omega) (fun a a0 a1 => ⟨fun hb' => ?_, fun hb => ?_⟩) (fun hh3 => ?_)
    · exfalso; exact hb (ex_ix.2 ⟨a, a0, by omega, hb'⟩)
    · conv => lhs; rw [r3_Check_L19_eq]; unfold r3_Check_L19_B
      (try dsimp only); (repeat' first | (with_reducible refine G_to ?_ ?_; focus (first | omega | (unfold fits; omega) | (unfold room; (try simp only [List.length_append, List.length_cons, List.length_nil]); omega))) | (with_reducible refine both_to ?_ ?_) | (with_reducible refine itet_to ?_) | (with_reducible refine itef_to ?_) | (with_reducible refine ite_to (fun _ => ?_) (fun _ => ?_))) <;> try (exfalso; omega)
      all_goals rfl
    · rw [r3_Check_L19_eq]; unfold r3_Check_L19_B
      (try dsimp only); (repeat' first | (with_reducible refine G_to ?_ ?_; focus (first | omega | (unfold fits; omega) | (unfold room; (try simp only [List.length_append, List.length_cons, List.length_nil]); omega))) | (with_reducible refine both_to ?_ ?_) | (with_reducible refine itet_to ?_) | (with_reducible refine itef_to ?_) | (with_reducible refine ite_to (fun _ => ?_) (fun _ => ?_))) <;> try (exfalso; omega)
      all_goals rfl
  have hnr : ¬ ∃ r ∈ d.2.2.1, ∃ q ∈ r, q < 0 ∨ (d.2.2.1.length : Int) ≤ q := fun h => by
    obtain ⟨t, h0, h1, hb⟩ := ex_ix.1 h
    exact hh2 t h0 h1 hb
  rw [r3_Check_L16_eq]; unfold r3_Check_L16_B
  (try dsimp only); (repeat' first | (with_reducible refine G_to ?_ ?_; focus (first | omega | (unfold fits; omega) | (unfold room; (try simp only [List.length_append, List.length_cons, List.length_nil]); omega))) | (with_reducible refine both_to ?_ ?_) | (with_reducible refine itet_to ?_) | (with_reducible refine itef_to ?_) | (with_reducible refine ite_to (fun _ => ?_) (fun _ => ?_))) <;> try (exfalso; omega)
  refine scan_to (len := (d.2.2.1.length : Int)) (bad := fun t => (badD) (ix d.2.2.2.1 t)) (by omega) (fun t h0 h1 => ⟨fun hb => ?_, fun hb => ?_⟩) (fun hh3 => ?_)
  · rw [if_pos (show DOut _ d from .inr (.inr (ex_ix.2 ⟨t, h0, by omega, hb⟩)))]
    rw [r3_Check_L24_eq]; unfold r3_Check_L24_B
    try dsimp only at hb
    (try dsimp only); (repeat' first | (with_reducible refine G_to ?_ ?_; focus (first | omega | (unfold fits; omega) | (unfold room; (try simp only [List.length_append, List.length_cons, List.length_nil]); omega))) | (with_reducible refine both_to ?_ ?_) | (with_reducible refine itet_to ?_) | (with_reducible refine itef_to ?_) | (with_reducible refine ite_to (fun _ => ?_) (fun _ => ?_))) <;> try (exfalso; omega)
    all_goals first | rfl | (exfalso; exact hb.1 ‹_›) | (exfalso; exact hb.2 ‹_›)
  · conv => lhs; rw [r3_Check_L24_eq]; unfold r3_Check_L24_B
    try dsimp only at hb
    (try dsimp only); (repeat' first | (with_reducible refine G_to ?_ ?_; focus (first | omega | (unfold fits; omega) | (unfold room; (try simp only [List.length_append, List.length_cons, List.length_nil]); omega))) | (with_reducible refine both_to ?_ ?_) | (with_reducible refine itet_to ?_) | (with_reducible refine itef_to ?_) | (with_reducible refine ite_to (fun _ => ?_) (fun _ => ?_))) <;> try (exfalso; omega)
    all_goals first | rfl | (exfalso; exact hb ⟨‹_›, ‹_›⟩)
  rw [if_neg (show ¬ DOut _ d from fun h => h.elim c4 (fun h => h.elim hnr (fun h => by
    obtain ⟨t, h0, h1, hb⟩ := ex_ix.1 h
    exact hh3 t h0 (by omega) hb)))]
  rw [r3_Check_L24_eq]; unfold r3_Check_L24_B
  (try dsimp only); (repeat' first | (with_reducible refine G_to ?_ ?_; focus (first | omega | (unfold fits; omega) | (unfold room; (try simp only [List.length_append, List.length_cons, List.length_nil]); omega))) | (with_reducible refine both_to ?_ ?_) | (with_reducible refine itet_to ?_) | (with_reducible refine itef_to ?_) | (with_reducible refine ite_to (fun _ => ?_) (fun _ => ?_))) <;> try (exfalso; omega)
  all_goals rfl

theorem LeastOk.tab {d o : Dt} {C Q : List Int} {K : Nat} (h : LeastOk d o C Q K) : Tab o.1 o.2.2.1 := by
  refine ⟨fun r hr => ?_, fun r hr q hq => ?_⟩
  · obtain ⟨j, j0, j1, rfl⟩ := (ex_ix (P := fun x => x = r)).1 ⟨r, hr, rfl⟩
    rw [h.let1]; exact (h.part.row j j0 j1).len
  · obtain ⟨j, j0, j1, rfl⟩ := (ex_ix (P := fun x => x = r)).1 ⟨r, hr, rfl⟩
    have hr := h.part.row j j0 j1
    obtain ⟨k, k0, k1, rfl⟩ := (ex_ix (P := fun x => x = q)).1 ⟨q, hq, rfl⟩
    have := hr.to k k0 (by rw [← hr.len]; exact k1)
    rw [h.all]; exact ⟨this.1, this.2.1⟩
theorem LeastOk.mok {d o : Dt} {C Q : List Int} {K : Nat} (hd : DOk 3000 badD d) (h : LeastOk d o C Q K) (h5 : o.2.2.1.length ≤ 5) : MOk o := by
  have := h.part.q.z.1
  have := h.all
  have := hd.let1
  have := h.let1
  exact ⟨h.tab, by omega, by omega, h5⟩
section
variable {d : Dt}
theorem det_Least_bad (hm : ¬ detE 3000 badD d = 0) : det_Least d = some ((0, 0, [], [], ()), detE 3000 badD d) := by
  unfold det_Least
  refine bind_to det_Check_spec ?_
  rw [show detE 3000 badD (d.1, d.2.1, d.2.2.1, d.2.2.2.1, ()) = detE 3000 badD d from rfl]
  rw [if_pos (decide_eq_true hm)]
theorem det_Least_good (hm : detE 3000 badD d = 0) {o : Dt} (ho : det_Smallest d = some o) : det_Least d = some (o, 0) := by
  unfold det_Least
  refine bind_to det_Check_spec ?_
  rw [show detE 3000 badD (d.1, d.2.1, d.2.2.1, d.2.2.2.1, ()) = 0 from hm, if_neg (by simp)]
  exact bind_to ho rfl
theorem small_both : (∃ e, ¬ e = 0 ∧ monoid_small d = some ((0, 0, [], [], ()), e) ∧ law_small d = some ((0, 0, [], [], ()), e)) ∨ (∃ o C Q K, detE 3000 badD d = 0 ∧ LeastOk d o C Q K ∧ MOk o ∧ monoid_small d = some (o, 0) ∧ law_small d = some (o, 0)) := by
  have ed : (d.1, d.2.1, d.2.2.1, d.2.2.2.1, ()) = d := rfl
  by_cases hm : detE 3000 badD d = 0
  · have h := detE_zero hm
    obtain ⟨o, C, Q, K, w1, w2, w3⟩ := least_both h
    have hL := det_Least_good hm w2
    have eo : (o.1, o.2.1, o.2.2.1, o.2.2.2.1, ()) = o := rfl
    by_cases h5 : o.2.2.1.length ≤ 5
    · refine .inr ⟨o, C, Q, K, hm, w1, w1.mok h h5, ?_, ?_⟩
      · unfold monoid_small
        rw [ed]
        refine bind_to hL ?_
        rw [if_neg (by simp), if_neg (by simp; omega)]
      · unfold law_small
        refine bind_to r3_Check_spec ?_
        rw [if_neg (by simpa using hm), ed]
        refine bind_to w3 ?_
        rw [if_neg (by simp; omega)]
    · refine .inl ⟨1, by omega, ?_, ?_⟩
      · unfold monoid_small
        rw [ed]
        refine bind_to hL ?_
        rw [if_neg (by simp), if_pos (by simp; omega)]
      · unfold law_small
        refine bind_to r3_Check_spec ?_
        rw [if_neg (by simpa using hm), ed]
        refine bind_to w3 ?_
        rw [if_pos (by simp; omega)]
  · refine .inl ⟨_, hm, ?_, ?_⟩
    · unfold monoid_small
      rw [ed]
      refine bind_to (det_Least_bad hm) ?_
      rw [if_pos (by simpa using hm)]
    · unfold law_small
      refine bind_to r3_Check_spec ?_
      rw [if_pos (by simpa using hm)]
end

theorem ix_inj {α : Type} [Inhabited α] {l : List α} (h : l.Nodup) {i j : Int} (i0 : 0 ≤ i) (i1 : i < l.length) (j0 : 0 ≤ j) (j1 : j < l.length) (e : ix l i = ix l j) : i = j := by
  rw [ix_eq i0 i1, ix_eq j0 j1] at e
  have key : ∀ a b : Nat, (ha : a < l.length) → (hb : b < l.length) → a < b → l[a] ≠ l[b] := fun a b ha hb hlt => List.pairwise_iff_getElem.1 h a b ha hb hlt
  rcases Nat.lt_trichotomy i.toNat j.toNat with c | c | c
  · exact absurd e (key _ _ (by omega) (by omega) c)
  · omega
  · exact absurd e.symm (key _ _ (by omega) (by omega) c)
/- A least automaton is one itself; its states are come to, and told apart. -/
theorem xRow_from {nx : Int → Int → Int} {s : Int} {l : List Int} : ∀ t : Nat, ∀ x ∈ (xRow nx s l t).1, x ∈ l ∨ ∃ a : Int, 0 ≤ a ∧ a < t ∧ x = nx s a
  | 0, x, hx => .inl hx
  | t + 1, x, hx => by
    have ih := xRow_from (nx := nx) (s := s) (l := l) t
    have up : (x ∈ l ∨ ∃ a : Int, 0 ≤ a ∧ a < t ∧ x = nx s a) → (x ∈ l ∨ ∃ a : Int, 0 ≤ a ∧ a < ((t + 1 : Nat) : Int) ∧ x = nx s a) := fun h => h.imp id (fun ⟨a, a0, a1, e⟩ => ⟨a, a0, by omega, e⟩)
    cases c : mfind (xRow nx s l t).1 (nx s t) with
    | some j => rw [xRow_some c] at hx; exact up (ih x hx)
    | none =>
      rw [xRow_none c] at hx
      rcases List.mem_append.1 hx with hx | hx
      · exact up (ih x hx)
      · rw [List.mem_singleton.1 hx]; exact .inr ⟨t, by omega, by omega, rfl⟩
theorem xSt_from {nx : Int → Int → Int} {mk : Int → Int} {L : Nat} {first : Int} : ∀ i : Nat, XGo nx mk L first i → ∀ x ∈ (xSt nx mk L first i).1, ∃ w : List Int, (∀ a ∈ w, 0 ≤ a ∧ a < (L : Int)) ∧ x = w.foldl nx first
  | 0, _, x, hx => ⟨[], (fun a ha => by cases ha), by simpa [xSt] using hx⟩
  | i + 1, hg, x, hx => by
    have ih := xSt_from i (fun k hk => hg k (by omega))
    have hi := hg i (by omega)
    rcases xRow_from L x hx with h | ⟨a, a0, a1, rfl⟩
    · exact ih x h
    · obtain ⟨w, w1, w2⟩ := ih _ (ix_mem (i := (i : Int)) (by omega) (by omega))
      refine ⟨w ++ [a], fun b hb => (List.mem_append.1 hb).elim (w1 b) (fun e => by rw [List.mem_singleton.1 e]; exact ⟨a0, a1⟩), ?_⟩
      rw [List.foldl_append, ← w2]; rfl
section
variable {d o : Dt} {C Q : List Int} {K : Nat}
theorem LeastOk.xok (hd : DOk 3000 badD d) (h : LeastOk d o C Q K) {l : List Int} (hl : OfOk d C l K) : XOk (nxC d C l) (mkC d l) d.1.toNat (ix C d.2.1) K (fun v => 0 ≤ v ∧ v < K) := by
  have hlt := hd.let1
  have hmk := hd.mkl
  refine ⟨fun s hs => hs, h.fin.b _ hd.st.1 hd.st.2, fun s hs t t0 t1 => ?_, fun s hs => ?_⟩
  · obtain ⟨a1, a2, _⟩ := hl.b s hs.1 hs.2
    have := hd.tab.stpb a1 a2 t0 (by omega)
    exact h.fin.b _ this.1 this.2
  · obtain ⟨a1, a2, _⟩ := hl.b s hs.1 hs.2
    have := hd.mok _ (ix_mem a1 (by omega : ix l s < d.2.2.2.1.length))
    unfold badD at this
    unfold mkC
    omega
theorem LeastOk.dok (hd : DOk 3000 badD d) (h : LeastOk d o C Q K) : DOk 3000 badD o := by
  obtain ⟨l, n, hl, go, gn, rfl⟩ := h.by1
  have hlt := hd.let1
  have hn := hd.n1
  have hK := h.fin.le
  exact xAut_ok (h.xok hd hl) (by omega) (by omega) go gn
theorem LeastOk.reach (hd : DOk 3000 badD d) (h : LeastOk d o C Q K) {q : Int} (q0 : 0 ≤ q) (q1 : q < o.2.2.1.length) : ∃ w : List Int, (∀ a ∈ w, 0 ≤ a ∧ a < d.1) ∧ wlk o.2.2.1 o.2.1 w = q := by
  obtain ⟨l, n, hl, go, gn, rfl⟩ := h.by1
  have hlt := hd.let1
  have hx := h.xok hd hl
  obtain ⟨k1, k2, k3⟩ := xSt_ok hx n go
  have hr := k3.r
  have q1' : q < ((xSt (nxC d C l) (mkC d l) d.1.toNat (ix C d.2.1) n).1.length : Int) := by
    have : q < ((xSt (nxC d C l) (mkC d l) d.1.toNat (ix C d.2.1) n).2.1.length : Int) := q1
    omega
  obtain ⟨w, w1, w2⟩ := xSt_from n go _ (ix_mem q0 q1')
  obtain ⟨y1, y2, y3⟩ := xAut_walk hx go gn w 0 (by omega) (by omega) w1
  rw [k3.z, ← w2] at y3
  refine ⟨w, fun a ha => by have := w1 a ha; omega, ?_⟩
  show wlk _ 0 w = q
  exact ix_inj k1.nd y1 (by omega) q0 q1' y3
theorem LeastOk.apart (hd : DOk 3000 badD d) (h : LeastOk d o C Q K) {p q : Int} (p0 : 0 ≤ p) (p1 : p < o.2.2.1.length) (q0 : 0 ≤ q) (q1 : q < o.2.2.1.length) (hpq : LEq o p o q) : p = q := by
  have ha := h.all
  have hl1 := h.let1
  have bp := h.part.q.b _ (ix_mem p0 (by omega))
  have bq := h.part.q.b _ (ix_mem q0 (by omega))
  have e : ∀ {p : Int}, 0 ≤ p → p < o.2.2.1.length → ∀ w : List Int, (∀ a ∈ w, 0 ≤ a ∧ a < d.1) → ix o.2.2.2.1 (wlk o.2.2.1 p w) = ix d.2.2.2.1 (wlk d.2.2.1 (ix Q p) w) := fun {p} p0 p1 w hw => by
    have bp := h.part.q.b _ (ix_mem p0 (by omega))
    obtain ⟨h1, h2, h3⟩ := least_walk hd h w p (ix Q p) p0 (by omega) bp.1 bp.2 rfl hw
    rw [h.part.mark _ h1 (by rw [h.all]; exact h2)]
    have hq := h.part.q.b _ (ix_mem h1 h2)
    have hw2 := hd.tab.wlkb bp.1 bp.2 hw
    exact h.fin.mark _ _ hq.1 hq.2 hw2.1 hw2.2 h3
  have hL : LEq d (ix Q p) d (ix Q q) := fun w hw => by
    rw [← e p0 p1 w hw, ← e q0 q1 w hw]
    exact hpq w (fun a ha => by rw [hl1]; exact hw a ha)
  have hc := h.fin.coarse _ _ bp.1 bp.2 bq.1 bq.2 hL
  have hnd := h.part.q.nd
  refine ix_inj hnd p0 (by rw [List.length_map]; omega) q0 (by rw [List.length_map]; omega) ?_
  rw [ix_map _ p0 (by omega), ix_map _ q0 (by omega), hc]
end

section
variable {o : Dt}
theorem ap1_spec (ho : DOk 3000 badD o) {s : Int × Int × Unit} (hs : PR o o s) {t : Int} (t0 : 0 ≤ t) (t1 : t < o.1) : det_Apart_1 s t o = some (NX o o s t) := by
  have hra := ho.tab.rowlen hs.1.1 hs.1.2
  have hrb := ho.tab.rowlen hs.2.1 hs.2.2
  have h1 := hs.1
  have h2 := hs.2
  unfold det_Apart_1
  exact G_to (by omega) (G_to (by omega) (G_to (by omega) (G_to (by omega) rfl)))
theorem ap2_spec (ho : DOk 3000 badD o) {s : Int × Int × Unit} (hs : PR o o s) : det_Apart_2 s o = some (okM o o s) := by
  have h1 := hs.1
  have h2 := hs.2
  have m1 := ho.mkl
  unfold det_Apart_2
  exact G_to (by omega) (G_to (by omega) rfl)
/-- What tells two states apart. -/
theorem Apart_tells (ho : DOk 3000 badD o) {p q : Int} (hp : 0 ≤ p ∧ p < o.2.2.1.length) (hq : 0 ≤ q ∧ q < o.2.2.1.length) :
    (∃ w : List Int, det_Apart o p q = some (w, true, 0) ∧ w.length ≤ o.2.2.1.length * o.2.2.1.length ∧ (∀ a ∈ w, 0 ≤ a ∧ a < o.1) ∧ ¬ ix o.2.2.2.1 (wlk o.2.2.1 p w) = ix o.2.2.2.1 (wlk o.2.2.1 q w)) ∨ (det_Apart o p q = some ([], false, 0) ∧ LEq o p o q) := by
  have hl := ho.let1
  have hs : PR o o (p, q, ()) := ⟨hp, hq⟩
  have hB := BOk_pairs ho ho rfl hs
  have hN := pairs_le ho ho
  obtain ⟨n, n1, n2, n3⟩ := bSt_stops hB
  obtain ⟨r, r1, r2⟩ := det_seeks_spec (a := o) (okb := okM o o) (g := o.1) hB hN (by omega) (fun s hs t t0 t1 => ap1_spec ho hs t0 t1) (fun s hs => ap2_spec ho hs) n2 n3
  have hd : det_Apart o p q = some (r.1, r.2, 0) := by
    unfold det_Apart
    refine bind_to (det_Check_spec (d := o)) ?_
    rw [if_neg (by simpa using detE_of ho), if_neg (by simp; omega), if_neg (by simp; omega), if_neg (by simp; omega), if_neg (by simp; omega)]
    exact bind_to r1 rfl
  rcases r2.tells hB n2 n3 with ⟨w, rfl, w1, w2, w3⟩ | ⟨rfl, h⟩
  · refine .inl ⟨w, hd, by omega, fun a ha => by have := w2 a ha; omega, ?_⟩
    rw [NX_walk] at w3
    unfold okM at w3
    exact of_decide_eq_true w3
  · refine .inr ⟨hd, fun w hw => ?_⟩
    have := h w (fun a ha => by have := hw a ha; omega)
    rw [NX_walk] at this
    unfold okM at this
    simpa using this
end
theorem mem_ix' {α : Type} [Inhabited α] {l : List α} {x : α} (h : x ∈ l) : ∃ j : Int, 0 ≤ j ∧ j < l.length ∧ ix l j = x := by
  obtain ⟨j, j0, j1, e⟩ := (ex_ix (P := fun y => y = x)).1 ⟨x, h, rfl⟩
  exact ⟨j, j0, j1, e⟩
section
variable {d o : Dt} {u v : List Int}
/-- What the program finds. -/
theorem alike_find {C Q : List Int} {K : Nat} (hd : DOk 3000 badD d) (h : LeastOk d o C Q K) (hm : MOk o) (hu : LetOk o u) (hv : LetOk o v) (lu : u.length ≤ 60) (lv : v.length ≤ 60) {R : List El} (hR : LOk o R) (hall : ∀ w, LetOk o w → does o w ∈ R.map Prod.fst) :
    (does o u = does o v ∧ monoid_Alike_L12 u v o R 0 = some ([], [], true, 0)) ∨ (∃ x w : List Int, ¬ does o u = does o v ∧ monoid_Alike_L12 u v o R 0 = some (x, w, false, 0) ∧ LetOk o x ∧ LetOk o w ∧ x.length ≤ 3125 ∧ w.length ≤ 25 ∧ ¬ ix o.2.2.2.1 (wlk o.2.2.1 (wlk o.2.2.1 (wlk o.2.2.1 o.2.1 x) u) w) = ix o.2.2.2.1 (wlk o.2.2.1 (wlk o.2.2.1 (wlk o.2.2.1 o.2.1 x) v) w)) := by
  have ho := h.dok hd
  have hn := hm.n1
  have hl1 := h.let1
  have hRl := hR.len hm
  have hst := ho.st
  have h25 : o.2.2.1.length * o.2.2.1.length ≤ 5 * 5 := Nat.mul_le_mul hn.2 hn.2
  have key : ∀ (f : Nat) (t : Int), (R.length - t).toNat = f → 0 ≤ t → t ≤ R.length → (∀ j : Int, 0 ≤ j → j < t → wlk o.2.2.1 (wlk o.2.2.1 o.2.1 (ix R j).2.1) u = wlk o.2.2.1 (wlk o.2.2.1 o.2.1 (ix R j).2.1) v) →
      (does o u = does o v ∧ monoid_Alike_L12 u v o R t = some ([], [], true, 0)) ∨ (∃ x w : List Int, ¬ does o u = does o v ∧ monoid_Alike_L12 u v o R t = some (x, w, false, 0) ∧ LetOk o x ∧ LetOk o w ∧ x.length ≤ 3125 ∧ w.length ≤ 25 ∧ ¬ ix o.2.2.2.1 (wlk o.2.2.1 (wlk o.2.2.1 (wlk o.2.2.1 o.2.1 x) u) w) = ix o.2.2.2.1 (wlk o.2.2.1 (wlk o.2.2.1 (wlk o.2.2.1 o.2.1 x) v) w)) := by
    intro f
    induction f with
    | zero =>
      intro t hf t0 t1 hj
      refine .inl ⟨?_, ?_⟩
      · refine ix_ext (by rw [does_len, does_len]) fun q q0 q1 => ?_
        rw [does_len] at q1
        rw [does_ix q0 q1, does_ix q0 q1]
        obtain ⟨w, w1, w2⟩ := h.reach hd q0 q1
        obtain ⟨e, he, ee⟩ := List.mem_map.1 (hall w (fun a ha => by rw [hl1]; exact w1 a ha))
        obtain ⟨j, j0, j1, rfl⟩ := hR.mem he
        have := hj j j0 (by omega)
        have e2 : wlk o.2.2.1 o.2.1 (ix R j).2.1 = q := by
          rw [← does_ix (w := (ix R j).2.1) hst.1 hst.2, ← (hR.el j j0 j1).does, ee, does_ix hst.1 hst.2, w2]
        rw [e2] at this
        exact this
      · rw [monoid_Alike_L12_eq]; unfold monoid_Alike_L12_B
        rw [if_neg (by simp; omega)]
    | succ f ih =>
      intro t hf t0 t1 hj
      have hel := hR.el t t0 (by omega)
      have hsh := hel.short
      have w0 := hm.tab.wlkb hst.1 hst.2 hel.lets
      have w1 := hm.tab.wlkb w0.1 w0.2 hu
      have w2 := hm.tab.wlkb w0.1 w0.2 hv
      rw [monoid_Alike_L12_eq]; unfold monoid_Alike_L12_B
      rw [if_pos (by simp; omega), G_pos (by omega), G_pos (by omega)]
      rw [show (o.1, o.2.1, o.2.2.1, o.2.2.2.1, ()) = o from rfl, det_After_spec (d := o) hm.tab hel.lets (by omega) hst.1 hst.2]
      simp only [Option.bind_some]
      rw [det_After_spec (d := o) hm.tab hu (by omega) w0.1 w0.2]
      simp only [Option.bind_some]
      rw [det_After_spec (d := o) hm.tab hv (by omega) w0.1 w0.2]
      simp only [Option.bind_some]
      rcases Apart_tells ho w1 w2 with ⟨w, g1, g2, g3, g4⟩ | ⟨g1, g2⟩
      · rw [g1]
        simp only [Option.bind_some]
        rw [if_pos trivial]
        refine .inr ⟨_, w, fun e => ?_, rfl, hel.lets, g3, by omega, by omega, g4⟩
        have := congrArg (fun l => ix l (wlk o.2.2.1 o.2.1 (ix R t).2.1)) e
        simp only [does_ix w0.1 w0.2] at this
        rw [this] at g4
        exact g4 rfl
      · rw [g1]
        simp only [Option.bind_some]
        rw [if_neg (by simp), G_pos (by unfold fits; omega)]
        refine ih (t + 1) (by omega) (by omega) (by omega) (fun j j0 j1 => ?_)
        by_cases e : j = t
        · rw [e]; exact h.apart hd w1.1 w1.2 w2.1 w2.2 g2
        · exact hj j j0 (by omega)
  exact key _ 0 rfl (by omega) (by omega) (fun j j0 j1 => by omega)
end
section
variable {d : Dt} {u v : List Int}
theorem alike_bad1 {e : Int} (he : ¬ e = 0) (h : monoid_small d = some ((0, 0, [], [], ()), e)) : monoid_Alike d u v = some ([], [], false, e) := by
  unfold monoid_Alike
  refine bind_to (show monoid_small (d.1, d.2.1, d.2.2.1, d.2.2.2.1, ()) = _ from h) ?_
  rw [if_pos (by simpa using he)]
theorem alike_good {o : Dt} (h : monoid_small d = some (o, 0)) {R : List El} (hR : monoid_elements o = some R) : monoid_Alike d u v = if mayE d.1 u = 0 then (if mayE d.1 v = 0 then monoid_Alike_L12 u v o R 0 else some ([], [], false, mayE d.1 v)) else some ([], [], false, mayE d.1 u) := by
  unfold monoid_Alike
  refine bind_to (show monoid_small (d.1, d.2.1, d.2.2.1, d.2.2.2.1, ()) = _ from h) ?_
  rw [if_neg (by simp)]
  have e : ∀ t : Int, monoid_Alike_L5 d u v o t = monoid_Alike_L5_B d u v o (monoid_Alike_L5 d u v o) t := fun t => monoid_Alike_L5_eq d u v o t
  show monoid_Alike_L5 d u v o 0 = _
  rw [e]; unfold monoid_Alike_L5_B
  rw [if_pos (by simp), G_pos (by simp), G_pos (by simp)]
  refine bind_to (word_May_spec (w := u)) ?_
  by_cases c : mayE d.1 u = 0
  · rw [if_neg (by simpa using c), if_pos c, G_pos (by unfold fits; decide), e]; unfold monoid_Alike_L5_B
    rw [if_pos (by simp), G_pos (by simp), G_pos (by simp)]
    refine bind_to (word_May_spec (w := v)) ?_
    by_cases c2 : mayE d.1 v = 0
    · rw [if_neg (by simpa using c2), if_pos c2, G_pos (by unfold fits; decide), e]; unfold monoid_Alike_L5_B
      rw [if_neg (by simp)]
      exact bind_to hR rfl
    · rw [if_pos (by simpa using c2), if_neg c2]
  · rw [if_pos (by simpa using c), if_neg c]
theorem J6_bad {x : Dt} {e : Int} (he : ¬ e = 0) : law_MonoidAlike_J6 d u v [] [] false e x e = some true := by
  unfold law_MonoidAlike_J6
  rw [if_pos (by simpa using he), if_pos (by simp), if_pos (by simp)]
  exact G_to (by unfold fits; simp) (by simp)
theorem wlk_app {N : List (List Int)} {q : Int} {a b : List Int} : wlk N q (a ++ b) = wlk N (wlk N q a) b := List.foldl_append
theorem law_L19 (hd : DOk 3000 badD d) {x w : List Int} (hx : ∀ a ∈ x, 0 ≤ a ∧ a < d.1) (hw : ∀ a ∈ w, 0 ≤ a ∧ a < d.1) (hu : ∀ a ∈ u, 0 ≤ a ∧ a < d.1) (hv : ∀ a ∈ v, 0 ≤ a ∧ a < d.1) (lx : x.length ≤ 3125) (lw : w.length ≤ 25) (lu : u.length ≤ 60) (lv : v.length ≤ 60)
    (hne : ¬ ix d.2.2.2.1 (wlk d.2.2.1 (wlk d.2.2.1 (wlk d.2.2.1 d.2.1 x) u) w) = ix d.2.2.2.1 (wlk d.2.2.1 (wlk d.2.2.1 (wlk d.2.2.1 d.2.1 x) v) w)) : ∀ (f : Nat) (i : Int), ((x.length : Int) + w.length - i).toNat = f → 0 ≤ i → i ≤ (x.length : Int) + w.length → law_MonoidAlike_L19 d u v x w i = some true := by
  have hst := hd.st
  have hmk := hd.mkl
  have w0 := hd.tab.wlkb hst.1 hst.2 hx
  have w1 := hd.tab.wlkb w0.1 w0.2 hu
  have w2 := hd.tab.wlkb w0.1 w0.2 hv
  have w3 := hd.tab.wlkb w1.1 w1.2 hw
  have w4 := hd.tab.wlkb w2.1 w2.2 hw
  intro f
  induction f with
  | zero =>
    intro i hf i0 i1
    rw [law_MonoidAlike_L19_eq]; unfold law_MonoidAlike_L19_B
    rw [G_pos (by unfold fits; omega), if_neg (by simp; omega)]
    refine bind_to (r3_After_spec (d := d) hd.tab hx (by omega) hst.1 hst.2) ?_
    refine bind_to (r3_After_spec (d := d) hd.tab hu (by omega) w0.1 w0.2) ?_
    refine bind_to (r3_After_spec (d := d) hd.tab hv (by omega) w0.1 w0.2) ?_
    refine bind_to (r3_After_spec (d := d) hd.tab hw (by omega) w1.1 w1.2) ?_
    refine bind_to (r3_After_spec (d := d) hd.tab hw (by omega) w2.1 w2.2) ?_
    exact G_to (by omega) (G_to (by omega) (by rw [decide_eq_true hne]))
  | succ f ih =>
    intro i hf i0 i1
    rw [law_MonoidAlike_L19_eq]; unfold law_MonoidAlike_L19_B law_MonoidAlike_J24
    rw [G_pos (by unfold fits; omega), if_pos (by simp; omega)]
    by_cases c : i < (x.length : Int)
    · have := hx _ (ix_mem i0 c)
      rw [if_pos (by simpa using c), G_pos (by omega), if_neg (by simp; omega), if_neg (by simp; omega), G_pos (by unfold fits; omega)]
      exact ih (i + 1) (by omega) (by omega) (by omega)
    · have := hw _ (ix_mem (i := i - x.length) (by omega) (by omega))
      rw [if_neg (by simpa using c), G_pos (by unfold fits; omega), G_pos (by omega), if_neg (by simp; omega), if_neg (by simp; omega), G_pos (by unfold fits; omega)]
      exact ih (i + 1) (by omega) (by omega) (by omega)
end
theorem law_true (d : Dt) (u v : List Int) : law_MonoidAlike d u v = some true := by
  have ed : (d.1, d.2.1, d.2.2.1, d.2.2.2.1, ()) = d := rfl
  unfold law_MonoidAlike
  rw [ed]
  rcases small_both (d := d) with ⟨e, he, s1, s2⟩ | ⟨o, C, Q, K, h0, h, hm, s1, s2⟩
  · refine bind_to (alike_bad1 he s1) (bind_to s2 ?_)
    rw [if_neg (by simpa using he)]
    unfold law_MonoidAlike_J4
    rw [if_neg (by simpa using he)]
    exact J6_bad he
  · have hd := detE_zero h0
    obtain ⟨R, hR, r1, hall⟩ := elements_all hm
    have p := alike_good (u := u) (v := v) s1 r1
    have hl1 := h.let1
    by_cases c : mayE d.1 u = 0
    · rw [if_pos c] at p
      by_cases c2 : mayE d.1 v = 0
      · rw [if_pos c2] at p
        have mu := mayE_zero c
        have mv := mayE_zero c2
        have hu : LetOk o u := fun a ha => by rw [hl1]; exact mu.2.2 a ha
        have hv : LetOk o v := fun a ha => by rw [hl1]; exact mv.2.2 a ha
        have hdu : r4_Does o u = some (does o u) := r4_Does_spec hm hu (by omega)
        have hdv : r4_Does o v = some (does o v) := r4_Does_spec hm hv (by omega)
        have hn := hm.n1
        have hdl := does_len (o := o) u
        have start : ∀ {x w : List Int} {b : Bool}, monoid_Alike d u v = some (x, w, b, 0) → law_MonoidAlike_J6 d u v x w b 0 o 0 = some true → (monoid_Alike d u v).bind (fun y'_19 => (law_small d).bind (fun y'_18 => if (decide (y'_18.2 = (0 : Int))) = true then (r1_May d.1 u).bind (fun y'_8 => law_MonoidAlike_J4 d u v y'_19.1 y'_19.2.1 y'_19.2.2.1 y'_19.2.2.2 y'_18.1 y'_8) else law_MonoidAlike_J4 d u v y'_19.1 y'_19.2.1 y'_19.2.2.1 y'_19.2.2.2 y'_18.1 y'_18.2)) = some true := fun {x w b} hp hJ => by
          refine bind_to hp (bind_to s2 ?_)
          rw [if_pos (by simp)]
          refine bind_to r1_May_spec ?_
          unfold law_MonoidAlike_J4
          rw [if_pos (by simpa using c)]
          refine bind_to r1_May_spec ?_
          rw [c2]; exact hJ
        rcases alike_find hd h hm hu hv (by omega) (by omega) hR hall with ⟨e, f⟩ | ⟨x, w, e, f, x1, x2, x3, x4, x5⟩
        · refine start (p.trans f) ?_
          unfold law_MonoidAlike_J6
          rw [if_neg (by simp), if_neg (by simp)]
          refine bind_to hdu (bind_to hdv (bind_to (r1_Words_spec (by omega)) ?_))
          rw [if_pos (by simpa using e), if_pos rfl]
          exact G_to (by unfold fits; simp) (by simp)
        · refine start (p.trans f) ?_
          unfold law_MonoidAlike_J6
          rw [if_neg (by simp), if_neg (by simp)]
          refine bind_to hdu (bind_to hdv (bind_to (r1_Words_spec (by omega)) ?_))
          rw [if_neg (by simpa using e), if_neg (by simp)]
          have x1' : ∀ a ∈ x, 0 ≤ a ∧ a < d.1 := fun a ha => by rw [← hl1]; exact x1 a ha
          have x2' : ∀ a ∈ w, 0 ≤ a ∧ a < d.1 := fun a ha => by rw [← hl1]; exact x2 a ha
          refine law_L19 hd x1' x2' mu.2.2 mv.2.2 x3 x4 (by omega) (by omega) ?_ _ 0 rfl (by omega) (by omega)
          have m1 := (least_mark hd h (w := x ++ u ++ w) (fun a ha => by
            rcases List.mem_append.1 ha with ha | ha
            · exact (List.mem_append.1 ha).elim (x1' a) (mu.2.2 a)
            · exact x2' a ha)).2.2
          have m2 := (least_mark hd h (w := x ++ v ++ w) (fun a ha => by
            rcases List.mem_append.1 ha with ha | ha
            · exact (List.mem_append.1 ha).elim (x1' a) (mv.2.2 a)
            · exact x2' a ha)).2.2
          rw [wlk_app, wlk_app, wlk_app, wlk_app] at m1 m2
          rw [← m1, ← m2]
          exact x5
      · rw [if_neg c2] at p
        refine bind_to p (bind_to s2 ?_)
        rw [if_pos (by simp)]
        refine bind_to r1_May_spec ?_
        unfold law_MonoidAlike_J4
        rw [if_pos (by simpa using c)]
        refine bind_to r1_May_spec ?_
        exact J6_bad c2
    · rw [if_neg c] at p
      refine bind_to p (bind_to s2 ?_)
      rw [if_pos (by simp)]
      refine bind_to r1_May_spec ?_
      unfold law_MonoidAlike_J4
      rw [if_neg (by simpa using c)]
      exact J6_bad c

end Go.Proofs.Ytlgimlpijfbbcaa.monoidAlikeW
