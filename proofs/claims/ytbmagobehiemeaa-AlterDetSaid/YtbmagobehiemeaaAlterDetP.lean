/- The law 'AlterDet' of the plain functions. -/
import Derived.Test.YtbmagobehiemeaaAlterDetD
set_option maxHeartbeats 1000000
set_option maxRecDepth 20000
set_option linter.unusedSimpArgs false
set_option linter.unusedVariables false
set_option linter.unusedSectionVars false
namespace Go.Proofs.Ytbmagobehiemeaa.alterDetW
open Go Go.Ab
theorem wrap_nat {n : Nat} (h : n < 9223372036854775808) : IntKind.wrap .i64 (n : Int) = n := by
  unfold IntKind.wrap
  simp [IntKind.bits, IntKind.signed]
  omega
theorem ofInt_nat (m : Nat) : BitVec.ofInt 64 (m : Int) = BitVec.ofNat 64 m := by
  apply BitVec.eq_of_toNat_eq; simp
theorem iand_nat {m n : Nat} (hm : m < 9223372036854775808) (hn : n < 9223372036854775808) : iand .i64 (m : Int) (n : Int) = ((m &&& n : Nat) : Int) := by
  unfold iand
  have h : (BitVec.ofInt IntKind.i64.bits (m : Int) &&& BitVec.ofInt IntKind.i64.bits (n : Int)).toNat = m &&& n := by
    show (BitVec.ofInt 64 (m : Int) &&& BitVec.ofInt 64 (n : Int)).toNat = m &&& n
    rw [ofInt_nat, ofInt_nat, BitVec.toNat_and, BitVec.toNat_ofNat, BitVec.toNat_ofNat, Nat.mod_eq_of_lt (by omega), Nat.mod_eq_of_lt (by omega)]
  rw [h, wrap_nat (Nat.lt_of_le_of_lt Nat.and_le_left hm)]
theorem ior_nat {m n : Nat} (hm : m < 9223372036854775808) (hn : n < 9223372036854775808) : ior .i64 (m : Int) (n : Int) = ((m ||| n : Nat) : Int) := by
  unfold ior
  have h : (BitVec.ofInt IntKind.i64.bits (m : Int) ||| BitVec.ofInt IntKind.i64.bits (n : Int)).toNat = m ||| n := by
    show (BitVec.ofInt 64 (m : Int) ||| BitVec.ofInt 64 (n : Int)).toNat = m ||| n
    rw [ofInt_nat, ofInt_nat, BitVec.toNat_or, BitVec.toNat_ofNat, BitVec.toNat_ofNat, Nat.mod_eq_of_lt (by omega), Nat.mod_eq_of_lt (by omega)]
  rw [h, wrap_nat (Nat.or_lt_two_pow (n := 63) hm hn)]
theorem ishl_nat {m k : Nat} (hk : k < 63) (h : m * 2 ^ k < 9223372036854775808) : ishl .i64 (m : Int) (k : Int) = ((m <<< k : Nat) : Int) := by
  unfold ishl
  have e : min ((k : Int).toNat) IntKind.i64.bits = k := by
    show min ((k : Int).toNat) 64 = k
    omega
  rw [e, Nat.shiftLeft_eq]
  have : (m : Int) * 2 ^ k = ((m * 2 ^ k : Nat) : Int) := by push_cast; rfl
  rw [this, wrap_nat h]
theorem ishr_nat {m k : Nat} (hk : k ≤ 64) : ishr .i64 (m : Int) (k : Int) = ((m >>> k : Nat) : Int) := by
  unfold ishr
  have e : min ((k : Int).toNat) IntKind.i64.bits = k := by
    show min ((k : Int).toNat) 64 = k
    omega
  rw [e, Nat.shiftRight_eq_div_pow, Int.fdiv_eq_ediv_of_nonneg _ (by exact_mod_cast Nat.zero_le _)]
  push_cast; rfl
/-- Bits: the q-th one is put. -/
theorem ior_bit {m q : Nat} (hm : m < 4611686018427387904) (hq : q < 62) : ior .i64 (m : Int) (ishl .i64 1 (q : Int)) = ((m ||| 2 ^ q : Nat) : Int) ∧ m ||| 2 ^ q < 4611686018427387904 := by
  have h2 : 2 ^ q < 4611686018427387904 := Nat.pow_lt_pow_right (a := 2) (n := 62) (by omega) hq
  have h1 : ishl .i64 1 (q : Int) = ((2 ^ q : Nat) : Int) := by
    have := ishl_nat (m := 1) (k := q) (by omega) (by omega)
    rw [Nat.shiftLeft_eq, Nat.one_mul] at this
    exact this
  rw [h1, ior_nat (by omega) (by omega)]
  exact ⟨rfl, Nat.or_lt_two_pow (n := 62) hm h2⟩

/-- The answer is yes just if P. -/
def Tells (o : Option Bool) (P : Prop) : Prop := ∃ b, o = some b ∧ (b = true ↔ P)
theorem Tells.of {b : Bool} {P : Prop} (h : b = true ↔ P) : Tells (some b) P := ⟨b, rfl, h⟩
theorem Tells.dec {P Q : Prop} [Decidable P] (h : P ↔ Q) : Tells (some (decide P)) Q := ⟨_, rfl, by simpa using h⟩
theorem Tells.iff {o : Option Bool} {P Q : Prop} (h : Tells o P) (k : P ↔ Q) : Tells o Q := let ⟨b, h1, h2⟩ := h; ⟨b, h1, h2.trans k⟩
theorem Tells.eq {o : Option Bool} {P : Prop} [Decidable P] (h : Tells o P) : o = some (decide P) := by
  obtain ⟨b, rfl, hb⟩ := h
  by_cases hp : P
  · simp [hp, hb.2 hp]
  · have : b = false := by cases b; rfl; exact absurd (hb.1 rfl) hp
    simp [hp, this]
theorem Tells.to {R : Type} {o : Option Bool} {P : Prop} {k1 k2 x : Option R} (h : Tells o P) (h1 : P → k1 = x) (h2 : ¬ P → k2 = x) : (o.bind fun y => if y = true then k1 else k2) = x := by
  obtain ⟨b, rfl, hb⟩ := h
  refine bind_to rfl ?_
  cases b
  · exact h2 fun hp => by simpa using hb.2 hp
  · exact h1 (hb.1 rfl)
theorem Tells.bind {R : Type} {o : Option Bool} {P : Prop} {k : Bool → Option R} {x : Option R} (h : Tells o P) (h1 : ∀ b, (b = true ↔ P) → k b = x) : o.bind k = x := by
  obtain ⟨b, rfl, hb⟩ := h
  exact h1 b hb
section
variable {α C : Type} [Inhabited α]
theorem ex_ix {l : List α} {P : α → Prop} : (∃ x ∈ l, P x) ↔ ∃ i : Int, 0 ≤ i ∧ i < l.length ∧ P (ix l i) := by
  constructor
  · rintro ⟨x, hx, hp⟩
    obtain ⟨i, hi, rfl⟩ := List.mem_iff_getElem.1 hx
    refine ⟨i, by omega, by omega, ?_⟩
    rwa [ix_eq (by omega) (by omega)]
  · rintro ⟨i, h0, h1, hp⟩
    exact ⟨_, ix_mem h0 h1, hp⟩
theorem index_loop {s : List α} {f : α → Option Bool} {L : Int → Option Int} {P : α → Prop} (hs : s.length ≤ 4611686018427387904)
    (hL : ∀ t, L t = if decide (t < (s.length : Int)) = true then G (0 ≤ t ∧ t < (s.length : Int)) ((f (ix s t)).bind fun y => if y = true then some t else G (fits (t + 1)) (L (t + 1))) else some (-1))
    (hf : ∀ x ∈ s, Tells (f x) (P x)) : ∀ (n : Nat) (t : Int), 0 ≤ t → t ≤ s.length → (s.length - t).toNat = n →
      ∃ i, L t = some i ∧ ((i = -1 ∧ ∀ j : Int, t ≤ j → j < s.length → ¬ P (ix s j)) ∨ (t ≤ i ∧ i < s.length ∧ P (ix s i) ∧ ∀ j : Int, t ≤ j → j < i → ¬ P (ix s j))) := by
  intro n
  induction n with
  | zero =>
    intro t h0 h1 hn
    refine ⟨-1, ?_, .inl ⟨rfl, fun j a b => by omega⟩⟩
    rw [hL, if_neg (by simp; omega)]
  | succ n ih =>
    intro t h0 h1 hn
    rw [hL, if_pos (by simp; omega), G_pos (by omega)]
    obtain ⟨b, hb, hbp⟩ := hf _ (ix_mem h0 (by omega : t < s.length))
    rw [hb]
    cases b with
    | true => exact ⟨t, rfl, .inr ⟨by omega, by omega, hbp.1 rfl, fun j a b => by omega⟩⟩
    | false =>
      have hnp : ¬ P (ix s t) := fun hp => by simpa using hbp.2 hp
      obtain ⟨i, hi, hc⟩ := ih (t + 1) (by omega) (by omega) (by omega)
      refine ⟨i, ?_, ?_⟩
      · refine (if_neg (by simp) : (if false = true then some t else G (fits (t + 1)) (L (t + 1))) = _).trans ?_
        rw [G_pos (by unfold fits; omega), hi]
      · rcases hc with ⟨h2, h3⟩ | ⟨h2, h3, h4, h5⟩
        · refine .inl ⟨h2, fun j a b => ?_⟩
          by_cases e : j = t
          · rw [e]; exact hnp
          · exact h3 j (by omega) b
        · refine .inr ⟨by omega, h3, h4, fun j a b => ?_⟩
          by_cases e : j = t
          · rw [e]; exact hnp
          · exact h5 j (by omega) b
theorem contains_tells {s : List α} {f : α → Option Bool} {L : Int → Option Int} {P : α → Prop}
    (hL : ∀ t, L t = if decide (t < (s.length : Int)) = true then G (0 ≤ t ∧ t < (s.length : Int)) ((f (ix s t)).bind fun y => if y = true then some t else G (fits (t + 1)) (L (t + 1))) else some (-1))
    (hs : s.length ≤ 4611686018427387904) (hf : ∀ x ∈ s, Tells (f x) (P x)) : Tells ((L 0).bind fun y => some (decide ((0 : Int) ≤ y))) (∃ x ∈ s, P x) := by
  obtain ⟨i, hi, hc⟩ := index_loop hs hL hf _ 0 (by omega) (by omega) rfl
  rw [hi]
  refine ⟨decide (0 ≤ i), rfl, ?_⟩
  rw [decide_eq_true_iff, ex_ix]
  rcases hc with ⟨h2, h3⟩ | ⟨h2, h3, h4, h5⟩
  · constructor
    · intro h; omega
    · rintro ⟨j, h0, h1, hp⟩; exact absurd hp (h3 j h0 h1)
  · exact ⟨fun _ => ⟨i, by omega, h3, h4⟩, fun _ => by omega⟩
/-- .. of what carries along what it reads. -/
theorem contains_tells2 {s : List α} {c : C} {f : α → C → Option (Bool × C)} {L : Int → C → Option (Int × C)} {P : α → Prop}
    (hL : ∀ t c, L t c = if decide (t < (s.length : Int)) = true then G (0 ≤ t ∧ t < (s.length : Int)) ((f (ix s t) c).bind fun y => if y.1 = true then some (t, y.2) else G (fits (t + 1)) (L (t + 1) y.2)) else some (-1, c))
    (hs : s.length ≤ 4611686018427387904) (hf : ∀ x ∈ s, ∃ b, f x c = some (b, c) ∧ (b = true ↔ P x)) : ∃ b, ((L 0 c).bind fun y => some (decide ((0 : Int) ≤ y.1), y.2)) = some (b, c) ∧ (b = true ↔ ∃ x ∈ s, P x) := by
  have key : ∀ (n : Nat) (t : Int), 0 ≤ t → t ≤ s.length → (s.length - t).toNat = n →
      ∃ i, L t c = some (i, c) ∧ ((i = -1 ∧ ∀ j : Int, t ≤ j → j < s.length → ¬ P (ix s j)) ∨ (t ≤ i ∧ i < s.length ∧ P (ix s i))) := by
    intro n
    induction n with
    | zero =>
      intro t h0 h1 hn
      refine ⟨-1, ?_, .inl ⟨rfl, fun j a b => by omega⟩⟩
      rw [hL, if_neg (by simp; omega)]
    | succ n ih =>
      intro t h0 h1 hn
      rw [hL, if_pos (by simp; omega), G_pos (by omega)]
      obtain ⟨b, hb, hbp⟩ := hf _ (ix_mem h0 (by omega : t < s.length))
      rw [hb]
      cases b with
      | true => exact ⟨t, rfl, .inr ⟨by omega, by omega, hbp.1 rfl⟩⟩
      | false =>
        have hnp : ¬ P (ix s t) := fun hp => by simpa using hbp.2 hp
        obtain ⟨i, hi, hc⟩ := ih (t + 1) (by omega) (by omega) (by omega)
        refine ⟨i, ?_, ?_⟩
        · refine (if_neg (by simp) : (if false = true then some (t, c) else G (fits (t + 1)) (L (t + 1) c)) = _).trans ?_
          rw [G_pos (by unfold fits; omega), hi]
        · rcases hc with ⟨h2, h3⟩ | ⟨h2, h3, h4⟩
          · refine .inl ⟨h2, fun j a b => ?_⟩
            by_cases e : j = t
            · rw [e]; exact hnp
            · exact h3 j (by omega) b
          · exact .inr ⟨by omega, h3, h4⟩
  obtain ⟨i, hi, hc⟩ := key _ 0 (by omega) (by omega) rfl
  rw [hi]
  refine ⟨decide (0 ≤ i), rfl, ?_⟩
  rw [decide_eq_true_iff, ex_ix]
  rcases hc with ⟨h2, h3⟩ | ⟨h2, h3, h4⟩
  · constructor
    · intro h; omega
    · rintro ⟨j, h0, h1, hp⟩; exact absurd hp (h3 j h0 h1)
  · exact ⟨fun _ => ⟨i, by omega, h3, h4⟩, fun _ => by omega⟩
end
/-- A loop that looks for the first fault. -/
theorem scan_to {R : Type} {len : Int} {L : Int → Option R} {bad : Int → Prop} {x : Option R} {lo : Int} (h0 : lo ≤ len)
    (hs : ∀ t, lo ≤ t → t < len → (bad t → L t = x) ∧ (¬ bad t → L t = L (t + 1))) (hf : (∀ t, lo ≤ t → t < len → ¬ bad t) → L len = x) : L lo = x := by
  have key : ∀ (n : Nat) (t : Int), lo ≤ t → t ≤ len → (len - t).toNat = n → (∀ j, lo ≤ j → j < t → ¬ bad j) → L t = x := by
    intro n
    induction n with
    | zero =>
      intro t h1 h2 hn h
      obtain rfl : t = len := by omega
      exact hf h
    | succ n ih =>
      intro t h1 h2 hn h
      by_cases hb : bad t
      · exact (hs t h1 (by omega)).1 hb
      · rw [(hs t h1 (by omega)).2 hb]
        refine ih (t + 1) (by omega) (by omega) (by omega) fun j a b => ?_
        by_cases e : j = t
        · rw [e]; exact hb
        · exact h j a (by omega)
  exact key _ lo (Int.le_refl _) h0 rfl (fun j a b => by omega)
/-- A loop that counts, with a state. -/
theorem fold_to {R S : Type} {len : Int} {L : Int → S → Option R} {f : Int → S → S} {lo : Int} {I : Int → S → Prop} {s : S} (h0 : lo ≤ len) (hI : I lo s)
    (hs : ∀ t s, lo ≤ t → t < len → I t s → L t s = L (t + 1) (f t s) ∧ I (t + 1) (f t s)) : ∃ s', I len s' ∧ L lo s = L len s' := by
  have key : ∀ (n : Nat) (t : Int) (s : S), lo ≤ t → t ≤ len → (len - t).toNat = n → I t s → ∃ s', I len s' ∧ L t s = L len s' := by
    intro n
    induction n with
    | zero =>
      intro t s h1 h2 hn h
      obtain rfl : t = len := by omega
      exact ⟨s, h, rfl⟩
    | succ n ih =>
      intro t s h1 h2 hn h
      obtain ⟨e, h3⟩ := hs t s h1 (by omega) h
      obtain ⟨s', h4, h5⟩ := ih (t + 1) _ (by omega) (by omega) (by omega) h3
      exact ⟨s', h4, e.trans h5⟩
  exact key _ lo s (Int.le_refl _) h0 rfl hI

/-- A loop that stops at a fault and that marks lesser ones. -/
theorem flag_loop {R : Type} {len : Int} {L : Bool → Int → Option R} {big off : Int → Prop} {x : Option R} {lo : Int} (h0 : lo ≤ len) (b : Bool)
    (hs : ∀ t b, lo ≤ t → t < len → (big t → L b t = x) ∧ (¬ big t → ∃ b', L b t = L b' (t + 1) ∧ (b' = true ↔ b = true ∨ off t))) :
    ((∃ t, lo ≤ t ∧ t < len ∧ big t) → L b lo = x) ∧ ((¬ ∃ t, lo ≤ t ∧ t < len ∧ big t) → ∃ b', L b lo = L b' len ∧ (b' = true ↔ b = true ∨ ∃ t, lo ≤ t ∧ t < len ∧ off t)) := by
  have key : ∀ (n : Nat) (lx : Int) (b : Bool), lx ≤ len → (len - lx).toNat = n → (∀ t b, lx ≤ t → t < len → (big t → L b t = x) ∧ (¬ big t → ∃ b', L b t = L b' (t + 1) ∧ (b' = true ↔ b = true ∨ off t))) →
      ((∃ t, lx ≤ t ∧ t < len ∧ big t) → L b lx = x) ∧ ((¬ ∃ t, lx ≤ t ∧ t < len ∧ big t) → ∃ b', L b lx = L b' len ∧ (b' = true ↔ b = true ∨ ∃ t, lx ≤ t ∧ t < len ∧ off t)) := by
    intro n
    induction n with
    | zero =>
      intro lx b h0 hn hs
      obtain rfl : lx = len := by clear hs; omega
      exact ⟨fun ⟨t, h1, h2, _⟩ => by omega, fun _ => ⟨b, rfl, fun h => .inl h, fun h => h.elim id (fun ⟨t, h1, h2, _⟩ => by omega)⟩⟩
    | succ n ih =>
      intro lx b h0 hn hs
      have hlt : lx < len := by clear hs ih; omega
      obtain ⟨s1, s2⟩ := hs lx b (Int.le_refl lx) hlt
      by_cases hb : big lx
      · exact ⟨fun _ => s1 hb, fun h => absurd ⟨lx, Int.le_refl lx, hlt, hb⟩ h⟩
      · obtain ⟨b1, e1, i1⟩ := s2 hb
        obtain ⟨k1, k2⟩ := ih (lx + 1) b1 (by omega) (by omega) (fun t b h h' => hs t b (by omega) h')
        refine ⟨fun ⟨t, t0, t1, t2⟩ => ?_, fun h => ?_⟩
        · rw [e1]
          refine k1 ⟨t, ?_, t1, t2⟩
          by_cases e : t = lx
          · rw [e] at t2; exact absurd t2 hb
          · omega
        · obtain ⟨b', e', i'⟩ := k2 (fun ⟨t, t0, t1, t2⟩ => h ⟨t, by omega, t1, t2⟩)
          refine ⟨b', e1.trans e', i'.trans ⟨fun g => ?_, fun g => ?_⟩⟩
          · rcases g with g | ⟨t, t0, t1, t2⟩
            · exact (i1.1 g).elim .inl (fun o => .inr ⟨lx, Int.le_refl lx, hlt, o⟩)
            · exact .inr ⟨t, by omega, t1, t2⟩
          · rcases g with g | ⟨t, t0, t1, t2⟩
            · exact .inl (i1.2 (.inl g))
            · by_cases e : t = lx
              · rw [e] at t2; exact .inl (i1.2 (.inr t2))
              · exact .inr ⟨t, by omega, t1, t2⟩
  exact key _ lo b h0 rfl hs

theorem slices_Clone_spec {s : List Int} (hs : s.length * 8 ≤ 140737488355328) : slices_Clone s = some s := by
  have hr : G (room ([] : List Int) s 8) (some (([] : List Int) ++ s)) = some s := by
    rw [G_pos (room_of (by simpa using hs))]; rfl
  unfold slices_Clone
  refine itep_to (fun h => ?_) (fun h => hr)
  obtain rfl : s = [] := List.length_eq_zero_iff.1 h
  rw [hr]; exact both_self (ts := [(.list (.int .i64))]) (some ([] : List Int))

/-- A walk over a table. -/
def stp (N : List (List Int)) (q a : Int) : Int := ix (ix N q) a
def wlk (N : List (List Int)) (q : Int) (w : List Int) : Int := w.foldl (stp N) q
/-- The places come by. -/
def trc (N : List (List Int)) : Int → List Int → List Int
  | _, [] => []
  | q, a :: w => stp N q a :: trc N (stp N q a) w
/-- A table of so many letters. -/
structure Tab (L : Int) (N : List (List Int)) : Prop where
  row : ∀ r ∈ N, (r.length : Int) = L
  to : ∀ r ∈ N, ∀ q ∈ r, 0 ≤ q ∧ q < N.length
theorem Tab.stpb {L : Int} {N : List (List Int)} (h : Tab L N) {q a : Int} (q0 : 0 ≤ q) (q1 : q < N.length) (a0 : 0 ≤ a) (a1 : a < L) : 0 ≤ stp N q a ∧ stp N q a < N.length := by
  have h1 := ix_mem q0 q1
  have h2 := h.row _ h1
  exact h.to _ h1 _ (ix_mem a0 (by omega))
theorem Tab.rowlen {L : Int} {N : List (List Int)} (h : Tab L N) {q : Int} (q0 : 0 ≤ q) (q1 : q < N.length) : ((ix N q).length : Int) = L := h.row _ (ix_mem q0 q1)
theorem Tab.wlkb {L : Int} {N : List (List Int)} (h : Tab L N) : ∀ {w : List Int} {q : Int}, 0 ≤ q → q < N.length → (∀ a ∈ w, 0 ≤ a ∧ a < L) → 0 ≤ wlk N q w ∧ wlk N q w < N.length
  | [], q, q0, q1, _ => ⟨q0, q1⟩
  | a :: w, q, q0, q1, hw => by
    have := h.stpb q0 q1 (hw a (by simp)).1 (hw a (by simp)).2
    exact Tab.wlkb h (q := stp N q a) (w := w) this.1 this.2 (fun b hb => hw b (by simp [hb]))
theorem Tab.trcb {L : Int} {N : List (List Int)} (h : Tab L N) : ∀ {w : List Int} {q : Int}, 0 ≤ q → q < N.length → (∀ a ∈ w, 0 ≤ a ∧ a < L) → ∀ p ∈ trc N q w, 0 ≤ p ∧ p < N.length
  | [], q, q0, q1, _, p, hp => by cases hp
  | a :: w, q, q0, q1, hw, p, hp => by
    have := h.stpb q0 q1 (hw a (by simp)).1 (hw a (by simp)).2
    rcases List.mem_cons.1 hp with rfl | hp
    · exact this
    · exact Tab.trcb h this.1 this.2 (fun b hb => hw b (by simp [hb])) p hp

theorem mfind_none {α : Type} : ∀ {ks : List α} {x : α}, mfind ks x = none ↔ x ∉ ks
  | [], x => by simp [mfind]
  | y :: ys, x => by
    unfold mfind
    by_cases h : y = x
    · rw [if_pos h]; simp [h]
    · rw [if_neg h, Option.map_eq_none_iff, mfind_none]
      simp [Ne.symm h]
/-- A map that only marks: all its elements are one. -/
abbrev ones {α : Type} (ks : List α) : List Int := List.replicate ks.length 1
theorem mget_ones {α : Type} {ks : List α} {x : α} : (mget ks (ones ks) x 0 = 0) ↔ x ∉ ks := by
  unfold mget
  cases h : mfind ks x with
  | none => simp [mfind_none.1 h]
  | some j =>
    have hx : x ∈ ks := by
      refine Classical.byContradiction fun hn => ?_
      rw [mfind_none.2 hn] at h; cases h
    have := mfind_lt h
    simp [hx, this]
theorem mputK_new {α : Type} {ks : List α} {x : α} (h : x ∉ ks) : mputK ks x = ks ++ [x] := by
  unfold mputK; rw [mfind_none.2 h]
theorem mputV_new {α : Type} {ks : List α} {x : α} (h : x ∉ ks) : mputV ks (ones ks) x 1 = ones (ks ++ [x]) := by
  unfold mputV; rw [mfind_none.2 h]
  show List.replicate ks.length 1 ++ [1] = List.replicate (ks ++ [x]).length 1
  rw [List.length_append, List.length_singleton, List.replicate_succ']

theorem pigeon {α : Type} [DecidableEq α] : ∀ {l U : List α}, l.Nodup → (∀ x ∈ l, x ∈ U) → l.length ≤ U.length
  | [], _, _, _ => Nat.zero_le _
  | a :: l, U, hn, hs => by
    have ha := hs a (by simp)
    obtain ⟨h1, h2⟩ := List.nodup_cons.1 hn
    have := pigeon (U := U.erase a) h2 (fun x hx => (List.mem_erase_of_ne (by rintro rfl; exact h1 hx)).2 (hs x (by simp [hx])))
    rw [List.length_erase_of_mem ha] at this
    have hp : 0 < U.length := List.length_pos_of_mem ha
    rw [List.length_cons]; omega
theorem pigeon_int {l : List Int} {n : Nat} (h : l.Nodup) (hb : ∀ x ∈ l, 0 ≤ x ∧ x < n) : l.length ≤ n := by
  have := pigeon (U := (List.range n).map Int.ofNat) h (fun x hx => by
    have := hb x hx
    exact List.mem_map.2 ⟨x.toNat, List.mem_range.2 (by omega), by show ((x.toNat : Nat) : Int) = x; omega⟩)
  simpa using this

theorem mfind_mem {α : Type} {ks : List α} {x : α} (h : x ∈ ks) : ∃ j, mfind ks x = some j := by
  cases e : mfind ks x with
  | none => exact absurd h (mfind_none.1 e)
  | some j => exact ⟨j, rfl⟩
theorem mfind_hd {α : Type} (ks : List α) (x : α) : mfind (x :: ks) x = some 0 := by unfold mfind; rw [if_pos rfl]
theorem mfind_tl {α : Type} {ks : List α} {x y : α} (h : y ≠ x) : mfind (y :: ks) x = (mfind ks x).map (· + 1) := by
  rw [mfind, if_neg h]
theorem mfind_app {α : Type} : ∀ {ks : List α} {x : α} {j : Nat} (l : List α), mfind ks x = some j → mfind (ks ++ l) x = some j
  | [], _, _, _, h => by cases h
  | y :: ks, x, j, l, h => by
    rw [List.cons_append]
    by_cases e : y = x
    · subst e; rw [mfind_hd] at h ⊢; exact h
    · rw [mfind_tl e] at h ⊢
      cases hm : mfind ks x with
      | none => rw [hm] at h; cases h
      | some i => rw [hm] at h; rw [mfind_app l hm]; exact h
theorem mfind_new {α : Type} : ∀ {ks : List α} {x : α}, x ∉ ks → mfind (ks ++ [x]) x = some ks.length
  | [], x, _ => mfind_hd _ _
  | y :: ks, x, h => by
    have hy : y ≠ x := by rintro rfl; exact h (by simp)
    rw [List.cons_append, mfind_tl hy, mfind_new (fun hh => h (by simp [hh]))]; rfl
theorem mfind_at {α : Type} : ∀ {ks : List α} {x : α} {k : Nat}, ks[k]? = some x → (∀ j, j < k → ks[j]? ≠ some x) → mfind ks x = some k
  | [], _, _, h, _ => by simp at h
  | y :: ks, x, k, h, hf => by
    cases k with
    | zero =>
      have : y = x := by simpa using h
      subst this; exact mfind_hd _ _
    | succ k =>
      have hy : y ≠ x := by have := hf 0 (by omega); simpa using this
      rw [mfind_tl hy, mfind_at (k := k) (by simpa using h) (fun j hj => by have := hf (j + 1) (by omega); simpa using this)]; rfl
theorem mfind_inj {α : Type} {ks : List α} {x y : α} {j : Nat} (h : mfind ks x = some j) (k : mfind ks y = some j) : x = y := by
  have := mfind_get h; rw [mfind_get k] at this; injection this with this; exact this.symm
theorem mfind_nodup {α : Type} {ks : List α} (hn : ks.Nodup) {j : Nat} (hj : j < ks.length) : mfind ks ks[j] = some j :=
  mfind_at (by simp) fun i hi e => by
    have hi' : i < ks.length := by omega
    rw [List.getElem?_eq_getElem hi'] at e
    exact List.pairwise_iff_getElem.1 hn i j hi' hj hi (Option.some.inj e)
theorem mfind_map {α β : Type} (f : α → β) : ∀ {ks : List α} {x : α}, (∀ y ∈ ks, f y = f x → y = x) → mfind (ks.map f) (f x) = mfind ks x
  | [], _, _ => rfl
  | y :: ks, x, h => by
    have ih := mfind_map f (ks := ks) (x := x) (fun z hz => h z (by simp [hz]))
    rw [List.map_cons]
    by_cases e : y = x
    · subst e; rw [mfind_hd, mfind_hd]
    · rw [mfind_tl e, mfind_tl (fun hh => e (h y (by simp) hh)), ih]
/-- 0, 1, 2, .. -/
def iota (n : Nat) : List Int := (List.range n).map fun j : Nat => (j : Int)
theorem iota_len (n : Nat) : (iota n).length = n := by simp [iota]
theorem iota_succ (n : Nat) : iota (n + 1) = iota n ++ [(n : Int)] := by simp [iota, List.range_succ]
theorem mget_iota {α : Type} {ks : List α} {x : α} {j : Nat} (h : mfind ks x = some j) : mget ks (iota ks.length) x 0 = j := by
  have := mfind_lt h
  unfold mget; rw [h]
  simp [iota, this]
theorem mhas_iff {α : Type} {ks : List α} {x : α} : mhas ks x = true ↔ x ∈ ks := by
  unfold mhas
  cases e : mfind ks x with
  | none => simp [mfind_none.1 e]
  | some j =>
    have := mfind_get e
    simp [List.mem_of_getElem? this]
theorem mputV_iota {α : Type} {ks : List α} {x : α} (h : x ∉ ks) : mputV ks (iota ks.length) x ks.length = iota (ks ++ [x]).length := by
  unfold mputV; rw [mfind_none.2 h, List.length_append, List.length_singleton, iota_succ]
theorem cover_nodup {α : Type} [DecidableEq α] : ∀ {l U : List α}, U.Nodup → (∀ x ∈ U, x ∈ l) → l.length ≤ U.length → l.Nodup
  | [], _, _, _, _ => List.nodup_nil
  | a :: l, U, hU, hs, hl => by
    have ha : a ∉ l := fun ha => by
      have := pigeon (l := U) (U := l) hU (fun x hx => by
        rcases List.mem_cons.1 (hs x hx) with rfl | h
        · exact ha
        · exact h)
      rw [List.length_cons] at hl; omega
    refine List.nodup_cons.2 ⟨ha, ?_⟩
    refine cover_nodup (U := U.erase a) (hU.erase a) (fun x hx => ?_) ?_
    · have hne : x ≠ a := ((List.Nodup.mem_erase_iff hU).1 hx).1
      rcases List.mem_cons.1 (hs x (List.mem_of_mem_erase hx)) with h | h
      · exact absurd h hne
      · exact h
    · have : U.length - 1 ≤ (U.erase a).length := by
        by_cases h : a ∈ U
        · rw [List.length_erase_of_mem h]; omega
        · rw [List.erase_of_not_mem h]; omega
      rw [List.length_cons] at hl; omega

/-- The bytes of a list of small numbers. -/
def keyL (l : List Int) : List Int := l.flatMap fun x => [IntKind.wrap .u8 x, IntKind.wrap .u8 (ishr .i64 x 8)]
def keyB (l : List Int) : List UInt8 := bstr (keyL l)
theorem wrap_u8 (x : Int) : IntKind.wrap .u8 x = x % 256 := by
  unfold IntKind.wrap
  simp [IntKind.bits, IntKind.signed]
theorem keyB_cons (x : Int) (l : List Int) : keyB (x :: l) = UInt8.ofNat (x % 256).toNat :: UInt8.ofNat (ishr .i64 x 8 % 256).toNat :: keyB l := by
  unfold keyB keyL bstr
  simp [wrap_u8]
theorem u8_inj {a b : Int} (h : UInt8.ofNat (a % 256).toNat = UInt8.ofNat (b % 256).toNat) : a % 256 = b % 256 := by
  have := congrArg UInt8.toNat h
  simp only [UInt8.toNat_ofNat'] at this
  omega
theorem keyB_inj : ∀ {l k : List Int}, (∀ x ∈ l, 0 ≤ x ∧ x < 65536) → (∀ x ∈ k, 0 ≤ x ∧ x < 65536) → keyB l = keyB k → l = k
  | [], [], _, _, _ => rfl
  | [], y :: k, _, _, h => by rw [keyB_cons] at h; cases h
  | x :: l, [], _, _, h => by rw [keyB_cons] at h; cases h
  | x :: l, y :: k, hl, hk, h => by
    rw [keyB_cons, keyB_cons] at h
    injection h with h1 h
    injection h with h2 h
    have hx := hl x (by simp)
    have hy := hk y (by simp)
    have e1 := u8_inj h1
    have e2 := u8_inj h2
    obtain ⟨a, rfl⟩ : ∃ a : Nat, x = a := ⟨x.toNat, by omega⟩
    obtain ⟨b, rfl⟩ : ∃ b : Nat, y = b := ⟨y.toNat, by omega⟩
    rw [show (8 : Int) = ((8 : Nat) : Int) from rfl, ishr_nat (by omega), ishr_nat (by omega), Nat.shiftRight_eq_div_pow, Nat.shiftRight_eq_div_pow] at e2
    have : a = b := by omega
    rw [this, keyB_inj (fun z hz => hl z (by simp [hz])) (fun z hz => hk z (by simp [hz])) h]
theorem keyL_len (l : List Int) : (keyL l).length = 2 * l.length := by
  induction l with
  | nil => rfl
  | cons x l ih => unfold keyL at *; rw [List.flatMap_cons, List.length_append, ih]; simp; omega
/-- A row of so many numbers. -/
def mkR (n : Nat) (g : Int → Int) : List Int := (List.range n).map fun a : Nat => g a
theorem mkR_len (n : Nat) (g : Int → Int) : (mkR n g).length = n := by simp [mkR]
theorem mkR_ix {n : Nat} {g : Int → Int} {a : Int} (h0 : 0 ≤ a) (h1 : a < n) : ix (mkR n g) a = g a := by
  rw [ix_eq h0 (by rw [mkR_len]; exact h1)]
  simp [mkR, Int.toNat_of_nonneg h0]
theorem mkR_of {n : Nat} {g : Int → Int} {l : List Int} (hl : l.length = n) (h : ∀ a : Int, 0 ≤ a → a < n → ix l a = g a) : l = mkR n g :=
  ix_ext (by rw [mkR_len, hl]) fun j j0 j1 => by rw [mkR_ix j0 (by omega), h j j0 (by omega)]

/-- A state's bit in a set. -/
def bitP (s q : Int) : Prop := iand .i64 (ishr .i64 s q) 1 = 1
theorem pow_le16 {N : Nat} (hN : N ≤ 16) : 2 ^ N ≤ 65536 := by
  have : 2 ^ N ≤ 2 ^ 16 := Nat.pow_le_pow_right (by omega) hN
  omega
theorem bitP_nat {m : Nat} (hm : m < 65536) {q : Nat} (hq : q ≤ 16) : bitP (m : Int) (q : Int) ↔ m.testBit q = true := by
  have hs : m >>> q ≤ m := Nat.shiftRight_le m q
  unfold bitP
  rw [ishr_nat (by omega), show (1 : Int) = ((1 : Nat) : Int) from rfl, iand_nat (by omega) (by omega), Nat.and_one_is_mod, Nat.testBit]
  rw [show (1 &&& m >>> q) = (m >>> q) % 2 by rw [Nat.and_comm, Nat.and_one_is_mod]]
  simp only [bne_iff_ne, ne_eq]
  omega
def SetN (N : Nat) (s : Int) : Prop := N ≤ 16 ∧ ∃ m : Nat, s = m ∧ m < 2 ^ N
section
variable {N : Nat} {s t : Int}
theorem SetN.b (h : SetN N s) : 0 ≤ s ∧ s < ((2 ^ N : Nat) : Int) := by
  obtain ⟨hN, m, rfl, hm⟩ := h
  omega
theorem SetN.or (hs : SetN N s) {q : Int} (q0 : 0 ≤ q) (q1 : q < N) : SetN N (ior .i64 s (ishl .i64 1 q)) ∧ s ≤ ior .i64 s (ishl .i64 1 q) ∧ ∀ r : Int, 0 ≤ r → r < N → (bitP (ior .i64 s (ishl .i64 1 q)) r ↔ bitP s r ∨ r = q) := by
  obtain ⟨hN, m, rfl, hm⟩ := hs
  have hp := pow_le16 hN
  obtain ⟨k, rfl⟩ : ∃ k : Nat, q = k := ⟨q.toNat, by omega⟩
  obtain ⟨b1, b2⟩ := ior_bit (m := m) (q := k) (by omega) (by omega)
  have h2 : 2 ^ k < 2 ^ N := Nat.pow_lt_pow_right (by omega) (by omega)
  have hlt : m ||| 2 ^ k < 2 ^ N := Nat.or_lt_two_pow (n := N) hm h2
  have hle : m ≤ m ||| 2 ^ k := Nat.left_le_or
  rw [b1]
  refine ⟨⟨hN, _, rfl, hlt⟩, by omega, fun r r0 r1 => ?_⟩
  obtain ⟨j, rfl⟩ : ∃ j : Nat, r = j := ⟨r.toNat, by omega⟩
  rw [bitP_nat (by omega) (by omega), bitP_nat (by omega) (by omega), Nat.testBit_or, Bool.or_eq_true, Nat.testBit_two_pow, decide_eq_true_iff]
  exact or_congr Iff.rfl (by omega)
theorem SetN.union (hs : SetN N s) (ht : SetN N t) : SetN N (ior .i64 s t) ∧ ∀ r : Int, 0 ≤ r → r < N → (bitP (ior .i64 s t) r ↔ bitP s r ∨ bitP t r) := by
  obtain ⟨hN, m, rfl, hm⟩ := hs
  obtain ⟨_, k, rfl, hk⟩ := ht
  have hp := pow_le16 hN
  have hlt : m ||| k < 2 ^ N := Nat.or_lt_two_pow (n := N) hm hk
  rw [ior_nat (by omega) (by omega)]
  refine ⟨⟨hN, _, rfl, hlt⟩, fun r r0 r1 => ?_⟩
  obtain ⟨j, rfl⟩ : ∃ j : Nat, r = j := ⟨r.toNat, by omega⟩
  rw [bitP_nat (by omega) (by omega), bitP_nat (by omega) (by omega), bitP_nat (by omega) (by omega), Nat.testBit_or, Bool.or_eq_true]
theorem SetN.zero (hN : N ≤ 16) : SetN N 0 ∧ ∀ r : Int, 0 ≤ r → r < N → ¬ bitP 0 r := by
  refine ⟨⟨hN, 0, rfl, Nat.pow_pos (by omega)⟩, fun r r0 r1 => ?_⟩
  obtain ⟨j, rfl⟩ : ∃ j : Nat, r = j := ⟨r.toNat, by omega⟩
  have := bitP_nat (m := 0) (by omega) (q := j) (by omega)
  rw [show ((0 : Nat) : Int) = 0 from rfl] at this
  rw [this]; simp
theorem SetN.ext (hs : SetN N s) (ht : SetN N t) (h : ∀ r : Int, 0 ≤ r → r < N → (bitP s r ↔ bitP t r)) : s = t := by
  obtain ⟨hN, m, rfl, hm⟩ := hs
  obtain ⟨_, k, rfl, hk⟩ := ht
  have hp := pow_le16 hN
  congr 1
  refine Nat.eq_of_testBit_eq fun b => ?_
  by_cases hb : b < N
  · have := h b (by omega) (by omega)
    rw [bitP_nat (by omega) (by omega), bitP_nat (by omega) (by omega)] at this
    rw [Bool.eq_iff_iff]; exact this
  · rw [Nat.testBit_lt_two_pow (Nat.lt_of_lt_of_le hm (Nat.pow_le_pow_right (by omega) (by omega))), Nat.testBit_lt_two_pow (Nat.lt_of_lt_of_le hk (Nat.pow_le_pow_right (by omega) (by omega)))]
theorem SetN.meet (hs : SetN N s) (ht : SetN N t) : (¬ iand .i64 s t = 0 ↔ ∃ r : Int, 0 ≤ r ∧ r < N ∧ bitP s r ∧ bitP t r) := by
  obtain ⟨hN, m, rfl, hm⟩ := hs
  obtain ⟨_, k, rfl, hk⟩ := ht
  have hp := pow_le16 hN
  rw [iand_nat (by omega) (by omega)]
  constructor
  · intro h
    have hne : m &&& k ≠ 0 := by omega
    obtain ⟨j, hj⟩ := Nat.exists_testBit_of_ne_zero hne
    have hle : m &&& k ≤ m := Nat.and_le_left
    have hj8 : j < N := by
      refine Nat.lt_of_not_le fun h8 => ?_
      have : m &&& k < 2 ^ j := Nat.lt_of_lt_of_le (by omega : m &&& k < 2 ^ N) (Nat.pow_le_pow_right (by omega) h8)
      rw [Nat.testBit_lt_two_pow this] at hj; cases hj
    rw [Nat.testBit_and, Bool.and_eq_true] at hj
    exact ⟨j, by omega, by omega, (bitP_nat (by omega) (by omega)).2 hj.1, (bitP_nat (by omega) (by omega)).2 hj.2⟩
  · rintro ⟨r, r0, r1, h1, h2⟩ h
    obtain ⟨j, rfl⟩ : ∃ j : Nat, r = j := ⟨r.toNat, by omega⟩
    have hz : m &&& k = 0 := by omega
    have : (m &&& k).testBit j = true := by rw [Nat.testBit_and, (bitP_nat (by omega) (by omega)).1 h1, (bitP_nat (by omega) (by omega)).1 h2]; rfl
    rw [hz] at this; simp at this
end
open Classical in
/-- The set of those below k. -/
noncomputable def setOf (p : Int → Prop) : Nat → Int
  | 0 => 0
  | k + 1 => if p (k : Int) then ior .i64 (setOf p k) (ishl .i64 1 (k : Int)) else setOf p k
open Classical in
theorem setOf_succ (p : Int → Prop) (k : Nat) : setOf p (k + 1) = if p (k : Int) then ior .i64 (setOf p k) (ishl .i64 1 (k : Int)) else setOf p k := rfl
theorem setOf_ok {N : Nat} (hN : N ≤ 16) (p : Int → Prop) : ∀ k : Nat, k ≤ N → SetN N (setOf p k) ∧ ∀ r : Int, 0 ≤ r → r < N → (bitP (setOf p k) r ↔ r < k ∧ p r)
  | 0, _ => ⟨(SetN.zero hN).1, fun r r0 r1 => ⟨fun h => absurd h ((SetN.zero hN).2 r r0 r1), fun h => by omega⟩⟩
  | k + 1, hk => by
    obtain ⟨h1, h2⟩ := setOf_ok hN p k (by omega)
    unfold setOf
    by_cases c : p (k : Int)
    · rw [if_pos c]
      obtain ⟨h3, _, h4⟩ := h1.or (q := (k : Int)) (by omega) (by omega)
      refine ⟨h3, fun r r0 r1 => ?_⟩
      rw [h4 r r0 r1, h2 r r0 r1]
      constructor
      · rintro (⟨g1, g2⟩ | rfl)
        · exact ⟨by omega, g2⟩
        · exact ⟨by omega, c⟩
      · rintro ⟨g1, g2⟩
        by_cases e : r = k
        · exact .inr e
        · exact .inl ⟨by omega, g2⟩
    · rw [if_neg c]
      refine ⟨h1, fun r r0 r1 => ?_⟩
      rw [h2 r r0 r1]
      constructor
      · rintro ⟨g1, g2⟩; exact ⟨by omega, g2⟩
      · rintro ⟨g1, g2⟩
        by_cases e : r = k
        · subst e; exact absurd g2 c
        · exact ⟨by omega, g2⟩
theorem SetN.one {N : Nat} (hN : N ≤ 16) {q : Int} (q0 : 0 ≤ q) (q1 : q < N) : SetN N (ishl .i64 1 q) ∧ ∀ r : Int, 0 ≤ r → r < N → (bitP (ishl .i64 1 q) r ↔ r = q) := by
  obtain ⟨h1, _, h3⟩ := (SetN.zero hN).1.or q0 q1
  have e : ior .i64 0 (ishl .i64 1 q) = ishl .i64 1 q := by
    obtain ⟨k, rfl⟩ : ∃ k : Nat, q = k := ⟨q.toNat, by omega⟩
    have hp : 2 ^ k ≤ 2 ^ 16 := Nat.pow_le_pow_right (by omega) (by omega)
    have h1 : ishl .i64 1 (k : Int) = ((2 ^ k : Nat) : Int) := by
      have := ishl_nat (m := 1) (k := k) (by omega) (by omega)
      rw [Nat.shiftLeft_eq, Nat.one_mul] at this
      exact this
    rw [h1, show (0 : Int) = ((0 : Nat) : Int) from rfl, ior_nat (by omega) (by omega), Nat.zero_or]
  rw [e] at h1 h3
  refine ⟨h1, fun r r0 r1 => (h3 r r0 r1).trans ⟨fun h => h.elim (fun z => absurd z ((SetN.zero hN).2 r r0 r1)) id, .inr⟩⟩

abbrev Dt := Int × Int × (List (List Int)) × (List Int) × Unit
def DBig (mx : Int) (d : Dt) : Prop := d.2.2.1.length < 1 ∨ mx < d.2.2.1.length
def DRag (d : Dt) : Prop := ¬ (d.2.2.2.1.length : Int) = d.2.2.1.length ∨ ∃ r ∈ d.2.2.1, ¬ (r.length : Int) = d.1
def DOut (mb : Int → Prop) (d : Dt) : Prop := (d.2.1 < 0 ∨ (d.2.2.1.length : Int) ≤ d.2.1) ∨ (∃ r ∈ d.2.2.1, ∃ q ∈ r, q < 0 ∨ (d.2.2.1.length : Int) ≤ q) ∨ (∃ s ∈ d.2.2.2.1, mb s)
open Classical in
/-- What is wrong with an automaton of at most so many states, with such marks. -/
noncomputable def detE (mx : Int) (mb : Int → Prop) (d : Dt) : Int := if d.1 < 1 ∨ 4 < d.1 then 2 else if DBig mx d then 1 else if DRag d then 3 else if DOut mb d then 2 else 0
structure DOk (mx : Int) (mb : Int → Prop) (d : Dt) : Prop where
  let1 : 1 ≤ d.1 ∧ d.1 ≤ 4
  n1 : 1 ≤ d.2.2.1.length ∧ (d.2.2.1.length : Int) ≤ mx
  st : 0 ≤ d.2.1 ∧ d.2.1 < d.2.2.1.length
  mkl : (d.2.2.2.1.length : Int) = d.2.2.1.length
  mok : ∀ s ∈ d.2.2.2.1, ¬ mb s
  tab : Tab d.1 d.2.2.1
theorem detE_zero {mx : Int} {mb : Int → Prop} {d : Dt} (h : detE mx mb d = 0) : DOk mx mb d := by
  unfold detE at h
  by_cases c1 : d.1 < 1 ∨ 4 < d.1
  · rw [if_pos c1] at h; omega
  rw [if_neg c1] at h
  by_cases c2 : DBig mx d
  · rw [if_pos c2] at h; omega
  rw [if_neg c2] at h
  by_cases c3 : DRag d
  · rw [if_pos c3] at h; omega
  rw [if_neg c3] at h
  by_cases c4 : DOut mb d
  · rw [if_pos c4] at h; omega
  unfold DBig at c2; unfold DRag at c3; unfold DOut at c4
  refine ⟨by omega, by omega, ?_, ?_, fun s hs hm => c4 (.inr (.inr ⟨s, hs, hm⟩)), fun r hr => ?_, fun r hr q hq => ?_⟩
  · have : ¬ (d.2.1 < 0 ∨ (d.2.2.1.length : Int) ≤ d.2.1) := fun h => c4 (.inl h)
    omega
  · exact Decidable.not_not.1 fun h => c3 (.inl h)
  · by_cases e : (r.length : Int) = d.1
    · exact e
    · exact absurd (.inr ⟨r, hr, e⟩) c3
  · have : ¬ (q < 0 ∨ (d.2.2.1.length : Int) ≤ q) := fun h => c4 (.inr (.inl ⟨r, hr, q, hq, h⟩))
    omega
theorem detE_of {mx : Int} {mb : Int → Prop} {d : Dt} (h : DOk mx mb d) : detE mx mb d = 0 := by
  have h1 := h.let1
  have h2 := h.n1
  have h3 := h.st
  have h4 := h.mkl
  unfold detE
  rw [if_neg (by omega), if_neg (by unfold DBig; omega), if_neg, if_neg]
  · rintro (hh | ⟨r, hr, q, hq, hh⟩ | ⟨s, hs, hh⟩)
    · omega
    · have := h.tab.to r hr q hq
      omega
    · exact h.mok s hs hh
  · rintro (hh | ⟨r, hr, hh⟩)
    · exact hh h4
    · exact hh (h.tab.row r hr)

section
variable {d : Dt} {mb : Int → Prop}
def sigC (d : Dt) (c : List Int) (q : Int) : Int × List Int := (ix c q, (ix d.2.2.1 q).map (ix c))
def ksC (d : Dt) (c : List Int) : Nat → List (Int × List Int)
  | 0 => []
  | t + 1 => if sigC d c (t : Int) ∈ ksC d c t then ksC d c t else ksC d c t ++ [sigC d c (t : Int)]
noncomputable def idxC (d : Dt) (c : List Int) (q : Nat) : Nat := (mfind (ksC d c (q + 1)) (sigC d c (q : Int))).getD 0
noncomputable def rfC (d : Dt) (c : List Int) : List Int := mkR d.2.2.1.length fun q => (idxC d c q.toNat : Int)
theorem ksC_succ (c : List Int) (t : Nat) : ksC d c (t + 1) = if sigC d c (t : Int) ∈ ksC d c t then ksC d c t else ksC d c t ++ [sigC d c (t : Int)] := rfl
theorem ksC_pre (c : List Int) : ∀ t, ∃ x, ksC d c (t + 1) = ksC d c t ++ x := fun t => by
  rw [ksC_succ]
  by_cases h : sigC d c (t : Int) ∈ ksC d c t
  · exact ⟨[], by rw [if_pos h, List.append_nil]⟩
  · exact ⟨_, by rw [if_neg h]⟩
theorem ksC_mem (c : List Int) : ∀ t q : Nat, q < t → sigC d c (q : Int) ∈ ksC d c t
  | t + 1, q, h => by
    rw [ksC_succ]
    by_cases e : q = t
    · subst e
      by_cases h : sigC d c (q : Int) ∈ ksC d c q
      · rw [if_pos h]; exact h
      · rw [if_neg h]; simp
    · have := ksC_mem c t q (by omega)
      by_cases h : sigC d c (t : Int) ∈ ksC d c t
      · rw [if_pos h]; exact this
      · rw [if_neg h]; simp [this]
theorem ksC_of (c : List Int) : ∀ (t : Nat), ∀ k ∈ ksC d c t, ∃ q : Nat, q < t ∧ k = sigC d c (q : Int)
  | 0, k, h => by cases h
  | t + 1, k, h => by
    rw [ksC_succ] at h
    by_cases e : sigC d c (t : Int) ∈ ksC d c t
    · rw [if_pos e] at h
      obtain ⟨q, h1, h2⟩ := ksC_of c t k h
      exact ⟨q, by omega, h2⟩
    · rw [if_neg e] at h
      rcases List.mem_append.1 h with h | h
      · obtain ⟨q, h1, h2⟩ := ksC_of c t k h
        exact ⟨q, by omega, h2⟩
      · exact ⟨t, by omega, List.mem_singleton.1 h⟩
theorem ksC_nodup (c : List Int) : ∀ t, (ksC d c t).Nodup
  | 0 => List.nodup_nil
  | t + 1 => by
    rw [ksC_succ]
    by_cases h : sigC d c (t : Int) ∈ ksC d c t
    · rw [if_pos h]; exact ksC_nodup c t
    · rw [if_neg h, List.nodup_append]
      exact ⟨ksC_nodup c t, by simp, fun a ha b hb => by rw [List.mem_singleton.1 hb]; rintro rfl; exact h ha⟩
theorem ksC_le (c : List Int) : ∀ t, (ksC d c t).length ≤ t
  | 0 => Nat.le_refl _
  | t + 1 => by
    have := ksC_le c t
    rw [ksC_succ]
    split
    · omega
    · rw [List.length_append, List.length_singleton]; omega
theorem idxC_at (c : List Int) (q : Nat) : ∀ t, q < t → mfind (ksC d c t) (sigC d c (q : Int)) = some (idxC d c q)
  | t + 1, h => by
    by_cases e : q = t
    · subst e
      obtain ⟨j, hj⟩ := mfind_mem (ksC_mem (d := d) c (q + 1) q (by omega))
      unfold idxC; rw [hj]; rfl
    · obtain ⟨x, hx⟩ := ksC_pre (d := d) c t
      rw [hx]; exact mfind_app x (idxC_at c q t (by omega))
theorem idxC_iff (c : List Int) {q r : Nat} : idxC d c q = idxC d c r ↔ sigC d c (q : Int) = sigC d c (r : Int) := by
  have h1 := idxC_at (d := d) c q (max q r + 1) (by omega)
  have h2 := idxC_at (d := d) c r (max q r + 1) (by omega)
  constructor
  · intro e; rw [← e] at h2; exact mfind_inj h1 h2
  · intro e; rw [e, h2] at h1; exact (Option.some.inj h1).symm
theorem idxC_lt (c : List Int) {q t : Nat} (h : q < t) : idxC d c q < (ksC d c t).length := mfind_lt (idxC_at c q t h)
theorem idxC_sur (c : List Int) {t j : Nat} (h : j < (ksC d c t).length) : ∃ q, q < t ∧ idxC d c q = j := by
  obtain ⟨q, hq, e⟩ := ksC_of c t _ (List.getElem_mem h)
  refine ⟨q, hq, ?_⟩
  have h1 := idxC_at (d := d) c q t hq
  rw [← e, mfind_nodup (ksC_nodup c t) h] at h1
  exact (Option.some.inj h1).symm
/-- Classes so far: small numbers. -/
structure ClsOk (d : Dt) (c : List Int) : Prop where
  len : c.length = d.2.2.1.length
  b : ∀ q : Int, 0 ≤ q → q < c.length → 0 ≤ ix c q ∧ ix c q < 65536
theorem rfC_len (c : List Int) : (rfC d c).length = d.2.2.1.length := mkR_len _ _
theorem rfC_ix (c : List Int) {q : Int} (h0 : 0 ≤ q) (h1 : q < d.2.2.1.length) : ix (rfC d c) q = idxC d c q.toNat := mkR_ix h0 h1
theorem sigC_len (h : DOk 65536 mb d) (c : List Int) {q : Int} (h0 : 0 ≤ q) (h1 : q < d.2.2.1.length) : ((sigC d c q).2.length : Int) = d.1 := by
  unfold sigC
  rw [List.length_map]; exact h.tab.rowlen h0 h1
theorem sigC_b (h : DOk 65536 mb d) {c : List Int} (hc : ClsOk d c) {q : Int} (h0 : 0 ≤ q) (h1 : q < d.2.2.1.length) : ∀ x ∈ (sigC d c q).2, 0 ≤ x ∧ x < 65536 := by
  intro x hx
  unfold sigC at hx
  obtain ⟨y, hy, rfl⟩ := List.mem_map.1 hx
  have := h.tab.to _ (ix_mem h0 h1) y hy
  exact hc.b y this.1 (by rw [hc.len]; exact this.2)
theorem sigC_row (h : DOk 65536 mb d) (c : List Int) {q a : Int} (h0 : 0 ≤ q) (h1 : q < d.2.2.1.length) (a0 : 0 ≤ a) (a1 : a < d.1) : ix (sigC d c q).2 a = ix c (ix (ix d.2.2.1 q) a) := by
  have := h.tab.rowlen h0 h1
  unfold sigC
  exact ix_map _ a0 (by omega)
theorem sigC_eq (h : DOk 65536 mb d) (c : List Int) {p q : Int} (p0 : 0 ≤ p) (p1 : p < d.2.2.1.length) (q0 : 0 ≤ q) (q1 : q < d.2.2.1.length) : sigC d c p = sigC d c q ↔ ix c p = ix c q ∧ ∀ a : Int, 0 ≤ a → a < d.1 → ix c (ix (ix d.2.2.1 p) a) = ix c (ix (ix d.2.2.1 q) a) := by
  have l1 := sigC_len h c p0 p1
  have l2 := sigC_len h c q0 q1
  constructor
  · intro e
    refine ⟨congrArg Prod.fst e, fun a a0 a1 => ?_⟩
    rw [← sigC_row h c p0 p1 a0 a1, ← sigC_row h c q0 q1 a0 a1, e]
  · rintro ⟨e1, e2⟩
    refine Prod.ext e1 (ix_ext (by omega) fun a a0 a1 => ?_)
    rw [sigC_row h c p0 p1 a0 (by omega), sigC_row h c q0 q1 a0 (by omega)]
    exact e2 a a0 (by omega)
def encK (k : Int × List Int) : Int × List UInt8 × Unit := (k.1, keyB k.2, ())
theorem encK_inj {k l : Int × List Int} (hk : ∀ x ∈ k.2, 0 ≤ x ∧ x < 65536) (hl : ∀ x ∈ l.2, 0 ≤ x ∧ x < 65536) (e : encK k = encK l) : k = l := by
  unfold encK at e
  injection e with e1 e2
  injection e2 with e2 e3
  exact Prod.ext e1 (keyB_inj hk hl e2)
/-- The program's reading of one state. -/
theorem det_Classes_row (h : DOk 65536 mb d) {c : List Int} (hc : ClsOk d c) {t : Nat} (ht : t < d.2.2.1.length) {number : List (Int × List UInt8 × Unit)} {number_1 next' : List Int} {r6} :
    det_Classes_L10 d c t number number_1 next' r6 0 [] = if mhas number (encK (sigC d c t)) = true then det_Classes_J17 c t next' r6 (keyL (sigC d c t).2) number number_1
      else det_Classes_J17 c t next' r6 (keyL (sigC d c t).2) (mputK number (encK (sigC d c t))) (mputV number number_1 (encK (sigC d c t)) (number.length : Int)) := by
  have hrl := h.tab.rowlen (q := (t : Int)) (by omega) (by omega)
  have hlt := h.let1
  have hcl := hc.len
  have key : ∀ (n : Nat) (a : Int), ((ix d.2.2.1 (t : Int)).length - a).toNat = n → 0 ≤ a → a ≤ (ix d.2.2.1 (t : Int)).length →
      det_Classes_L10 d c t number number_1 next' r6 a (keyL ((sigC d c t).2.take a.toNat)) = det_Classes_L10 d c t number number_1 next' r6 (ix d.2.2.1 (t : Int)).length (keyL (sigC d c t).2) := by
    intro n
    induction n with
    | zero =>
      intro a hn a0 a1
      obtain rfl : a = (ix d.2.2.1 (t : Int)).length := by omega
      rw [List.take_of_length_le (by unfold sigC; rw [List.length_map]; omega)]
    | succ n ih =>
      intro a hn a0 a1
      have hst := h.tab.stpb (q := (t : Int)) (a := a) (by omega) (by omega) a0 (by omega)
      unfold stp at hst
      rw [← ih (a + 1) (by omega) (by omega) (by omega)]
      conv => lhs; rw [det_Classes_L10_eq]; unfold det_Classes_L10_B
      have hk := keyL_len ((sigC d c t).2.take a.toNat)
      rw [List.length_take] at hk
      have hsl := sigC_len h c (q := (t : Int)) (by omega) (by omega)
      rw [if_pos (by simp; omega)]
      refine G_to (by omega) (G_to (by omega) (G_to (by omega) (G_to (by omega) (G_to (by omega) (G_to (by omega) (G_to (by unfold room; simp; omega) (G_to (by unfold fits; omega) ?_)))))))
      congr 1
      rw [ix_take a0 (by omega), sigC_row h c (q := (t : Int)) (by omega) (by omega) a0 (by omega)]
      unfold keyL
      rw [List.flatMap_append]; rfl
  refine (key _ 0 rfl (by omega) (by omega)).trans ?_
  rw [det_Classes_L10_eq]; unfold det_Classes_L10_B
  rw [if_neg (by simp)]
  refine G_to (by omega) (G_to (by omega) ?_)
  rw [show (ix c (t : Int), bstr (keyL (sigC d c t).2), ()) = encK (sigC d c t) from rfl]
  by_cases c1 : mhas number (encK (sigC d c t)) = true
  · rw [if_neg (by simp [c1]), if_pos c1]
  · rw [if_pos (by simpa using c1), if_neg c1]
theorem det_Classes_pass (h : DOk 65536 mb d) {c : List Int} (hc : ClsOk d c) {count : Int} {r3} : ∀ (n t : Nat) (next' : List Int), d.2.2.1.length - t = n → t ≤ d.2.2.1.length → next'.length = d.2.2.1.length → (∀ j : Int, 0 ≤ j → j < t → ix next' j = ix (rfC d c) j) →
    det_Classes_L6 d count c r3 t ((ksC d c t).map encK) (iota (ksC d c t).length) next' = if ((ksC d c d.2.2.1.length).length : Int) = count then some (rfC d c) else r3 ((ksC d c d.2.2.1.length).length : Int) (rfC d c) := by
  have hn := h.n1
  intro n
  induction n with
  | zero =>
    intro t next' hn2 ht hl hj
    obtain rfl : t = d.2.2.1.length := by omega
    have : next' = rfC d c := ix_ext (by rw [rfC_len]; exact hl) fun j j0 j1 => hj j j0 (by omega)
    rw [det_Classes_L6_eq]; unfold det_Classes_L6_B
    rw [if_neg (by simp), List.length_map, this]
    by_cases e : ((ksC d c d.2.2.1.length).length : Int) = count
    · rw [if_pos (decide_eq_true e), if_pos e]
    · rw [if_neg (by simpa using e), if_neg e]
  | succ n ih =>
    intro t next' hn2 ht hl hj
    rw [det_Classes_L6_eq]; unfold det_Classes_L6_B
    rw [if_pos (by simp; omega)]
    refine G_to (by omega) ?_
    rw [det_Classes_row h hc (by omega)]
    have inj : ∀ y ∈ ksC d c t, encK y = encK (sigC d c t) → y = sigC d c t := fun y hy e => by
      obtain ⟨q, hq, rfl⟩ := ksC_of c t y hy
      exact encK_inj (sigC_b h hc (by omega) (by omega)) (sigC_b h hc (by omega) (by omega)) e
    have hmem : encK (sigC d c t) ∈ (ksC d c t).map encK ↔ sigC d c t ∈ ksC d c t := by
      rw [List.mem_map]
      exact ⟨fun ⟨y, hy, e⟩ => inj y hy e ▸ hy, fun hy => ⟨_, hy, rfl⟩⟩
    have hat := idxC_at (d := d) c t (t + 1) (by omega)
    have inj' : ∀ y ∈ ksC d c (t + 1), encK y = encK (sigC d c t) → y = sigC d c t := fun y hy e => by
      obtain ⟨q, hq, rfl⟩ := ksC_of c (t + 1) y hy
      exact encK_inj (sigC_b h hc (by omega) (by omega)) (sigC_b h hc (by omega) (by omega)) e
    have hget : mget ((ksC d c (t + 1)).map encK) (iota (ksC d c (t + 1)).length) (encK (sigC d c t)) 0 = idxC d c t := by
      have h1 : mfind ((ksC d c (t + 1)).map encK) (encK (sigC d c t)) = some (idxC d c t) := by rw [mfind_map encK inj', hat]
      have := mget_iota h1
      rwa [List.length_map] at this
    have fin : det_Classes_J17 c t next' (det_Classes_L6 d count c r3) (keyL (sigC d c t).2) ((ksC d c (t + 1)).map encK) (iota (ksC d c (t + 1)).length) = if ((ksC d c d.2.2.1.length).length : Int) = count then some (rfC d c) else r3 ((ksC d c d.2.2.1.length).length : Int) (rfC d c) := by
      unfold det_Classes_J17
      refine G_to (by omega) (G_to (by omega) (G_to (by unfold fits; omega) ?_))
      rw [show (ix c (t : Int), bstr (keyL (sigC d c t).2), ()) = encK (sigC d c t) from rfl, hget]
      refine ih (t + 1) _ (by omega) (by omega) (by rw [List.length_set]; exact hl) (fun j j0 j1 => ?_)
      by_cases e : j = t
      · subst e
        rw [ix_set_same j0 (by omega), rfC_ix c j0 (by omega)]; simp
      · rw [ix_set_ne (by omega) j0 (Ne.symm e)]; exact hj j j0 (by omega)
    by_cases e : sigC d c t ∈ ksC d c t
    · rw [if_pos (mhas_iff.2 (hmem.2 e))]
      rw [ksC_succ, if_pos e] at fin
      exact fin
    · have hne := fun hh => e (hmem.1 hh)
      rw [if_neg (fun hh => hne (mhas_iff.1 hh)), mputK_new hne]
      have hv := mputV_iota hne
      rw [List.length_map] at hv
      rw [List.length_map, hv]
      rw [ksC_succ, if_neg e] at fin
      rw [List.map_append] at fin
      rw [List.length_append, List.length_map]
      rw [List.length_append] at fin
      exact fin
/-- The second one's: is it alike? -/
theorem r3_Classes_L14_spec (h : DOk 65536 mb d) {c : List Int} (hc : ClsOk d c) {n q : Int} {next' first : List Int} {r7 k r10} (q0 : 0 ≤ q) (q1 : q < d.2.2.1.length) (p0 : 0 ≤ ix first k) (p1 : ix first k < d.2.2.1.length) (hk : 0 ≤ k ∧ k ≤ 100000) : ∀ (f : Nat) (same : Bool) (a : Int), (d.1 - a).toNat = f → 0 ≤ a → a ≤ d.1 →
    (same = true ↔ ix c (ix first k) = ix c q ∧ ∀ b : Int, 0 ≤ b → b < a → ix c (ix (ix d.2.2.1 (ix first k)) b) = ix c (ix (ix d.2.2.1 q) b)) ∨ (same = false ∧ sigC d c (ix first k) ≠ sigC d c q) →
    r3_Classes_L14 d c n q next' first r7 k r10 same a = if sigC d c (ix first k) = sigC d c q then r3_Classes_J18 n q next' first r7 k else r10 (k + 1) := by
  have hlt := h.let1
  have hcl := hc.len
  have bad : ∀ a : Int, a ≤ d.1 → sigC d c (ix first k) ≠ sigC d c q → r3_Classes_L14 d c n q next' first r7 k r10 false a = if sigC d c (ix first k) = sigC d c q then r3_Classes_J18 n q next' first r7 k else r10 (k + 1) := fun a _ hne => by
    rw [if_neg hne, r3_Classes_L14_eq]; unfold r3_Classes_L14_B r3_Classes_J15
    simp only [Bool.false_eq_true, if_false, ite_self]
    exact G_to (by unfold fits; omega) rfl
  intro f
  induction f with
  | zero =>
    intro same a hf a0 a1 hs
    obtain rfl : a = d.1 := by omega
    rcases hs with hs | ⟨rfl, hs⟩
    · rw [← sigC_eq h c p0 p1 q0 q1] at hs
      cases same with
      | false => exact bad _ (by omega) (fun e => by have := hs.2 e; cases this)
      | true =>
        rw [if_pos (hs.1 rfl), r3_Classes_L14_eq]; unfold r3_Classes_L14_B r3_Classes_J15
        rw [if_neg (by simp), if_pos rfl]
    · exact bad _ (by omega) hs
  | succ f ih =>
    intro same a hf a0 a1 hs
    rcases hs with hs | ⟨rfl, hs⟩
    · cases same with
      | false =>
        refine bad _ a1 (fun e => ?_)
        rw [sigC_eq h c p0 p1 q0 q1] at e
        have := hs.2 ⟨e.1, fun b b0 b1 => e.2 b b0 (by omega)⟩
        cases this
      | true =>
        have hp := h.tab.rowlen p0 p1
        have hq := h.tab.rowlen q0 q1
        have sp := h.tab.stpb p0 p1 a0 (by omega)
        have sq := h.tab.stpb q0 q1 a0 (by omega)
        unfold stp at sp sq
        rw [r3_Classes_L14_eq]; unfold r3_Classes_L14_B r3_Classes_J15
        rw [if_pos (by simp; omega), if_pos rfl]
        refine G_to (by omega) (G_to (by omega) (G_to (by omega) (G_to (by omega) (G_to (by omega) (G_to (by omega) (G_to (by omega) (G_to (by omega) (G_to (by unfold fits; omega) ?_))))))))
        refine ih _ (a + 1) (by omega) (by omega) (by omega) (.inl ?_)
        rw [decide_eq_true_iff]
        have hs' := hs.1 rfl
        constructor
        · intro e
          refine ⟨hs'.1, fun b b0 b1 => ?_⟩
          by_cases e2 : b = a
          · rw [e2]; exact e
          · exact hs'.2 b b0 (by omega)
        · intro e; exact e.2 a a0 (by omega)
    · exact bad _ a1 hs
theorem r3_Classes_search (h : DOk 65536 mb d) {c : List Int} (hc : ClsOk d c) {t : Nat} (ht : t < d.2.2.1.length) {next' first : List Int} {r7} (hl : next'.length = d.2.2.1.length) (hf : first.map (sigC d c) = ksC d c t) (hb : ∀ p : Int, p ∈ first → 0 ≤ p ∧ p < d.2.2.1.length) :
    ∃ first' : List Int, first'.map (sigC d c) = ksC d c (t + 1) ∧ (∀ p : Int, p ∈ first' → 0 ≤ p ∧ p < d.2.2.1.length) ∧ r3_Classes_L10 d c (first.length : Int) t next' first r7 0 = r7 (first'.length : Int) ((t : Int) + 1) (next'.set t (idxC d c t : Int)) first' := by
  have hn := h.n1
  have hfl : first.length = (ksC d c t).length := by rw [← hf, List.length_map]
  have hle := ksC_le (d := d) c t
  have hcl := hc.len
  have key : ∀ (f : Nat) (k : Int), (first.length - k).toNat = f → 0 ≤ k → k ≤ first.length → (∀ j : Int, 0 ≤ j → j < k → sigC d c (ix first j) ≠ sigC d c t) →
      ∃ first' : List Int, first'.map (sigC d c) = ksC d c (t + 1) ∧ (∀ p : Int, p ∈ first' → 0 ≤ p ∧ p < d.2.2.1.length) ∧ r3_Classes_L10 d c (first.length : Int) t next' first r7 k = r7 (first'.length : Int) ((t : Int) + 1) (next'.set t (idxC d c t : Int)) first' := by
    intro f
    induction f with
    | zero =>
      intro k hk k0 k1 hj
      obtain rfl : k = first.length := by omega
      have hnot : sigC d c t ∉ ksC d c t := fun hm => by
        rw [← hf] at hm
        obtain ⟨p, hp, e⟩ := List.mem_map.1 hm
        obtain ⟨j, j0, j1, rfl⟩ := (ex_ix (P := fun x => x = p)).1 ⟨p, hp, rfl⟩
        exact hj j j0 j1 e
      have hidx : idxC d c t = first.length := by
        have h1 := idxC_at (d := d) c t (t + 1) (by omega)
        rw [ksC_succ, if_neg hnot, mfind_new hnot] at h1
        rw [hfl]; exact (Option.some.inj h1).symm
      refine ⟨first ++ [(t : Int)], by rw [List.map_append, hf, ksC_succ, if_neg hnot]; rfl, fun p hp => (List.mem_append.1 hp).elim (hb p) (fun e => by rw [List.mem_singleton.1 e]; omega), ?_⟩
      rw [r3_Classes_L10_eq]; unfold r3_Classes_L10_B r3_Classes_J18 r3_Classes_J21
      rw [if_neg (by simp), if_pos (by simp), hidx]
      refine G_to (by unfold room; simp; omega) (G_to (by unfold fits; omega) (G_to (by omega) (G_to (by omega) (G_to (by unfold fits; omega) ?_))))
      rw [List.length_append, List.length_singleton]; rfl
    | succ f ih =>
      intro k hk k0 k1 hj
      have hp := hb _ (ix_mem k0 (by omega : k < first.length))
      rw [r3_Classes_L10_eq]; unfold r3_Classes_L10_B
      rw [if_pos (by simp; omega)]
      have hL := r3_Classes_L14_spec (n := (first.length : Int)) (next' := next') (first := first) (r7 := r7) (k := k) (r10 := r3_Classes_L10 d c (first.length : Int) t next' first r7) h hc (q := (t : Int)) (by omega) (by omega) hp.1 hp.2 (by omega) _ (decide (ix c (ix first k) = ix c (t : Int))) 0 rfl (by omega) (by have := h.let1; omega) (.inl (by
        rw [decide_eq_true_iff]
        exact ⟨fun e => ⟨e, fun b b0 b1 => by omega⟩, fun e => e.1⟩))
      have hG : ∀ x : Option (List Int), G (0 ≤ k ∧ k < (first.length : Int)) (G (k.toNat < first.length) (G (0 ≤ ix first k ∧ ix first k < (c.length : Int)) (G ((ix first k).toNat < c.length) (G (0 ≤ (t : Int) ∧ (t : Int) < (c.length : Int)) (G (((t : Int)).toNat < c.length) x))))) = x := fun x =>
        G_to (by omega) (G_to (by omega) (G_to (by omega) (G_to (by omega) (G_to (by omega) (G_to (by omega) rfl)))))
      rw [hG, hL]
      by_cases e : sigC d c (ix first k) = sigC d c t
      · rw [if_pos e]
        have hget : (ksC d c t)[k.toNat]? = some (sigC d c t) := by
          rw [← hf, List.getElem?_map, ix_some k0 (by omega), Option.map_some, e]
        have hin : sigC d c t ∈ ksC d c t := List.mem_of_getElem? hget
        have hidx : (idxC d c t : Int) = k := by
          have h1 := idxC_at (d := d) c t (t + 1) (by omega)
          rw [ksC_succ, if_pos hin, mfind_at hget (fun j hj2 e2 => by
            have h3 := hj (j : Int) (by omega) (by omega)
            rw [← hf, List.getElem?_map, ← Int.toNat_natCast j, ix_some (by omega) (by omega), Option.map_some] at e2
            exact h3 (Option.some.inj e2))] at h1
          have := Option.some.inj h1
          omega
        refine ⟨first, by rw [hf, ksC_succ, if_pos hin], hb, ?_⟩
        unfold r3_Classes_J18 r3_Classes_J21
        rw [if_neg (by simp; omega), hidx]
        exact G_to (by omega) (G_to (by omega) (G_to (by unfold fits; omega) rfl))
      · rw [if_neg e]
        refine ih (k + 1) (by omega) (by omega) (by omega) (fun j j0 j1 => ?_)
        by_cases e2 : j = k
        · rw [e2]; exact e
        · exact hj j j0 (by omega)
  exact key _ 0 rfl (by omega) (by omega) (fun j j0 j1 => by omega)
theorem r3_Classes_pass (h : DOk 65536 mb d) {c : List Int} (hc : ClsOk d c) {count : Int} {r3} : ∀ (n t : Nat) (next' first : List Int), d.2.2.1.length - t = n → t ≤ d.2.2.1.length → next'.length = d.2.2.1.length → (∀ j : Int, 0 ≤ j → j < t → ix next' j = ix (rfC d c) j) → first.map (sigC d c) = ksC d c t → (∀ p : Int, p ∈ first → 0 ≤ p ∧ p < d.2.2.1.length) →
    r3_Classes_L7 d count c r3 (first.length : Int) t next' first = if ((ksC d c d.2.2.1.length).length : Int) = count then some (rfC d c) else r3 ((ksC d c d.2.2.1.length).length : Int) (rfC d c) := by
  have hn := h.n1
  have hcl := hc.len
  intro n
  induction n with
  | zero =>
    intro t next' first hn2 ht hl hj hf hb
    obtain rfl : t = d.2.2.1.length := by omega
    have : next' = rfC d c := ix_ext (by rw [rfC_len]; exact hl) fun j j0 j1 => hj j j0 (by omega)
    have hfl : first.length = (ksC d c d.2.2.1.length).length := by rw [← hf, List.length_map]
    rw [r3_Classes_L7_eq]; unfold r3_Classes_L7_B
    rw [if_neg (by simp; omega), this, hfl]
    by_cases e : ((ksC d c d.2.2.1.length).length : Int) = count
    · rw [if_pos (decide_eq_true e), if_pos e]
    · rw [if_neg (by simpa using e), if_neg e]
  | succ n ih =>
    intro t next' first hn2 ht hl hj hf hb
    rw [r3_Classes_L7_eq]; unfold r3_Classes_L7_B
    rw [if_pos (by simp; omega)]
    obtain ⟨first', f1, f2, f3⟩ := r3_Classes_search (r7 := r3_Classes_L7 d count c r3) h hc (by omega : t < d.2.2.1.length) hl hf hb
    refine f3.trans ?_
    refine ih (t + 1) _ first' (by omega) (by omega) (by rw [List.length_set]; exact hl) (fun j j0 j1 => ?_) f1 f2
    by_cases e : j = t
    · subst e
      have := ix_set_same (l := next') (i := (t : Int)) (x := (idxC d c t : Int)) (by omega) (by omega)
      rw [Int.toNat_natCast] at this
      rw [this, rfC_ix c j0 (by omega), Int.toNat_natCast]
    · have := ix_set_ne (l := next') (i := (t : Int)) (j := j) (x := (idxC d c t : Int)) (by omega) j0 (Ne.symm e)
      rw [Int.toNat_natCast] at this
      rw [this]; exact hj j j0 (by omega)
end

section
variable {d : Dt}
abbrev badD (m : Int) : Prop := ¬ m = 0 ∧ ¬ m = 1
/-- No word tells two states apart. -/
def LEq (d : Dt) (q : Int) (e : Dt) (r : Int) : Prop := ∀ w : List Int, (∀ a ∈ w, 0 ≤ a ∧ a < d.1) → ix d.2.2.2.1 (wlk d.2.2.1 q w) = ix e.2.2.2.1 (wlk e.2.2.1 r w)
theorem LEq.step {d e : Dt} {q r : Int} (h : LEq d q e r) {a : Int} (a0 : 0 ≤ a) (a1 : a < d.1) : LEq d (ix (ix d.2.2.1 q) a) e (ix (ix e.2.2.1 r) a) := fun w hw => h (a :: w) (fun b hb => (List.mem_cons.1 hb).elim (fun e => by rw [e]; exact ⟨a0, a1⟩) (hw b))
/-- The classes in the end. -/
structure FinC (d : Dt) (C : List Int) (K : Nat) : Prop where
  len : C.length = d.2.2.1.length
  le : K ≤ d.2.2.1.length
  b : ∀ q : Int, 0 ≤ q → q < d.2.2.1.length → 0 ≤ ix C q ∧ ix C q < K
  sur : ∀ v : Int, 0 ≤ v → v < K → ∃ q : Int, 0 ≤ q ∧ q < d.2.2.1.length ∧ ix C q = v
  mark : ∀ q r : Int, 0 ≤ q → q < d.2.2.1.length → 0 ≤ r → r < d.2.2.1.length → ix C q = ix C r → ix d.2.2.2.1 q = ix d.2.2.2.1 r
  stable : ∀ q r : Int, 0 ≤ q → q < d.2.2.1.length → 0 ≤ r → r < d.2.2.1.length → ix C q = ix C r → ∀ a : Int, 0 ≤ a → a < d.1 → ix C (ix (ix d.2.2.1 q) a) = ix C (ix (ix d.2.2.1 r) a)
  coarse : ∀ q r : Int, 0 ≤ q → q < d.2.2.1.length → 0 ≤ r → r < d.2.2.1.length → LEq d q d r → ix C q = ix C r
theorem rfC_same {c : List Int} {q r : Int} (q0 : 0 ≤ q) (q1 : q < d.2.2.1.length) (r0 : 0 ≤ r) (r1 : r < d.2.2.1.length) : ix (rfC d c) q = ix (rfC d c) r ↔ sigC d c q = sigC d c r := by
  rw [rfC_ix c q0 q1, rfC_ix c r0 r1]
  have := idxC_iff (d := d) c (q := q.toNat) (r := r.toNat)
  rw [Int.toNat_of_nonneg q0, Int.toNat_of_nonneg r0] at this
  rw [← this]
  exact ⟨fun e => by exact_mod_cast e, fun e => by rw [e]⟩
theorem iota_mem {n : Nat} {v : Int} : v ∈ iota n ↔ 0 ≤ v ∧ v < n := by
  unfold iota
  rw [List.mem_map]
  constructor
  · rintro ⟨j, hj, rfl⟩; have := List.mem_range.1 hj; omega
  · rintro ⟨h0, h1⟩; exact ⟨v.toNat, List.mem_range.2 (by omega), by omega⟩
theorem iota_nodup (n : Nat) : (iota n).Nodup := by
  unfold iota
  refine List.Pairwise.map _ (fun a b (h : a ≠ b) => by omega) (List.nodup_range (n := n))
theorem classes_iter (h : DOk 65536 badD d) : ∀ (f k : Nat) (c : List Int), d.2.2.1.length - k = f → ClsOk d c →
    (∀ q r : Int, 0 ≤ q → q < d.2.2.1.length → 0 ≤ r → r < d.2.2.1.length → ix c q = ix c r → ix d.2.2.2.1 q = ix d.2.2.2.1 r) → (∀ v : Int, 0 ≤ v → v < k → ∃ q : Int, 0 ≤ q ∧ q < d.2.2.1.length ∧ ix c q = v) → (∀ q r : Int, 0 ≤ q → q < d.2.2.1.length → 0 ≤ r → r < d.2.2.1.length → LEq d q d r → ix c q = ix c r) →
    ∃ C K, FinC d C K ∧ det_Classes_L3 d (k : Int) c = some C ∧ r3_Classes_L3 d (k : Int) c = some C := by
  have hn := h.n1
  intro f
  induction f using Nat.strongRecOn with
  | ind f ih =>
  intro k c hf hc hm hs hco
  have hcl := hc.len
  have hK := ksC_le (d := d) c d.2.2.1.length
  have hcov : ∀ x ∈ iota k, x ∈ (ksC d c d.2.2.1.length).map Prod.fst := fun x hx => by
    obtain ⟨x0, x1⟩ := iota_mem.1 hx
    obtain ⟨q, q0, q1, e⟩ := hs x x0 x1
    have := ksC_mem (d := d) c d.2.2.1.length q.toNat (by omega)
    rw [Int.toNat_of_nonneg q0] at this
    exact List.mem_map.2 ⟨_, this, e⟩
  have hge : k ≤ (ksC d c d.2.2.1.length).length := by
    have := pigeon (iota_nodup k) hcov
    rwa [iota_len, List.length_map] at this
  have hpos : 0 < (ksC d c d.2.2.1.length).length := List.length_pos_of_mem (ksC_mem (d := d) c d.2.2.1.length 0 (by omega))
  have eP : det_Classes_L3 d (k : Int) c = if ((ksC d c d.2.2.1.length).length : Int) = k then some (rfC d c) else det_Classes_L3 d ((ksC d c d.2.2.1.length).length : Int) (rfC d c) := by
    conv => lhs; rw [det_Classes_L3_eq]; unfold det_Classes_L3_B
    refine G_to (by unfold mkOK; omega) ?_
    exact det_Classes_pass h hc _ 0 _ rfl (by omega) (by simp; omega) (fun j j0 j1 => by omega)
  have eR : r3_Classes_L3 d (k : Int) c = if ((ksC d c d.2.2.1.length).length : Int) = k then some (rfC d c) else r3_Classes_L3 d ((ksC d c d.2.2.1.length).length : Int) (rfC d c) := by
    conv => lhs; rw [r3_Classes_L3_eq]; unfold r3_Classes_L3_B
    refine G_to (by unfold mkOK; omega) ?_
    exact r3_Classes_pass h hc _ 0 _ [] rfl (by omega) (by simp; omega) (fun j j0 j1 => by omega) rfl (fun p hp => by cases hp)
  have b' : ∀ q : Int, 0 ≤ q → q < d.2.2.1.length → 0 ≤ ix (rfC d c) q ∧ ix (rfC d c) q < (ksC d c d.2.2.1.length).length := fun q q0 q1 => by
    rw [rfC_ix c q0 q1]
    have := idxC_lt (d := d) c (q := q.toNat) (t := d.2.2.1.length) (by omega)
    omega
  have sur' : ∀ v : Int, 0 ≤ v → v < (ksC d c d.2.2.1.length).length → ∃ q : Int, 0 ≤ q ∧ q < d.2.2.1.length ∧ ix (rfC d c) q = v := fun v v0 v1 => by
    obtain ⟨q, hq, e⟩ := idxC_sur (d := d) c (t := d.2.2.1.length) (j := v.toNat) (by omega)
    refine ⟨q, by omega, by omega, ?_⟩
    rw [rfC_ix c (by omega) (by omega), Int.toNat_natCast, e]; omega
  have m' : ∀ q r : Int, 0 ≤ q → q < d.2.2.1.length → 0 ≤ r → r < d.2.2.1.length → ix (rfC d c) q = ix (rfC d c) r → ix d.2.2.2.1 q = ix d.2.2.2.1 r := fun q r q0 q1 r0 r1 e =>
    hm q r q0 q1 r0 r1 (congrArg Prod.fst ((rfC_same q0 q1 r0 r1).1 e))
  have co' : ∀ q r : Int, 0 ≤ q → q < d.2.2.1.length → 0 ≤ r → r < d.2.2.1.length → LEq d q d r → ix (rfC d c) q = ix (rfC d c) r := fun q r q0 q1 r0 r1 hq => by
    refine (rfC_same q0 q1 r0 r1).2 ((sigC_eq h c q0 q1 r0 r1).2 ⟨hco q r q0 q1 r0 r1 hq, fun a a0 a1 => ?_⟩)
    have sq := h.tab.stpb q0 q1 a0 a1
    have sr := h.tab.stpb r0 r1 a0 a1
    exact hco _ _ sq.1 sq.2 sr.1 sr.2 (hq.step a0 a1)
  by_cases e : ((ksC d c d.2.2.1.length).length : Int) = k
  · rw [if_pos e] at eP eR
    refine ⟨rfC d c, _, ⟨rfC_len c, hK, b', sur', m', fun q r q0 q1 r0 r1 he a a0 a1 => ?_, co'⟩, eP, eR⟩
    have hnd : ((ksC d c d.2.2.1.length).map Prod.fst).Nodup := cover_nodup (iota_nodup k) hcov (by rw [List.length_map, iota_len]; omega)
    have tot : ∀ x y : Int, 0 ≤ x → x < d.2.2.1.length → 0 ≤ y → y < d.2.2.1.length → ix c x = ix c y → ix (rfC d c) x = ix (rfC d c) y := fun x y x0 x1 y0 y1 exy => by
      rw [rfC_same x0 x1 y0 y1]
      have hx := ksC_mem (d := d) c d.2.2.1.length x.toNat (by omega)
      have hy := ksC_mem (d := d) c d.2.2.1.length y.toNat (by omega)
      rw [Int.toNat_of_nonneg x0] at hx
      rw [Int.toNat_of_nonneg y0] at hy
      obtain ⟨i, hi, ei⟩ := List.mem_iff_getElem.1 hx
      obtain ⟨j, hj, ej⟩ := List.mem_iff_getElem.1 hy
      have key : ∀ i j : Nat, (hi : i < (ksC d c d.2.2.1.length).length) → (hj : j < (ksC d c d.2.2.1.length).length) → i < j → (ksC d c d.2.2.1.length)[i].1 ≠ (ksC d c d.2.2.1.length)[j].1 := fun i j hi hj hlt hh => by
        have := List.pairwise_iff_getElem.1 hnd i j (by rw [List.length_map]; exact hi) (by rw [List.length_map]; exact hj) hlt
        rw [List.getElem_map, List.getElem_map] at this
        exact this hh
      have hfst : (ksC d c d.2.2.1.length)[i].1 = (ksC d c d.2.2.1.length)[j].1 := by rw [ei, ej]; exact exy
      have : i = j := by
        rcases Nat.lt_trichotomy i j with hlt | rfl | hlt
        · exact absurd hfst (key i j hi hj hlt)
        · rfl
        · exact absurd hfst.symm (key j i hj hi hlt)
      subst this
      rw [← ei, ej]
    have hsig := (sigC_eq h c q0 q1 r0 r1).1 ((rfC_same q0 q1 r0 r1).1 he)
    have sq := h.tab.stpb q0 q1 a0 a1
    have sr := h.tab.stpb r0 r1 a0 a1
    unfold stp at sq sr
    exact tot _ _ sq.1 sq.2 sr.1 sr.2 (hsig.2 a a0 a1)
  · rw [if_neg e] at eP eR
    rw [eP, eR]
    have hlt : k < (ksC d c d.2.2.1.length).length := by omega
    exact ih (d.2.2.1.length - (ksC d c d.2.2.1.length).length) (by omega) _ (rfC d c) rfl ⟨rfC_len c, fun q q0 q1 => by
      rw [rfC_len] at q1
      have := b' q q0 q1
      omega⟩ m' sur' co'
theorem classes_both (h : DOk 65536 badD d) : ∃ C K, FinC d C K ∧ det_Classes d = some C ∧ r3_Classes d = some C := by
  have hn := h.n1
  have hmk := h.mkl
  have hc : ClsOk d d.2.2.2.1 := ⟨by omega, fun q q0 q1 => by
    have := h.mok _ (ix_mem q0 q1)
    omega⟩
  obtain ⟨C, K, h1, h2, h3⟩ := classes_iter h _ 0 d.2.2.2.1 rfl hc (fun q r _ _ _ _ e => e) (fun v v0 v1 => by omega) (fun q r _ _ _ _ e => e [] (fun a ha => by cases ha))
  refine ⟨C, K, h1, ?_, ?_⟩
  · unfold det_Classes
    exact bind_to (slices_Clone_spec (by omega)) h2
  · unfold r3_Classes
    exact G_to (by unfold room; simp; omega) h3
end

/-- Going by keys: the keys met, and a row, after so many letters. -/
noncomputable def xRow {α : Type} (nx : α → Int → α) (s : α) (l : List α) : Nat → List α × List Int
  | 0 => (l, [])
  | t + 1 => match mfind (xRow nx s l t).1 (nx s (t : Int)) with
    | some j => ((xRow nx s l t).1, (xRow nx s l t).2 ++ [(j : Int)])
    | none => ((xRow nx s l t).1 ++ [nx s (t : Int)], (xRow nx s l t).2 ++ [((xRow nx s l t).1.length : Int)])
/-- .. after so many keys. -/
noncomputable def xSt {α : Type} [Inhabited α] (nx : α → Int → α) (mk : α → Int) (L : Nat) (first : α) : Nat → List α × List (List Int) × List Int
  | 0 => ([first], [], [])
  | i + 1 => ((xRow nx (ix (xSt nx mk L first i).1 (i : Int)) (xSt nx mk L first i).1 L).1, (xSt nx mk L first i).2.1 ++ [(xRow nx (ix (xSt nx mk L first i).1 (i : Int)) (xSt nx mk L first i).1 L).2], (xSt nx mk L first i).2.2 ++ [mk (ix (xSt nx mk L first i).1 (i : Int))])
theorem xRow_some {α : Type} {nx : α → Int → α} {s : α} {l : List α} {t j : Nat} (h : mfind (xRow nx s l t).1 (nx s (t : Int)) = some j) : xRow nx s l (t + 1) = ((xRow nx s l t).1, (xRow nx s l t).2 ++ [(j : Int)]) := by
  rw [xRow, h]
theorem xRow_none {α : Type} {nx : α → Int → α} {s : α} {l : List α} {t : Nat} (h : mfind (xRow nx s l t).1 (nx s (t : Int)) = none) : xRow nx s l (t + 1) = ((xRow nx s l t).1 ++ [nx s (t : Int)], (xRow nx s l t).2 ++ [((xRow nx s l t).1.length : Int)]) := by
  rw [xRow, h]
section
variable {α : Type} [Inhabited α] {nx : α → Int → α} {mk : α → Int} {L : Nat} {first : α} {B : Nat} {P : α → Prop}
/-- Keys are small numbers of a kind. -/
structure XOk {α : Type} (nx : α → Int → α) (mk : α → Int) (L : Nat) (first : α) (B : Nat) (P : α → Prop) : Prop where
  b : ∀ l : List α, l.Nodup → (∀ x ∈ l, P x) → l.length ≤ B
  f : P first
  n : ∀ s, P s → ∀ t : Int, 0 ≤ t → t < L → P (nx s t)
  m : ∀ s, P s → mk s = 0 ∨ mk s = 1
theorem XOk.int {nx : Int → Int → Int} {mk : Int → Int} {L : Nat} {first : Int} {B : Nat} {P : Int → Prop} (b : ∀ s, P s → 0 ≤ s ∧ s < B) (f : P first) (n : ∀ s, P s → ∀ t : Int, 0 ≤ t → t < L → P (nx s t)) (m : ∀ s, P s → mk s = 0 ∨ mk s = 1) : XOk nx mk L first B P :=
  ⟨fun l hn hp => pigeon_int hn (fun x hx => b x (hp x hx)), f, n, m⟩
structure LiOk {α : Type} (B : Nat) (P : α → Prop) (l : List α) : Prop where
  nd : l.Nodup
  p : ∀ x ∈ l, P x
theorem LiOk.len (h : XOk nx mk L first B P) {l : List α} (k : LiOk B P l) : l.length ≤ B := h.b l k.nd k.p
structure XR {α : Type} [Inhabited α] (nx : α → Int → α) (s : α) (l : List α) (t : Nat) (r : List α × List Int) : Prop where
  pre : ∃ x, r.1 = l ++ x
  len : r.2.length = t
  to : ∀ a : Int, 0 ≤ a → a < t → 0 ≤ ix r.2 a ∧ ix r.2 a < r.1.length ∧ ix r.1 (ix r.2 a) = nx s a
theorem mfind_ix {l : List α} {x : α} {j : Nat} (h : mfind l x = some j) : (j : Int) < l.length ∧ ix l (j : Int) = x := by
  have h1 := mfind_lt h
  have h2 := mfind_get h
  refine ⟨by omega, ?_⟩
  rw [List.getElem?_eq_getElem h1] at h2
  rw [ix_eq (l := l) (by omega) (by omega)]
  simpa using h2
theorem xRow_ok (h : XOk nx mk L first B P) {s : α} (hs : P s) {l : List α} (hl : LiOk B P l) : ∀ t : Nat, t ≤ L → LiOk B P (xRow nx s l t).1 ∧ XR nx s l t (xRow nx s l t)
  | 0, _ => ⟨hl, ⟨[], by simp [xRow]⟩, rfl, fun a a0 a1 => by omega⟩
  | t + 1, ht => by
    obtain ⟨h1, ⟨⟨x, hx⟩, h2, h3⟩⟩ := xRow_ok h hs hl t (by omega)
    have hp := h.n s hs (t : Int) (by omega) (by omega)
    unfold xRow
    cases e : mfind (xRow nx s l t).1 (nx s (t : Int)) with
    | some j =>
      obtain ⟨j1, j2⟩ := mfind_ix e
      refine ⟨h1, ⟨⟨x, hx⟩, by simp [h2], fun a a0 a1 => ?_⟩⟩
      show 0 ≤ ix ((xRow nx s l t).2 ++ [(j : Int)]) a ∧ _
      by_cases c : a < t
      · rw [ix_append_left a0 (by omega)]; exact h3 a a0 c
      · obtain rfl : a = ((xRow nx s l t).2.length : Int) := by omega
        rw [ix_append_last]
        refine ⟨by omega, j1, ?_⟩
        show ix (xRow nx s l t).1 (j : Int) = _
        rw [j2, h2]
    | none =>
      have hn := mfind_none.1 e
      refine ⟨⟨?_, fun y hy => (List.mem_append.1 hy).elim (h1.p y) (fun e2 => by rw [List.mem_singleton.1 e2]; exact hp)⟩, ⟨⟨x ++ [nx s (t : Int)], by show (xRow nx s l t).1 ++ _ = _; rw [hx, List.append_assoc]⟩, by simp [h2], fun a a0 a1 => ?_⟩⟩
      · show ((xRow nx s l t).1 ++ [nx s (t : Int)]).Nodup
        rw [List.nodup_append]
        exact ⟨h1.nd, by simp, fun u hu v hv => by rw [List.mem_singleton.1 hv]; rintro rfl; exact hn hu⟩
      · show 0 ≤ ix ((xRow nx s l t).2 ++ [((xRow nx s l t).1.length : Int)]) a ∧ ix ((xRow nx s l t).2 ++ [((xRow nx s l t).1.length : Int)]) a < (((xRow nx s l t).1 ++ [nx s (t : Int)]).length : Int) ∧ ix ((xRow nx s l t).1 ++ [nx s (t : Int)]) (ix ((xRow nx s l t).2 ++ [((xRow nx s l t).1.length : Int)]) a) = nx s a
        rw [List.length_append, List.length_singleton]
        by_cases c : a < t
        · obtain ⟨g1, g2, g3⟩ := h3 a a0 c
          rw [ix_append_left a0 (by omega), ix_append_left g1 g2]
          exact ⟨g1, by omega, g3⟩
        · obtain rfl : a = ((xRow nx s l t).2.length : Int) := by omega
          rw [ix_append_last, ix_append_last, h2]
          exact ⟨by omega, by omega, rfl⟩
structure XS {α : Type} [Inhabited α] (nx : α → Int → α) (mk : α → Int) (L : Nat) (first : α) (i : Nat) (x : List α × List (List Int) × List Int) : Prop where
  z : ix x.1 0 = first
  r : x.2.1.length = i
  m : x.2.2.length = i
  row : ∀ k : Int, 0 ≤ k → k < i → (ix x.2.1 k).length = L ∧ ∀ a : Int, 0 ≤ a → a < L → 0 ≤ ix (ix x.2.1 k) a ∧ ix (ix x.2.1 k) a < x.1.length ∧ ix x.1 (ix (ix x.2.1 k) a) = nx (ix x.1 k) a
  mark : ∀ k : Int, 0 ≤ k → k < i → ix x.2.2 k = mk (ix x.1 k)
/-- It goes on until i. -/
def XGo {α : Type} [Inhabited α] (nx : α → Int → α) (mk : α → Int) (L : Nat) (first : α) (i : Nat) : Prop := ∀ k < i, k < (xSt nx mk L first k).1.length
theorem xSt_ok (h : XOk nx mk L first B P) : ∀ i : Nat, XGo nx mk L first i → LiOk B P (xSt nx mk L first i).1 ∧ i ≤ (xSt nx mk L first i).1.length ∧ XS nx mk L first i (xSt nx mk L first i)
  | 0, _ => ⟨⟨by simp [xSt], fun x hx => by
      have : x = first := by simpa [xSt] using hx
      rw [this]; exact h.f⟩, by omega, rfl, rfl, rfl, fun k k0 k1 => by omega, fun k k0 k1 => by omega⟩
  | i + 1, hg => by
    obtain ⟨h1, h2, h3⟩ := xSt_ok h i (fun k hk => hg k (by omega))
    have hi := hg i (by omega)
    have hP := h1.p _ (ix_mem (by omega) (by omega : (i : Int) < (xSt nx mk L first i).1.length))
    obtain ⟨g1, ⟨⟨x, hx⟩, g2, g3⟩⟩ := xRow_ok h hP h1 L (Nat.le_refl _)
    unfold xSt
    generalize hX : xSt nx mk L first i = X at *
    generalize hR : xRow nx (ix X.1 (i : Int)) X.1 L = R at *
    have pre : ∀ k : Int, 0 ≤ k → k < X.1.length → ix R.1 k = ix X.1 k := fun k k0 k1 => by rw [hx, ix_append_left k0 k1]
    have lenR : X.1.length ≤ R.1.length := by rw [hx, List.length_append]; omega
    refine ⟨g1, by show i + 1 ≤ R.1.length; omega, ?_, by simp [h3.r], by simp [h3.m], fun k k0 k1 => ?_, fun k k0 k1 => ?_⟩
    · show ix R.1 0 = first
      rw [pre 0 (by omega) (by omega)]; exact h3.z
    · show (ix (X.2.1 ++ [R.2]) k).length = L ∧ ∀ a : Int, 0 ≤ a → a < L → 0 ≤ ix (ix (X.2.1 ++ [R.2]) k) a ∧ ix (ix (X.2.1 ++ [R.2]) k) a < R.1.length ∧ ix R.1 (ix (ix (X.2.1 ++ [R.2]) k) a) = nx (ix R.1 k) a
      have hr := h3.r
      by_cases c : k < i
      · obtain ⟨r1, r2⟩ := h3.row k k0 c
        rw [ix_append_left k0 (by omega), pre k k0 (by omega)]
        refine ⟨r1, fun a a0 a1 => ?_⟩
        obtain ⟨s1, s2, s3⟩ := r2 a a0 a1
        rw [pre _ s1 s2]
        exact ⟨s1, by omega, s3⟩
      · have hk : k = (X.2.1.length : Int) := by omega
        rw [hk, ix_append_last, hr, pre (i : Int) (by omega) (by omega)]
        exact ⟨g2, fun a a0 a1 => g3 a a0 a1⟩
    · show ix (X.2.2 ++ [mk (ix X.1 (i : Int))]) k = mk (ix R.1 k)
      have hm := h3.m
      rw [pre k k0 (by omega)]
      by_cases c : k < i
      · rw [ix_append_left k0 (by omega)]; exact h3.mark k k0 c
      · have hk : k = (X.2.2.length : Int) := by omega
        rw [hk, ix_append_last, hm]
theorem xSt_stops (h : XOk nx mk L first B P) : ∃ n, n ≤ B ∧ XGo nx mk L first n ∧ (xSt nx mk L first n).1.length = n := by
  have key : ∀ f i : Nat, B - i = f → XGo nx mk L first i → ∃ n, n ≤ B ∧ XGo nx mk L first n ∧ (xSt nx mk L first n).1.length = n := by
    intro f
    induction f with
    | zero =>
      intro i hf hg
      obtain ⟨h1, h2, _⟩ := xSt_ok h i hg
      have := h1.len h
      exact ⟨i, by omega, hg, by omega⟩
    | succ f ih =>
      intro i hf hg
      obtain ⟨h1, h2, _⟩ := xSt_ok h i hg
      have := h1.len h
      by_cases c : (xSt nx mk L first i).1.length = i
      · exact ⟨i, by omega, hg, c⟩
      · refine ih (i + 1) (by omega) (fun k hk => ?_)
        by_cases e : k = i
        · subst e; omega
        · exact hg k (by omega)
  exact key _ 0 rfl (fun k hk => by omega)
/-- The automaton that comes of it. -/
noncomputable def xAut {α : Type} [Inhabited α] (nx : α → Int → α) (mk : α → Int) (L : Nat) (first : α) (n : Nat) : Dt := ((L : Int), 0, (xSt nx mk L first n).2.1, (xSt nx mk L first n).2.2, ())
theorem xAut_ok (h : XOk nx mk L first B P) (hL : 1 ≤ L ∧ L ≤ 4) (hB : B ≤ 65536) {n : Nat} (hg : XGo nx mk L first n) (hn : (xSt nx mk L first n).1.length = n) : DOk 65536 badD (xAut nx mk L first n) := by
  obtain ⟨h1, h2, h3⟩ := xSt_ok h n hg
  have hb := h1.len h
  have hr := h3.r
  have hm := h3.m
  have hpos : 0 < n := by
    refine Nat.pos_of_ne_zero fun e => ?_
    subst e
    simp [xSt] at hn
  refine ⟨by show 1 ≤ (L : Int) ∧ (L : Int) ≤ 4; omega, ?_, ?_, ?_, fun s hs => ?_, ⟨fun r hr2 => ?_, fun r hr2 q hq => ?_⟩⟩
  · show 1 ≤ (xSt nx mk L first n).2.1.length ∧ ((xSt nx mk L first n).2.1.length : Int) ≤ 65536
    omega
  · show (0 : Int) ≤ 0 ∧ (0 : Int) < ((xSt nx mk L first n).2.1.length : Int)
    omega
  · show ((xSt nx mk L first n).2.2.length : Int) = ((xSt nx mk L first n).2.1.length : Int)
    omega
  · obtain ⟨k, k0, k1, rfl⟩ := (ex_ix (P := fun x => x = s)).1 ⟨s, hs, rfl⟩
    have hk : k < n := by
      have : k < ((xSt nx mk L first n).2.2.length : Int) := k1
      omega
    have e : ix (xAut nx mk L first n).2.2.2.1 k = mk (ix (xSt nx mk L first n).1 k) := h3.mark k k0 hk
    rw [e]
    have := h.m _ (h1.p _ (ix_mem k0 (by omega)))
    omega
  · obtain ⟨k, k0, k1, rfl⟩ := (ex_ix (P := fun x => x = r)).1 ⟨r, hr2, rfl⟩
    have hk : k < n := by
      have : k < ((xSt nx mk L first n).2.1.length : Int) := k1
      omega
    have := (h3.row k k0 hk).1
    show ((ix (xSt nx mk L first n).2.1 k).length : Int) = (L : Int)
    omega
  · obtain ⟨k, k0, k1, rfl⟩ := (ex_ix (P := fun x => x = r)).1 ⟨r, hr2, rfl⟩
    have hk : k < n := by
      have : k < ((xSt nx mk L first n).2.1.length : Int) := k1
      omega
    obtain ⟨r1, r2⟩ := h3.row k k0 hk
    obtain ⟨a, a0, a1, rfl⟩ := (ex_ix (P := fun x => x = q)).1 ⟨q, hq, rfl⟩
    have ha : a < (L : Int) := by
      have : a < ((ix (xSt nx mk L first n).2.1 k).length : Int) := a1
      omega
    obtain ⟨s1, s2, s3⟩ := r2 a a0 ha
    show 0 ≤ ix (ix (xSt nx mk L first n).2.1 k) a ∧ ix (ix (xSt nx mk L first n).2.1 k) a < ((xSt nx mk L first n).2.1.length : Int)
    omega
/-- A walk in it is a walk by keys. -/
theorem xAut_walk (h : XOk nx mk L first B P) {n : Nat} (hg : XGo nx mk L first n) (hn : (xSt nx mk L first n).1.length = n) : ∀ (w : List Int) (q : Int), 0 ≤ q → q < n → (∀ a ∈ w, 0 ≤ a ∧ a < (L : Int)) →
    0 ≤ wlk (xAut nx mk L first n).2.2.1 q w ∧ wlk (xAut nx mk L first n).2.2.1 q w < n ∧ ix (xSt nx mk L first n).1 (wlk (xAut nx mk L first n).2.2.1 q w) = w.foldl nx (ix (xSt nx mk L first n).1 q)
  | [], q, q0, q1, _ => ⟨q0, q1, rfl⟩
  | a :: w, q, q0, q1, hw => by
    obtain ⟨_, _, h3⟩ := xSt_ok h n hg
    have ha := hw a (by simp)
    obtain ⟨s1, s2, s3⟩ := (h3.row q q0 q1).2 a ha.1 ha.2
    have := xAut_walk h hg hn w (ix (ix (xSt nx mk L first n).2.1 q) a) s1 (by omega) (fun b hb => hw b (by simp [hb]))
    rw [s3] at this
    exact this
end

section
variable {d : Dt}
structure RowOk (d : Dt) (C Q : List Int) (i : Int) (row : List Int) : Prop where
  len : (row.length : Int) = d.1
  to : ∀ a : Int, 0 ≤ a → a < d.1 → 0 ≤ ix row a ∧ ix row a < Q.length ∧ ix C (ix Q (ix row a)) = ix C (ix (ix d.2.2.1 (ix Q i)) a)
structure QOk (d : Dt) (C Q : List Int) : Prop where
  b : ∀ q : Int, q ∈ Q → 0 ≤ q ∧ q < d.2.2.1.length
  nd : (Q.map (ix C)).Nodup
  z : 0 < Q.length ∧ ix Q 0 = d.2.1
structure PartOk (d : Dt) (C Q : List Int) (D2 : List (List Int)) (D3 : List Int) : Prop where
  q : QOk d C Q
  l2 : D2.length ≤ Q.length
  l3 : D3.length = D2.length
  row : ∀ i : Int, 0 ≤ i → i < D2.length → RowOk d C Q i (ix D2 i)
  mark : ∀ i : Int, 0 ≤ i → i < D2.length → ix D3 i = ix d.2.2.2.1 (ix Q i)
theorem QOk.le {C Q : List Int} {K : Nat} (hC : FinC d C K) (h : QOk d C Q) : Q.length ≤ K := by
  have := pigeon_int (n := K) h.nd (fun v hv => by
    obtain ⟨q, hq, rfl⟩ := List.mem_map.1 hv
    have := h.b q hq
    exact hC.b q this.1 this.2)
  rwa [List.length_map] at this
theorem RowOk.ext {C Q : List Int} {i : Int} {row : List Int} (h : RowOk d C Q i row) (i0 : 0 ≤ i) (i1 : i < Q.length) (x : List Int) : RowOk d C (Q ++ x) i row :=
  ⟨h.len, fun a a0 a1 => by
    obtain ⟨h1, h2, h3⟩ := h.to a a0 a1
    rw [ix_append_left h1 h2, ix_append_left i0 i1]
    exact ⟨h1, by rw [List.length_append]; omega, h3⟩⟩
structure OfOk (d : Dt) (C l : List Int) (K : Nat) : Prop where
  len : l.length = d.2.2.1.length
  b : ∀ v : Int, 0 ≤ v → v < K → 0 ≤ ix l v ∧ ix l v < d.2.2.1.length ∧ ix C (ix l v) = v
/-- Going by classes. -/
noncomputable def nxC (d : Dt) (C l : List Int) (v a : Int) : Int := ix C (ix (ix d.2.2.1 (ix l v)) a)
noncomputable def mkC (d : Dt) (l : List Int) (v : Int) : Int := ix d.2.2.2.1 (ix l v)
/-- A least automaton, and of which states its states are. -/
structure LeastOk (d o : Dt) (C Q : List Int) (K : Nat) : Prop where
  fin : FinC d C K
  part : PartOk d C Q o.2.2.1 o.2.2.2.1
  all : o.2.2.1.length = Q.length
  let1 : o.1 = d.1
  st : o.2.1 = 0
  by1 : ∃ (l : List Int) (n : Nat), OfOk d C l K ∧ XGo (nxC d C l) (mkC d l) d.1.toNat (ix C d.2.1) n ∧ (xSt (nxC d C l) (mkC d l) d.1.toNat (ix C d.2.1) n).1.length = n ∧ o = xAut (nxC d C l) (mkC d l) d.1.toNat (ix C d.2.1) n
/-- What numbers stand for classes. -/
def NumOk (d : Dt) (C Q NA : List Int) : Prop := NA.length = d.2.2.1.length ∧ ∀ v : Int, 0 ≤ v → v < d.2.2.1.length → ix NA v = match mfind (Q.map (ix C)) v with
  | some j => (j : Int)
  | none => -1
theorem take_set_succ {row : List Int} {t : Nat} {v : Int} (h : t < row.length) : (row.set t v).take (t + 1) = row.take t ++ [v] := by
  rw [List.take_add_one, List.take_set_of_le (Nat.le_refl _), List.getElem?_set_self h]; rfl
theorem least_letters (h : DOk 65536 badD d) {C l Q0 : List Int} {K : Nat} (hC : FinC d C K) (hl : OfOk d C l K) {L0 : List Int} {D2 : List (List Int)} {D3 : List Int} {r4 r11} {lk : List Int} {i : Int} (hi : i = D2.length) (eL : ix L0 i = ix C (ix Q0 i)) :
    ∀ (f : Nat) (t : Int) (Q NA row : List Int), (d.1 - t).toNat = f → 0 ≤ t → t ≤ d.1 → PartOk d C Q D2 D3 → i < Q.length → ix Q i = ix Q0 i → NumOk d C Q NA → (row.length : Int) = d.1 →
      (∀ a : Int, 0 ≤ a → a < t → 0 ≤ ix row a ∧ ix row a < Q.length ∧ ix C (ix Q (ix row a)) = ix C (ix (ix d.2.2.1 (ix Q i)) a)) → xRow (nxC d C l) (ix C (ix Q0 i)) lk t.toNat = (Q.map (ix C), row.take t.toNat) →
    ∃ x NA' row', xRow (nxC d C l) (ix C (ix Q0 i)) lk d.1.toNat = ((Q ++ x).map (ix C), row') ∧ PartOk d C (Q ++ x) (D2 ++ [row']) (D3 ++ [ix d.2.2.2.1 (ix Q i)]) ∧ NumOk d C (Q ++ x) NA' ∧
      det_Explore_1_L8 d.1 C d l d l ((C.length : Int) + 1) d.1 0 L0 D2 D3 r4 t (Q.map (ix C)) (iota (Q.map (ix C)).length) (Q.map (ix C)) row = r4 d.1 0 ((Q ++ x).map (ix C)) (iota ((Q ++ x).map (ix C)).length) ((Q ++ x).map (ix C)) (D2 ++ [row']) (D3 ++ [ix d.2.2.2.1 (ix Q i)]) ∧
      r3_Least_L15 d C i d.1 0 D2 D3 r11 t NA Q row = r11 (i + 1) NA' (Q ++ x) d.1 0 (D2 ++ [row']) (D3 ++ [ix d.2.2.2.1 (ix Q i)]) := by
  have hn := h.n1
  have hlt := h.let1
  have hmk := h.mkl
  have hcl := hC.len
  have hK := hC.le
  intro f
  induction f with
  | zero =>
    intro t Q NA row hf t0 t1 hP hiQ eQ hN hrl hrow hxr
    obtain rfl : t = d.1 := by omega
    have hQK := hP.q.le hC
    have hq := hP.q.b _ (ix_mem (by omega) hiQ)
    have hv := hC.b _ hq.1 hq.2
    obtain ⟨o1, o2, o3⟩ := hl.b _ hv.1 hv.2
    have hl3 := hP.l3
    have hll := hl.len
    have hmark : ix d.2.2.2.1 (ix l (ix C (ix Q i))) = ix d.2.2.2.1 (ix Q i) := hC.mark _ _ o1 o2 hq.1 hq.2 o3
    refine ⟨[], NA, row, by rw [hxr, List.append_nil, List.take_of_length_le (by omega)], ⟨by simpa using hP.q, by rw [List.length_append, List.length_append, List.length_singleton]; omega, by rw [List.length_append, List.length_append, List.length_singleton, List.length_singleton]; omega, fun j j0 j1 => ?_, fun j j0 j1 => ?_⟩, by simpa using hN, ?_, ?_⟩
    · rw [List.length_append, List.length_singleton] at j1
      rw [List.append_nil]
      by_cases e : j < D2.length
      · rw [ix_append_left j0 e]; exact hP.row j j0 e
      · obtain rfl : j = D2.length := by omega
        rw [ix_append_last, ← hi]; exact ⟨hrl, hrow⟩
    · rw [List.length_append, List.length_singleton] at j1
      rw [List.append_nil]
      by_cases e : j < D2.length
      · rw [ix_append_left j0 (by omega)]; exact hP.mark j j0 e
      · have e1 : j = D3.length := by omega
        have e2 : j = i := by omega
        rw [e1, ix_append_last, ← e1, e2]
    · rw [det_Explore_1_L8_eq]; unfold det_Explore_1_L8_B det_Smallest_2
      rw [if_neg (by simp), ← hi, eL, ← eQ, List.append_nil]
      refine G_to (by unfold room; simp; have := hP.l2; omega) ?_
      refine bind_to (y := ix d.2.2.2.1 (ix Q i)) ?_ ?_
      · rw [← hmark]
        exact G_to (by omega) (G_to (by omega) rfl)
      · exact G_to (by unfold room; simp; have := hP.l2; omega) rfl
    · rw [r3_Least_L15_eq]; unfold r3_Least_L15_B
      rw [if_neg (by simp), List.append_nil]
      exact G_to (by unfold room; simp; have := hP.l2; omega) (G_to (by omega) (G_to (by omega) (G_to (by omega) (G_to (by unfold room; simp; have := hP.l2; omega) (G_to (by unfold fits; omega) rfl)))))
  | succ f ih =>
    intro t Q NA row hf t0 t1 hP hiQ eQ hN hrl hrow hxr
    have hQK := hP.q.le hC
    have hq := hP.q.b _ (ix_mem (by omega) hiQ)
    have hv := hC.b _ hq.1 hq.2
    obtain ⟨o1, o2, o3⟩ := hl.b _ hv.1 hv.2
    have hll := hl.len
    have hr1 := h.tab.rowlen hq.1 hq.2
    have hr2 := h.tab.rowlen o1 o2
    have hx := h.tab.stpb hq.1 hq.2 t0 (by omega)
    have hy := h.tab.stpb o1 o2 t0 (by omega)
    unfold stp at hx hy
    have hst := hC.stable _ _ o1 o2 hq.1 hq.2 o3 t t0 (by omega)
    have hw := hC.b _ hx.1 hx.2
    have hNx := hN.2 _ hw.1 (by omega : _ < (d.2.2.1.length : Int))
    have hNl := hN.1
    -- the next state and its class
    obtain ⟨x, hxd⟩ : ∃ x, x = ix (ix d.2.2.1 (ix Q i)) t := ⟨_, rfl⟩
    rw [← hxd] at hx hst hw hNx
    have hnx : nxC d C l (ix C (ix Q0 i)) (t.toNat : Int) = ix C x := by
      unfold nxC
      rw [← eQ, Int.toNat_of_nonneg t0]; exact hst
    have s1 : det_Smallest_1 (ix L0 (D2.length : Int)) t C d l = some (ix C x) := by
      unfold det_Smallest_1
      rw [← hi, eL, ← eQ, ← hst]
      exact G_to (by omega) (G_to (by omega) (G_to (by omega) (G_to (by omega) rfl)))
    have hP1 : det_Explore_1_L8 d.1 C d l d l ((C.length : Int) + 1) d.1 0 L0 D2 D3 r4 t (Q.map (ix C)) (iota (Q.map (ix C)).length) (Q.map (ix C)) row =
        if ix C x ∈ Q.map (ix C) then det_Explore_1_L8 d.1 C d l d l ((C.length : Int) + 1) d.1 0 L0 D2 D3 r4 (t + 1) (Q.map (ix C)) (iota (Q.map (ix C)).length) (Q.map (ix C)) (row.set t.toNat (mget (Q.map (ix C)) (iota (Q.map (ix C)).length) (ix C x) 0))
        else det_Explore_1_L8 d.1 C d l d l ((C.length : Int) + 1) d.1 0 L0 D2 D3 r4 (t + 1) ((Q ++ [x]).map (ix C)) (iota ((Q ++ [x]).map (ix C)).length) ((Q ++ [x]).map (ix C)) (row.set t.toNat (Q.length : Int)) := by
      conv => lhs; rw [det_Explore_1_L8_eq]; unfold det_Explore_1_L8_B
      rw [if_pos (by simp; omega)]
      refine bind_to s1 ?_
      unfold det_Explore_1_J17
      by_cases c : ix C x ∈ Q.map (ix C)
      · rw [if_neg (by rw [mhas_iff.2 c]; simp), if_pos c]
        exact G_to (by omega) (G_to (by omega) (G_to (by unfold fits; omega) rfl))
      · have hh : mhas (Q.map (ix C)) (ix C x) = false := by
          cases e : mhas (Q.map (ix C)) (ix C x) with
          | false => rfl
          | true => exact absurd (mhas_iff.1 e) c
        rw [if_pos (by rw [hh]; rfl), if_neg c, if_neg (by rw [decide_eq_true_iff, List.length_map]; omega), mputK_new c, mputV_iota c, List.map_append, List.map_singleton, List.length_map]
        exact G_to (by unfold room; simp; omega) (G_to (by omega) (G_to (by omega) (G_to (by unfold fits; omega) rfl)))
    have hR1 : r3_Least_L15 d C i d.1 0 D2 D3 r11 t NA Q row =
        if ix NA (ix C x) < 0 then r3_Least_L15 d C i d.1 0 D2 D3 r11 (t + 1) (NA.set (ix C x).toNat (Q.length : Int)) (Q ++ [x]) (row.set t.toNat (Q.length : Int))
        else r3_Least_L15 d C i d.1 0 D2 D3 r11 (t + 1) NA Q (row.set t.toNat (ix NA (ix C x))) := by
      conv => lhs; rw [r3_Least_L15_eq]; unfold r3_Least_L15_B
      rw [if_pos (by simp; omega), ← hxd]
      refine G_to (by omega) (G_to (by omega) (G_to (by omega) (G_to (by omega) (G_to (by omega) (G_to (by omega) (G_to (by omega) (G_to (by omega) ?_)))))))
      unfold r3_Least_J20
      by_cases c : ix NA (ix C x) < 0
      · rw [if_pos (decide_eq_true c), if_pos c]
        refine G_to (by omega) (G_to (by omega) (G_to (by omega) (G_to (by omega) (G_to (by unfold room; simp; omega) ?_))))
        rw [← hxd, ix_set_same hw.1 (by omega)]
        exact G_to (by omega) (G_to (by omega) (G_to (by rw [List.length_set]; omega) (G_to (by rw [List.length_set]; omega) (G_to (by omega) (G_to (by omega) (G_to (by unfold fits; omega) rfl))))))
      · rw [if_neg (by simpa using c), if_neg c, ← hxd]
        exact G_to (by omega) (G_to (by omega) (G_to (by omega) (G_to (by omega) (G_to (by omega) (G_to (by omega) (G_to (by unfold fits; omega) rfl))))))
    rw [hP1, hR1]
    have rowstep : ∀ (Q' : List Int) (v : Int), (∀ j : Int, 0 ≤ j → j < Q.length → ix Q' j = ix Q j) → Q.length ≤ Q'.length → 0 ≤ v → v < Q'.length → ix C (ix Q' v) = ix C x →
        ∀ a : Int, 0 ≤ a → a < t + 1 → 0 ≤ ix (row.set t.toNat v) a ∧ ix (row.set t.toNat v) a < Q'.length ∧ ix C (ix Q' (ix (row.set t.toNat v) a)) = ix C (ix (ix d.2.2.1 (ix Q' i)) a) := fun Q' v hQ' hle v0 v1 hv' a a0 a1 => by
      by_cases e : a = t
      · subst e
        rw [ix_set_same a0 (by omega), hQ' i (by omega) hiQ, ← hxd]; exact ⟨v0, v1, hv'⟩
      · obtain ⟨h1, h2, h3⟩ := hrow a a0 (by omega)
        rw [ix_set_ne t0 a0 (Ne.symm e), hQ' _ h1 h2, hQ' i (by omega) hiQ]
        exact ⟨h1, by omega, h3⟩
    by_cases c : ix C x ∈ Q.map (ix C)
    · obtain ⟨j, hj⟩ := mfind_mem c
      have hjl := mfind_lt hj
      rw [List.length_map] at hjl
      have hjx : ix C (ix Q j) = ix C x := by
        have := mfind_get hj
        rw [List.getElem?_map, List.getElem?_eq_getElem hjl, Option.map_some] at this
        have e2 : ix Q (j : Int) = Q[j] := by rw [ix_eq (l := Q) (by omega) (by omega)]; simp
        rw [e2]
        exact Option.some.inj this
      rw [hj] at hNx
      have hNx : ix NA (ix C x) = (j : Int) := hNx
      rw [if_pos c, if_neg (by omega), mget_iota hj, hNx]
      refine ih (t + 1) Q NA _ (by omega) (by omega) (by omega) hP hiQ eQ hN (by rw [List.length_set]; exact hrl) (rowstep Q j (fun _ _ _ => rfl) (Nat.le_refl _) (by omega) (by omega) hjx) ?_
      rw [show (t + 1).toNat = t.toNat + 1 by omega, xRow_some (j := j) (by rw [hxr, hnx]; exact hj), hxr, take_set_succ (by omega)]
    · rw [mfind_none.2 c] at hNx
      have hNx : ix NA (ix C x) = -1 := hNx
      rw [if_neg c, if_pos (by omega)]
      have hQ' : ∀ j : Int, 0 ≤ j → j < Q.length → ix (Q ++ [x]) j = ix Q j := fun j j0 j1 => ix_append_left j0 j1
      have hP' : PartOk d C (Q ++ [x]) D2 D3 := by
        refine ⟨⟨fun q hq => (List.mem_append.1 hq).elim (hP.q.b q) (fun e => by rw [List.mem_singleton.1 e]; exact hx), ?_, ?_⟩, by rw [List.length_append]; have := hP.l2; omega, hP.l3, fun j j0 j1 => ?_, fun j j0 j1 => ?_⟩
        · rw [List.map_append, List.nodup_append]
          exact ⟨hP.q.nd, by simp, fun u hu w hw => by rw [List.map_singleton, List.mem_singleton] at hw; rw [hw]; rintro rfl; exact c hu⟩
        · have := hP.q.z
          exact ⟨by simp, by rw [hQ' 0 (by omega) (by omega)]; exact this.2⟩
        · exact (hP.row j j0 j1).ext j0 (by have := hP.l2; omega) _
        · rw [hQ' j j0 (by have := hP.l2; omega)]; exact hP.mark j j0 j1
      have hN' : NumOk d C (Q ++ [x]) (NA.set (ix C x).toNat (Q.length : Int)) := by
        refine ⟨by rw [List.length_set]; exact hN.1, fun v v0 v1 => ?_⟩
        rw [List.map_append, List.map_singleton]
        by_cases e : v = ix C x
        · subst e
          rw [ix_set_same v0 (by omega), mfind_new c]
          simp
        · rw [ix_set_ne hw.1 v0 (Ne.symm e), hN.2 v v0 v1]
          cases hm : mfind (Q.map (ix C)) v with
          | some j => rw [mfind_app _ hm]
          | none =>
            rw [mfind_none.2 (fun hh => by
              rcases List.mem_append.1 hh with hh | hh
              · exact mfind_none.1 hm hh
              · exact e (List.mem_singleton.1 hh))]
      obtain ⟨y, NA', row', z0, z1, z2, z3, z4⟩ := ih (t + 1) (Q ++ [x]) _ (row.set t.toNat (Q.length : Int)) (by omega) (by omega) (by omega) hP' (by rw [List.length_append]; omega) (by rw [hQ' i (by omega) hiQ]; exact eQ) hN' (by rw [List.length_set]; exact hrl)
        (rowstep (Q ++ [x]) (Q.length : Int) hQ' (by rw [List.length_append]; omega) (by omega) (by rw [List.length_append, List.length_singleton]; omega) (by rw [ix_append_last])) (by rw [show (t + 1).toNat = t.toNat + 1 by omega, xRow_none (by rw [hxr, hnx]; exact mfind_none.2 c), hxr, hnx, take_set_succ (by omega), List.length_map, List.map_append, List.map_singleton])
      rw [hQ' i (by omega) hiQ] at z1 z3 z4
      rw [List.append_assoc] at z0 z1 z2 z3 z4
      exact ⟨_, NA', row', z0, z1, z2, z3, z4⟩
theorem least_main (h : DOk 65536 badD d) {C l : List Int} {K : Nat} (hC : FinC d C K) (hl : OfOk d C l K) : ∀ (f : Nat) (Q NA : List Int) (D2 : List (List Int)) (D3 : List Int), 65536 - D2.length = f → PartOk d C Q D2 D3 → NumOk d C Q NA → XGo (nxC d C l) (mkC d l) d.1.toNat (ix C d.2.1) D2.length → xSt (nxC d C l) (mkC d l) d.1.toNat (ix C d.2.1) D2.length = (Q.map (ix C), D2, D3) →
    ∃ o Q', LeastOk d o C Q' K ∧ det_Explore_1_L4 d.1 C d l d l ((C.length : Int) + 1) d.1 0 (Q.map (ix C)) (iota (Q.map (ix C)).length) (Q.map (ix C)) D2 D3 = some (o, true) ∧ r3_Least_L11 d C (D2.length : Int) NA Q d.1 0 D2 D3 = some o := by
  have hn := h.n1
  have hlt := h.let1
  intro f
  induction f using Nat.strongRecOn with
  | ind f ih =>
  intro Q NA D2 D3 hf hP hN hgo hxs
  have hQK := hP.q.le hC
  have hK := hC.le
  rw [det_Explore_1_L4_eq, r3_Least_L11_eq]; unfold det_Explore_1_L4_B r3_Least_L11_B
  by_cases e : D2.length < Q.length
  · have e1 : ix (Q.map (ix C)) (D2.length : Int) = ix C (ix Q (D2.length : Int)) := ix_map _ (by omega) (by omega)
    obtain ⟨x, NA', row', z0, z1, z2, z3, z4⟩ := least_letters (lk := Q.map (ix C)) (r4 := det_Explore_1_L4 d.1 C d l d l ((C.length : Int) + 1)) (r11 := r3_Least_L11 d C) h hC hl (L0 := Q.map (ix C)) (Q0 := Q) (D2 := D2) (D3 := D3) rfl e1 _ 0 Q NA (List.replicate d.1.toNat 0) rfl (by omega) (by omega) hP (by omega) rfl hN (by rw [List.length_replicate]; omega) (fun a a0 a1 => by omega) (by simp [xRow])
    have hq := hP.q.b _ (ix_mem (by omega) (by omega : (D2.length : Int) < Q.length))
    have hv := hC.b _ hq.1 hq.2
    obtain ⟨o1, o2, o3⟩ := hl.b _ hv.1 hv.2
    have hmark : mkC d l (ix C (ix Q (D2.length : Int))) = ix d.2.2.2.1 (ix Q (D2.length : Int)) := hC.mark _ _ o1 o2 hq.1 hq.2 o3
    have hgo' : XGo (nxC d C l) (mkC d l) d.1.toNat (ix C d.2.1) (D2 ++ [row']).length := fun k hk => by
      rw [List.length_append, List.length_singleton] at hk
      by_cases c : k < D2.length
      · exact hgo k c
      · obtain rfl : k = D2.length := by omega
        rw [hxs, List.length_map]; exact e
    have hxs' : xSt (nxC d C l) (mkC d l) d.1.toNat (ix C d.2.1) (D2 ++ [row']).length = ((Q ++ x).map (ix C), D2 ++ [row'], D3 ++ [ix d.2.2.2.1 (ix Q (D2.length : Int))]) := by
      rw [List.length_append, List.length_singleton, xSt, hxs]
      show ((xRow _ (ix (Q.map (ix C)) (D2.length : Int)) (Q.map (ix C)) d.1.toNat).1, D2 ++ [(xRow _ (ix (Q.map (ix C)) (D2.length : Int)) (Q.map (ix C)) d.1.toNat).2], D3 ++ [mkC d l (ix (Q.map (ix C)) (D2.length : Int))]) = _
      rw [e1, z0, hmark]
    obtain ⟨o, Q', w1, w2, w3⟩ := ih (65536 - (D2 ++ [row']).length) (by rw [List.length_append, List.length_singleton]; have := z1.q.le hC; have := z1.l2; rw [List.length_append, List.length_singleton] at this; omega) (Q ++ x) NA' (D2 ++ [row']) _ rfl z1 z2 hgo' hxs'
    refine ⟨o, Q', w1, ?_, ?_⟩
    · rw [if_pos (by simp; omega)]
      exact G_to (by rw [List.length_map]; omega) (G_to (by rw [List.length_map]; omega) (G_to (by unfold mkOK; omega) (z3.trans w2)))
    · rw [if_pos (by simp; omega)]
      refine G_to (by unfold mkOK; omega) (z4.trans ?_)
      rw [List.length_append, List.length_singleton] at w3
      exact w3
  · refine ⟨(d.1, 0, D2, D3, ()), Q, ⟨hC, hP, by have := hP.l2; show D2.length = Q.length; omega, rfl, rfl, l, D2.length, hl, hgo, by rw [hxs, List.length_map]; have := hP.l2; omega, by unfold xAut; rw [hxs, Int.toNat_of_nonneg (by omega)]⟩, ?_, ?_⟩
    · rw [if_neg (by rw [decide_eq_true_iff, List.length_map]; omega)]
    · rw [if_neg (by simp; omega)]
theorem Smallest_of (h : DOk 65536 badD d) {C : List Int} {K : Nat} (hC : FinC d C K) : ∃ l, OfOk d C l K ∧ det_Smallest_L4 d C 0 (List.replicate C.length 0) = det_Smallest_L4 d C (C.length : Int) l := by
  have hn := h.n1
  have hcl := hC.len
  have hK := hC.le
  have key : ∀ (f : Nat) (t : Int) (l : List Int), (C.length - t).toNat = f → 0 ≤ t → t ≤ C.length → l.length = C.length → (∀ v : Int, 0 ≤ v → v < K → (∃ q : Int, 0 ≤ q ∧ q < t ∧ ix C q = v) → 0 ≤ ix l v ∧ ix l v < d.2.2.1.length ∧ ix C (ix l v) = v) →
      ∃ l', OfOk d C l' K ∧ det_Smallest_L4 d C t l = det_Smallest_L4 d C (C.length : Int) l' := by
    intro f
    induction f with
    | zero =>
      intro t l hf t0 t1 hll hv
      obtain rfl : t = C.length := by omega
      exact ⟨l, ⟨by omega, fun v v0 v1 => by
        obtain ⟨q, q0, q1, e⟩ := hC.sur v v0 v1
        exact hv v v0 v1 ⟨q, q0, by omega, e⟩⟩, rfl⟩
    | succ f ih =>
      intro t l hf t0 t1 hll hv
      have hb := hC.b t t0 (by omega)
      obtain ⟨l', h1, h2⟩ := ih (t + 1) (l.set (ix C t).toNat t) (by omega) (by omega) (by omega) (by rw [List.length_set]; exact hll) (fun v v0 v1 ⟨q, q0, q1, e⟩ => by
        by_cases e2 : v = ix C t
        · subst e2
          rw [ix_set_same v0 (by omega)]; exact ⟨t0, by omega, rfl⟩
        · rw [ix_set_ne hb.1 v0 (Ne.symm e2)]
          refine hv v v0 v1 ⟨q, q0, ?_, e⟩
          by_cases e3 : q = t
          · subst e3; exact absurd e.symm e2
          · omega)
      refine ⟨l', h1, ?_⟩
      rw [← h2]
      conv => lhs; rw [det_Smallest_L4_eq]; unfold det_Smallest_L4_B
      rw [if_pos (by simp; omega)]
      exact G_to (by omega) (G_to (by omega) (G_to (by omega) (G_to (by omega) (G_to (by unfold fits; omega) rfl))))
  exact key _ 0 _ rfl (by omega) (by omega) (by rw [List.length_replicate]) (fun v v0 v1 ⟨q, q0, q1, _⟩ => by omega)
theorem Least_num (h : DOk 65536 badD d) {C : List Int} {K : Nat} (hC : FinC d C K) : r3_Least_L4 d C 0 (List.replicate C.length 0) = r3_Least_L4 d C (C.length : Int) (List.replicate C.length (-1)) := by
  have hn := h.n1
  have hcl := hC.len
  have key : ∀ (f : Nat) (t : Int) (l : List Int), (C.length - t).toNat = f → 0 ≤ t → t ≤ C.length → l.length = C.length → (∀ v : Int, 0 ≤ v → v < t → ix l v = -1) → r3_Least_L4 d C t l = r3_Least_L4 d C (C.length : Int) (List.replicate C.length (-1)) := by
    intro f
    induction f with
    | zero =>
      intro t l hf t0 t1 hll hv
      obtain rfl : t = C.length := by omega
      rw [show l = List.replicate C.length (-1) from ix_ext (by rw [List.length_replicate]; exact hll) fun j j0 j1 => by rw [ix_replicate j0 (by omega), hv j j0 (by omega)]]
    | succ f ih =>
      intro t l hf t0 t1 hll hv
      rw [← ih (t + 1) (l.set t.toNat (-1)) (by omega) (by omega) (by omega) (by rw [List.length_set]; exact hll) (fun v v0 v1 => by
        by_cases e2 : v = t
        · subst e2; rw [ix_set_same v0 (by omega)]
        · rw [ix_set_ne t0 v0 (Ne.symm e2)]; exact hv v v0 (by omega))]
      conv => lhs; rw [r3_Least_L4_eq]; unfold r3_Least_L4_B
      rw [if_pos (by simp; omega)]
      exact G_to (by omega) (G_to (by omega) (G_to (by unfold fits; omega) rfl))
  exact key _ 0 _ rfl (by omega) (by omega) (by rw [List.length_replicate]) (fun v v0 v1 => by omega)
/-- The program's least automaton and the document's are one. -/
theorem least_both (h : DOk 65536 badD d) : ∃ o C Q K, LeastOk d o C Q K ∧ det_Smallest d = some o ∧ r3_Least d = some o := by
  have hn := h.n1
  obtain ⟨C, K, hC, c1, c2⟩ := classes_both h
  obtain ⟨l, hl, l1⟩ := Smallest_of h hC
  have hs := h.st
  have hcl := hC.len
  have hb := hC.b _ hs.1 hs.2
  have hK := hC.le
  have hP : PartOk d C [d.2.1] [] [] := ⟨⟨fun q hq => by rw [List.mem_singleton.1 hq]; exact hs, by simp, by simp, rfl⟩, by simp, rfl, fun i i0 i1 => by simp at i1; omega, fun i i0 i1 => by simp at i1; omega⟩
  have hN : NumOk d C [d.2.1] ((List.replicate C.length (-1 : Int)).set (ix C d.2.1).toNat 0) := by
    refine ⟨by rw [List.length_set, List.length_replicate]; exact hcl, fun v v0 v1 => ?_⟩
    rw [List.map_singleton]
    by_cases e : v = ix C d.2.1
    · subst e
      rw [ix_set_same v0 (by rw [List.length_replicate]; omega), mfind_hd]; rfl
    · rw [ix_set_ne hb.1 v0 (Ne.symm e), ix_replicate v0 (by omega), mfind_none.2 (by simpa using e)]
  obtain ⟨o, Q, w1, w2, w3⟩ := least_main h hC hl _ [d.2.1] _ [] [] rfl hP hN (fun k hk => by simp at hk) rfl
  have ed : (d.1, d.2.1, d.2.2.1, d.2.2.2.1, ()) = d := rfl
  refine ⟨o, C, Q, K, w1, ?_, ?_⟩
  · unfold det_Smallest
    rw [ed]
    refine bind_to c1 ?_
    refine G_to (by unfold mkOK; omega) ?_
    rw [Int.toNat_natCast, l1, det_Smallest_L4_eq]; unfold det_Smallest_L4_B
    rw [if_neg (by simp)]
    refine G_to (by omega) (G_to (by omega) (G_to (by unfold fits; omega) ?_))
    have hE : det_Explore_1 d.1 (ix C d.2.1) C d l d l ((C.length : Int) + 1) = some (o, true) := w2
    refine both_to ?_ ?_
    · rw [ed]
      exact bind_to hE rfl
    · rw [ed]
      exact bind_to hE rfl
  · unfold r3_Least
    rw [ed]
    refine bind_to c2 ?_
    refine G_to (by unfold mkOK; omega) ?_
    rw [Int.toNat_natCast, Least_num h hC, r3_Least_L4_eq]; unfold r3_Least_L4_B
    rw [if_neg (by simp)]
    exact G_to (by omega) (G_to (by omega) (G_to (by rw [List.length_replicate]; omega) (G_to (by rw [List.length_replicate]; omega) w3)))
end

/-- The least automaton goes along. -/
theorem least_walk {d o : Dt} {C Q : List Int} {K : Nat} (hd : DOk 65536 badD d) (h : LeastOk d o C Q K) : ∀ (w : List Int) (i q : Int), 0 ≤ i → i < Q.length → 0 ≤ q → q < d.2.2.1.length → ix C (ix Q i) = ix C q → (∀ a ∈ w, 0 ≤ a ∧ a < d.1) →
    0 ≤ wlk o.2.2.1 i w ∧ wlk o.2.2.1 i w < Q.length ∧ ix C (ix Q (wlk o.2.2.1 i w)) = ix C (wlk d.2.2.1 q w)
  | [], i, q, i0, i1, _, _, e, _ => ⟨i0, i1, e⟩
  | a :: w, i, q, i0, i1, q0, q1, e, hw => by
    have ha := hw a (by simp)
    have hr := h.part.row i i0 (by rw [h.all]; exact i1)
    obtain ⟨t1, t2, t3⟩ := hr.to a ha.1 ha.2
    have hq := h.part.q.b _ (ix_mem i0 i1)
    have hs := hd.tab.stpb q0 q1 ha.1 ha.2
    have hst := h.fin.stable _ _ hq.1 hq.2 q0 q1 e a ha.1 ha.2
    exact least_walk hd h w (ix (ix o.2.2.1 i) a) (stp d.2.2.1 q a) t1 t2 hs.1 hs.2 (t3.trans hst) (fun b hb => hw b (by simp [hb]))
theorem least_mark {d o : Dt} {C Q : List Int} {K : Nat} (hd : DOk 65536 badD d) (h : LeastOk d o C Q K) {w : List Int} (hw : ∀ a ∈ w, 0 ≤ a ∧ a < d.1) : 0 ≤ wlk o.2.2.1 o.2.1 w ∧ wlk o.2.2.1 o.2.1 w < o.2.2.1.length ∧ ix o.2.2.2.1 (wlk o.2.2.1 o.2.1 w) = ix d.2.2.2.1 (wlk d.2.2.1 d.2.1 w) := by
  have hz := h.part.q.z
  have hst := hd.st
  obtain ⟨h1, h2, h3⟩ := least_walk hd h w 0 d.2.1 (by omega) (by omega) hst.1 hst.2 (by rw [hz.2]) hw
  rw [h.st]
  refine ⟨h1, by rw [h.all]; exact h2, ?_⟩
  rw [h.part.mark _ h1 (by rw [h.all]; exact h2)]
  have hq := h.part.q.b _ (ix_mem h1 h2)
  have hw2 := hd.tab.wlkb hst.1 hst.2 hw
  exact h.fin.mark _ _ hq.1 hq.2 hw2.1 hw2.2 h3
theorem LeastOk.tab' {d o : Dt} {C Q : List Int} {K : Nat} (h : LeastOk d o C Q K) : Tab o.1 o.2.2.1 := by
  refine ⟨fun r hr => ?_, fun r hr q hq => ?_⟩
  · obtain ⟨j, j0, j1, rfl⟩ := (ex_ix (P := fun x => x = r)).1 ⟨r, hr, rfl⟩
    rw [h.let1]; exact (h.part.row j j0 j1).len
  · obtain ⟨j, j0, j1, rfl⟩ := (ex_ix (P := fun x => x = r)).1 ⟨r, hr, rfl⟩
    have hr := h.part.row j j0 j1
    obtain ⟨k, k0, k1, rfl⟩ := (ex_ix (P := fun x => x = q)).1 ⟨q, hq, rfl⟩
    have := hr.to k k0 (by rw [← hr.len]; exact k1)
    rw [h.all]; exact ⟨this.1, this.2.1⟩

theorem r3_Same_refl {d : Dt} (h1 : (d.2.2.1.length : Int) ≤ 1000000) (h2 : (d.2.2.2.1.length : Int) ≤ 1000000) (h3 : ∀ r ∈ d.2.2.1, (r.length : Int) ≤ 1000000) : r3_Same d d = some true := by
  have k14 : ∀ (i : Int) {r9}, 0 ≤ i → i < d.2.2.1.length → ∀ (n : Nat) (k : Int), ((ix d.2.2.1 i).length - k).toNat = n → 0 ≤ k → k ≤ (ix d.2.2.1 i).length → r3_Same_L14 d d i r9 k = r9 (i + 1) := by
    intro i r9 i0 i1 n
    have hr := h3 _ (ix_mem i0 i1)
    induction n with
    | zero =>
      intro k hn k0 k1
      rw [r3_Same_L14_eq]; unfold r3_Same_L14_B
      rw [G_pos (by omega), if_neg (by simp; omega)]
      exact G_to (by unfold fits; omega) rfl
    | succ n ih =>
      intro k hn k0 k1
      rw [r3_Same_L14_eq]; unfold r3_Same_L14_B
      rw [G_pos (by omega), if_pos (by simp; omega), if_neg (by simp)]
      exact G_to (by omega) (G_to (by omega) (G_to (by omega) (G_to (by omega) (G_to (by unfold fits; omega) (ih (k + 1) (by omega) (by omega) (by omega))))))
  have k9 : ∀ (n : Nat) (i : Int), (d.2.2.1.length - i).toNat = n → 0 ≤ i → i ≤ d.2.2.1.length → r3_Same_L9 d d i = some true := by
    intro n
    induction n with
    | zero =>
      intro i hn i0 i1
      rw [r3_Same_L9_eq]; unfold r3_Same_L9_B
      rw [if_neg (by simp; omega)]
    | succ n ih =>
      intro i hn i0 i1
      rw [r3_Same_L9_eq]; unfold r3_Same_L9_B
      rw [if_pos (by simp; omega), if_neg (by simp)]
      refine G_to (by omega) (G_to (by omega) ?_)
      rw [k14 i i0 (by omega) _ 0 rfl (by omega) (by omega)]
      exact ih (i + 1) (by omega) (by omega) (by omega)
  have k4 : ∀ (n : Nat) (i : Int), (d.2.2.2.1.length - i).toNat = n → 0 ≤ i → i ≤ d.2.2.2.1.length → r3_Same_L4 d d i = some true := by
    intro n
    induction n with
    | zero =>
      intro i hn i0 i1
      rw [r3_Same_L4_eq]; unfold r3_Same_L4_B
      rw [if_neg (by simp; omega)]
      exact k9 _ 0 rfl (by omega) (by omega)
    | succ n ih =>
      intro i hn i0 i1
      rw [r3_Same_L4_eq]; unfold r3_Same_L4_B
      rw [if_pos (by simp; omega), if_neg (by simp)]
      exact G_to (by omega) (G_to (by omega) (G_to (by unfold fits; omega) (ih (i + 1) (by omega) (by omega) (by omega))))
  unfold r3_Same
  rw [if_neg (by simp), if_neg (by simp), if_neg (by simp), if_neg (by simp)]
  exact k4 _ 0 rfl (by omega) (by omega)
theorem noDet_none : law_noDet (0, 0, [], [], ()) = some true := by
  unfold law_noDet
  rw [if_pos (by simp), if_pos (by simp), G_pos (by unfold fits; simp)]
  rfl
theorem LeastOk.sizes {d o : Dt} {C Q : List Int} {K : Nat} (hd : DOk 65536 badD d) (h : LeastOk d o C Q K) : (o.2.2.1.length : Int) ≤ 65536 ∧ (o.2.2.2.1.length : Int) ≤ 65536 ∧ ∀ r ∈ o.2.2.1, (r.length : Int) ≤ 4 := by
  have h1 := h.part.q.le h.fin
  have h2 := h.fin.le
  have h3 := hd.n1
  have h4 := h.all
  have h5 := h.part.l3
  have h6 := hd.let1
  refine ⟨by omega, by omega, fun r hr => ?_⟩
  obtain ⟨j, j0, j1, rfl⟩ := (ex_ix (P := fun x => x = r)).1 ⟨r, hr, rfl⟩
  have := (h.part.row j j0 j1).len
  omega

theorem r1_May_L6_spec {letters : Int} {w : List Int} (hL : 1 ≤ letters ∧ letters ≤ 4) (hw : w.length ≤ (60 : Int)) : ∀ (n : Nat) (i : Int), 0 ≤ i → i ≤ w.length → (w.length - i).toNat = n → (∀ j : Int, 0 ≤ j → j < i → 0 ≤ ix w j ∧ ix w j < letters) → r1_May_L6 letters w i = some (mayE letters w) := by
  intro n
  induction n with
  | zero =>
    intro i h0 h1 hn h
    rw [r1_May_L6_eq]; unfold r1_May_L6_B
    (try dsimp only); (repeat' first | (with_reducible refine G_to ?_ ?_; focus (first | omega | (unfold fits; omega) | (unfold room; (try simp only [List.length_append, List.length_cons, List.length_nil]); omega))) | (with_reducible refine both_to ?_ ?_) | (with_reducible refine itet_to ?_) | (with_reducible refine itef_to ?_) | (with_reducible refine ite_to (fun _ => ?_) (fun _ => ?_))) <;> try (exfalso; omega)
    · rw [mayE_ok hL hw (fun j a b => h j a (by omega))]
  | succ n ih =>
    intro i h0 h1 hn h
    rw [r1_May_L6_eq]; unfold r1_May_L6_B
    (try dsimp only); (repeat' first | (with_reducible refine G_to ?_ ?_; focus (first | omega | (unfold fits; omega) | (unfold room; (try simp only [List.length_append, List.length_cons, List.length_nil]); omega))) | (with_reducible refine both_to ?_ ?_) | (with_reducible refine itet_to ?_) | (with_reducible refine itef_to ?_) | (with_reducible refine ite_to (fun _ => ?_) (fun _ => ?_))) <;> try (exfalso; omega)
    · rw [mayE_bad hL hw (i := i) (by omega) (by omega)]
    · rw [mayE_bad hL hw (i := i) (by omega) (by omega)]
    · exact ih _ (by omega) (by omega) (by omega) (below_succ h (by omega))
theorem r1_May_spec {letters : Int} {w : List Int} : r1_May letters w = some (mayE letters w) := by
  unfold r1_May
  (try dsimp only); (repeat' first | (with_reducible refine G_to ?_ ?_; focus (first | omega | (unfold fits; omega) | (unfold room; (try simp only [List.length_append, List.length_cons, List.length_nil]); omega))) | (with_reducible refine both_to ?_ ?_) | (with_reducible refine itet_to ?_) | (with_reducible refine itef_to ?_) | (with_reducible refine ite_to (fun _ => ?_) (fun _ => ?_))) <;> try (exfalso; omega)
  · rw [mayE_range (by omega)]
  · rw [mayE_range (by omega)]
  · rw [mayE_size (by omega) (by omega)]
  · exact r1_May_L6_spec (by omega) (by omega) _ 0 (by omega) (by omega) rfl (fun j a b => by omega)

theorem r3_After_spec {d : Int × Int × List (List Int) × List Int × Unit} {L : Int} (h : Tab L d.2.2.1) {w : List Int} (hw : ∀ a ∈ w, 0 ≤ a ∧ a < L) (hl : w.length ≤ 1000000) {q : Int} (q0 : 0 ≤ q) (q1 : q < d.2.2.1.length) : r3_After d q w = some (wlk d.2.2.1 q w) := by
  have key : ∀ (n : Nat) (t q : Int), (w.length - t).toNat = n → 0 ≤ t → t ≤ w.length → 0 ≤ q → q < d.2.2.1.length → r3_After_L2 d w q t = some (wlk d.2.2.1 q (w.drop t.toNat)) := by
    intro n
    induction n with
    | zero =>
      intro t q hn h0 h1 q0 q1
      rw [r3_After_L2_eq]; unfold r3_After_L2_B
      (try dsimp only); (repeat' first | (with_reducible refine G_to ?_ ?_; focus (first | omega | (unfold fits; omega) | (unfold room; (try simp only [List.length_append, List.length_cons, List.length_nil]); omega))) | (with_reducible refine both_to ?_ ?_) | (with_reducible refine itet_to ?_) | (with_reducible refine itef_to ?_) | (with_reducible refine ite_to (fun _ => ?_) (fun _ => ?_))) <;> try (exfalso; omega)
      rw [List.drop_of_length_le (by omega)]; rfl
    | succ n ih =>
      intro t q hn h0 h1 q0 q1
      have ha := hw _ (ix_mem h0 (by omega : t < w.length))
      have hr := h.rowlen q0 q1
      have hs := h.stpb q0 q1 ha.1 ha.2
      rw [r3_After_L2_eq]; unfold r3_After_L2_B
      (try dsimp only); (repeat' first | (with_reducible refine G_to ?_ ?_; focus (first | omega | (unfold fits; omega) | (unfold room; (try simp only [List.length_append, List.length_cons, List.length_nil]); omega))) | (with_reducible refine both_to ?_ ?_) | (with_reducible refine itet_to ?_) | (with_reducible refine itef_to ?_) | (with_reducible refine ite_to (fun _ => ?_) (fun _ => ?_))) <;> try (exfalso; omega)
      rw [ix_drop h0 (by omega)]
      exact ih (t + 1) _ (by omega) (by omega) (by omega) hs.1 hs.2
  exact key _ 0 q rfl (by omega) (by omega) q0 q1

abbrev AL := Int × Int × List (List (List (List Int))) × List Int × Unit
def ALet (a : AL) : Prop := a.1 < 1 ∨ 4 < a.1
def ANum (a : AL) : Prop := (a.2.2.1.length : Int) < 1 ∨ 4 < (a.2.2.1.length : Int)
def AMks (a : AL) : Prop := ¬ (a.2.2.2.1.length : Int) = (a.2.2.1.length : Int)
def AShp (a : AL) : Prop := ∃ r ∈ a.2.2.1, ¬ (r.length : Int) = a.1
def ALong (l : List (List Int)) : Prop := 16 < (l.length : Int) ∨ ∃ c ∈ l, 4 < (c.length : Int)
def ABig (a : AL) : Prop := ∃ r ∈ a.2.2.1, ∃ l ∈ r, ALong l
def NoSt (n p : Int) : Prop := p < 0 ∨ n ≤ p
def AOff (n : Int) (l : List (List Int)) : Prop := ∃ c ∈ l, ∃ p ∈ c, NoSt n p
def AOffs (a : AL) : Prop := ∃ r ∈ a.2.2.1, ∃ l ∈ r, AOff a.2.2.1.length l
def AMark (a : AL) : Prop := ∃ m ∈ a.2.2.2.1, ¬ m = 0 ∧ ¬ m = 1
def ABad (a : AL) : Prop := AOffs a ∨ NoSt a.2.2.1.length a.2.1 ∨ AMark a
open Classical in
noncomputable def alE (a : AL) : Int := if ALet a then 2 else if ANum a then 1 else if AMks a then 3 else if AShp a then 3 else if ABig a then 1 else if ABad a then 2 else 0
section
variable {a : AL}
theorem c1_tells (r : List (List (List Int))) : Tells (alter_Check_1 r a) (¬ (r.length : Int) = a.1) := Tells.dec Iff.rfl
theorem c3_tells (c : List Int) : Tells (alter_Check_3 c) (4 < (c.length : Int)) := Tells.dec Iff.rfl
theorem c2_tells (p n : Int) : Tells (alter_Check_2 p n) (NoSt n p) := by
  unfold alter_Check_2
  by_cases c : p < 0
  · rw [if_pos (decide_eq_true c)]; exact ⟨true, rfl, fun _ => .inl c, fun _ => rfl⟩
  · rw [if_neg (by simpa using c)]; exact Tells.dec ⟨.inr, fun h => h.elim (absurd · c) id⟩
theorem c5_tells (m : Int) : Tells (alter_Check_5 m) (¬ m = 0 ∧ ¬ m = 1) := by
  unfold alter_Check_5
  by_cases c : m = 0
  · rw [if_neg (by simpa using c)]; exact ⟨false, rfl, fun h => (by cases h), fun h => absurd c h.1⟩
  · rw [if_pos (by simpa using c)]; exact Tells.dec ⟨fun h => ⟨c, h⟩, fun h => h.2⟩
theorem f0_tells (h : a.2.2.1.length ≤ 4) : Tells (slices_ContainsFunc a.2.2.1 a) (AShp a) :=
  contains_tells (f := fun r => alter_Check_1 r a) (P := fun r => ¬ (r.length : Int) = a.1) (fun t => slices_IndexFunc_L2_eq a.2.2.1 a t) (by omega) (fun r _ => c1_tells r)
theorem f1_tells {l : List (List Int)} (h : l.length ≤ 16) : Tells (slices_ContainsFunc_1 l) (∃ c ∈ l, 4 < (c.length : Int)) :=
  contains_tells (f := fun c => alter_Check_3 c) (fun t => slices_IndexFunc_1_L2_eq l t) (by omega) (fun r _ => c3_tells r)
theorem f3_tells {c : List Int} {n : Int} (h : c.length ≤ 4) : Tells (slices_ContainsFunc_3 c n) (∃ p ∈ c, NoSt n p) :=
  contains_tells (f := fun p => alter_Check_2 p n) (fun t => slices_IndexFunc_3_L2_eq c n t) (by omega) (fun r _ => c2_tells r n)
theorem f4_tells (h : a.2.2.2.1.length ≤ 4) : Tells (slices_ContainsFunc_4 a.2.2.2.1) (AMark a) :=
  contains_tells (f := fun m => alter_Check_5 m) (fun t => slices_IndexFunc_4_L2_eq a.2.2.2.1 t) (by omega) (fun r _ => c5_tells r)
theorem f2_tells {l : List (List Int)} {n : Int} (h : ¬ ALong l) : ∃ b, slices_ContainsFunc_2 l n = some (b, n) ∧ (b = true ↔ AOff n l) := by
  unfold ALong at h
  refine contains_tells2 (f := fun c n => alter_Check_4 c n) (P := fun c => ∃ p ∈ c, NoSt n p) (fun t c => slices_IndexFunc_2_L2_eq l t c) (by omega) (fun c hc => ?_)
  have h4 : c.length ≤ 4 := by
    refine Nat.le_of_not_lt fun g => h (.inr ⟨c, hc, by omega⟩)
  obtain ⟨b, e, hb⟩ := f3_tells (n := n) h4
  exact ⟨b, bind_to e rfl, hb⟩
structure Pre (a : AL) : Prop where
  n1 : 1 ≤ a.2.2.1.length ∧ a.2.2.1.length ≤ 4
  let1 : 1 ≤ a.1 ∧ a.1 ≤ 4
  mks : (a.2.2.2.1.length : Int) = a.2.2.1.length
theorem Check_L14 (hp : Pre a) (hs : ¬ AShp a) {t : Int} (t0 : 0 ≤ t) (t1 : t < a.2.2.1.length) {r11 : Bool → Int → Int → Option Int} {bad : Bool} :
    ((∃ l ∈ ix a.2.2.1 t, ALong l) → alter_Check_L14 a t r11 bad 0 a.2.2.1.length = some 1) ∧
    ((¬ ∃ l ∈ ix a.2.2.1 t, ALong l) → ∃ b', alter_Check_L14 a t r11 bad 0 a.2.2.1.length = r11 b' (t + 1) a.2.2.1.length ∧ (b' = true ↔ bad = true ∨ ∃ l ∈ ix a.2.2.1 t, AOff a.2.2.1.length l)) := by
  have hn := hp.n1; have hl := hp.let1
  have hrow : ((ix a.2.2.1 t).length : Int) = a.1 := by
    refine Decidable.byContradiction fun h => hs ⟨_, ix_mem t0 t1, h⟩
  have := flag_loop (L := fun b j => alter_Check_L14 a t r11 b j a.2.2.1.length) (len := (ix a.2.2.1 t).length) (lo := 0) (x := some 1) (big := fun j => ALong (ix (ix a.2.2.1 t) j)) (off := fun j => AOff a.2.2.1.length (ix (ix a.2.2.1 t) j)) (by omega) bad (fun j b j0 j1 => ?_)
  · rw [ex_ix, ex_ix]
    refine ⟨this.1, fun h => ?_⟩
    obtain ⟨b', e, hb⟩ := this.2 h
    refine ⟨b', e.trans ?_, hb⟩
    rw [alter_Check_L14_eq]; unfold alter_Check_L14_B
    rw [if_neg (by simp), G_pos (by unfold fits; omega)]
  · have key : alter_Check_L14 a t r11 b j a.2.2.1.length = if 16 < ((ix (ix a.2.2.1 t) j).length : Int) then some 1 else
        (slices_ContainsFunc_1 (ix (ix a.2.2.1 t) j)).bind (fun y => if y = true then some 1 else if b = true then alter_Check_L14 a t r11 true (j + 1) a.2.2.1.length else
          (slices_ContainsFunc_2 (ix (ix a.2.2.1 t) j) a.2.2.1.length).bind (fun y => alter_Check_L14 a t r11 y.1 (j + 1) y.2)) := by
      conv => lhs; rw [alter_Check_L14_eq]; unfold alter_Check_L14_B
      rw [if_pos (decide_eq_true j1), G_pos (by omega)]
      simp only [G_pos (show fits (j + 1) by unfold fits; omega), decide_eq_true_eq]
    rw [key]
    by_cases c1 : 16 < ((ix (ix a.2.2.1 t) j).length : Int)
    · rw [if_pos c1]
      exact ⟨fun _ => rfl, fun h => absurd (.inl c1) h⟩
    · rw [if_neg c1]
      obtain ⟨y, e, hy⟩ := f1_tells (l := ix (ix a.2.2.1 t) j) (by omega)
      rw [e]
      constructor
      · intro h
        refine bind_to rfl ?_
        rw [if_pos (hy.2 (h.elim (absurd · c1) id))]
      · intro h
        have hyf : ¬ y = true := fun g => h (.inr (hy.1 g))
        obtain ⟨z, e2, hz⟩ := f2_tells (n := a.2.2.1.length) h
        cases b with
        | true => exact ⟨true, bind_to rfl (by rw [if_neg hyf, if_pos rfl]), by simp⟩
        | false =>
          refine ⟨z, bind_to rfl ?_, by rw [hz]; simp⟩
          rw [if_neg hyf, if_neg (by simp)]
          exact bind_to e2 rfl
theorem alter_Check_spec : alter_Check a = some (alE a) := by
  unfold alter_Check alE
  by_cases c1 : ALet a
  · rw [if_pos c1]
    unfold ALet at c1
    by_cases c : a.1 < 1
    · rw [if_pos (decide_eq_true c)]
    · rw [if_neg (by simpa using c), if_pos (decide_eq_true (by omega))]
  rw [if_neg c1]
  have c1' := c1
  unfold ALet at c1'
  rw [if_neg (by simp only [decide_eq_true_eq]; omega), if_neg (by simp only [decide_eq_true_eq]; omega)]
  by_cases c2 : ANum a
  · rw [if_pos c2]
    unfold ANum at c2
    by_cases c : (a.2.2.1.length : Int) < 1
    · rw [if_pos (decide_eq_true c)]
    · rw [if_neg (by simpa using c), if_pos (decide_eq_true (by omega))]
  rw [if_neg c2]
  have c2' := c2
  unfold ANum at c2'
  rw [if_neg (by simp only [decide_eq_true_eq]; omega), if_neg (by simp only [decide_eq_true_eq]; omega)]
  by_cases c3 : AMks a
  · rw [if_pos c3, if_pos (decide_eq_true (show ¬ (a.2.2.2.1.length : Int) = (a.2.2.1.length : Int) from c3))]
  rw [if_neg c3]
  have c3' := c3
  unfold AMks at c3'
  rw [if_neg (by simpa using c3')]
  refine Tells.to (f0_tells (a := a) (by omega)) (fun h => by rw [if_pos h]) (fun c4 => ?_)
  rw [if_neg c4]
  have hp : Pre a := ⟨by omega, by omega, by omega⟩
  have := flag_loop (L := fun b j => alter_Check_L11 a b j a.2.2.1.length) (len := a.2.2.1.length) (lo := 0) (x := some 1) (big := fun j => ∃ l ∈ ix a.2.2.1 j, ALong l) (off := fun j => ∃ l ∈ ix a.2.2.1 j, AOff a.2.2.1.length l) (by omega) false (fun j b j0 j1 => ?_)
  · have e5 : ABig a ↔ ∃ t : Int, 0 ≤ t ∧ t < a.2.2.1.length ∧ ∃ l ∈ ix a.2.2.1 t, ALong l := ex_ix
    by_cases c5 : ABig a
    · rw [if_pos c5]
      exact this.1 (e5.1 c5)
    · rw [if_neg c5]
      obtain ⟨b', e, hb⟩ := this.2 (fun h => c5 (e5.2 h))
      have hb : b' = true ↔ AOffs a := by
        rw [hb]
        refine Iff.trans ?_ (ex_ix (l := a.2.2.1) (P := fun r => ∃ l ∈ r, AOff a.2.2.1.length l)).symm
        simp
      refine e.trans ?_
      rw [alter_Check_L11_eq]; unfold alter_Check_L11_B
      rw [if_neg (by simp)]
      by_cases c6 : b' = true
      · rw [if_pos c6, if_pos (.inl (hb.1 c6))]
      · rw [if_neg c6]
        have hno : ¬ AOffs a := fun h => c6 (hb.2 h)
        refine Tells.to (c2_tells a.2.1 _) (fun h => by rw [if_pos (.inr (.inl h))]) (fun h1 => ?_)
        refine Tells.to (f4_tells (a := a) (by omega)) (fun h => by rw [if_pos (.inr (.inr h))]) (fun h2 => ?_)
        rw [if_neg (fun h => h.elim hno (fun h => h.elim h1 h2))]
  · have h := Check_L14 hp c4 j0 j1 (r11 := fun b j n => alter_Check_L11 a b j n) (bad := b)
    have e : alter_Check_L11 a b j a.2.2.1.length = alter_Check_L14 a j (fun b j n => alter_Check_L11 a b j n) b 0 a.2.2.1.length := by
      conv => lhs; rw [alter_Check_L11_eq]; unfold alter_Check_L11_B
      rw [if_pos (decide_eq_true j1), G_pos (by omega)]
    rw [e]
    exact h
/- the reference's -/
theorem r26_L29 {q k i : Int} (q0 : 0 ≤ q) (k0 : 0 ≤ k) (i0 : 0 ≤ i) (i1 : i < (ix (ix a.2.2.1 q) k).length) (h4 : ((ix (ix (ix a.2.2.1 q) k) i).length : Int) ≤ 4) {r24 : Bool → Int → Option Int} {bad : Bool} (hf : fits (i + 1)) :
    ∃ b', r26_Check_L29 a q k i r24 bad 0 = r24 b' (i + 1) ∧ (b' = true ↔ bad = true ∨ ∃ p ∈ ix (ix (ix a.2.2.1 q) k) i, NoSt a.2.2.1.length p) := by
  have := (flag_loop (L := fun b j => r26_Check_L29 a q k i r24 b j) (len := (ix (ix (ix a.2.2.1 q) k) i).length) (lo := 0) (x := none) (big := fun _ => False) (off := fun j => NoSt a.2.2.1.length (ix (ix (ix (ix a.2.2.1 q) k) i) j)) (by omega) bad (fun j b j0 j1 => ⟨fun h => h.elim, fun _ => ?_⟩)).2 (fun ⟨_, _, _, h⟩ => h)
  · obtain ⟨b', e, hb⟩ := this
    rw [ex_ix]
    refine ⟨b', e.trans ?_, hb⟩
    rw [r26_Check_L29_eq]; unfold r26_Check_L29_B
    rw [G_pos (by omega), if_neg (by simp), G_pos hf]
  · conv => arg 1; ext b'; lhs; lhs; rw [r26_Check_L29_eq]; unfold r26_Check_L29_B
    rw [G_pos (by omega), if_pos (decide_eq_true j1)]
    have hj : fits (j + 1) := by unfold fits; omega
    simp only [G_pos hj]
    cases b with
    | true => exact ⟨true, if_pos rfl, by simp⟩
    | false =>
      rw [if_neg (by simp), G_pos (by omega), G_pos (by omega)]
      by_cases c : ix (ix (ix (ix a.2.2.1 q) k) i) j < 0
      · rw [if_pos (decide_eq_true c)]; exact ⟨true, rfl, by simp [NoSt, c]⟩
      · rw [if_neg (by simpa using c), G_pos (by omega), G_pos (by omega)]
        exact ⟨_, rfl, by simp [NoSt, c]⟩
theorem r26_L24 {q k : Int} (q0 : 0 ≤ q) (k0 : 0 ≤ k) (h16 : ((ix (ix a.2.2.1 q) k).length : Int) ≤ 16) {r18 : Bool → Int → Option Int} {bad : Bool} (hf : fits (k + 1)) :
    ((∃ c ∈ ix (ix a.2.2.1 q) k, 4 < (c.length : Int)) → r26_Check_L24 a q k r18 bad 0 = some 1) ∧
    ((¬ ∃ c ∈ ix (ix a.2.2.1 q) k, 4 < (c.length : Int)) → ∃ b', r26_Check_L24 a q k r18 bad 0 = r18 b' (k + 1) ∧ (b' = true ↔ bad = true ∨ AOff a.2.2.1.length (ix (ix a.2.2.1 q) k))) := by
  have := flag_loop (L := fun b j => r26_Check_L24 a q k r18 b j) (len := (ix (ix a.2.2.1 q) k).length) (lo := 0) (x := some 1) (big := fun j => 4 < ((ix (ix (ix a.2.2.1 q) k) j).length : Int)) (off := fun j => ∃ p ∈ ix (ix (ix a.2.2.1 q) k) j, NoSt a.2.2.1.length p) (by omega) bad (fun j b j0 j1 => ?_)
  · unfold AOff
    rw [ex_ix, ex_ix]
    refine ⟨this.1, fun h => ?_⟩
    obtain ⟨b', e, hb⟩ := this.2 h
    refine ⟨b', e.trans ?_, hb⟩
    rw [r26_Check_L24_eq]; unfold r26_Check_L24_B
    rw [if_neg (by simp), G_pos hf]
  · have e : r26_Check_L24 a q k r18 b j = if 4 < ((ix (ix (ix a.2.2.1 q) k) j).length : Int) then some 1 else r26_Check_L29 a q k j (fun b i => r26_Check_L24 a q k r18 b i) b 0 := by
      conv => lhs; rw [r26_Check_L24_eq]; unfold r26_Check_L24_B
      rw [if_pos (decide_eq_true j1), G_pos (by omega)]
      simp only [decide_eq_true_eq]
    rw [e]
    by_cases c : 4 < ((ix (ix (ix a.2.2.1 q) k) j).length : Int)
    · rw [if_pos c]; exact ⟨fun _ => rfl, fun h => absurd c h⟩
    · rw [if_neg c]
      exact ⟨fun h => absurd h c, fun _ => r26_L29 q0 k0 j0 j1 (by omega) (by unfold fits; omega)⟩
theorem r26_L18 (hp : Pre a) (hs : ¬ AShp a) {q : Int} (q0 : 0 ≤ q) (q1 : q < a.2.2.1.length) {r15 : Bool → Int → Option Int} {bad : Bool} :
    ((∃ l ∈ ix a.2.2.1 q, ALong l) → r26_Check_L18 a q r15 bad 0 = some 1) ∧
    ((¬ ∃ l ∈ ix a.2.2.1 q, ALong l) → ∃ b', r26_Check_L18 a q r15 bad 0 = r15 b' (q + 1) ∧ (b' = true ↔ bad = true ∨ ((∃ l ∈ ix a.2.2.1 q, AOff a.2.2.1.length l) ∨ (¬ ix a.2.2.2.1 q = 0 ∧ ¬ ix a.2.2.2.1 q = 1)))) := by
  have hn := hp.n1; have hl := hp.let1; have hm := hp.mks
  have hrow : ((ix a.2.2.1 q).length : Int) = a.1 := by
    refine Decidable.byContradiction fun h => hs ⟨_, ix_mem q0 q1, h⟩
  have hfq : fits (q + 1) := by unfold fits; omega
  have := flag_loop (L := fun b j => r26_Check_L18 a q r15 b j) (len := a.1) (lo := 0) (x := some 1) (big := fun j => ALong (ix (ix a.2.2.1 q) j)) (off := fun j => AOff a.2.2.1.length (ix (ix a.2.2.1 q) j)) (by omega) bad (fun j b j0 j1 => ?_)
  · rw [ex_ix, ex_ix, hrow]
    refine ⟨this.1, fun h => ?_⟩
    obtain ⟨b', e, hb⟩ := this.2 h
    rw [← or_assoc, ← hb, e]
    conv => arg 1; ext b'; lhs; lhs; rw [r26_Check_L18_eq]; unfold r26_Check_L18_B
    rw [if_neg (by simp)]
    simp only [G_pos hfq]
    cases b' with
    | true => exact ⟨true, if_pos rfl, by simp⟩
    | false =>
      rw [if_neg (by simp), G_pos (by omega)]
      by_cases c : ix a.2.2.2.1 q = 0
      · rw [if_neg (by simpa using c)]; exact ⟨false, rfl, by simp [c]⟩
      · rw [if_pos (by simpa using c), G_pos (by omega)]; exact ⟨_, rfl, by simp [c]⟩
  · have e : r26_Check_L18 a q r15 b j = if 16 < ((ix (ix a.2.2.1 q) j).length : Int) then some 1 else r26_Check_L24 a q j (fun b i => r26_Check_L18 a q r15 b i) b 0 := by
      conv => lhs; rw [r26_Check_L18_eq]; unfold r26_Check_L18_B
      rw [if_pos (decide_eq_true j1), G_pos (by omega), G_pos (by omega)]
      simp only [decide_eq_true_eq]
    rw [e]
    by_cases c : 16 < ((ix (ix a.2.2.1 q) j).length : Int)
    · rw [if_pos c]; exact ⟨fun _ => rfl, fun h => absurd (.inl c) h⟩
    · rw [if_neg c]
      have h := r26_L24 (a := a) q0 j0 (by omega) (r18 := fun b i => r26_Check_L18 a q r15 b i) (bad := b) (by unfold fits; omega)
      exact ⟨fun g => h.1 (g.elim (absurd · c) id), fun g => h.2 (fun x => g (.inr x))⟩
theorem r26_Check_spec : r26_Check a = some (alE a) := by
  unfold r26_Check alE
  by_cases c1 : ALet a
  · rw [if_pos c1]
    unfold ALet at c1
    by_cases c : a.1 < 1
    · rw [if_pos (decide_eq_true c)]
    · rw [if_neg (by simpa using c), if_pos (decide_eq_true (by omega))]
  rw [if_neg c1]
  have c1' := c1
  unfold ALet at c1'
  rw [if_neg (by simp only [decide_eq_true_eq]; omega), if_neg (by simp only [decide_eq_true_eq]; omega)]
  by_cases c2 : ANum a
  · rw [if_pos c2]
    unfold ANum at c2
    by_cases c : (a.2.2.1.length : Int) < 1
    · rw [if_pos (decide_eq_true c)]
    · rw [if_neg (by simpa using c), if_pos (decide_eq_true (by omega))]
  rw [if_neg c2]
  have c2' := c2
  unfold ANum at c2'
  rw [if_neg (by simp only [decide_eq_true_eq]; omega), if_neg (by simp only [decide_eq_true_eq]; omega)]
  by_cases c3 : AMks a
  · rw [if_pos c3, if_pos (decide_eq_true (show ¬ (a.2.2.2.1.length : Int) = (a.2.2.1.length : Int) from c3))]
  rw [if_neg c3]
  have c3' := c3
  unfold AMks at c3'
  rw [if_neg (by simpa using c3')]
  have hp : Pre a := ⟨by omega, by omega, by omega⟩
  have es : AShp a ↔ ∃ t : Int, 0 ≤ t ∧ t < a.2.2.1.length ∧ ¬ ((ix a.2.2.1 t).length : Int) = a.1 := ex_ix
  by_cases c4 : AShp a
  · rw [if_pos c4]
    refine scan_to (len := a.2.2.1.length) (bad := fun t => ¬ ((ix a.2.2.1 t).length : Int) = a.1) (by omega) (fun t t0 t1 => ?_) (fun h => ?_)
    · rw [r26_Check_L9_eq]; unfold r26_Check_L9_B
      rw [if_pos (decide_eq_true t1), G_pos (by omega), G_pos (by unfold fits; omega)]
      exact ⟨fun h => if_pos (decide_eq_true h), fun h => if_neg (by simpa using h)⟩
    · obtain ⟨t, t0, t1, t2⟩ := es.1 c4
      exact absurd t2 (h t t0 t1)
  rw [if_neg c4]
  have e9 : r26_Check_L9 a 0 = r26_Check_L9 a a.2.2.1.length := by
    refine scan_to (len := a.2.2.1.length) (bad := fun t => False) (by omega) (fun t t0 t1 => ⟨fun h => h.elim, fun _ => ?_⟩) (fun h => rfl)
    conv => lhs; rw [r26_Check_L9_eq]; unfold r26_Check_L9_B
    rw [if_pos (decide_eq_true t1), G_pos (by omega), if_neg (by simpa using fun h => c4 (es.2 ⟨t, t0, t1, h⟩)), G_pos (by unfold fits; omega)]
  have e10 : ∃ b, r26_Check_L9 a 0 = r26_Check_L15 a b 0 ∧ (b = true ↔ NoSt a.2.2.1.length a.2.1) := by
    rw [e9, r26_Check_L9_eq]; unfold r26_Check_L9_B r26_Check_J13
    rw [if_neg (by simp)]
    by_cases c : a.2.1 < 0
    · rw [if_pos (decide_eq_true c)]; exact ⟨true, rfl, by simp [NoSt, c]⟩
    · rw [if_neg (by simpa using c)]; exact ⟨_, rfl, by simp [NoSt, c]⟩
  obtain ⟨b, e, hb⟩ := e10
  rw [e]
  have := flag_loop (L := fun b j => r26_Check_L15 a b j) (len := a.2.2.1.length) (lo := 0) (x := some 1) (big := fun j => ∃ l ∈ ix a.2.2.1 j, ALong l) (off := fun j => (∃ l ∈ ix a.2.2.1 j, AOff a.2.2.1.length l) ∨ (¬ ix a.2.2.2.1 j = 0 ∧ ¬ ix a.2.2.2.1 j = 1)) (by omega) b (fun j b j0 j1 => ?_)
  · have e5 : ABig a ↔ ∃ t : Int, 0 ≤ t ∧ t < a.2.2.1.length ∧ ∃ l ∈ ix a.2.2.1 t, ALong l := ex_ix
    by_cases c5 : ABig a
    · rw [if_pos c5]
      exact this.1 (e5.1 c5)
    · rw [if_neg c5]
      obtain ⟨b', e, hb'⟩ := this.2 (fun h => c5 (e5.2 h))
      have h1 : AOffs a ↔ ∃ t : Int, 0 ≤ t ∧ t < a.2.2.1.length ∧ ∃ l ∈ ix a.2.2.1 t, AOff a.2.2.1.length l := ex_ix
      have h2 : AMark a ↔ ∃ t : Int, 0 ≤ t ∧ t < a.2.2.2.1.length ∧ ¬ ix a.2.2.2.1 t = 0 ∧ ¬ ix a.2.2.2.1 t = 1 := ex_ix
      have hb2 : b' = true ↔ ABad a := by
        rw [hb', hb]
        unfold ABad
        rw [h1, h2]
        constructor
        · rintro (h | ⟨t, t0, t1, h | h⟩)
          · exact .inr (.inl h)
          · exact .inl ⟨t, t0, t1, h⟩
          · exact .inr (.inr ⟨t, t0, by omega, h⟩)
        · rintro (⟨t, t0, t1, h⟩ | h | ⟨t, t0, t1, h⟩)
          · exact .inr ⟨t, t0, t1, .inl h⟩
          · exact .inl h
          · exact .inr ⟨t, t0, by omega, .inr h⟩
      refine e.trans ?_
      rw [r26_Check_L15_eq]; unfold r26_Check_L15_B
      rw [if_neg (by simp)]
      by_cases c6 : b' = true
      · rw [if_pos c6, if_pos (hb2.1 c6)]
      · rw [if_neg c6, if_neg (fun h => c6 (hb2.2 h))]
  · have h := r26_L18 hp c4 j0 j1 (r15 := fun b j => r26_Check_L15 a b j) (bad := b)
    have e : r26_Check_L15 a b j = r26_Check_L18 a j (fun b j => r26_Check_L15 a b j) b 0 := by
      conv => lhs; rw [r26_Check_L15_eq]; unfold r26_Check_L15_B
      rw [if_pos (decide_eq_true j1)]
    rw [e]
    exact h
structure AOk (a : AL) : Prop where
  p : Pre a
  row : ∀ q : Int, 0 ≤ q → q < a.2.2.1.length → ((ix a.2.2.1 q).length : Int) = a.1
  sml : ∀ q l : Int, 0 ≤ q → q < a.2.2.1.length → 0 ≤ l → l < a.1 → ((ix (ix a.2.2.1 q) l).length : Int) ≤ 16 ∧ ∀ c ∈ ix (ix a.2.2.1 q) l, (c.length : Int) ≤ 4 ∧ ∀ p ∈ c, 0 ≤ p ∧ p < a.2.2.1.length
  st : 0 ≤ a.2.1 ∧ a.2.1 < a.2.2.1.length
  mks : ∀ q : Int, 0 ≤ q → q < a.2.2.1.length → ix a.2.2.2.1 q = 0 ∨ ix a.2.2.2.1 q = 1
theorem aok_iff : alE a = 0 ↔ AOk a := by
  unfold alE
  constructor
  · intro h
    split at h
    · cases h
    split at h
    · cases h
    split at h
    · cases h
    split at h
    · cases h
    split at h
    · cases h
    split at h
    · cases h
    rename_i c1 c2 c3 c4 c5 c6
    unfold ALet at c1; unfold ANum at c2; unfold AMks at c3
    have hrow : ∀ q : Int, 0 ≤ q → q < a.2.2.1.length → ((ix a.2.2.1 q).length : Int) = a.1 := fun q q0 q1 => Decidable.byContradiction fun g => c4 ⟨_, ix_mem q0 q1, g⟩
    refine ⟨⟨by omega, by omega, by omega⟩, hrow, fun q l q0 q1 l0 l1 => ?_, ?_, fun q q0 q1 => ?_⟩
    · have hr := hrow q q0 q1
      have hL : ¬ ALong (ix (ix a.2.2.1 q) l) := fun g => c5 ⟨_, ix_mem q0 q1, _, ix_mem l0 (by omega), g⟩
      refine ⟨Int.not_lt.1 fun g => hL (.inl g), fun c hc => ⟨Int.not_lt.1 fun g => hL (.inr ⟨c, hc, g⟩), fun p hp => ?_⟩⟩
      have : ¬ NoSt a.2.2.1.length p := fun g => c6 (.inl ⟨_, ix_mem q0 q1, _, ix_mem l0 (by omega), c, hc, p, hp, g⟩)
      unfold NoSt at this; omega
    · have : ¬ NoSt a.2.2.1.length a.2.1 := fun g => c6 (.inr (.inl g))
      unfold NoSt at this; omega
    · have : ¬ (¬ ix a.2.2.2.1 q = 0 ∧ ¬ ix a.2.2.2.1 q = 1) := fun g => c6 (.inr (.inr ⟨_, ix_mem q0 (by omega), g⟩))
      omega
  · rintro ⟨⟨p1, p2, p3⟩, h1, h2, h3, h4⟩
    rw [if_neg (by unfold ALet; omega), if_neg (by unfold ANum; omega), if_neg (by unfold AMks; omega), if_neg, if_neg, if_neg]
    · rintro (⟨r, hr, l, hl, c, hc, p, hp, hb⟩ | hb | ⟨m, hm, hb⟩)
      · obtain ⟨q, q0, q1, rfl⟩ := ex_ix (P := fun x => x = r).1 ⟨r, hr, rfl⟩
        obtain ⟨k, k0, k1, rfl⟩ := ex_ix (P := fun x => x = l).1 ⟨l, hl, rfl⟩
        have := ((h2 q k q0 q1 k0 (by have := h1 q q0 q1; omega)).2 c hc).2 p hp
        unfold NoSt at hb; omega
      · unfold NoSt at hb; omega
      · obtain ⟨q, q0, q1, rfl⟩ := ex_ix (P := fun x => x = m).1 ⟨m, hm, rfl⟩
        have := h4 q q0 (by omega)
        omega
    · rintro ⟨r, hr, l, hl, hb⟩
      obtain ⟨q, q0, q1, rfl⟩ := ex_ix (P := fun x => x = r).1 ⟨r, hr, rfl⟩
      obtain ⟨k, k0, k1, rfl⟩ := ex_ix (P := fun x => x = l).1 ⟨l, hl, rfl⟩
      have h := h2 q k q0 q1 k0 (by have := h1 q q0 q1; omega)
      rcases hb with hb | ⟨c, hc, hb⟩
      · omega
      · have := (h.2 c hc).1; omega
    · rintro ⟨r, hr, hb⟩
      obtain ⟨q, q0, q1, rfl⟩ := ex_ix (P := fun x => x = r).1 ⟨r, hr, rfl⟩
      exact hb (h1 q q0 q1)
end

theorem ix_snoc {α : Type} [Inhabited α] {l : List α} {x : α} {j : Int} (h0 : 0 ≤ j) (h : j < l.length) : ix (l ++ [x]) j = ix l j := by
  simp only [ix, List.getD_eq_getElem?_getD]
  rw [List.getElem?_append_left (by omega)]
theorem ix_snoc_last {α : Type} [Inhabited α] {l : List α} {x : α} {j : Int} (h : j = l.length) : ix (l ++ [x]) j = x := by
  subst h
  simp [ix, List.getD_eq_getElem?_getD]

/-- Does a state accept a word? -/
def Acc (a : AL) : List Int → Int → Prop
  | [], q => ix a.2.2.2.1 q = 1
  | l :: w, q => ∃ c ∈ ix (ix a.2.2.1 q) l, ∀ p ∈ c, Acc a w p
theorem Acc_cons {a : AL} {l : Int} {w : List Int} {q : Int} : Acc a (l :: w) q ↔ ∃ c ∈ ix (ix a.2.2.1 q) l, ∀ p ∈ c, Acc a w p := Iff.rfl
def suf (w : List Int) (i : Int) : List Int := w.drop i.toNat
theorem suf_cons {w : List Int} {i : Int} (h0 : 0 ≤ i) (h1 : i < w.length) : suf w i = ix w i :: suf w (i + 1) := by
  unfold suf
  have h : i.toNat < w.length := by omega
  have e : (i + 1).toNat = i.toNat + 1 := by omega
  rw [e, List.drop_eq_getElem_cons h, ix_eq h0 h1]
theorem suf_end {w : List Int} : suf w w.length = [] := by
  unfold suf; rw [Int.toNat_natCast, List.drop_length]
section
variable {a : AL} {w : List Int}
structure KT (a : AL) (w : List Int) (K : List (List Int)) : Prop where
  ln : (K.length : Int) = a.2.2.1.length
  row : ∀ q : Int, 0 ≤ q → q < a.2.2.1.length → ((ix K q).length : Int) = w.length + 1
  val : ∀ q i : Int, 0 ≤ q → q < a.2.2.1.length → 0 ≤ i → i ≤ w.length → ix (ix K q) i = 0 ∨ (ix (ix K q) i = 1 ∧ Acc a (suf w i) q) ∨ (ix (ix K q) i = 2 ∧ ¬ Acc a (suf w i) q)
theorem KT.put {K : List (List Int)} (h : KT a w K) {q i v : Int} (q0 : 0 ≤ q) (q1 : q < a.2.2.1.length) (i0 : 0 ≤ i) (i1 : i ≤ w.length) (hv : (v = 1 ∧ Acc a (suf w i) q) ∨ (v = 2 ∧ ¬ Acc a (suf w i) q)) :
    KT a w (K.set q.toNat ((ix K q).set i.toNat v)) := by
  have hl := h.ln; have hr := h.row q q0 q1
  refine ⟨by simpa using hl, fun r r0 r1 => ?_, fun r j r0 r1 j0 j1 => ?_⟩
  · by_cases e : q = r
    · subst e; rw [ix_set_same q0 (by omega)]; simpa using hr
    · rw [ix_set_ne q0 r0 e]; exact h.row r r0 r1
  · by_cases e : q = r
    · subst e; rw [ix_set_same q0 (by omega)]
      by_cases e2 : i = j
      · subst e2; rw [ix_set_same i0 (by omega)]; exact .inr hv
      · rw [ix_set_ne i0 j0 e2]; exact h.val q j q0 q1 j0 j1
    · rw [ix_set_ne q0 r0 e]; exact h.val r j r0 r1 j0 j1
theorem From_J9 {K : List (List Int)} (h : KT a w K) {q i : Int} (q0 : 0 ≤ q) (q1 : q < a.2.2.1.length) (i0 : 0 ≤ i) (i1 : i ≤ w.length) {b : Bool} (hb : b = true ↔ Acc a (suf w i) q) :
    ∃ K', r26_From_J9 q i b K = some (b, K') ∧ KT a w K' := by
  have hl := h.ln; have hr := h.row q q0 q1
  unfold r26_From_J9 r26_From_J18
  rw [G_pos (by omega), G_pos (by omega), G_pos (by omega), G_pos (by omega)]
  have e1 : ix (K.set q.toNat ((ix K q).set i.toNat 2)) q = (ix K q).set i.toNat 2 := ix_set_same q0 (by omega)
  cases b with
  | false =>
    exact ⟨_, if_neg (by simp), h.put q0 q1 i0 i1 (.inr ⟨rfl, fun g => by simpa using hb.2 g⟩)⟩
  | true =>
    rw [if_pos rfl, e1, List.length_set, List.length_set, G_pos (by omega), G_pos (by omega), G_pos (by omega), G_pos (by omega), List.set_set, List.set_set]
    exact ⟨_, rfl, h.put q0 q1 i0 i1 (.inl ⟨rfl, hb.1 rfl⟩)⟩
theorem From_L12 {l : List (List Int)} {q at' i : Int} (hl : ix (ix a.2.2.1 q) (ix w at') = l) (hl16 : (l.length : Int) ≤ 16) (h4 : ((ix l i).length : Int) ≤ 4) (hin : ∀ p ∈ ix l i, 0 ≤ p ∧ p < a.2.2.1.length) (i0 : 0 ≤ i) (i1 : i < l.length) (hf : fits (at' + 1))
    (ih : ∀ (q : Int) (K : List (List Int)), 0 ≤ q → q < a.2.2.1.length → KT a w K → ∃ b K', r26_From a q w (at' + 1) K = some (b, K') ∧ KT a w K' ∧ (b = true ↔ Acc a (suf w (at' + 1)) q))
    {r8 : Bool → Int → List (List Int) → Option (Bool × List (List Int))} : ∀ (n : Nat) (j : Int) (K : List (List Int)), 0 ≤ j → j + n = (ix l i).length → KT a w K →
      ∃ b K', r26_From_L12 r26_From a q w at' i r8 true j K = r8 b (i + 1) K' ∧ KT a w K' ∧ (b = true ↔ ∀ t : Int, j ≤ t → t < (ix l i).length → Acc a (suf w (at' + 1)) (ix (ix l i) t)) := by
  have hfi : fits (i + 1) := by unfold fits; omega
  intro n
  induction n with
  | zero =>
    intro j K j0 hn hK
    refine ⟨true, K, ?_, hK, fun _ t t0 t1 => by omega, fun _ => rfl⟩
    rw [r26_From_L12_eq]; unfold r26_From_L12_B
    rw [hl, G_pos (by omega), if_neg (by simp only [decide_eq_true_eq]; omega), G_pos hfi]
  | succ n ihn =>
    intro j K j0 hn hK
    have hp := hin _ (ix_mem j0 (by omega : j < (ix l i).length))
    obtain ⟨b, K1, e1, hK1, hb⟩ := ih (ix (ix l i) j) K hp.1 hp.2 hK
    have e : r26_From_L12 r26_From a q w at' i r8 true j K = r26_From_L12 r26_From a q w at' i r8 b (j + 1) K1 := by
      conv => lhs; rw [r26_From_L12_eq]; unfold r26_From_L12_B
      rw [hl, G_pos (by omega), if_pos (decide_eq_true (by omega)), if_pos rfl, G_pos (by omega), G_pos (by omega), G_pos hf]
      refine bind_to e1 ?_
      rw [G_pos (by unfold fits; omega)]
    cases b with
    | true =>
      obtain ⟨b', K2, e2, hK2, hb2⟩ := ihn (j + 1) K1 (by omega) (by omega) hK1
      refine ⟨b', K2, e.trans e2, hK2, hb2.trans ⟨fun h t t0 t1 => ?_, fun h t t0 t1 => h t (by omega) t1⟩⟩
      by_cases c : t = j
      · rw [c]; exact hb.1 rfl
      · exact h t (by omega) t1
    | false =>
      refine ⟨false, K1, e.trans ?_, hK1, fun h => (by cases h), fun h => by simpa using hb.2 (h j (Int.le_refl j) (by omega))⟩
      rw [r26_From_L12_eq]; unfold r26_From_L12_B
      rw [hl, G_pos (by omega)]
      split
      · rw [if_neg (by decide), G_pos hfi]
      · rw [G_pos hfi]
theorem From_L8 {l : List (List Int)} {q at' : Int} (q0 : 0 ≤ q) (q1 : q < a.2.2.1.length) (a0 : 0 ≤ at') (a1 : at' < w.length) (hl : ix (ix a.2.2.1 q) (ix w at') = l) (hl16 : (l.length : Int) ≤ 16) (h4 : ∀ c ∈ l, (c.length : Int) ≤ 4 ∧ ∀ p ∈ c, 0 ≤ p ∧ p < a.2.2.1.length) (hf : fits (at' + 1))
    (ih : ∀ (q : Int) (K : List (List Int)), 0 ≤ q → q < a.2.2.1.length → KT a w K → ∃ b K', r26_From a q w (at' + 1) K = some (b, K') ∧ KT a w K' ∧ (b = true ↔ Acc a (suf w (at' + 1)) q)) :
    ∀ (n : Nat) (i : Int) (K : List (List Int)), 0 ≤ i → i + n = l.length → KT a w K → (¬ ∃ j : Int, 0 ≤ j ∧ j < i ∧ ∀ p ∈ ix l j, Acc a (suf w (at' + 1)) p) →
      ∃ b K', r26_From_L8 r26_From a q w at' false i K = some (b, K') ∧ KT a w K' ∧ (b = true ↔ Acc a (suf w at') q) := by
  have hA : Acc a (suf w at') q ↔ ∃ j : Int, 0 ≤ j ∧ j < l.length ∧ ∀ p ∈ ix l j, Acc a (suf w (at' + 1)) p := by
    rw [suf_cons a0 a1, Acc_cons, hl]; exact ex_ix (P := fun c : List Int => ∀ p ∈ c, Acc a (suf w (at' + 1)) p)
  intro n
  induction n with
  | zero =>
    intro i K i0 hn hK hno
    have hb : false = true ↔ Acc a (suf w at') q := by
      rw [hA]
      refine ⟨fun h => (by cases h), fun ⟨j, j0, j1, h⟩ => absurd ⟨j, j0, by omega, h⟩ hno⟩
    obtain ⟨K', e, hK'⟩ := From_J9 hK q0 q1 a0 (by omega) hb
    refine ⟨false, K', ?_, hK', hb⟩
    rw [r26_From_L8_eq]; unfold r26_From_L8_B
    rw [hl, if_neg (by simp only [decide_eq_true_eq]; omega), e]
  | succ n ihn =>
    intro i K i0 hn hK hno
    have hc := h4 _ (ix_mem i0 (by omega : i < l.length))
    obtain ⟨b, K1, e1, hK1, hb⟩ := From_L12 (r8 := fun b i K => r26_From_L8 r26_From a q w at' b i K) hl hl16 hc.1 hc.2 i0 (by omega) hf ih (ix l i).length 0 K (by omega) (by omega) hK
    have hb : b = true ↔ ∀ p ∈ ix l i, Acc a (suf w (at' + 1)) p := hb.trans (forall_ix (p := fun p => Acc a (suf w (at' + 1)) p)).symm
    have e : r26_From_L8 r26_From a q w at' false i K = r26_From_L8 r26_From a q w at' b (i + 1) K1 := by
      conv => lhs; rw [r26_From_L8_eq]; unfold r26_From_L8_B
      rw [hl, if_pos (decide_eq_true (by omega)), if_pos (by simp), e1]
    cases b with
    | false =>
      obtain ⟨b', K2, e2, h2⟩ := ihn (i + 1) K1 (by omega) (by omega) hK1 (fun ⟨j, j0, j1, h⟩ => by
        by_cases c : j = i
        · rw [c] at h; simpa using hb.2 h
        · exact hno ⟨j, j0, by omega, h⟩)
      exact ⟨b', K2, e.trans e2, h2⟩
    | true =>
      have hb2 : true = true ↔ Acc a (suf w at') q := by
        rw [hA]
        exact ⟨fun h => ⟨i, i0, by omega, hb.1 rfl⟩, fun _ => rfl⟩
      obtain ⟨K', e2, hK'⟩ := From_J9 hK1 q0 q1 a0 (by omega) hb2
      refine ⟨true, K', e.trans ?_, hK', hb2⟩
      rw [r26_From_L8_eq]; unfold r26_From_L8_B
      split
      · rw [if_neg (by decide)]; exact e2
      · exact e2
theorem r26_From_spec (ok : AOk a) (hw : ∀ x ∈ w, 0 ≤ x ∧ x < a.1) (hwl : (w.length : Int) ≤ 60) : ∀ (n : Nat) (at' q : Int) (K : List (List Int)), 0 ≤ at' → at' + n = w.length → 0 ≤ q → q < a.2.2.1.length → KT a w K →
    ∃ b K', r26_From a q w at' K = some (b, K') ∧ KT a w K' ∧ (b = true ↔ Acc a (suf w at') q) := by
  have hpn := ok.p.n1; have hmk := ok.p.mks
  intro n
  induction n with
  | zero =>
    intro at' q K a0 hn q0 q1 hK
    have hl := hK.ln; have hr := hK.row q q0 q1
    have hv := hK.val q at' q0 q1 a0 (by omega)
    conv => arg 1; ext b; arg 1; ext K'; lhs; lhs; rw [r26_From_eq]; unfold r26_From_B
    rw [G_pos (by omega), G_pos (by omega), G_pos (by omega), G_pos (by omega)]
    rcases hv with hv | ⟨hv, h⟩ | ⟨hv, h⟩
    · rw [if_neg (by simp [hv]), G_pos (by omega), if_neg (by simp only [decide_eq_true_eq]; omega)]
      have hb : decide (ix a.2.2.2.1 q = 1) = true ↔ Acc a (suf w at') q := by
        rw [show at' = w.length by omega, suf_end]; unfold Acc; simp
      obtain ⟨K', e, hK'⟩ := From_J9 hK q0 q1 a0 (by omega) hb
      exact ⟨_, K', e, hK', hb⟩
    · rw [if_pos (by simp [hv]), G_pos (by omega), G_pos (by omega), G_pos (by omega), G_pos (by omega)]
      exact ⟨_, K, rfl, hK, by simp [hv, h]⟩
    · rw [if_pos (by simp [hv]), G_pos (by omega), G_pos (by omega), G_pos (by omega), G_pos (by omega)]
      exact ⟨_, K, rfl, hK, by simp [hv, h]⟩
  | succ n ih =>
    intro at' q K a0 hn q0 q1 hK
    have hl := hK.ln; have hr := hK.row q q0 q1
    have hv := hK.val q at' q0 q1 a0 (by omega)
    have hx := hw _ (ix_mem a0 (by omega : at' < w.length))
    have hrow := ok.row q q0 q1
    have hs := ok.sml q (ix w at') q0 q1 hx.1 hx.2
    rcases hv with hv | hv
    · obtain ⟨b, K', e, h⟩ := From_L8 (q := q) (at' := at') q0 q1 a0 (by omega) rfl hs.1 hs.2 (by unfold fits; omega) (fun q K q0 q1 hK => ih (at' + 1) q K (by omega) (by omega) q0 q1 hK) _ 0 K (by omega) (Int.zero_add _) hK (fun ⟨j, j0, j1, _⟩ => by omega)
      refine ⟨b, K', ?_, h⟩
      rw [r26_From_eq]; unfold r26_From_B
      rw [G_pos (by omega), G_pos (by omega), G_pos (by omega), G_pos (by omega), if_neg (by simp [hv]), G_pos (by omega), if_pos (decide_eq_true (by omega)), G_pos (by omega), G_pos (by omega), G_pos (by omega)]
      exact e
    · conv => arg 1; ext b; arg 1; ext K'; lhs; lhs; rw [r26_From_eq]; unfold r26_From_B
      rw [G_pos (by omega), G_pos (by omega), G_pos (by omega), G_pos (by omega)]
      rcases hv with ⟨hv, h⟩ | ⟨hv, h⟩
      · rw [if_pos (by simp [hv]), G_pos (by omega), G_pos (by omega), G_pos (by omega), G_pos (by omega)]
        exact ⟨_, K, rfl, hK, by simp [hv, h]⟩
      · rw [if_pos (by simp [hv]), G_pos (by omega), G_pos (by omega), G_pos (by omega), G_pos (by omega)]
        exact ⟨_, K, rfl, hK, by simp [hv, h]⟩
theorem r26_Accepts_tells (ok : AOk a) (hw : ∀ x ∈ w, 0 ≤ x ∧ x < a.1) (hwl : (w.length : Int) ≤ 60) : Tells (r26_Accepts a w) (Acc a w a.2.1) := by
  have hpn := ok.p.n1
  have key : ∀ (n : Nat) (q : Int) (K : List (List Int)), 0 ≤ q → q + n = a.2.2.1.length → (K.length : Int) = q → (∀ r : Int, 0 ≤ r → r < q → ix K r = List.replicate ((w.length : Int) + 1).toNat 0) → Tells (r26_Accepts_L3 a w q K) (Acc a w a.2.1) := by
    intro n
    induction n with
    | zero =>
      intro q K q0 hn hl hK
      have hKT : KT a w K := by
        refine ⟨by omega, fun r r0 r1 => ?_, fun r i r0 r1 i0 i1 => .inl ?_⟩
        · rw [hK r r0 (by omega), List.length_replicate]; omega
        · rw [hK r r0 (by omega)]
          simp only [ix, List.getD_eq_getElem?_getD, List.getElem?_replicate]
          split <;> rfl
      obtain ⟨b, K', e, _, hb⟩ := r26_From_spec ok hw hwl w.length 0 a.2.1 K (by omega) (by omega) ok.st.1 ok.st.2 hKT
      refine ⟨b, ?_, hb⟩
      rw [r26_Accepts_L3_eq]; unfold r26_Accepts_L3_B
      rw [if_neg (by simp only [decide_eq_true_eq]; omega)]
      exact bind_to e rfl
    | succ n ih =>
      intro q K q0 hn hl hK
      rw [r26_Accepts_L3_eq]; unfold r26_Accepts_L3_B
      rw [if_pos (decide_eq_true (by omega)), G_pos (by unfold fits; omega), G_pos (by unfold mkOK; omega), G_pos (by unfold room; simp only [List.length_cons, List.length_nil]; omega), G_pos (by unfold fits; omega)]
      refine ih (q + 1) _ (by omega) (by omega) (by simp; omega) (fun r r0 r1 => ?_)
      by_cases c : r = q
      · rw [ix_snoc_last (by omega)]
      · rw [ix_snoc r0 (by omega)]; exact hK r r0 (by omega)
  exact key a.2.2.1.length 0 [] (by omega) (by omega) rfl (fun r r0 r1 => by omega)
end

/- The program's exploring, by keys that stand for numbers: det_Explore. -/
theorem mfind_dec {α : Type} {dec : Int → α} {P : Int → Prop} (hinj : ∀ x y, P x → P y → dec x = dec y → x = y) {ks : List Int} (hk : ∀ x ∈ ks, P x) {x : Int} (hx : P x) : mfind (ks.map dec) (dec x) = mfind ks x := mfind_map dec (fun y hy he => hinj _ _ (hk y hy) hx he)
theorem det_Explore_row {dec : Int → Int} {s : Int} {l : List Int} {nx : Int → Int → Int} {mk : Int → Int} {first : Int} {B : Nat} {P : Int → Prop} {g : Int} {c : AL} {y : Int} (hinj : ∀ x y, P x → P y → dec x = dec y → x = y) (hx : XOk nx mk g.toNat first B P) (hB : B < 131072) (h1 : 1 ≤ g ∧ g ≤ 4) (hnx : ∀ s, P s → ∀ t, 0 ≤ t → t < g → alter_Det_1 (dec s) t c = some (dec (nx s t))) (hmk : ∀ s, P s → alter_Det_2 (dec s) y = some (mk s)) {L0 : List Int} {D2 : List (List Int)} {D3 : List Int} {r4} (hs : P s) (hl : LiOk B P l) (eL : ix L0 (D2.length : Int) = dec s) (h2 : D2.length ≤ 65536) (h3 : D3.length ≤ 65536) :
    det_Explore_L8 g c y 131072 g 0 L0 D2 D3 r4 0 (l.map dec) (iota l.length) (l.map dec) (List.replicate g.toNat 0) =
      r4 g 0 ((xRow nx s l g.toNat).1.map dec) (iota (xRow nx s l g.toNat).1.length) ((xRow nx s l g.toNat).1.map dec) (D2 ++ [(xRow nx s l g.toNat).2]) (D3 ++ [mk s]) := by
  have key : ∀ (n t : Nat) (row : List Int), g.toNat - t = n → t ≤ g.toNat → row.length = g.toNat → (∀ j : Int, 0 ≤ j → j < t → ix row j = ix (xRow nx s l t).2 j) →
      det_Explore_L8 g c y 131072 g 0 L0 D2 D3 r4 t ((xRow nx s l t).1.map dec) (iota (xRow nx s l t).1.length) ((xRow nx s l t).1.map dec) row =
      r4 g 0 ((xRow nx s l g.toNat).1.map dec) (iota (xRow nx s l g.toNat).1.length) ((xRow nx s l g.toNat).1.map dec) (D2 ++ [(xRow nx s l g.toNat).2]) (D3 ++ [mk s]) := by
    intro n
    induction n with
    | zero =>
      intro t row hn ht hr hj
      obtain rfl : t = g.toNat := by omega
      obtain ⟨g1, ⟨_, g2, _⟩⟩ := xRow_ok hx hs hl g.toNat (Nat.le_refl _)
      have : row = (xRow nx s l g.toNat).2 := ix_ext (by omega) fun j j0 j1 => hj j j0 (by omega)
      rw [det_Explore_L8_eq]; unfold det_Explore_L8_B
      rw [if_neg (by simp; omega), this]
      refine G_to (by unfold room; simp; omega) ?_
      rw [eL]
      refine bind_to (hmk s hs) ?_
      exact G_to (by unfold room; simp; omega) rfl
    | succ n ih =>
      intro t row hn ht hr hj
      obtain ⟨g1, ⟨_, g2, _⟩⟩ := xRow_ok hx hs hl t (by omega)
      have hlen := g1.len hx
      have hPn := hx.n s hs t (by omega) (by omega)
      have ih' := fun row => ih (t + 1) row (by omega) (by omega)
      rw [det_Explore_L8_eq]; unfold det_Explore_L8_B det_Explore_J17
      rw [if_pos (by simp; omega), eL]
      refine bind_to (hnx s hs t (by omega) (by omega)) ?_
      show (if (!(mhas ((xRow nx s l t).1.map dec) (dec (nx s t)))) = true then
        if decide ((((xRow nx s l t).1.map dec).length : Int) = 131072) = true then _ else
          G (room ((xRow nx s l t).1.map dec) [dec (nx s t)] _) (G _ (G _ (G _ (det_Explore_L8 g c y 131072 g 0 L0 D2 D3 r4 (t + 1) (mputK ((xRow nx s l t).1.map dec) (dec (nx s t))) (mputV ((xRow nx s l t).1.map dec) (iota (xRow nx s l t).1.length) (dec (nx s t)) (((xRow nx s l t).1.map dec).length : Int)) ((xRow nx s l t).1.map dec ++ [dec (nx s t)]) (row.set ((t : Int)).toNat (((xRow nx s l t).1.map dec).length : Int)))))) else
        G _ (G _ (G _ (det_Explore_L8 g c y 131072 g 0 L0 D2 D3 r4 (t + 1) _ _ _ (row.set ((t : Int)).toNat (mget ((xRow nx s l t).1.map dec) (iota (xRow nx s l t).1.length) (dec (nx s t)) 0)))))) = _
      have hmf := mfind_dec hinj g1.p hPn
      have hil : iota (xRow nx s l t).1.length = iota ((xRow nx s l t).1.map dec).length := by rw [List.length_map]
      cases e : mfind (xRow nx s l t).1 (nx s t) with
      | some j =>
        rw [e] at hmf
        rw [xRow_some e] at ih'
        have hm : mhas ((xRow nx s l t).1.map dec) (dec (nx s t)) = true := by unfold mhas; rw [hmf]; rfl
        rw [if_neg (by rw [hm]; simp), hil, mget_iota hmf, ← hil]
        refine G_to (by omega) (G_to (by omega) (G_to (by unfold fits; omega) ?_))
        refine ih' (row.set ((t : Int)).toNat (j : Int)) (by rw [List.length_set]; exact hr) (fun k k0 k1 => ?_)
        by_cases c : k < t
        · rw [ix_set_ne (by omega) k0 (by omega), ix_append_left k0 (by omega)]; exact hj k k0 c
        · obtain rfl : k = (t : Int) := by omega
          rw [ix_set_same k0 (by omega)]
          have : (t : Int) = ((xRow nx s l t).2.length : Int) := by omega
          rw [this, ix_append_last]
      | none =>
        rw [e] at hmf
        rw [xRow_none e] at ih'
        have hnm := mfind_none.1 hmf
        have hm : mhas ((xRow nx s l t).1.map dec) (dec (nx s t)) = false := by unfold mhas; rw [hmf]; rfl
        rw [if_pos (by rw [hm]; rfl), if_neg (by rw [List.length_map]; simp; omega), hil, mputK_new hnm, mputV_iota hnm]
        refine G_to (by unfold room; simp; omega) (G_to (by omega) (G_to (by omega) (G_to (by unfold fits; omega) ?_)))
        have ih2 := ih' (row.set ((t : Int)).toNat ((xRow nx s l t).1.length : Int)) (by rw [List.length_set]; exact hr) (fun k k0 k1 => by
          by_cases c : k < t
          · rw [ix_set_ne (by omega) k0 (by omega), ix_append_left k0 (by omega)]; exact hj k k0 c
          · obtain rfl : k = (t : Int) := by omega
            rw [ix_set_same k0 (by omega)]
            have : (t : Int) = ((xRow nx s l t).2.length : Int) := by omega
            rw [this, ix_append_last])
        rw [List.map_append, List.map_singleton] at ih2
        rw [List.length_append, List.length_map, List.length_singleton]
        rw [List.length_append, List.length_singleton] at ih2
        exact ih2
  exact key _ 0 _ rfl (by omega) (by rw [List.length_replicate]) (fun j j0 j1 => by omega)
theorem det_Explore_prog {dec : Int → Int} {nx : Int → Int → Int} {mk : Int → Int} {first : Int} {B : Nat} {P : Int → Prop} {g : Int} {c : AL} {y : Int} (hinj : ∀ x y, P x → P y → dec x = dec y → x = y) (hx : XOk nx mk g.toNat first B P) (hB : B < 131072) (h1 : 1 ≤ g ∧ g ≤ 4) (hB3 : B ≤ 65536) (hnx : ∀ s, P s → ∀ t, 0 ≤ t → t < g → alter_Det_1 (dec s) t c = some (dec (nx s t))) (hmk : ∀ s, P s → alter_Det_2 (dec s) y = some (mk s)) {n : Nat} (hg : XGo nx mk g.toNat first n) (hn : (xSt nx mk g.toNat first n).1.length = n) : det_Explore g (dec first) c y 131072 = some (xAut nx mk g.toNat first n, true) := by
  have key : ∀ (f i : Nat), n - i = f → i ≤ n → det_Explore_L4 g c y 131072 g 0 ((xSt nx mk g.toNat first i).1.map dec) (iota (xSt nx mk g.toNat first i).1.length) ((xSt nx mk g.toNat first i).1.map dec) (xSt nx mk g.toNat first i).2.1 (xSt nx mk g.toNat first i).2.2 = some (xAut nx mk g.toNat first n, true) := by
    intro f
    induction f with
    | zero =>
      intro i hf hi
      obtain rfl : i = n := by omega
      obtain ⟨g1, g2, g3⟩ := xSt_ok hx i hg
      have hr := g3.r
      rw [det_Explore_L4_eq]; unfold det_Explore_L4_B
      rw [if_neg (by rw [decide_eq_true_iff, List.length_map]; omega)]
      unfold xAut
      rw [Int.toNat_of_nonneg (by omega)]
    | succ f ih =>
      intro i hf hi
      obtain ⟨g1, g2, g3⟩ := xSt_ok hx i (fun k hk => hg k (by omega))
      have hlt := hg i (by omega)
      have hr := g3.r
      have hm := g3.m
      have hlen := g1.len hx
      have hP := g1.p _ (ix_mem (i := (i : Int)) (by omega) (by omega))
      rw [det_Explore_L4_eq]; unfold det_Explore_L4_B
      rw [if_pos (by rw [decide_eq_true_iff, List.length_map]; omega)]
      refine G_to (by rw [List.length_map]; omega) (G_to (by rw [List.length_map]; omega) (G_to (by unfold mkOK; omega) ?_))
      rw [det_Explore_row hinj hx hB h1 hnx hmk hP g1 (by rw [hr, ix_map _ (by omega) (by omega)]) (by omega) (by omega)]
      exact ih (i + 1) (by omega) (by omega)
  exact key _ 0 rfl (by omega)

section
variable {a : AL}
theorem o11_tells (p s : Int) (h0 : 0 ≤ p) : Tells (alter_ahead_1_1 p s) (iand .i64 (ishr .i64 s p) 1 = 0) := by
  unfold alter_ahead_1_1; rw [G_pos h0]; exact Tells.dec Iff.rfl
theorem bit01 {N : Nat} {s p : Int} (hs : SetN N s) (p0 : 0 ≤ p) (p1 : p ≤ 16) : iand .i64 (ishr .i64 s p) 1 = 0 ∨ iand .i64 (ishr .i64 s p) 1 = 1 := by
  obtain ⟨hN, m, rfl, hm⟩ := hs
  have hp := pow_le16 hN
  obtain ⟨q, rfl⟩ : ∃ q : Nat, p = q := ⟨p.toNat, by omega⟩
  have hle : m >>> q ≤ m := Nat.shiftRight_le m q
  rw [ishr_nat (by omega), show (1 : Int) = ((1 : Nat) : Int) from rfl, iand_nat (by omega) (by omega), Nat.and_one_is_mod]
  omega
theorem bit_no {N : Nat} {s p : Int} (hs : SetN N s) (p0 : 0 ≤ p) (p1 : p ≤ 16) : iand .i64 (ishr .i64 s p) 1 = 0 ↔ ¬ bitP s p := by
  have := bit01 hs p0 p1
  unfold bitP
  omega
/-- All of a choice are in the set, for some choice. -/
def Mt (l : List (List Int)) (s : Int) : Prop := ∃ c ∈ l, ∀ p ∈ c, bitP s p
theorem f6_tells {c : List Int} {s : Int} (hs : SetN 4 s) (h : c.length ≤ 4) (h0 : ∀ p ∈ c, 0 ≤ p ∧ p < 4) : Tells (slices_ContainsFunc_6 c s) (∃ p ∈ c, ¬ bitP s p) :=
  contains_tells (f := fun p => alter_ahead_1_1 p s) (P := fun p => ¬ bitP s p) (fun t => slices_IndexFunc_6_L2_eq c s t) (by omega) (fun p hp => Tells.iff (o11_tells p s (h0 p hp).1) (bit_no hs (h0 p hp).1 (by have := (h0 p hp).2; omega)))
theorem o1_tells {c : List Int} {s : Int} (hs : SetN 4 s) (h : c.length ≤ 4) (h0 : ∀ p ∈ c, 0 ≤ p ∧ p < 4) : Tells (alter_ahead_1 c s) (∀ p ∈ c, bitP s p) := by
  obtain ⟨b, e, hb⟩ := f6_tells hs h h0
  refine ⟨!b, bind_to e rfl, ?_⟩
  have : (∀ p ∈ c, bitP s p) ↔ ¬ b = true := by
    rw [hb]
    exact ⟨fun h ⟨p, hp, hn⟩ => hn (h p hp), fun h p hp => Classical.byContradiction fun hn => h ⟨p, hp, hn⟩⟩
  rw [this]; cases b <;> simp
theorem f5_tells {l : List (List Int)} {s : Int} (hs : SetN 4 s) (h : l.length ≤ 16) (hc : ∀ c ∈ l, (c.length : Int) ≤ 4 ∧ ∀ p ∈ c, 0 ≤ p ∧ p < 4) : Tells (slices_ContainsFunc_5 l s) (Mt l s) :=
  contains_tells (f := fun c => alter_ahead_1 c s) (P := fun c => ∀ p ∈ c, bitP s p) (fun t => slices_IndexFunc_5_L2_eq l s t) (by omega) (fun c h => o1_tells hs (by have := (hc c h).1; omega) (hc c h).2)
/-- Who accepts a word with a letter more ahead. -/
noncomputable def ahd (a : AL) (s l : Int) : Int := setOf (fun q => Mt (ix (ix a.2.2.1 q) l) s) a.2.2.1.length
theorem AOk.lst (ok : AOk a) {q l : Int} (q0 : 0 ≤ q) (q1 : q < a.2.2.1.length) (l0 : 0 ≤ l) (l1 : l < a.1) : (ix (ix a.2.2.1 q) l).length ≤ 16 ∧ ∀ c ∈ ix (ix a.2.2.1 q) l, (c.length : Int) ≤ 4 ∧ ∀ p ∈ c, 0 ≤ p ∧ p < 4 := by
  have h := ok.sml q l q0 q1 l0 l1
  have hn := ok.p.n1
  refine ⟨by omega, fun c hc => ⟨(h.2 c hc).1, fun p hp => ?_⟩⟩
  have := (h.2 c hc).2 p hp
  omega
theorem SetN.up {N M : Nat} {s : Int} (h : SetN N s) (hNM : N ≤ M) (hM : M ≤ 16) : SetN M s := by
  obtain ⟨hN, m, rfl, hm⟩ := h
  exact ⟨hM, m, rfl, Nat.lt_of_lt_of_le hm (Nat.pow_le_pow_right (by omega) hNM)⟩
theorem ahd_ok (ok : AOk a) (s l : Int) : SetN a.2.2.1.length (ahd a s l) ∧ SetN 4 (ahd a s l) ∧ ∀ q : Int, 0 ≤ q → q < a.2.2.1.length → (bitP (ahd a s l) q ↔ Mt (ix (ix a.2.2.1 q) l) s) := by
  have hn := ok.p.n1
  obtain ⟨h1, h2⟩ := setOf_ok (N := a.2.2.1.length) (by omega) (fun q => Mt (ix (ix a.2.2.1 q) l) s) a.2.2.1.length (Nat.le_refl _)
  exact ⟨h1, h1.up (by omega) (by omega), fun q q0 q1 => (h2 q q0 q1).trans ⟨fun h => h.2, fun h => ⟨q1, h⟩⟩⟩
theorem ahead_spec (ok : AOk a) {s l : Int} (hs : SetN 4 s) (l0 : 0 ≤ l) (l1 : l < a.1) : alter_ahead a s l = some (ahd a s l) := by
  have hn := ok.p.n1
  have key : ∀ (n : Nat) (t : Nat), t + n = a.2.2.1.length → alter_ahead_L3 a s l (setOf (fun q => Mt (ix (ix a.2.2.1 q) l) s) t) t = some (ahd a s l) := by
    intro n
    induction n with
    | zero =>
      intro t ht
      rw [alter_ahead_L3_eq]; unfold alter_ahead_L3_B
      rw [if_neg (by simp only [decide_eq_true_eq]; omega)]
      unfold ahd
      rw [show t = a.2.2.1.length by omega]
    | succ n ih =>
      intro t ht
      have hr := ok.row t (by omega) (by omega)
      have hl := ok.lst (q := t) (l := l) (by omega) (by omega) l0 l1
      have ih' := ih (t + 1) (by omega)
      rw [setOf_succ] at ih'
      rw [alter_ahead_L3_eq]; unfold alter_ahead_L3_B
      rw [if_pos (decide_eq_true (by omega)), G_pos (by omega), G_pos (by omega)]
      refine Tells.to (f5_tells hs hl.1 hl.2) (fun h => ?_) (fun h => ?_)
      · rw [if_pos h] at ih'
        rw [G_pos (by omega), G_pos (by unfold fits; omega)]; exact ih'
      · rw [if_neg h] at ih'
        rw [G_pos (by unfold fits; omega)]; exact ih'
  exact key a.2.2.1.length 0 (by omega)
theorem or_again {N : Nat} {s q : Int} (hs : SetN N s) (q0 : 0 ≤ q) (q1 : q < N) : ior .i64 (ior .i64 s (ishl .i64 1 q)) (ishl .i64 1 q) = ior .i64 s (ishl .i64 1 q) := by
  obtain ⟨h1, _, h2⟩ := hs.or q0 q1
  obtain ⟨h3, _, h4⟩ := h1.or q0 q1
  refine h3.ext h1 fun r r0 r1 => ?_
  rw [h4 r r0 r1, h2 r r0 r1]
  exact ⟨fun h => h.elim id .inr, .inl⟩
theorem rL11 (ok : AOk a) {s l q i out : Int} (hs : SetN 4 s) (q0 : 0 ≤ q) (q1 : q < a.2.2.1.length) (l0 : 0 ≤ l) (l1 : l < a.1) (i0 : 0 ≤ i) (i1 : i < (ix (ix a.2.2.1 q) l).length) {r7 : Int → Int → Option Int} :
    ∃ b : Bool, r26_Ahead_L11 a s l q out i r7 true 0 = r7 (if b = true then ior .i64 out (ishl .i64 1 q) else out) (i + 1) ∧ (b = true ↔ ∀ p ∈ ix (ix (ix a.2.2.1 q) l) i, bitP s p) := by
  have hl := ok.lst q0 q1 l0 l1
  have hc := hl.2 _ (ix_mem i0 i1)
  have key : ∀ (n : Nat) (j : Int) (b : Bool), 0 ≤ j → j + n = (ix (ix (ix a.2.2.1 q) l) i).length →
      ∃ b' : Bool, r26_Ahead_L11 a s l q out i r7 b j = r7 (if b' = true then ior .i64 out (ishl .i64 1 q) else out) (i + 1) ∧ (b' = true ↔ b = true ∧ ∀ t : Int, j ≤ t → t < (ix (ix (ix a.2.2.1 q) l) i).length → bitP s (ix (ix (ix (ix a.2.2.1 q) l) i) t)) := by
    intro n
    induction n with
    | zero =>
      intro j b j0 hj
      refine ⟨b, ?_, fun h => ⟨h, fun t t0 t1 => by omega⟩, fun h => h.1⟩
      rw [r26_Ahead_L11_eq]; unfold r26_Ahead_L11_B
      rw [G_pos (by omega), if_neg (by simp only [decide_eq_true_eq]; omega)]
      cases b with
      | true => rw [if_pos rfl, if_pos rfl, G_pos q0, G_pos (by unfold fits; omega)]
      | false => rw [if_neg (by decide), if_neg (by decide), G_pos (by unfold fits; omega)]
    | succ n ih =>
      intro j b j0 hj
      have hp := hc.2 _ (ix_mem j0 (by omega : j < (ix (ix (ix a.2.2.1 q) l) i).length))
      cases b with
      | true =>
        obtain ⟨b', e, hb⟩ := ih (j + 1) (decide (iand .i64 (ishr .i64 s (ix (ix (ix (ix a.2.2.1 q) l) i) j)) 1 = 1)) (by omega) (by omega)
        refine ⟨b', ?_, hb.trans ?_⟩
        · rw [← e]
          conv => lhs; rw [r26_Ahead_L11_eq]; unfold r26_Ahead_L11_B
          rw [G_pos (by omega), if_pos (decide_eq_true (by omega)), if_pos rfl, G_pos (by omega), G_pos (by omega), G_pos (by omega), G_pos (by unfold fits; omega)]
        · rw [decide_eq_true_eq]
          constructor
          · rintro ⟨h1, h2⟩
            refine ⟨rfl, fun t t0 t1 => ?_⟩
            by_cases c : t = j
            · rw [c]; exact h1
            · exact h2 t (by omega) t1
          · rintro ⟨_, h2⟩
            exact ⟨h2 j (Int.le_refl j) (by omega), fun t t0 t1 => h2 t (by omega) t1⟩
      | false =>
        obtain ⟨b', e, hb⟩ := ih (j + 1) false (by omega) (by omega)
        refine ⟨b', ?_, hb.trans ⟨fun h => (by cases h.1), fun h => (by cases h.1)⟩⟩
        rw [← e]
        conv => lhs; rw [r26_Ahead_L11_eq]; unfold r26_Ahead_L11_B
        rw [G_pos (by omega), if_pos (decide_eq_true (by omega)), if_neg (by decide), G_pos (by unfold fits; omega)]
  obtain ⟨b, e, hb⟩ := key _ 0 true (by omega) (Int.zero_add _)
  refine ⟨b, e, hb.trans ?_⟩
  rw [forall_ix (p := fun p => bitP s p)]
  exact ⟨fun h => h.2, fun h => ⟨rfl, h⟩⟩
theorem rL7 (ok : AOk a) {s l q : Int} (hs : SetN 4 s) (q0 : 0 ≤ q) (q1 : q < a.2.2.1.length) (l0 : 0 ≤ l) (l1 : l < a.1) {out : Int} (ho : SetN a.2.2.1.length out) {r3 : Int → Int → Option Int} :
    ∀ (n : Nat) (i : Int) (b : Bool), 0 ≤ i → i + n = (ix (ix a.2.2.1 q) l).length →
    ∃ b' : Bool, r26_Ahead_L7 a s l q r3 (if b = true then ior .i64 out (ishl .i64 1 q) else out) i = r3 (if b' = true then ior .i64 out (ishl .i64 1 q) else out) (q + 1) ∧ (b' = true ↔ b = true ∨ ∃ t : Int, i ≤ t ∧ t < (ix (ix a.2.2.1 q) l).length ∧ ∀ p ∈ ix (ix (ix a.2.2.1 q) l) t, bitP s p) := by
  have hn := ok.p.n1
  have hl := ok.lst q0 q1 l0 l1
  intro n
  induction n with
  | zero =>
    intro i b i0 hi
    refine ⟨b, ?_, .inl, fun h => h.elim id (fun ⟨t, t0, t1, _⟩ => by omega)⟩
    rw [r26_Ahead_L7_eq]; unfold r26_Ahead_L7_B
    rw [if_neg (by simp only [decide_eq_true_eq]; omega), G_pos (by unfold fits; omega)]
  | succ n ih =>
    intro i b i0 hi
    obtain ⟨b1, e1, hb1⟩ := rL11 ok (out := if b = true then ior .i64 out (ishl .i64 1 q) else out) hs q0 q1 l0 l1 i0 (by omega : i < (ix (ix a.2.2.1 q) l).length) (r7 := fun o i => r26_Ahead_L7 a s l q r3 o i)
    have e2 : (if b1 = true then ior .i64 (if b = true then ior .i64 out (ishl .i64 1 q) else out) (ishl .i64 1 q) else (if b = true then ior .i64 out (ishl .i64 1 q) else out)) = if (b || b1) = true then ior .i64 out (ishl .i64 1 q) else out := by
      cases b1 <;> cases b
      · rfl
      · rfl
      · rfl
      · exact or_again ho q0 q1
    obtain ⟨b', e, hb⟩ := ih (i + 1) (b || b1) (by omega) (by omega)
    refine ⟨b', ?_, hb.trans ?_⟩
    · rw [← e, ← e2]
      conv => lhs; rw [r26_Ahead_L7_eq]; unfold r26_Ahead_L7_B
      rw [if_pos (decide_eq_true (by omega)), e1]
    · rw [Bool.or_eq_true, hb1]
      constructor
      · rintro ((h | h) | ⟨t, t0, t1, h⟩)
        · exact .inl h
        · exact .inr ⟨i, Int.le_refl i, by omega, h⟩
        · exact .inr ⟨t, by omega, t1, h⟩
      · rintro (h | ⟨t, t0, t1, h⟩)
        · exact .inl (.inl h)
        · by_cases c : t = i
          · rw [c] at h; exact .inl (.inr h)
          · exact .inr ⟨t, by omega, t1, h⟩
theorem r26_Ahead_spec (ok : AOk a) {s l : Int} (hs : SetN 4 s) (l0 : 0 ≤ l) (l1 : l < a.1) : r26_Ahead a s l = some (ahd a s l) := by
  have hn := ok.p.n1
  have key : ∀ (n : Nat) (t : Nat), t + n = a.2.2.1.length → r26_Ahead_L3 a s l (setOf (fun q => Mt (ix (ix a.2.2.1 q) l) s) t) t = some (ahd a s l) := by
    intro n
    induction n with
    | zero =>
      intro t ht
      rw [r26_Ahead_L3_eq]; unfold r26_Ahead_L3_B
      rw [if_neg (by simp only [decide_eq_true_eq]; omega)]
      unfold ahd
      rw [show t = a.2.2.1.length by omega]
    | succ n ih =>
      intro t ht
      have hr := ok.row t (by omega) (by omega)
      have ih' := ih (t + 1) (by omega)
      rw [setOf_succ] at ih'
      rw [r26_Ahead_L3_eq]; unfold r26_Ahead_L3_B
      rw [if_pos (decide_eq_true (by omega)), G_pos (by omega), G_pos (by omega)]
      obtain ⟨b', e, hb⟩ := rL7 ok (q := (t : Int)) (r3 := fun o q => r26_Ahead_L3 a s l o q) hs (by omega) (by omega) l0 l1 (setOf_ok (N := a.2.2.1.length) (by omega) (fun q => Mt (ix (ix a.2.2.1 q) l) s) t (by omega)).1 (ix (ix a.2.2.1 (t : Int)) l).length 0 false (by omega) (Int.zero_add _)
      rw [if_neg (by decide)] at e
      rw [e]
      have hM : b' = true ↔ Mt (ix (ix a.2.2.1 (t : Int)) l) s := by
        rw [hb]
        refine Iff.trans ?_ (ex_ix (P := fun c : List Int => ∀ p ∈ c, bitP s p)).symm
        simp
      by_cases c : b' = true
      · rw [if_pos (hM.1 c)] at ih'
        rw [if_pos c]; exact ih'
      · rw [if_neg (fun h => c (hM.2 h))] at ih'
        rw [if_neg c]; exact ih'
  exact key a.2.2.1.length 0 (by omega)
/- the automaton of sets of sets -/
noncomputable def nxA (a : AL) (g l : Int) : Int := setOf (fun s => bitP g (ahd a s l)) 16
noncomputable def endA (a : AL) : Int := setOf (fun q => ix a.2.2.2.1 q = 1) a.2.2.1.length
noncomputable def mkA (a : AL) (g : Int) : Int := iand .i64 (ishr .i64 g (endA a)) 1
noncomputable def begA (a : AL) : Int := setOf (fun s => bitP s a.2.1) 16
theorem set16 (p : Int → Prop) : SetN 16 (setOf p 16) ∧ ∀ r : Int, 0 ≤ r → r < 16 → (bitP (setOf p 16) r ↔ p r) := by
  obtain ⟨h1, h2⟩ := setOf_ok (N := 16) (Nat.le_refl _) p 16 (Nat.le_refl _)
  exact ⟨h1, fun r r0 r1 => (h2 r r0 r1).trans ⟨fun h => h.2, fun h => ⟨r1, h⟩⟩⟩
theorem set4 {s : Int} (s0 : 0 ≤ s) (s1 : s < 16) : SetN 4 s := ⟨by omega, s.toNat, by omega, by omega⟩
theorem set4_b {s : Int} (h : SetN 4 s) : 0 ≤ s ∧ s < 16 := by have := h.b; omega
theorem endA_ok (ok : AOk a) : SetN a.2.2.1.length (endA a) ∧ SetN 4 (endA a) ∧ ∀ q : Int, 0 ≤ q → q < a.2.2.1.length → (bitP (endA a) q ↔ ix a.2.2.2.1 q = 1) := by
  have hn := ok.p.n1
  obtain ⟨h1, h2⟩ := setOf_ok (N := a.2.2.1.length) (by omega) (fun q => ix a.2.2.2.1 q = 1) a.2.2.1.length (Nat.le_refl _)
  exact ⟨h1, h1.up (by omega) (by omega), fun q q0 q1 => (h2 q q0 q1).trans ⟨fun h => h.2, fun h => ⟨q1, h⟩⟩⟩
theorem A_xok (ok : AOk a) : XOk (nxA a) (mkA a) a.1.toNat (begA a) 65536 (SetN 16) := by
  refine XOk.int (fun s hs => ?_) (set16 _).1 (fun s hs t t0 t1 => (set16 _).1) (fun s hs => ?_)
  · have := hs.b; omega
  · have he := set4_b (endA_ok ok).2.1
    exact bit01 hs he.1 (by omega)
theorem det1_spec (ok : AOk a) {g l : Int} (hg : SetN 16 g) (l0 : 0 ≤ l) (l1 : l < a.1) : alter_Det_1 g l a = some (nxA a g l) := by
  have key : ∀ (n : Nat) (t : Nat), t + n = 16 → alter_Det_1_L3 g l a (setOf (fun s => bitP g (ahd a s l)) t) t = some (nxA a g l) := by
    intro n
    induction n with
    | zero =>
      intro t ht
      rw [alter_Det_1_L3_eq]; unfold alter_Det_1_L3_B
      rw [if_neg (by simp only [decide_eq_true_eq]; omega)]
      unfold nxA
      rw [show t = 16 by omega]
    | succ n ih =>
      intro t ht
      have ih' := ih (t + 1) (by omega)
      rw [setOf_succ] at ih'
      rw [alter_Det_1_L3_eq]; unfold alter_Det_1_L3_B
      rw [if_pos (decide_eq_true (by omega))]
      refine bind_to (ahead_spec ok (set4 (by omega) (by omega)) l0 l1) ?_
      have hb := set4_b (ahd_ok ok t l).2.1
      rw [G_pos hb.1]
      by_cases c : iand .i64 (ishr .i64 g (ahd a t l)) 1 = 1
      · rw [if_pos (show bitP g (ahd a t l) from c)] at ih'
        rw [if_pos (decide_eq_true c), G_pos (by omega), G_pos (by unfold fits; omega)]; exact ih'
      · rw [if_neg (show ¬ bitP g (ahd a t l) from c)] at ih'
        rw [if_neg (by simpa using c), G_pos (by unfold fits; omega)]; exact ih'
  exact key 16 0 (by omega)
theorem det2_spec (ok : AOk a) {g : Int} : alter_Det_2 g (endA a) = some (mkA a g) := by
  unfold alter_Det_2
  rw [G_pos (set4_b (endA_ok ok).2.1).1]; rfl
theorem or_zero {N : Nat} {s q : Int} (hs : SetN N s) (q0 : 0 ≤ q) (q1 : q < 62) : ior .i64 s (ishl .i64 0 q) = s := by
  obtain ⟨hN, m, rfl, hm⟩ := hs
  have hp := pow_le16 hN
  obtain ⟨k, rfl⟩ : ∃ k : Nat, q = k := ⟨q.toNat, by omega⟩
  have h1 : ishl .i64 0 (k : Int) = ((0 : Nat) : Int) := by
    have := ishl_nat (m := 0) (k := k) (by omega) (by omega)
    rw [Nat.zero_shiftLeft] at this
    exact this
  rw [h1, ior_nat (by omega) (by omega), Nat.or_zero]
theorem ends_spec (ok : AOk a) : alter_ends a = some (endA a) := by
  have hn := ok.p.n1; have hmk := ok.p.mks
  have key : ∀ (n : Nat) (t : Nat), t + n = a.2.2.1.length → alter_ends_L3 a (setOf (fun q => ix a.2.2.2.1 q = 1) t) t = some (endA a) := by
    intro n
    induction n with
    | zero =>
      intro t ht
      rw [alter_ends_L3_eq]; unfold alter_ends_L3_B
      rw [if_neg (by simp only [decide_eq_true_eq]; omega)]
      unfold endA
      rw [show t = a.2.2.1.length by omega]
    | succ n ih =>
      intro t ht
      have ih' := ih (t + 1) (by omega)
      rw [setOf_succ] at ih'
      rw [alter_ends_L3_eq]; unfold alter_ends_L3_B
      rw [if_pos (decide_eq_true (by omega)), G_pos (by omega), G_pos (by omega), G_pos (by unfold fits; omega)]
      have hS := (setOf_ok (N := a.2.2.1.length) (by omega) (fun q => ix a.2.2.2.1 q = 1) t (by omega)).1
      rcases ok.mks t (by omega) (by omega) with h | h
      · rw [if_neg (by omega)] at ih'
        rw [h, or_zero hS (by omega) (by omega)]; exact ih'
      · rw [if_pos h] at ih'
        rw [h]; exact ih'
  exact key a.2.2.1.length 0 (by omega)
theorem alter_Det_spec (ok : AOk a) {n : Nat} (n2 : XGo (nxA a) (mkA a) a.1.toNat (begA a) n) (n3 : (xSt (nxA a) (mkA a) a.1.toNat (begA a) n).1.length = n) {o : Dt} (ho : det_Smallest (xAut (nxA a) (mkA a) a.1.toNat (begA a) n) = some o) :
    alter_Det a = some (if (3000 : Int) < (o.2.2.1.length : Int) then ((0, 0, [], [], ()), 7) else (o, 0)) := by
  have hn := ok.p.n1; have hl := ok.p.let1
  have key : ∀ (m : Nat) (t : Nat), t + m = 16 → alter_Det_L6 a (setOf (fun s => bitP s a.2.1) t) t = some (if (3000 : Int) < (o.2.2.1.length : Int) then ((0, 0, [], [], ()), 7) else (o, 0)) := by
    intro m
    induction m with
    | zero =>
      intro t ht
      rw [alter_Det_L6_eq]; unfold alter_Det_L6_B
      rw [if_neg (by simp only [decide_eq_true_eq]; omega)]
      refine bind_to (ends_spec ok) ?_
      have hp := det_Explore_prog (dec := id) (c := a) (y := endA a) (g := a.1) (fun x y _ _ h => h) (A_xok ok) (by omega) hl (by omega) (fun s hs t t0 t1 => det1_spec ok hs t0 t1) (fun s hs => det2_spec ok) n2 n3
      rw [show t = 16 by omega]
      refine bind_to hp (bind_to ho ?_)
      rw [if_neg (by simp)]
      by_cases c : (3000 : Int) < (o.2.2.1.length : Int)
      · rw [if_pos (by simpa using c), if_pos c]
      · rw [if_neg (by simpa using c), if_neg c]
    | succ m ih =>
      intro t ht
      have ih' := ih (t + 1) (by omega)
      rw [setOf_succ] at ih'
      rw [alter_Det_L6_eq]; unfold alter_Det_L6_B
      rw [if_pos (decide_eq_true (by omega)), G_pos ok.st.1]
      by_cases c : iand .i64 (ishr .i64 (t : Int) a.2.1) 1 = 1
      · rw [if_pos (show bitP (t : Int) a.2.1 from c)] at ih'
        rw [if_pos (decide_eq_true c), G_pos (by omega), G_pos (by unfold fits; omega)]; exact ih'
      · rw [if_neg (show ¬ bitP (t : Int) a.2.1 from c)] at ih'
        rw [if_neg (by simpa using c), G_pos (by unfold fits; omega)]; exact ih'
  unfold alter_Det
  refine bind_to alter_Check_spec ?_
  rw [show alE (a.1, a.2.1, a.2.2.1, a.2.2.2.1, ()) = 0 from aok_iff.2 ok, if_neg (by simp)]
  exact key 16 0 (by omega)
/- the reference's -/
/-- The table of numbers says where a set stands in the row. -/
structure Num (l : List Int) (nm : List Int) : Prop where
  len : nm.length = 65536
  at' : ∀ x : Int, 0 ≤ x → x < 65536 → ix nm x = match mfind l x with
    | some j => (j : Int) + 1
    | none => 0
theorem L24_spec (ok : AOk a) {i k : Int} {nm row next' : List Int} {r20 : Int → List Int → List Int → List Int → Option (Dt × Bool)} {g : Int} (hg : SetN 16 g) (i0 : 0 ≤ i) (i1 : i < row.length) (hi : ix row i = g) (k0 : 0 ≤ k) (k1 : k < a.1) : ∀ (m : Nat) (t : Nat), t + m = 16 →
    r26_Det_L24 a i k nm row next' r20 (setOf (fun s => bitP g (ahd a s k)) t) t = r26_Det_L24 a i k nm row next' r20 (nxA a g k) 16 := by
  intro m
  induction m with
  | zero =>
    intro t ht
    unfold nxA
    rw [show t = 16 by omega]; rfl
  | succ m ih =>
    intro t ht
    have ih' := ih (t + 1) (by omega)
    rw [setOf_succ] at ih'
    rw [← ih']
    conv => lhs; rw [r26_Det_L24_eq]; unfold r26_Det_L24_B
    rw [if_pos (decide_eq_true (by omega))]
    refine bind_to (r26_Ahead_spec ok (set4 (by omega) (by omega)) k0 k1) ?_
    have hb := set4_b (ahd_ok ok t k).2.1
    rw [G_pos (by omega), G_pos (by omega), G_pos hb.1, G_pos (by omega), G_pos (by unfold fits; omega), hi]
    have hS := (setOf_ok (N := 16) (Nat.le_refl _) (fun s => bitP g (ahd a s k)) t (by omega)).1
    by_cases c : bitP g (ahd a t k)
    · rw [if_pos c, show iand .i64 (ishr .i64 g (ahd a t k)) 1 = 1 from c]; rfl
    · rw [if_neg c, (bit_no hg hb.1 (by omega)).2 c, or_zero hS (by omega) (by omega)]; rfl
theorem ref_row (ok : AOk a) {i : Int} {l nm : List Int} {D2 : List (List Int)} {D3 : List Int} {o o1 : Int} {r16} (hl : LiOk 65536 (SetN 16) l) (hl2 : l.length ≤ 1500) (hnm : Num l nm) (i0 : 0 ≤ i) (i1 : i < l.length) (h2 : D2.length ≤ 65536) (h3 : D3.length ≤ 65536) :
    (∃ nm', (xRow (nxA a) (ix l i) l a.1.toNat).1.length ≤ 1500 ∧ Num (xRow (nxA a) (ix l i) l a.1.toNat).1 nm' ∧ r26_Det_L20 a (endA a) i o o1 D2 D3 r16 0 nm l [] = r16 (i + 1) nm' (xRow (nxA a) (ix l i) l a.1.toNat).1 o o1 (D2 ++ [(xRow (nxA a) (ix l i) l a.1.toNat).2]) (D3 ++ [mkA a (ix l i)])) ∨
      ∃ x, r26_Det_L20 a (endA a) i o o1 D2 D3 r16 0 nm l [] = some (x, true) := by
  have hx := A_xok ok
  have hs := hl.p _ (ix_mem i0 i1)
  have h1 := ok.p.let1
  have hend := set4_b (endA_ok ok).2.1
  have key : ∀ (f t : Nat) (nm : List Int), a.1.toNat - t = f → t ≤ a.1.toNat → (xRow (nxA a) (ix l i) l t).1.length ≤ 1500 → Num (xRow (nxA a) (ix l i) l t).1 nm →
      (∃ nm', (xRow (nxA a) (ix l i) l a.1.toNat).1.length ≤ 1500 ∧ Num (xRow (nxA a) (ix l i) l a.1.toNat).1 nm' ∧ r26_Det_L20 a (endA a) i o o1 D2 D3 r16 t nm (xRow (nxA a) (ix l i) l t).1 (xRow (nxA a) (ix l i) l t).2 = r16 (i + 1) nm' (xRow (nxA a) (ix l i) l a.1.toNat).1 o o1 (D2 ++ [(xRow (nxA a) (ix l i) l a.1.toNat).2]) (D3 ++ [mkA a (ix l i)])) ∨
      ∃ x, r26_Det_L20 a (endA a) i o o1 D2 D3 r16 t nm (xRow (nxA a) (ix l i) l t).1 (xRow (nxA a) (ix l i) l t).2 = some (x, true) := by
    intro f
    induction f with
    | zero =>
      intro t nm hf ht hlen hnm
      obtain rfl : t = a.1.toNat := by omega
      refine .inl ⟨nm, hlen, hnm, ?_⟩
      obtain ⟨g1, ⟨⟨x, hpre⟩, g2, _⟩⟩ := xRow_ok hx hs hl a.1.toNat (Nat.le_refl _)
      have hil : i < ((xRow (nxA a) (ix l i) l a.1.toNat).1.length : Int) := by rw [hpre, List.length_append]; omega
      have hix : ix (xRow (nxA a) (ix l i) l a.1.toNat).1 i = ix l i := by
        rw [hpre, ix_append_left i0 i1]
      rw [r26_Det_L20_eq]; unfold r26_Det_L20_B
      rw [if_neg (by simp; omega), hix]
      exact G_to (by unfold room; simp; omega) (G_to (by omega) (G_to (by omega) (G_to hend.1 (G_to (by unfold room; simp; omega) (G_to (by unfold fits; omega) rfl)))))
    | succ f ih =>
      intro t nm hf ht hlen hnm
      obtain ⟨g1, ⟨⟨x, hpre⟩, g2, _⟩⟩ := xRow_ok hx hs hl t (by omega)
      have hil : i < ((xRow (nxA a) (ix l i) l t).1.length : Int) := by rw [hpre, List.length_append]; omega
      have hix : ix (xRow (nxA a) (ix l i) l t).1 i = ix l i := by
        rw [hpre, ix_append_left i0 i1]
      have hP := hx.n _ hs (t : Int) (by omega) (by omega)
      have hPb := hP.b
      have hnl := hnm.len
      have ih' := ih (t + 1)
      rw [r26_Det_L20_eq]; unfold r26_Det_L20_B
      rw [if_pos (by simp; omega)]
      have e24 := L24_spec ok (i := i) (k := (t : Int)) (nm := nm) (row := (xRow (nxA a) (ix l i) l t).1) (next' := (xRow (nxA a) (ix l i) l t).2) (r20 := fun k nm row nx => r26_Det_L20 a (endA a) i o o1 D2 D3 r16 k nm row nx) hs i0 hil hix (by omega) (by omega) 16 0 (by omega)
      have e24' : r26_Det_L24 a i (t : Int) nm (xRow (nxA a) (ix l i) l t).1 (xRow (nxA a) (ix l i) l t).2 (r26_Det_L20 a (endA a) i o o1 D2 D3 r16) 0 0 = r26_Det_L24 a i (t : Int) nm (xRow (nxA a) (ix l i) l t).1 (xRow (nxA a) (ix l i) l t).2 (r26_Det_L20 a (endA a) i o o1 D2 D3 r16) (nxA a (ix l i) (t : Int)) 16 := e24
      rw [e24', r26_Det_L24_eq]; unfold r26_Det_L24_B
      have hat := hnm.at' (nxA a (ix l i) (t : Int)) (by omega) (by omega)
      rw [if_neg (by simp), G_pos (by omega), G_pos (by omega)]
      cases e : mfind (xRow (nxA a) (ix l i) l t).1 (nxA a (ix l i) (t : Int)) with
      | some j =>
        rw [xRow_some e] at ih'
        rw [e] at hat
        have hat : ix nm (nxA a (ix l i) (t : Int)) = (j : Int) + 1 := hat
        have hj := (mfind_ix e).1
        rw [if_neg (by simp; omega)]
        unfold r26_Det_J32
        rw [hat, G_pos (by omega), G_pos (by omega), G_pos (by unfold fits; omega), G_pos (by unfold room; simp; omega), G_pos (by unfold fits; omega)]
        have := ih' nm (by omega) (by omega) hlen hnm
        rw [show (j : Int) + 1 - 1 = j by omega]
        exact this
      | none =>
        rw [xRow_none e] at ih'
        rw [e] at hat
        have hat : ix nm (nxA a (ix l i) (t : Int)) = 0 := hat
        rw [if_pos (by simp; omega)]
        by_cases c : (xRow (nxA a) (ix l i) l t).1.length = 1500
        · right
          rw [if_pos (by simp; omega)]
          exact ⟨_, rfl⟩
        · have hn2 : Num ((xRow (nxA a) (ix l i) l t).1 ++ [nxA a (ix l i) (t : Int)]) (nm.set (nxA a (ix l i) (t : Int)).toNat (((xRow (nxA a) (ix l i) l t).1 ++ [nxA a (ix l i) (t : Int)]).length : Int)) := by
            refine ⟨by rw [List.length_set]; exact hnl, fun x x0 x1 => ?_⟩
            by_cases ex : nxA a (ix l i) (t : Int) = x
            · rw [← ex, ix_set_same (by omega) (by omega), mfind_new (mfind_none.1 e)]
              simp
            · rw [ix_set_ne (by omega) x0 ex, hnm.at' x x0 x1]
              have : mfind ((xRow (nxA a) (ix l i) l t).1 ++ [nxA a (ix l i) (t : Int)]) x = mfind (xRow (nxA a) (ix l i) l t).1 x := by
                cases e2 : mfind (xRow (nxA a) (ix l i) l t).1 x with
                | some j => exact mfind_app _ e2
                | none =>
                  refine mfind_none.2 fun hm => ?_
                  rcases List.mem_append.1 hm with hm | hm
                  · exact mfind_none.1 e2 hm
                  · exact ex (List.mem_singleton.1 hm).symm
              rw [this]
          rw [if_neg (by simp; omega), G_pos (by unfold room; simp; omega), G_pos (by omega), G_pos (by omega)]
          unfold r26_Det_J32
          rw [ix_set_same (by omega) (by omega), List.length_set, G_pos (by omega), G_pos (by omega), G_pos (by unfold fits; simp; omega), G_pos (by unfold room; simp; omega), G_pos (by unfold fits; omega)]
          have := ih' _ (by omega) (by omega) (by simp; omega) hn2
          rw [show (((xRow (nxA a) (ix l i) l t).1 ++ [nxA a (ix l i) (t : Int)]).length : Int) - 1 = ((xRow (nxA a) (ix l i) l t).1.length : Int) by rw [List.length_append, List.length_singleton]; omega]
          exact this
  exact key _ 0 nm rfl (by omega) hl2 hnm
theorem ref_all (ok : AOk a) {n : Nat} (hg : XGo (nxA a) (mkA a) a.1.toNat (begA a) n) (hn : (xSt (nxA a) (mkA a) a.1.toNat (begA a) n).1.length = n) (hnB : n ≤ 65536) {o : Dt} (ho : r3_Least (xAut (nxA a) (mkA a) a.1.toNat (begA a) n) = some o) :
    (n ≤ 1500 ∧ r26_Det a = some (o, false)) ∨ ∃ x, r26_Det a = some (x, true) := by
  have hx := A_xok ok
  have h1 := ok.p.let1
  have hpn := ok.p.n1; have hmk := ok.p.mks
  have key : ∀ (f i : Nat) (nm : List Int), n - i = f → i ≤ n → (xSt (nxA a) (mkA a) a.1.toNat (begA a) i).1.length ≤ 1500 → Num (xSt (nxA a) (mkA a) a.1.toNat (begA a) i).1 nm →
      (n ≤ 1500 ∧ r26_Det_L16 a (endA a) i nm (xSt (nxA a) (mkA a) a.1.toNat (begA a) i).1 a.1 0 (xSt (nxA a) (mkA a) a.1.toNat (begA a) i).2.1 (xSt (nxA a) (mkA a) a.1.toNat (begA a) i).2.2 = some (o, false)) ∨
      ∃ x, r26_Det_L16 a (endA a) i nm (xSt (nxA a) (mkA a) a.1.toNat (begA a) i).1 a.1 0 (xSt (nxA a) (mkA a) a.1.toNat (begA a) i).2.1 (xSt (nxA a) (mkA a) a.1.toNat (begA a) i).2.2 = some (x, true) := by
    intro f
    induction f with
    | zero =>
      intro i nm hf hi hlen hnm
      obtain rfl : i = n := by omega
      refine .inl ⟨by omega, ?_⟩
      rw [r26_Det_L16_eq]; unfold r26_Det_L16_B
      rw [if_neg (by simp; omega)]
      have e : (a.1, (0 : Int), (xSt (nxA a) (mkA a) a.1.toNat (begA a) i).2.1, (xSt (nxA a) (mkA a) a.1.toNat (begA a) i).2.2, ()) = xAut (nxA a) (mkA a) a.1.toNat (begA a) i := by
        unfold xAut; rw [Int.toNat_of_nonneg (by omega)]
      rw [e]
      exact bind_to ho rfl
    | succ f ih =>
      intro i nm hf hi hlen hnm
      obtain ⟨g1, g2, g3⟩ := xSt_ok hx i (fun k hk => hg k (by omega))
      have hlt := hg i (by omega)
      have hr := g3.r
      have hmm := g3.m
      have ih' := ih (i + 1)
      rw [r26_Det_L16_eq]; unfold r26_Det_L16_B
      rw [if_pos (by simp; omega)]
      rcases ref_row (i := (i : Int)) (nm := nm) (D2 := (xSt (nxA a) (mkA a) a.1.toNat (begA a) i).2.1) (D3 := (xSt (nxA a) (mkA a) a.1.toNat (begA a) i).2.2) (o := a.1) (o1 := 0) (r16 := r26_Det_L16 a (endA a)) ok g1 hlen hnm (by omega) (by omega) (by omega) (by omega) with ⟨nm', q1, q2, q3⟩ | q
      · rw [q3]
        exact ih' nm' (by omega) (by omega) q1 q2
      · exact .inr q
  have hbg := (set16 (fun s => bitP s a.2.1)).1.b
  have e3 : ∀ (m t : Nat), t + m = a.2.2.1.length → r26_Det_L3 a (setOf (fun q => ix a.2.2.2.1 q = 1) t) t = r26_Det_L8 a (endA a) 0 0 := by
    intro m
    induction m with
    | zero =>
      intro t ht
      rw [r26_Det_L3_eq]; unfold r26_Det_L3_B
      rw [if_neg (by simp only [decide_eq_true_eq]; omega)]
      unfold endA
      rw [show t = a.2.2.1.length by omega]
    | succ m ih =>
      intro t ht
      have ih' := ih (t + 1) (by omega)
      rw [setOf_succ] at ih'
      rw [r26_Det_L3_eq]; unfold r26_Det_L3_B
      rw [if_pos (decide_eq_true (by omega)), G_pos (by omega), G_pos (by omega), G_pos (by unfold fits; omega)]
      have hS := (setOf_ok (N := a.2.2.1.length) (by omega) (fun q => ix a.2.2.2.1 q = 1) t (by omega)).1
      rcases ok.mks t (by omega) (by omega) with h | h
      · rw [if_neg (by omega)] at ih'
        rw [h, or_zero hS (by omega) (by omega)]; exact ih'
      · rw [if_pos h] at ih'
        rw [h]; exact ih'
  have e8 : ∀ (m t : Nat), t + m = 16 → r26_Det_L8 a (endA a) (setOf (fun s => bitP s a.2.1) t) t = r26_Det_L8 a (endA a) (begA a) 16 := by
    intro m
    induction m with
    | zero =>
      intro t ht
      unfold begA
      rw [show t = 16 by omega]; rfl
    | succ m ih =>
      intro t ht
      have ih' := ih (t + 1) (by omega)
      rw [setOf_succ] at ih'
      rw [← ih']
      conv => lhs; rw [r26_Det_L8_eq]; unfold r26_Det_L8_B
      rw [if_pos (decide_eq_true (by omega)), G_pos ok.st.1, G_pos (by omega), G_pos (by unfold fits; omega)]
      have hS := (setOf_ok (N := 16) (Nat.le_refl _) (fun s => bitP s a.2.1) t (by omega)).1
      by_cases c : bitP (t : Int) a.2.1
      · rw [if_pos c, show iand .i64 (ishr .i64 (t : Int) a.2.1) 1 = 1 from c]; rfl
      · rw [if_neg c, (bit_no (set4 (s := (t : Int)) (by omega) (by omega)) ok.st.1 (by have := ok.st; omega)).2 c, or_zero hS (by omega) (by omega)]; rfl
  unfold r26_Det
  have h3 := e3 a.2.2.1.length 0 (by omega)
  have h8 := e8 16 0 (by omega)
  have h3' : r26_Det_L3 a 0 0 = r26_Det_L8 a (endA a) 0 0 := h3
  have h8' : r26_Det_L8 a (endA a) 0 0 = r26_Det_L8 a (endA a) (begA a) 16 := h8
  rw [h3', h8', r26_Det_L8_eq]; unfold r26_Det_L8_B
  have hbb : 0 ≤ begA a ∧ begA a < 65536 := by unfold begA; omega
  obtain ⟨Z, hZ⟩ : ∃ Z : Nat, (65536 : Int).toNat = Z := ⟨_, rfl⟩
  have hZ2 : Z = 65536 := by omega
  rw [if_neg (by simp), G_pos (by unfold mkOK; omega), hZ, List.length_replicate, G_pos (by omega), G_pos (by omega)]
  refine key n 0 _ rfl (by omega) (by simp [xSt]) ⟨by rw [List.length_set, List.length_replicate]; exact hZ2, fun x x0 x1 => ?_⟩
  show ix ((List.replicate Z (0 : Int)).set (begA a).toNat 1) x = match mfind [begA a] x with
    | some j => (j : Int) + 1
    | none => 0
  by_cases ex : begA a = x
  · rw [← ex, ix_set_same hbb.1 (by rw [List.length_replicate]; omega), mfind_hd]; rfl
  · rw [ix_set_ne hbb.1 x0 ex, mfind_none.2 (by simp; exact fun h => ex h.symm)]
    simp only [ix, List.getD_eq_getElem?_getD, List.getElem?_replicate]
    split <;> rfl
/- what is accepted -/
noncomputable def bst (a : AL) : List Int → Int → Int
  | [], s => s
  | l :: w, s => ahd a (bst a w s) l
theorem bst_set (ok : AOk a) : ∀ (w : List Int) {s : Int}, SetN 4 s → SetN 4 (bst a w s)
  | [], s, h => h
  | l :: w, s, h => (ahd_ok ok (bst a w s) l).2.1
theorem fold_bst (ok : AOk a) {s : Int} (hs : SetN 4 s) : ∀ (w : List Int) (g : Int), bitP (w.foldl (nxA a) g) s ↔ bitP g (bst a w s)
  | [], g => Iff.rfl
  | l :: w, g => by
    show bitP (w.foldl (nxA a) (nxA a g l)) s ↔ _
    rw [fold_bst ok hs w]
    have hb := set4_b (bst_set ok w hs)
    exact (set16 _).2 _ hb.1 hb.2
theorem bst_acc (ok : AOk a) : ∀ (w : List Int) (q : Int), (∀ x ∈ w, 0 ≤ x ∧ x < a.1) → 0 ≤ q → q < a.2.2.1.length → (bitP (bst a w (endA a)) q ↔ Acc a w q)
  | [], q, _, q0, q1 => (endA_ok ok).2.2 q q0 q1
  | l :: w, q, hw, q0, q1 => by
    have hl := hw l (List.mem_cons_self ..)
    have hw' : ∀ x ∈ w, 0 ≤ x ∧ x < a.1 := fun x hx => hw x (List.mem_cons_of_mem _ hx)
    have hs := ok.sml q l q0 q1 hl.1 hl.2
    rw [Acc_cons]
    refine ((ahd_ok ok (bst a w (endA a)) l).2.2 q q0 q1).trans ?_
    unfold Mt
    constructor
    · rintro ⟨c, hc, h⟩
      exact ⟨c, hc, fun p hp => by have hr := (hs.2 c hc).2 p hp; exact (bst_acc ok w p hw' hr.1 hr.2).1 (h p hp)⟩
    · rintro ⟨c, hc, h⟩
      exact ⟨c, hc, fun p hp => by have hr := (hs.2 c hc).2 p hp; exact (bst_acc ok w p hw' hr.1 hr.2).2 (h p hp)⟩
theorem A_acc (ok : AOk a) {w : List Int} (hw : ∀ x ∈ w, 0 ≤ x ∧ x < a.1) : mkA a (w.foldl (nxA a) (begA a)) = 1 ↔ Acc a w a.2.1 := by
  have he := (endA_ok ok).2.1
  have hb := set4_b (bst_set ok w he)
  show bitP (w.foldl (nxA a) (begA a)) (endA a) ↔ _
  rw [fold_bst ok he, ← bst_acc ok w a.2.1 hw ok.st.1 ok.st.2]
  exact (set16 _).2 _ hb.1 hb.2
end
theorem law_true (a : AL) (w : List Int) : law_AlterDet a w = some true := by
  unfold law_AlterDet
  by_cases he : alE a = 0
  · have ok := aok_iff.1 he
    have hl := ok.p.let1
    have hx := A_xok ok
    obtain ⟨n, n1, n2, n3⟩ := xSt_stops hx
    have hd := xAut_ok hx (by omega) (by omega) n2 n3
    obtain ⟨o, C, Q, K, g1, g2, g3⟩ := least_both hd
    obtain ⟨s1, s2, s3⟩ := g1.sizes hd
    obtain ⟨_, _, x3⟩ := xSt_ok hx n n2
    have htd := alter_Det_spec ok n2 n3 g2
    have hpos : 0 < n := by
      refine Nat.pos_of_ne_zero fun e => ?_
      subst e
      simp [xSt] at n3
    have hno : ∀ d : Dt, (d.2.2.1.length : Int) ≤ 65536 → (d.2.2.2.1.length : Int) ≤ 65536 → ∃ v, law_noDet d = some v := fun d h1 h2 => by
      unfold law_noDet
      split
      · split
        · rw [G_pos (by unfold fits; omega)]; exact ⟨_, rfl⟩
        · exact ⟨_, rfl⟩
      · exact ⟨_, rfl⟩
    refine bind_to htd ?_
    obtain ⟨v, hv⟩ := hno (if (3000 : Int) < (o.2.2.1.length : Int) then (((0 : Int), (0 : Int), ([] : List (List Int)), ([] : List Int), ()), (7 : Int)) else (o, 0)).1 (by split <;> simp <;> omega) (by split <;> simp <;> omega)
    refine bind_to hv (bind_to r26_Check_spec ?_)
    rw [show alE (a.1, a.2.1, a.2.2.1, a.2.2.2.1, ()) = 0 from he, if_neg (by simp)]
    rcases ref_all ok n2 n3 n1 g3 with ⟨hn, hr⟩ | ⟨x, hr⟩
    · refine bind_to hr ?_
      have hK : (o.2.2.1.length : Int) ≤ 1500 := by
        have w1 := g1.part.q.le g1.fin
        have w2 := g1.fin.le
        have w3 := g1.all
        have w4 := x3.r
        have w5 : (xAut (nxA a) (mkA a) a.1.toNat (begA a) n).2.2.1.length = n := w4
        omega
      rw [if_neg (by simp), if_neg (show ¬ (3000 : Int) < (o.2.2.1.length : Int) by omega)]
      refine bind_to (r3_Same_refl (d := o) (by omega) (by omega) (fun r hr => by have := s3 r hr; omega)) ?_
      rw [if_neg (by simp), if_neg (by simp)]
      refine bind_to r1_May_spec ?_
      by_cases hw : mayE a.1 w = 0
      · obtain ⟨_, hlen, hlet⟩ := mayE_zero hw
        rw [if_neg (by simpa using hw)]
        obtain ⟨b, hrun, hb⟩ := r26_Accepts_tells ok hlet hlen
        refine bind_to hrun ?_
        have hlet' : ∀ x ∈ w, 0 ≤ x ∧ x < (xAut (nxA a) (mkA a) a.1.toNat (begA a) n).1 := fun x ha => by
          have := hlet x ha
          show 0 ≤ x ∧ x < (a.1.toNat : Int)
          omega
        obtain ⟨k0, k1, k2⟩ := least_mark hd g1 hlet'
        obtain ⟨w1, w2, w3⟩ := xAut_walk hx n2 n3 w 0 (by omega) (by omega) hlet'
        have em := x3.mark _ w1 w2
        have hmark : ix o.2.2.2.1 (wlk o.2.2.1 o.2.1 w) = mkA a (w.foldl (nxA a) (begA a)) := by
          rw [k2]
          show ix (xSt (nxA a) (mkA a) a.1.toNat (begA a) n).2.2 (wlk (xAut (nxA a) (mkA a) a.1.toNat (begA a) n).2.2.1 0 w) = _
          rw [em, w3, x3.z]
        have hst : 0 ≤ o.2.1 ∧ o.2.1 < o.2.2.1.length := by
          have w1 := g1.st
          have w3 := g1.all
          have w4 : 0 < o.2.2.1.length := by omega
          omega
        have hl3 := g1.part.l3
        have hall := g1.all
        have hLo : o.1 = a.1 := by rw [g1.let1]; show (a.1.toNat : Int) = a.1; omega
        refine bind_to (y := decide (mkA a (w.foldl (nxA a) (begA a)) = 1)) ?_ ?_
        · unfold r3_Accepts
          refine bind_to (r3_After_spec (d := o) g1.tab' (fun x ha => by rw [hLo]; exact hlet x ha) (by omega) hst.1 hst.2) ?_
          rw [hmark]
          exact G_to (show 0 ≤ wlk o.2.2.1 o.2.1 w ∧ wlk o.2.2.1 o.2.1 w < (o.2.2.2.1.length : Int) by omega) rfl
        · have := hb.trans (A_acc ok hlet).symm
          congr 1
          rw [decide_eq_true_eq, Bool.eq_iff_iff, decide_eq_true_eq]
          exact this
      · rw [if_pos (by simpa using hw)]
    · refine bind_to hr ?_
      rw [if_pos rfl]
  · have htd : alter_Det a = some ((0, 0, [], [], ()), alE a) := by
      unfold alter_Det
      refine bind_to alter_Check_spec ?_
      rw [show alE (a.1, a.2.1, a.2.2.1, a.2.2.2.1, ()) = alE a from rfl, if_pos (by simpa using he)]
    have hnn : law_noDet ((0 : Int), (0 : Int), ([] : List (List Int)), ([] : List Int), ()) = some true := by
      unfold law_noDet
      rw [if_pos (by simp), if_pos (by simp), G_pos (by unfold fits; simp)]
      simp
    refine bind_to htd (bind_to hnn (bind_to r26_Check_spec ?_))
    rw [show alE (a.1, a.2.1, a.2.2.1, a.2.2.2.1, ()) = alE a from rfl, if_pos (by simpa using he), if_pos (by simp)]

end Go.Proofs.Ytbmagobehiemeaa.alterDetW
