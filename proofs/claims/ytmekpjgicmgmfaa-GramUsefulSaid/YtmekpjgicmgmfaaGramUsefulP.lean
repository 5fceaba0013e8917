/- The law 'GramUseful' of the plain functions. -/
import Derived.Test.YtmekpjgicmgmfaaGramUsefulD
set_option maxHeartbeats 1000000
set_option maxRecDepth 20000
set_option linter.unusedSimpArgs false
set_option linter.unusedVariables false
set_option linter.unusedSectionVars false
namespace Go.Proofs.Ytmekpjgicmgmfaa.gramUsefulW
open Go Go.Ab
/-- The answer is yes just if P. -/
def Tells (o : Option Bool) (P : Prop) : Prop := ∃ b, o = some b ∧ (b = true ↔ P)
theorem Tells.of {b : Bool} {P : Prop} (h : b = true ↔ P) : Tells (some b) P := ⟨b, rfl, h⟩
theorem Tells.dec {P Q : Prop} [Decidable P] (h : P ↔ Q) : Tells (some (decide P)) Q := ⟨_, rfl, by simpa using h⟩
theorem Tells.iff {o : Option Bool} {P Q : Prop} (h : Tells o P) (k : P ↔ Q) : Tells o Q := let ⟨b, h1, h2⟩ := h; ⟨b, h1, h2.trans k⟩
theorem Tells.eq {o : Option Bool} {P : Prop} [Decidable P] (h : Tells o P) : o = some (decide P) := by
 obtain ⟨b, rfl, hb⟩ := h
 by_cases hp : P
 ·simp [hp, hb.2 hp]
 ·have : b = false := by cases b; rfl; exact absurd (hb.1 rfl) hp
  simp [hp, this]
theorem Tells.to {R : Type} {o : Option Bool} {P : Prop} {k1 k2 x : Option R} (h : Tells o P) (h1 : P → k1 = x) (h2 : ¬ P → k2 = x) : (o.bind fun y => if y = true then k1 else k2) = x := by
 obtain ⟨b, rfl, hb⟩ := h
 refine bind_to rfl ?_
 cases b
 ·exact h2 fun hp => by simpa using hb.2 hp
 ·exact h1 (hb.1 rfl)
theorem Tells.bind {R : Type} {o : Option Bool} {P : Prop} {k : Bool → Option R} {x : Option R} (h : Tells o P) (h1 : ∀ b, (b = true ↔ P) → k b = x) : o.bind k = x := by
 obtain ⟨b, rfl, hb⟩ := h
 exact h1 b hb
section
variable {α C : Type} [Inhabited α]
theorem ex_ix {l : List α} {P : α → Prop} : (∃ x ∈ l, P x) ↔ ∃ i : Int, 0 ≤ i ∧ i < l.length ∧ P (ix l i) := by
 constructor
 ·rintro ⟨x, hx, hp⟩
  obtain ⟨i, hi, rfl⟩ := List.mem_iff_getElem.1 hx
  refine ⟨i, by omega, by omega, ?_⟩
  rwa [ix_eq (by omega) (by omega)]
 ·rintro ⟨i, h0, h1, hp⟩
  exact ⟨_, ix_mem h0 h1, hp⟩
theorem index_loop {s : List α} {f : α → Option Bool} {L : Int → Option Int} {P : α → Prop} (hs : s.length ≤ 4611686018427387904)
  (hL : ∀ t, L t = if decide (t < (s.length : Int)) = true then G (0 ≤ t ∧ t < (s.length : Int)) ((f (ix s t)).bind fun y => if y = true then some t else G (fits (t + 1)) (L (t + 1))) else some (-1))
  (hf : ∀ x ∈ s, Tells (f x) (P x)) : ∀ (n : Nat) (t : Int), 0 ≤ t → t ≤ s.length → (s.length - t).toNat = n →
   ∃ i, L t = some i ∧ ((i = -1 ∧ ∀ j : Int, t ≤ j → j < s.length → ¬ P (ix s j)) ∨ (t ≤ i ∧ i < s.length ∧ P (ix s i) ∧ ∀ j : Int, t ≤ j → j < i → ¬ P (ix s j))) := by
 intro n
 induction n with
 | zero =>
  intro t h0 h1 hn
  refine ⟨-1, ?_, .inl ⟨rfl, fun j a b => by omega⟩⟩
  rw [hL, if_neg (by simp; omega)]
 | succ n ih =>
  intro t h0 h1 hn
  rw [hL, if_pos (by simp; omega), G_pos (by omega)]
  obtain ⟨b, hb, hbp⟩ := hf _ (ix_mem h0 (by omega : t < s.length))
  rw [hb]
  cases b with
  | true => exact ⟨t, rfl, .inr ⟨by omega, by omega, hbp.1 rfl, fun j a b => by omega⟩⟩
  | false =>
   have hnp : ¬ P (ix s t) := fun hp => by simpa using hbp.2 hp
   obtain ⟨i, hi, hc⟩ := ih (t + 1) (by omega) (by omega) (by omega)
   refine ⟨i, ?_, ?_⟩
   ·refine (if_neg (by simp) : (if false = true then some t else G (fits (t + 1)) (L (t + 1))) = _).trans ?_
    rw [G_pos (by unfold fits; omega), hi]
   ·rcases hc with ⟨h2, h3⟩ | ⟨h2, h3, h4, h5⟩
    ·refine .inl ⟨h2, fun j a b => ?_⟩
     by_cases e : j = t
     ·rw [e]; exact hnp
     ·exact h3 j (by omega) b
    ·refine .inr ⟨by omega, h3, h4, fun j a b => ?_⟩
     by_cases e : j = t
     ·rw [e]; exact hnp
     ·exact h5 j (by omega) b
theorem contains_tells {s : List α} {f : α → Option Bool} {L : Int → Option Int} {P : α → Prop}
  (hL : ∀ t, L t = if decide (t < (s.length : Int)) = true then G (0 ≤ t ∧ t < (s.length : Int)) ((f (ix s t)).bind fun y => if y = true then some t else G (fits (t + 1)) (L (t + 1))) else some (-1))
  (hs : s.length ≤ 4611686018427387904) (hf : ∀ x ∈ s, Tells (f x) (P x)) : Tells ((L 0).bind fun y => some (decide ((0 : Int) ≤ y))) (∃ x ∈ s, P x) := by
 obtain ⟨i, hi, hc⟩ := index_loop hs hL hf _ 0 (by omega) (by omega) rfl
 rw [hi]
 refine ⟨decide (0 ≤ i), rfl, ?_⟩
 rw [decide_eq_true_iff, ex_ix]
 rcases hc with ⟨h2, h3⟩ | ⟨h2, h3, h4, h5⟩
 ·constructor
  ·intro h; omega
  ·rintro ⟨j, h0, h1, hp⟩; exact absurd hp (h3 j h0 h1)
 ·exact ⟨fun _ => ⟨i, by omega, h3, h4⟩, fun _ => by omega⟩
/-- .. of what carries along what it reads. -/
theorem contains_tells2 {s : List α} {c : C} {f : α → C → Option (Bool × C)} {L : Int → C → Option (Int × C)} {P : α → Prop}
  (hL : ∀ t c, L t c = if decide (t < (s.length : Int)) = true then G (0 ≤ t ∧ t < (s.length : Int)) ((f (ix s t) c).bind fun y => if y.1 = true then some (t, y.2) else G (fits (t + 1)) (L (t + 1) y.2)) else some (-1, c))
  (hs : s.length ≤ 4611686018427387904) (hf : ∀ x ∈ s, ∃ b, f x c = some (b, c) ∧ (b = true ↔ P x)) : ∃ b, ((L 0 c).bind fun y => some (decide ((0 : Int) ≤ y.1), y.2)) = some (b, c) ∧ (b = true ↔ ∃ x ∈ s, P x) := by
 have key : ∀ (n : Nat) (t : Int), 0 ≤ t → t ≤ s.length → (s.length - t).toNat = n →
   ∃ i, L t c = some (i, c) ∧ ((i = -1 ∧ ∀ j : Int, t ≤ j → j < s.length → ¬ P (ix s j)) ∨ (t ≤ i ∧ i < s.length ∧ P (ix s i))) := by
  intro n
  induction n with
  | zero =>
   intro t h0 h1 hn
   refine ⟨-1, ?_, .inl ⟨rfl, fun j a b => by omega⟩⟩
   rw [hL, if_neg (by simp; omega)]
  | succ n ih =>
   intro t h0 h1 hn
   rw [hL, if_pos (by simp; omega), G_pos (by omega)]
   obtain ⟨b, hb, hbp⟩ := hf _ (ix_mem h0 (by omega : t < s.length))
   rw [hb]
   cases b with
   | true => exact ⟨t, rfl, .inr ⟨by omega, by omega, hbp.1 rfl⟩⟩
   | false =>
    have hnp : ¬ P (ix s t) := fun hp => by simpa using hbp.2 hp
    obtain ⟨i, hi, hc⟩ := ih (t + 1) (by omega) (by omega) (by omega)
    refine ⟨i, ?_, ?_⟩
    ·refine (if_neg (by simp) : (if false = true then some (t, c) else G (fits (t + 1)) (L (t + 1) c)) = _).trans ?_
     rw [G_pos (by unfold fits; omega), hi]
    ·rcases hc with ⟨h2, h3⟩ | ⟨h2, h3, h4⟩
     ·refine .inl ⟨h2, fun j a b => ?_⟩
      by_cases e : j = t
      ·rw [e]; exact hnp
      ·exact h3 j (by omega) b
     ·exact .inr ⟨by omega, h3, h4⟩
 obtain ⟨i, hi, hc⟩ := key _ 0 (by omega) (by omega) rfl
 rw [hi]
 refine ⟨decide (0 ≤ i), rfl, ?_⟩
 rw [decide_eq_true_iff, ex_ix]
 rcases hc with ⟨h2, h3⟩ | ⟨h2, h3, h4⟩
 ·constructor
  ·intro h; omega
  ·rintro ⟨j, h0, h1, hp⟩; exact absurd hp (h3 j h0 h1)
 ·exact ⟨fun _ => ⟨i, by omega, h3, h4⟩, fun _ => by omega⟩
end
/-- A loop that looks for the first fault. -/
theorem scan_to {R : Type} {len : Int} {L : Int → Option R} {bad : Int → Prop} {x : Option R} {lo : Int} (h0 : lo ≤ len)
  (hs : ∀ t, lo ≤ t → t < len → (bad t → L t = x) ∧ (¬ bad t → L t = L (t + 1))) (hf : (∀ t, lo ≤ t → t < len → ¬ bad t) → L len = x) : L lo = x := by
 have key : ∀ (n : Nat) (t : Int), lo ≤ t → t ≤ len → (len - t).toNat = n → (∀ j, lo ≤ j → j < t → ¬ bad j) → L t = x := by
  intro n
  induction n with
  | zero =>
   intro t h1 h2 hn h
   obtain rfl : t = len := by omega
   exact hf h
  | succ n ih =>
   intro t h1 h2 hn h
   by_cases hb : bad t
   ·exact (hs t h1 (by omega)).1 hb
   ·rw [(hs t h1 (by omega)).2 hb]
    refine ih (t + 1) (by omega) (by omega) (by omega) fun j a b => ?_
    by_cases e : j = t
    ·rw [e]; exact hb
    ·exact h j a (by omega)
 exact key _ lo (Int.le_refl _) h0 rfl (fun j a b => by omega)
/-- A loop that counts, with a state. -/
theorem fold_to {R S : Type} {len : Int} {L : Int → S → Option R} {f : Int → S → S} {lo : Int} {I : Int → S → Prop} {s : S} (h0 : lo ≤ len) (hI : I lo s)
  (hs : ∀ t s, lo ≤ t → t < len → I t s → L t s = L (t + 1) (f t s) ∧ I (t + 1) (f t s)) : ∃ s', I len s' ∧ L lo s = L len s' := by
 have key : ∀ (n : Nat) (t : Int) (s : S), lo ≤ t → t ≤ len → (len - t).toNat = n → I t s → ∃ s', I len s' ∧ L t s = L len s' := by
  intro n
  induction n with
  | zero =>
   intro t s h1 h2 hn h
   obtain rfl : t = len := by omega
   exact ⟨s, h, rfl⟩
  | succ n ih =>
   intro t s h1 h2 hn h
   obtain ⟨e, h3⟩ := hs t s h1 (by omega) h
   obtain ⟨s', h4, h5⟩ := ih (t + 1) _ (by omega) (by omega) (by omega) h3
   exact ⟨s', h4, e.trans h5⟩
 exact key _ lo s (Int.le_refl _) h0 rfl hI

/-! ### passes over candidates, round and round till nothing is put in -/
theorem pass_to {R S : Type} {L : Bool → Int → S → Option R} {N : Int} {P : S → Prop} {cl : Int → S → Prop} {μ : S → Nat} (hN : 0 ≤ N)
  (hs : ∀ b t s, 0 ≤ t → t < N → P s → ∃ b' s', L b t s = L b' (t + 1) s' ∧ P s' ∧ ((b' = b ∧ s' = s ∧ cl t s) ∨ (b' = true ∧ μ s' < μ s))) :
  ∀ b s, P s → ∃ b' s', L b 0 s = L b' N s' ∧ P s' ∧ ((b' = b ∧ s' = s ∧ ∀ t, 0 ≤ t → t < N → cl t s) ∨ (b' = true ∧ μ s' < μ s)) := by
 have key : ∀ (n : Nat) (t : Int) b s, 0 ≤ t → t ≤ N → (N - t).toNat = n → P s → ∃ b' s', L b t s = L b' N s' ∧ P s' ∧ ((b' = b ∧ s' = s ∧ ∀ j, t ≤ j → j < N → cl j s) ∨ (b' = true ∧ μ s' < μ s)) := by
  intro n
  induction n with
  | zero =>
   intro t b s h0 h1 hn hp
   obtain rfl : t = N := by omega
   exact ⟨b, s, rfl, hp, .inl ⟨rfl, rfl, fun j a b => by omega⟩⟩
  | succ n ih =>
   intro t b s h0 h1 hn hp
   obtain ⟨b1, s1, e1, p1, c1⟩ := hs b t s h0 (by omega) hp
   obtain ⟨b2, s2, e2, p2, c2⟩ := ih (t + 1) b1 s1 (by omega) (by omega) (by omega) p1
   refine ⟨b2, s2, e1.trans e2, p2, ?_⟩
   rcases c1 with ⟨rfl, rfl, hc⟩ | ⟨rfl, hm⟩
   ·rcases c2 with ⟨rfl, rfl, hc2⟩ | ⟨rfl, hm⟩
    ·exact .inl ⟨rfl, rfl, fun j j0 j1 => if e : j = t then e ▸ hc else hc2 j (by omega) j1⟩
    ·exact .inr ⟨rfl, hm⟩
   ·rcases c2 with ⟨rfl, rfl, _⟩ | ⟨rfl, hm2⟩
    ·exact .inr ⟨rfl, hm⟩
    ·exact .inr ⟨rfl, by omega⟩
 intro b s hp
 exact key _ 0 b s (Int.le_refl _) hN rfl hp
theorem rounds_to {R S : Type} {O : Bool → S → Option R} {L : Bool → Int → S → Option R} {N : Int} {P : S → Prop} {cl : Int → S → Prop} {μ : S → Nat} (hN : 0 ≤ N)
  (hO : ∀ s, P s → O true s = L false 0 s)
  (hs : ∀ b t s, 0 ≤ t → t < N → P s → ∃ b' s', L b t s = L b' (t + 1) s' ∧ P s' ∧ ((b' = b ∧ s' = s ∧ cl t s) ∨ (b' = true ∧ μ s' < μ s)))
  (hE : ∀ b s, P s → L b N s = O b s) {s : S} (hp : P s) : ∃ s', O true s = O false s' ∧ P s' ∧ ∀ t, 0 ≤ t → t < N → cl t s' := by
 generalize hm : μ s = m
 induction m using Nat.strongRecOn generalizing s with
 | ind m ih =>
  obtain ⟨b', s', e, p, c⟩ := pass_to hN hs false s hp
  rw [hO s hp, e, hE b' s' p]
  rcases c with ⟨rfl, rfl, hc⟩ | ⟨rfl, hlt⟩
  ·exact ⟨_, rfl, hp, hc⟩
  ·exact ih _ (by omega) p rfl
/-! ### marks -/
structure Mks {α : Type} [Inhabited α] (z o : α) (N : Int) (P : Int → Prop) (m : List α) : Prop where
 l : (m.length : Int) = N
 v : ∀ a, 0 ≤ a → a < N → ix m a = z ∨ (ix m a = o ∧ P a)
section
variable {α : Type} [Inhabited α] {z o : α} {N : Int} {P Q : Int → Prop} {m : List α}
theorem Mks.put (h : Mks z o N P m) {a : Int} (a0 : 0 ≤ a) (a1 : a < N) (pa : P a) : Mks z o N P (m.set a.toNat o) := by
 refine ⟨by rw [List.length_set]; exact h.l, fun b b0 b1 => ?_⟩
 by_cases e : a = b
 ·subst e; exact .inr ⟨ix_set_same a0 (by rw [h.l]; exact a1), pa⟩
 ·rw [ix_set_ne a0 b0 e]; exact h.v b b0 b1
theorem Mks.rep (hN : 0 ≤ N) : Mks z o N P (List.replicate N.toNat z) := ⟨by simp; omega, fun a a0 a1 => .inl (ix_replicate a0 (by omega))⟩
theorem Mks.one (h : Mks z o N P m) {a : Int} (a0 : 0 ≤ a) (a1 : a < N) (hz : ¬ ix m a = z) : ix m a = o ∧ P a := (h.v a a0 a1).resolve_left hz
theorem Mks.ext (h : Mks z o N P m) (k : ∀ a, 0 ≤ a → a < N → P a → ix m a = o) {m2 : List α} (h2 : Mks z o N P m2) (k2 : ∀ a, 0 ≤ a → a < N → P a → ix m2 a = o) : m = m2 := by
 refine ix_ext (by have := h.l; have := h2.l; omega) fun j j0 j1 => ?_
 have j1 : j < N := by rw [← h.l]; exact j1
 by_cases c : P j
 ·rw [k j j0 j1 c, k2 j j0 j1 c]
 ·rw [(h.v j j0 j1).resolve_right (fun x => c x.2), (h2.v j j0 j1).resolve_right (fun x => c x.2)]
theorem Mks.iff (h : Mks z o N P m) (hzo : z ≠ o) (k : ∀ a, 0 ≤ a → a < N → P a → ix m a = o) {a : Int} (a0 : 0 ≤ a) (a1 : a < N) : ix m a = o ↔ P a :=
 ⟨fun e => ((h.v a a0 a1).resolve_left (fun x => hzo (x.symm.trans e))).2, k a a0 a1⟩
variable [BEq α] [LawfulBEq α]
theorem count_put (hzo : z ≠ o) {a : Int} (a0 : 0 ≤ a) (a1 : a < m.length) (hz : ix m a = z) : (m.set a.toNat o).count z < m.count z := by
 rw [List.count_set (by omega)]
 have e : m[a.toNat]'(by omega) = z := by rw [← ix_eq a0 a1]; exact hz
 rw [e, if_pos (by simp), if_neg (by simpa using fun h => hzo h.symm)]
 have : 0 < m.count z := List.count_pos_iff.2 (by rw [← hz]; exact ix_mem a0 a1)
 omega
end

/-- slices.DeleteFunc: what is kept, in place. -/
theorem delete_loop {α R : Type} [Inhabited α] {l : List α} {D : α → Prop} {L : Int → Int → List α → Option R} {E : List α → Option R} (hl : l.length ≤ 1000000)
  (hs : ∀ (i j : Int) (s : List α), 0 ≤ i → i < j → j < l.length → s.length = l.length → ix s j = ix l j → ((D (ix l j) → L i j s = L i (j + 1) s) ∧ (¬ D (ix l j) → L i j s = L (i + 1) (j + 1) (s.set i.toNat (ix l j)))))
  (hE : ∀ (i : Int) (s : List α), 0 ≤ i → i ≤ l.length → s.length = l.length → L i l.length s = E (s.take i.toNat)) :
  ∀ (n : Nat) (i j : Int) (s : List α), 0 ≤ i → i < j → j ≤ l.length → (l.length - j).toNat = n → s.length = l.length → (∀ k, j ≤ k → k < l.length → ix s k = ix l k) →
   (∀ x, x ∈ s.take i.toNat ↔ x ∈ l.take j.toNat ∧ ¬ D x) →
   ∃ r, L i j s = E r ∧ r.length ≤ l.length ∧ ∀ x, x ∈ r ↔ x ∈ l ∧ ¬ D x := by
 intro n
 induction n with
 | zero =>
  intro i j s i0 ij j1 hn sl sx hx
  obtain rfl : j = l.length := by omega
  refine ⟨_, hE i s i0 (by omega) sl, by rw [List.length_take]; omega, fun x => ?_⟩
  rw [hx, Int.toNat_natCast, List.take_length]
 | succ n ih =>
  intro i j s i0 ij j1 hn sl sx hx
  obtain ⟨h1, h2⟩ := hs i j s i0 ij (by omega) sl (sx j (Int.le_refl _) (by omega))
  have et := ix_take (l := l) (i := j) (by omega) (by omega)
  by_cases d : D (ix l j)
  ·rw [h1 d]
   refine ih i (j + 1) s i0 (by omega) (by omega) (by omega) sl (fun k a b => sx k (by omega) b) fun x => ?_
   rw [hx, et, List.mem_append, List.mem_singleton]
   constructor
   ·rintro ⟨a, b⟩; exact ⟨.inl a, b⟩
   ·rintro ⟨a | rfl, b⟩
    ·exact ⟨a, b⟩
    ·exact absurd d b
  ·rw [h2 d]
   refine ih (i + 1) (j + 1) _ (by omega) (by omega) (by omega) (by omega) (by rw [List.length_set]; exact sl) (fun k a b => by rw [ix_set_ne i0 (by omega) (by omega)]; exact sx k (by omega) b) fun x => ?_
   have es := ix_take (l := s.set i.toNat (ix l j)) (i := i) i0 (by rw [List.length_set]; omega)
   rw [es, ix_set_same i0 (by omega), List.take_set_of_le (Nat.le_refl _), List.mem_append, hx, et, List.mem_append, List.mem_singleton]
   constructor
   ·rintro (⟨a, b⟩ | rfl)
    ·exact ⟨.inl a, b⟩
    ·exact ⟨.inr rfl, d⟩
   ·rintro ⟨a | rfl, b⟩
    ·exact .inl ⟨a, b⟩
    ·exact .inr rfl

/-- A loop that stops at a fault and that marks lesser ones. -/
theorem flag_loop {R : Type} {len : Int} {L : Bool → Int → Option R} {big off : Int → Prop} {x : Option R} {lo : Int} (h0 : lo ≤ len) (b : Bool)
  (hs : ∀ t b, lo ≤ t → t < len → (big t → L b t = x) ∧ (¬ big t → ∃ b', L b t = L b' (t + 1) ∧ (b' = true ↔ b = true ∨ off t))) :
  ((∃ t, lo ≤ t ∧ t < len ∧ big t) → L b lo = x) ∧ ((¬ ∃ t, lo ≤ t ∧ t < len ∧ big t) → ∃ b', L b lo = L b' len ∧ (b' = true ↔ b = true ∨ ∃ t, lo ≤ t ∧ t < len ∧ off t)) := by
 have key : ∀ (n : Nat) (lx : Int) (b : Bool), lx ≤ len → (len - lx).toNat = n → (∀ t b, lx ≤ t → t < len → (big t → L b t = x) ∧ (¬ big t → ∃ b', L b t = L b' (t + 1) ∧ (b' = true ↔ b = true ∨ off t))) →
   ((∃ t, lx ≤ t ∧ t < len ∧ big t) → L b lx = x) ∧ ((¬ ∃ t, lx ≤ t ∧ t < len ∧ big t) → ∃ b', L b lx = L b' len ∧ (b' = true ↔ b = true ∨ ∃ t, lx ≤ t ∧ t < len ∧ off t)) := by
  intro n
  induction n with
  | zero =>
   intro lx b h0 hn hs
   obtain rfl : lx = len := by clear hs; omega
   exact ⟨fun ⟨t, h1, h2, _⟩ => by omega, fun _ => ⟨b, rfl, fun h => .inl h, fun h => h.elim id (fun ⟨t, h1, h2, _⟩ => by omega)⟩⟩
  | succ n ih =>
   intro lx b h0 hn hs
   have hlt : lx < len := by clear hs ih; omega
   obtain ⟨s1, s2⟩ := hs lx b (Int.le_refl lx) hlt
   by_cases hb : big lx
   ·exact ⟨fun _ => s1 hb, fun h => absurd ⟨lx, Int.le_refl lx, hlt, hb⟩ h⟩
   ·obtain ⟨b1, e1, i1⟩ := s2 hb
    obtain ⟨k1, k2⟩ := ih (lx + 1) b1 (by omega) (by omega) (fun t b h h' => hs t b (by omega) h')
    refine ⟨fun ⟨t, t0, t1, t2⟩ => ?_, fun h => ?_⟩
    ·rw [e1]
     refine k1 ⟨t, ?_, t1, t2⟩
     by_cases e : t = lx
     ·rw [e] at t2; exact absurd t2 hb
     ·omega
    ·obtain ⟨b', e', i'⟩ := k2 (fun ⟨t, t0, t1, t2⟩ => h ⟨t, by omega, t1, t2⟩)
     refine ⟨b', e1.trans e', i'.trans ⟨fun g => ?_, fun g => ?_⟩⟩
     ·rcases g with g | ⟨t, t0, t1, t2⟩
      ·exact (i1.1 g).elim .inl (fun o => .inr ⟨lx, Int.le_refl lx, hlt, o⟩)
      ·exact .inr ⟨t, by omega, t1, t2⟩
     ·rcases g with g | ⟨t, t0, t1, t2⟩
      ·exact .inl (i1.2 (.inl g))
      ·by_cases e : t = lx
       ·rw [e] at t2; exact .inl (i1.2 (.inr t2))
       ·exact .inr ⟨t, by omega, t1, t2⟩
 exact key _ lo b h0 rfl hs

theorem r1_Words_L4_spec {a b : List Int} (hl : a.length = b.length) : ∀ (n : Nat) (i : Int), 0 ≤ i → i ≤ a.length → (a.length - i).toNat = n → a.length ≤ 2305843009213693951 → (∀ j : Int, 0 ≤ j → j < i → ix a j = ix b j) → r1_Words_L4 a b i = some (decide (a = b)) := by
 intro n
 induction n with
 | zero =>
  intro i h0 h1 hn hs h
  rw [r1_Words_L4_eq]; unfold r1_Words_L4_B
  (try dsimp only); (repeat' first | (with_reducible refine G_to ?_ ?_; focus (first | omega | (unfold fits; omega) | (unfold room; (try simp only [List.length_append, List.length_cons, List.length_nil]); omega))) | (with_reducible refine both_to ?_ ?_) | (with_reducible refine itet_to ?_) | (with_reducible refine itef_to ?_) | (with_reducible refine ite_to (fun _ => ?_) (fun _ => ?_))) <;> try (exfalso; omega)
  ·rw [Option.some_inj, eq_comm, decide_eq_true_iff]; exact ix_ext hl (fun j a b => h j a (by omega))
 | succ n ih =>
  intro i h0 h1 hn hs h
  rw [r1_Words_L4_eq]; unfold r1_Words_L4_B
  (try dsimp only); (repeat' first | (with_reducible refine G_to ?_ ?_; focus (first | omega | (unfold fits; omega) | (unfold room; (try simp only [List.length_append, List.length_cons, List.length_nil]); omega))) | (with_reducible refine both_to ?_ ?_) | (with_reducible refine itet_to ?_) | (with_reducible refine itef_to ?_) | (with_reducible refine ite_to (fun _ => ?_) (fun _ => ?_))) <;> try (exfalso; omega)
  ·rw [Option.some_inj, eq_comm, decide_eq_false_iff_not]; rintro rfl; contradiction
  ·rename_i hx; exact ih _ (by omega) (by omega) (by omega) hs (below_succ h (Decidable.not_not.1 hx))
theorem r1_Words_spec {a b : List Int} (hs : a.length ≤ 2305843009213693951) : r1_Words a b = some (decide (a = b)) := by
 unfold r1_Words
 (try dsimp only); (repeat' first | (with_reducible refine G_to ?_ ?_; focus (first | omega | (unfold fits; omega) | (unfold room; (try simp only [List.length_append, List.length_cons, List.length_nil]); omega))) | (with_reducible refine both_to ?_ ?_) | (with_reducible refine itet_to ?_) | (with_reducible refine itef_to ?_) | (with_reducible refine ite_to (fun _ => ?_) (fun _ => ?_))) <;> try (exfalso; omega)
 ·rw [Option.some_inj, eq_comm, decide_eq_false_iff_not]; rintro rfl; contradiction
 ·exact r1_Words_L4_spec (by omega) _ 0 (by omega) (by omega) rfl hs (fun j a b => by omega)

theorem slices_Grow_spec {n : Int} (h0 : 0 ≤ n) (h : n * 8 ≤ 140737488355328) : slices_Grow n = some [] := by
 unfold slices_Grow
 (try dsimp only); (repeat' first | (with_reducible refine G_to ?_ ?_; focus (first | omega | (unfold fits; omega) | (unfold room; (try simp only [List.length_append, List.length_cons, List.length_nil]); omega))) | (with_reducible refine both_to ?_ ?_) | (with_reducible refine itet_to ?_) | (with_reducible refine itef_to ?_) | (with_reducible refine ite_to (fun _ => ?_) (fun _ => ?_))) <;> try (exfalso; omega)
 all_goals first | rfl | (rw [show ((0 : Int)).toNat = 0 from rfl, List.take_zero])
theorem slices_Concat_spec {ls : List (List Int)} (h : ls.length ≤ 1000) (hl : (ls.flatten.length : Int) * 8 ≤ 140737488355328) : slices_Concat ls = some ls.flatten := by
 have sum : ∀ (k : Nat), ((ls.take k).flatten.length : Int) ≤ ls.flatten.length := by
  intro k
  have : ls.flatten = (ls.take k).flatten ++ (ls.drop k).flatten := by rw [← List.flatten_append, List.take_append_drop]
  rw [this, List.length_append]; omega
 have tk : ∀ t : Int, 0 ≤ t → t < ls.length → (ls.take (t + 1).toNat).flatten = (ls.take t.toNat).flatten ++ ix ls t := fun t h0 h1 => by
  rw [ix_take h0 h1, List.flatten_append]; simp
 unfold slices_Concat
 have k2 : ∀ (n : Nat) (t : Int), (ls.length - t).toNat = n → 0 ≤ t → t ≤ ls.length → slices_Concat_L11 ls t (ls.take t.toNat).flatten = some ls.flatten := by
  intro n
  induction n with
  | zero =>
   intro t hn h0 h1
   rw [slices_Concat_L11_eq]; unfold slices_Concat_L11_B
   rw [List.take_of_length_le (by omega), if_neg (by simp only [decide_eq_true_eq]; omega)]
  | succ n ih =>
   intro t hn h0 h1
   have e := tk t h0 (by omega)
   have s := sum (t + 1).toNat
   rw [e, List.length_append] at s
   rw [slices_Concat_L11_eq]; unfold slices_Concat_L11_B
   (try dsimp only); (repeat' first | (with_reducible refine G_to ?_ ?_; focus (first | omega | (unfold fits; omega) | (unfold room; (try simp only [List.length_append, List.length_cons, List.length_nil]); omega))) | (with_reducible refine both_to ?_ ?_) | (with_reducible refine itet_to ?_) | (with_reducible refine itef_to ?_) | (with_reducible refine ite_to (fun _ => ?_) (fun _ => ?_))) <;> try (exfalso; omega)
   rw [← e]
   exact ih (t + 1) (by omega) (by omega) (by omega)
 have k1 : ∀ (n : Nat) (t : Int), (ls.length - t).toNat = n → 0 ≤ t → t ≤ ls.length → slices_Concat_L3 ls ((ls.take t.toNat).flatten.length : Int) t = some ls.flatten := by
  intro n
  induction n with
  | zero =>
   intro t hn h0 h1
   rw [slices_Concat_L3_eq]; unfold slices_Concat_L3_B
   rw [List.take_of_length_le (by omega), if_neg (by simp only [decide_eq_true_eq]; omega)]
   refine bind_to (slices_Grow_spec (by omega) hl) ?_
   have := k2 _ 0 rfl (by omega) (by omega)
   simpa using this
  | succ n ih =>
   intro t hn h0 h1
   have e := tk t h0 (by omega)
   have s := sum (t + 1).toNat
   have ih' := ih (t + 1) (by omega) (by omega) (by omega)
   rw [e, List.length_append] at s ih'
   rw [slices_Concat_L3_eq]; unfold slices_Concat_L3_B
   (try dsimp only); (repeat' first | (with_reducible refine G_to ?_ ?_; focus (first | omega | (unfold fits; omega) | (unfold room; (try simp only [List.length_append, List.length_cons, List.length_nil]); omega))) | (with_reducible refine both_to ?_ ?_) | (with_reducible refine itet_to ?_) | (with_reducible refine itef_to ?_) | (with_reducible refine ite_to (fun _ => ?_) (fun _ => ?_))) <;> try (exfalso; omega)
   rw [← ih']; congr 1
 have := k1 _ 0 rfl (by omega) (by omega)
 simpa using this

abbrev Rul := Int × List Int × Unit
abbrev Gm := Int × Int × List Rul × Unit
def SgB (g : Gm) (s : Int) : Prop := s < 0 ∨ g.1 + g.2.1 ≤ s
structure RlOk (g : Gm) (r : Rul) : Prop where
 f0 : 0 ≤ r.1
 f1 : r.1 < g.2.1
 l : r.2.1.length ≤ 3
 s : ∀ x ∈ r.2.1, 0 ≤ x ∧ x < g.1 + g.2.1
structure GOk (g : Gm) : Prop where
 a0 : 1 ≤ g.1
 a1 : g.1 ≤ 4
 n0 : 1 ≤ g.2.1
 n1 : g.2.1 ≤ 6
 ln : g.2.2.1.length ≤ 20
 r : ∀ k : Int, 0 ≤ k → k < g.2.2.1.length → RlOk g (ix g.2.2.1 k)
section
variable {g : Gm}
theorem L14_spec (ha : 1 ≤ g.1) (ha1 : g.1 ≤ 4) (hn0 : 1 ≤ g.2.1) (hn1 : g.2.1 ≤ 6) {i : Int} (hl : (ix g.2.2.1 i).2.1.length ≤ 3) {r6 : Int → Option Int} (i0 : 0 ≤ i) (i1 : i < 1000) :
  ((∃ x ∈ (ix g.2.2.1 i).2.1, SgB g x) → r17_Check_L14 g i r6 0 = some 2) ∧ ((¬ ∃ x ∈ (ix g.2.2.1 i).2.1, SgB g x) → r17_Check_L14 g i r6 0 = r6 (i + 1)) := by
 have key : ∀ x, ((∃ x ∈ (ix g.2.2.1 i).2.1, SgB g x) → some 2 = x) → ((¬ ∃ x ∈ (ix g.2.2.1 i).2.1, SgB g x) → r6 (i + 1) = x) → r17_Check_L14 g i r6 0 = x := fun x h1 h2 => by
  refine scan_to (len := ((ix g.2.2.1 i).2.1.length : Int)) (bad := fun t => SgB g (ix (ix g.2.2.1 i).2.1 t)) (lo := 0) (by omega) (fun t t0 t1 => ⟨fun hb => ?_, fun hb => ?_⟩) (fun hh => ?_)
  ·have hb' : SgB g (ix (ix g.2.2.1 i).2.1 t) := hb
   rw [← h1 ⟨_, ix_mem t0 t1, hb⟩]
   unfold SgB at hb'
   rw [r17_Check_L14_eq]; unfold r17_Check_L14_B
   (try dsimp only); (repeat' first | (with_reducible refine G_to ?_ ?_; focus (first | omega | (unfold fits; omega) | (unfold room; (try simp only [List.length_append, List.length_cons, List.length_nil]); omega))) | (with_reducible refine both_to ?_ ?_) | (with_reducible refine itet_to ?_) | (with_reducible refine itef_to ?_) | (with_reducible refine ite_to (fun _ => ?_) (fun _ => ?_))) <;> try (exfalso; omega)
   all_goals rfl
  ·have hb' : ¬ SgB g (ix (ix g.2.2.1 i).2.1 t) := hb
   unfold SgB at hb'
   conv => lhs; rw [r17_Check_L14_eq]; unfold r17_Check_L14_B
   (try dsimp only); (repeat' first | (with_reducible refine G_to ?_ ?_; focus (first | omega | (unfold fits; omega) | (unfold room; (try simp only [List.length_append, List.length_cons, List.length_nil]); omega))) | (with_reducible refine both_to ?_ ?_) | (with_reducible refine itet_to ?_) | (with_reducible refine itef_to ?_) | (with_reducible refine ite_to (fun _ => ?_) (fun _ => ?_))) <;> try (exfalso; omega)
   all_goals rfl
  ·rw [r17_Check_L14_eq]; unfold r17_Check_L14_B
   (try dsimp only); (repeat' first | (with_reducible refine G_to ?_ ?_; focus (first | omega | (unfold fits; omega) | (unfold room; (try simp only [List.length_append, List.length_cons, List.length_nil]); omega))) | (with_reducible refine both_to ?_ ?_) | (with_reducible refine itet_to ?_) | (with_reducible refine itef_to ?_) | (with_reducible refine ite_to (fun _ => ?_) (fun _ => ?_))) <;> try (exfalso; omega)
   refine h2 fun h => ?_
   obtain ⟨j, j0, j1, hj⟩ := ex_ix.1 h
   exact hh j j0 j1 hj
 exact ⟨fun h => (key _ (fun _ => rfl) (fun h2 => absurd h h2)), fun h => (key _ (fun h2 => absurd h2 h) (fun _ => rfl))⟩
theorem sign_tells (ha : 1 ≤ g.1) (ha1 : g.1 ≤ 4) (hn0 : 1 ≤ g.2.1) (hn1 : g.2.1 ≤ 6) {l : List Int} (hl : l.length ≤ 3) : Tells (slices_ContainsFunc l g) (∃ x ∈ l, SgB g x) :=
 contains_tells (f := fun x => gram_Check_1 x g) (slices_IndexFunc_L2_eq l g) (by omega) (fun x _ => by
  unfold gram_Check_1 SgB
  by_cases h : x < 0
  ·rw [if_pos (decide_eq_true h)]; exact Tells.of (by simp [h])
  ·rw [if_neg (by simpa using h), G_pos (by unfold fits; omega)]; exact Tells.dec (by simp [h]))
theorem check_both : ∃ e, gram_Check g = some e ∧ r17_Check g = some e ∧ (e = 0 → GOk g) := by
 unfold gram_Check r17_Check
 by_cases c1 : g.1 < 1
 ·exact ⟨2, by rw [if_pos (decide_eq_true c1)], by rw [if_pos (decide_eq_true c1)], by omega⟩
 simp only [if_neg (show ¬ decide (g.1 < 1) = true by simpa using c1)]
 by_cases c2 : 4 < g.1
 ·exact ⟨2, by rw [if_pos (decide_eq_true c2)], by rw [if_pos (decide_eq_true c2)], by omega⟩
 simp only [if_neg (show ¬ decide (4 < g.1) = true by simpa using c2)]
 by_cases c3 : g.2.1 < 1
 ·exact ⟨1, by rw [if_pos (decide_eq_true c3)], by rw [if_pos (decide_eq_true c3)], by omega⟩
 simp only [if_neg (show ¬ decide (g.2.1 < 1) = true by simpa using c3)]
 by_cases c4 : 6 < g.2.1
 ·exact ⟨1, by rw [if_pos (decide_eq_true c4)], by rw [if_pos (decide_eq_true c4)], by omega⟩
 simp only [if_neg (show ¬ decide (6 < g.2.1) = true by simpa using c4)]
 by_cases c5 : (20 : Int) < g.2.2.1.length
 ·exact ⟨1, by rw [if_pos (decide_eq_true c5)], by rw [if_pos (decide_eq_true c5)], by omega⟩
 simp only [if_neg (show ¬ decide ((20 : Int) < g.2.2.1.length) = true by simpa using c5)]
 have key : ∀ (n : Nat) (t : Int), 0 ≤ t → t ≤ g.2.2.1.length → ((g.2.2.1.length : Int) - t).toNat = n → ∃ e, gram_Check_L6 g t = some e ∧ r17_Check_L6 g t = some e ∧ (e = 0 → ∀ k : Int, t ≤ k → k < g.2.2.1.length → RlOk g (ix g.2.2.1 k)) := by
  intro n
  induction n with
  | zero =>
   intro t t0 t1 hn
   refine ⟨0, ?_, ?_, fun _ k a b => by omega⟩
   ·rw [gram_Check_L6_eq]; unfold gram_Check_L6_B; rw [if_neg (by simp only [decide_eq_true_eq]; omega)]
   ·rw [r17_Check_L6_eq]; unfold r17_Check_L6_B; rw [if_neg (by simp only [decide_eq_true_eq]; omega)]
  | succ n ih =>
   intro t t0 t1 hn
   have hlt : t < g.2.2.1.length := by omega
   rw [gram_Check_L6_eq, r17_Check_L6_eq]; unfold gram_Check_L6_B r17_Check_L6_B
   simp only [if_pos (decide_eq_true hlt), G_pos (show 0 ≤ t ∧ t < (g.2.2.1.length : Int) from ⟨t0, hlt⟩)]
   by_cases d1 : (ix g.2.2.1 t).1 < 0
   ·exact ⟨2, by rw [if_pos (decide_eq_true d1)], by rw [if_pos (decide_eq_true d1)], by omega⟩
   simp only [if_neg (show ¬ decide ((ix g.2.2.1 t).1 < 0) = true by simpa using d1)]
   by_cases d2 : g.2.1 ≤ (ix g.2.2.1 t).1
   ·exact ⟨2, by rw [if_pos (decide_eq_true d2)], by rw [if_pos (decide_eq_true d2)], by omega⟩
   simp only [if_neg (show ¬ decide (g.2.1 ≤ (ix g.2.2.1 t).1) = true by simpa using d2)]
   by_cases d3 : (3 : Int) < (ix g.2.2.1 t).2.1.length
   ·exact ⟨1, by rw [if_pos (decide_eq_true d3)], by rw [if_pos (decide_eq_true d3)], by omega⟩
   simp only [if_neg (show ¬ decide ((3 : Int) < (ix g.2.2.1 t).2.1.length) = true by simpa using d3)]
   obtain ⟨w1, w2⟩ := L14_spec (g := g) (by omega) (by omega) (by omega) (by omega) (i := t) (by omega) (r6 := r17_Check_L6 g) t0 (by omega)
   obtain ⟨b, eb, hb⟩ := sign_tells (g := g) (by omega) (by omega) (by omega) (by omega) (l := (ix g.2.2.1 t).2.1) (by omega)
   rw [show (g.1, (g.2.1, (g.2.2.1, ()))) = g from rfl, eb]
   by_cases c : ∃ x ∈ (ix g.2.2.1 t).2.1, SgB g x
   ·have : b = true := hb.2 c
    subst this
    exact ⟨2, rfl, w1 c, by omega⟩
   ·have : b = false := by cases b; rfl; exact absurd (hb.1 rfl) c
    subst this
    obtain ⟨e, e1, e2, e3⟩ := ih (t + 1) (by omega) (by omega) (by omega)
    refine ⟨e, ?_, (w2 c).trans e2, fun h k k0 k1 => ?_⟩
    ·show G _ _ = _
     rw [G_pos (by unfold fits; omega), e1]
    ·by_cases ek : k = t
     ·subst ek
      exact ⟨by omega, by omega, by omega, fun x hx => by
       have : ¬ SgB g x := fun h => c ⟨x, hx, h⟩
       unfold SgB at this; omega⟩
     ·exact e3 h k (by omega) k1
 obtain ⟨e, e1, e2, e3⟩ := key _ 0 (Int.le_refl _) (by omega) rfl
 exact ⟨e, e1, e2, fun h => ⟨by omega, by omega, by omega, by omega, by omega, e3 h⟩⟩
/-! ### the sets -/
/-- Names from which one comes to a word. -/
inductive En (g : Gm) : Int → Prop where
 | mk (k : Int) (k0 : 0 ≤ k) (k1 : k < g.2.2.1.length) (h : ∀ s ∈ (ix g.2.2.1 k).2.1, g.1 ≤ s → En g (s - g.1)) : En g (ix g.2.2.1 k).1
/-- Rules all whose names come to words. -/
def Wh (g : Gm) (r : Rul) : Prop := ∀ s ∈ r.2.1, g.1 ≤ s → En g (s - g.1)
inductive Mt (g : Gm) : Int → Prop where
 | zero (h : En g 0) : Mt g 0
 | step (r : Rul) (hr : r ∈ g.2.2.1) (hw : Wh g r) (hm : Mt g r.1) (s : Int) (hs : s ∈ r.2.1) (h : g.1 ≤ s) : Mt g (s - g.1)
inductive Fu (g : Gm) : Int → Prop where
 | letter (r : Rul) (hr : r ∈ g.2.2.1) (hw : Wh g r) (s : Int) (hs : s ∈ r.2.1) (h : s < g.1) : Fu g r.1
 | name (r : Rul) (hr : r ∈ g.2.2.1) (hw : Wh g r) (s : Int) (hs : s ∈ r.2.1) (hl : g.1 ≤ s) (h : Fu g (s - g.1)) : Fu g r.1
abbrev EnM (g : Gm) (m : List Int) : Prop := Mks (0 : Int) 1 g.2.1 (En g) m
/-- The names that come to words, marked. -/
def EnF (g : Gm) (m : List Int) : Prop := EnM g m ∧ ∀ a, 0 ≤ a → a < g.2.1 → En g a → ix m a = 1
theorem RlOk.nm (hg : GOk g) {r : Rul} (h : RlOk g r) {s : Int} (hs : s ∈ r.2.1) (hl : g.1 ≤ s) : 0 ≤ s - g.1 ∧ s - g.1 < g.2.1 := by
 have := h.s s hs; omega
theorem GOk.rm (hg : GOk g) {r : Rul} (h : r ∈ g.2.2.1) : RlOk g r := by
 obtain ⟨i, i0, i1, rfl⟩ := mem_ix h; exact hg.r i i0 i1
/-- Some name of the rule isn't marked. -/
def Un (g : Gm) (m : List Int) (r : Rul) : Prop := ∃ s ∈ r.2.1, g.1 ≤ s ∧ ix m (s - g.1) = 0
theorem un_f (hg : GOk g) {m : List Int} (hm : (m.length : Int) = g.2.1) {r : Rul} (hr : RlOk g r) {x : Int} (hx : x ∈ r.2.1) (F : Int → Gm → List Int → Option Bool)
  (hF : F x g m = if (decide (g.1 ≤ x)) = true then G (fits (x - g.1)) (G (0 ≤ x - g.1 ∧ x - g.1 < (m.length : Int)) (some (decide ((ix m (x - g.1)) = (0 : Int))))) else some false) : Tells (F x g m) (g.1 ≤ x ∧ ix m (x - g.1) = 0) := by
 rw [hF]
 by_cases c : g.1 ≤ x
 ·have := hr.nm hg hx c
  have := hg.n1
  rw [if_pos (decide_eq_true c), G_pos (by unfold fits; omega), G_pos (by omega)]; exact Tells.dec (by simp [c])
 ·rw [if_neg (by simpa using c)]; exact Tells.of (by simp [c])
theorem un1 (hg : GOk g) {m : List Int} (hm : (m.length : Int) = g.2.1) {r : Rul} (hr : RlOk g r) : Tells (slices_ContainsFunc_1 r.2.1 g m) (Un g m r) :=
 contains_tells (f := fun x => gram_ending_1 x g m) (slices_IndexFunc_1_L2_eq r.2.1 g m) (by have := hr.l; omega) (fun x hx => un_f hg hm hr hx gram_ending_1 rfl)
theorem un2 (hg : GOk g) {m : List Int} (hm : (m.length : Int) = g.2.1) {r : Rul} (hr : RlOk g r) : Tells (slices_ContainsFunc_2 r.2.1 g m) (Un g m r) :=
 contains_tells (f := fun x => gram_useful_1 x g m) (slices_IndexFunc_2_L2_eq r.2.1 g m) (by have := hr.l; omega) (fun x hx => un_f hg hm hr hx gram_useful_1 rfl)
theorem whole_spec (hg : GOk g) {m : List Int} (hm : (m.length : Int) = g.2.1) {r : Rul} (hr : RlOk g r) : Tells (r17_Whole g m r) (¬ Un g m r) := by
 have key : ∀ x, (Un g m r → some false = x) → (¬ Un g m r → some true = x) → r17_Whole g m r = x := fun x h1 h2 => by
  unfold r17_Whole
  have := hr.l; have := hg.n1
  refine scan_to (len := (r.2.1.length : Int)) (bad := fun t => g.1 ≤ ix r.2.1 t ∧ ix m (ix r.2.1 t - g.1) = 0) (lo := 0) (by omega) (fun t t0 t1 => ?_) (fun hh => ?_)
  ·have hx := ix_mem t0 t1
   have hn := fun h => hr.nm hg hx h
   refine ⟨fun hb => ?_, fun hb => ?_⟩
   ·have hb' : g.1 ≤ ix r.2.1 t ∧ ix m (ix r.2.1 t - g.1) = 0 := hb
    rw [← h1 ⟨_, hx, hb⟩]
    have := hn hb'.1
    rw [r17_Whole_L2_eq]; unfold r17_Whole_L2_B
    (try dsimp only); (repeat' first | (with_reducible refine G_to ?_ ?_; focus (first | omega | (unfold fits; omega) | (unfold room; (try simp only [List.length_append, List.length_cons, List.length_nil]); omega))) | (with_reducible refine both_to ?_ ?_) | (with_reducible refine itet_to ?_) | (with_reducible refine itef_to ?_) | (with_reducible refine ite_to (fun _ => ?_) (fun _ => ?_))) <;> try (exfalso; omega)
    all_goals rfl
   ·have hb' : ¬ (g.1 ≤ ix r.2.1 t ∧ ix m (ix r.2.1 t - g.1) = 0) := hb
    conv => lhs; rw [r17_Whole_L2_eq]; unfold r17_Whole_L2_B
    by_cases c : g.1 ≤ ix r.2.1 t
    ·have := hn c
     (try dsimp only); (repeat' first | (with_reducible refine G_to ?_ ?_; focus (first | omega | (unfold fits; omega) | (unfold room; (try simp only [List.length_append, List.length_cons, List.length_nil]); omega))) | (with_reducible refine both_to ?_ ?_) | (with_reducible refine itet_to ?_) | (with_reducible refine itef_to ?_) | (with_reducible refine ite_to (fun _ => ?_) (fun _ => ?_))) <;> try (exfalso; omega)
     all_goals rfl
    ·(try dsimp only); (repeat' first | (with_reducible refine G_to ?_ ?_; focus (first | omega | (unfold fits; omega) | (unfold room; (try simp only [List.length_append, List.length_cons, List.length_nil]); omega))) | (with_reducible refine both_to ?_ ?_) | (with_reducible refine itet_to ?_) | (with_reducible refine itef_to ?_) | (with_reducible refine ite_to (fun _ => ?_) (fun _ => ?_))) <;> try (exfalso; omega)
     all_goals rfl
  ·rw [r17_Whole_L2_eq]; unfold r17_Whole_L2_B
   (try dsimp only); (repeat' first | (with_reducible refine G_to ?_ ?_; focus (first | omega | (unfold fits; omega) | (unfold room; (try simp only [List.length_append, List.length_cons, List.length_nil]); omega))) | (with_reducible refine both_to ?_ ?_) | (with_reducible refine itet_to ?_) | (with_reducible refine itef_to ?_) | (with_reducible refine ite_to (fun _ => ?_) (fun _ => ?_))) <;> try (exfalso; omega)
   refine h2 fun ⟨s, hs, h⟩ => ?_
   obtain ⟨j, j0, j1, rfl⟩ := mem_ix hs
   exact hh j j0 j1 h
 by_cases c : Un g m r
 ·exact ⟨false, key _ (fun _ => rfl) (fun h => absurd c h), by simp [c]⟩
 ·exact ⟨true, key _ (fun h => absurd h c) (fun _ => rfl), by simp [c]⟩
theorem un_wh (hg : GOk g) {m : List Int} (h : EnM g m) {r : Rul} (hr : RlOk g r) (hn : ¬ Un g m r) : Wh g r := fun s hs hl => by
 obtain ⟨a, b⟩ := hr.nm hg hs hl
 exact (h.one a b (fun e => hn ⟨s, hs, hl, e⟩)).2
theorem un_iff (hg : GOk g) {m : List Int} (h : EnF g m) {r : Rul} (hr : RlOk g r) : ¬ Un g m r ↔ Wh g r :=
 ⟨un_wh hg h.1 hr, fun hw ⟨s, hs, hl, e⟩ => by
  obtain ⟨a, b⟩ := hr.nm hg hs hl
  have := h.2 _ a b (hw s hs hl)
  omega⟩
theorem en_fin (hg : GOk g) {m : List Int} (h : EnM g m) (hc : ∀ t, 0 ≤ t → t < (g.2.2.1.length : Int) → ix m (ix g.2.2.1 t).1 = 0 → Un g m (ix g.2.2.1 t)) : EnF g m := by
 refine ⟨h, fun a a0 a1 ha => ?_⟩
 have key : ∀ a, En g a → ix m a = 1 := fun a ha => by
  induction ha with
  | mk k k0 k1 hk ih =>
   have hr := hg.r k k0 k1
   refine (h.one hr.f0 hr.f1 fun e => ?_).1
   obtain ⟨s, hs, hl, e2⟩ := hc k k0 k1 e
   have := ih s hs hl
   omega
 exact key a ha
theorem EnF.eq {m m2 : List Int} (h : EnF g m) (h2 : EnF g m2) : m = m2 := h.1.ext h.2 h2.1 h2.2
theorem ending_spec (hg : GOk g) : ∃ m, gram_ending g = some m ∧ EnF g m := by
 have hn0 := hg.n0; have hn1 := hg.n1; have hln := hg.ln
 unfold gram_ending
 rw [G_pos (by unfold mkOK; omega)]
 obtain ⟨m, e, p, c⟩ := rounds_to (O := gram_ending_L3 g) (L := fun b t s => gram_ending_L6 g (gram_ending_L3 g) b t s) (N := (g.2.2.1.length : Int)) (P := EnM g) (cl := fun t m => ix m (ix g.2.2.1 t).1 = 0 → Un g m (ix g.2.2.1 t)) (μ := fun m => m.count 0) (by omega)
  (fun s _ => by rw [gram_ending_L3_eq]; unfold gram_ending_L3_B; rw [if_pos rfl]) (fun b t s t0 t1 hp => by
   have hr := hg.r t t0 t1
   have f0 := hr.f0; have f1 := hr.f1; have hl := hp.l
   have hno : ∀ again, gram_ending_J8 g again t s (gram_ending_L6 g (gram_ending_L3 g)) false = gram_ending_L6 g (gram_ending_L3 g) again (t + 1) s := fun again => by
    unfold gram_ending_J8; rw [if_neg (by simp), G_pos (by unfold fits; omega)]
   conv => enter [1, b', 1, s', 1, 1]; rw [gram_ending_L6_eq]; unfold gram_ending_L6_B
   rw [if_pos (decide_eq_true t1), G_pos ⟨t0, t1⟩, G_pos (by omega), G_pos (by omega)]
   by_cases c : ix s (ix g.2.2.1 t).1 = 0
   ·rw [if_pos (decide_eq_true c)]
    obtain ⟨y, ey, hy⟩ := un1 hg hl hr
    rw [show (g.1, (g.2.1, (g.2.2.1, ()))) = g from rfl, ey]
    cases y
    ·refine ⟨true, _, ?_, hp.put f0 f1 (.mk t t0 t1 (un_wh hg hp hr (by simp [← hy]))), .inr ⟨rfl, count_put (by omega) f0 (by omega) c⟩⟩
     show gram_ending_J8 g b t s _ true = _
     unfold gram_ending_J8
     rw [if_pos rfl, G_pos (by omega), G_pos (by omega), G_pos (by unfold fits; omega)]
    ·exact ⟨b, s, hno b, hp, .inl ⟨rfl, rfl, fun _ => hy.1 rfl⟩⟩
   ·rw [if_neg (by simpa using c)]
    exact ⟨b, s, hno b, hp, .inl ⟨rfl, rfl, fun h => absurd h c⟩⟩)
  (fun b s _ => by rw [gram_ending_L6_eq]; unfold gram_ending_L6_B; rw [if_neg (by simp)]) (s := List.replicate g.2.1.toNat 0) (.rep (by omega))
 refine ⟨m, ?_, en_fin hg p c⟩
 rw [e, gram_ending_L3_eq]; unfold gram_ending_L3_B; rw [if_neg (by simp)]
theorem r_ends_spec (hg : GOk g) : ∃ m, r17_Ends g = some m ∧ EnF g m := by
 have hn0 := hg.n0; have hn1 := hg.n1; have hln := hg.ln
 unfold r17_Ends
 rw [G_pos (by unfold mkOK; omega)]
 obtain ⟨m, e, p, c⟩ := rounds_to (O := r17_Ends_L3 g) (L := fun b t s => r17_Ends_L6 g (r17_Ends_L3 g) b t s) (N := (g.2.2.1.length : Int)) (P := EnM g) (cl := fun t m => ix m (ix g.2.2.1 t).1 = 0 → Un g m (ix g.2.2.1 t)) (μ := fun m => m.count 0) (by omega)
  (fun s _ => by rw [r17_Ends_L3_eq]; unfold r17_Ends_L3_B; rw [if_pos rfl]) (fun b t s t0 t1 hp => by
   have hr := hg.r t t0 t1
   have f0 := hr.f0; have f1 := hr.f1; have hl := hp.l
   have hno : ∀ again, r17_Ends_J9 g again t s (r17_Ends_L6 g (r17_Ends_L3 g)) false = r17_Ends_L6 g (r17_Ends_L3 g) again (t + 1) s := fun again => by
    unfold r17_Ends_J9; rw [if_neg (by simp), G_pos (by unfold fits; omega)]
   conv => enter [1, b', 1, s', 1, 1]; rw [r17_Ends_L6_eq]; unfold r17_Ends_L6_B
   rw [if_pos (decide_eq_true t1), G_pos ⟨t0, t1⟩]
   obtain ⟨y, ey, hy⟩ := whole_spec hg hl hr
   rw [show (g.1, (g.2.1, (g.2.2.1, ()))) = g from rfl, ey]
   cases y
   ·exact ⟨b, s, hno b, hp, .inl ⟨rfl, rfl, fun _ => Classical.not_not.1 (by simp [← hy])⟩⟩
   ·show ∃ b' s', G _ _ = _ ∧ _
    rw [G_pos ⟨t0, t1⟩, G_pos (by omega), G_pos (by omega)]
    by_cases c : ix s (ix g.2.2.1 t).1 = 0
    ·refine ⟨true, _, ?_, hp.put f0 f1 (.mk t t0 t1 (un_wh hg hp hr (hy.1 rfl))), .inr ⟨rfl, count_put (by omega) f0 (by omega) c⟩⟩
     unfold r17_Ends_J9
     rw [if_pos (decide_eq_true c), G_pos ⟨t0, t1⟩, G_pos (by omega), G_pos (by omega), G_pos (by unfold fits; omega)]
    ·rw [decide_eq_false c]
     exact ⟨b, s, hno b, hp, .inl ⟨rfl, rfl, fun h => absurd h c⟩⟩)
  (fun b s _ => by rw [r17_Ends_L6_eq]; unfold r17_Ends_L6_B; rw [if_neg (by simp)]) (s := List.replicate g.2.1.toNat 0) (.rep (by omega))
 refine ⟨m, ?_, en_fin hg p c⟩
 rw [e, r17_Ends_L3_eq]; unfold r17_Ends_L3_B; rw [if_neg (by simp)]
/-! ### the names that are met -/
abbrev MtM (g : Gm) (m : List Int) : Prop := Mks (0 : Int) 1 g.2.1 (Mt g) m ∧ (En g 0 → ix m 0 = 1)
def MtF (g : Gm) (m : List Int) : Prop := Mks (0 : Int) 1 g.2.1 (Mt g) m ∧ ∀ a, 0 ≤ a → a < g.2.1 → Mt g a → ix m a = 1
theorem MtF.eq {m m2 : List Int} (h : MtF g m) (h2 : MtF g m2) : m = m2 := h.1.ext h.2 h2.1 h2.2
theorem MtM.put {m : List Int} (h : MtM g m) {a : Int} (a0 : 0 ≤ a) (a1 : a < g.2.1) (pa : Mt g a) : MtM g (m.set a.toNat 1) :=
 ⟨h.1.put a0 a1 pa, fun e => by
  by_cases c : a = 0
  ·subst c; exact ix_set_same a0 (by rw [h.1.l]; exact a1)
  ·rw [ix_set_ne a0 (by omega) c]; exact h.2 e⟩
theorem mt_zero (hg : GOk g) {y : List Int} (h : EnF g y) : MtM g ((List.replicate g.2.1.toNat (0 : Int)).set (0 : Int).toNat (ix y 0)) := by
 have hn0 := hg.n0
 have hr := Mks.rep (z := (0 : Int)) (o := 1) (N := g.2.1) (P := Mt g) (by omega)
 have e0 : ix ((List.replicate g.2.1.toNat (0 : Int)).set (0 : Int).toNat (ix y 0)) 0 = ix y 0 := ix_set_same (by omega) (by simp; omega)
 refine ⟨⟨by simp; omega, fun a a0 a1 => ?_⟩, fun he => by rw [e0]; exact h.2 0 (by omega) (by omega) he⟩
 by_cases c : a = 0
 ·subst c
  rw [e0]
  rcases h.1.v 0 a0 a1 with e | ⟨e, p⟩
  ·exact .inl e
  ·exact .inr ⟨e, .zero p⟩
 ·rw [ix_set_ne (by omega) a0 (fun e => c e.symm)]; exact hr.v a a0 a1
/-- What the rule makes met is met. -/
def MtC (g : Gm) (m : List Int) (r : Rul) : Prop := ∀ i : Int, 0 ≤ i → i < r.2.1.length → g.1 ≤ ix r.2.1 i → ix m r.1 = 1 → ¬ ix m (ix r.2.1 i - g.1) = 0
theorem mt_fin (hg : GOk g) {m : List Int} (h : MtM g m) (hc : ∀ r ∈ g.2.2.1, Wh g r → MtC g m r) : MtF g m := by
 refine ⟨h.1, fun a a0 a1 ha => ?_⟩
 have key : ∀ a, Mt g a → ix m a = 1 := fun a ha => by
  induction ha with
  | zero e => exact h.2 e
  | step r hr hw hm s hs hl ih =>
   obtain ⟨i, i0, i1, rfl⟩ := mem_ix hs
   obtain ⟨b0, b1⟩ := (hg.rm hr).nm hg hs hl
   exact (h.1.one b0 b1 (hc r hr hw i i0 i1 hl ih)).1
 exact key a ha
/-- The whole rules. -/
structure WL (g : Gm) (l : List Rul) : Prop where
 ln : l.length ≤ 20
 m : ∀ x, x ∈ l ↔ x ∈ g.2.2.1 ∧ Wh g x
theorem met_spec (hg : GOk g) {l : List Rul} (hl : WL g l) {m0 : List Int} (h0 : MtM g m0) : ∃ m, gram_useful_L12 g l true m0 = gram_useful_L12 g l false m ∧ MtF g m := by
 have hn0 := hg.n0; have hn1 := hg.n1; have hln := hl.ln; have ha0 := hg.a0; have ha1 := hg.a1
 obtain ⟨m, e, p, c⟩ := rounds_to (O := gram_useful_L12 g l) (L := fun b t s => gram_useful_L15 g l (gram_useful_L12 g l) b t s) (N := (l.length : Int)) (P := MtM g) (cl := fun t m => MtC g m (ix l t)) (μ := fun m => m.count 0) (by omega)
  (fun s _ => by rw [gram_useful_L12_eq]; unfold gram_useful_L12_B; rw [if_pos rfl]) (fun b t s t0 t1 hp => by
   have hmem := (hl.m _).1 (ix_mem t0 t1)
   have hr := hg.rm hmem.1
   have f0 := hr.f0; have f1 := hr.f1; have hrl := hr.l
   conv => enter [1, b', 1, s', 1, 1]; rw [gram_useful_L15_eq]; unfold gram_useful_L15_B
   rw [if_pos (decide_eq_true t1), G_pos ⟨t0, t1⟩, G_pos (by omega)]
   generalize hre : ix l t = r at *
   obtain ⟨b', s', e, p, c⟩ := pass_to (L := fun b i s => gram_useful_L18 g l t (gram_useful_L15 g l (gram_useful_L12 g l)) b i s) (N := (r.2.1.length : Int)) (P := MtM g) (cl := fun i m => g.1 ≤ ix r.2.1 i → ix m r.1 = 1 → ¬ ix m (ix r.2.1 i - g.1) = 0) (μ := fun m => m.count 0) (by omega) (fun b i s i0 i1 hp => by
    have hx := ix_mem i0 i1
    have hsl := hp.1.l
    have hno : ∀ again, gram_useful_J20 g l t again i s (gram_useful_L18 g l t (gram_useful_L15 g l (gram_useful_L12 g l))) false = gram_useful_L18 g l t (gram_useful_L15 g l (gram_useful_L12 g l)) again (i + 1) s := fun again => by
     unfold gram_useful_J20; rw [if_neg (by simp), G_pos (by unfold fits; omega)]
    conv => enter [1, b', 1, s', 1, 1]; rw [gram_useful_L18_eq]; unfold gram_useful_L18_B
    rw [hre, if_pos (decide_eq_true i1), G_pos ⟨i0, i1⟩]
    by_cases c1 : g.1 ≤ ix r.2.1 i
    ·obtain ⟨b0, b1⟩ := hr.nm hg hx c1
     rw [if_pos (decide_eq_true c1), G_pos (by omega), G_pos (by omega)]
     by_cases c2 : ix s r.1 = 1
     ·rw [if_pos (decide_eq_true c2), G_pos (by unfold fits; omega), G_pos (by omega), G_pos (by omega)]
      by_cases c3 : ix s (ix r.2.1 i - g.1) = 0
      ·refine ⟨true, _, ?_, hp.put b0 b1 (.step r hmem.1 hmem.2 (hp.1.one f0 f1 (by omega)).2 _ hx c1), .inr ⟨rfl, count_put (by omega) b0 (by omega) c3⟩⟩
       unfold gram_useful_J20
       rw [hre, if_pos (decide_eq_true c3), G_pos (by unfold fits; omega), G_pos (by omega), G_pos (by omega), G_pos (by unfold fits; omega)]
      ·rw [decide_eq_false c3]
       exact ⟨b, s, hno b, hp, .inl ⟨rfl, rfl, fun _ _ => c3⟩⟩
     ·rw [if_neg (by simpa using c2)]
      exact ⟨b, s, hno b, hp, .inl ⟨rfl, rfl, fun _ h => absurd h c2⟩⟩
    ·rw [if_neg (by simpa using c1)]
     exact ⟨b, s, hno b, hp, .inl ⟨rfl, rfl, fun h => absurd h c1⟩⟩) b s hp
   refine ⟨b', s', e.trans ?_, p, c⟩
   show gram_useful_L18 _ _ _ _ _ _ _ = _
   rw [gram_useful_L18_eq]; unfold gram_useful_L18_B
   rw [hre, if_neg (by simp), G_pos (by unfold fits; omega)])
  (fun b s _ => by rw [gram_useful_L15_eq]; unfold gram_useful_L15_B; rw [if_neg (by simp)]) h0
 refine ⟨m, e, mt_fin hg p fun r hr hw => ?_⟩
 obtain ⟨i, i0, i1, rfl⟩ := mem_ix ((hl.m r).2 ⟨hr, hw⟩)
 exact c i i0 i1
theorem r_met_spec (hg : GOk g) {y : List Int} (hy : EnF g y) {m0 : List Int} (h0 : MtM g m0) : ∃ m, r17_Met_L5 g y true m0 = some m ∧ MtF g m := by
 have hn0 := hg.n0; have hn1 := hg.n1; have hln := hg.ln; have ha0 := hg.a0; have ha1 := hg.a1
 obtain ⟨m, e, p, c⟩ := rounds_to (O := r17_Met_L5 g y) (L := fun b t s => r17_Met_L8 g y (r17_Met_L5 g y) b t s) (N := (g.2.2.1.length : Int)) (P := MtM g) (cl := fun t m => Wh g (ix g.2.2.1 t) → MtC g m (ix g.2.2.1 t)) (μ := fun m => m.count 0) (by omega)
  (fun s _ => by rw [r17_Met_L5_eq]; unfold r17_Met_L5_B; rw [if_pos rfl]) (fun b t s t0 t1 hp => by
   have hmem := ix_mem t0 t1
   have hr := hg.rm hmem
   have f0 := hr.f0; have f1 := hr.f1; have hrl := hr.l
   conv => enter [1, b', 1, s', 1, 1]; rw [r17_Met_L8_eq]; unfold r17_Met_L8_B
   rw [if_pos (decide_eq_true t1), G_pos ⟨t0, t1⟩]
   obtain ⟨yw, ey, hyw⟩ := whole_spec hg hy.1.l hr
   rw [un_iff hg hy hr] at hyw
   rw [show (g.1, (g.2.1, (g.2.2.1, ()))) = g from rfl, show ((ix g.2.2.1 t).1, (((ix g.2.2.1 t).2).1, ())) = ix g.2.2.1 t from rfl, ey]
   show ∃ b' s', r17_Met_L13 g t (r17_Met_L8 g y (r17_Met_L5 g y)) yw b 0 s = _ ∧ _
   generalize hre : ix g.2.2.1 t = r at *
   have hend : ∀ b i s, (i < (r.2.1.length : Int) → yw = false ∨ ¬ ix s r.1 = 1) → MtM g s → r17_Met_L13 g t (r17_Met_L8 g y (r17_Met_L5 g y)) yw b i s = r17_Met_L8 g y (r17_Met_L5 g y) b (t + 1) s := fun b i s h hp => by
    have hsl := hp.1.l
    rw [r17_Met_L13_eq]; unfold r17_Met_L13_B
    rw [hre]
    by_cases c : i < (r.2.1.length : Int)
    ·rw [if_pos (decide_eq_true c)]
     rcases h c with h2 | h2
     ·rw [h2, if_neg (by simp), G_pos (by unfold fits; omega)]
     ·cases yw
      ·rw [if_neg (by simp), G_pos (by unfold fits; omega)]
      ·rw [if_pos rfl, G_pos (by omega), G_pos (by omega), if_neg (by simpa using h2), G_pos (by unfold fits; omega)]
    ·rw [if_neg (by simpa using c), G_pos (by unfold fits; omega)]
   cases yw with
   | false => exact ⟨b, s, hend b 0 s (fun _ => .inl rfl) hp, hp, .inl ⟨rfl, rfl, fun hw => by simpa using hyw.2 hw⟩⟩
   | true =>
    have hw := hyw.1 rfl
    by_cases c2 : ix s r.1 = 1
    ·obtain ⟨b', s', e, p, c⟩ := pass_to (L := fun b i s => r17_Met_L13 g t (r17_Met_L8 g y (r17_Met_L5 g y)) true b i s) (N := (r.2.1.length : Int)) (P := fun s => MtM g s ∧ ix s r.1 = 1) (cl := fun i m => g.1 ≤ ix r.2.1 i → ¬ ix m (ix r.2.1 i - g.1) = 0) (μ := fun m => m.count 0) (by omega) (fun b i s i0 i1 hp => by
      have hx := ix_mem i0 i1
      have hsl := hp.1.1.l
      have hno : ∀ again, r17_Met_J15 g t again i s (r17_Met_L13 g t (r17_Met_L8 g y (r17_Met_L5 g y)) true) false = r17_Met_L13 g t (r17_Met_L8 g y (r17_Met_L5 g y)) true again (i + 1) s := fun again => by
       unfold r17_Met_J15; rw [if_neg (by simp), G_pos (by unfold fits; omega)]
      conv => enter [1, b', 1, s', 1, 1]; rw [r17_Met_L13_eq]; unfold r17_Met_L13_B
      rw [hre, if_pos (decide_eq_true i1), if_pos rfl, G_pos (by omega), G_pos (by omega), if_pos (decide_eq_true hp.2), G_pos ⟨i0, i1⟩]
      by_cases c1 : g.1 ≤ ix r.2.1 i
      ·obtain ⟨b0, b1⟩ := hr.nm hg hx c1
       rw [if_pos (decide_eq_true c1), G_pos ⟨i0, i1⟩, G_pos (by unfold fits; omega), G_pos (by omega), G_pos (by omega)]
       by_cases c3 : ix s (ix r.2.1 i - g.1) = 0
       ·refine ⟨true, _, ?_, ⟨hp.1.put b0 b1 (.step r hmem hw (hp.1.1.one f0 f1 (by omega)).2 _ hx c1), ?_⟩, .inr ⟨rfl, count_put (by omega) b0 (by omega) c3⟩⟩
        ·unfold r17_Met_J15
         rw [hre, if_pos (decide_eq_true c3), G_pos ⟨i0, i1⟩, G_pos (by unfold fits; omega), G_pos (by omega), G_pos (by omega), G_pos (by unfold fits; omega)]
        ·rw [ix_set_ne b0 f0 (fun e => by rw [e] at c3; omega)]; exact hp.2
       ·rw [decide_eq_false c3]
        exact ⟨b, s, hno b, hp, .inl ⟨rfl, rfl, fun _ => c3⟩⟩
      ·rw [if_neg (by simpa using c1)]
       exact ⟨b, s, hno b, hp, .inl ⟨rfl, rfl, fun h => absurd h c1⟩⟩) b s ⟨hp, c2⟩
     refine ⟨b', s', e.trans (hend b' _ s' (fun h => by omega) p.1), p.1, ?_⟩
     rcases c with ⟨e1, e2, c⟩ | c
     ·exact .inl ⟨e1, e2, fun _ i i0 i1 h _ => c i i0 i1 h⟩
     ·exact .inr c
    ·exact ⟨b, s, hend b 0 s (fun _ => .inr c2) hp, hp, .inl ⟨rfl, rfl, fun _ i _ _ _ h => absurd h c2⟩⟩)
  (fun b s _ => by rw [r17_Met_L8_eq]; unfold r17_Met_L8_B; rw [if_neg (by simp)]) h0
 refine ⟨m, ?_, mt_fin hg p fun r hr hw => ?_⟩
 ·rw [e, r17_Met_L5_eq]; unfold r17_Met_L5_B; rw [if_neg (by simp)]
 ·obtain ⟨i, i0, i1, rfl⟩ := mem_ix hr
  exact c i i0 i1 hw
theorem r17_Met_spec (hg : GOk g) : ∃ m, r17_Met g = some m ∧ MtF g m := by
 have hn0 := hg.n0; have hn1 := hg.n1
 obtain ⟨y, e, hy⟩ := r_ends_spec hg
 have hyl := hy.1.l
 obtain ⟨m, e2, hm⟩ := r_met_spec hg hy (mt_zero hg hy)
 refine ⟨m, ?_, hm⟩
 unfold r17_Met
 rw [show (g.1, (g.2.1, (g.2.2.1, ()))) = g from rfl, e]
 show G _ _ = _
 rw [G_pos (by unfold mkOK; omega), G_pos (by omega), G_pos (by show (0 : Int).toNat < y.length; omega), G_pos (by simp; omega), G_pos (by simp; omega)]
 exact e2
/-- The whole rules of names that are met. -/
structure UL (g : Gm) (l : List Rul) : Prop where
 ln : l.length ≤ 20
 m : ∀ x, x ∈ l ↔ x ∈ g.2.2.1 ∧ Wh g x ∧ Mt g x.1
theorem del_spec (hg : GOk g) {l : List Rul} (hl : WL g l) {m : List Int} (hm : MtF g m) : ∃ l2, slices_DeleteFunc_1 l m = some (l2, m) ∧ UL g l2 := by
 have hln := hl.ln; have hn1 := hg.n1; have hml := hm.1.l
 have hf : ∀ x ∈ l, gram_useful_2 x m = some (decide (ix m x.1 = 0)) := fun x hx => by
  have hr := hg.rm ((hl.m x).1 hx).1
  have := hr.f0; have := hr.f1
  unfold gram_useful_2; rw [G_pos (by omega)]
 have hiff : ∀ x ∈ l, ¬ ix m x.1 = 0 ↔ Mt g x.1 := fun x hx => by
  have hr := hg.rm ((hl.m x).1 hx).1
  exact ⟨fun h => (hm.1.one hr.f0 hr.f1 h).2, fun h e => by have := hm.2 _ hr.f0 hr.f1 h; omega⟩
 obtain ⟨i, ei, hi⟩ := index_loop (s := l) (f := fun x => gram_useful_2 x m) (L := fun t => slices_IndexFunc_3_L2 l m t) (P := fun x => ix m x.1 = 0) (by omega) (fun t => slices_IndexFunc_3_L2_eq _ _ _) (fun x hx => ⟨_, hf x hx, by simp⟩) _ 0 (by omega) (by omega) rfl
 have e0 : slices_IndexFunc_3 l m = some i := ei
 unfold slices_DeleteFunc_1
 rw [e0]
 show ∃ l2, (if decide (i = -1) = true then _ else _) = _ ∧ _
 rcases hi with ⟨rfl, hno⟩ | ⟨i0, i1, hd, hb⟩
 ·refine ⟨l, by rw [if_pos (by decide)], hln, fun x => ⟨fun hx => ?_, fun h => (hl.m x).2 ⟨h.1, h.2.1⟩⟩⟩
  obtain ⟨a, b⟩ := (hl.m x).1 hx
  refine ⟨a, b, (hiff x hx).1 ?_⟩
  obtain ⟨j, j0, j1, rfl⟩ := mem_ix hx
  exact hno j j0 j1
 ·rw [if_neg (by simp only [decide_eq_true_eq]; omega), G_pos (by unfold fits; omega)]
  obtain ⟨r, e, rl, hr⟩ := delete_loop (l := l) (D := fun x => ix m x.1 = 0) (L := fun i j s => slices_DeleteFunc_1_L5 m i j s) (E := fun r => some (r, m)) (by omega)
   (fun i j s i0 ij j1 sl sx => by
    have hx := ix_mem (l := l) (by omega : 0 ≤ j) j1
    refine ⟨fun hd => ?_, fun hd => ?_⟩
    ·conv => lhs; rw [slices_DeleteFunc_1_L5_eq]; unfold slices_DeleteFunc_1_L5_B
     rw [if_pos (by simp only [decide_eq_true_eq]; omega), G_pos (by omega), G_pos (by omega), sx, show ((ix l j).1, (((ix l j).2).1, ())) = ix l j from rfl, hf _ hx, decide_eq_true hd]
     show G _ _ = _
     rw [G_pos (by unfold fits; omega)]
    ·conv => lhs; rw [slices_DeleteFunc_1_L5_eq]; unfold slices_DeleteFunc_1_L5_B
     rw [if_pos (by simp only [decide_eq_true_eq]; omega), G_pos (by omega), G_pos (by omega), sx, show ((ix l j).1, (((ix l j).2).1, ())) = ix l j from rfl, hf _ hx, decide_eq_false hd]
     show G _ _ = _
     rw [G_pos (by omega), G_pos (by omega), G_pos (by unfold fits; omega), G_pos (by unfold fits; omega)])
   (fun i s i0 i1 sl => by
    rw [slices_DeleteFunc_1_L5_eq]; unfold slices_DeleteFunc_1_L5_B
    rw [if_neg (by simp only [decide_eq_true_eq]; omega), G_pos (by omega), G_pos (by omega), G_pos (by simp; omega)]
    congr 2
    rw [List.append_assoc, List.take_append_of_le_length (by simp; omega), List.take_take, Nat.min_self])
   _ i (i + 1) l i0 (by omega) (by omega) rfl rfl (fun k _ _ => rfl) (fun x => by
    rw [ix_take i0 i1, List.mem_append, List.mem_singleton]
    constructor
    ·intro hx
     refine ⟨.inl hx, ?_⟩
     obtain ⟨j, j0, j1, rfl⟩ := mem_ix hx
     have hj : j < i := by rw [List.length_take] at j1; omega
     rw [ix_take' j0 (by omega)]
     exact hb j j0 hj
    ·rintro ⟨h | rfl, hh⟩
     ·exact h
     ·exact absurd hd hh)
  refine ⟨r, e, by omega, fun x => ?_⟩
  rw [hr]
  exact ⟨fun ⟨a, b⟩ => ⟨((hl.m x).1 a).1, ((hl.m x).1 a).2, (hiff x a).1 b⟩, fun ⟨a, b, c⟩ => by
   have := (hl.m x).2 ⟨a, b⟩
   exact ⟨this, (hiff x this).2 c⟩⟩
theorem useful_spec (hg : GOk g) : ∃ l m, gram_useful g = some (l, m) ∧ UL g l ∧ MtF g m := by
 have hn0 := hg.n0; have hn1 := hg.n1; have hln := hg.ln
 obtain ⟨y, e, hy⟩ := ending_spec hg
 have hyl := hy.1.l
 unfold gram_useful
 rw [show (g.1, (g.2.1, (g.2.2.1, ()))) = g from rfl, e]
 show ∃ l m, gram_useful_L4 g y 0 [] = _ ∧ _
 have key : ∀ (n : Nat) (t : Int) (l : List Rul), 0 ≤ t → t ≤ g.2.2.1.length → ((g.2.2.1.length : Int) - t).toNat = n → l.length ≤ t → (∀ x, x ∈ l ↔ x ∈ g.2.2.1.take t.toNat ∧ Wh g x) → ∃ l', WL g l' ∧ gram_useful_L4 g y t l = gram_useful_L4 g y g.2.2.1.length l' := by
  intro n
  induction n with
  | zero =>
   intro t l t0 t1 hn hl hx
   obtain rfl : t = g.2.2.1.length := by omega
   exact ⟨l, ⟨by omega, fun x => by rw [hx, Int.toNat_natCast, List.take_length]⟩, rfl⟩
  | succ n ih =>
   intro t l t0 t1 hn hl hx
   have hlt : t < g.2.2.1.length := by omega
   have hr := hg.r t t0 hlt
   have et := ix_take (l := g.2.2.1) t0 hlt
   rw [gram_useful_L4_eq]; unfold gram_useful_L4_B
   rw [if_pos (decide_eq_true hlt), G_pos ⟨t0, hlt⟩]
   obtain ⟨b, eb, hb⟩ := un2 hg hyl hr
   rw [show (g.1, (g.2.1, (g.2.2.1, ()))) = g from rfl, eb]
   have hw := un_iff hg hy hr
   cases b with
   | false =>
    have hw := hw.1 (by simp [← hb])
    obtain ⟨l', w, e⟩ := ih (t + 1) (l ++ [ix g.2.2.1 t]) (by omega) (by omega) (by omega) (by simp; omega) (fun x => by
     rw [et, List.mem_append, List.mem_append, hx, List.mem_singleton]
     constructor
     ·rintro (⟨a, b⟩ | rfl)
      ·exact ⟨.inl a, b⟩
      ·exact ⟨.inr rfl, hw⟩
     ·rintro ⟨a | rfl, b⟩
      ·exact .inl ⟨a, b⟩
      ·exact .inr rfl)
    refine ⟨l', w, ?_⟩
    show G _ _ = _
    rw [G_pos (room_of (by simp; omega)), G_pos (by unfold fits; omega)]
    exact e
   | true =>
    have hw : ¬ Wh g (ix g.2.2.1 t) := fun h => hw.2 h (hb.1 rfl)
    obtain ⟨l', w, e⟩ := ih (t + 1) l (by omega) (by omega) (by omega) (by omega) (fun x => by
     rw [et, List.mem_append, hx, List.mem_singleton]
     constructor
     ·rintro ⟨a, b⟩; exact ⟨.inl a, b⟩
     ·rintro ⟨a | rfl, b⟩
      ·exact ⟨a, b⟩
      ·exact absurd b hw)
    refine ⟨l', w, ?_⟩
    show G _ _ = _
    rw [G_pos (by unfold fits; omega)]
    exact e
 obtain ⟨l, hl, e1⟩ := key _ 0 [] (Int.le_refl _) (by omega) rfl (by simp) (by simp)
 obtain ⟨m, e2, hm⟩ := met_spec hg hl (mt_zero hg hy)
 obtain ⟨l2, e3, hl2⟩ := del_spec hg hl hm
 refine ⟨l2, m, ?_, hl2, hm⟩
 rw [e1, gram_useful_L4_eq]; unfold gram_useful_L4_B
 rw [if_neg (by simp), G_pos (by unfold mkOK; omega), G_pos (by omega), G_pos (by show (0 : Int).toNat < y.length; omega), G_pos (by simp; omega), G_pos (by simp; omega), e2, gram_useful_L12_eq]; unfold gram_useful_L12_B
 rw [if_neg (by simp)]
 refine both_to ?_ ?_ <;> (rw [e3]; rfl)
/-! ### names that come to a word with letters -/
abbrev FuM (g : Gm) (m : List Bool) : Prop := Mks false true g.2.1 (Fu g) m
def Has (g : Gm) (m : List Bool) (s : Int) : Prop := s < g.1 ∨ (g.1 ≤ s ∧ ix m (s - g.1) = true)
theorem has_tells (hg : GOk g) {m : List Bool} (hm : (m.length : Int) = g.2.1) {x : Int} (hx : 0 ≤ x ∧ x < g.1 + g.2.1) : Tells (gram_Endless_1 x g m) (Has g m x) := by
 have := hg.n1; have := hg.a0; have := hg.a1
 unfold gram_Endless_1 Has
 by_cases c : x < g.1
 ·rw [if_pos (decide_eq_true c)]; exact Tells.of (by simp [c])
 ·rw [if_neg (by simpa using c), G_pos (by unfold fits; omega), G_pos (by omega)]
  exact Tells.of ⟨fun h => .inr ⟨by omega, h⟩, fun h => (h.resolve_left c).2⟩
theorem hasl_tells (hg : GOk g) {m : List Bool} (hm : (m.length : Int) = g.2.1) {l : List Int} (hl : l.length ≤ 100) (hx : ∀ x ∈ l, 0 ≤ x ∧ x < g.1 + g.2.1) : Tells (slices_ContainsFunc_3 l g m) (∃ x ∈ l, Has g m x) :=
 contains_tells (f := fun x => gram_Endless_1 x g m) (slices_IndexFunc_4_L2_eq l g m) (by omega) (fun x h => has_tells hg hm (hx x h))
theorem has_fu (hg : GOk g) {m : List Bool} (h : FuM g m) {r : Rul} (hr : r ∈ g.2.2.1) (hw : Wh g r) {s : Int} (hs : s ∈ r.2.1) (hh : Has g m s) : Fu g r.1 := by
 rcases hh with a | ⟨a, b⟩
 ·exact .letter r hr hw s hs a
 ·obtain ⟨b0, b1⟩ := (hg.rm hr).nm hg hs a
  exact .name r hr hw s hs a (h.one b0 b1 (by simp [b])).2
/-- Right for the names that are met. -/
def FuF (g : Gm) (m : List Bool) : Prop := FuM g m ∧ ∀ a, Mt g a → Fu g a → ix m a = true
theorem FuF.iff {m : List Bool} (h : FuF g m) {a : Int} (a0 : 0 ≤ a) (a1 : a < g.2.1) (hm : Mt g a) : ix m a = true ↔ Fu g a :=
 ⟨fun e => (h.1.one a0 a1 (by simp [e])).2, h.2 a hm⟩
theorem full_spec (hg : GOk g) {l : List Rul} (hl : UL g l) : ∃ m, gram_Endless_L8 l true g.1 g.2.1 g.2.2.1 (List.replicate g.2.1.toNat false) = gram_Endless_L8 l false g.1 g.2.1 g.2.2.1 m ∧ FuF g m := by
 have hn0 := hg.n0; have hn1 := hg.n1; have hln := hl.ln; have ha0 := hg.a0; have ha1 := hg.a1
 obtain ⟨m, e, p, c⟩ := rounds_to (O := fun b m => gram_Endless_L8 l b g.1 g.2.1 g.2.2.1 m) (L := fun b t s => gram_Endless_L11 l (gram_Endless_L8 l) b t g.1 g.2.1 g.2.2.1 s) (N := (l.length : Int)) (P := FuM g) (cl := fun t m => ix m (ix l t).1 = false → ¬ ∃ s ∈ (ix l t).2.1, Has g m s) (μ := fun m => m.count false) (by omega)
  (fun s _ => by rw [gram_Endless_L8_eq]; unfold gram_Endless_L8_B; rw [if_pos rfl]) (fun b t s t0 t1 hp => by
   have hmem := (hl.m _).1 (ix_mem t0 t1)
   have hr := hg.rm hmem.1
   have f0 := hr.f0; have f1 := hr.f1; have hrl := hr.l; have hsl := hp.l
   have hno : ∀ again, gram_Endless_J13 l again t g.1 g.2.1 g.2.2.1 s (gram_Endless_L11 l (gram_Endless_L8 l)) false = gram_Endless_L11 l (gram_Endless_L8 l) again (t + 1) g.1 g.2.1 g.2.2.1 s := fun again => by
    unfold gram_Endless_J13; rw [if_neg (by simp), G_pos (by unfold fits; omega)]
   conv => enter [1, b', 1, s', 1, 1]; rw [gram_Endless_L11_eq]; unfold gram_Endless_L11_B
   rw [if_pos (decide_eq_true t1), G_pos ⟨t0, t1⟩, G_pos (by omega), G_pos (by omega), G_pos (by omega)]
   cases c : ix s (ix l t).1 with
   | false =>
    rw [if_pos (by simp)]
    obtain ⟨y, ey, hy⟩ := hasl_tells hg hsl (by omega) hr.s
    rw [show (g.1, (g.2.1, (g.2.2.1, ()))) = g from rfl, ey]
    cases y
    ·exact ⟨b, s, hno b, hp, .inl ⟨rfl, rfl, fun _ => by simp [← hy]⟩⟩
    ·obtain ⟨x, hx, hh⟩ := hy.1 rfl
     refine ⟨true, _, ?_, hp.put f0 f1 (has_fu hg hp hmem.1 hmem.2.1 hx hh), .inr ⟨rfl, count_put (by simp) f0 (by omega) c⟩⟩
     show gram_Endless_J13 _ _ _ _ _ _ _ _ true = _
     unfold gram_Endless_J13
     rw [if_pos rfl, G_pos (by omega), G_pos (by omega), G_pos (by unfold fits; omega)]
   | true =>
    rw [if_neg (by simp)]
    exact ⟨b, s, hno b, hp, .inl ⟨rfl, rfl, fun h => by simp [c] at h⟩⟩)
  (fun b s _ => by rw [gram_Endless_L11_eq]; unfold gram_Endless_L11_B; rw [if_neg (by simp)]) (s := List.replicate g.2.1.toNat false) (.rep (by omega))
 refine ⟨m, e, p, fun a hma ha => ?_⟩
 have key : ∀ (r : Rul) (hr : r ∈ g.2.2.1) (hw : Wh g r), Mt g r.1 → (∃ s ∈ r.2.1, Has g m s) → ix m r.1 = true := fun r hr hw hm hs => by
  obtain ⟨i, i0, i1, rfl⟩ := mem_ix ((hl.m r).2 ⟨hr, hw, hm⟩)
  cases e : ix m (ix l i).1 with
  | true => rfl
  | false => exact absurd hs (c i i0 i1 e)
 induction ha with
 | letter r hr hw s hs h => exact key r hr hw hma ⟨s, hs, .inl h⟩
 | name r hr hw s hs hl h ih => exact key r hr hw hma ⟨s, hs, .inr ⟨hl, ih (.step r hr hw hma s hs hl)⟩⟩
/-! ### the reference's -/
theorem r_full_spec (hg : GOk g) {y z : List Int} (hy : EnF g y) : ∃ m, r17_Endless_L5 g y z true (List.replicate g.2.1.toNat false) = r17_Endless_L5 g y z false m ∧ FuM g m ∧ ∀ a, Fu g a → ix m a = true := by
 have hn0 := hg.n0; have hn1 := hg.n1; have hln := hg.ln; have ha0 := hg.a0; have ha1 := hg.a1
 obtain ⟨m, e, p, c⟩ := rounds_to (O := r17_Endless_L5 g y z) (L := fun b t s => r17_Endless_L8 g y (r17_Endless_L5 g y z) b t s) (N := (g.2.2.1.length : Int)) (P := FuM g) (cl := fun t m => Wh g (ix g.2.2.1 t) → ∀ i : Int, 0 ≤ i → i < (ix g.2.2.1 t).2.1.length → Has g m (ix (ix g.2.2.1 t).2.1 i) → ¬ ix m (ix g.2.2.1 t).1 = false) (μ := fun m => m.count false) (by omega)
  (fun s _ => by rw [r17_Endless_L5_eq]; unfold r17_Endless_L5_B; rw [if_pos rfl]) (fun b t s t0 t1 hp => by
   have hmem := ix_mem t0 t1
   have hr := hg.rm hmem
   have f0 := hr.f0; have f1 := hr.f1; have hrl := hr.l
   conv => enter [1, b', 1, s', 1, 1]; rw [r17_Endless_L8_eq]; unfold r17_Endless_L8_B
   rw [if_pos (decide_eq_true t1), G_pos ⟨t0, t1⟩]
   obtain ⟨yw, ey, hyw⟩ := whole_spec hg hy.1.l hr
   rw [un_iff hg hy hr] at hyw
   rw [show (g.1, (g.2.1, (g.2.2.1, ()))) = g from rfl, show ((ix g.2.2.1 t).1, (((ix g.2.2.1 t).2).1, ())) = ix g.2.2.1 t from rfl, ey]
   show ∃ b' s', r17_Endless_L13 g t (r17_Endless_L8 g y (r17_Endless_L5 g y z)) yw b 0 s = _ ∧ _
   generalize hre : ix g.2.2.1 t = r at *
   have hend : ∀ b i s, (i < (r.2.1.length : Int) → yw = false) → r17_Endless_L13 g t (r17_Endless_L8 g y (r17_Endless_L5 g y z)) yw b i s = r17_Endless_L8 g y (r17_Endless_L5 g y z) b (t + 1) s := fun b i s h => by
    rw [r17_Endless_L13_eq]; unfold r17_Endless_L13_B
    rw [hre]
    by_cases c : i < (r.2.1.length : Int)
    ·rw [if_pos (decide_eq_true c), h c, if_neg (by simp), G_pos (by unfold fits; omega)]
    ·rw [if_neg (by simpa using c), G_pos (by unfold fits; omega)]
   cases yw with
   | false => exact ⟨b, s, hend b 0 s (fun _ => rfl), hp, .inl ⟨rfl, rfl, fun hw => by simpa using hyw.2 hw⟩⟩
   | true =>
    have hw := hyw.1 rfl
    obtain ⟨b', s', e, p, c⟩ := pass_to (L := fun b i s => r17_Endless_L13 g t (r17_Endless_L8 g y (r17_Endless_L5 g y z)) true b i s) (N := (r.2.1.length : Int)) (P := FuM g) (cl := fun i m => Has g m (ix r.2.1 i) → ¬ ix m r.1 = false) (μ := fun m => m.count false) (by omega) (fun b i s i0 i1 hp => by
     have hx := ix_mem i0 i1
     have hsl := hp.l
     have hxr := hr.s _ hx
     have hno : ∀ again, r17_Endless_J15 g t again i s (r17_Endless_L13 g t (r17_Endless_L8 g y (r17_Endless_L5 g y z)) true) false = r17_Endless_L13 g t (r17_Endless_L8 g y (r17_Endless_L5 g y z)) true again (i + 1) s := fun again => by
      unfold r17_Endless_J15; rw [if_neg (by simp), G_pos (by unfold fits; omega)]
     have hput : Has g s (ix r.2.1 i) → ∃ b' s', r17_Endless_J15 g t b i s (r17_Endless_L13 g t (r17_Endless_L8 g y (r17_Endless_L5 g y z)) true) (!(ix s r.1)) = r17_Endless_L13 g t (r17_Endless_L8 g y (r17_Endless_L5 g y z)) true b' (i + 1) s' ∧ FuM g s' ∧ ((b' = b ∧ s' = s ∧ (Has g s (ix r.2.1 i) → ¬ ix s r.1 = false)) ∨ (b' = true ∧ s'.count false < s.count false)) := fun hh => by
      cases c : ix s r.1 with
      | false =>
       refine ⟨true, _, ?_, hp.put f0 f1 (has_fu hg hp hmem hw hx hh), .inr ⟨rfl, count_put (by simp) f0 (by omega) c⟩⟩
       unfold r17_Endless_J15
       rw [hre, if_pos (by simp), G_pos (by omega), G_pos (by omega), G_pos (by unfold fits; omega)]
      | true => exact ⟨b, s, hno b, hp, .inl ⟨rfl, rfl, fun _ h => by simp at h⟩⟩
     conv => enter [1, b', 1, s', 1, 1]; rw [r17_Endless_L13_eq]; unfold r17_Endless_L13_B
     rw [hre, if_pos (decide_eq_true i1), if_pos rfl, G_pos ⟨i0, i1⟩]
     by_cases c1 : ix r.2.1 i < g.1
     ·rw [if_pos (decide_eq_true c1), G_pos (by omega), G_pos (by omega)]
      exact hput (.inl c1)
     ·rw [if_neg (by simpa using c1), G_pos ⟨i0, i1⟩, G_pos (by unfold fits; omega), G_pos (by omega)]
      rw [G_pos (by omega)]
      cases c2 : ix s (ix r.2.1 i - g.1) with
      | true =>
       rw [if_pos rfl, G_pos (by omega), G_pos (by omega)]
       exact hput (.inr ⟨by omega, c2⟩)
      | false =>
       rw [if_neg (by simp)]
       exact ⟨b, s, hno b, hp, .inl ⟨rfl, rfl, fun h => by
        rcases h with h | h
        ·exact absurd h c1
        ·rw [c2] at h; simp at h⟩⟩) b s hp
    refine ⟨b', s', e.trans (hend b' _ s' (fun h => by omega)), p, ?_⟩
    rcases c with ⟨e1, e2, c⟩ | c
    ·exact .inl ⟨e1, e2, fun _ i i0 i1 h => c i i0 i1 h⟩
    ·exact .inr c)
  (fun b s _ => by rw [r17_Endless_L8_eq]; unfold r17_Endless_L8_B; rw [if_neg (by simp)]) (s := List.replicate g.2.1.toNat false) (.rep (by omega))
 refine ⟨m, e, p, fun a ha => ?_⟩
 have key : ∀ (r : Rul) (hr : r ∈ g.2.2.1) (hw : Wh g r) (s : Int), s ∈ r.2.1 → Has g m s → ix m r.1 = true := fun r hr hw s hs h => by
  obtain ⟨k, k0, k1, rfl⟩ := mem_ix hr
  obtain ⟨i, i0, i1, rfl⟩ := mem_ix hs
  simpa using c k k0 k1 hw i i0 i1 h
 induction ha with
 | letter r hr hw s hs h => exact key r hr hw s hs (.inl h)
 | name r hr hw s hs hl h ih => exact key r hr hw s hs (.inr ⟨hl, ih⟩)
/-- Something else of the rule has letters. -/
def Mo (g : Gm) (r : Rul) (i : Int) : Prop := ∃ j : Int, 0 ≤ j ∧ j < r.2.1.length ∧ j ≠ i ∧ (ix r.2.1 j < g.1 ∨ (g.1 ≤ ix r.2.1 j ∧ Fu g (ix r.2.1 j - g.1)))
inductive Rc (g : Gm) (a : Int) : Int → Prop where
 | refl : Rc g a a
 | step (r : Rul) (hr : r ∈ g.2.2.1) (hw : Wh g r) (h : Rc g a r.1) (i : Int) (i0 : 0 ≤ i) (i1 : i < r.2.1.length) (hl : g.1 ≤ ix r.2.1 i) : Rc g a (ix r.2.1 i - g.1)
inductive Gd (g : Gm) (a : Int) : Int → Prop where
 | first (r : Rul) (hr : r ∈ g.2.2.1) (hw : Wh g r) (h : Rc g a r.1) (i : Int) (i0 : 0 ≤ i) (i1 : i < r.2.1.length) (hl : g.1 ≤ ix r.2.1 i) (hm : Mo g r i) : Gd g a (ix r.2.1 i - g.1)
 | next (r : Rul) (hr : r ∈ g.2.2.1) (hw : Wh g r) (h : Gd g a r.1) (i : Int) (i0 : 0 ≤ i) (i1 : i < r.2.1.length) (hl : g.1 ≤ ix r.2.1 i) : Gd g a (ix r.2.1 i - g.1)
theorem Rc.trans {a b c : Int} (h : Rc g a b) (h2 : Rc g b c) : Rc g a c := by
 induction h2 with
 | refl => exact h
 | step r hr hw _ i i0 i1 hl ih => exact .step r hr hw ih i i0 i1 hl
theorem Rc.gd {a b c : Int} (h : Rc g a b) (h2 : Gd g b c) : Gd g a c := by
 induction h2 with
 | first r hr hw h2 i i0 i1 hl hm => exact .first r hr hw (h.trans h2) i i0 i1 hl hm
 | next r hr hw _ i i0 i1 hl ih => exact .next r hr hw ih i i0 i1 hl
theorem Gd.rc {a b c : Int} (h : Gd g a b) (h2 : Rc g b c) : Gd g a c := by
 induction h2 with
 | refl => exact h
 | step r hr hw _ i i0 i1 hl ih => exact .next r hr hw ih i i0 i1 hl
theorem Rc.mt {a b : Int} (h : Rc g a b) (hm : Mt g a) : Mt g b := by
 induction h with
 | refl => exact hm
 | step r hr hw _ i i0 i1 hl ih => exact .step r hr hw ih _ (ix_mem i0 i1) hl
/-- The names from which a name comes again with more. -/
theorem again_spec (hg : GOk g) {y : List Int} (hy : EnF g y) {m : List Bool} (hm : FuM g m) (hc : ∀ a, Fu g a → ix m a = true) {a : Int} (a0 : 0 ≤ a) (a1 : a < g.2.1) : Tells (r17_Again g y m a) (Gd g a a) := by
 have hn0 := hg.n0; have hn1 := hg.n1; have hln := hg.ln; have ha0 := hg.a0; have ha1 := hg.a1; have hml := hm.l
 have hfu : ∀ b, 0 ≤ b → b < g.2.1 → (ix m b = true ↔ Fu g b) := fun b b0 b1 => ⟨fun e => (hm.one b0 b1 (by simp [e])).2, hc b⟩
 let P : List Bool × List Bool → Prop := fun s => Mks false true g.2.1 (Rc g a) s.1 ∧ Mks false true g.2.1 (Gd g a) s.2 ∧ ix s.1 a = true
 let C : Rul → Int → List Bool × List Bool → Prop := fun r i s => g.1 ≤ ix r.2.1 i → (ix s.1 r.1 = true → ix s.1 (ix r.2.1 i - g.1) = true) ∧ (ix s.2 r.1 = true ∨ (ix s.1 r.1 = true ∧ Mo g r i) → ix s.2 (ix r.2.1 i - g.1) = true)
 unfold r17_Again
 rw [G_pos (by unfold mkOK; omega), G_pos (by unfold mkOK; omega), G_pos (by simp; omega), G_pos (by simp; omega)]
 have p0 : P ((List.replicate g.2.1.toNat false).set a.toNat true, List.replicate g.2.1.toNat false) := by
  refine ⟨(Mks.rep (by omega)).put a0 a1 .refl, .rep (by omega), ix_set_same a0 (by simp; omega)⟩
 obtain ⟨s, e, p, c⟩ := rounds_to (O := fun b s => r17_Again_L5 g y m a b s.1 s.2) (L := fun b t s => r17_Again_L8 g y m (r17_Again_L5 g y m a) b t s.1 s.2) (N := (g.2.2.1.length : Int)) (P := P) (cl := fun t s => Wh g (ix g.2.2.1 t) → ∀ i : Int, 0 ≤ i → i < (ix g.2.2.1 t).2.1.length → C (ix g.2.2.1 t) i s) (μ := fun s => s.1.count false + s.2.count false) (by omega)
  (fun s _ => by rw [r17_Again_L5_eq]; unfold r17_Again_L5_B; rw [if_pos rfl]) (fun b t s t0 t1 hp => by
   have hmem := ix_mem t0 t1
   have hr := hg.rm hmem
   have f0 := hr.f0; have f1 := hr.f1; have hrl := hr.l
   conv => enter [1, b', 1, s', 1, 1]; rw [r17_Again_L8_eq]; unfold r17_Again_L8_B
   rw [if_pos (decide_eq_true t1), G_pos ⟨t0, t1⟩]
   obtain ⟨yw, ey, hyw⟩ := whole_spec hg hy.1.l hr
   rw [un_iff hg hy hr] at hyw
   rw [show (g.1, (g.2.1, (g.2.2.1, ()))) = g from rfl, show ((ix g.2.2.1 t).1, (((ix g.2.2.1 t).2).1, ())) = ix g.2.2.1 t from rfl, ey]
   show ∃ b' s', r17_Again_L13 g m t (r17_Again_L8 g y m (r17_Again_L5 g y m a)) yw b 0 s.1 s.2 = _ ∧ _
   generalize r17_Again_L8 g y m (r17_Again_L5 g y m a) = r8
   generalize hre : ix g.2.2.1 t = r at *
   have hend : ∀ b i p q, (i < (r.2.1.length : Int) → yw = false) → r17_Again_L13 g m t r8 yw b i p q = r8 b (t + 1) p q := fun b i p q h => by
    rw [r17_Again_L13_eq]; unfold r17_Again_L13_B
    rw [hre]
    by_cases c : i < (r.2.1.length : Int)
    ·rw [if_pos (decide_eq_true c), h c, if_neg (by simp), G_pos (by unfold fits; omega)]
    ·rw [if_neg (by simpa using c), G_pos (by unfold fits; omega)]
   cases yw with
   | false => exact ⟨b, s, hend b 0 s.1 s.2 (fun _ => rfl), hp, .inl ⟨rfl, rfl, fun hw => by simpa using hyw.2 hw⟩⟩
   | true =>
    have hw := hyw.1 rfl
    obtain ⟨b', s', e, p, c⟩ := pass_to (L := fun b i s => r17_Again_L13 g m t r8 true b i s.1 s.2) (N := (r.2.1.length : Int)) (P := P) (cl := fun i s => C r i s) (μ := fun s => s.1.count false + s.2.count false) (by omega) (fun b i s i0 i1 hp => by
     obtain ⟨p1, p2, p3⟩ := hp
     have hx := ix_mem i0 i1
     have hl1 := p1.l; have hl2 := p2.l
     conv => enter [1, b', 1, s', 1, 1]; rw [r17_Again_L13_eq]; unfold r17_Again_L13_B
     rw [hre, if_pos (decide_eq_true i1), if_pos rfl, G_pos ⟨i0, i1⟩]
     by_cases c1 : ix r.2.1 i < g.1
     ·rw [if_pos (decide_eq_true c1), G_pos (by unfold fits; omega)]
      exact ⟨b, s, rfl, ⟨p1, p2, p3⟩, .inl ⟨rfl, rfl, fun h => by omega⟩⟩
     ·rw [if_neg (by simpa using c1)]
      have c1 : g.1 ≤ ix r.2.1 i := by omega
      obtain ⟨b0, b1⟩ := hr.nm hg hx c1
      obtain ⟨_, hmo⟩ := flag_loop (len := (r.2.1.length : Int)) (L := fun more j => r17_Again_L18 g m t b i s.1 s.2 (r17_Again_L13 g m t r8 true) more j) (big := fun _ => False) (off := fun j => j ≠ i ∧ (ix r.2.1 j < g.1 ∨ (g.1 ≤ ix r.2.1 j ∧ Fu g (ix r.2.1 j - g.1)))) (x := none) (lo := 0) (by omega) false (fun j more j0 j1 => ⟨fun h => h.elim, fun _ => by
       have hxj := hr.s _ (ix_mem j0 j1)
       conv => enter [1, b', 1, 1]; rw [r17_Again_L18_eq]; unfold r17_Again_L18_B
       rw [hre, if_pos (decide_eq_true j1)]
       by_cases d1 : j = i
       ·rw [if_neg (by simpa using d1), G_pos (by unfold fits; omega)]
        exact ⟨more, rfl, by simp [d1]⟩
       ·rw [if_pos (by simpa using d1), G_pos ⟨j0, j1⟩]
        by_cases d2 : ix r.2.1 j < g.1
        ·rw [if_pos (decide_eq_true d2), G_pos (by unfold fits; omega)]
         exact ⟨true, rfl, by simp [d1, d2]⟩
        ·rw [if_neg (by simpa using d2), G_pos ⟨j0, j1⟩, G_pos (by unfold fits; omega), G_pos (by omega)]
         have hf := hfu (ix r.2.1 j - g.1) (by omega) (by omega)
         cases d3 : ix m (ix r.2.1 j - g.1) with
         | true =>
          rw [if_pos rfl, G_pos (by unfold fits; omega)]
          exact ⟨true, rfl, by simp only [true_iff]; exact .inr ⟨d1, .inr ⟨by omega, hf.1 d3⟩⟩⟩
         | false =>
          rw [if_neg (by simp), G_pos (by unfold fits; omega)]
          exact ⟨more, rfl, fun h => .inl h, fun h => h.elim id fun ⟨_, h2⟩ => by
           rcases h2 with h2 | h2
           ·omega
           ·have := hf.2 h2.2; rw [d3] at this; simp at this⟩⟩)
      obtain ⟨mo, e, hmo⟩ := hmo (fun ⟨t, _, _, h⟩ => h)
      have hmo : mo = true ↔ Mo g r i := hmo.trans ⟨fun h => by
       rcases h with h | ⟨j, j0, j1, h1, h2⟩
       ·simp at h
       ·exact ⟨j, j0, j1, h1, h2⟩, fun ⟨j, j0, j1, h1, h2⟩ => .inr ⟨j, j0, j1, h1, h2⟩⟩
      rw [e, r17_Again_L18_eq]; unfold r17_Again_L18_B
      rw [hre, if_neg (by simp), G_pos ⟨i0, i1⟩, G_pos (by unfold fits; omega), G_pos (by omega), G_pos (by omega)]
      -- what is good
      have h26 : ∀ (b : Bool) (p : List Bool) (u : Bool), Mks false true g.2.1 (Rc g a) p → ix p a = true → (ix p r.1 = true → ix p (ix r.2.1 i - g.1) = true) → p.count false ≤ s.1.count false → ((b = true ∧ p.count false < s.1.count false) ∨ p = s.1) →
        (u = true → (ix s.2 (ix r.2.1 i - g.1) = false ∧ Gd g a (ix r.2.1 i - g.1))) → (u = false → (ix s.2 r.1 = true ∨ (ix p r.1 = true ∧ Mo g r i) → ix s.2 (ix r.2.1 i - g.1) = true)) →
        ∃ b' s', r17_Again_J26 g t i s.2 (r17_Again_L13 g m t r8 true) b p u = r17_Again_L13 g m t r8 true b' (i + 1) s'.1 s'.2 ∧ P s' ∧ ((b' = b ∧ s' = (p, s.2) ∧ C r i s') ∨ (b' = true ∧ s'.1.count false + s'.2.count false < s.1.count false + s.2.count false)) := by
       intro b p u k1 k2 k3 k4 k5 k6 k7
       unfold r17_Again_J26
       rw [hre]
       cases u with
       | true =>
        obtain ⟨c, d⟩ := k6 rfl
        have hcp := count_put (m := s.2) (z := false) (o := true) (a := ix r.2.1 i - g.1) (by simp) b0 (by omega) c
        refine ⟨true, (p, s.2.set (ix r.2.1 i - g.1).toNat true), ?_, ⟨k1, p2.put b0 b1 d, k2⟩, .inr ⟨rfl, by show p.count false + (s.2.set _ _).count false < _; omega⟩⟩
        rw [if_pos rfl, G_pos (by omega), G_pos (by omega), G_pos (by unfold fits; omega)]
       | false =>
        refine ⟨b, (p, s.2), ?_, ⟨k1, p2, k2⟩, .inl ⟨rfl, rfl, fun _ => ⟨k3, k7 rfl⟩⟩⟩
        rw [if_neg (by simp), G_pos (by unfold fits; omega)]
      have h25 : ∀ (b1 : Bool) (p : List Bool), Mks false true g.2.1 (Rc g a) p → ix p a = true → (ix p r.1 = true → ix p (ix r.2.1 i - g.1) = true) → ((b1 = true ∧ p.count false < s.1.count false) ∨ (b1 = b ∧ p = s.1)) →
        ∃ b' s', r17_Again_J25 g t i s.2 (r17_Again_L13 g m t r8 true) mo b1 p = r17_Again_L13 g m t r8 true b' (i + 1) s'.1 s'.2 ∧ P s' ∧ ((b' = b ∧ s' = s ∧ C r i s) ∨ (b' = true ∧ s'.1.count false + s'.2.count false < s.1.count false + s.2.count false)) := by
       intro b1 p k1 k2 k3 k4
       have hpl := k1.l
       have fin : ∀ u : Bool, (u = true → (ix s.2 (ix r.2.1 i - g.1) = false ∧ Gd g a (ix r.2.1 i - g.1))) → (u = false → (ix s.2 r.1 = true ∨ (ix p r.1 = true ∧ Mo g r i) → ix s.2 (ix r.2.1 i - g.1) = true)) → ∃ b' s', r17_Again_J26 g t i s.2 (r17_Again_L13 g m t r8 true) b1 p u = r17_Again_L13 g m t r8 true b' (i + 1) s'.1 s'.2 ∧ P s' ∧ ((b' = b ∧ s' = s ∧ C r i s) ∨ (b' = true ∧ s'.1.count false + s'.2.count false < s.1.count false + s.2.count false)) := by
        intro u k6 k7
        have hle : p.count false ≤ s.1.count false := by
         rcases k4 with k | k
         ·omega
         ·rw [k.2]; exact Nat.le_refl _
        obtain ⟨b', s', e, p', c⟩ := h26 b1 p u k1 k2 k3 hle (by rcases k4 with k | k; exact .inl k; exact .inr k.2) k6 k7
        refine ⟨b', s', e, p', ?_⟩
        rcases c with ⟨d1, d2, d3⟩ | c
        ·rcases k4 with k | k
         ·exact .inr ⟨by rw [d1]; exact k.1, by rw [d2]; show p.count false + s.2.count false < _; omega⟩
         ·have : s' = s := by rw [d2, k.2]
          exact .inl ⟨d1.trans k.1, this, by rw [← this]; exact d3⟩
        ·exact .inr c
       unfold r17_Again_J25
       rw [hre, G_pos (by omega), G_pos (by omega)]
       have bg : (ix s.2 r.1 = true ∨ (ix p r.1 = true ∧ Mo g r i)) → ∃ b' s', r17_Again_J26 g t i s.2 (r17_Again_L13 g m t r8 true) b1 p (!(ix s.2 (ix r.2.1 i - g.1))) = r17_Again_L13 g m t r8 true b' (i + 1) s'.1 s'.2 ∧ P s' ∧ ((b' = b ∧ s' = s ∧ C r i s) ∨ (b' = true ∧ s'.1.count false + s'.2.count false < s.1.count false + s.2.count false)) := fun h => by
        refine fin _ (fun hu => ⟨by simpa using hu, ?_⟩) (fun hu _ => by simpa using hu)
        rcases h with h | ⟨h, h2⟩
        ·exact .next r hmem hw (p2.one f0 f1 (by simp [h])).2 i i0 i1 c1
        ·exact .first r hmem hw (k1.one f0 f1 (by simp [h])).2 i i0 i1 c1 h2
       cases d1 : ix s.2 r.1 with
       | true =>
        rw [if_pos rfl, G_pos (by omega), G_pos (by omega)]
        exact bg (.inl d1)
       | false =>
        rw [if_neg (by simp), G_pos (by omega), G_pos (by omega)]
        cases d2 : ix p r.1 with
        | true =>
         rw [if_pos rfl]
         cases d3 : mo with
         | true =>
          rw [if_pos rfl, G_pos (by omega), G_pos (by omega)]
          exact bg (.inr ⟨d2, hmo.1 d3⟩)
         | false =>
          rw [if_neg (by simp)]
          refine fin false (by simp) fun _ h => ?_
          rcases h with h | h
          ·rw [d1] at h; simp at h
          ·have := hmo.2 h.2; rw [d3] at this; simp at this
        | false =>
         rw [if_neg (by simp)]
         refine fin false (by simp) fun _ h => ?_
         rcases h with h | h
         ·rw [d1] at h; simp at h
         ·rw [d2] at h; simp at h
      have h23 : ∀ u : Bool, (u = true → ix s.1 (ix r.2.1 i - g.1) = false ∧ ix s.1 r.1 = true) → (u = false → ix s.1 r.1 = true → ix s.1 (ix r.2.1 i - g.1) = true) → ∃ b' s', r17_Again_J23 g t b i s.1 s.2 (r17_Again_L13 g m t r8 true) mo u = r17_Again_L13 g m t r8 true b' (i + 1) s'.1 s'.2 ∧ P s' ∧ ((b' = b ∧ s' = s ∧ C r i s) ∨ (b' = true ∧ s'.1.count false + s'.2.count false < s.1.count false + s.2.count false)) := by
       intro u k1 k2
       unfold r17_Again_J23
       cases u with
       | true =>
        obtain ⟨d1, d2⟩ := k1 rfl
        rw [hre, if_pos rfl, G_pos (by omega), G_pos (by omega)]
        refine h25 true _ (p1.put b0 b1 (.step r hmem hw (p1.one f0 f1 (by simp [d2])).2 i i0 i1 c1)) ?_ (fun _ => ix_set_same b0 (by omega)) (.inl ⟨rfl, count_put (by simp) b0 (by omega) d1⟩)
        rw [ix_set_ne b0 a0 (fun e => by rw [e, p3] at d1; simp at d1)]; exact p3
       | false =>
        rw [if_neg (by simp)]
        exact h25 b s.1 p1 p3 (k2 rfl) (.inr ⟨rfl, rfl⟩)
      cases d1 : ix s.1 r.1 with
      | true =>
       rw [if_pos rfl, G_pos (by omega), G_pos (by omega)]
       exact h23 _ (fun h => ⟨by simpa using h, d1⟩) (fun h _ => by simpa using h)
      | false =>
       rw [if_neg (by simp)]
       exact h23 false (by simp) (fun _ h => by rw [d1] at h; simp at h)) b s hp
    refine ⟨b', s', e.trans (hend b' _ s'.1 s'.2 (fun h => by omega)), p, ?_⟩
    rcases c with ⟨e1, e2, c⟩ | c
    ·exact .inl ⟨e1, e2, fun _ i i0 i1 => c i i0 i1⟩
    ·exact .inr c)
  (fun b s _ => by rw [r17_Again_L8_eq]; unfold r17_Again_L8_B; rw [if_neg (by simp)]) p0
 dsimp only at e
 obtain ⟨p1, p2, p3⟩ := p
 have hl2 := p2.l
 rw [e, r17_Again_L5_eq]; unfold r17_Again_L5_B
 rw [if_neg (by simp), G_pos (by omega), G_pos (by omega)]
 have hC : ∀ (r : Rul) (hr : r ∈ g.2.2.1) (hw : Wh g r) (i : Int), 0 ≤ i → i < r.2.1.length → C r i s := fun r hr hw i i0 i1 => by
  obtain ⟨k, k0, k1, rfl⟩ := mem_ix hr
  exact c k k0 k1 hw i i0 i1
 have kr : ∀ b, Rc g a b → ix s.1 b = true := fun b h => by
  induction h with
  | refl => exact p3
  | step r hr hw h i i0 i1 hl ih => exact (hC r hr hw i i0 i1 hl).1 ih
 have kg : ∀ b, Gd g a b → ix s.2 b = true := fun b h => by
  induction h with
  | first r hr hw h i i0 i1 hl hm => exact (hC r hr hw i i0 i1 hl).2 (.inr ⟨kr _ h, hm⟩)
  | next r hr hw h i i0 i1 hl ih => exact (hC r hr hw i i0 i1 hl).2 (.inl ih)
 exact Tells.of ⟨fun h => (p2.one a0 a1 (by simp [h])).2, kg a⟩
theorem r_endless_spec (hg : GOk g) : Tells (r17_Endless g) (∃ a, Mt g a ∧ Gd g a a) := by
 have hn0 := hg.n0; have hn1 := hg.n1
 obtain ⟨y, e, hy⟩ := r_ends_spec hg
 obtain ⟨z, e2, hz⟩ := r17_Met_spec hg
 obtain ⟨m, e3, hm, hc⟩ := r_full_spec (z := z) hg hy
 have hzl := hz.1.l
 have key : ∀ x, ((∃ a, Mt g a ∧ Gd g a a) → some true = x) → ((¬ ∃ a, Mt g a ∧ Gd g a a) → some false = x) → r17_Endless g = x := fun x h1 h2 => by
  unfold r17_Endless
  rw [show (g.1, (g.2.1, (g.2.2.1, ()))) = g from rfl, e]
  show (r17_Met g).bind _ = _
  rw [e2]
  show G _ _ = _
  rw [G_pos (by unfold mkOK; omega), e3, r17_Endless_L5_eq]; unfold r17_Endless_L5_B
  rw [if_neg (by simp)]
  refine scan_to (len := g.2.1) (L := fun a => r17_Endless_L19 g y z m a) (bad := fun a => Mt g a ∧ Gd g a a) (lo := 0) (by omega) (fun a a0 a1 => ?_) (fun hh => ?_)
  ·have hiff : ix z a = 1 ↔ Mt g a := hz.1.iff (by omega) hz.2 a0 a1
   refine ⟨fun hb => ?_, fun hb => ?_⟩
   ·rw [← h1 ⟨a, hb⟩, r17_Endless_L19_eq]; unfold r17_Endless_L19_B
    rw [if_pos (decide_eq_true a1), G_pos (by omega), G_pos (by omega), if_pos (decide_eq_true (hiff.2 hb.1))]
    obtain ⟨b, eb, hbb⟩ := again_spec hg hy hm hc a0 a1
    rw [show (g.1, (g.2.1, (g.2.2.1, ()))) = g from rfl, eb, hbb.2 hb.2]
    rfl
   ·conv => lhs; rw [r17_Endless_L19_eq]; unfold r17_Endless_L19_B
    rw [if_pos (decide_eq_true a1), G_pos (by omega), G_pos (by omega)]
    by_cases c : Mt g a
    ·rw [if_pos (decide_eq_true (hiff.2 c))]
     obtain ⟨b, eb, hbb⟩ := again_spec hg hy hm hc a0 a1
     have : b = false := by cases b; rfl; exact absurd ⟨c, hbb.1 rfl⟩ hb
     rw [show (g.1, (g.2.1, (g.2.2.1, ()))) = g from rfl, eb, this]
     show G _ _ = _
     rw [G_pos (by unfold fits; omega)]
    ·rw [if_neg (by simpa using fun h => c (hiff.1 h)), G_pos (by unfold fits; omega)]
  ·rw [r17_Endless_L19_eq]; unfold r17_Endless_L19_B
   rw [if_neg (by simp)]
   refine h2 fun ⟨a, h1, h2⟩ => ?_
   have : 0 ≤ a ∧ a < g.2.1 := by
    cases h2 with
    | first r hr hw h i i0 i1 hl hm => exact (hg.rm hr).nm hg (ix_mem i0 i1) hl
    | next r hr hw h i i0 i1 hl => exact (hg.rm hr).nm hg (ix_mem i0 i1) hl
   exact hh a this.1 this.2 ⟨h1, h2⟩
 by_cases c : ∃ a, Mt g a ∧ Gd g a a
 ·exact ⟨true, key _ (fun _ => rfl) (fun h => absurd c h), by simp [c]⟩
 ·exact ⟨false, key _ (fun h => absurd h c) (fun _ => rfl), by simp [c]⟩
/-! ### the program's table -/
def vl (M : List (List Int)) (a b : Int) : Int := ix (ix M a) b
structure Sq (N : Int) (M : List (List Int)) : Prop where
 l : (M.length : Int) = N
 r : ∀ a, 0 ≤ a → a < N → ((ix M a).length : Int) = N
/-- What a number in the table says. -/
def Sd (g : Gm) (M : List (List Int)) : Prop := ∀ a b, 0 ≤ a → a < g.2.1 → 0 ≤ b → b < g.2.1 → vl M a b = 0 ∨ ((vl M a b = 1 ∨ vl M a b = 2) ∧ Mt g a ∧ Rc g a b ∧ (vl M a b = 2 → Gd g a b))
def cel (M : List (List Int)) (a c x : Int) : List (List Int) := M.set a.toNat ((ix M a).set c.toNat x)
theorem vl_cel {N : Int} {M : List (List Int)} (h : Sq N M) {a c x a' c' : Int} (a0 : 0 ≤ a) (a1 : a < N) (c0 : 0 ≤ c) (c1 : c < N) (a0' : 0 ≤ a') (c0' : 0 ≤ c') : vl (cel M a c x) a' c' = if a = a' ∧ c = c' then x else vl M a' c' := by
 have hl := h.l; have hr := h.r a a0 a1
 unfold vl cel
 by_cases e : a = a'
 ·subst e
  rw [ix_set_same a0 (by omega)]
  by_cases e2 : c = c'
  ·subst e2; rw [ix_set_same c0 (by omega), if_pos ⟨rfl, rfl⟩]
  ·rw [ix_set_ne c0 c0' e2, if_neg (fun h => e2 h.2)]
 ·rw [ix_set_ne a0 a0' e, if_neg (fun h => e h.1)]
theorem Sq.put2 {N : Int} {M : List (List Int)} (h : Sq N M) {a c x : Int} (a0 : 0 ≤ a) (a1 : a < N) : Sq N (cel M a c x) := by
 have hl := h.l
 refine ⟨by unfold cel; rw [List.length_set]; exact h.l, fun b b0 b1 => ?_⟩
 unfold cel
 by_cases e : a = b
 ·subst e; rw [ix_set_same a0 (by omega), List.length_set]; exact h.r a a0 a1
 ·rw [ix_set_ne a0 b0 e]; exact h.r b b0 b1
theorem sd_cel {M : List (List Int)} (h : Sq g.2.1 M) (hs : Sd g M) {a c x : Int} (a0 : 0 ≤ a) (a1 : a < g.2.1) (c0 : 0 ≤ c) (c1 : c < g.2.1) (hx : x = 0 ∨ ((x = 1 ∨ x = 2) ∧ Mt g a ∧ Rc g a c ∧ (x = 2 → Gd g a c))) : Sd g (cel M a c x) := by
 intro a' b' p1 p2 p3 p4
 rw [vl_cel h a0 a1 c0 c1 p1 p3]
 by_cases e : a = a' ∧ c = b'
 ·rw [if_pos e]; obtain ⟨rfl, rfl⟩ := e; exact hx
 ·rw [if_neg e]; exact hs a' b' p1 p2 p3 p4
theorem imax_le (m n : Int) : m ≤ imax m n ∧ n ≤ imax m n ∧ (imax m n = m ∨ imax m n = n) := by
 unfold imax; split <;> omega
/-- The rest of the rule has letters. -/
theorem rest_tells (hg : GOk g) {m : List Bool} (hf : FuF g m) {r : Rul} (hr : r ∈ g.2.2.1) (hw : Wh g r) (hmt : Mt g r.1) {i : Int} (i0 : 0 ≤ i) (i1 : i < r.2.1.length) :
  ∃ l b, slices_Concat [cut r.2.1 0 i, cut r.2.1 (i + 1) (r.2.1.length : Int)] = some l ∧ slices_ContainsFunc_3 l g m = some b ∧ (b = true ↔ Mo g r i) := by
 have ok := hg.rm hr
 have hrl := ok.l
 have e1 := length_cut (l := r.2.1) (i := 0) (j := i) (by omega) i0 (by omega)
 have e2 := length_cut (l := r.2.1) (i := i + 1) (j := r.2.1.length) (by omega) (by omega) (by omega)
 have hfl : [cut r.2.1 0 i, cut r.2.1 (i + 1) (r.2.1.length : Int)].flatten = cut r.2.1 0 i ++ cut r.2.1 (i + 1) (r.2.1.length : Int) := by simp
 have hm2 : ∀ P : Int → Prop, (∃ x ∈ cut r.2.1 0 i ++ cut r.2.1 (i + 1) (r.2.1.length : Int), P x) ↔ ∃ j : Int, 0 ≤ j ∧ j < r.2.1.length ∧ j ≠ i ∧ P (ix r.2.1 j) := fun P => by
  constructor
  ·rintro ⟨x, hx, hp⟩
   rcases List.mem_append.1 hx with hx | hx
   ·obtain ⟨j, j0, j1, rfl⟩ := mem_ix hx
    rw [ix_cut' (by omega) j0 (by omega), Int.zero_add] at hp
    exact ⟨j, j0, by omega, by omega, hp⟩
   ·obtain ⟨j, j0, j1, rfl⟩ := mem_ix hx
    rw [ix_cut' (by omega) j0 (by omega)] at hp
    exact ⟨i + 1 + j, by omega, by omega, by omega, hp⟩
  ·rintro ⟨j, j0, j1, jn, hp⟩
   by_cases c : j < i
   ·refine ⟨ix r.2.1 j, List.mem_append.2 (.inl ?_), hp⟩
    have := ix_mem (l := cut r.2.1 0 i) j0 (by omega)
    rwa [ix_cut' (by omega) j0 (by omega), Int.zero_add] at this
   ·refine ⟨ix r.2.1 j, List.mem_append.2 (.inr ?_), hp⟩
    have := ix_mem (l := cut r.2.1 (i + 1) (r.2.1.length : Int)) (i := j - (i + 1)) (by omega) (by omega)
    rwa [ix_cut' (by omega) (by omega) (by omega), show i + 1 + (j - (i + 1)) = j by omega] at this
 obtain ⟨b, eb, hb⟩ := hasl_tells hg hf.1.l (l := cut r.2.1 0 i ++ cut r.2.1 (i + 1) (r.2.1.length : Int)) (by simp; omega) (fun x hx => by
  obtain ⟨j, j0, j1, _, e⟩ := (hm2 (fun y => y = x)).1 ⟨x, hx, rfl⟩
  rw [← e]; exact ok.s _ (ix_mem j0 j1))
 refine ⟨_, b, slices_Concat_spec (by simp) (by rw [hfl]; simp; omega), by rw [hfl]; exact eb, hb.trans ((hm2 _).trans ?_)⟩
 unfold Mo Has
 constructor
 ·rintro ⟨j, j0, j1, jn, h⟩
  refine ⟨j, j0, j1, jn, h.imp id fun ⟨a, b⟩ => ⟨a, ?_⟩⟩
  obtain ⟨b0, b1⟩ := ok.nm hg (ix_mem j0 j1) a
  exact (hf.1.one b0 b1 (by simp [b])).2
 ·rintro ⟨j, j0, j1, jn, h⟩
  exact ⟨j, j0, j1, jn, h.imp id fun ⟨a, b⟩ => ⟨a, hf.2 _ (.step r hr hw hmt _ (ix_mem j0 j1) a) b⟩⟩
/-- One edge stands in the table. -/
def Ed (g : Gm) (M : List (List Int)) (r : Rul) (i : Int) : Prop := g.1 ≤ ix r.2.1 i → 1 ≤ vl M r.1 (ix r.2.1 i - g.1) ∧ (Mo g r i → 2 ≤ vl M r.1 (ix r.2.1 i - g.1))
def Le (g : Gm) (M M2 : List (List Int)) : Prop := ∀ a b, 0 ≤ a → a < g.2.1 → 0 ≤ b → b < g.2.1 → vl M a b ≤ vl M2 a b
theorem Ed.le (hg : GOk g) {M M2 : List (List Int)} {r : Rul} (hr : r ∈ g.2.2.1) {i : Int} (i0 : 0 ≤ i) (i1 : i < r.2.1.length) (h : Ed g M r i) (hle : Le g M M2) : Ed g M2 r i := fun hl => by
 have ok := hg.rm hr
 obtain ⟨b0, b1⟩ := ok.nm hg (ix_mem i0 i1) hl
 have := hle _ _ ok.f0 ok.f1 b0 b1
 obtain ⟨h1, h2⟩ := h hl
 exact ⟨by omega, fun hm => by have := h2 hm; omega⟩
theorem Le.trans {M M2 M3 : List (List Int)} (h : Le g M M2) (h2 : Le g M2 M3) : Le g M M3 := fun a b a0 a1 b0 b1 => Int.le_trans (h a b a0 a1 b0 b1) (h2 a b a0 a1 b0 b1)
theorem edges_spec (hg : GOk g) {l : List Rul} (hl : UL g l) {m : List Bool} (hf : FuF g m) {M : List (List Int)} (h1 : Sq g.2.1 M) (h2 : Sd g M) :
  ∃ M', gram_Endless_L23 l g.1 g.2.1 g.2.2.1 m 0 M = gram_Endless_L36 M' 0 M' ∧ Sq g.2.1 M' ∧ Sd g M' ∧ ∀ r ∈ l, ∀ i : Int, 0 ≤ i → i < r.2.1.length → Ed g M' r i := by
 have hn0 := hg.n0; have hn1 := hg.n1; have hln := hl.ln; have ha0 := hg.a0; have ha1 := hg.a1
 have key : ∀ (n : Nat) (t : Int) (M : List (List Int)), 0 ≤ t → t ≤ l.length → ((l.length : Int) - t).toNat = n → Sq g.2.1 M → Sd g M → (∀ k : Int, 0 ≤ k → k < t → ∀ i : Int, 0 ≤ i → i < (ix l k).2.1.length → Ed g M (ix l k) i) →
   ∃ M', gram_Endless_L23 l g.1 g.2.1 g.2.2.1 m t M = gram_Endless_L36 M' 0 M' ∧ Sq g.2.1 M' ∧ Sd g M' ∧ ∀ r ∈ l, ∀ i : Int, 0 ≤ i → i < r.2.1.length → Ed g M' r i := by
  intro n
  induction n with
  | zero =>
   intro t M t0 t1 hn h1 h2 h3
   obtain rfl : t = l.length := by omega
   refine ⟨M, ?_, h1, h2, fun r hr => ?_⟩
   ·rw [gram_Endless_L23_eq]; unfold gram_Endless_L23_B; rw [if_neg (by simp)]
   ·obtain ⟨k, k0, k1, rfl⟩ := mem_ix hr
    exact h3 k k0 k1
  | succ n ih =>
   intro t M t0 t1 hn h1 h2 h3
   have hlt : t < l.length := by omega
   obtain ⟨hmem, hw, hmt⟩ := (hl.m _).1 (ix_mem t0 hlt)
   have ok := hg.rm hmem
   have f0 := ok.f0; have f1 := ok.f1; have hrl := ok.l
   rw [gram_Endless_L23_eq]; unfold gram_Endless_L23_B
   rw [if_pos (decide_eq_true hlt), G_pos ⟨t0, hlt⟩, G_pos (by omega)]
   generalize hR : gram_Endless_L23 l g.1 g.2.1 g.2.2.1 m = r23 at *
   have inner : ∀ (n : Nat) (i : Int) (M : List (List Int)), 0 ≤ i → i ≤ (ix l t).2.1.length → (((ix l t).2.1.length : Int) - i).toNat = n → Sq g.2.1 M → Sd g M → (∀ k : Int, 0 ≤ k → k < i → Ed g M (ix l t) k) →
     ∃ M', gram_Endless_L26 l g.1 g.2.1 g.2.2.1 m t r23 i M = r23 (t + 1) M' ∧ Sq g.2.1 M' ∧ Sd g M' ∧ Le g M M' ∧ ∀ k : Int, 0 ≤ k → k < (ix l t).2.1.length → Ed g M' (ix l t) k := by
    intro n
    induction n with
    | zero =>
     intro i M i0 i1 hn h1 h2 h3
     obtain rfl : i = (ix l t).2.1.length := by omega
     refine ⟨M, ?_, h1, h2, fun a b _ _ _ _ => Int.le_refl _, h3⟩
     rw [gram_Endless_L26_eq]; unfold gram_Endless_L26_B; rw [if_neg (by simp), G_pos (by unfold fits; omega)]
    | succ n ihi =>
     intro i M i0 i1 hn h1 h2 h3
     have hli : i < (ix l t).2.1.length := by omega
     have hx := ix_mem i0 hli
     rw [gram_Endless_L26_eq]; unfold gram_Endless_L26_B
     rw [if_pos (decide_eq_true hli), G_pos ⟨i0, hli⟩]
     by_cases c1 : ix (ix l t).2.1 i < g.1
     ·rw [if_pos (decide_eq_true c1), G_pos (by unfold fits; omega)]
      exact ihi (i + 1) M (by omega) (by omega) (by omega) h1 h2 fun k k0 k1 => by
       by_cases e : k = i
       ·subst e; exact fun h => by omega
       ·exact h3 k k0 (by omega)
     ·have c1 : g.1 ≤ ix (ix l t).2.1 i := by omega
      obtain ⟨b0, b1⟩ := ok.nm hg hx c1
      obtain ⟨w, b, e1, e2, hb⟩ := rest_tells hg hf hmem hw hmt i0 hli
      rw [if_neg (by simpa using c1), G_pos (by omega), G_pos (by unfold fits; omega), G_pos (by omega), e1]
      show ∃ M', (slices_ContainsFunc_3 w (g.1, (g.2.1, (g.2.2.1, ()))) m).bind _ = _ ∧ _
      rw [show (g.1, (g.2.1, (g.2.2.1, ()))) = g from rfl, e2]
      have hML := h1.l
      have hMr := h1.r _ f0 f1
      have J : ∀ x : Int, (x = 1 ∨ x = 2) → (Mo g (ix l t) i ↔ x = 2) → ∃ M', gram_Endless_J31 l g.1 t i M (gram_Endless_L26 l g.1 g.2.1 g.2.2.1 m t r23) x = r23 (t + 1) M' ∧ Sq g.2.1 M' ∧ Sd g M' ∧ Le g M M' ∧ ∀ k : Int, 0 ≤ k → k < (ix l t).2.1.length → Ed g M' (ix l t) k := by
       intro x hx12 hxm
       have hold := h2 _ _ f0 f1 b0 b1
       have him := imax_le (vl M (ix l t).1 (ix (ix l t).2.1 i - g.1)) x
       have hsq : Sq g.2.1 (cel M (ix l t).1 (ix (ix l t).2.1 i - g.1) (imax (vl M (ix l t).1 (ix (ix l t).2.1 i - g.1)) x)) := h1.put2 f0 f1
       have hle : Le g M (cel M (ix l t).1 (ix (ix l t).2.1 i - g.1) (imax (vl M (ix l t).1 (ix (ix l t).2.1 i - g.1)) x)) := fun a b a0 a1 b0' b1' => by
        rw [vl_cel h1 f0 f1 b0 b1 a0 b0']
        split
        ·rename_i h; rw [← h.1, ← h.2]; exact him.1
        ·exact Int.le_refl _
       obtain ⟨M', e, q1, q2, q3, q4⟩ := ihi (i + 1) (cel M (ix l t).1 (ix (ix l t).2.1 i - g.1) (imax (vl M (ix l t).1 (ix (ix l t).2.1 i - g.1)) x)) (by omega) (by omega) (by omega) hsq (sd_cel h1 h2 f0 f1 b0 b1 (by
         refine .inr ⟨by omega, hmt, .step _ hmem hw .refl i i0 hli c1, fun h => ?_⟩
         by_cases hx2 : x = 2
         ·exact .first _ hmem hw .refl i i0 hli c1 (hxm.2 hx2)
         ·have : vl M (ix l t).1 (ix (ix l t).2.1 i - g.1) = 2 := by omega
          exact (hold.resolve_left (by omega)).2.2.2 this)) fun k k0 k1 => by
        by_cases ek : k = i
        ·subst ek
         intro _
         rw [vl_cel h1 f0 f1 b0 b1 f0 b0, if_pos ⟨rfl, rfl⟩]
         exact ⟨by omega, fun h => by have := hxm.1 h; omega⟩
        ·exact (h3 k k0 (by omega)).le hg hmem k0 (by omega) hle
       refine ⟨M', ?_, q1, q2, hle.trans q3, q4⟩
       unfold gram_Endless_J31
       rw [G_pos (by omega), G_pos (by omega), G_pos (by unfold fits; omega), G_pos (by omega), G_pos (by omega), G_pos (by unfold fits; omega), G_pos (by omega), G_pos (by omega), G_pos (by omega), G_pos (by omega), G_pos (by unfold fits; omega)]
       exact e
      cases b with
      | true => exact J 2 (.inr rfl) (by simp [← hb])
      | false => exact J 1 (.inl rfl) (by simp [← hb])
   obtain ⟨M', e, q1, q2, q3, q4⟩ := inner _ 0 M (Int.le_refl _) (by omega) rfl h1 h2 (fun k a b => by omega)
   rw [e]
   exact ih (t + 1) M' (by omega) (by omega) (by omega) q1 q2 fun k k0 k1 i i0 i1 => by
    by_cases ek : k = t
    ·subst ek; exact q4 i i0 i1
    ·obtain ⟨hk, _, _⟩ := (hl.m _).1 (ix_mem (l := l) k0 (by omega))
     exact (h3 k k0 (by omega) i i0 i1).le hg hk i0 i1 q3
 exact key _ 0 M (Int.le_refl _) (by omega) rfl h1 h2 (fun k a b => by omega)
/-! ### closing the table -/
def u3 (x y z : Int) : Int := if 0 < y ∧ 0 < z then imax (imax x y) z else x
def upd (M : List (List Int)) (b a c : Int) : Int := u3 (vl M a c) (vl M a b) (vl M b c)
/-- No name comes to itself with more. -/
def Nd (g : Gm) (M : List (List Int)) : Prop := ∀ b, 0 ≤ b → b < g.2.1 → ¬ vl M b b = 2
def Ct (g : Gm) (M : List (List Int)) (b : Int) : Prop := ∀ a c, 0 ≤ a → a < g.2.1 → 0 ≤ c → c < g.2.1 → 0 < vl M a b → 0 < vl M b c → vl M a b ≤ vl M a c ∧ vl M b c ≤ vl M a c
theorem Sd.b {M : List (List Int)} (h : Sd g M) {a b : Int} (a0 : 0 ≤ a) (a1 : a < g.2.1) (b0 : 0 ≤ b) (b1 : b < g.2.1) : 0 ≤ vl M a b ∧ vl M a b ≤ 2 := by
 have := h a b a0 a1 b0 b1; omega
theorem upd_row {M : List (List Int)} (h : Sd g M) (hn : Nd g M) {b c : Int} (b0 : 0 ≤ b) (b1 : b < g.2.1) (c0 : 0 ≤ c) (c1 : c < g.2.1) : upd M b b c = vl M b c := by
 have := h.b b0 b1 b0 b1; have := h.b b0 b1 c0 c1; have := hn b b0 b1
 unfold upd u3 imax; split <;> (repeat' split) <;> omega
theorem upd_col {M : List (List Int)} (h : Sd g M) (hn : Nd g M) {b a : Int} (b0 : 0 ≤ b) (b1 : b < g.2.1) (a0 : 0 ≤ a) (a1 : a < g.2.1) : upd M b a b = vl M a b := by
 have := h.b b0 b1 b0 b1; have := h.b a0 a1 b0 b1; have := hn b b0 b1
 unfold upd u3 imax; split <;> (repeat' split) <;> omega
theorem ct_num {ae ab be ec eb bc ac bb : Int} (h1 : 0 < ae → 0 < ec → ae ≤ ac ∧ ec ≤ ac) (h2 : 0 < ae → 0 < eb → ae ≤ ab ∧ eb ≤ ab) (h3 : 0 < be → 0 < ec → be ≤ bc ∧ ec ≤ bc) (h4 : 0 < be → 0 < eb → be ≤ bb ∧ eb ≤ bb) (h5 : bb ≤ 1)
  (p : 0 < u3 ae ab be) (q : 0 < u3 ec eb bc) : u3 ae ab be ≤ u3 ac ab bc ∧ u3 ec eb bc ≤ u3 ac ab bc := by
 unfold u3 imax at *
 by_cases c1 : 0 < ab ∧ 0 < be
 ·simp only [if_pos c1] at *
  by_cases c2 : 0 < eb ∧ 0 < bc
  ·simp only [if_pos c2] at *
   rw [if_pos (show 0 < ab ∧ 0 < bc by omega)]
   split at p <;> (try split at p) <;> split at q <;> (try split at q) <;> (repeat' split) <;> omega
  ·simp only [if_neg c2] at *
   rw [if_pos (show 0 < ab ∧ 0 < bc by omega)]
   (repeat' split) <;> omega
 ·simp only [if_neg c1] at *
  by_cases c2 : 0 < eb ∧ 0 < bc
  ·simp only [if_pos c2] at *
   rw [if_pos (show 0 < ab ∧ 0 < bc by omega)]
   (repeat' split) <;> omega
  ·simp only [if_neg c2] at *
   split
   ·(repeat' split) <;> omega
   ·omega
theorem ct_step {M M' : List (List Int)} (h : Sd g M) (hn : Nd g M) {b : Int} (b0 : 0 ≤ b) (b1 : b < g.2.1) (hu : ∀ a c, 0 ≤ a → a < g.2.1 → 0 ≤ c → c < g.2.1 → vl M' a c = upd M b a c) :
  Ct g M' b ∧ ∀ e, 0 ≤ e → e < g.2.1 → Ct g M e → Ct g M' e := by
 have hbb := h.b b0 b1 b0 b1; have hnb := hn b b0 b1
 refine ⟨fun a c a0 a1 c0 c1 => ?_, fun e e0 e1 hc a c a0 a1 c0 c1 => ?_⟩
 ·rw [hu a b a0 a1 b0 b1, hu b c b0 b1 c0 c1, hu a c a0 a1 c0 c1, upd_row h hn b0 b1 c0 c1, upd_col h hn b0 b1 a0 a1]
  intro p q
  unfold upd u3
  rw [if_pos ⟨p, q⟩]
  unfold imax; (repeat' split) <;> omega
 ·rw [hu a e a0 a1 e0 e1, hu e c e0 e1 c0 c1, hu a c a0 a1 c0 c1]
  exact ct_num (hc a c a0 a1 c0 c1) (hc a b a0 a1 b0 b1) (hc b c b0 b1 c0 c1) (hc b b b0 b1 b0 b1) (by omega)
theorem u3_sd (hg : GOk g) {M : List (List Int)} (h : Sd g M) {a b c : Int} (a0 : 0 ≤ a) (a1 : a < g.2.1) (b0 : 0 ≤ b) (b1 : b < g.2.1) (c0 : 0 ≤ c) (c1 : c < g.2.1) (p : 0 < vl M a b) (q : 0 < vl M b c) :
  imax (imax (vl M a c) (vl M a b)) (vl M b c) = 0 ∨ ((imax (imax (vl M a c) (vl M a b)) (vl M b c) = 1 ∨ imax (imax (vl M a c) (vl M a b)) (vl M b c) = 2) ∧ Mt g a ∧ Rc g a c ∧ (imax (imax (vl M a c) (vl M a b)) (vl M b c) = 2 → Gd g a c)) := by
 have h1 := h a c a0 a1 c0 c1
 have h2 := (h a b a0 a1 b0 b1).resolve_left (by omega)
 have h3 := (h b c b0 b1 c0 c1).resolve_left (by omega)
 have hx := imax_le (vl M a c) (vl M a b)
 have hy := imax_le (imax (vl M a c) (vl M a b)) (vl M b c)
 refine .inr ⟨by omega, h2.2.1, h2.2.2.1.trans h3.2.2.1, fun e => ?_⟩
 by_cases d1 : vl M a b = 2
 ·exact (h2.2.2.2 d1).rc h3.2.2.1
 ·by_cases d2 : vl M b c = 2
  ·exact h2.2.2.1.gd (h3.2.2.2 d2)
  ·exact (h1.resolve_left (by omega)).2.2.2 (by omega)
/-- One round: all ways by the name b. -/
theorem round_spec (hg : GOk g) {M : List (List Int)} (h1 : Sq g.2.1 M) (h2 : Sd g M) {b : Int} (b0 : 0 ≤ b) (b1 : b < g.2.1) {r36 : Int → List (List Int) → Option (Bool × Int)} :
  ∃ M', gram_Endless_L39 b M r36 0 M = r36 (b + 1) M' ∧ Sq g.2.1 M' ∧ Sd g M' ∧ Le g M M' ∧ (Nd g M → ∀ a c, 0 ≤ a → a < g.2.1 → 0 ≤ c → c < g.2.1 → vl M' a c = upd M b a c) := by
 have hn0 := hg.n0; have hn1 := hg.n1; have hML := h1.l
 let I : Int → Int → List (List Int) → Prop := fun a c X => Sq g.2.1 X ∧ Sd g X ∧ Le g M X ∧ (Nd g M → ∀ a' c', 0 ≤ a' → a' < g.2.1 → 0 ≤ c' → c' < g.2.1 → vl X a' c' = if a' < a ∨ (a' = a ∧ c' < c) then upd M b a' c' else vl M a' c')
 have row : ∀ (a : Int) (Y : List (List Int)), (Y.length : Int) = g.2.1 → 0 ≤ a → a < g.2.1 → ∀ (n : Nat) (c : Int) (X : List (List Int)), 0 ≤ c → c ≤ g.2.1 → (g.2.1 - c).toNat = n → I a c X → ∃ X', gram_Endless_L42 b a Y (gram_Endless_L39 b M r36) c X = gram_Endless_L39 b M r36 (a + 1) X' ∧ I (a + 1) 0 X' := by
  intro a Y hY a0 a1 n
  induction n with
  | zero =>
   intro c X c0 c1 hn hI
   obtain rfl : c = g.2.1 := by omega
   refine ⟨X, ?_, hI.1, hI.2.1, hI.2.2.1, fun hnd a' c' p1 p2 p3 p4 => ?_⟩
   ·rw [gram_Endless_L42_eq]; unfold gram_Endless_L42_B
    rw [if_neg (by simp only [decide_eq_true_eq]; omega), G_pos (by unfold fits; omega)]
   ·rw [hI.2.2.2 hnd a' c' p1 p2 p3 p4]
    by_cases e : a' < a ∨ (a' = a ∧ c' < g.2.1)
    ·rw [if_pos e, if_pos (by omega)]
    ·rw [if_neg e, if_neg (by omega)]
  | succ n ih =>
   intro c X c0 c1 hn hI
   obtain ⟨q1, q2, q3, q4⟩ := hI
   have hXl := q1.l; have hXa := q1.r a a0 a1; have hXb := q1.r b b0 b1
   have c1 : c < g.2.1 := by omega
   rw [gram_Endless_L42_eq]; unfold gram_Endless_L42_B
   rw [if_pos (by simp only [decide_eq_true_eq]; omega), G_pos (by omega), G_pos (by omega), G_pos (by omega), G_pos (by omega), G_pos (by omega), G_pos (by omega), G_pos (by omega), G_pos (by omega)]
   have hread : Nd g M → vl X a b = vl M a b ∧ vl X b c = vl M b c ∧ vl X a c = vl M a c := fun hnd => by
    refine ⟨?_, ?_, ?_⟩
    ·rw [q4 hnd a b a0 a1 b0 b1, upd_col h2 hnd b0 b1 a0 a1, ite_self]
    ·rw [q4 hnd b c b0 b1 c0 c1, upd_row h2 hnd b0 b1 c0 c1, ite_self]
    ·rw [q4 hnd a c a0 a1 c0 c1, if_neg (by omega)]
   have stay : ¬ (0 < vl X a b ∧ 0 < vl X b c) → I a (c + 1) X := fun hno => ⟨q1, q2, q3, fun hnd a' c' p1 p2 p3 p4 => by
    rw [q4 hnd a' c' p1 p2 p3 p4]
    by_cases e : a' < a ∨ (a' = a ∧ c' < c)
    ·rw [if_pos e, if_pos (by omega)]
    ·rw [if_neg e]
     by_cases e2 : a' = a ∧ c' = c
     ·obtain ⟨rfl, rfl⟩ := e2
      rw [if_pos (by omega)]
      obtain ⟨r1, r2, r3⟩ := hread hnd
      rw [r1, r2] at hno
      unfold upd u3; rw [if_neg hno]
     ·rw [if_neg (by omega)]⟩
   have hJ46 : ∀ X', gram_Endless_J46 c (gram_Endless_L42 b a Y (gram_Endless_L39 b M r36)) X' = gram_Endless_L42 b a Y (gram_Endless_L39 b M r36) (c + 1) X' := fun X' => by
    unfold gram_Endless_J46; rw [G_pos (by unfold fits; omega)]
   by_cases d1 : 0 < vl X a b
   ·rw [if_pos (show decide (0 < ix (ix X a) b) = true from decide_eq_true d1)]
    unfold gram_Endless_J45
    by_cases d2 : 0 < vl X b c
    ·rw [if_pos (show decide (0 < ix (ix X b) c) = true from decide_eq_true d2), G_pos (by omega), G_pos (by omega), G_pos (by omega), G_pos (by omega), G_pos (by omega), G_pos (by omega), G_pos (by omega), G_pos (by omega), hJ46]
     have hx := imax_le (vl X a c) (vl X a b)
     have hy := imax_le (imax (vl X a c) (vl X a b)) (vl X b c)
     refine ih (c + 1) (cel X a c (imax (imax (vl X a c) (vl X a b)) (vl X b c))) (by omega) (by omega) (by omega) ⟨q1.put2 a0 a1, sd_cel q1 q2 a0 a1 c0 c1 (u3_sd hg q2 a0 a1 b0 b1 c0 c1 d1 d2), q3.trans fun a' c' p1 p2 p3 p4 => ?_, fun hnd a' c' p1 p2 p3 p4 => ?_⟩
     ·rw [vl_cel q1 a0 a1 c0 c1 p1 p3]
      split
      ·rename_i h; rw [← h.1, ← h.2]; omega
      ·exact Int.le_refl _
     ·obtain ⟨r1, r2, r3⟩ := hread hnd
      rw [vl_cel q1 a0 a1 c0 c1 p1 p3]
      by_cases e2 : a = a' ∧ c = c'
      ·obtain ⟨rfl, rfl⟩ := e2
       rw [if_pos ⟨rfl, rfl⟩, if_pos (by omega), r1, r2, r3]
       rw [r1] at d1; rw [r2] at d2
       unfold upd u3; rw [if_pos ⟨d1, d2⟩]
      ·rw [if_neg e2, q4 hnd a' c' p1 p2 p3 p4]
       by_cases e : a' < a ∨ (a' = a ∧ c' < c)
       ·rw [if_pos e, if_pos (by omega)]
       ·rw [if_neg e, if_neg (by omega)]
    ·rw [if_neg (show ¬ decide (0 < ix (ix X b) c) = true from fun h => d2 (of_decide_eq_true h)), hJ46]
     exact ih (c + 1) X (by omega) (by omega) (by omega) (stay fun h => d2 h.2)
   ·rw [if_neg (show ¬ decide (0 < ix (ix X a) b) = true from fun h => d1 (of_decide_eq_true h))]
    unfold gram_Endless_J45
    rw [if_neg (by simp), hJ46]
    exact ih (c + 1) X (by omega) (by omega) (by omega) (stay fun h => d1 h.1)
 have all : ∀ (n : Nat) (a : Int) (X : List (List Int)), 0 ≤ a → a ≤ g.2.1 → (g.2.1 - a).toNat = n → I a 0 X → ∃ X', gram_Endless_L39 b M r36 a X = r36 (b + 1) X' ∧ I g.2.1 0 X' := by
  intro n
  induction n with
  | zero =>
   intro a X a0 a1 hn hI
   obtain rfl : a = g.2.1 := by omega
   refine ⟨X, ?_, hI⟩
   rw [gram_Endless_L39_eq]; unfold gram_Endless_L39_B
   rw [if_neg (by simp only [decide_eq_true_eq]; omega), G_pos (by unfold fits; omega)]
  | succ n ih =>
   intro a X a0 a1 hn hI
   obtain ⟨X', e, hI'⟩ := row a X hI.1.l a0 (by omega) _ 0 X (Int.le_refl _) (by omega) rfl hI
   obtain ⟨X2, e2, hI2⟩ := ih (a + 1) X' (by omega) (by omega) (by omega) hI'
   refine ⟨X2, ?_, hI2⟩
   rw [gram_Endless_L39_eq]; unfold gram_Endless_L39_B
   rw [if_pos (by simp only [decide_eq_true_eq]; omega), e, e2]
 obtain ⟨X, e, q1, q2, q3, q4⟩ := all _ 0 M (Int.le_refl _) (by omega) rfl ⟨h1, h2, fun a b _ _ _ _ => Int.le_refl _, fun _ a' c' p1 _ _ _ => by rw [if_neg (by omega)]⟩
 exact ⟨X, e, q1, q2, q3, fun hnd a c p1 p2 p3 p4 => by rw [q4 hnd a c p1 p2 p3 p4, if_pos (by omega)]⟩
theorem close_spec (hg : GOk g) {M : List (List Int)} (h1 : Sq g.2.1 M) (h2 : Sd g M) : ∃ M', gram_Endless_L36 M 0 M = gram_Endless_L51 M' 0 ∧ Sq g.2.1 M' ∧ Sd g M' ∧ Le g M M' ∧ ((¬ Nd g M') ∨ ∀ e, 0 ≤ e → e < g.2.1 → Ct g M' e) := by
 have hn0 := hg.n0; have hn1 := hg.n1; have hML := h1.l
 have key : ∀ (n : Nat) (b : Int) (X : List (List Int)), 0 ≤ b → b ≤ g.2.1 → (g.2.1 - b).toNat = n → Sq g.2.1 X → Sd g X → Le g M X → ((¬ Nd g X) ∨ ∀ e, 0 ≤ e → e < b → Ct g X e) →
   ∃ M', gram_Endless_L36 M b X = gram_Endless_L51 M' 0 ∧ Sq g.2.1 M' ∧ Sd g M' ∧ Le g M M' ∧ ((¬ Nd g M') ∨ ∀ e, 0 ≤ e → e < g.2.1 → Ct g M' e) := by
  intro n
  induction n with
  | zero =>
   intro b X b0 b1 hn q1 q2 q3 q4
   obtain rfl : b = g.2.1 := by omega
   refine ⟨X, ?_, q1, q2, q3, q4⟩
   rw [gram_Endless_L36_eq]; unfold gram_Endless_L36_B
   rw [if_neg (by simp only [decide_eq_true_eq]; omega)]
  | succ n ih =>
   intro b X b0 b1 hn q1 q2 q3 q4
   obtain ⟨X', e, p1, p2, p3, p4⟩ := round_spec hg q1 q2 b0 (by omega) (r36 := gram_Endless_L36 M)
   rw [gram_Endless_L36_eq]; unfold gram_Endless_L36_B
   rw [if_pos (by simp only [decide_eq_true_eq]; omega), e]
   refine ih (b + 1) X' (by omega) (by omega) (by omega) p1 p2 (q3.trans p3) ?_
   by_cases hnd : Nd g X
   ·obtain ⟨s1, s2⟩ := ct_step q2 hnd b0 (by omega) (p4 hnd)
    rcases q4 with q4 | q4
    ·exact absurd hnd q4
    ·refine .inr fun e e0 e1 => ?_
     by_cases ee : e = b
     ·subst ee; exact s1
     ·exact s2 e e0 (by omega) (q4 e e0 (by omega))
   ·refine .inl fun h => hnd fun a a0 a1 e => ?_
    have := p3 a a a0 a1 a0 a1
    have := p2.b a0 a1 a0 a1
    exact h a a0 a1 (by omega)
 exact key _ 0 M (Int.le_refl _) (by omega) rfl h1 h2 (fun a b _ _ _ _ => Int.le_refl _) (.inr fun e a b => by omega)
/-- The answer stands on the table's diagonal. -/
theorem diag (hg : GOk g) {l : List Rul} (hl : UL g l) {M : List (List Int)} (h2 : Sd g M) (he : ∀ r ∈ l, ∀ i : Int, 0 ≤ i → i < r.2.1.length → Ed g M r i) (hc : (¬ Nd g M) ∨ ∀ e, 0 ≤ e → e < g.2.1 → Ct g M e) :
  (∃ b, 0 ≤ b ∧ b < g.2.1 ∧ vl M b b = 2) ↔ ∃ a, Mt g a ∧ Gd g a a := by
 constructor
 ·rintro ⟨b, b0, b1, e⟩
  have := (h2 b b b0 b1 b0 b1).resolve_left (by omega)
  exact ⟨b, this.2.1, this.2.2.2 e⟩
 ·rintro ⟨a, ha, hga⟩
  refine Classical.byContradiction fun hno => ?_
  have hnd : Nd g M := fun b b0 b1 e => hno ⟨b, b0, b1, e⟩
  rcases hc with hc | hc
  ·exact hc hnd
  have rng : ∀ b, Gd g a b → 0 ≤ b ∧ b < g.2.1 := fun b h => by
   cases h with
   | first r hr hw h i i0 i1 hl hm => exact (hg.rm hr).nm hg (ix_mem i0 i1) hl
   | next r hr hw h i i0 i1 hl => exact (hg.rm hr).nm hg (ix_mem i0 i1) hl
  obtain ⟨a0, a1⟩ := rng a hga
  have kr : ∀ b, Rc g a b → (0 ≤ b ∧ b < g.2.1) ∧ (a = b ∨ 1 ≤ vl M a b) := fun b h => by
   induction h with
   | refl => exact ⟨⟨a0, a1⟩, .inl rfl⟩
   | step r hr hw h i i0 i1 hln ih =>
    have ok := hg.rm hr
    obtain ⟨b0, b1⟩ := ok.nm hg (ix_mem i0 i1) hln
    have hed := he r ((hl.m r).2 ⟨hr, hw, h.mt ha⟩) i i0 i1 hln
    refine ⟨⟨b0, b1⟩, .inr ?_⟩
    rcases ih.2 with e | e
    ·rw [e]; exact hed.1
    ·have := hc _ ok.f0 ok.f1 a _ a0 a1 b0 b1 (by omega) (by omega); omega
  have kg : ∀ b, Gd g a b → vl M a b = 2 := fun b h => by
   induction h with
   | first r hr hw h i i0 i1 hln hm =>
    have ok := hg.rm hr
    obtain ⟨b0, b1⟩ := ok.nm hg (ix_mem i0 i1) hln
    have hed := (he r ((hl.m r).2 ⟨hr, hw, h.mt ha⟩) i i0 i1 hln).2 hm
    have := h2.b a0 a1 b0 b1
    have := h2.b ok.f0 ok.f1 b0 b1
    rcases (kr _ h).2 with e | e
    ·rw [e]; omega
    ·have := hc _ ok.f0 ok.f1 a _ a0 a1 b0 b1 (by omega) (by omega); omega
   | next r hr hw h i i0 i1 hln ih =>
    have ok := hg.rm hr
    obtain ⟨b0, b1⟩ := ok.nm hg (ix_mem i0 i1) hln
    have hmt : Mt g r.1 := by
     have := (h2 a r.1 a0 a1 ok.f0 ok.f1).resolve_left (by omega)
     exact this.2.2.1.mt ha
    have hed := (he r ((hl.m r).2 ⟨hr, hw, hmt⟩) i i0 i1 hln).1
    have := h2.b a0 a1 b0 b1
    have := hc _ ok.f0 ok.f1 a _ a0 a1 b0 b1 (by omega) (by omega); omega
  exact hnd a a0 a1 (kg a hga)
theorem endless_spec (hg : GOk g) {l : List Rul} (hl : UL g l) {m : List Bool} (hf : FuF g m) : ∃ b, gram_Endless_L8 l false g.1 g.2.1 g.2.2.1 m = some (b, 0) ∧ (b = true ↔ ∃ a, Mt g a ∧ Gd g a a) := by
 have hn0 := hg.n0; have hn1 := hg.n1
 have fill : ∀ (n : Nat) (t : Int) (M : List (List Int)), 0 ≤ t → t ≤ g.2.1 → (g.2.1 - t).toNat = n → (M.length : Int) = g.2.1 → (∀ a, 0 ≤ a → a < t → ix M a = List.replicate g.2.1.toNat 0) →
   ∃ M', gram_Endless_L18 l g.1 g.2.1 g.2.2.1 m t M = gram_Endless_L23 l g.1 g.2.1 g.2.2.1 m 0 M' ∧ (M'.length : Int) = g.2.1 ∧ ∀ a, 0 ≤ a → a < g.2.1 → ix M' a = List.replicate g.2.1.toNat 0 := by
  intro n
  induction n with
  | zero =>
   intro t M t0 t1 hn hM hx
   obtain rfl : t = g.2.1 := by omega
   refine ⟨M, ?_, hM, hx⟩
   rw [gram_Endless_L18_eq]; unfold gram_Endless_L18_B
   rw [if_neg (by simp; omega)]
  | succ n ih =>
   intro t M t0 t1 hn hM hx
   rw [gram_Endless_L18_eq]; unfold gram_Endless_L18_B
   rw [if_pos (by simp; omega), G_pos (by unfold mkOK; omega), G_pos (by omega), G_pos (by unfold fits; omega)]
   refine ih (t + 1) _ (by omega) (by omega) (by omega) (by rw [List.length_set]; exact hM) fun a a0 a1 => ?_
   by_cases e : t = a
   ·subst e; rw [ix_set_same t0 (by omega)]
   ·rw [ix_set_ne t0 a0 e]; exact hx a a0 (by omega)
 obtain ⟨M0, e0, hl0, hx0⟩ := fill _ 0 (List.replicate g.2.1.toNat []) (Int.le_refl _) (by omega) rfl (by simp; omega) (fun a a0 a1 => by omega)
 have hsq : Sq g.2.1 M0 := ⟨hl0, fun a a0 a1 => by rw [hx0 a a0 a1]; simp; omega⟩
 have hsd : Sd g M0 := fun a b a0 a1 b0 b1 => .inl (by unfold vl; rw [hx0 a a0 a1]; exact ix_replicate b0 (by omega))
 obtain ⟨M1, e1, q1, q2, q3⟩ := edges_spec hg hl hf hsq hsd
 obtain ⟨M2, e2, p1, p2, p3, p4⟩ := close_spec hg q1 q2
 have hd := diag hg hl p2 (fun r hr i i0 i1 => (q3 r hr i i0 i1).le hg ((hl.m r).1 hr).1 i0 i1 p3) p4
 have hp1 := p1.l
 have key : ∀ x, ((∃ b, 0 ≤ b ∧ b < g.2.1 ∧ vl M2 b b = 2) → some (true, 0) = x) → ((¬ ∃ b, 0 ≤ b ∧ b < g.2.1 ∧ vl M2 b b = 2) → some (false, 0) = x) → gram_Endless_L51 M2 0 = x := fun x h1 h2 => by
  refine scan_to (len := g.2.1) (bad := fun b => vl M2 b b = 2) (lo := 0) (by omega) (fun b b0 b1 => ?_) (fun hh => ?_)
  ·have hr := p1.r b b0 b1
   refine ⟨fun hb => ?_, fun hb => ?_⟩
   ·rw [← h1 ⟨b, b0, b1, hb⟩, gram_Endless_L51_eq]; unfold gram_Endless_L51_B
    rw [if_pos (by simp only [decide_eq_true_eq]; omega), G_pos (by omega), G_pos (by omega), G_pos (by omega), G_pos (by omega), if_pos (show decide (ix (ix M2 b) b = 2) = true from decide_eq_true hb)]
   ·conv => lhs; rw [gram_Endless_L51_eq]; unfold gram_Endless_L51_B
    rw [if_pos (by simp only [decide_eq_true_eq]; omega), G_pos (by omega), G_pos (by omega), G_pos (by omega), G_pos (by omega), if_neg (show ¬ decide (ix (ix M2 b) b = 2) = true from fun h => hb (of_decide_eq_true h)), G_pos (by unfold fits; omega)]
  ·rw [gram_Endless_L51_eq]; unfold gram_Endless_L51_B
   rw [if_neg (by simp only [decide_eq_true_eq]; omega)]
   exact h2 fun ⟨b, b0, b1, e⟩ => hh b b0 b1 e
 have e3 : ∀ x, gram_Endless_L51 M2 0 = x → gram_Endless_L8 l false g.1 g.2.1 g.2.2.1 m = x := fun x h => by
  rw [gram_Endless_L8_eq]; unfold gram_Endless_L8_B
  rw [if_neg (by simp), G_pos (by unfold mkOK; omega), e0, e1, e2, h]
 by_cases c : ∃ b, 0 ≤ b ∧ b < g.2.1 ∧ vl M2 b b = 2
 ·exact ⟨true, e3 _ (key _ (fun _ => rfl) (fun h => absurd c h)), by simp [← hd, c]⟩
 ·exact ⟨false, e3 _ (key _ (fun h => absurd h c) (fun _ => rfl)), by simp [← hd, c]⟩
end
theorem law_true (g : Gm) : law_GramUseful g = some true := by
 have eg : (g.1, (g.2.1, (g.2.2.1, ()))) = g := rfl
 obtain ⟨e, e1, e2, h⟩ := check_both (g := g)
 unfold law_GramUseful gram_Useful gram_Endless
 rw [eg, e1, e2]
 simp only [Option.bind_some]
 by_cases c : e = 0
 ·subst c
  have hg := h rfl
  have hn0 := hg.n0; have hn1 := hg.n1
  obtain ⟨l, m, u1, u2, u3⟩ := useful_spec hg
  obtain ⟨y, y1, y2⟩ := ending_spec hg
  obtain ⟨y', y1', y2'⟩ := r_ends_spec hg
  obtain ⟨z, z1, z2⟩ := r17_Met_spec hg
  obtain ⟨f, f1, f2⟩ := full_spec hg u2
  obtain ⟨b, b1, b2⟩ := endless_spec hg u2 f2
  obtain ⟨b', b1', b2'⟩ := r_endless_spec hg
  have hy : y = y' := y2.eq y2'
  have hz : m = z := u3.eq z2
  have hb : b = b' := by
   have := b2.trans b2'.symm
   cases b <;> cases b' <;> simp at this <;> rfl
  subst hy; subst hz; subst hb
  have hyl := y2.1.l; have hml := u3.1.l
  simp only [u1, y1, Option.bind_some, not_true_eq_false, decide_false, Bool.false_eq_true, if_false]
  rw [G_pos (by unfold mkOK; omega), f1, b1]
  simp only [Option.bind_some]
  simp only [y1', z1, b1', Option.bind_some, r1_Words_spec (show y.length ≤ 2305843009213693951 by omega), r1_Words_spec (show m.length ≤ 2305843009213693951 by omega)]
  simp
 ·simp only [c, not_false_eq_true, decide_true, if_true, Option.bind_some]
  simp [fits, G]

end Go.Proofs.Ytmekpjgicmgmfaa.gramUsefulW
