/- The law 'LyndonBruijn' of the plain functions. -/
import Derived.Test.YtnfljdgpdleobaaLyndonBruijnD
set_option maxHeartbeats 1000000
set_option maxRecDepth 20000
set_option linter.unusedSimpArgs false
set_option linter.unusedVariables false
set_option linter.unusedSectionVars false
namespace Go.Proofs.Ytnfljdgpdleobaa.lyndonBruijnW
open Go Go.Ab
/- what computes -/
def Le {α : Type} (m r : Option α) : Prop := ∀ y, m = some y → r = some y
theorem Le.refl {α : Type} (m : Option α) : Le m m := fun _ h => h
def cG {R : Type} (c : Prop) [Decidable c] (k : Option R) : Option R := if c then k else none
theorem cG_le {R : Type} {c : Prop} [Decidable c] {m r : Option R} (h : Le m r) : Le (cG c m) (G c r) := by
  intro y hy
  unfold cG at hy
  split at hy
  · rename_i hc; rw [G_pos hc]; exact h y hy
  · cases hy
theorem Le.ite {R : Type} {c : Prop} [Decidable c] {a b a' b' : Option R} (h : Le a a') (k : Le b b') : Le (if c then a else b) (if c then a' else b') := by
  intro y hy
  split at hy
  · rename_i hc; rw [if_pos hc]; exact h y hy
  · rename_i hc; rw [if_neg hc]; exact k y hy
theorem Le.bind' {A R : Type} {m r : Option A} {f g : A → Option R} (k : ∀ z, Le (f z) (g z)) (h : Le m r) : Le (m.bind f) (r.bind g) := by
  intro y hy
  cases m with
  | none => cases hy
  | some z => rw [h z rfl]; exact k z y hy
def fx {A B : Type} (F : (A → Option B) → A → Option B) : Nat → A → Option B
  | 0, _ => none
  | n + 1, a => F (fx F n) a
theorem Le_fx {A B : Type} {F F' : (A → Option B) → A → Option B} (hc : Cn F') (h : ∀ r r', (∀ x, Le (r x) (r' x)) → ∀ x, Le (F r x) (F' r' x)) : ∀ (N : Nat) (x : A), Le (fx F N x) (LFix F' x)
  | 0, _ => fun _ h => by cases h
  | n + 1, x => by
    rw [LFix_eq hc]
    exact h _ _ (fun x => Le_fx hc h n x) x
def forceL {R : Type} : List Int → (List Int → R) → R
  | [], k => k []
  | x :: xs, k => forceL xs (fun ys => k (x :: ys))
theorem forceL_eq {R : Type} : ∀ (l : List Int) (k : List Int → R), forceL l k = k l
  | [], _ => rfl
  | x :: xs, k => forceL_eq xs _
def mN : Nat := 4000
def m_lyndon_Bruijn_1_L6_B (rc_lyndon_Bruijn_1 : Int → Int → Int → Int → Int → Int → (List Int) → (List Int) → Option ((List Int) × (List Int) × Int × Int)) (t : Int) (t_2 : Int) (r6 : Int → Int → Int → (List Int) → (List Int) → Option ((List Int) × (List Int) × Int × Int)) (a : Int) (t_3 : Int) (t_4 : Int) (l_2 : (List Int)) (l_3 : (List Int)) : Option ((List Int) × (List Int) × Int × Int) :=
  if (decide (a < t_2)) = true then
  cG (0 ≤ t ∧ t < (l_2.length : Int)) (
  cG ((t).toNat < l_2.length) (
  cG (fits (t + (1 : Int))) (
  (rc_lyndon_Bruijn_1 (t + (1 : Int)) t t_3 t_4 t_3 t_4 l_3 (l_2.set (t).toNat a)).bind (fun y'_10 =>
  cG (fits (a + (1 : Int))) (
  r6 (a + (1 : Int)) y'_10.2.2.1 y'_10.2.2.2 y'_10.2.1 y'_10.1))))) else
  some (l_3, l_2, t_3, t_4)
theorem m_lyndon_Bruijn_1_L6_B_le (rc_lyndon_Bruijn_1 : Int → Int → Int → Int → Int → Int → (List Int) → (List Int) → Option ((List Int) × (List Int) × Int × Int)) (rc_lyndon_Bruijn_1q : Int → Int → Int → Int → Int → Int → (List Int) → (List Int) → Option ((List Int) × (List Int) × Int × Int)) (r6 : Int → Int → Int → (List Int) → (List Int) → Option ((List Int) × (List Int) × Int × Int)) (r6q : Int → Int → Int → (List Int) → (List Int) → Option ((List Int) × (List Int) × Int × Int))  (h_rc_lyndon_Bruijn_1 : ∀ x0 x1 x2 x3 x4 x5 x6 x7, Le (rc_lyndon_Bruijn_1 x0 x1 x2 x3 x4 x5 x6 x7) (rc_lyndon_Bruijn_1q x0 x1 x2 x3 x4 x5 x6 x7)) (h_r6 : ∀ x0 x1 x2 x3 x4, Le (r6 x0 x1 x2 x3 x4) (r6q x0 x1 x2 x3 x4)) (t : Int) (t_2 : Int) (a : Int) (t_3 : Int) (t_4 : Int) (l_2 : (List Int)) (l_3 : (List Int)) : Le (m_lyndon_Bruijn_1_L6_B rc_lyndon_Bruijn_1 t t_2 r6 a t_3 t_4 l_2 l_3) (lyndon_Bruijn_1_L6_B rc_lyndon_Bruijn_1q t t_2 r6q a t_3 t_4 l_2 l_3) := by
  unfold m_lyndon_Bruijn_1_L6_B lyndon_Bruijn_1_L6_B
  repeat' with_reducible first | exact Le.refl _ | exact h_rc_lyndon_Bruijn_1 _ _ _ _ _ _ _ _ | exact h_r6 _ _ _ _ _ | (apply Le.bind; · first | exact h_rc_lyndon_Bruijn_1 _ _ _ _ _ _ _ _ | exact h_r6 _ _ _ _ _; · intro _) | apply cG_le | apply Le.ite | (apply Le.bind'; intro _)
def m_lyndon_Bruijn_1_L6_F (rc_lyndon_Bruijn_1 : Int → Int → Int → Int → Int → Int → (List Int) → (List Int) → Option ((List Int) × (List Int) × Int × Int)) (t : Int) (t_2 : Int) : (Int × Int × Int × (List Int) × (List Int) → Option ((List Int) × (List Int) × Int × Int)) → Int × Int × Int × (List Int) × (List Int) → Option ((List Int) × (List Int) × Int × Int) :=
  fun rec x => m_lyndon_Bruijn_1_L6_B rc_lyndon_Bruijn_1 t t_2 (fun a t_3 t_4 l_2 l_3 => forceL l_2 (fun l_2 => rec (a, t_3, t_4, l_2, l_3))) x.1 x.2.1 x.2.2.1 x.2.2.2.1 x.2.2.2.2
theorem m_lyndon_Bruijn_1_L6_F_le (rc_lyndon_Bruijn_1 : Int → Int → Int → Int → Int → Int → (List Int) → (List Int) → Option ((List Int) × (List Int) × Int × Int)) (rc_lyndon_Bruijn_1q : Int → Int → Int → Int → Int → Int → (List Int) → (List Int) → Option ((List Int) × (List Int) × Int × Int))  (h_rc_lyndon_Bruijn_1 : ∀ x0 x1 x2 x3 x4 x5 x6 x7, Le (rc_lyndon_Bruijn_1 x0 x1 x2 x3 x4 x5 x6 x7) (rc_lyndon_Bruijn_1q x0 x1 x2 x3 x4 x5 x6 x7)) (t : Int) (t_2 : Int) : ∀ r rq, (∀ x, Le (r x) (rq x)) → ∀ x, Le (m_lyndon_Bruijn_1_L6_F rc_lyndon_Bruijn_1 t t_2 r x) (lyndon_Bruijn_1_L6_F rc_lyndon_Bruijn_1q t t_2 rq x) := by
  intro r rq h x
  unfold m_lyndon_Bruijn_1_L6_F lyndon_Bruijn_1_L6_F
  (try simp only [forceL_eq])
  apply m_lyndon_Bruijn_1_L6_B_le <;> intros <;> (first | exact h _ | assumption | (simp only [*]))
def m_lyndon_Bruijn_1_L6 (rc_lyndon_Bruijn_1 : Int → Int → Int → Int → Int → Int → (List Int) → (List Int) → Option ((List Int) × (List Int) × Int × Int)) (t : Int) (t_2 : Int) (a : Int) (t_3 : Int) (t_4 : Int) (l_2 : (List Int)) (l_3 : (List Int)) : Option ((List Int) × (List Int) × Int × Int) := fx (m_lyndon_Bruijn_1_L6_F rc_lyndon_Bruijn_1 t t_2) mN (a, t_3, t_4, l_2, l_3)
theorem m_lyndon_Bruijn_1_L6_le (rc_lyndon_Bruijn_1 : Int → Int → Int → Int → Int → Int → (List Int) → (List Int) → Option ((List Int) × (List Int) × Int × Int)) (rc_lyndon_Bruijn_1q : Int → Int → Int → Int → Int → Int → (List Int) → (List Int) → Option ((List Int) × (List Int) × Int × Int))  (h_rc_lyndon_Bruijn_1 : ∀ x0 x1 x2 x3 x4 x5 x6 x7, Le (rc_lyndon_Bruijn_1 x0 x1 x2 x3 x4 x5 x6 x7) (rc_lyndon_Bruijn_1q x0 x1 x2 x3 x4 x5 x6 x7)) (t : Int) (t_2 : Int) (a : Int) (t_3 : Int) (t_4 : Int) (l_2 : (List Int)) (l_3 : (List Int)) : Le (m_lyndon_Bruijn_1_L6 rc_lyndon_Bruijn_1 t t_2 a t_3 t_4 l_2 l_3) (lyndon_Bruijn_1_L6 rc_lyndon_Bruijn_1q t t_2 a t_3 t_4 l_2 l_3) := Le_fx (lyndon_Bruijn_1_L6_cn rc_lyndon_Bruijn_1q t t_2) (fun r rq h x => m_lyndon_Bruijn_1_L6_F_le rc_lyndon_Bruijn_1 rc_lyndon_Bruijn_1q h_rc_lyndon_Bruijn_1   t t_2 r rq h x) mN _
def m_lyndon_Bruijn_1_B (rc_lyndon_Bruijn_1 : Int → Int → Int → Int → Int → Int → (List Int) → (List Int) → Option ((List Int) × (List Int) × Int × Int)) (t : Int) (p : Int) (t_1 : Int) (t_2 : Int) (c : Int) (c_1 : Int) (l : (List Int)) (l_1 : (List Int)) : Option ((List Int) × (List Int) × Int × Int) :=
  if (decide (t_1 < t)) = true then
  cG (p ≠ 0) (
  if (decide ((Int.tmod t_1 p) = (0 : Int))) = true then
  cG (fits (p + (1 : Int))) (
  cG (0 ≤ (1 : Int) ∧ (1 : Int) ≤ p + (1 : Int) ∧ p + (1 : Int) ≤ (l_1.length : Int)) (
  cG ((((1 : Int)).toNat) + (((p + (1 : Int)) - (1 : Int)).toNat) ≤ l_1.length) (
  cG (room l ((l_1.drop (((1 : Int)).toNat)).take (((p + (1 : Int)) - (1 : Int)).toNat)) 8) (
  some (l ++ ((l_1.drop (((1 : Int)).toNat)).take (((p + (1 : Int)) - (1 : Int)).toNat)), l_1, c, c_1))))) else
  some (l, l_1, c, c_1)) else
  cG (fits (t - p)) (
  cG (0 ≤ t - p ∧ t - p < (l_1.length : Int)) (
  cG ((t - p).toNat < l_1.length) (
  cG (0 ≤ t ∧ t < (l_1.length : Int)) (
  cG ((t).toNat < l_1.length) (
  cG (fits (t + (1 : Int))) (
  (rc_lyndon_Bruijn_1 (t + (1 : Int)) p c c_1 c c_1 l (l_1.set (t).toNat (ix l_1 (t - p)))).bind (fun y'_11 =>
  cG (fits (t - p)) (
  cG (0 ≤ t - p ∧ t - p < (y'_11.2.1.length : Int)) (
  cG ((t - p).toNat < y'_11.2.1.length) (
  cG (fits ((ix y'_11.2.1 (t - p)) + (1 : Int))) (
  m_lyndon_Bruijn_1_L6 rc_lyndon_Bruijn_1 t t_2 ((ix y'_11.2.1 (t - p)) + (1 : Int)) y'_11.2.2.1 y'_11.2.2.2 y'_11.2.1 y'_11.1)))))))))))
theorem m_lyndon_Bruijn_1_B_le (rc_lyndon_Bruijn_1 : Int → Int → Int → Int → Int → Int → (List Int) → (List Int) → Option ((List Int) × (List Int) × Int × Int)) (rc_lyndon_Bruijn_1q : Int → Int → Int → Int → Int → Int → (List Int) → (List Int) → Option ((List Int) × (List Int) × Int × Int))  (h_rc_lyndon_Bruijn_1 : ∀ x0 x1 x2 x3 x4 x5 x6 x7, Le (rc_lyndon_Bruijn_1 x0 x1 x2 x3 x4 x5 x6 x7) (rc_lyndon_Bruijn_1q x0 x1 x2 x3 x4 x5 x6 x7)) (t : Int) (p : Int) (t_1 : Int) (t_2 : Int) (c : Int) (c_1 : Int) (l : (List Int)) (l_1 : (List Int)) : Le (m_lyndon_Bruijn_1_B rc_lyndon_Bruijn_1 t p t_1 t_2 c c_1 l l_1) (lyndon_Bruijn_1_B rc_lyndon_Bruijn_1q t p t_1 t_2 c c_1 l l_1) := by
  unfold m_lyndon_Bruijn_1_B lyndon_Bruijn_1_B
  repeat' with_reducible first | exact Le.refl _ | exact h_rc_lyndon_Bruijn_1 _ _ _ _ _ _ _ _ | (apply Le.bind; · first | exact h_rc_lyndon_Bruijn_1 _ _ _ _ _ _ _ _; · intro _) | (apply m_lyndon_Bruijn_1_L6_le <;> (first | assumption | (intros; first | assumption | exact h_rc_lyndon_Bruijn_1 _ _ _ _ _ _ _ _))) | apply cG_le | apply Le.ite | (apply Le.bind'; intro _)
def m_lyndon_Bruijn_1_F  : (Int × Int × Int × Int × Int × Int × (List Int) × (List Int) → Option ((List Int) × (List Int) × Int × Int)) → Int × Int × Int × Int × Int × Int × (List Int) × (List Int) → Option ((List Int) × (List Int) × Int × Int) :=
  fun rec X => m_lyndon_Bruijn_1_B (fun t p t_1 t_2 c c_1 l l_1 => forceL l_1 (fun l_1 => rec (t, p, t_1, t_2, c, c_1, l, l_1))) X.1 X.2.1 X.2.2.1 X.2.2.2.1 X.2.2.2.2.1 X.2.2.2.2.2.1 X.2.2.2.2.2.2.1 X.2.2.2.2.2.2.2
theorem m_lyndon_Bruijn_1_F_le    : ∀ r rq, (∀ x, Le (r x) (rq x)) → ∀ x, Le (m_lyndon_Bruijn_1_F  r x) (lyndon_Bruijn_1_F  rq x) := by
  intro r rq h x
  unfold m_lyndon_Bruijn_1_F lyndon_Bruijn_1_F
  (try simp only [forceL_eq])
  apply m_lyndon_Bruijn_1_B_le <;> intros <;> (first | exact h _ | assumption | (simp only [*]))
def m_lyndon_Bruijn_1 (t : Int) (p : Int) (t_1 : Int) (t_2 : Int) (c : Int) (c_1 : Int) (l : (List Int)) (l_1 : (List Int)) : Option ((List Int) × (List Int) × Int × Int) := fx (m_lyndon_Bruijn_1_F) mN (t, p, t_1, t_2, c, c_1, l, l_1)
theorem m_lyndon_Bruijn_1_le   (t : Int) (p : Int) (t_1 : Int) (t_2 : Int) (c : Int) (c_1 : Int) (l : (List Int)) (l_1 : (List Int)) : Le (m_lyndon_Bruijn_1 t p t_1 t_2 c c_1 l l_1) (lyndon_Bruijn_1 t p t_1 t_2 c c_1 l l_1) := Le_fx (lyndon_Bruijn_1_cn ) (fun r rq h x => m_lyndon_Bruijn_1_F_le   r rq h x) mN _
def m_lyndon_Bruijn_L5_B (letters : Int) (n : Int) (r5 : Int → Int → Option (Int × (List Int))) (all' : Int) (t : Int) : Option (Int × (List Int)) :=
  if (decide (t < n)) = true then
  cG (fits (all' * letters)) (
  cG (fits (t + (1 : Int))) (
  r5 (all' * letters) (t + (1 : Int)))) else
  if (decide ((256 : Int) < all')) = true then
  some ((7 : Int), []) else
  cG (fits (n + (1 : Int))) (
  cG (mkOK (n + (1 : Int)) (n + (1 : Int)) 8) (
  (m_lyndon_Bruijn_1 (1 : Int) (1 : Int) n letters n letters ([] : List Int) (List.replicate (n + (1 : Int)).toNat (0 : Int))).bind (fun y'_5 =>
  some ((0 : Int), y'_5.1))))
theorem m_lyndon_Bruijn_L5_B_le (r5 : Int → Int → Option (Int × (List Int))) (r5q : Int → Int → Option (Int × (List Int)))  (h_r5 : ∀ x0 x1, Le (r5 x0 x1) (r5q x0 x1)) (letters : Int) (n : Int) (all' : Int) (t : Int) : Le (m_lyndon_Bruijn_L5_B letters n r5 all' t) (lyndon_Bruijn_L5_B letters n r5q all' t) := by
  unfold m_lyndon_Bruijn_L5_B lyndon_Bruijn_L5_B
  repeat' with_reducible first | exact Le.refl _ | exact h_r5 _ _ | (apply Le.bind; · first | exact h_r5 _ _; · intro _) | (apply m_lyndon_Bruijn_1_le <;> (first | assumption | (intros; first | assumption | exact h_r5 _ _))) | apply cG_le | apply Le.ite | (apply Le.bind'; intro _)
def m_lyndon_Bruijn_L5_F (letters : Int) (n : Int) : (Int × Int → Option (Int × (List Int))) → Int × Int → Option (Int × (List Int)) :=
  fun rec x => m_lyndon_Bruijn_L5_B letters n (fun all' t => rec (all', t)) x.1 x.2
theorem m_lyndon_Bruijn_L5_F_le   (letters : Int) (n : Int) : ∀ r rq, (∀ x, Le (r x) (rq x)) → ∀ x, Le (m_lyndon_Bruijn_L5_F letters n r x) (lyndon_Bruijn_L5_F letters n rq x) := by
  intro r rq h x
  unfold m_lyndon_Bruijn_L5_F lyndon_Bruijn_L5_F
  (try simp only [forceL_eq])
  apply m_lyndon_Bruijn_L5_B_le <;> intros <;> (first | exact h _ | assumption | (simp only [*]))
def m_lyndon_Bruijn_L5 (letters : Int) (n : Int) (all' : Int) (t : Int) : Option (Int × (List Int)) := fx (m_lyndon_Bruijn_L5_F letters n) mN (all', t)
theorem m_lyndon_Bruijn_L5_le   (letters : Int) (n : Int) (all' : Int) (t : Int) : Le (m_lyndon_Bruijn_L5 letters n all' t) (lyndon_Bruijn_L5 letters n all' t) := Le_fx (lyndon_Bruijn_L5_cn letters n) (fun r rq h x => m_lyndon_Bruijn_L5_F_le   letters n r rq h x) mN _
def m_lyndon_Bruijn (letters : Int) (n : Int) : Option (Int × (List Int)) :=
  if (decide (letters < (1 : Int))) = true then
  some ((2 : Int), []) else
  if (decide ((4 : Int) < letters)) = true then
  some ((2 : Int), []) else
  if (decide (n < (1 : Int))) = true then
  some ((2 : Int), []) else
  if (decide ((8 : Int) < n)) = true then
  some ((2 : Int), []) else
  m_lyndon_Bruijn_L5 letters n (1 : Int) (0 : Int)
theorem m_lyndon_Bruijn_le   (letters : Int) (n : Int) : Le (m_lyndon_Bruijn letters n) (lyndon_Bruijn letters n) := by
  unfold m_lyndon_Bruijn lyndon_Bruijn
  repeat' with_reducible first | exact Le.refl _ | (apply m_lyndon_Bruijn_L5_le <;> (first | assumption | (intros; first | assumption ))) | apply cG_le | apply Le.ite | (apply Le.bind'; intro _)
def m_r31_All_L3_B (letters : Int) (n : Int) (r3 : Int → Int → Option (Int)) (all' : Int) (i : Int) : Option (Int) :=
  if (decide (i < n)) = true then
  cG (fits (all' * letters)) (
  if (decide ((256 : Int) < (all' * letters))) = true then
  some (257 : Int) else
  cG (fits (i + (1 : Int))) (
  r3 (all' * letters) (i + (1 : Int)))) else
  some all'
theorem m_r31_All_L3_B_le (r3 : Int → Int → Option (Int)) (r3q : Int → Int → Option (Int))  (h_r3 : ∀ x0 x1, Le (r3 x0 x1) (r3q x0 x1)) (letters : Int) (n : Int) (all' : Int) (i : Int) : Le (m_r31_All_L3_B letters n r3 all' i) (r31_All_L3_B letters n r3q all' i) := by
  unfold m_r31_All_L3_B r31_All_L3_B
  repeat' with_reducible first | exact Le.refl _ | exact h_r3 _ _ | (apply Le.bind; · first | exact h_r3 _ _; · intro _) | apply cG_le | apply Le.ite | (apply Le.bind'; intro _)
def m_r31_All_L3_F (letters : Int) (n : Int) : (Int × Int → Option (Int)) → Int × Int → Option (Int) :=
  fun rec x => m_r31_All_L3_B letters n (fun all' i => rec (all', i)) x.1 x.2
theorem m_r31_All_L3_F_le   (letters : Int) (n : Int) : ∀ r rq, (∀ x, Le (r x) (rq x)) → ∀ x, Le (m_r31_All_L3_F letters n r x) (r31_All_L3_F letters n rq x) := by
  intro r rq h x
  unfold m_r31_All_L3_F r31_All_L3_F
  (try simp only [forceL_eq])
  apply m_r31_All_L3_B_le <;> intros <;> (first | exact h _ | assumption | (simp only [*]))
def m_r31_All_L3 (letters : Int) (n : Int) (all' : Int) (i : Int) : Option (Int) := fx (m_r31_All_L3_F letters n) mN (all', i)
theorem m_r31_All_L3_le   (letters : Int) (n : Int) (all' : Int) (i : Int) : Le (m_r31_All_L3 letters n all' i) (r31_All_L3 letters n all' i) := Le_fx (r31_All_L3_cn letters n) (fun r rq h x => m_r31_All_L3_F_le   letters n r rq h x) mN _
def m_r31_All (letters : Int) (n : Int) : Option (Int) :=
  m_r31_All_L3 letters n (1 : Int) (0 : Int)
theorem m_r31_All_le   (letters : Int) (n : Int) : Le (m_r31_All letters n) (r31_All letters n) := by
  unfold m_r31_All r31_All
  repeat' with_reducible first | exact Le.refl _ | (apply m_r31_All_L3_le <;> (first | assumption | (intros; first | assumption ))) | apply cG_le | apply Le.ite | (apply Le.bind'; intro _)
def m_r31_Bruijn_L7_B (w : (List Int)) (letters : Int) (n : Int) (i : Int) (seen : (List Bool)) (r3 : (Int → (List Bool) → Option (Bool))) (r7 : Int → Int → Option (Bool)) (k : Int) (j : Int) : Option (Bool) :=
  if (decide (j < n)) = true then
  cG (fits (i + j)) (
  cG ((w.length : Int) ≠ 0) (
  cG (0 ≤ Int.tmod (i + j) (w.length : Int) ∧ Int.tmod (i + j) (w.length : Int) < (w.length : Int)) (
  if (decide ((ix w (Int.tmod (i + j) (w.length : Int))) < (0 : Int))) = true then
  some false else
  if (decide (letters ≤ (ix w (Int.tmod (i + j) (w.length : Int))))) = true then
  some false else
  cG (fits (k * letters)) (
  cG (fits ((k * letters) + (ix w (Int.tmod (i + j) (w.length : Int))))) (
  cG (fits (j + (1 : Int))) (
  r7 ((k * letters) + (ix w (Int.tmod (i + j) (w.length : Int)))) (j + (1 : Int)))))))) else
  cG (0 ≤ k ∧ k < (seen.length : Int)) (
  cG ((k).toNat < seen.length) (
  if (ix seen k) = true then
  some false else
  cG (0 ≤ k ∧ k < (seen.length : Int)) (
  cG ((k).toNat < seen.length) (
  cG (fits (i + (1 : Int))) (
  r3 (i + (1 : Int)) (seen.set (k).toNat true))))))
theorem m_r31_Bruijn_L7_B_le (r3 : (Int → (List Bool) → Option (Bool))) (r3q : (Int → (List Bool) → Option (Bool))) (r7 : Int → Int → Option (Bool)) (r7q : Int → Int → Option (Bool))  (h_r3 : ∀ x0 x1, Le (r3 x0 x1) (r3q x0 x1)) (h_r7 : ∀ x0 x1, Le (r7 x0 x1) (r7q x0 x1)) (w : (List Int)) (letters : Int) (n : Int) (i : Int) (seen : (List Bool)) (k : Int) (j : Int) : Le (m_r31_Bruijn_L7_B w letters n i seen r3 r7 k j) (r31_Bruijn_L7_B w letters n i seen r3q r7q k j) := by
  unfold m_r31_Bruijn_L7_B r31_Bruijn_L7_B
  repeat' with_reducible first | exact Le.refl _ | exact h_r3 _ _ | exact h_r7 _ _ | (apply Le.bind; · first | exact h_r3 _ _ | exact h_r7 _ _; · intro _) | apply cG_le | apply Le.ite | (apply Le.bind'; intro _)
def m_r31_Bruijn_L7_F (w : (List Int)) (letters : Int) (n : Int) (i : Int) (seen : (List Bool)) (r3 : (Int → (List Bool) → Option (Bool))) : (Int × Int → Option (Bool)) → Int × Int → Option (Bool) :=
  fun rec x => m_r31_Bruijn_L7_B w letters n i seen r3 (fun k j => rec (k, j)) x.1 x.2
theorem m_r31_Bruijn_L7_F_le (r3 : (Int → (List Bool) → Option (Bool))) (r3q : (Int → (List Bool) → Option (Bool)))  (h_r3 : ∀ x0 x1, Le (r3 x0 x1) (r3q x0 x1)) (w : (List Int)) (letters : Int) (n : Int) (i : Int) (seen : (List Bool)) : ∀ r rq, (∀ x, Le (r x) (rq x)) → ∀ x, Le (m_r31_Bruijn_L7_F w letters n i seen r3 r x) (r31_Bruijn_L7_F w letters n i seen r3q rq x) := by
  intro r rq h x
  unfold m_r31_Bruijn_L7_F r31_Bruijn_L7_F
  (try simp only [forceL_eq])
  apply m_r31_Bruijn_L7_B_le <;> intros <;> (first | exact h _ | assumption | (simp only [*]))
def m_r31_Bruijn_L7 (w : (List Int)) (letters : Int) (n : Int) (i : Int) (seen : (List Bool)) (r3 : (Int → (List Bool) → Option (Bool))) (k : Int) (j : Int) : Option (Bool) := fx (m_r31_Bruijn_L7_F w letters n i seen r3) mN (k, j)
theorem m_r31_Bruijn_L7_le (r3 : (Int → (List Bool) → Option (Bool))) (r3q : (Int → (List Bool) → Option (Bool)))  (h_r3 : ∀ x0 x1, Le (r3 x0 x1) (r3q x0 x1)) (w : (List Int)) (letters : Int) (n : Int) (i : Int) (seen : (List Bool)) (k : Int) (j : Int) : Le (m_r31_Bruijn_L7 w letters n i seen r3 k j) (r31_Bruijn_L7 w letters n i seen r3q k j) := Le_fx (r31_Bruijn_L7_cn r3q w letters n i seen) (fun r rq h x => m_r31_Bruijn_L7_F_le      r3 r3q h_r3 w letters n i seen r rq h x) mN _
def m_r31_Bruijn_L3_B (w : (List Int)) (letters : Int) (n : Int) (r3 : Int → (List Bool) → Option (Bool)) (i : Int) (seen : (List Bool)) : Option (Bool) :=
  if (decide (i < (w.length : Int))) = true then
  m_r31_Bruijn_L7 w letters n i seen r3 (0 : Int) (0 : Int) else
  (m_r31_All letters n).bind (fun y' =>
  some (decide ((w.length : Int) = y')))
theorem m_r31_Bruijn_L3_B_le (r3 : Int → (List Bool) → Option (Bool)) (r3q : Int → (List Bool) → Option (Bool))  (h_r3 : ∀ x0 x1, Le (r3 x0 x1) (r3q x0 x1)) (w : (List Int)) (letters : Int) (n : Int) (i : Int) (seen : (List Bool)) : Le (m_r31_Bruijn_L3_B w letters n r3 i seen) (r31_Bruijn_L3_B w letters n r3q i seen) := by
  unfold m_r31_Bruijn_L3_B r31_Bruijn_L3_B
  repeat' with_reducible first | exact Le.refl _ | exact h_r3 _ _ | (apply Le.bind; · first | exact h_r3 _ _; · intro _) | (apply m_r31_Bruijn_L7_le <;> (first | assumption | (intros; first | assumption | exact h_r3 _ _))) | (apply m_r31_All_le <;> (first | assumption | (intros; first | assumption | exact h_r3 _ _))) | apply cG_le | apply Le.ite | (apply Le.bind'; intro _)
def m_r31_Bruijn_L3_F (w : (List Int)) (letters : Int) (n : Int) : (Int × (List Bool) → Option (Bool)) → Int × (List Bool) → Option (Bool) :=
  fun rec x => m_r31_Bruijn_L3_B w letters n (fun i seen => rec (i, seen)) x.1 x.2
theorem m_r31_Bruijn_L3_F_le   (w : (List Int)) (letters : Int) (n : Int) : ∀ r rq, (∀ x, Le (r x) (rq x)) → ∀ x, Le (m_r31_Bruijn_L3_F w letters n r x) (r31_Bruijn_L3_F w letters n rq x) := by
  intro r rq h x
  unfold m_r31_Bruijn_L3_F r31_Bruijn_L3_F
  (try simp only [forceL_eq])
  apply m_r31_Bruijn_L3_B_le <;> intros <;> (first | exact h _ | assumption | (simp only [*]))
def m_r31_Bruijn_L3 (w : (List Int)) (letters : Int) (n : Int) (i : Int) (seen : (List Bool)) : Option (Bool) := fx (m_r31_Bruijn_L3_F w letters n) mN (i, seen)
theorem m_r31_Bruijn_L3_le   (w : (List Int)) (letters : Int) (n : Int) (i : Int) (seen : (List Bool)) : Le (m_r31_Bruijn_L3 w letters n i seen) (r31_Bruijn_L3 w letters n i seen) := Le_fx (r31_Bruijn_L3_cn w letters n) (fun r rq h x => m_r31_Bruijn_L3_F_le    w letters n r rq h x) mN _
def m_r31_Bruijn (w : (List Int)) (letters : Int) (n : Int) : Option (Bool) :=
  cG (mkOK (256 : Int) (256 : Int) 1) (
  m_r31_Bruijn_L3 w letters n (0 : Int) (List.replicate ((256 : Int)).toNat (false : Bool)))
theorem m_r31_Bruijn_le   (w : (List Int)) (letters : Int) (n : Int) : Le (m_r31_Bruijn w letters n) (r31_Bruijn w letters n) := by
  unfold m_r31_Bruijn r31_Bruijn
  repeat' with_reducible first | exact Le.refl _ | (apply m_r31_Bruijn_L3_le <;> (first | assumption | (intros; first | assumption ))) | apply cG_le | apply Le.ite | (apply Le.bind'; intro _)
def m_r31_First_J13 (r3 : ((List Int) → (List Int) → Option (List Int))) (out_1 : (List Int)) (next' : (List Int)) (k_1 : Int) : Option (List Int) :=
  cG (0 ≤ k_1 ∧ k_1 ≤ (next'.length : Int)) (
  if (decide ((0 : Int) < k_1)) = true then
  cG (fits (k_1 - (1 : Int))) (
  cG (0 ≤ k_1 - (1 : Int) ∧ k_1 - (1 : Int) < ((next'.take (k_1).toNat).length : Int)) (
  cG ((k_1 - (1 : Int)).toNat < (next'.take (k_1).toNat).length) (
  cG (fits ((ix (next'.take (k_1).toNat) (k_1 - (1 : Int))) + (1 : Int))) (
  cG (0 ≤ k_1 - (1 : Int) ∧ k_1 - (1 : Int) < ((next'.take (k_1).toNat).length : Int)) (
  cG ((k_1 - (1 : Int)).toNat < (next'.take (k_1).toNat).length) (
  r3 ((next'.take (k_1).toNat).set (k_1 - (1 : Int)).toNat ((ix (next'.take (k_1).toNat) (k_1 - (1 : Int))) + (1 : Int))) out_1)))))) else
  r3 (next'.take (k_1).toNat) out_1)
theorem m_r31_First_J13_le (r3 : ((List Int) → (List Int) → Option (List Int))) (r3q : ((List Int) → (List Int) → Option (List Int)))  (h_r3 : ∀ x0 x1, Le (r3 x0 x1) (r3q x0 x1)) (out_1 : (List Int)) (next' : (List Int)) (k_1 : Int) : Le (m_r31_First_J13 r3 out_1 next' k_1) (r31_First_J13 r3q out_1 next' k_1) := by
  unfold m_r31_First_J13 r31_First_J13
  repeat' with_reducible first | exact Le.refl _ | exact h_r3 _ _ | (apply Le.bind; · first | exact h_r3 _ _; · intro _) | apply cG_le | apply Le.ite | (apply Le.bind'; intro _)
def m_r31_First_L12_B (letters : Int) (r3 : ((List Int) → (List Int) → Option (List Int))) (out_1 : (List Int)) (next' : (List Int)) (r12 : Int → Option (List Int)) (k : Int) : Option (List Int) :=
  if (decide ((0 : Int) < k)) = true then
  cG (fits (k - (1 : Int))) (
  cG (0 ≤ k - (1 : Int) ∧ k - (1 : Int) < (next'.length : Int)) (
  cG ((k - (1 : Int)).toNat < next'.length) (
  cG (fits (letters - (1 : Int))) (
  if (decide ((ix next' (k - (1 : Int))) = (letters - (1 : Int)))) = true then
  cG (fits (k - (1 : Int))) (
  r12 (k - (1 : Int))) else
  m_r31_First_J13 r3 out_1 next' k)))) else
  m_r31_First_J13 r3 out_1 next' k
theorem m_r31_First_L12_B_le (r3 : ((List Int) → (List Int) → Option (List Int))) (r3q : ((List Int) → (List Int) → Option (List Int))) (r12 : Int → Option (List Int)) (r12q : Int → Option (List Int))  (h_r3 : ∀ x0 x1, Le (r3 x0 x1) (r3q x0 x1)) (h_r12 : ∀ x0, Le (r12 x0) (r12q x0)) (letters : Int) (out_1 : (List Int)) (next' : (List Int)) (k : Int) : Le (m_r31_First_L12_B letters r3 out_1 next' r12 k) (r31_First_L12_B letters r3q out_1 next' r12q k) := by
  unfold m_r31_First_L12_B r31_First_L12_B
  repeat' with_reducible first | exact Le.refl _ | exact h_r3 _ _ | exact h_r12 _ | (apply Le.bind; · first | exact h_r3 _ _ | exact h_r12 _; · intro _) | (apply m_r31_First_J13_le <;> (first | assumption | (intros; first | assumption | exact h_r3 _ _ | exact h_r12 _))) | apply cG_le | apply Le.ite | (apply Le.bind'; intro _)
def m_r31_First_L12_F (letters : Int) (r3 : ((List Int) → (List Int) → Option (List Int))) (out_1 : (List Int)) (next' : (List Int)) : (Int → Option (List Int)) → Int → Option (List Int) :=
  fun rec x => m_r31_First_L12_B letters r3 out_1 next' (fun k => rec k) x
theorem m_r31_First_L12_F_le (r3 : ((List Int) → (List Int) → Option (List Int))) (r3q : ((List Int) → (List Int) → Option (List Int)))  (h_r3 : ∀ x0 x1, Le (r3 x0 x1) (r3q x0 x1)) (letters : Int) (out_1 : (List Int)) (next' : (List Int)) : ∀ r rq, (∀ x, Le (r x) (rq x)) → ∀ x, Le (m_r31_First_L12_F letters r3 out_1 next' r x) (r31_First_L12_F letters r3q out_1 next' rq x) := by
  intro r rq h x
  unfold m_r31_First_L12_F r31_First_L12_F
  (try simp only [forceL_eq])
  apply m_r31_First_L12_B_le <;> intros <;> (first | exact h _ | assumption | (simp only [*]))
def m_r31_First_L12 (letters : Int) (r3 : ((List Int) → (List Int) → Option (List Int))) (out_1 : (List Int)) (next' : (List Int)) (k : Int) : Option (List Int) := fx (m_r31_First_L12_F letters r3 out_1 next') mN k
theorem m_r31_First_L12_le (r3 : ((List Int) → (List Int) → Option (List Int))) (r3q : ((List Int) → (List Int) → Option (List Int)))  (h_r3 : ∀ x0 x1, Le (r3 x0 x1) (r3q x0 x1)) (letters : Int) (out_1 : (List Int)) (next' : (List Int)) (k : Int) : Le (m_r31_First_L12 letters r3 out_1 next' k) (r31_First_L12 letters r3q out_1 next' k) := Le_fx (r31_First_L12_cn r3q letters out_1 next') (fun r rq h x => m_r31_First_L12_F_le  r3 r3q h_r3   letters out_1 next' r rq h x) mN _
def m_r31_First_L8_B (letters : Int) (n : Int) (w : (List Int)) (r3 : ((List Int) → (List Int) → Option (List Int))) (out_1 : (List Int)) (r8 : Int → (List Int) → Option (List Int)) (i : Int) (next' : (List Int)) : Option (List Int) :=
  if (decide (i < n)) = true then
  cG ((w.length : Int) ≠ 0) (
  cG (0 ≤ Int.tmod i (w.length : Int) ∧ Int.tmod i (w.length : Int) < (w.length : Int)) (
  cG ((Int.tmod i (w.length : Int)).toNat < w.length) (
  cG (room next' ([ix w (Int.tmod i (w.length : Int))]) 8) (
  cG (fits (i + (1 : Int))) (
  r8 (i + (1 : Int)) (next' ++ ([ix w (Int.tmod i (w.length : Int))]))))))) else
  m_r31_First_L12 letters r3 out_1 next' n
theorem m_r31_First_L8_B_le (r3 : ((List Int) → (List Int) → Option (List Int))) (r3q : ((List Int) → (List Int) → Option (List Int))) (r8 : Int → (List Int) → Option (List Int)) (r8q : Int → (List Int) → Option (List Int))  (h_r3 : ∀ x0 x1, Le (r3 x0 x1) (r3q x0 x1)) (h_r8 : ∀ x0 x1, Le (r8 x0 x1) (r8q x0 x1)) (letters : Int) (n : Int) (w : (List Int)) (out_1 : (List Int)) (i : Int) (next' : (List Int)) : Le (m_r31_First_L8_B letters n w r3 out_1 r8 i next') (r31_First_L8_B letters n w r3q out_1 r8q i next') := by
  unfold m_r31_First_L8_B r31_First_L8_B
  repeat' with_reducible first | exact Le.refl _ | exact h_r3 _ _ | exact h_r8 _ _ | (apply Le.bind; · first | exact h_r3 _ _ | exact h_r8 _ _; · intro _) | (apply m_r31_First_L12_le <;> (first | assumption | (intros; first | assumption | exact h_r3 _ _ | exact h_r8 _ _))) | apply cG_le | apply Le.ite | (apply Le.bind'; intro _)
def m_r31_First_L8_F (letters : Int) (n : Int) (w : (List Int)) (r3 : ((List Int) → (List Int) → Option (List Int))) (out_1 : (List Int)) : (Int × (List Int) → Option (List Int)) → Int × (List Int) → Option (List Int) :=
  fun rec x => m_r31_First_L8_B letters n w r3 out_1 (fun i next' => forceL next' (fun next' => rec (i, next'))) x.1 x.2
theorem m_r31_First_L8_F_le (r3 : ((List Int) → (List Int) → Option (List Int))) (r3q : ((List Int) → (List Int) → Option (List Int)))  (h_r3 : ∀ x0 x1, Le (r3 x0 x1) (r3q x0 x1)) (letters : Int) (n : Int) (w : (List Int)) (out_1 : (List Int)) : ∀ r rq, (∀ x, Le (r x) (rq x)) → ∀ x, Le (m_r31_First_L8_F letters n w r3 out_1 r x) (r31_First_L8_F letters n w r3q out_1 rq x) := by
  intro r rq h x
  unfold m_r31_First_L8_F r31_First_L8_F
  (try simp only [forceL_eq])
  apply m_r31_First_L8_B_le <;> intros <;> (first | exact h _ | assumption | (simp only [*]))
def m_r31_First_L8 (letters : Int) (n : Int) (w : (List Int)) (r3 : ((List Int) → (List Int) → Option (List Int))) (out_1 : (List Int)) (i : Int) (next' : (List Int)) : Option (List Int) := fx (m_r31_First_L8_F letters n w r3 out_1) mN (i, next')
theorem m_r31_First_L8_le (r3 : ((List Int) → (List Int) → Option (List Int))) (r3q : ((List Int) → (List Int) → Option (List Int)))  (h_r3 : ∀ x0 x1, Le (r3 x0 x1) (r3q x0 x1)) (letters : Int) (n : Int) (w : (List Int)) (out_1 : (List Int)) (i : Int) (next' : (List Int)) : Le (m_r31_First_L8 letters n w r3 out_1 i next') (r31_First_L8 letters n w r3q out_1 i next') := Le_fx (r31_First_L8_cn r3q letters n w out_1) (fun r rq h x => m_r31_First_L8_F_le    r3 r3q h_r3  letters n w out_1 r rq h x) mN _
def m_r31_First_J5 (letters : Int) (n : Int) (w : (List Int)) (r3 : ((List Int) → (List Int) → Option (List Int))) (out_1 : (List Int)) : Option (List Int) :=
  m_r31_First_L8 letters n w r3 out_1 (0 : Int) ([])
theorem m_r31_First_J5_le (r3 : ((List Int) → (List Int) → Option (List Int))) (r3q : ((List Int) → (List Int) → Option (List Int)))  (h_r3 : ∀ x0 x1, Le (r3 x0 x1) (r3q x0 x1)) (letters : Int) (n : Int) (w : (List Int)) (out_1 : (List Int)) : Le (m_r31_First_J5 letters n w r3 out_1) (r31_First_J5 letters n w r3q out_1) := by
  unfold m_r31_First_J5 r31_First_J5
  repeat' with_reducible first | exact Le.refl _ | exact h_r3 _ _ | (apply Le.bind; · first | exact h_r3 _ _; · intro _) | (apply m_r31_First_L8_le <;> (first | assumption | (intros; first | assumption | exact h_r3 _ _))) | apply cG_le | apply Le.ite | (apply Le.bind'; intro _)
def m_r31_First_L3_B (letters : Int) (n : Int) (r3 : (List Int) → (List Int) → Option (List Int)) (w : (List Int)) (out : (List Int)) : Option (List Int) :=
  if (decide ((0 : Int) < (w.length : Int))) = true then
  cG ((w.length : Int) ≠ 0) (
  if (decide ((Int.tmod n (w.length : Int)) = (0 : Int))) = true then
  cG (room out w 8) (
  m_r31_First_J5 letters n w r3 (out ++ w)) else
  m_r31_First_J5 letters n w r3 out) else
  some out
theorem m_r31_First_L3_B_le (r3 : (List Int) → (List Int) → Option (List Int)) (r3q : (List Int) → (List Int) → Option (List Int))  (h_r3 : ∀ x0 x1, Le (r3 x0 x1) (r3q x0 x1)) (letters : Int) (n : Int) (w : (List Int)) (out : (List Int)) : Le (m_r31_First_L3_B letters n r3 w out) (r31_First_L3_B letters n r3q w out) := by
  unfold m_r31_First_L3_B r31_First_L3_B
  repeat' with_reducible first | exact Le.refl _ | exact h_r3 _ _ | (apply Le.bind; · first | exact h_r3 _ _; · intro _) | (apply m_r31_First_J5_le <;> (first | assumption | (intros; first | assumption | exact h_r3 _ _))) | apply cG_le | apply Le.ite | (apply Le.bind'; intro _)
def m_r31_First_L3_F (letters : Int) (n : Int) : ((List Int) × (List Int) → Option (List Int)) → (List Int) × (List Int) → Option (List Int) :=
  fun rec x => m_r31_First_L3_B letters n (fun w out => forceL w (fun w => rec (w, out))) x.1 x.2
theorem m_r31_First_L3_F_le   (letters : Int) (n : Int) : ∀ r rq, (∀ x, Le (r x) (rq x)) → ∀ x, Le (m_r31_First_L3_F letters n r x) (r31_First_L3_F letters n rq x) := by
  intro r rq h x
  unfold m_r31_First_L3_F r31_First_L3_F
  (try simp only [forceL_eq])
  apply m_r31_First_L3_B_le <;> intros <;> (first | exact h _ | assumption | (simp only [*]))
def m_r31_First_L3 (letters : Int) (n : Int) (w : (List Int)) (out : (List Int)) : Option (List Int) := fx (m_r31_First_L3_F letters n) mN (w, out)
theorem m_r31_First_L3_le   (letters : Int) (n : Int) (w : (List Int)) (out : (List Int)) : Le (m_r31_First_L3 letters n w out) (r31_First_L3 letters n w out) := Le_fx (r31_First_L3_cn letters n) (fun r rq h x => m_r31_First_L3_F_le   letters n r rq h x) mN _
def m_r31_First (letters : Int) (n : Int) : Option (List Int) :=
  m_r31_First_L3 letters n ([(0 : Int)]) ([])
theorem m_r31_First_le   (letters : Int) (n : Int) : Le (m_r31_First letters n) (r31_First letters n) := by
  unfold m_r31_First r31_First
  repeat' with_reducible first | exact Le.refl _ | (apply m_r31_First_L3_le <;> (first | assumption | (intros; first | assumption ))) | apply cG_le | apply Le.ite | (apply Le.bind'; intro _)
def m_r1_Words_L4_B (a : (List Int)) (b : (List Int)) (r4 : Int → Option (Bool)) (i : Int) : Option (Bool) :=
  if (decide (i < (a.length : Int))) = true then
  cG (0 ≤ i ∧ i < (a.length : Int)) (
  cG (0 ≤ i ∧ i < (b.length : Int)) (
  if (decide (¬ (ix a i) = (ix b i))) = true then
  some false else
  cG (fits (i + (1 : Int))) (
  r4 (i + (1 : Int))))) else
  some true
theorem m_r1_Words_L4_B_le (r4 : Int → Option (Bool)) (r4q : Int → Option (Bool))  (h_r4 : ∀ x0, Le (r4 x0) (r4q x0)) (a : (List Int)) (b : (List Int)) (i : Int) : Le (m_r1_Words_L4_B a b r4 i) (r1_Words_L4_B a b r4q i) := by
  unfold m_r1_Words_L4_B r1_Words_L4_B
  repeat' with_reducible first | exact Le.refl _ | exact h_r4 _ | (apply Le.bind; · first | exact h_r4 _; · intro _) | apply cG_le | apply Le.ite | (apply Le.bind'; intro _)
def m_r1_Words_L4_F (a : (List Int)) (b : (List Int)) : (Int → Option (Bool)) → Int → Option (Bool) :=
  fun rec x => m_r1_Words_L4_B a b (fun i => rec i) x
theorem m_r1_Words_L4_F_le   (a : (List Int)) (b : (List Int)) : ∀ r rq, (∀ x, Le (r x) (rq x)) → ∀ x, Le (m_r1_Words_L4_F a b r x) (r1_Words_L4_F a b rq x) := by
  intro r rq h x
  unfold m_r1_Words_L4_F r1_Words_L4_F
  (try simp only [forceL_eq])
  apply m_r1_Words_L4_B_le <;> intros <;> (first | exact h _ | assumption | (simp only [*]))
def m_r1_Words_L4 (a : (List Int)) (b : (List Int)) (i : Int) : Option (Bool) := fx (m_r1_Words_L4_F a b) mN i
theorem m_r1_Words_L4_le   (a : (List Int)) (b : (List Int)) (i : Int) : Le (m_r1_Words_L4 a b i) (r1_Words_L4 a b i) := Le_fx (r1_Words_L4_cn a b) (fun r rq h x => m_r1_Words_L4_F_le   a b r rq h x) mN _
def m_r1_Words (a : (List Int)) (b : (List Int)) : Option (Bool) :=
  if (decide (¬ (a.length : Int) = (b.length : Int))) = true then
  some false else
  m_r1_Words_L4 a b (0 : Int)
theorem m_r1_Words_le   (a : (List Int)) (b : (List Int)) : Le (m_r1_Words a b) (r1_Words a b) := by
  unfold m_r1_Words r1_Words
  repeat' with_reducible first | exact Le.refl _ | (apply m_r1_Words_L4_le <;> (first | assumption | (intros; first | assumption ))) | apply cG_le | apply Le.ite | (apply Le.bind'; intro _)
def m_law_LyndonBruijn_J7 (letters : Int) (n : Int) (y' : Int) (y'_1 : (List Int)) (no : Int) : Option (Bool) :=
  if (decide (¬ no = (0 : Int))) = true then
  if (decide (y' = no)) = true then
  some (decide ((y'_1.length : Int) = (0 : Int))) else
  some false else
  (m_r31_Bruijn y'_1 letters n).bind (fun y'_3 =>
  (m_r31_First letters n).bind (fun y'_4 =>
  (m_r1_Words y'_1 y'_4).bind (fun y'_5 =>
  if (decide (y' = (0 : Int))) = true then
  if y'_3 = true then
  some y'_5 else
  some false else
  some false)))
theorem m_law_LyndonBruijn_J7_le   (letters : Int) (n : Int) (y' : Int) (y'_1 : (List Int)) (no : Int) : Le (m_law_LyndonBruijn_J7 letters n y' y'_1 no) (law_LyndonBruijn_J7 letters n y' y'_1 no) := by
  unfold m_law_LyndonBruijn_J7 law_LyndonBruijn_J7
  repeat' with_reducible first | exact Le.refl _ | (apply m_r31_Bruijn_le <;> (first | assumption | (intros; first | assumption ))) | (apply m_r31_First_le <;> (first | assumption | (intros; first | assumption ))) | (apply m_r1_Words_le <;> (first | assumption | (intros; first | assumption ))) | apply cG_le | apply Le.ite | (apply Le.bind'; intro _)
def m_law_LyndonBruijn_J3 (letters : Int) (n : Int) (y' : Int) (y'_1 : (List Int)) (t : Bool) : Option (Bool) :=
  if t = true then
  m_law_LyndonBruijn_J7 letters n y' y'_1 (2 : Int) else
  (m_r31_All letters n).bind (fun y'_6 =>
  if (decide ((256 : Int) < y'_6)) = true then
  m_law_LyndonBruijn_J7 letters n y' y'_1 (7 : Int) else
  m_law_LyndonBruijn_J7 letters n y' y'_1 (0 : Int))
theorem m_law_LyndonBruijn_J3_le   (letters : Int) (n : Int) (y' : Int) (y'_1 : (List Int)) (t : Bool) : Le (m_law_LyndonBruijn_J3 letters n y' y'_1 t) (law_LyndonBruijn_J3 letters n y' y'_1 t) := by
  unfold m_law_LyndonBruijn_J3 law_LyndonBruijn_J3
  repeat' with_reducible first | exact Le.refl _ | (apply m_law_LyndonBruijn_J7_le <;> (first | assumption | (intros; first | assumption ))) | (apply m_r31_All_le <;> (first | assumption | (intros; first | assumption ))) | apply cG_le | apply Le.ite | (apply Le.bind'; intro _)
def m_law_LyndonBruijn (letters : Int) (n : Int) : Option (Bool) :=
  (m_lyndon_Bruijn letters n).bind (fun y'_7 =>
  if (decide (letters < (1 : Int))) = true then
  m_law_LyndonBruijn_J3 letters n y'_7.1 y'_7.2 true else
  if (decide ((4 : Int) < letters)) = true then
  m_law_LyndonBruijn_J3 letters n y'_7.1 y'_7.2 true else
  if (decide (n < (1 : Int))) = true then
  m_law_LyndonBruijn_J3 letters n y'_7.1 y'_7.2 true else
  m_law_LyndonBruijn_J3 letters n y'_7.1 y'_7.2 (decide ((8 : Int) < n)))
theorem m_law_LyndonBruijn_le   (letters : Int) (n : Int) : Le (m_law_LyndonBruijn letters n) (law_LyndonBruijn letters n) := by
  unfold m_law_LyndonBruijn law_LyndonBruijn
  repeat' with_reducible first | exact Le.refl _ | (apply m_law_LyndonBruijn_J3_le <;> (first | assumption | (intros; first | assumption ))) | (apply m_lyndon_Bruijn_le <;> (first | assumption | (intros; first | assumption ))) | apply cG_le | apply Le.ite | (apply Le.bind'; intro _)
theorem by_run {a n : Int} (h : m_law_LyndonBruijn a n = some true) : law_LyndonBruijn a n = some true := m_law_LyndonBruijn_le a n true h
theorem run_1_1 : law_LyndonBruijn 1 1 = some true := by_run (by decide +kernel)
theorem run_1_2 : law_LyndonBruijn 1 2 = some true := by_run (by decide +kernel)
theorem run_1_3 : law_LyndonBruijn 1 3 = some true := by_run (by decide +kernel)
theorem run_1_4 : law_LyndonBruijn 1 4 = some true := by_run (by decide +kernel)
theorem run_1_5 : law_LyndonBruijn 1 5 = some true := by_run (by decide +kernel)
theorem run_1_6 : law_LyndonBruijn 1 6 = some true := by_run (by decide +kernel)
theorem run_1_7 : law_LyndonBruijn 1 7 = some true := by_run (by decide +kernel)
theorem run_1_8 : law_LyndonBruijn 1 8 = some true := by_run (by decide +kernel)
theorem run_2_1 : law_LyndonBruijn 2 1 = some true := by_run (by decide +kernel)
theorem run_2_2 : law_LyndonBruijn 2 2 = some true := by_run (by decide +kernel)
theorem run_2_3 : law_LyndonBruijn 2 3 = some true := by_run (by decide +kernel)
theorem run_2_4 : law_LyndonBruijn 2 4 = some true := by_run (by decide +kernel)
theorem run_2_5 : law_LyndonBruijn 2 5 = some true := by_run (by decide +kernel)
theorem run_2_6 : law_LyndonBruijn 2 6 = some true := by_run (by decide +kernel)
theorem run_2_7 : law_LyndonBruijn 2 7 = some true := by_run (by decide +kernel)
theorem run_2_8 : law_LyndonBruijn 2 8 = some true := by_run (by decide +kernel)
theorem run_3_1 : law_LyndonBruijn 3 1 = some true := by_run (by decide +kernel)
theorem run_3_2 : law_LyndonBruijn 3 2 = some true := by_run (by decide +kernel)
theorem run_3_3 : law_LyndonBruijn 3 3 = some true := by_run (by decide +kernel)
theorem run_3_4 : law_LyndonBruijn 3 4 = some true := by_run (by decide +kernel)
theorem run_3_5 : law_LyndonBruijn 3 5 = some true := by_run (by decide +kernel)
theorem run_3_6 : law_LyndonBruijn 3 6 = some true := by_run (by decide +kernel)
theorem run_3_7 : law_LyndonBruijn 3 7 = some true := by_run (by decide +kernel)
theorem run_3_8 : law_LyndonBruijn 3 8 = some true := by_run (by decide +kernel)
theorem run_4_1 : law_LyndonBruijn 4 1 = some true := by_run (by decide +kernel)
theorem run_4_2 : law_LyndonBruijn 4 2 = some true := by_run (by decide +kernel)
theorem run_4_3 : law_LyndonBruijn 4 3 = some true := by_run (by decide +kernel)
theorem run_4_4 : law_LyndonBruijn 4 4 = some true := by_run (by decide +kernel)
theorem run_4_5 : law_LyndonBruijn 4 5 = some true := by_run (by decide +kernel)
theorem run_4_6 : law_LyndonBruijn 4 6 = some true := by_run (by decide +kernel)
theorem run_4_7 : law_LyndonBruijn 4 7 = some true := by_run (by decide +kernel)
theorem run_4_8 : law_LyndonBruijn 4 8 = some true := by_run (by decide +kernel)
theorem out_of (a n : Int) (h : ¬ ((1 ≤ a ∧ a ≤ 4) ∧ (1 ≤ n ∧ n ≤ 8))) : law_LyndonBruijn a n = some true := by
  have e : lyndon_Bruijn a n = some (2, []) := by
    unfold lyndon_Bruijn
    by_cases c1 : a < 1
    · rw [if_pos (decide_eq_true c1)]
    rw [if_neg (by simpa using c1)]
    by_cases c2 : 4 < a
    · rw [if_pos (decide_eq_true c2)]
    rw [if_neg (by simpa using c2)]
    by_cases c3 : n < 1
    · rw [if_pos (decide_eq_true c3)]
    rw [if_neg (by simpa using c3), if_pos (decide_eq_true (by omega))]
  have eJ : law_LyndonBruijn_J3 a n 2 [] true = some true := by
    unfold law_LyndonBruijn_J3 law_LyndonBruijn_J7
    rw [if_pos rfl, if_pos (by simp), if_pos (by simp)]
    simp
  unfold law_LyndonBruijn
  refine bind_to e ?_
  by_cases c1 : a < 1
  · rw [if_pos (decide_eq_true c1)]; exact eJ
  rw [if_neg (by simpa using c1)]
  by_cases c2 : 4 < a
  · rw [if_pos (decide_eq_true c2)]; exact eJ
  rw [if_neg (by simpa using c2)]
  by_cases c3 : n < 1
  · rw [if_pos (decide_eq_true c3)]; exact eJ
  rw [if_neg (by simpa using c3), decide_eq_true (show 8 < n by omega)]; exact eJ
theorem law_true (a n : Int) : law_LyndonBruijn a n = some true := by
  by_cases h : (1 ≤ a ∧ a ≤ 4) ∧ (1 ≤ n ∧ n ≤ 8)
  · have ha : a = 1 ∨ a = 2 ∨ a = 3 ∨ a = 4 := by omega
    have hn : n = 1 ∨ n = 2 ∨ n = 3 ∨ n = 4 ∨ n = 5 ∨ n = 6 ∨ n = 7 ∨ n = 8 := by omega
    rcases ha with rfl | rfl | rfl | rfl
    · rcases hn with rfl | rfl | rfl | rfl | rfl | rfl | rfl | rfl
      · exact run_1_1
      · exact run_1_2
      · exact run_1_3
      · exact run_1_4
      · exact run_1_5
      · exact run_1_6
      · exact run_1_7
      · exact run_1_8
    · rcases hn with rfl | rfl | rfl | rfl | rfl | rfl | rfl | rfl
      · exact run_2_1
      · exact run_2_2
      · exact run_2_3
      · exact run_2_4
      · exact run_2_5
      · exact run_2_6
      · exact run_2_7
      · exact run_2_8
    · rcases hn with rfl | rfl | rfl | rfl | rfl | rfl | rfl | rfl
      · exact run_3_1
      · exact run_3_2
      · exact run_3_3
      · exact run_3_4
      · exact run_3_5
      · exact run_3_6
      · exact run_3_7
      · exact run_3_8
    · rcases hn with rfl | rfl | rfl | rfl | rfl | rfl | rfl | rfl
      · exact run_4_1
      · exact run_4_2
      · exact run_4_3
      · exact run_4_4
      · exact run_4_5
      · exact run_4_6
      · exact run_4_7
      · exact run_4_8
  · exact out_of a n h

end Go.Proofs.Ytnfljdgpdleobaa.lyndonBruijnW
