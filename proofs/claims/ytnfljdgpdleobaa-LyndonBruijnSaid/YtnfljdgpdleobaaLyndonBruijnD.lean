/- What the functions that 'LyndonBruijn' reaches compute: plain functions. -/
import Derived.Test.YtnfljdgpdleobaaEv20n21
set_option maxHeartbeats 1000000
set_option maxRecDepth 20000
set_option linter.unusedSimpArgs false
set_option linter.unusedVariables false
set_option linter.unusedSectionVars false
namespace Go.Proofs.Ytnfljdgpdleobaa.lyndonBruijnW
open Go Go.Ab
abbrev Tp1 := ((List Int) × (List Int) × Int × Int)
noncomputable def lyndon_Bruijn_1_L6_B (rc_lyndon_Bruijn_1 : Int → Int → Int → Int → Int → Int → (List Int) → (List Int) → Option Tp1) (t : Int) (t_2 : Int) (r6 : Int → Int → Int → (List Int) → (List Int) → Option Tp1) (a : Int) (t_3 : Int) (t_4 : Int) (l_2 : (List Int)) (l_3 : (List Int)) : Option Tp1 :=
  if (decide (a < t_2)) = true then
  G (0 ≤ t ∧ t < (l_2.length : Int)) (
  G ((t).toNat < l_2.length) (
  G (fits (t + (1 : Int))) (
  (rc_lyndon_Bruijn_1 (t + (1 : Int)) t t_3 t_4 t_3 t_4 l_3 (l_2.set (t).toNat a)).bind (fun y'_10 =>
  G (fits (a + (1 : Int))) (
  r6 (a + (1 : Int)) y'_10.2.2.1 y'_10.2.2.2 y'_10.2.1 y'_10.1))))) else
  some (l_3, l_2, t_3, t_4)
noncomputable def lyndon_Bruijn_1_L6_F (rc_lyndon_Bruijn_1 : Int → Int → Int → Int → Int → Int → (List Int) → (List Int) → Option Tp1) (t : Int) (t_2 : Int) : (Int × Int × Int × (List Int) × (List Int) → Option Tp1) → Int × Int × Int × (List Int) × (List Int) → Option Tp1 :=
  fun rec x => lyndon_Bruijn_1_L6_B rc_lyndon_Bruijn_1 t t_2 (fun a t_3 t_4 l_2 l_3 => rec (a, t_3, t_4, l_2, l_3)) x.1 x.2.1 x.2.2.1 x.2.2.2.1 x.2.2.2.2
noncomputable def lyndon_Bruijn_1_L6 (rc_lyndon_Bruijn_1 : Int → Int → Int → Int → Int → Int → (List Int) → (List Int) → Option Tp1) (t : Int) (t_2 : Int) (a : Int) (t_3 : Int) (t_4 : Int) (l_2 : (List Int)) (l_3 : (List Int)) : Option Tp1 := LFix (lyndon_Bruijn_1_L6_F rc_lyndon_Bruijn_1 t t_2 ) (a, t_3, t_4, l_2, l_3)
noncomputable def lyndon_Bruijn_1_B (rc_lyndon_Bruijn_1 : Int → Int → Int → Int → Int → Int → (List Int) → (List Int) → Option Tp1) (t : Int) (p : Int) (t_1 : Int) (t_2 : Int) (c : Int) (c_1 : Int) (l : (List Int)) (l_1 : (List Int)) : Option Tp1 :=
  if (decide (t_1 < t)) = true then
  G (p ≠ 0) (
  if (decide ((Int.tmod t_1 p) = (0 : Int))) = true then
  G (fits (p + (1 : Int))) (
  G (0 ≤ (1 : Int) ∧ (1 : Int) ≤ p + (1 : Int) ∧ p + (1 : Int) ≤ (l_1.length : Int)) (
  G ((((1 : Int)).toNat) + (((p + (1 : Int)) - (1 : Int)).toNat) ≤ l_1.length) (
  G (room l ((l_1.drop (((1 : Int)).toNat)).take (((p + (1 : Int)) - (1 : Int)).toNat)) 8) (
  some (l ++ ((l_1.drop (((1 : Int)).toNat)).take (((p + (1 : Int)) - (1 : Int)).toNat)), l_1, c, c_1))))) else
  some (l, l_1, c, c_1)) else
  G (fits (t - p)) (
  G (0 ≤ t - p ∧ t - p < (l_1.length : Int)) (
  G ((t - p).toNat < l_1.length) (
  G (0 ≤ t ∧ t < (l_1.length : Int)) (
  G ((t).toNat < l_1.length) (
  G (fits (t + (1 : Int))) (
  (rc_lyndon_Bruijn_1 (t + (1 : Int)) p c c_1 c c_1 l (l_1.set (t).toNat (ix l_1 (t - p)))).bind (fun y'_11 =>
  G (fits (t - p)) (
  G (0 ≤ t - p ∧ t - p < (y'_11.2.1.length : Int)) (
  G ((t - p).toNat < y'_11.2.1.length) (
  G (fits ((ix y'_11.2.1 (t - p)) + (1 : Int))) (
  lyndon_Bruijn_1_L6 rc_lyndon_Bruijn_1 t t_2 ((ix y'_11.2.1 (t - p)) + (1 : Int)) y'_11.2.2.1 y'_11.2.2.2 y'_11.2.1 y'_11.1)))))))))))
theorem lyndon_Bruijn_1_L6_B_ch (rc_lyndon_Bruijn_1 : Nat → Int → Int → Int → Int → Int → Int → (List Int) → (List Int) → Option Tp1) (rc_lyndon_Bruijn_1' : Int → Int → Int → Int → Int → Int → (List Int) → (List Int) → Option Tp1) (h_rc_lyndon_Bruijn_1 : ∀ a0 a1 a2 a3 a4 a5 a6 a7, ChO (fun κ => rc_lyndon_Bruijn_1 κ a0 a1 a2 a3 a4 a5 a6 a7) (rc_lyndon_Bruijn_1' a0 a1 a2 a3 a4 a5 a6 a7)) (r6 : Nat → Int → Int → Int → (List Int) → (List Int) → Option Tp1) (r6' : Int → Int → Int → (List Int) → (List Int) → Option Tp1) (h_r6 : ∀ a0 a1 a2 a3 a4, ChO (fun κ => r6 κ a0 a1 a2 a3 a4) (r6' a0 a1 a2 a3 a4)) (t : Int) (t_2 : Int) (a : Int) (t_3 : Int) (t_4 : Int) (l_2 : (List Int)) (l_3 : (List Int)) : ChO (fun κ => lyndon_Bruijn_1_L6_B (rc_lyndon_Bruijn_1 κ) t t_2 (r6 κ) a t_3 t_4 l_2 l_3) (lyndon_Bruijn_1_L6_B rc_lyndon_Bruijn_1' t t_2 r6' a t_3 t_4 l_2 l_3) := by
  unfold lyndon_Bruijn_1_L6_B
  repeat' with_reducible first | exact ChO.const _ | exact h_rc_lyndon_Bruijn_1 _ _ _ _ _ _ _ _ | exact h_r6 _ _ _ _ _ | apply ChO.ite | apply ChO.G | apply ChO.both | (apply ChO.bind; intro _) | (apply ChO.bind2 (h_rc_lyndon_Bruijn_1 _ _ _ _ _ _ _ _); intro _)
theorem lyndon_Bruijn_1_L6_cn (rc_lyndon_Bruijn_1 : Int → Int → Int → Int → Int → Int → (List Int) → (List Int) → Option Tp1) (t : Int) (t_2 : Int) : Cn (lyndon_Bruijn_1_L6_F rc_lyndon_Bruijn_1 t t_2) := fun g h hg x => lyndon_Bruijn_1_L6_B_ch (fun _ => rc_lyndon_Bruijn_1) rc_lyndon_Bruijn_1 (fun _ _ _ _ _ _ _ _ => ChO.const _) (fun κ a t_3 t_4 l_2 l_3 => g κ (a, t_3, t_4, l_2, l_3)) (fun a t_3 t_4 l_2 l_3 => h (a, t_3, t_4, l_2, l_3)) (fun a t_3 t_4 l_2 l_3 => hg (a, t_3, t_4, l_2, l_3)) t t_2 x.1 x.2.1 x.2.2.1 x.2.2.2.1 x.2.2.2.2
theorem lyndon_Bruijn_1_L6_eq (rc_lyndon_Bruijn_1 : Int → Int → Int → Int → Int → Int → (List Int) → (List Int) → Option Tp1) (t : Int) (t_2 : Int) (a : Int) (t_3 : Int) (t_4 : Int) (l_2 : (List Int)) (l_3 : (List Int)) : lyndon_Bruijn_1_L6 rc_lyndon_Bruijn_1 t t_2 a t_3 t_4 l_2 l_3 = lyndon_Bruijn_1_L6_B rc_lyndon_Bruijn_1 t t_2 (lyndon_Bruijn_1_L6 rc_lyndon_Bruijn_1 t t_2) a t_3 t_4 l_2 l_3 := LFix_eq (lyndon_Bruijn_1_L6_cn rc_lyndon_Bruijn_1 t t_2) (a, t_3, t_4, l_2, l_3)
theorem lyndon_Bruijn_1_L6_ch (rc_lyndon_Bruijn_1 : Nat → Int → Int → Int → Int → Int → Int → (List Int) → (List Int) → Option Tp1) (rc_lyndon_Bruijn_1' : Int → Int → Int → Int → Int → Int → (List Int) → (List Int) → Option Tp1) (h_rc_lyndon_Bruijn_1 : ∀ a0 a1 a2 a3 a4 a5 a6 a7, ChO (fun κ => rc_lyndon_Bruijn_1 κ a0 a1 a2 a3 a4 a5 a6 a7) (rc_lyndon_Bruijn_1' a0 a1 a2 a3 a4 a5 a6 a7)) (t : Int) (t_2 : Int) (a : Int) (t_3 : Int) (t_4 : Int) (l_2 : (List Int)) (l_3 : (List Int)) : ChO (fun κ => lyndon_Bruijn_1_L6 (rc_lyndon_Bruijn_1 κ) t t_2 a t_3 t_4 l_2 l_3) (lyndon_Bruijn_1_L6 rc_lyndon_Bruijn_1' t t_2 a t_3 t_4 l_2 l_3) := by
  unfold lyndon_Bruijn_1_L6
  exact LFix_ch (fun κ => (lyndon_Bruijn_1_L6_cn (rc_lyndon_Bruijn_1 κ) t t_2).mono) (lyndon_Bruijn_1_L6_cn rc_lyndon_Bruijn_1' t t_2).mono (fun g h hg x => lyndon_Bruijn_1_L6_B_ch rc_lyndon_Bruijn_1 rc_lyndon_Bruijn_1' h_rc_lyndon_Bruijn_1 (fun κ a t_3 t_4 l_2 l_3 => g κ (a, t_3, t_4, l_2, l_3)) (fun a t_3 t_4 l_2 l_3 => h (a, t_3, t_4, l_2, l_3)) (fun a t_3 t_4 l_2 l_3 => hg (a, t_3, t_4, l_2, l_3)) t t_2 x.1 x.2.1 x.2.2.1 x.2.2.2.1 x.2.2.2.2) _
theorem lyndon_Bruijn_1_B_ch (rc_lyndon_Bruijn_1 : Nat → Int → Int → Int → Int → Int → Int → (List Int) → (List Int) → Option Tp1) (rc_lyndon_Bruijn_1' : Int → Int → Int → Int → Int → Int → (List Int) → (List Int) → Option Tp1) (h_rc_lyndon_Bruijn_1 : ∀ a0 a1 a2 a3 a4 a5 a6 a7, ChO (fun κ => rc_lyndon_Bruijn_1 κ a0 a1 a2 a3 a4 a5 a6 a7) (rc_lyndon_Bruijn_1' a0 a1 a2 a3 a4 a5 a6 a7)) (t : Int) (p : Int) (t_1 : Int) (t_2 : Int) (c : Int) (c_1 : Int) (l : (List Int)) (l_1 : (List Int)) : ChO (fun κ => lyndon_Bruijn_1_B (rc_lyndon_Bruijn_1 κ) t p t_1 t_2 c c_1 l l_1) (lyndon_Bruijn_1_B rc_lyndon_Bruijn_1' t p t_1 t_2 c c_1 l l_1) := by
  unfold lyndon_Bruijn_1_B
  repeat' with_reducible first | exact ChO.const _ | exact h_rc_lyndon_Bruijn_1 _ _ _ _ _ _ _ _ | (apply lyndon_Bruijn_1_L6_ch <;> assumption) | apply ChO.ite | apply ChO.G | apply ChO.both | (apply ChO.bind; intro _) | (apply ChO.bind2 (h_rc_lyndon_Bruijn_1 _ _ _ _ _ _ _ _); intro _)
noncomputable def lyndon_Bruijn_1_F : (Int × Int × Int × Int × Int × Int × (List Int) × (List Int) → Option Tp1) → Int × Int × Int × Int × Int × Int × (List Int) × (List Int) → Option Tp1 :=
  fun rec X => lyndon_Bruijn_1_B (fun t p t_1 t_2 c c_1 l l_1 => rec (t, p, t_1, t_2, c, c_1, l, l_1)) X.1 X.2.1 X.2.2.1 X.2.2.2.1 X.2.2.2.2.1 X.2.2.2.2.2.1 X.2.2.2.2.2.2.1 X.2.2.2.2.2.2.2
noncomputable def lyndon_Bruijn_1 (t : Int) (p : Int) (t_1 : Int) (t_2 : Int) (c : Int) (c_1 : Int) (l : (List Int)) (l_1 : (List Int)) : Option Tp1 := LFix lyndon_Bruijn_1_F (t, p, t_1, t_2, c, c_1, l, l_1)
theorem lyndon_Bruijn_1_cn : Cn lyndon_Bruijn_1_F := fun g h hg X => lyndon_Bruijn_1_B_ch _ _ (fun t p t_1 t_2 c c_1 l l_1 => hg (t, p, t_1, t_2, c, c_1, l, l_1)) X.1 X.2.1 X.2.2.1 X.2.2.2.1 X.2.2.2.2.1 X.2.2.2.2.2.1 X.2.2.2.2.2.2.1 X.2.2.2.2.2.2.2
theorem lyndon_Bruijn_1_eq (t : Int) (p : Int) (t_1 : Int) (t_2 : Int) (c : Int) (c_1 : Int) (l : (List Int)) (l_1 : (List Int)) : lyndon_Bruijn_1 t p t_1 t_2 c c_1 l l_1 = lyndon_Bruijn_1_B lyndon_Bruijn_1 t p t_1 t_2 c c_1 l l_1 := LFix_eq lyndon_Bruijn_1_cn (t, p, t_1, t_2, c, c_1, l, l_1)

noncomputable def lyndon_Bruijn_L5_B (letters : Int) (n : Int) (r5 : Int → Int → Option (Int × (List Int))) (all' : Int) (t : Int) : Option (Int × (List Int)) :=
  if (decide (t < n)) = true then
  G (fits (all' * letters)) (
  G (fits (t + (1 : Int))) (
  r5 (all' * letters) (t + (1 : Int)))) else
  if (decide ((256 : Int) < all')) = true then
  some ((7 : Int), []) else
  G (fits (n + (1 : Int))) (
  G (mkOK (n + (1 : Int)) (n + (1 : Int)) 8) (
  (lyndon_Bruijn_1 (1 : Int) (1 : Int) n letters n letters ([] : List Int) (List.replicate (n + (1 : Int)).toNat (0 : Int))).bind (fun y'_5 =>
  some ((0 : Int), y'_5.1))))
noncomputable def lyndon_Bruijn_L5_F (letters : Int) (n : Int) : (Int × Int → Option (Int × (List Int))) → Int × Int → Option (Int × (List Int)) :=
  fun rec x => lyndon_Bruijn_L5_B letters n (fun all' t => rec (all', t)) x.1 x.2
noncomputable def lyndon_Bruijn_L5 (letters : Int) (n : Int) (all' : Int) (t : Int) : Option (Int × (List Int)) := LFix (lyndon_Bruijn_L5_F letters n ) (all', t)
noncomputable def lyndon_Bruijn (letters : Int) (n : Int) : Option (Int × (List Int)) :=
  if (decide (letters < (1 : Int))) = true then
  some ((2 : Int), []) else
  if (decide ((4 : Int) < letters)) = true then
  some ((2 : Int), []) else
  if (decide (n < (1 : Int))) = true then
  some ((2 : Int), []) else
  if (decide ((8 : Int) < n)) = true then
  some ((2 : Int), []) else
  lyndon_Bruijn_L5 letters n (1 : Int) (0 : Int)
theorem lyndon_Bruijn_L5_B_ch (r5 : Nat → Int → Int → Option (Int × (List Int))) (r5' : Int → Int → Option (Int × (List Int))) (h_r5 : ∀ a0 a1, ChO (fun κ => r5 κ a0 a1) (r5' a0 a1)) (letters : Int) (n : Int) (all' : Int) (t : Int) : ChO (fun κ => lyndon_Bruijn_L5_B letters n (r5 κ) all' t) (lyndon_Bruijn_L5_B letters n r5' all' t) := by
  unfold lyndon_Bruijn_L5_B
  repeat' with_reducible first | exact ChO.const _ | exact h_r5 _ _ | apply ChO.ite | apply ChO.G | apply ChO.both | (apply ChO.bind; intro _)
theorem lyndon_Bruijn_L5_cn  (letters : Int) (n : Int) : Cn (lyndon_Bruijn_L5_F letters n) := fun g h hg x => lyndon_Bruijn_L5_B_ch  (fun κ all' t => g κ (all', t)) (fun all' t => h (all', t)) (fun all' t => hg (all', t)) letters n x.1 x.2
theorem lyndon_Bruijn_L5_eq  (letters : Int) (n : Int) (all' : Int) (t : Int) : lyndon_Bruijn_L5 letters n all' t = lyndon_Bruijn_L5_B letters n (lyndon_Bruijn_L5 letters n) all' t := LFix_eq (lyndon_Bruijn_L5_cn letters n) (all', t)

noncomputable def r31_All_L3_B (letters : Int) (n : Int) (r3 : Int → Int → Option (Int)) (all' : Int) (i : Int) : Option (Int) :=
  if (decide (i < n)) = true then
  G (fits (all' * letters)) (
  if (decide ((256 : Int) < (all' * letters))) = true then
  some (257 : Int) else
  G (fits (i + (1 : Int))) (
  r3 (all' * letters) (i + (1 : Int)))) else
  some all'
noncomputable def r31_All_L3_F (letters : Int) (n : Int) : (Int × Int → Option (Int)) → Int × Int → Option (Int) :=
  fun rec x => r31_All_L3_B letters n (fun all' i => rec (all', i)) x.1 x.2
noncomputable def r31_All_L3 (letters : Int) (n : Int) (all' : Int) (i : Int) : Option (Int) := LFix (r31_All_L3_F letters n ) (all', i)
noncomputable def r31_All (letters : Int) (n : Int) : Option (Int) :=
  r31_All_L3 letters n (1 : Int) (0 : Int)
theorem r31_All_L3_B_ch (r3 : Nat → Int → Int → Option (Int)) (r3' : Int → Int → Option (Int)) (h_r3 : ∀ a0 a1, ChO (fun κ => r3 κ a0 a1) (r3' a0 a1)) (letters : Int) (n : Int) (all' : Int) (i : Int) : ChO (fun κ => r31_All_L3_B letters n (r3 κ) all' i) (r31_All_L3_B letters n r3' all' i) := by
  unfold r31_All_L3_B
  repeat' with_reducible first | exact ChO.const _ | exact h_r3 _ _ | apply ChO.ite | apply ChO.G | apply ChO.both | (apply ChO.bind; intro _)
theorem r31_All_L3_cn  (letters : Int) (n : Int) : Cn (r31_All_L3_F letters n) := fun g h hg x => r31_All_L3_B_ch  (fun κ all' i => g κ (all', i)) (fun all' i => h (all', i)) (fun all' i => hg (all', i)) letters n x.1 x.2
theorem r31_All_L3_eq  (letters : Int) (n : Int) (all' : Int) (i : Int) : r31_All_L3 letters n all' i = r31_All_L3_B letters n (r31_All_L3 letters n) all' i := LFix_eq (r31_All_L3_cn letters n) (all', i)

noncomputable def r31_Bruijn_L7_B (w : (List Int)) (letters : Int) (n : Int) (i : Int) (seen : (List Bool)) (r3 : (Int → (List Bool) → Option (Bool))) (r7 : Int → Int → Option (Bool)) (k : Int) (j : Int) : Option (Bool) :=
  if (decide (j < n)) = true then
  G (fits (i + j)) (
  G ((w.length : Int) ≠ 0) (
  G (0 ≤ Int.tmod (i + j) (w.length : Int) ∧ Int.tmod (i + j) (w.length : Int) < (w.length : Int)) (
  if (decide ((ix w (Int.tmod (i + j) (w.length : Int))) < (0 : Int))) = true then
  some false else
  if (decide (letters ≤ (ix w (Int.tmod (i + j) (w.length : Int))))) = true then
  some false else
  G (fits (k * letters)) (
  G (fits ((k * letters) + (ix w (Int.tmod (i + j) (w.length : Int))))) (
  G (fits (j + (1 : Int))) (
  r7 ((k * letters) + (ix w (Int.tmod (i + j) (w.length : Int)))) (j + (1 : Int)))))))) else
  G (0 ≤ k ∧ k < (seen.length : Int)) (
  G ((k).toNat < seen.length) (
  if (ix seen k) = true then
  some false else
  G (0 ≤ k ∧ k < (seen.length : Int)) (
  G ((k).toNat < seen.length) (
  G (fits (i + (1 : Int))) (
  r3 (i + (1 : Int)) (seen.set (k).toNat true))))))
noncomputable def r31_Bruijn_L7_F (w : (List Int)) (letters : Int) (n : Int) (i : Int) (seen : (List Bool)) (r3 : (Int → (List Bool) → Option (Bool))) : (Int × Int → Option (Bool)) → Int × Int → Option (Bool) :=
  fun rec x => r31_Bruijn_L7_B w letters n i seen r3 (fun k j => rec (k, j)) x.1 x.2
noncomputable def r31_Bruijn_L7 (w : (List Int)) (letters : Int) (n : Int) (i : Int) (seen : (List Bool)) (r3 : (Int → (List Bool) → Option (Bool))) (k : Int) (j : Int) : Option (Bool) := LFix (r31_Bruijn_L7_F w letters n i seen r3 ) (k, j)
noncomputable def r31_Bruijn_L3_B (w : (List Int)) (letters : Int) (n : Int) (r3 : Int → (List Bool) → Option (Bool)) (i : Int) (seen : (List Bool)) : Option (Bool) :=
  if (decide (i < (w.length : Int))) = true then
  r31_Bruijn_L7 w letters n i seen r3 (0 : Int) (0 : Int) else
  (r31_All letters n).bind (fun y' =>
  some (decide ((w.length : Int) = y')))
noncomputable def r31_Bruijn_L3_F (w : (List Int)) (letters : Int) (n : Int) : (Int × (List Bool) → Option (Bool)) → Int × (List Bool) → Option (Bool) :=
  fun rec x => r31_Bruijn_L3_B w letters n (fun i seen => rec (i, seen)) x.1 x.2
noncomputable def r31_Bruijn_L3 (w : (List Int)) (letters : Int) (n : Int) (i : Int) (seen : (List Bool)) : Option (Bool) := LFix (r31_Bruijn_L3_F w letters n ) (i, seen)
noncomputable def r31_Bruijn (w : (List Int)) (letters : Int) (n : Int) : Option (Bool) :=
  G (mkOK (256 : Int) (256 : Int) 1) (
  r31_Bruijn_L3 w letters n (0 : Int) (List.replicate ((256 : Int)).toNat (false : Bool)))
theorem r31_Bruijn_L7_B_ch (r3 : Nat → Int → (List Bool) → Option (Bool)) (r3' : Int → (List Bool) → Option (Bool)) (h_r3 : ∀ a0 a1, ChO (fun κ => r3 κ a0 a1) (r3' a0 a1)) (r7 : Nat → Int → Int → Option (Bool)) (r7' : Int → Int → Option (Bool)) (h_r7 : ∀ a0 a1, ChO (fun κ => r7 κ a0 a1) (r7' a0 a1)) (w : (List Int)) (letters : Int) (n : Int) (i : Int) (seen : (List Bool)) (k : Int) (j : Int) : ChO (fun κ => r31_Bruijn_L7_B w letters n i seen (r3 κ) (r7 κ) k j) (r31_Bruijn_L7_B w letters n i seen r3' r7' k j) := by
  unfold r31_Bruijn_L7_B
  repeat' with_reducible first | exact ChO.const _ | exact h_r3 _ _ | exact h_r7 _ _ | apply ChO.ite | apply ChO.G | apply ChO.both | (apply ChO.bind; intro _)
theorem r31_Bruijn_L7_cn (r3 : Int → (List Bool) → Option (Bool)) (w : (List Int)) (letters : Int) (n : Int) (i : Int) (seen : (List Bool)) : Cn (r31_Bruijn_L7_F w letters n i seen r3) := fun g h hg x => r31_Bruijn_L7_B_ch (fun _ => r3) r3 (fun _ _ => ChO.const _) (fun κ k j => g κ (k, j)) (fun k j => h (k, j)) (fun k j => hg (k, j)) w letters n i seen x.1 x.2
theorem r31_Bruijn_L7_eq (r3 : Int → (List Bool) → Option (Bool)) (w : (List Int)) (letters : Int) (n : Int) (i : Int) (seen : (List Bool)) (k : Int) (j : Int) : r31_Bruijn_L7 w letters n i seen r3 k j = r31_Bruijn_L7_B w letters n i seen r3 (r31_Bruijn_L7 w letters n i seen r3) k j := LFix_eq (r31_Bruijn_L7_cn r3 w letters n i seen) (k, j)
theorem r31_Bruijn_L7_ch (r3 : Nat → Int → (List Bool) → Option (Bool)) (r3' : Int → (List Bool) → Option (Bool)) (h_r3 : ∀ a0 a1, ChO (fun κ => r3 κ a0 a1) (r3' a0 a1)) (w : (List Int)) (letters : Int) (n : Int) (i : Int) (seen : (List Bool)) (k : Int) (j : Int) : ChO (fun κ => r31_Bruijn_L7 w letters n i seen (r3 κ) k j) (r31_Bruijn_L7 w letters n i seen r3' k j) := by
  unfold r31_Bruijn_L7
  exact LFix_ch (fun κ => (r31_Bruijn_L7_cn (r3 κ) w letters n i seen).mono) (r31_Bruijn_L7_cn r3' w letters n i seen).mono (fun g h hg x => r31_Bruijn_L7_B_ch r3 r3' h_r3 (fun κ k j => g κ (k, j)) (fun k j => h (k, j)) (fun k j => hg (k, j)) w letters n i seen x.1 x.2) _
theorem r31_Bruijn_L3_B_ch (r3 : Nat → Int → (List Bool) → Option (Bool)) (r3' : Int → (List Bool) → Option (Bool)) (h_r3 : ∀ a0 a1, ChO (fun κ => r3 κ a0 a1) (r3' a0 a1)) (w : (List Int)) (letters : Int) (n : Int) (i : Int) (seen : (List Bool)) : ChO (fun κ => r31_Bruijn_L3_B w letters n (r3 κ) i seen) (r31_Bruijn_L3_B w letters n r3' i seen) := by
  unfold r31_Bruijn_L3_B
  repeat' with_reducible first | exact ChO.const _ | exact h_r3 _ _ | (apply r31_Bruijn_L7_ch <;> assumption) | apply ChO.ite | apply ChO.G | apply ChO.both | (apply ChO.bind; intro _)
theorem r31_Bruijn_L3_cn  (w : (List Int)) (letters : Int) (n : Int) : Cn (r31_Bruijn_L3_F w letters n) := fun g h hg x => r31_Bruijn_L3_B_ch  (fun κ i seen => g κ (i, seen)) (fun i seen => h (i, seen)) (fun i seen => hg (i, seen)) w letters n x.1 x.2
theorem r31_Bruijn_L3_eq  (w : (List Int)) (letters : Int) (n : Int) (i : Int) (seen : (List Bool)) : r31_Bruijn_L3 w letters n i seen = r31_Bruijn_L3_B w letters n (r31_Bruijn_L3 w letters n) i seen := LFix_eq (r31_Bruijn_L3_cn w letters n) (i, seen)

noncomputable def r31_First_J13 (r3 : ((List Int) → (List Int) → Option (List Int))) (out_1 : (List Int)) (next' : (List Int)) (k_1 : Int) : Option (List Int) :=
  G (0 ≤ k_1 ∧ k_1 ≤ (next'.length : Int)) (
  if (decide ((0 : Int) < k_1)) = true then
  G (fits (k_1 - (1 : Int))) (
  G (0 ≤ k_1 - (1 : Int) ∧ k_1 - (1 : Int) < ((next'.take (k_1).toNat).length : Int)) (
  G ((k_1 - (1 : Int)).toNat < (next'.take (k_1).toNat).length) (
  G (fits ((ix (next'.take (k_1).toNat) (k_1 - (1 : Int))) + (1 : Int))) (
  G (0 ≤ k_1 - (1 : Int) ∧ k_1 - (1 : Int) < ((next'.take (k_1).toNat).length : Int)) (
  G ((k_1 - (1 : Int)).toNat < (next'.take (k_1).toNat).length) (
  r3 ((next'.take (k_1).toNat).set (k_1 - (1 : Int)).toNat ((ix (next'.take (k_1).toNat) (k_1 - (1 : Int))) + (1 : Int))) out_1)))))) else
  r3 (next'.take (k_1).toNat) out_1)
noncomputable def r31_First_L12_B (letters : Int) (r3 : ((List Int) → (List Int) → Option (List Int))) (out_1 : (List Int)) (next' : (List Int)) (r12 : Int → Option (List Int)) (k : Int) : Option (List Int) :=
  if (decide ((0 : Int) < k)) = true then
  G (fits (k - (1 : Int))) (
  G (0 ≤ k - (1 : Int) ∧ k - (1 : Int) < (next'.length : Int)) (
  G ((k - (1 : Int)).toNat < next'.length) (
  G (fits (letters - (1 : Int))) (
  if (decide ((ix next' (k - (1 : Int))) = (letters - (1 : Int)))) = true then
  G (fits (k - (1 : Int))) (
  r12 (k - (1 : Int))) else
  r31_First_J13 r3 out_1 next' k)))) else
  r31_First_J13 r3 out_1 next' k
noncomputable def r31_First_L12_F (letters : Int) (r3 : ((List Int) → (List Int) → Option (List Int))) (out_1 : (List Int)) (next' : (List Int)) : (Int → Option (List Int)) → Int → Option (List Int) :=
  fun rec x => r31_First_L12_B letters r3 out_1 next' (fun k => rec k) x
noncomputable def r31_First_L12 (letters : Int) (r3 : ((List Int) → (List Int) → Option (List Int))) (out_1 : (List Int)) (next' : (List Int)) (k : Int) : Option (List Int) := LFix (r31_First_L12_F letters r3 out_1 next' ) k
noncomputable def r31_First_L8_B (letters : Int) (n : Int) (w : (List Int)) (r3 : ((List Int) → (List Int) → Option (List Int))) (out_1 : (List Int)) (r8 : Int → (List Int) → Option (List Int)) (i : Int) (next' : (List Int)) : Option (List Int) :=
  if (decide (i < n)) = true then
  G ((w.length : Int) ≠ 0) (
  G (0 ≤ Int.tmod i (w.length : Int) ∧ Int.tmod i (w.length : Int) < (w.length : Int)) (
  G ((Int.tmod i (w.length : Int)).toNat < w.length) (
  G (room next' ([ix w (Int.tmod i (w.length : Int))]) 8) (
  G (fits (i + (1 : Int))) (
  r8 (i + (1 : Int)) (next' ++ ([ix w (Int.tmod i (w.length : Int))]))))))) else
  r31_First_L12 letters r3 out_1 next' n
noncomputable def r31_First_L8_F (letters : Int) (n : Int) (w : (List Int)) (r3 : ((List Int) → (List Int) → Option (List Int))) (out_1 : (List Int)) : (Int × (List Int) → Option (List Int)) → Int × (List Int) → Option (List Int) :=
  fun rec x => r31_First_L8_B letters n w r3 out_1 (fun i next' => rec (i, next')) x.1 x.2
noncomputable def r31_First_L8 (letters : Int) (n : Int) (w : (List Int)) (r3 : ((List Int) → (List Int) → Option (List Int))) (out_1 : (List Int)) (i : Int) (next' : (List Int)) : Option (List Int) := LFix (r31_First_L8_F letters n w r3 out_1 ) (i, next')
noncomputable def r31_First_J5 (letters : Int) (n : Int) (w : (List Int)) (r3 : ((List Int) → (List Int) → Option (List Int))) (out_1 : (List Int)) : Option (List Int) :=
  r31_First_L8 letters n w r3 out_1 (0 : Int) ([])
noncomputable def r31_First_L3_B (letters : Int) (n : Int) (r3 : (List Int) → (List Int) → Option (List Int)) (w : (List Int)) (out : (List Int)) : Option (List Int) :=
  if (decide ((0 : Int) < (w.length : Int))) = true then
  G ((w.length : Int) ≠ 0) (
  if (decide ((Int.tmod n (w.length : Int)) = (0 : Int))) = true then
  G (room out w 8) (
  r31_First_J5 letters n w r3 (out ++ w)) else
  r31_First_J5 letters n w r3 out) else
  some out
noncomputable def r31_First_L3_F (letters : Int) (n : Int) : ((List Int) × (List Int) → Option (List Int)) → (List Int) × (List Int) → Option (List Int) :=
  fun rec x => r31_First_L3_B letters n (fun w out => rec (w, out)) x.1 x.2
noncomputable def r31_First_L3 (letters : Int) (n : Int) (w : (List Int)) (out : (List Int)) : Option (List Int) := LFix (r31_First_L3_F letters n ) (w, out)
noncomputable def r31_First (letters : Int) (n : Int) : Option (List Int) :=
  r31_First_L3 letters n ([(0 : Int)]) ([])
theorem r31_First_J13_ch (r3 : Nat → (List Int) → (List Int) → Option (List Int)) (r3' : (List Int) → (List Int) → Option (List Int)) (h_r3 : ∀ a0 a1, ChO (fun κ => r3 κ a0 a1) (r3' a0 a1)) (out_1 : (List Int)) (next' : (List Int)) (k_1 : Int) : ChO (fun κ => r31_First_J13 (r3 κ) out_1 next' k_1) (r31_First_J13 r3' out_1 next' k_1) := by
  unfold r31_First_J13
  repeat' with_reducible first | exact ChO.const _ | exact h_r3 _ _ | apply ChO.ite | apply ChO.G | apply ChO.both | (apply ChO.bind; intro _)
theorem r31_First_L12_B_ch (r3 : Nat → (List Int) → (List Int) → Option (List Int)) (r3' : (List Int) → (List Int) → Option (List Int)) (h_r3 : ∀ a0 a1, ChO (fun κ => r3 κ a0 a1) (r3' a0 a1)) (r12 : Nat → Int → Option (List Int)) (r12' : Int → Option (List Int)) (h_r12 : ∀ a0, ChO (fun κ => r12 κ a0) (r12' a0)) (letters : Int) (out_1 : (List Int)) (next' : (List Int)) (k : Int) : ChO (fun κ => r31_First_L12_B letters (r3 κ) out_1 next' (r12 κ) k) (r31_First_L12_B letters r3' out_1 next' r12' k) := by
  unfold r31_First_L12_B
  repeat' with_reducible first | exact ChO.const _ | exact h_r3 _ _ | exact h_r12 _ | (apply r31_First_J13_ch <;> assumption) | apply ChO.ite | apply ChO.G | apply ChO.both | (apply ChO.bind; intro _)
theorem r31_First_L12_cn (r3 : (List Int) → (List Int) → Option (List Int)) (letters : Int) (out_1 : (List Int)) (next' : (List Int)) : Cn (r31_First_L12_F letters r3 out_1 next') := fun g h hg x => r31_First_L12_B_ch (fun _ => r3) r3 (fun _ _ => ChO.const _) (fun κ k => g κ k) (fun k => h k) (fun k => hg k) letters out_1 next' x
theorem r31_First_L12_eq (r3 : (List Int) → (List Int) → Option (List Int)) (letters : Int) (out_1 : (List Int)) (next' : (List Int)) (k : Int) : r31_First_L12 letters r3 out_1 next' k = r31_First_L12_B letters r3 out_1 next' (r31_First_L12 letters r3 out_1 next') k := LFix_eq (r31_First_L12_cn r3 letters out_1 next') k
theorem r31_First_L12_ch (r3 : Nat → (List Int) → (List Int) → Option (List Int)) (r3' : (List Int) → (List Int) → Option (List Int)) (h_r3 : ∀ a0 a1, ChO (fun κ => r3 κ a0 a1) (r3' a0 a1)) (letters : Int) (out_1 : (List Int)) (next' : (List Int)) (k : Int) : ChO (fun κ => r31_First_L12 letters (r3 κ) out_1 next' k) (r31_First_L12 letters r3' out_1 next' k) := by
  unfold r31_First_L12
  exact LFix_ch (fun κ => (r31_First_L12_cn (r3 κ) letters out_1 next').mono) (r31_First_L12_cn r3' letters out_1 next').mono (fun g h hg x => r31_First_L12_B_ch r3 r3' h_r3 (fun κ k => g κ k) (fun k => h k) (fun k => hg k) letters out_1 next' x) _
theorem r31_First_L8_B_ch (r3 : Nat → (List Int) → (List Int) → Option (List Int)) (r3' : (List Int) → (List Int) → Option (List Int)) (h_r3 : ∀ a0 a1, ChO (fun κ => r3 κ a0 a1) (r3' a0 a1)) (r8 : Nat → Int → (List Int) → Option (List Int)) (r8' : Int → (List Int) → Option (List Int)) (h_r8 : ∀ a0 a1, ChO (fun κ => r8 κ a0 a1) (r8' a0 a1)) (letters : Int) (n : Int) (w : (List Int)) (out_1 : (List Int)) (i : Int) (next' : (List Int)) : ChO (fun κ => r31_First_L8_B letters n w (r3 κ) out_1 (r8 κ) i next') (r31_First_L8_B letters n w r3' out_1 r8' i next') := by
  unfold r31_First_L8_B
  repeat' with_reducible first | exact ChO.const _ | exact h_r3 _ _ | exact h_r8 _ _ | (apply r31_First_J13_ch <;> assumption) | (apply r31_First_L12_ch <;> assumption) | apply ChO.ite | apply ChO.G | apply ChO.both | (apply ChO.bind; intro _)
theorem r31_First_L8_cn (r3 : (List Int) → (List Int) → Option (List Int)) (letters : Int) (n : Int) (w : (List Int)) (out_1 : (List Int)) : Cn (r31_First_L8_F letters n w r3 out_1) := fun g h hg x => r31_First_L8_B_ch (fun _ => r3) r3 (fun _ _ => ChO.const _) (fun κ i next' => g κ (i, next')) (fun i next' => h (i, next')) (fun i next' => hg (i, next')) letters n w out_1 x.1 x.2
theorem r31_First_L8_eq (r3 : (List Int) → (List Int) → Option (List Int)) (letters : Int) (n : Int) (w : (List Int)) (out_1 : (List Int)) (i : Int) (next' : (List Int)) : r31_First_L8 letters n w r3 out_1 i next' = r31_First_L8_B letters n w r3 out_1 (r31_First_L8 letters n w r3 out_1) i next' := LFix_eq (r31_First_L8_cn r3 letters n w out_1) (i, next')
theorem r31_First_L8_ch (r3 : Nat → (List Int) → (List Int) → Option (List Int)) (r3' : (List Int) → (List Int) → Option (List Int)) (h_r3 : ∀ a0 a1, ChO (fun κ => r3 κ a0 a1) (r3' a0 a1)) (letters : Int) (n : Int) (w : (List Int)) (out_1 : (List Int)) (i : Int) (next' : (List Int)) : ChO (fun κ => r31_First_L8 letters n w (r3 κ) out_1 i next') (r31_First_L8 letters n w r3' out_1 i next') := by
  unfold r31_First_L8
  exact LFix_ch (fun κ => (r31_First_L8_cn (r3 κ) letters n w out_1).mono) (r31_First_L8_cn r3' letters n w out_1).mono (fun g h hg x => r31_First_L8_B_ch r3 r3' h_r3 (fun κ i next' => g κ (i, next')) (fun i next' => h (i, next')) (fun i next' => hg (i, next')) letters n w out_1 x.1 x.2) _
theorem r31_First_J5_ch (r3 : Nat → (List Int) → (List Int) → Option (List Int)) (r3' : (List Int) → (List Int) → Option (List Int)) (h_r3 : ∀ a0 a1, ChO (fun κ => r3 κ a0 a1) (r3' a0 a1)) (letters : Int) (n : Int) (w : (List Int)) (out_1 : (List Int)) : ChO (fun κ => r31_First_J5 letters n w (r3 κ) out_1) (r31_First_J5 letters n w r3' out_1) := by
  unfold r31_First_J5
  repeat' with_reducible first | exact ChO.const _ | exact h_r3 _ _ | (apply r31_First_J13_ch <;> assumption) | (apply r31_First_L12_ch <;> assumption) | (apply r31_First_L8_ch <;> assumption) | apply ChO.ite | apply ChO.G | apply ChO.both | (apply ChO.bind; intro _)
theorem r31_First_L3_B_ch (r3 : Nat → (List Int) → (List Int) → Option (List Int)) (r3' : (List Int) → (List Int) → Option (List Int)) (h_r3 : ∀ a0 a1, ChO (fun κ => r3 κ a0 a1) (r3' a0 a1)) (letters : Int) (n : Int) (w : (List Int)) (out : (List Int)) : ChO (fun κ => r31_First_L3_B letters n (r3 κ) w out) (r31_First_L3_B letters n r3' w out) := by
  unfold r31_First_L3_B
  repeat' with_reducible first | exact ChO.const _ | exact h_r3 _ _ | (apply r31_First_J13_ch <;> assumption) | (apply r31_First_L12_ch <;> assumption) | (apply r31_First_L8_ch <;> assumption) | (apply r31_First_J5_ch <;> assumption) | apply ChO.ite | apply ChO.G | apply ChO.both | (apply ChO.bind; intro _)
theorem r31_First_L3_cn  (letters : Int) (n : Int) : Cn (r31_First_L3_F letters n) := fun g h hg x => r31_First_L3_B_ch  (fun κ w out => g κ (w, out)) (fun w out => h (w, out)) (fun w out => hg (w, out)) letters n x.1 x.2
theorem r31_First_L3_eq  (letters : Int) (n : Int) (w : (List Int)) (out : (List Int)) : r31_First_L3 letters n w out = r31_First_L3_B letters n (r31_First_L3 letters n) w out := LFix_eq (r31_First_L3_cn letters n) (w, out)

noncomputable def r1_Words_L4_B (a : (List Int)) (b : (List Int)) (r4 : Int → Option (Bool)) (i : Int) : Option (Bool) :=
  if (decide (i < (a.length : Int))) = true then
  G (0 ≤ i ∧ i < (a.length : Int)) (
  G (0 ≤ i ∧ i < (b.length : Int)) (
  if (decide (¬ (ix a i) = (ix b i))) = true then
  some false else
  G (fits (i + (1 : Int))) (
  r4 (i + (1 : Int))))) else
  some true
noncomputable def r1_Words_L4_F (a : (List Int)) (b : (List Int)) : (Int → Option (Bool)) → Int → Option (Bool) :=
  fun rec x => r1_Words_L4_B a b (fun i => rec i) x
noncomputable def r1_Words_L4 (a : (List Int)) (b : (List Int)) (i : Int) : Option (Bool) := LFix (r1_Words_L4_F a b ) i
noncomputable def r1_Words (a : (List Int)) (b : (List Int)) : Option (Bool) :=
  if (decide (¬ (a.length : Int) = (b.length : Int))) = true then
  some false else
  r1_Words_L4 a b (0 : Int)
theorem r1_Words_L4_B_ch (r4 : Nat → Int → Option (Bool)) (r4' : Int → Option (Bool)) (h_r4 : ∀ a0, ChO (fun κ => r4 κ a0) (r4' a0)) (a : (List Int)) (b : (List Int)) (i : Int) : ChO (fun κ => r1_Words_L4_B a b (r4 κ) i) (r1_Words_L4_B a b r4' i) := by
  unfold r1_Words_L4_B
  repeat' with_reducible first | exact ChO.const _ | exact h_r4 _ | apply ChO.ite | apply ChO.G | apply ChO.both | (apply ChO.bind; intro _)
theorem r1_Words_L4_cn  (a : (List Int)) (b : (List Int)) : Cn (r1_Words_L4_F a b) := fun g h hg x => r1_Words_L4_B_ch  (fun κ i => g κ i) (fun i => h i) (fun i => hg i) a b x
theorem r1_Words_L4_eq  (a : (List Int)) (b : (List Int)) (i : Int) : r1_Words_L4 a b i = r1_Words_L4_B a b (r1_Words_L4 a b) i := LFix_eq (r1_Words_L4_cn a b) i

noncomputable def law_LyndonBruijn_J7 (letters : Int) (n : Int) (y' : Int) (y'_1 : (List Int)) (no : Int) : Option (Bool) :=
  if (decide (¬ no = (0 : Int))) = true then
  if (decide (y' = no)) = true then
  some (decide ((y'_1.length : Int) = (0 : Int))) else
  some false else
  (r31_Bruijn y'_1 letters n).bind (fun y'_3 =>
  (r31_First letters n).bind (fun y'_4 =>
  (r1_Words y'_1 y'_4).bind (fun y'_5 =>
  if (decide (y' = (0 : Int))) = true then
  if y'_3 = true then
  some y'_5 else
  some false else
  some false)))
noncomputable def law_LyndonBruijn_J3 (letters : Int) (n : Int) (y' : Int) (y'_1 : (List Int)) (t : Bool) : Option (Bool) :=
  if t = true then
  law_LyndonBruijn_J7 letters n y' y'_1 (2 : Int) else
  (r31_All letters n).bind (fun y'_6 =>
  if (decide ((256 : Int) < y'_6)) = true then
  law_LyndonBruijn_J7 letters n y' y'_1 (7 : Int) else
  law_LyndonBruijn_J7 letters n y' y'_1 (0 : Int))
noncomputable def law_LyndonBruijn (letters : Int) (n : Int) : Option (Bool) :=
  (lyndon_Bruijn letters n).bind (fun y'_7 =>
  if (decide (letters < (1 : Int))) = true then
  law_LyndonBruijn_J3 letters n y'_7.1 y'_7.2 true else
  if (decide ((4 : Int) < letters)) = true then
  law_LyndonBruijn_J3 letters n y'_7.1 y'_7.2 true else
  if (decide (n < (1 : Int))) = true then
  law_LyndonBruijn_J3 letters n y'_7.1 y'_7.2 true else
  law_LyndonBruijn_J3 letters n y'_7.1 y'_7.2 (decide ((8 : Int) < n)))

end Go.Proofs.Ytnfljdgpdleobaa.lyndonBruijnW
