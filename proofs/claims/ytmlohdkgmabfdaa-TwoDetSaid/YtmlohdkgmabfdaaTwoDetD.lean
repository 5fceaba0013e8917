/- What the functions that 'TwoDet' reaches compute: plain functions. -/
import Derived.Test.YtmlohdkgmabfdaaEv16n21
set_option maxHeartbeats 1000000
set_option maxRecDepth 20000
set_option linter.unusedSimpArgs false
set_option linter.unusedVariables false
set_option linter.unusedSectionVars false
namespace Go.Proofs.Ytmlohdkgmabfdaa.twoDetW
open Go Go.Ab
noncomputable def two_Check_1 (r : (List (Int × Int × Unit))) (t : (Int × Int × (List (List (Int × Int × Unit))) × (List Int) × Unit)) : Option (Bool) :=
  G (fits (t.1 + (2 : Int))) (
  some (decide (¬ (r.length : Int) = (t.1 + (2 : Int)))))

noncomputable def slices_IndexFunc_L2_B (s : (List (List (Int × Int × Unit)))) (c : (Int × Int × (List (List (Int × Int × Unit))) × (List Int) × Unit)) (r2 : Int → Option (Int)) (t : Int) : Option (Int) :=
  if (decide (t < (s.length : Int))) = true then
  G (0 ≤ t ∧ t < (s.length : Int)) (
  (two_Check_1 (ix s t) c).bind (fun y' =>
  if y' = true then
  some t else
  G (fits (t + (1 : Int))) (
  r2 (t + (1 : Int))))) else
  some (-1 : Int)
noncomputable def slices_IndexFunc_L2_F (s : (List (List (Int × Int × Unit)))) (c : (Int × Int × (List (List (Int × Int × Unit))) × (List Int) × Unit)) : (Int → Option (Int)) → Int → Option (Int) :=
  fun rec x => slices_IndexFunc_L2_B s c (fun t => rec t) x
noncomputable def slices_IndexFunc_L2 (s : (List (List (Int × Int × Unit)))) (c : (Int × Int × (List (List (Int × Int × Unit))) × (List Int) × Unit)) (t : Int) : Option (Int) := LFix (slices_IndexFunc_L2_F s c ) t
noncomputable def slices_IndexFunc (s : (List (List (Int × Int × Unit)))) (c : (Int × Int × (List (List (Int × Int × Unit))) × (List Int) × Unit)) : Option (Int) :=
  slices_IndexFunc_L2 s c (0 : Int)
theorem slices_IndexFunc_L2_B_ch (r2 : Nat → Int → Option (Int)) (r2' : Int → Option (Int)) (h_r2 : ∀ a0, ChO (fun κ => r2 κ a0) (r2' a0)) (s : (List (List (Int × Int × Unit)))) (c : (Int × Int × (List (List (Int × Int × Unit))) × (List Int) × Unit)) (t : Int) : ChO (fun κ => slices_IndexFunc_L2_B s c (r2 κ) t) (slices_IndexFunc_L2_B s c r2' t) := by
  unfold slices_IndexFunc_L2_B
  repeat' with_reducible first | exact ChO.const _ | exact h_r2 _ | apply ChO.ite | apply ChO.G | apply ChO.both | (apply ChO.bind; intro _)
theorem slices_IndexFunc_L2_cn  (s : (List (List (Int × Int × Unit)))) (c : (Int × Int × (List (List (Int × Int × Unit))) × (List Int) × Unit)) : Cn (slices_IndexFunc_L2_F s c) := fun g h hg x => slices_IndexFunc_L2_B_ch  (fun κ t => g κ t) (fun t => h t) (fun t => hg t) s c x
theorem slices_IndexFunc_L2_eq  (s : (List (List (Int × Int × Unit)))) (c : (Int × Int × (List (List (Int × Int × Unit))) × (List Int) × Unit)) (t : Int) : slices_IndexFunc_L2 s c t = slices_IndexFunc_L2_B s c (slices_IndexFunc_L2 s c) t := LFix_eq (slices_IndexFunc_L2_cn s c) t

noncomputable def slices_ContainsFunc (s : (List (List (Int × Int × Unit)))) (c : (Int × Int × (List (List (Int × Int × Unit))) × (List Int) × Unit)) : Option (Bool) :=
  (slices_IndexFunc s c).bind (fun y' =>
  some (decide ((0 : Int) ≤ y')))

noncomputable def two_Check_2 (q : Int) (t : Int) : Option (Bool) :=
  if (decide (q < (0 : Int))) = true then
  some true else
  some (decide (t ≤ q))

noncomputable def two_Check_3_1 (x' : (Int × Int × Unit)) (c : Int) : Option (Bool × Int) :=
  (two_Check_2 x'.1 c).bind (fun y' =>
  if y' = true then
  some (true, c) else
  if (decide (¬ x'.2.1 = (1 : Int))) = true then
  some (decide (¬ x'.2.1 = (-1 : Int)), c) else
  some (false, c))

noncomputable def slices_IndexFunc_2_L2_B (s : (List (Int × Int × Unit))) (r2 : Int → Int → Option (Int × Int)) (t : Int) (l : Int) : Option (Int × Int) :=
  if (decide (t < (s.length : Int))) = true then
  G (0 ≤ t ∧ t < (s.length : Int)) (
  (two_Check_3_1 (ix s t) l).bind (fun y'_3 =>
  if y'_3.1 = true then
  some (t, y'_3.2) else
  G (fits (t + (1 : Int))) (
  r2 (t + (1 : Int)) y'_3.2))) else
  some ((-1 : Int), l)
noncomputable def slices_IndexFunc_2_L2_F (s : (List (Int × Int × Unit))) : (Int × Int → Option (Int × Int)) → Int × Int → Option (Int × Int) :=
  fun rec x => slices_IndexFunc_2_L2_B s (fun t l => rec (t, l)) x.1 x.2
noncomputable def slices_IndexFunc_2_L2 (s : (List (Int × Int × Unit))) (t : Int) (l : Int) : Option (Int × Int) := LFix (slices_IndexFunc_2_L2_F s ) (t, l)
noncomputable def slices_IndexFunc_2 (s : (List (Int × Int × Unit))) (c : Int) : Option (Int × Int) :=
  slices_IndexFunc_2_L2 s (0 : Int) c
theorem slices_IndexFunc_2_L2_B_ch (r2 : Nat → Int → Int → Option (Int × Int)) (r2' : Int → Int → Option (Int × Int)) (h_r2 : ∀ a0 a1, ChO (fun κ => r2 κ a0 a1) (r2' a0 a1)) (s : (List (Int × Int × Unit))) (t : Int) (l : Int) : ChO (fun κ => slices_IndexFunc_2_L2_B s (r2 κ) t l) (slices_IndexFunc_2_L2_B s r2' t l) := by
  unfold slices_IndexFunc_2_L2_B
  repeat' with_reducible first | exact ChO.const _ | exact h_r2 _ _ | apply ChO.ite | apply ChO.G | apply ChO.both | (apply ChO.bind; intro _)
theorem slices_IndexFunc_2_L2_cn  (s : (List (Int × Int × Unit))) : Cn (slices_IndexFunc_2_L2_F s) := fun g h hg x => slices_IndexFunc_2_L2_B_ch  (fun κ t l => g κ (t, l)) (fun t l => h (t, l)) (fun t l => hg (t, l)) s x.1 x.2
theorem slices_IndexFunc_2_L2_eq  (s : (List (Int × Int × Unit))) (t : Int) (l : Int) : slices_IndexFunc_2_L2 s t l = slices_IndexFunc_2_L2_B s (slices_IndexFunc_2_L2 s) t l := LFix_eq (slices_IndexFunc_2_L2_cn s) (t, l)

noncomputable def slices_ContainsFunc_2 (s : (List (Int × Int × Unit))) (c : Int) : Option (Bool × Int) :=
  (slices_IndexFunc_2 s c).bind (fun y'_3 =>
  some (decide ((0 : Int) ≤ y'_3.1), y'_3.2))

noncomputable def two_Check_3 (r : (List (Int × Int × Unit))) (c : Int) : Option (Bool × Int) :=
  (slices_ContainsFunc_2 r c).bind (fun y'_3 =>
  some (y'_3.1, y'_3.2))

noncomputable def slices_IndexFunc_1_L2_B (s : (List (List (Int × Int × Unit)))) (r2 : Int → Int → Option (Int × Int)) (t : Int) (l : Int) : Option (Int × Int) :=
  if (decide (t < (s.length : Int))) = true then
  G (0 ≤ t ∧ t < (s.length : Int)) (
  (two_Check_3 (ix s t) l).bind (fun y'_3 =>
  if y'_3.1 = true then
  some (t, y'_3.2) else
  G (fits (t + (1 : Int))) (
  r2 (t + (1 : Int)) y'_3.2))) else
  some ((-1 : Int), l)
noncomputable def slices_IndexFunc_1_L2_F (s : (List (List (Int × Int × Unit)))) : (Int × Int → Option (Int × Int)) → Int × Int → Option (Int × Int) :=
  fun rec x => slices_IndexFunc_1_L2_B s (fun t l => rec (t, l)) x.1 x.2
noncomputable def slices_IndexFunc_1_L2 (s : (List (List (Int × Int × Unit)))) (t : Int) (l : Int) : Option (Int × Int) := LFix (slices_IndexFunc_1_L2_F s ) (t, l)
noncomputable def slices_IndexFunc_1 (s : (List (List (Int × Int × Unit)))) (c : Int) : Option (Int × Int) :=
  slices_IndexFunc_1_L2 s (0 : Int) c
theorem slices_IndexFunc_1_L2_B_ch (r2 : Nat → Int → Int → Option (Int × Int)) (r2' : Int → Int → Option (Int × Int)) (h_r2 : ∀ a0 a1, ChO (fun κ => r2 κ a0 a1) (r2' a0 a1)) (s : (List (List (Int × Int × Unit)))) (t : Int) (l : Int) : ChO (fun κ => slices_IndexFunc_1_L2_B s (r2 κ) t l) (slices_IndexFunc_1_L2_B s r2' t l) := by
  unfold slices_IndexFunc_1_L2_B
  repeat' with_reducible first | exact ChO.const _ | exact h_r2 _ _ | apply ChO.ite | apply ChO.G | apply ChO.both | (apply ChO.bind; intro _)
theorem slices_IndexFunc_1_L2_cn  (s : (List (List (Int × Int × Unit)))) : Cn (slices_IndexFunc_1_L2_F s) := fun g h hg x => slices_IndexFunc_1_L2_B_ch  (fun κ t l => g κ (t, l)) (fun t l => h (t, l)) (fun t l => hg (t, l)) s x.1 x.2
theorem slices_IndexFunc_1_L2_eq  (s : (List (List (Int × Int × Unit)))) (t : Int) (l : Int) : slices_IndexFunc_1_L2 s t l = slices_IndexFunc_1_L2_B s (slices_IndexFunc_1_L2 s) t l := LFix_eq (slices_IndexFunc_1_L2_cn s) (t, l)

noncomputable def slices_ContainsFunc_1 (s : (List (List (Int × Int × Unit)))) (c : Int) : Option (Bool × Int) :=
  (slices_IndexFunc_1 s c).bind (fun y'_3 =>
  some (decide ((0 : Int) ≤ y'_3.1), y'_3.2))

noncomputable def two_Check_4 (m : Int) : Option (Bool) :=
  if (decide (¬ m = (0 : Int))) = true then
  some (decide (¬ m = (1 : Int))) else
  some false

noncomputable def slices_IndexFunc_3_L2_B (s : (List Int)) (r2 : Int → Option (Int)) (t : Int) : Option (Int) :=
  if (decide (t < (s.length : Int))) = true then
  G (0 ≤ t ∧ t < (s.length : Int)) (
  (two_Check_4 (ix s t)).bind (fun y' =>
  if y' = true then
  some t else
  G (fits (t + (1 : Int))) (
  r2 (t + (1 : Int))))) else
  some (-1 : Int)
noncomputable def slices_IndexFunc_3_L2_F (s : (List Int)) : (Int → Option (Int)) → Int → Option (Int) :=
  fun rec x => slices_IndexFunc_3_L2_B s (fun t => rec t) x
noncomputable def slices_IndexFunc_3_L2 (s : (List Int)) (t : Int) : Option (Int) := LFix (slices_IndexFunc_3_L2_F s ) t
noncomputable def slices_IndexFunc_3 (s : (List Int)) : Option (Int) :=
  slices_IndexFunc_3_L2 s (0 : Int)
theorem slices_IndexFunc_3_L2_B_ch (r2 : Nat → Int → Option (Int)) (r2' : Int → Option (Int)) (h_r2 : ∀ a0, ChO (fun κ => r2 κ a0) (r2' a0)) (s : (List Int)) (t : Int) : ChO (fun κ => slices_IndexFunc_3_L2_B s (r2 κ) t) (slices_IndexFunc_3_L2_B s r2' t) := by
  unfold slices_IndexFunc_3_L2_B
  repeat' with_reducible first | exact ChO.const _ | exact h_r2 _ | apply ChO.ite | apply ChO.G | apply ChO.both | (apply ChO.bind; intro _)
theorem slices_IndexFunc_3_L2_cn  (s : (List Int)) : Cn (slices_IndexFunc_3_L2_F s) := fun g h hg x => slices_IndexFunc_3_L2_B_ch  (fun κ t => g κ t) (fun t => h t) (fun t => hg t) s x
theorem slices_IndexFunc_3_L2_eq  (s : (List Int)) (t : Int) : slices_IndexFunc_3_L2 s t = slices_IndexFunc_3_L2_B s (slices_IndexFunc_3_L2 s) t := LFix_eq (slices_IndexFunc_3_L2_cn s) t

noncomputable def slices_ContainsFunc_3 (s : (List Int)) : Option (Bool) :=
  (slices_IndexFunc_3 s).bind (fun y' =>
  some (decide ((0 : Int) ≤ y')))

noncomputable def two_Check (t : (Int × Int × (List (List (Int × Int × Unit))) × (List Int) × Unit)) : Option (Int) :=
  if (decide (t.1 < (1 : Int))) = true then
  some (2 : Int) else
  if (decide ((4 : Int) < t.1)) = true then
  some (2 : Int) else
  if (decide ((t.2.2.1.length : Int) < (1 : Int))) = true then
  some (1 : Int) else
  if (decide ((4 : Int) < (t.2.2.1.length : Int))) = true then
  some (1 : Int) else
  if (decide (¬ (t.2.2.2.1.length : Int) = (t.2.2.1.length : Int))) = true then
  some (3 : Int) else
  (slices_ContainsFunc t.2.2.1 (t.1, (t.2.1, (t.2.2.1, (t.2.2.2.1, ()))))).bind (fun y' =>
  if y' = true then
  some (3 : Int) else
  (two_Check_2 t.2.1 (t.2.2.1.length : Int)).bind (fun y'_1 =>
  if y'_1 = true then
  some (2 : Int) else
  (slices_ContainsFunc_1 t.2.2.1 (t.2.2.1.length : Int)).bind (fun y'_6 =>
  if y'_6.1 = true then
  some (2 : Int) else
  (slices_ContainsFunc_3 t.2.2.2.1).bind (fun y'_5 =>
  if y'_5 = true then
  some (2 : Int) else
  some (0 : Int)))))

noncomputable def two_Det_1_L2_B (ahead : (Int × Int × Int × Int × Int × Unit)) (first : Bool) (letter : Int) (t : Int) (t_1 : (Int × Int × (List (List (Int × Int × Unit))) × (List Int) × Unit)) (r2 : Int → Int → Option (Int)) (q_1 : Int) (t_2 : Int) : Option (Int) :=
  if (decide (t_2 < (t + (1 : Int)))) = true then
  G (0 ≤ q_1 ∧ q_1 < (t_1.2.2.1.length : Int)) (
  G (0 ≤ letter ∧ letter < ((ix t_1.2.2.1 q_1).length : Int)) (
  if (decide ((((ix (ix t_1.2.2.1 q_1) letter).2).1) = (1 : Int))) = true then
  some ((ix (ix t_1.2.2.1 q_1) letter).1) else
  if first = true then
  some (-1 : Int) else
  G (0 ≤ (ix (ix t_1.2.2.1 q_1) letter).1 ∧ (ix (ix t_1.2.2.1 q_1) letter).1 < (5 : Int)) (
  G (((ix (ix t_1.2.2.1 q_1) letter).1).toNat < 5) (
  if (decide (([ahead.1, ahead.2.1, ahead.2.2.1, ahead.2.2.2.1, ahead.2.2.2.2.1].getD ((ix (ix t_1.2.2.1 q_1) letter).1).toNat 0) < (0 : Int))) = true then
  some (-1 : Int) else
  G (fits (t_2 + (1 : Int))) (
  r2 ([ahead.1, ahead.2.1, ahead.2.2.1, ahead.2.2.2.1, ahead.2.2.2.2.1].getD ((ix (ix t_1.2.2.1 q_1) letter).1).toNat 0) (t_2 + (1 : Int))))))) else
  some (-1 : Int)
noncomputable def two_Det_1_L2_F (ahead : (Int × Int × Int × Int × Int × Unit)) (first : Bool) (letter : Int) (t : Int) (t_1 : (Int × Int × (List (List (Int × Int × Unit))) × (List Int) × Unit)) : (Int × Int → Option (Int)) → Int × Int → Option (Int) :=
  fun rec x => two_Det_1_L2_B ahead first letter t t_1 (fun q_1 t_2 => rec (q_1, t_2)) x.1 x.2
noncomputable def two_Det_1_L2 (ahead : (Int × Int × Int × Int × Int × Unit)) (first : Bool) (letter : Int) (t : Int) (t_1 : (Int × Int × (List (List (Int × Int × Unit))) × (List Int) × Unit)) (q_1 : Int) (t_2 : Int) : Option (Int) := LFix (two_Det_1_L2_F ahead first letter t t_1 ) (q_1, t_2)
noncomputable def two_Det_1 (ahead : (Int × Int × Int × Int × Int × Unit)) (first : Bool) (q : Int) (letter : Int) (t : Int) (t_1 : (Int × Int × (List (List (Int × Int × Unit))) × (List Int) × Unit)) : Option (Int) :=
  G (fits (t + (1 : Int))) (
  two_Det_1_L2 ahead first letter t t_1 q (0 : Int))
theorem two_Det_1_L2_B_ch (r2 : Nat → Int → Int → Option (Int)) (r2' : Int → Int → Option (Int)) (h_r2 : ∀ a0 a1, ChO (fun κ => r2 κ a0 a1) (r2' a0 a1)) (ahead : (Int × Int × Int × Int × Int × Unit)) (first : Bool) (letter : Int) (t : Int) (t_1 : (Int × Int × (List (List (Int × Int × Unit))) × (List Int) × Unit)) (q_1 : Int) (t_2 : Int) : ChO (fun κ => two_Det_1_L2_B ahead first letter t t_1 (r2 κ) q_1 t_2) (two_Det_1_L2_B ahead first letter t t_1 r2' q_1 t_2) := by
  unfold two_Det_1_L2_B
  repeat' with_reducible first | exact ChO.const _ | exact h_r2 _ _ | apply ChO.ite | apply ChO.G | apply ChO.both | (apply ChO.bind; intro _)
theorem two_Det_1_L2_cn  (ahead : (Int × Int × Int × Int × Int × Unit)) (first : Bool) (letter : Int) (t : Int) (t_1 : (Int × Int × (List (List (Int × Int × Unit))) × (List Int) × Unit)) : Cn (two_Det_1_L2_F ahead first letter t t_1) := fun g h hg x => two_Det_1_L2_B_ch  (fun κ q_1 t_2 => g κ (q_1, t_2)) (fun q_1 t_2 => h (q_1, t_2)) (fun q_1 t_2 => hg (q_1, t_2)) ahead first letter t t_1 x.1 x.2
theorem two_Det_1_L2_eq  (ahead : (Int × Int × Int × Int × Int × Unit)) (first : Bool) (letter : Int) (t : Int) (t_1 : (Int × Int × (List (List (Int × Int × Unit))) × (List Int) × Unit)) (q_1 : Int) (t_2 : Int) : two_Det_1_L2 ahead first letter t t_1 q_1 t_2 = two_Det_1_L2_B ahead first letter t t_1 (two_Det_1_L2 ahead first letter t t_1) q_1 t_2 := LFix_eq (two_Det_1_L2_cn ahead first letter t t_1) (q_1, t_2)

noncomputable def two_Det_2_L3_B (s : (Int × Int × Int × Int × Int × Unit)) (letter : Int) (t : Int) (c : Int) (c_1 : (Int × Int × (List (List (Int × Int × Unit))) × (List Int) × Unit)) (r3 : Int → Int → Int → Int → Int → Int → Option ((Int × Int × Int × Int × Int × Unit) × Int × Int × Int × (List (List (Int × Int × Unit))) × (List Int) × Unit)) (t_1 : Int) (next' : Int) (next'_1 : Int) (next'_2 : Int) (next'_3 : Int) (next'_4 : Int) : Option ((Int × Int × Int × Int × Int × Unit) × Int × Int × Int × (List (List (Int × Int × Unit))) × (List Int) × Unit) :=
  if (decide (t_1 < t)) = true then
  (two_Det_1 (s.1, (s.2.1, (s.2.2.1, (s.2.2.2.1, (s.2.2.2.2.1, ()))))) false t_1 letter c c_1).bind (fun y' =>
  G (0 ≤ t_1 ∧ t_1 < (5 : Int)) (
  G ((t_1).toNat < 5) (
  G (fits (t_1 + (1 : Int))) (
  r3 (t_1 + (1 : Int)) (([next', next'_1, next'_2, next'_3, next'_4].set (t_1).toNat y').getD 0 0) (([next', next'_1, next'_2, next'_3, next'_4].set (t_1).toNat y').getD 1 0) (([next', next'_1, next'_2, next'_3, next'_4].set (t_1).toNat y').getD 2 0) (([next', next'_1, next'_2, next'_3, next'_4].set (t_1).toNat y').getD 3 0) (([next', next'_1, next'_2, next'_3, next'_4].set (t_1).toNat y').getD 4 0))))) else
  if (decide ((0 : Int) ≤ s.2.2.2.2.1)) = true then
  (two_Det_1 (s.1, (s.2.1, (s.2.2.1, (s.2.2.2.1, (s.2.2.2.2.1, ()))))) false s.2.2.2.2.1 letter c c_1).bind (fun y'_1 =>
  some ((next', (next'_1, (next'_2, (next'_3, (y'_1, ()))))), c, c_1)) else
  some ((next', (next'_1, (next'_2, (next'_3, (next'_4, ()))))), c, c_1)
noncomputable def two_Det_2_L3_F (s : (Int × Int × Int × Int × Int × Unit)) (letter : Int) (t : Int) (c : Int) (c_1 : (Int × Int × (List (List (Int × Int × Unit))) × (List Int) × Unit)) : (Int × Int × Int × Int × Int × Int → Option ((Int × Int × Int × Int × Int × Unit) × Int × Int × Int × (List (List (Int × Int × Unit))) × (List Int) × Unit)) → Int × Int × Int × Int × Int × Int → Option ((Int × Int × Int × Int × Int × Unit) × Int × Int × Int × (List (List (Int × Int × Unit))) × (List Int) × Unit) :=
  fun rec x => two_Det_2_L3_B s letter t c c_1 (fun t_1 next' next'_1 next'_2 next'_3 next'_4 => rec (t_1, next', next'_1, next'_2, next'_3, next'_4)) x.1 x.2.1 x.2.2.1 x.2.2.2.1 x.2.2.2.2.1 x.2.2.2.2.2
noncomputable def two_Det_2_L3 (s : (Int × Int × Int × Int × Int × Unit)) (letter : Int) (t : Int) (c : Int) (c_1 : (Int × Int × (List (List (Int × Int × Unit))) × (List Int) × Unit)) (t_1 : Int) (next' : Int) (next'_1 : Int) (next'_2 : Int) (next'_3 : Int) (next'_4 : Int) : Option ((Int × Int × Int × Int × Int × Unit) × Int × Int × Int × (List (List (Int × Int × Unit))) × (List Int) × Unit) := LFix (two_Det_2_L3_F s letter t c c_1 ) (t_1, next', next'_1, next'_2, next'_3, next'_4)
noncomputable def two_Det_2 (s : (Int × Int × Int × Int × Int × Unit)) (letter : Int) (t : Int) (c : Int) (c_1 : (Int × Int × (List (List (Int × Int × Unit))) × (List Int) × Unit)) : Option ((Int × Int × Int × Int × Int × Unit) × Int × Int × Int × (List (List (Int × Int × Unit))) × (List Int) × Unit) :=
  two_Det_2_L3 s letter t c c_1 (0 : Int) (-1 : Int) (-1 : Int) (-1 : Int) (-1 : Int) (-1 : Int)
theorem two_Det_2_L3_B_ch (r3 : Nat → Int → Int → Int → Int → Int → Int → Option ((Int × Int × Int × Int × Int × Unit) × Int × Int × Int × (List (List (Int × Int × Unit))) × (List Int) × Unit)) (r3' : Int → Int → Int → Int → Int → Int → Option ((Int × Int × Int × Int × Int × Unit) × Int × Int × Int × (List (List (Int × Int × Unit))) × (List Int) × Unit)) (h_r3 : ∀ a0 a1 a2 a3 a4 a5, ChO (fun κ => r3 κ a0 a1 a2 a3 a4 a5) (r3' a0 a1 a2 a3 a4 a5)) (s : (Int × Int × Int × Int × Int × Unit)) (letter : Int) (t : Int) (c : Int) (c_1 : (Int × Int × (List (List (Int × Int × Unit))) × (List Int) × Unit)) (t_1 : Int) (next' : Int) (next'_1 : Int) (next'_2 : Int) (next'_3 : Int) (next'_4 : Int) : ChO (fun κ => two_Det_2_L3_B s letter t c c_1 (r3 κ) t_1 next' next'_1 next'_2 next'_3 next'_4) (two_Det_2_L3_B s letter t c c_1 r3' t_1 next' next'_1 next'_2 next'_3 next'_4) := by
  unfold two_Det_2_L3_B
  repeat' with_reducible first | exact ChO.const _ | exact h_r3 _ _ _ _ _ _ | apply ChO.ite | apply ChO.G | apply ChO.both | (apply ChO.bind; intro _)
theorem two_Det_2_L3_cn  (s : (Int × Int × Int × Int × Int × Unit)) (letter : Int) (t : Int) (c : Int) (c_1 : (Int × Int × (List (List (Int × Int × Unit))) × (List Int) × Unit)) : Cn (two_Det_2_L3_F s letter t c c_1) := fun g h hg x => two_Det_2_L3_B_ch  (fun κ t_1 next' next'_1 next'_2 next'_3 next'_4 => g κ (t_1, next', next'_1, next'_2, next'_3, next'_4)) (fun t_1 next' next'_1 next'_2 next'_3 next'_4 => h (t_1, next', next'_1, next'_2, next'_3, next'_4)) (fun t_1 next' next'_1 next'_2 next'_3 next'_4 => hg (t_1, next', next'_1, next'_2, next'_3, next'_4)) s letter t c c_1 x.1 x.2.1 x.2.2.1 x.2.2.2.1 x.2.2.2.2.1 x.2.2.2.2.2
theorem two_Det_2_L3_eq  (s : (Int × Int × Int × Int × Int × Unit)) (letter : Int) (t : Int) (c : Int) (c_1 : (Int × Int × (List (List (Int × Int × Unit))) × (List Int) × Unit)) (t_1 : Int) (next' : Int) (next'_1 : Int) (next'_2 : Int) (next'_3 : Int) (next'_4 : Int) : two_Det_2_L3 s letter t c c_1 t_1 next' next'_1 next'_2 next'_3 next'_4 = two_Det_2_L3_B s letter t c c_1 (two_Det_2_L3 s letter t c c_1) t_1 next' next'_1 next'_2 next'_3 next'_4 := LFix_eq (two_Det_2_L3_cn s letter t c c_1) (t_1, next', next'_1, next'_2, next'_3, next'_4)

noncomputable def two_Det_3 (s : (Int × Int × Int × Int × Int × Unit)) (t : (Int × Int × (List (List (Int × Int × Unit))) × (List Int) × Unit)) (c : Int) (c_1 : (Int × Int × (List (List (Int × Int × Unit))) × (List Int) × Unit)) : Option (Int × Int × Int × Int × (List (List (Int × Int × Unit))) × (List Int) × Unit) :=
  if (decide (s.2.2.2.2.1 < (0 : Int))) = true then
  some ((0 : Int), c, c_1) else
  G (fits (t.1 + (1 : Int))) (
  (two_Det_1 (s.1, (s.2.1, (s.2.2.1, (s.2.2.2.1, (s.2.2.2.2.1, ()))))) false s.2.2.2.2.1 (t.1 + (1 : Int)) c c_1).bind (fun y' =>
  if (decide ((0 : Int) ≤ y')) = true then
  G (0 ≤ y' ∧ y' < (t.2.2.2.1.length : Int)) (
  some (ix t.2.2.2.1 y', c, c_1)) else
  some ((0 : Int), c, c_1)))

noncomputable def det_Explore_J17 (next'_1 : Int) (mark_1 : (Int × Int × (List (List (Int × Int × Unit))) × (List Int) × Unit)) (t : Int) (row : (List Int)) (r8 : (Int → (Int × Int × (List (List (Int × Int × Unit))) × (List Int) × Unit) → Int → Int → (Int × Int × (List (List (Int × Int × Unit))) × (List Int) × Unit) → (List (Int × Int × Int × Int × Int × Unit)) → (List Int) → (List (Int × Int × Int × Int × Int × Unit)) → (List Int) → Option ((Int × Int × (List (List Int)) × (List Int) × Unit) × Bool))) (y'_1 : Int) (y'_2 : (Int × Int × (List (List (Int × Int × Unit))) × (List Int) × Unit)) (n : Int) (number_4 : (List (Int × Int × Int × Int × Int × Unit))) (number_5 : (List Int)) (l_6 : (List (Int × Int × Int × Int × Int × Unit))) : Option ((Int × Int × (List (List Int)) × (List Int) × Unit) × Bool) :=
  G (0 ≤ t ∧ t < (row.length : Int)) (
  G ((t).toNat < row.length) (
  G (fits (t + (1 : Int))) (
  r8 next'_1 mark_1 (t + (1 : Int)) y'_1 y'_2 number_4 number_5 l_6 (row.set (t).toNat n))))
noncomputable def det_Explore_L8_B (letters : Int) (most : Int) (d : Int) (d_1 : Int) (l_2 : (List (Int × Int × Int × Int × Int × Unit))) (d_2 : (List (List Int))) (d_3 : (List Int)) (r4 : (Int → (Int × Int × (List (List (Int × Int × Unit))) × (List Int) × Unit) → Int → (Int × Int × (List (List (Int × Int × Unit))) × (List Int) × Unit) → Int → Int → (List (Int × Int × Int × Int × Int × Unit)) → (List Int) → (List (Int × Int × Int × Int × Int × Unit)) → (List (List Int)) → (List Int) → Option ((Int × Int × (List (List Int)) × (List Int) × Unit) × Bool))) (r8 : Int → (Int × Int × (List (List (Int × Int × Unit))) × (List Int) × Unit) → Int → Int → (Int × Int × (List (List (Int × Int × Unit))) × (List Int) × Unit) → (List (Int × Int × Int × Int × Int × Unit)) → (List Int) → (List (Int × Int × Int × Int × Int × Unit)) → (List Int) → Option ((Int × Int × (List (List Int)) × (List Int) × Unit) × Bool)) (next'_1 : Int) (mark_1 : (Int × Int × (List (List (Int × Int × Unit))) × (List Int) × Unit)) (t : Int) (l_3 : Int) (l_4 : (Int × Int × (List (List (Int × Int × Unit))) × (List Int) × Unit)) (number_2 : (List (Int × Int × Int × Int × Int × Unit))) (number_3 : (List Int)) (l_5 : (List (Int × Int × Int × Int × Int × Unit))) (row : (List Int)) : Option ((Int × Int × (List (List Int)) × (List Int) × Unit) × Bool) :=
  if (decide (t < letters)) = true then
  (two_Det_2 ((ix l_2 (d_2.length : Int)).1, (((ix l_2 (d_2.length : Int)).2).1, ((((ix l_2 (d_2.length : Int)).2).2).1, (((((ix l_2 (d_2.length : Int)).2).2).2).1, ((((((ix l_2 (d_2.length : Int)).2).2).2).2).1, ()))))) t next'_1 l_3 l_4).bind (fun y'_4 =>
  if (!(mhas number_2 (y'_4.1.1, (y'_4.1.2.1, (y'_4.1.2.2.1, (y'_4.1.2.2.2.1, (y'_4.1.2.2.2.2.1, ()))))))) = true then
  if (decide ((l_5.length : Int) = most)) = true then
  some (((0 : Int), ((0 : Int), ([], ([], ())))), false) else
  G (room l_5 ([(y'_4.1.1, (y'_4.1.2.1, (y'_4.1.2.2.1, (y'_4.1.2.2.2.1, (y'_4.1.2.2.2.2.1, ())))))]) 40) (
  det_Explore_J17 next'_1 mark_1 t row r8 y'_4.2.1 y'_4.2.2 (l_5.length : Int) (mputK number_2 (y'_4.1.1, (y'_4.1.2.1, (y'_4.1.2.2.1, (y'_4.1.2.2.2.1, (y'_4.1.2.2.2.2.1, ())))))) (mputV number_2 number_3 (y'_4.1.1, (y'_4.1.2.1, (y'_4.1.2.2.1, (y'_4.1.2.2.2.1, (y'_4.1.2.2.2.2.1, ()))))) (l_5.length : Int)) (l_5 ++ ([(y'_4.1.1, (y'_4.1.2.1, (y'_4.1.2.2.1, (y'_4.1.2.2.2.1, (y'_4.1.2.2.2.2.1, ())))))]))) else
  det_Explore_J17 next'_1 mark_1 t row r8 y'_4.2.1 y'_4.2.2 (mget number_2 number_3 (y'_4.1.1, (y'_4.1.2.1, (y'_4.1.2.2.1, (y'_4.1.2.2.2.1, (y'_4.1.2.2.2.2.1, ()))))) (0 : Int)) number_2 number_3 l_5) else
  G (room d_2 ([row]) 24) (
  both [(.pair (.int .i64) (.pair (.int .i64) (.pair (.list (.list (.int .i64))) (.pair (.list (.int .i64)) .unit)))), .bool] (
  (two_Det_3 ((ix l_2 (d_2.length : Int)).1, (((ix l_2 (d_2.length : Int)).2).1, ((((ix l_2 (d_2.length : Int)).2).2).1, (((((ix l_2 (d_2.length : Int)).2).2).2).1, ((((((ix l_2 (d_2.length : Int)).2).2).2).2).1, ()))))) mark_1 l_3 l_4).bind (fun y'_9 =>
  G (room d_3 ([y'_9.1]) 8) (
  r4 next'_1 mark_1 y'_9.2.1 y'_9.2.2 d d_1 number_2 number_3 l_5 (d_2 ++ ([row])) (d_3 ++ ([y'_9.1]))))) (
  (two_Det_3 ((ix l_2 (d_2.length : Int)).1, (((ix l_2 (d_2.length : Int)).2).1, ((((ix l_2 (d_2.length : Int)).2).2).1, (((((ix l_2 (d_2.length : Int)).2).2).2).1, ((((((ix l_2 (d_2.length : Int)).2).2).2).2).1, ()))))) mark_1 l_3 l_4).bind (fun y'_14 =>
  G (room d_3 ([y'_14.1]) 8) (
  r4 next'_1 mark_1 y'_14.2.1 y'_14.2.2 d d_1 number_2 number_3 l_5 (d_2 ++ ([row])) (d_3 ++ ([y'_14.1]))))))
noncomputable def det_Explore_L8_F (letters : Int) (most : Int) (d : Int) (d_1 : Int) (l_2 : (List (Int × Int × Int × Int × Int × Unit))) (d_2 : (List (List Int))) (d_3 : (List Int)) (r4 : (Int → (Int × Int × (List (List (Int × Int × Unit))) × (List Int) × Unit) → Int → (Int × Int × (List (List (Int × Int × Unit))) × (List Int) × Unit) → Int → Int → (List (Int × Int × Int × Int × Int × Unit)) → (List Int) → (List (Int × Int × Int × Int × Int × Unit)) → (List (List Int)) → (List Int) → Option ((Int × Int × (List (List Int)) × (List Int) × Unit) × Bool))) : (Int × (Int × Int × (List (List (Int × Int × Unit))) × (List Int) × Unit) × Int × Int × (Int × Int × (List (List (Int × Int × Unit))) × (List Int) × Unit) × (List (Int × Int × Int × Int × Int × Unit)) × (List Int) × (List (Int × Int × Int × Int × Int × Unit)) × (List Int) → Option ((Int × Int × (List (List Int)) × (List Int) × Unit) × Bool)) → Int × (Int × Int × (List (List (Int × Int × Unit))) × (List Int) × Unit) × Int × Int × (Int × Int × (List (List (Int × Int × Unit))) × (List Int) × Unit) × (List (Int × Int × Int × Int × Int × Unit)) × (List Int) × (List (Int × Int × Int × Int × Int × Unit)) × (List Int) → Option ((Int × Int × (List (List Int)) × (List Int) × Unit) × Bool) :=
  fun rec x => det_Explore_L8_B letters most d d_1 l_2 d_2 d_3 r4 (fun next'_1 mark_1 t l_3 l_4 number_2 number_3 l_5 row => rec (next'_1, mark_1, t, l_3, l_4, number_2, number_3, l_5, row)) x.1 x.2.1 x.2.2.1 x.2.2.2.1 x.2.2.2.2.1 x.2.2.2.2.2.1 x.2.2.2.2.2.2.1 x.2.2.2.2.2.2.2.1 x.2.2.2.2.2.2.2.2
noncomputable def det_Explore_L8 (letters : Int) (most : Int) (d : Int) (d_1 : Int) (l_2 : (List (Int × Int × Int × Int × Int × Unit))) (d_2 : (List (List Int))) (d_3 : (List Int)) (r4 : (Int → (Int × Int × (List (List (Int × Int × Unit))) × (List Int) × Unit) → Int → (Int × Int × (List (List (Int × Int × Unit))) × (List Int) × Unit) → Int → Int → (List (Int × Int × Int × Int × Int × Unit)) → (List Int) → (List (Int × Int × Int × Int × Int × Unit)) → (List (List Int)) → (List Int) → Option ((Int × Int × (List (List Int)) × (List Int) × Unit) × Bool))) (next'_1 : Int) (mark_1 : (Int × Int × (List (List (Int × Int × Unit))) × (List Int) × Unit)) (t : Int) (l_3 : Int) (l_4 : (Int × Int × (List (List (Int × Int × Unit))) × (List Int) × Unit)) (number_2 : (List (Int × Int × Int × Int × Int × Unit))) (number_3 : (List Int)) (l_5 : (List (Int × Int × Int × Int × Int × Unit))) (row : (List Int)) : Option ((Int × Int × (List (List Int)) × (List Int) × Unit) × Bool) := LFix (det_Explore_L8_F letters most d d_1 l_2 d_2 d_3 r4 ) (next'_1, mark_1, t, l_3, l_4, number_2, number_3, l_5, row)
noncomputable def det_Explore_J21 (d_4 : Int) (d_5 : Int) (l_7 : (List (List Int))) (l_8 : (List Int)) : Option ((Int × Int × (List (List Int)) × (List Int) × Unit) × Bool) :=
  some ((d_4, (d_5, (l_7, (l_8, ())))), true)
noncomputable def det_Explore_L4_B (letters : Int) (most : Int) (r4 : Int → (Int × Int × (List (List (Int × Int × Unit))) × (List Int) × Unit) → Int → (Int × Int × (List (List (Int × Int × Unit))) × (List Int) × Unit) → Int → Int → (List (Int × Int × Int × Int × Int × Unit)) → (List Int) → (List (Int × Int × Int × Int × Int × Unit)) → (List (List Int)) → (List Int) → Option ((Int × Int × (List (List Int)) × (List Int) × Unit) × Bool)) (next' : Int) (mark : (Int × Int × (List (List (Int × Int × Unit))) × (List Int) × Unit)) (l : Int) (l_1 : (Int × Int × (List (List (Int × Int × Unit))) × (List Int) × Unit)) (d : Int) (d_1 : Int) (number : (List (Int × Int × Int × Int × Int × Unit))) (number_1 : (List Int)) (l_2 : (List (Int × Int × Int × Int × Int × Unit))) (d_2 : (List (List Int))) (d_3 : (List Int)) : Option ((Int × Int × (List (List Int)) × (List Int) × Unit) × Bool) :=
  if (decide ((d_2.length : Int) < (l_2.length : Int))) = true then
  G (0 ≤ (d_2.length : Int) ∧ (d_2.length : Int) < (l_2.length : Int)) (
  G (((d_2.length : Int)).toNat < l_2.length) (
  G (mkOK letters letters 8) (
  det_Explore_L8 letters most d d_1 l_2 d_2 d_3 r4 next' mark (0 : Int) l l_1 number number_1 l_2 (List.replicate (letters).toNat (0 : Int))))) else
  det_Explore_J21 d d_1 d_2 d_3
noncomputable def det_Explore_L4_F (letters : Int) (most : Int) : (Int × (Int × Int × (List (List (Int × Int × Unit))) × (List Int) × Unit) × Int × (Int × Int × (List (List (Int × Int × Unit))) × (List Int) × Unit) × Int × Int × (List (Int × Int × Int × Int × Int × Unit)) × (List Int) × (List (Int × Int × Int × Int × Int × Unit)) × (List (List Int)) × (List Int) → Option ((Int × Int × (List (List Int)) × (List Int) × Unit) × Bool)) → Int × (Int × Int × (List (List (Int × Int × Unit))) × (List Int) × Unit) × Int × (Int × Int × (List (List (Int × Int × Unit))) × (List Int) × Unit) × Int × Int × (List (Int × Int × Int × Int × Int × Unit)) × (List Int) × (List (Int × Int × Int × Int × Int × Unit)) × (List (List Int)) × (List Int) → Option ((Int × Int × (List (List Int)) × (List Int) × Unit) × Bool) :=
  fun rec x => det_Explore_L4_B letters most (fun next' mark l l_1 d d_1 number number_1 l_2 d_2 d_3 => rec (next', mark, l, l_1, d, d_1, number, number_1, l_2, d_2, d_3)) x.1 x.2.1 x.2.2.1 x.2.2.2.1 x.2.2.2.2.1 x.2.2.2.2.2.1 x.2.2.2.2.2.2.1 x.2.2.2.2.2.2.2.1 x.2.2.2.2.2.2.2.2.1 x.2.2.2.2.2.2.2.2.2.1 x.2.2.2.2.2.2.2.2.2.2
noncomputable def det_Explore_L4 (letters : Int) (most : Int) (next' : Int) (mark : (Int × Int × (List (List (Int × Int × Unit))) × (List Int) × Unit)) (l : Int) (l_1 : (Int × Int × (List (List (Int × Int × Unit))) × (List Int) × Unit)) (d : Int) (d_1 : Int) (number : (List (Int × Int × Int × Int × Int × Unit))) (number_1 : (List Int)) (l_2 : (List (Int × Int × Int × Int × Int × Unit))) (d_2 : (List (List Int))) (d_3 : (List Int)) : Option ((Int × Int × (List (List Int)) × (List Int) × Unit) × Bool) := LFix (det_Explore_L4_F letters most ) (next', mark, l, l_1, d, d_1, number, number_1, l_2, d_2, d_3)
noncomputable def det_Explore (letters : Int) (first : (Int × Int × Int × Int × Int × Unit)) (c : Int) (c_1 : (Int × Int × (List (List (Int × Int × Unit))) × (List Int) × Unit)) (most : Int) (c_2 : Int) (c_3 : (Int × Int × (List (List (Int × Int × Unit))) × (List Int) × Unit)) : Option ((Int × Int × (List (List Int)) × (List Int) × Unit) × Bool) :=
  det_Explore_L4 letters most c c_1 c_2 c_3 letters (0 : Int) (mputK ([] : List (Int × Int × Int × Int × Int × Unit)) (first.1, (first.2.1, (first.2.2.1, (first.2.2.2.1, (first.2.2.2.2.1, ())))))) (mputV ([] : List (Int × Int × Int × Int × Int × Unit)) ([] : List Int) (first.1, (first.2.1, (first.2.2.1, (first.2.2.2.1, (first.2.2.2.2.1, ()))))) (0 : Int)) ([(first.1, (first.2.1, (first.2.2.1, (first.2.2.2.1, (first.2.2.2.2.1, ())))))]) ([] : List (List Int)) ([] : List Int)
theorem det_Explore_J17_ch (r8 : Nat → Int → (Int × Int × (List (List (Int × Int × Unit))) × (List Int) × Unit) → Int → Int → (Int × Int × (List (List (Int × Int × Unit))) × (List Int) × Unit) → (List (Int × Int × Int × Int × Int × Unit)) → (List Int) → (List (Int × Int × Int × Int × Int × Unit)) → (List Int) → Option ((Int × Int × (List (List Int)) × (List Int) × Unit) × Bool)) (r8' : Int → (Int × Int × (List (List (Int × Int × Unit))) × (List Int) × Unit) → Int → Int → (Int × Int × (List (List (Int × Int × Unit))) × (List Int) × Unit) → (List (Int × Int × Int × Int × Int × Unit)) → (List Int) → (List (Int × Int × Int × Int × Int × Unit)) → (List Int) → Option ((Int × Int × (List (List Int)) × (List Int) × Unit) × Bool)) (h_r8 : ∀ a0 a1 a2 a3 a4 a5 a6 a7 a8, ChO (fun κ => r8 κ a0 a1 a2 a3 a4 a5 a6 a7 a8) (r8' a0 a1 a2 a3 a4 a5 a6 a7 a8)) (next'_1 : Int) (mark_1 : (Int × Int × (List (List (Int × Int × Unit))) × (List Int) × Unit)) (t : Int) (row : (List Int)) (y'_1 : Int) (y'_2 : (Int × Int × (List (List (Int × Int × Unit))) × (List Int) × Unit)) (n : Int) (number_4 : (List (Int × Int × Int × Int × Int × Unit))) (number_5 : (List Int)) (l_6 : (List (Int × Int × Int × Int × Int × Unit))) : ChO (fun κ => det_Explore_J17 next'_1 mark_1 t row (r8 κ) y'_1 y'_2 n number_4 number_5 l_6) (det_Explore_J17 next'_1 mark_1 t row r8' y'_1 y'_2 n number_4 number_5 l_6) := by
  unfold det_Explore_J17
  repeat' with_reducible first | exact ChO.const _ | exact h_r8 _ _ _ _ _ _ _ _ _ | apply ChO.ite | apply ChO.G | apply ChO.both | (apply ChO.bind; intro _)
theorem det_Explore_L8_B_ch (r4 : Nat → Int → (Int × Int × (List (List (Int × Int × Unit))) × (List Int) × Unit) → Int → (Int × Int × (List (List (Int × Int × Unit))) × (List Int) × Unit) → Int → Int → (List (Int × Int × Int × Int × Int × Unit)) → (List Int) → (List (Int × Int × Int × Int × Int × Unit)) → (List (List Int)) → (List Int) → Option ((Int × Int × (List (List Int)) × (List Int) × Unit) × Bool)) (r4' : Int → (Int × Int × (List (List (Int × Int × Unit))) × (List Int) × Unit) → Int → (Int × Int × (List (List (Int × Int × Unit))) × (List Int) × Unit) → Int → Int → (List (Int × Int × Int × Int × Int × Unit)) → (List Int) → (List (Int × Int × Int × Int × Int × Unit)) → (List (List Int)) → (List Int) → Option ((Int × Int × (List (List Int)) × (List Int) × Unit) × Bool)) (h_r4 : ∀ a0 a1 a2 a3 a4 a5 a6 a7 a8 a9 a10, ChO (fun κ => r4 κ a0 a1 a2 a3 a4 a5 a6 a7 a8 a9 a10) (r4' a0 a1 a2 a3 a4 a5 a6 a7 a8 a9 a10)) (r8 : Nat → Int → (Int × Int × (List (List (Int × Int × Unit))) × (List Int) × Unit) → Int → Int → (Int × Int × (List (List (Int × Int × Unit))) × (List Int) × Unit) → (List (Int × Int × Int × Int × Int × Unit)) → (List Int) → (List (Int × Int × Int × Int × Int × Unit)) → (List Int) → Option ((Int × Int × (List (List Int)) × (List Int) × Unit) × Bool)) (r8' : Int → (Int × Int × (List (List (Int × Int × Unit))) × (List Int) × Unit) → Int → Int → (Int × Int × (List (List (Int × Int × Unit))) × (List Int) × Unit) → (List (Int × Int × Int × Int × Int × Unit)) → (List Int) → (List (Int × Int × Int × Int × Int × Unit)) → (List Int) → Option ((Int × Int × (List (List Int)) × (List Int) × Unit) × Bool)) (h_r8 : ∀ a0 a1 a2 a3 a4 a5 a6 a7 a8, ChO (fun κ => r8 κ a0 a1 a2 a3 a4 a5 a6 a7 a8) (r8' a0 a1 a2 a3 a4 a5 a6 a7 a8)) (letters : Int) (most : Int) (d : Int) (d_1 : Int) (l_2 : (List (Int × Int × Int × Int × Int × Unit))) (d_2 : (List (List Int))) (d_3 : (List Int)) (next'_1 : Int) (mark_1 : (Int × Int × (List (List (Int × Int × Unit))) × (List Int) × Unit)) (t : Int) (l_3 : Int) (l_4 : (Int × Int × (List (List (Int × Int × Unit))) × (List Int) × Unit)) (number_2 : (List (Int × Int × Int × Int × Int × Unit))) (number_3 : (List Int)) (l_5 : (List (Int × Int × Int × Int × Int × Unit))) (row : (List Int)) : ChO (fun κ => det_Explore_L8_B letters most d d_1 l_2 d_2 d_3 (r4 κ) (r8 κ) next'_1 mark_1 t l_3 l_4 number_2 number_3 l_5 row) (det_Explore_L8_B letters most d d_1 l_2 d_2 d_3 r4' r8' next'_1 mark_1 t l_3 l_4 number_2 number_3 l_5 row) := by
  unfold det_Explore_L8_B
  repeat' with_reducible first | exact ChO.const _ | exact h_r4 _ _ _ _ _ _ _ _ _ _ _ | exact h_r8 _ _ _ _ _ _ _ _ _ | (apply det_Explore_J17_ch <;> assumption) | apply ChO.ite | apply ChO.G | apply ChO.both | (apply ChO.bind; intro _)
theorem det_Explore_L8_cn (r4 : Int → (Int × Int × (List (List (Int × Int × Unit))) × (List Int) × Unit) → Int → (Int × Int × (List (List (Int × Int × Unit))) × (List Int) × Unit) → Int → Int → (List (Int × Int × Int × Int × Int × Unit)) → (List Int) → (List (Int × Int × Int × Int × Int × Unit)) → (List (List Int)) → (List Int) → Option ((Int × Int × (List (List Int)) × (List Int) × Unit) × Bool)) (letters : Int) (most : Int) (d : Int) (d_1 : Int) (l_2 : (List (Int × Int × Int × Int × Int × Unit))) (d_2 : (List (List Int))) (d_3 : (List Int)) : Cn (det_Explore_L8_F letters most d d_1 l_2 d_2 d_3 r4) := fun g h hg x => det_Explore_L8_B_ch (fun _ => r4) r4 (fun _ _ _ _ _ _ _ _ _ _ _ => ChO.const _) (fun κ next'_1 mark_1 t l_3 l_4 number_2 number_3 l_5 row => g κ (next'_1, mark_1, t, l_3, l_4, number_2, number_3, l_5, row)) (fun next'_1 mark_1 t l_3 l_4 number_2 number_3 l_5 row => h (next'_1, mark_1, t, l_3, l_4, number_2, number_3, l_5, row)) (fun next'_1 mark_1 t l_3 l_4 number_2 number_3 l_5 row => hg (next'_1, mark_1, t, l_3, l_4, number_2, number_3, l_5, row)) letters most d d_1 l_2 d_2 d_3 x.1 x.2.1 x.2.2.1 x.2.2.2.1 x.2.2.2.2.1 x.2.2.2.2.2.1 x.2.2.2.2.2.2.1 x.2.2.2.2.2.2.2.1 x.2.2.2.2.2.2.2.2
theorem det_Explore_L8_eq (r4 : Int → (Int × Int × (List (List (Int × Int × Unit))) × (List Int) × Unit) → Int → (Int × Int × (List (List (Int × Int × Unit))) × (List Int) × Unit) → Int → Int → (List (Int × Int × Int × Int × Int × Unit)) → (List Int) → (List (Int × Int × Int × Int × Int × Unit)) → (List (List Int)) → (List Int) → Option ((Int × Int × (List (List Int)) × (List Int) × Unit) × Bool)) (letters : Int) (most : Int) (d : Int) (d_1 : Int) (l_2 : (List (Int × Int × Int × Int × Int × Unit))) (d_2 : (List (List Int))) (d_3 : (List Int)) (next'_1 : Int) (mark_1 : (Int × Int × (List (List (Int × Int × Unit))) × (List Int) × Unit)) (t : Int) (l_3 : Int) (l_4 : (Int × Int × (List (List (Int × Int × Unit))) × (List Int) × Unit)) (number_2 : (List (Int × Int × Int × Int × Int × Unit))) (number_3 : (List Int)) (l_5 : (List (Int × Int × Int × Int × Int × Unit))) (row : (List Int)) : det_Explore_L8 letters most d d_1 l_2 d_2 d_3 r4 next'_1 mark_1 t l_3 l_4 number_2 number_3 l_5 row = det_Explore_L8_B letters most d d_1 l_2 d_2 d_3 r4 (det_Explore_L8 letters most d d_1 l_2 d_2 d_3 r4) next'_1 mark_1 t l_3 l_4 number_2 number_3 l_5 row := LFix_eq (det_Explore_L8_cn r4 letters most d d_1 l_2 d_2 d_3) (next'_1, mark_1, t, l_3, l_4, number_2, number_3, l_5, row)
theorem det_Explore_L8_ch (r4 : Nat → Int → (Int × Int × (List (List (Int × Int × Unit))) × (List Int) × Unit) → Int → (Int × Int × (List (List (Int × Int × Unit))) × (List Int) × Unit) → Int → Int → (List (Int × Int × Int × Int × Int × Unit)) → (List Int) → (List (Int × Int × Int × Int × Int × Unit)) → (List (List Int)) → (List Int) → Option ((Int × Int × (List (List Int)) × (List Int) × Unit) × Bool)) (r4' : Int → (Int × Int × (List (List (Int × Int × Unit))) × (List Int) × Unit) → Int → (Int × Int × (List (List (Int × Int × Unit))) × (List Int) × Unit) → Int → Int → (List (Int × Int × Int × Int × Int × Unit)) → (List Int) → (List (Int × Int × Int × Int × Int × Unit)) → (List (List Int)) → (List Int) → Option ((Int × Int × (List (List Int)) × (List Int) × Unit) × Bool)) (h_r4 : ∀ a0 a1 a2 a3 a4 a5 a6 a7 a8 a9 a10, ChO (fun κ => r4 κ a0 a1 a2 a3 a4 a5 a6 a7 a8 a9 a10) (r4' a0 a1 a2 a3 a4 a5 a6 a7 a8 a9 a10)) (letters : Int) (most : Int) (d : Int) (d_1 : Int) (l_2 : (List (Int × Int × Int × Int × Int × Unit))) (d_2 : (List (List Int))) (d_3 : (List Int)) (next'_1 : Int) (mark_1 : (Int × Int × (List (List (Int × Int × Unit))) × (List Int) × Unit)) (t : Int) (l_3 : Int) (l_4 : (Int × Int × (List (List (Int × Int × Unit))) × (List Int) × Unit)) (number_2 : (List (Int × Int × Int × Int × Int × Unit))) (number_3 : (List Int)) (l_5 : (List (Int × Int × Int × Int × Int × Unit))) (row : (List Int)) : ChO (fun κ => det_Explore_L8 letters most d d_1 l_2 d_2 d_3 (r4 κ) next'_1 mark_1 t l_3 l_4 number_2 number_3 l_5 row) (det_Explore_L8 letters most d d_1 l_2 d_2 d_3 r4' next'_1 mark_1 t l_3 l_4 number_2 number_3 l_5 row) := by
  unfold det_Explore_L8
  exact LFix_ch (fun κ => (det_Explore_L8_cn (r4 κ) letters most d d_1 l_2 d_2 d_3).mono) (det_Explore_L8_cn r4' letters most d d_1 l_2 d_2 d_3).mono (fun g h hg x => det_Explore_L8_B_ch r4 r4' h_r4 (fun κ next'_1 mark_1 t l_3 l_4 number_2 number_3 l_5 row => g κ (next'_1, mark_1, t, l_3, l_4, number_2, number_3, l_5, row)) (fun next'_1 mark_1 t l_3 l_4 number_2 number_3 l_5 row => h (next'_1, mark_1, t, l_3, l_4, number_2, number_3, l_5, row)) (fun next'_1 mark_1 t l_3 l_4 number_2 number_3 l_5 row => hg (next'_1, mark_1, t, l_3, l_4, number_2, number_3, l_5, row)) letters most d d_1 l_2 d_2 d_3 x.1 x.2.1 x.2.2.1 x.2.2.2.1 x.2.2.2.2.1 x.2.2.2.2.2.1 x.2.2.2.2.2.2.1 x.2.2.2.2.2.2.2.1 x.2.2.2.2.2.2.2.2) _
theorem det_Explore_L4_B_ch (r4 : Nat → Int → (Int × Int × (List (List (Int × Int × Unit))) × (List Int) × Unit) → Int → (Int × Int × (List (List (Int × Int × Unit))) × (List Int) × Unit) → Int → Int → (List (Int × Int × Int × Int × Int × Unit)) → (List Int) → (List (Int × Int × Int × Int × Int × Unit)) → (List (List Int)) → (List Int) → Option ((Int × Int × (List (List Int)) × (List Int) × Unit) × Bool)) (r4' : Int → (Int × Int × (List (List (Int × Int × Unit))) × (List Int) × Unit) → Int → (Int × Int × (List (List (Int × Int × Unit))) × (List Int) × Unit) → Int → Int → (List (Int × Int × Int × Int × Int × Unit)) → (List Int) → (List (Int × Int × Int × Int × Int × Unit)) → (List (List Int)) → (List Int) → Option ((Int × Int × (List (List Int)) × (List Int) × Unit) × Bool)) (h_r4 : ∀ a0 a1 a2 a3 a4 a5 a6 a7 a8 a9 a10, ChO (fun κ => r4 κ a0 a1 a2 a3 a4 a5 a6 a7 a8 a9 a10) (r4' a0 a1 a2 a3 a4 a5 a6 a7 a8 a9 a10)) (letters : Int) (most : Int) (next' : Int) (mark : (Int × Int × (List (List (Int × Int × Unit))) × (List Int) × Unit)) (l : Int) (l_1 : (Int × Int × (List (List (Int × Int × Unit))) × (List Int) × Unit)) (d : Int) (d_1 : Int) (number : (List (Int × Int × Int × Int × Int × Unit))) (number_1 : (List Int)) (l_2 : (List (Int × Int × Int × Int × Int × Unit))) (d_2 : (List (List Int))) (d_3 : (List Int)) : ChO (fun κ => det_Explore_L4_B letters most (r4 κ) next' mark l l_1 d d_1 number number_1 l_2 d_2 d_3) (det_Explore_L4_B letters most r4' next' mark l l_1 d d_1 number number_1 l_2 d_2 d_3) := by
  unfold det_Explore_L4_B
  repeat' with_reducible first | exact ChO.const _ | exact h_r4 _ _ _ _ _ _ _ _ _ _ _ | (apply det_Explore_J17_ch <;> assumption) | (apply det_Explore_L8_ch <;> assumption) | apply ChO.ite | apply ChO.G | apply ChO.both | (apply ChO.bind; intro _)
theorem det_Explore_L4_cn  (letters : Int) (most : Int) : Cn (det_Explore_L4_F letters most) := fun g h hg x => det_Explore_L4_B_ch  (fun κ next' mark l l_1 d d_1 number number_1 l_2 d_2 d_3 => g κ (next', mark, l, l_1, d, d_1, number, number_1, l_2, d_2, d_3)) (fun next' mark l l_1 d d_1 number number_1 l_2 d_2 d_3 => h (next', mark, l, l_1, d, d_1, number, number_1, l_2, d_2, d_3)) (fun next' mark l l_1 d d_1 number number_1 l_2 d_2 d_3 => hg (next', mark, l, l_1, d, d_1, number, number_1, l_2, d_2, d_3)) letters most x.1 x.2.1 x.2.2.1 x.2.2.2.1 x.2.2.2.2.1 x.2.2.2.2.2.1 x.2.2.2.2.2.2.1 x.2.2.2.2.2.2.2.1 x.2.2.2.2.2.2.2.2.1 x.2.2.2.2.2.2.2.2.2.1 x.2.2.2.2.2.2.2.2.2.2
theorem det_Explore_L4_eq  (letters : Int) (most : Int) (next' : Int) (mark : (Int × Int × (List (List (Int × Int × Unit))) × (List Int) × Unit)) (l : Int) (l_1 : (Int × Int × (List (List (Int × Int × Unit))) × (List Int) × Unit)) (d : Int) (d_1 : Int) (number : (List (Int × Int × Int × Int × Int × Unit))) (number_1 : (List Int)) (l_2 : (List (Int × Int × Int × Int × Int × Unit))) (d_2 : (List (List Int))) (d_3 : (List Int)) : det_Explore_L4 letters most next' mark l l_1 d d_1 number number_1 l_2 d_2 d_3 = det_Explore_L4_B letters most (det_Explore_L4 letters most) next' mark l l_1 d d_1 number number_1 l_2 d_2 d_3 := LFix_eq (det_Explore_L4_cn letters most) (next', mark, l, l_1, d, d_1, number, number_1, l_2, d_2, d_3)

noncomputable def slices_Clone (s : (List Int)) : Option (List Int) :=
  if s.length = 0 then both [(.list (.int .i64))] (
  some ([])) (
  G (room ([] : List Int) s 8) (
  some (([] : List Int) ++ s))) else
  G (room ([] : List Int) s 8) (
  some (([] : List Int) ++ s))

noncomputable def det_Classes_J17 (class' : (List Int)) (t : Int) (next' : (List Int)) (r6 : (Int → (List (Int × (List UInt8) × Unit)) → (List Int) → (List Int) → Option (List Int))) (b : (List Int)) (number_2 : (List (Int × (List UInt8) × Unit))) (number_3 : (List Int)) : Option (List Int) :=
  G (0 ≤ t ∧ t < (next'.length : Int)) (
  G ((t).toNat < next'.length) (
  G (fits (t + (1 : Int))) (
  r6 (t + (1 : Int)) number_2 number_3 (next'.set (t).toNat (mget number_2 number_3 (ix class' t, (bstr b, ())) (0 : Int))))))
noncomputable def det_Classes_L10_B (d : (Int × Int × (List (List Int)) × (List Int) × Unit)) (class' : (List Int)) (t : Int) (number : (List (Int × (List UInt8) × Unit))) (number_1 : (List Int)) (next' : (List Int)) (r6 : (Int → (List (Int × (List UInt8) × Unit)) → (List Int) → (List Int) → Option (List Int))) (r10 : Int → (List Int) → Option (List Int)) (t_1 : Int) (b : (List Int)) : Option (List Int) :=
  if (decide (t_1 < ((ix d.2.2.1 t).length : Int))) = true then
  G (0 ≤ t_1 ∧ t_1 < ((ix d.2.2.1 t).length : Int)) (
  G (0 ≤ ix (ix d.2.2.1 t) t_1 ∧ ix (ix d.2.2.1 t) t_1 < (class'.length : Int)) (
  G ((ix (ix d.2.2.1 t) t_1).toNat < class'.length) (
  G (0 ≤ ix (ix d.2.2.1 t) t_1 ∧ ix (ix d.2.2.1 t) t_1 < (class'.length : Int)) (
  G ((ix (ix d.2.2.1 t) t_1).toNat < class'.length) (
  G (0 ≤ (8 : Int)) (
  G (room b ([IntKind.wrap .u8 (ix class' (ix (ix d.2.2.1 t) t_1)), IntKind.wrap .u8 (ishr .i64 (ix class' (ix (ix d.2.2.1 t) t_1)) (8 : Int))]) 1) (
  G (fits (t_1 + (1 : Int))) (
  r10 (t_1 + (1 : Int)) (b ++ ([IntKind.wrap .u8 (ix class' (ix (ix d.2.2.1 t) t_1)), IntKind.wrap .u8 (ishr .i64 (ix class' (ix (ix d.2.2.1 t) t_1)) (8 : Int))])))))))))) else
  G (0 ≤ t ∧ t < (class'.length : Int)) (
  G ((t).toNat < class'.length) (
  if (!(mhas number (ix class' t, (bstr b, ())))) = true then
  det_Classes_J17 class' t next' r6 b (mputK number (ix class' t, (bstr b, ()))) (mputV number number_1 (ix class' t, (bstr b, ())) (number.length : Int)) else
  det_Classes_J17 class' t next' r6 b number number_1))
noncomputable def det_Classes_L10_F (d : (Int × Int × (List (List Int)) × (List Int) × Unit)) (class' : (List Int)) (t : Int) (number : (List (Int × (List UInt8) × Unit))) (number_1 : (List Int)) (next' : (List Int)) (r6 : (Int → (List (Int × (List UInt8) × Unit)) → (List Int) → (List Int) → Option (List Int))) : (Int × (List Int) → Option (List Int)) → Int × (List Int) → Option (List Int) :=
  fun rec x => det_Classes_L10_B d class' t number number_1 next' r6 (fun t_1 b => rec (t_1, b)) x.1 x.2
noncomputable def det_Classes_L10 (d : (Int × Int × (List (List Int)) × (List Int) × Unit)) (class' : (List Int)) (t : Int) (number : (List (Int × (List UInt8) × Unit))) (number_1 : (List Int)) (next' : (List Int)) (r6 : (Int → (List (Int × (List UInt8) × Unit)) → (List Int) → (List Int) → Option (List Int))) (t_1 : Int) (b : (List Int)) : Option (List Int) := LFix (det_Classes_L10_F d class' t number number_1 next' r6 ) (t_1, b)
noncomputable def det_Classes_L6_B (d : (Int × Int × (List (List Int)) × (List Int) × Unit)) (count : Int) (class' : (List Int)) (r3 : (Int → (List Int) → Option (List Int))) (r6 : Int → (List (Int × (List UInt8) × Unit)) → (List Int) → (List Int) → Option (List Int)) (t : Int) (number : (List (Int × (List UInt8) × Unit))) (number_1 : (List Int)) (next' : (List Int)) : Option (List Int) :=
  if (decide (t < (d.2.2.1.length : Int))) = true then
  G (0 ≤ t ∧ t < (d.2.2.1.length : Int)) (
  det_Classes_L10 d class' t number number_1 next' r6 (0 : Int) ([])) else
  if (decide ((number.length : Int) = count)) = true then
  some next' else
  r3 (number.length : Int) next'
noncomputable def det_Classes_L6_F (d : (Int × Int × (List (List Int)) × (List Int) × Unit)) (count : Int) (class' : (List Int)) (r3 : (Int → (List Int) → Option (List Int))) : (Int × (List (Int × (List UInt8) × Unit)) × (List Int) × (List Int) → Option (List Int)) → Int × (List (Int × (List UInt8) × Unit)) × (List Int) × (List Int) → Option (List Int) :=
  fun rec x => det_Classes_L6_B d count class' r3 (fun t number number_1 next' => rec (t, number, number_1, next')) x.1 x.2.1 x.2.2.1 x.2.2.2
noncomputable def det_Classes_L6 (d : (Int × Int × (List (List Int)) × (List Int) × Unit)) (count : Int) (class' : (List Int)) (r3 : (Int → (List Int) → Option (List Int))) (t : Int) (number : (List (Int × (List UInt8) × Unit))) (number_1 : (List Int)) (next' : (List Int)) : Option (List Int) := LFix (det_Classes_L6_F d count class' r3 ) (t, number, number_1, next')
noncomputable def det_Classes_L3_B (d : (Int × Int × (List (List Int)) × (List Int) × Unit)) (r3 : Int → (List Int) → Option (List Int)) (count : Int) (class' : (List Int)) : Option (List Int) :=
  G (mkOK (class'.length : Int) (class'.length : Int) 8) (
  det_Classes_L6 d count class' r3 (0 : Int) ([] : List (Int × (List UInt8) × Unit)) ([] : List Int) (List.replicate ((class'.length : Int)).toNat (0 : Int)))
noncomputable def det_Classes_L3_F (d : (Int × Int × (List (List Int)) × (List Int) × Unit)) : (Int × (List Int) → Option (List Int)) → Int × (List Int) → Option (List Int) :=
  fun rec x => det_Classes_L3_B d (fun count class' => rec (count, class')) x.1 x.2
noncomputable def det_Classes_L3 (d : (Int × Int × (List (List Int)) × (List Int) × Unit)) (count : Int) (class' : (List Int)) : Option (List Int) := LFix (det_Classes_L3_F d ) (count, class')
noncomputable def det_Classes (d : (Int × Int × (List (List Int)) × (List Int) × Unit)) : Option (List Int) :=
  (slices_Clone d.2.2.2.1).bind (fun y' =>
  det_Classes_L3 d (0 : Int) y')
theorem det_Classes_J17_ch (r6 : Nat → Int → (List (Int × (List UInt8) × Unit)) → (List Int) → (List Int) → Option (List Int)) (r6' : Int → (List (Int × (List UInt8) × Unit)) → (List Int) → (List Int) → Option (List Int)) (h_r6 : ∀ a0 a1 a2 a3, ChO (fun κ => r6 κ a0 a1 a2 a3) (r6' a0 a1 a2 a3)) (class' : (List Int)) (t : Int) (next' : (List Int)) (b : (List Int)) (number_2 : (List (Int × (List UInt8) × Unit))) (number_3 : (List Int)) : ChO (fun κ => det_Classes_J17 class' t next' (r6 κ) b number_2 number_3) (det_Classes_J17 class' t next' r6' b number_2 number_3) := by
  unfold det_Classes_J17
  repeat' with_reducible first | exact ChO.const _ | exact h_r6 _ _ _ _ | apply ChO.ite | apply ChO.G | apply ChO.both | (apply ChO.bind; intro _)
theorem det_Classes_L10_B_ch (r6 : Nat → Int → (List (Int × (List UInt8) × Unit)) → (List Int) → (List Int) → Option (List Int)) (r6' : Int → (List (Int × (List UInt8) × Unit)) → (List Int) → (List Int) → Option (List Int)) (h_r6 : ∀ a0 a1 a2 a3, ChO (fun κ => r6 κ a0 a1 a2 a3) (r6' a0 a1 a2 a3)) (r10 : Nat → Int → (List Int) → Option (List Int)) (r10' : Int → (List Int) → Option (List Int)) (h_r10 : ∀ a0 a1, ChO (fun κ => r10 κ a0 a1) (r10' a0 a1)) (d : (Int × Int × (List (List Int)) × (List Int) × Unit)) (class' : (List Int)) (t : Int) (number : (List (Int × (List UInt8) × Unit))) (number_1 : (List Int)) (next' : (List Int)) (t_1 : Int) (b : (List Int)) : ChO (fun κ => det_Classes_L10_B d class' t number number_1 next' (r6 κ) (r10 κ) t_1 b) (det_Classes_L10_B d class' t number number_1 next' r6' r10' t_1 b) := by
  unfold det_Classes_L10_B
  repeat' with_reducible first | exact ChO.const _ | exact h_r6 _ _ _ _ | exact h_r10 _ _ | (apply det_Classes_J17_ch <;> assumption) | apply ChO.ite | apply ChO.G | apply ChO.both | (apply ChO.bind; intro _)
theorem det_Classes_L10_cn (r6 : Int → (List (Int × (List UInt8) × Unit)) → (List Int) → (List Int) → Option (List Int)) (d : (Int × Int × (List (List Int)) × (List Int) × Unit)) (class' : (List Int)) (t : Int) (number : (List (Int × (List UInt8) × Unit))) (number_1 : (List Int)) (next' : (List Int)) : Cn (det_Classes_L10_F d class' t number number_1 next' r6) := fun g h hg x => det_Classes_L10_B_ch (fun _ => r6) r6 (fun _ _ _ _ => ChO.const _) (fun κ t_1 b => g κ (t_1, b)) (fun t_1 b => h (t_1, b)) (fun t_1 b => hg (t_1, b)) d class' t number number_1 next' x.1 x.2
theorem det_Classes_L10_eq (r6 : Int → (List (Int × (List UInt8) × Unit)) → (List Int) → (List Int) → Option (List Int)) (d : (Int × Int × (List (List Int)) × (List Int) × Unit)) (class' : (List Int)) (t : Int) (number : (List (Int × (List UInt8) × Unit))) (number_1 : (List Int)) (next' : (List Int)) (t_1 : Int) (b : (List Int)) : det_Classes_L10 d class' t number number_1 next' r6 t_1 b = det_Classes_L10_B d class' t number number_1 next' r6 (det_Classes_L10 d class' t number number_1 next' r6) t_1 b := LFix_eq (det_Classes_L10_cn r6 d class' t number number_1 next') (t_1, b)
theorem det_Classes_L10_ch (r6 : Nat → Int → (List (Int × (List UInt8) × Unit)) → (List Int) → (List Int) → Option (List Int)) (r6' : Int → (List (Int × (List UInt8) × Unit)) → (List Int) → (List Int) → Option (List Int)) (h_r6 : ∀ a0 a1 a2 a3, ChO (fun κ => r6 κ a0 a1 a2 a3) (r6' a0 a1 a2 a3)) (d : (Int × Int × (List (List Int)) × (List Int) × Unit)) (class' : (List Int)) (t : Int) (number : (List (Int × (List UInt8) × Unit))) (number_1 : (List Int)) (next' : (List Int)) (t_1 : Int) (b : (List Int)) : ChO (fun κ => det_Classes_L10 d class' t number number_1 next' (r6 κ) t_1 b) (det_Classes_L10 d class' t number number_1 next' r6' t_1 b) := by
  unfold det_Classes_L10
  exact LFix_ch (fun κ => (det_Classes_L10_cn (r6 κ) d class' t number number_1 next').mono) (det_Classes_L10_cn r6' d class' t number number_1 next').mono (fun g h hg x => det_Classes_L10_B_ch r6 r6' h_r6 (fun κ t_1 b => g κ (t_1, b)) (fun t_1 b => h (t_1, b)) (fun t_1 b => hg (t_1, b)) d class' t number number_1 next' x.1 x.2) _
theorem det_Classes_L6_B_ch (r3 : Nat → Int → (List Int) → Option (List Int)) (r3' : Int → (List Int) → Option (List Int)) (h_r3 : ∀ a0 a1, ChO (fun κ => r3 κ a0 a1) (r3' a0 a1)) (r6 : Nat → Int → (List (Int × (List UInt8) × Unit)) → (List Int) → (List Int) → Option (List Int)) (r6' : Int → (List (Int × (List UInt8) × Unit)) → (List Int) → (List Int) → Option (List Int)) (h_r6 : ∀ a0 a1 a2 a3, ChO (fun κ => r6 κ a0 a1 a2 a3) (r6' a0 a1 a2 a3)) (d : (Int × Int × (List (List Int)) × (List Int) × Unit)) (count : Int) (class' : (List Int)) (t : Int) (number : (List (Int × (List UInt8) × Unit))) (number_1 : (List Int)) (next' : (List Int)) : ChO (fun κ => det_Classes_L6_B d count class' (r3 κ) (r6 κ) t number number_1 next') (det_Classes_L6_B d count class' r3' r6' t number number_1 next') := by
  unfold det_Classes_L6_B
  repeat' with_reducible first | exact ChO.const _ | exact h_r3 _ _ | exact h_r6 _ _ _ _ | (apply det_Classes_J17_ch <;> assumption) | (apply det_Classes_L10_ch <;> assumption) | apply ChO.ite | apply ChO.G | apply ChO.both | (apply ChO.bind; intro _)
theorem det_Classes_L6_cn (r3 : Int → (List Int) → Option (List Int)) (d : (Int × Int × (List (List Int)) × (List Int) × Unit)) (count : Int) (class' : (List Int)) : Cn (det_Classes_L6_F d count class' r3) := fun g h hg x => det_Classes_L6_B_ch (fun _ => r3) r3 (fun _ _ => ChO.const _) (fun κ t number number_1 next' => g κ (t, number, number_1, next')) (fun t number number_1 next' => h (t, number, number_1, next')) (fun t number number_1 next' => hg (t, number, number_1, next')) d count class' x.1 x.2.1 x.2.2.1 x.2.2.2
theorem det_Classes_L6_eq (r3 : Int → (List Int) → Option (List Int)) (d : (Int × Int × (List (List Int)) × (List Int) × Unit)) (count : Int) (class' : (List Int)) (t : Int) (number : (List (Int × (List UInt8) × Unit))) (number_1 : (List Int)) (next' : (List Int)) : det_Classes_L6 d count class' r3 t number number_1 next' = det_Classes_L6_B d count class' r3 (det_Classes_L6 d count class' r3) t number number_1 next' := LFix_eq (det_Classes_L6_cn r3 d count class') (t, number, number_1, next')
theorem det_Classes_L6_ch (r3 : Nat → Int → (List Int) → Option (List Int)) (r3' : Int → (List Int) → Option (List Int)) (h_r3 : ∀ a0 a1, ChO (fun κ => r3 κ a0 a1) (r3' a0 a1)) (d : (Int × Int × (List (List Int)) × (List Int) × Unit)) (count : Int) (class' : (List Int)) (t : Int) (number : (List (Int × (List UInt8) × Unit))) (number_1 : (List Int)) (next' : (List Int)) : ChO (fun κ => det_Classes_L6 d count class' (r3 κ) t number number_1 next') (det_Classes_L6 d count class' r3' t number number_1 next') := by
  unfold det_Classes_L6
  exact LFix_ch (fun κ => (det_Classes_L6_cn (r3 κ) d count class').mono) (det_Classes_L6_cn r3' d count class').mono (fun g h hg x => det_Classes_L6_B_ch r3 r3' h_r3 (fun κ t number number_1 next' => g κ (t, number, number_1, next')) (fun t number number_1 next' => h (t, number, number_1, next')) (fun t number number_1 next' => hg (t, number, number_1, next')) d count class' x.1 x.2.1 x.2.2.1 x.2.2.2) _
theorem det_Classes_L3_B_ch (r3 : Nat → Int → (List Int) → Option (List Int)) (r3' : Int → (List Int) → Option (List Int)) (h_r3 : ∀ a0 a1, ChO (fun κ => r3 κ a0 a1) (r3' a0 a1)) (d : (Int × Int × (List (List Int)) × (List Int) × Unit)) (count : Int) (class' : (List Int)) : ChO (fun κ => det_Classes_L3_B d (r3 κ) count class') (det_Classes_L3_B d r3' count class') := by
  unfold det_Classes_L3_B
  repeat' with_reducible first | exact ChO.const _ | exact h_r3 _ _ | (apply det_Classes_J17_ch <;> assumption) | (apply det_Classes_L10_ch <;> assumption) | (apply det_Classes_L6_ch <;> assumption) | apply ChO.ite | apply ChO.G | apply ChO.both | (apply ChO.bind; intro _)
theorem det_Classes_L3_cn  (d : (Int × Int × (List (List Int)) × (List Int) × Unit)) : Cn (det_Classes_L3_F d) := fun g h hg x => det_Classes_L3_B_ch  (fun κ count class' => g κ (count, class')) (fun count class' => h (count, class')) (fun count class' => hg (count, class')) d x.1 x.2
theorem det_Classes_L3_eq  (d : (Int × Int × (List (List Int)) × (List Int) × Unit)) (count : Int) (class' : (List Int)) : det_Classes_L3 d count class' = det_Classes_L3_B d (det_Classes_L3 d) count class' := LFix_eq (det_Classes_L3_cn d) (count, class')

noncomputable def det_Smallest_1 (c : Int) (a : Int) (t : (List Int)) (t_1 : (Int × Int × (List (List Int)) × (List Int) × Unit)) (t_2 : (List Int)) : Option (Int) :=
  G (0 ≤ c ∧ c < (t_2.length : Int)) (
  G (0 ≤ ix t_2 c ∧ ix t_2 c < (t_1.2.2.1.length : Int)) (
  G (0 ≤ a ∧ a < ((ix t_1.2.2.1 (ix t_2 c)).length : Int)) (
  G (0 ≤ ix (ix t_1.2.2.1 (ix t_2 c)) a ∧ ix (ix t_1.2.2.1 (ix t_2 c)) a < (t.length : Int)) (
  some (ix t (ix (ix t_1.2.2.1 (ix t_2 c)) a))))))

noncomputable def det_Smallest_2 (c : Int) (t : (Int × Int × (List (List Int)) × (List Int) × Unit)) (t_1 : (List Int)) : Option (Int) :=
  G (0 ≤ c ∧ c < (t_1.length : Int)) (
  G (0 ≤ ix t_1 c ∧ ix t_1 c < (t.2.2.2.1.length : Int)) (
  some (ix t.2.2.2.1 (ix t_1 c))))

noncomputable def det_Explore_1_J17 (t : Int) (row : (List Int)) (r8 : (Int → (List Int) → (List Int) → (List Int) → (List Int) → Option ((Int × Int × (List (List Int)) × (List Int) × Unit) × Bool))) (n : Int) (number_4 : (List Int)) (number_5 : (List Int)) (l_2 : (List Int)) : Option ((Int × Int × (List (List Int)) × (List Int) × Unit) × Bool) :=
  G (0 ≤ t ∧ t < (row.length : Int)) (
  G ((t).toNat < row.length) (
  G (fits (t + (1 : Int))) (
  r8 (t + (1 : Int)) number_4 number_5 l_2 (row.set (t).toNat n))))
noncomputable def det_Explore_1_L8_B (letters : Int) (c : (List Int)) (c_1 : (Int × Int × (List (List Int)) × (List Int) × Unit)) (c_2 : (List Int)) (c_3 : (Int × Int × (List (List Int)) × (List Int) × Unit)) (c_4 : (List Int)) (most : Int) (d : Int) (d_1 : Int) (l : (List Int)) (d_2 : (List (List Int))) (d_3 : (List Int)) (r4 : (Int → Int → (List Int) → (List Int) → (List Int) → (List (List Int)) → (List Int) → Option ((Int × Int × (List (List Int)) × (List Int) × Unit) × Bool))) (r8 : Int → (List Int) → (List Int) → (List Int) → (List Int) → Option ((Int × Int × (List (List Int)) × (List Int) × Unit) × Bool)) (t : Int) (number_2 : (List Int)) (number_3 : (List Int)) (l_1 : (List Int)) (row : (List Int)) : Option ((Int × Int × (List (List Int)) × (List Int) × Unit) × Bool) :=
  if (decide (t < letters)) = true then
  (det_Smallest_1 (ix l (d_2.length : Int)) t c c_1 c_2).bind (fun y' =>
  if (!(mhas number_2 y')) = true then
  if (decide ((l_1.length : Int) = most)) = true then
  some (((0 : Int), ((0 : Int), ([], ([], ())))), false) else
  G (room l_1 ([y']) 8) (
  det_Explore_1_J17 t row r8 (l_1.length : Int) (mputK number_2 y') (mputV number_2 number_3 y' (l_1.length : Int)) (l_1 ++ ([y']))) else
  det_Explore_1_J17 t row r8 (mget number_2 number_3 y' (0 : Int)) number_2 number_3 l_1) else
  G (room d_2 ([row]) 24) (
  (det_Smallest_2 (ix l (d_2.length : Int)) c_3 c_4).bind (fun y'_1 =>
  G (room d_3 ([y'_1]) 8) (
  r4 d d_1 number_2 number_3 l_1 (d_2 ++ ([row])) (d_3 ++ ([y'_1])))))
noncomputable def det_Explore_1_L8_F (letters : Int) (c : (List Int)) (c_1 : (Int × Int × (List (List Int)) × (List Int) × Unit)) (c_2 : (List Int)) (c_3 : (Int × Int × (List (List Int)) × (List Int) × Unit)) (c_4 : (List Int)) (most : Int) (d : Int) (d_1 : Int) (l : (List Int)) (d_2 : (List (List Int))) (d_3 : (List Int)) (r4 : (Int → Int → (List Int) → (List Int) → (List Int) → (List (List Int)) → (List Int) → Option ((Int × Int × (List (List Int)) × (List Int) × Unit) × Bool))) : (Int × (List Int) × (List Int) × (List Int) × (List Int) → Option ((Int × Int × (List (List Int)) × (List Int) × Unit) × Bool)) → Int × (List Int) × (List Int) × (List Int) × (List Int) → Option ((Int × Int × (List (List Int)) × (List Int) × Unit) × Bool) :=
  fun rec x => det_Explore_1_L8_B letters c c_1 c_2 c_3 c_4 most d d_1 l d_2 d_3 r4 (fun t number_2 number_3 l_1 row => rec (t, number_2, number_3, l_1, row)) x.1 x.2.1 x.2.2.1 x.2.2.2.1 x.2.2.2.2
noncomputable def det_Explore_1_L8 (letters : Int) (c : (List Int)) (c_1 : (Int × Int × (List (List Int)) × (List Int) × Unit)) (c_2 : (List Int)) (c_3 : (Int × Int × (List (List Int)) × (List Int) × Unit)) (c_4 : (List Int)) (most : Int) (d : Int) (d_1 : Int) (l : (List Int)) (d_2 : (List (List Int))) (d_3 : (List Int)) (r4 : (Int → Int → (List Int) → (List Int) → (List Int) → (List (List Int)) → (List Int) → Option ((Int × Int × (List (List Int)) × (List Int) × Unit) × Bool))) (t : Int) (number_2 : (List Int)) (number_3 : (List Int)) (l_1 : (List Int)) (row : (List Int)) : Option ((Int × Int × (List (List Int)) × (List Int) × Unit) × Bool) := LFix (det_Explore_1_L8_F letters c c_1 c_2 c_3 c_4 most d d_1 l d_2 d_3 r4 ) (t, number_2, number_3, l_1, row)
noncomputable def det_Explore_1_L4_B (letters : Int) (c : (List Int)) (c_1 : (Int × Int × (List (List Int)) × (List Int) × Unit)) (c_2 : (List Int)) (c_3 : (Int × Int × (List (List Int)) × (List Int) × Unit)) (c_4 : (List Int)) (most : Int) (r4 : Int → Int → (List Int) → (List Int) → (List Int) → (List (List Int)) → (List Int) → Option ((Int × Int × (List (List Int)) × (List Int) × Unit) × Bool)) (d : Int) (d_1 : Int) (number : (List Int)) (number_1 : (List Int)) (l : (List Int)) (d_2 : (List (List Int))) (d_3 : (List Int)) : Option ((Int × Int × (List (List Int)) × (List Int) × Unit) × Bool) :=
  if (decide ((d_2.length : Int) < (l.length : Int))) = true then
  G (0 ≤ (d_2.length : Int) ∧ (d_2.length : Int) < (l.length : Int)) (
  G (((d_2.length : Int)).toNat < l.length) (
  G (mkOK letters letters 8) (
  det_Explore_1_L8 letters c c_1 c_2 c_3 c_4 most d d_1 l d_2 d_3 r4 (0 : Int) number number_1 l (List.replicate (letters).toNat (0 : Int))))) else
  some ((d, (d_1, (d_2, (d_3, ())))), true)
noncomputable def det_Explore_1_L4_F (letters : Int) (c : (List Int)) (c_1 : (Int × Int × (List (List Int)) × (List Int) × Unit)) (c_2 : (List Int)) (c_3 : (Int × Int × (List (List Int)) × (List Int) × Unit)) (c_4 : (List Int)) (most : Int) : (Int × Int × (List Int) × (List Int) × (List Int) × (List (List Int)) × (List Int) → Option ((Int × Int × (List (List Int)) × (List Int) × Unit) × Bool)) → Int × Int × (List Int) × (List Int) × (List Int) × (List (List Int)) × (List Int) → Option ((Int × Int × (List (List Int)) × (List Int) × Unit) × Bool) :=
  fun rec x => det_Explore_1_L4_B letters c c_1 c_2 c_3 c_4 most (fun d d_1 number number_1 l d_2 d_3 => rec (d, d_1, number, number_1, l, d_2, d_3)) x.1 x.2.1 x.2.2.1 x.2.2.2.1 x.2.2.2.2.1 x.2.2.2.2.2.1 x.2.2.2.2.2.2
noncomputable def det_Explore_1_L4 (letters : Int) (c : (List Int)) (c_1 : (Int × Int × (List (List Int)) × (List Int) × Unit)) (c_2 : (List Int)) (c_3 : (Int × Int × (List (List Int)) × (List Int) × Unit)) (c_4 : (List Int)) (most : Int) (d : Int) (d_1 : Int) (number : (List Int)) (number_1 : (List Int)) (l : (List Int)) (d_2 : (List (List Int))) (d_3 : (List Int)) : Option ((Int × Int × (List (List Int)) × (List Int) × Unit) × Bool) := LFix (det_Explore_1_L4_F letters c c_1 c_2 c_3 c_4 most ) (d, d_1, number, number_1, l, d_2, d_3)
noncomputable def det_Explore_1 (letters : Int) (first : Int) (c : (List Int)) (c_1 : (Int × Int × (List (List Int)) × (List Int) × Unit)) (c_2 : (List Int)) (c_3 : (Int × Int × (List (List Int)) × (List Int) × Unit)) (c_4 : (List Int)) (most : Int) : Option ((Int × Int × (List (List Int)) × (List Int) × Unit) × Bool) :=
  det_Explore_1_L4 letters c c_1 c_2 c_3 c_4 most letters (0 : Int) (mputK ([] : List Int) first) (mputV ([] : List Int) ([] : List Int) first (0 : Int)) ([first]) ([] : List (List Int)) ([] : List Int)
theorem det_Explore_1_J17_ch (r8 : Nat → Int → (List Int) → (List Int) → (List Int) → (List Int) → Option ((Int × Int × (List (List Int)) × (List Int) × Unit) × Bool)) (r8' : Int → (List Int) → (List Int) → (List Int) → (List Int) → Option ((Int × Int × (List (List Int)) × (List Int) × Unit) × Bool)) (h_r8 : ∀ a0 a1 a2 a3 a4, ChO (fun κ => r8 κ a0 a1 a2 a3 a4) (r8' a0 a1 a2 a3 a4)) (t : Int) (row : (List Int)) (n : Int) (number_4 : (List Int)) (number_5 : (List Int)) (l_2 : (List Int)) : ChO (fun κ => det_Explore_1_J17 t row (r8 κ) n number_4 number_5 l_2) (det_Explore_1_J17 t row r8' n number_4 number_5 l_2) := by
  unfold det_Explore_1_J17
  repeat' with_reducible first | exact ChO.const _ | exact h_r8 _ _ _ _ _ | apply ChO.ite | apply ChO.G | apply ChO.both | (apply ChO.bind; intro _)
theorem det_Explore_1_L8_B_ch (r4 : Nat → Int → Int → (List Int) → (List Int) → (List Int) → (List (List Int)) → (List Int) → Option ((Int × Int × (List (List Int)) × (List Int) × Unit) × Bool)) (r4' : Int → Int → (List Int) → (List Int) → (List Int) → (List (List Int)) → (List Int) → Option ((Int × Int × (List (List Int)) × (List Int) × Unit) × Bool)) (h_r4 : ∀ a0 a1 a2 a3 a4 a5 a6, ChO (fun κ => r4 κ a0 a1 a2 a3 a4 a5 a6) (r4' a0 a1 a2 a3 a4 a5 a6)) (r8 : Nat → Int → (List Int) → (List Int) → (List Int) → (List Int) → Option ((Int × Int × (List (List Int)) × (List Int) × Unit) × Bool)) (r8' : Int → (List Int) → (List Int) → (List Int) → (List Int) → Option ((Int × Int × (List (List Int)) × (List Int) × Unit) × Bool)) (h_r8 : ∀ a0 a1 a2 a3 a4, ChO (fun κ => r8 κ a0 a1 a2 a3 a4) (r8' a0 a1 a2 a3 a4)) (letters : Int) (c : (List Int)) (c_1 : (Int × Int × (List (List Int)) × (List Int) × Unit)) (c_2 : (List Int)) (c_3 : (Int × Int × (List (List Int)) × (List Int) × Unit)) (c_4 : (List Int)) (most : Int) (d : Int) (d_1 : Int) (l : (List Int)) (d_2 : (List (List Int))) (d_3 : (List Int)) (t : Int) (number_2 : (List Int)) (number_3 : (List Int)) (l_1 : (List Int)) (row : (List Int)) : ChO (fun κ => det_Explore_1_L8_B letters c c_1 c_2 c_3 c_4 most d d_1 l d_2 d_3 (r4 κ) (r8 κ) t number_2 number_3 l_1 row) (det_Explore_1_L8_B letters c c_1 c_2 c_3 c_4 most d d_1 l d_2 d_3 r4' r8' t number_2 number_3 l_1 row) := by
  unfold det_Explore_1_L8_B
  repeat' with_reducible first | exact ChO.const _ | exact h_r4 _ _ _ _ _ _ _ | exact h_r8 _ _ _ _ _ | (apply det_Explore_1_J17_ch <;> assumption) | apply ChO.ite | apply ChO.G | apply ChO.both | (apply ChO.bind; intro _)
theorem det_Explore_1_L8_cn (r4 : Int → Int → (List Int) → (List Int) → (List Int) → (List (List Int)) → (List Int) → Option ((Int × Int × (List (List Int)) × (List Int) × Unit) × Bool)) (letters : Int) (c : (List Int)) (c_1 : (Int × Int × (List (List Int)) × (List Int) × Unit)) (c_2 : (List Int)) (c_3 : (Int × Int × (List (List Int)) × (List Int) × Unit)) (c_4 : (List Int)) (most : Int) (d : Int) (d_1 : Int) (l : (List Int)) (d_2 : (List (List Int))) (d_3 : (List Int)) : Cn (det_Explore_1_L8_F letters c c_1 c_2 c_3 c_4 most d d_1 l d_2 d_3 r4) := fun g h hg x => det_Explore_1_L8_B_ch (fun _ => r4) r4 (fun _ _ _ _ _ _ _ => ChO.const _) (fun κ t number_2 number_3 l_1 row => g κ (t, number_2, number_3, l_1, row)) (fun t number_2 number_3 l_1 row => h (t, number_2, number_3, l_1, row)) (fun t number_2 number_3 l_1 row => hg (t, number_2, number_3, l_1, row)) letters c c_1 c_2 c_3 c_4 most d d_1 l d_2 d_3 x.1 x.2.1 x.2.2.1 x.2.2.2.1 x.2.2.2.2
theorem det_Explore_1_L8_eq (r4 : Int → Int → (List Int) → (List Int) → (List Int) → (List (List Int)) → (List Int) → Option ((Int × Int × (List (List Int)) × (List Int) × Unit) × Bool)) (letters : Int) (c : (List Int)) (c_1 : (Int × Int × (List (List Int)) × (List Int) × Unit)) (c_2 : (List Int)) (c_3 : (Int × Int × (List (List Int)) × (List Int) × Unit)) (c_4 : (List Int)) (most : Int) (d : Int) (d_1 : Int) (l : (List Int)) (d_2 : (List (List Int))) (d_3 : (List Int)) (t : Int) (number_2 : (List Int)) (number_3 : (List Int)) (l_1 : (List Int)) (row : (List Int)) : det_Explore_1_L8 letters c c_1 c_2 c_3 c_4 most d d_1 l d_2 d_3 r4 t number_2 number_3 l_1 row = det_Explore_1_L8_B letters c c_1 c_2 c_3 c_4 most d d_1 l d_2 d_3 r4 (det_Explore_1_L8 letters c c_1 c_2 c_3 c_4 most d d_1 l d_2 d_3 r4) t number_2 number_3 l_1 row := LFix_eq (det_Explore_1_L8_cn r4 letters c c_1 c_2 c_3 c_4 most d d_1 l d_2 d_3) (t, number_2, number_3, l_1, row)
theorem det_Explore_1_L8_ch (r4 : Nat → Int → Int → (List Int) → (List Int) → (List Int) → (List (List Int)) → (List Int) → Option ((Int × Int × (List (List Int)) × (List Int) × Unit) × Bool)) (r4' : Int → Int → (List Int) → (List Int) → (List Int) → (List (List Int)) → (List Int) → Option ((Int × Int × (List (List Int)) × (List Int) × Unit) × Bool)) (h_r4 : ∀ a0 a1 a2 a3 a4 a5 a6, ChO (fun κ => r4 κ a0 a1 a2 a3 a4 a5 a6) (r4' a0 a1 a2 a3 a4 a5 a6)) (letters : Int) (c : (List Int)) (c_1 : (Int × Int × (List (List Int)) × (List Int) × Unit)) (c_2 : (List Int)) (c_3 : (Int × Int × (List (List Int)) × (List Int) × Unit)) (c_4 : (List Int)) (most : Int) (d : Int) (d_1 : Int) (l : (List Int)) (d_2 : (List (List Int))) (d_3 : (List Int)) (t : Int) (number_2 : (List Int)) (number_3 : (List Int)) (l_1 : (List Int)) (row : (List Int)) : ChO (fun κ => det_Explore_1_L8 letters c c_1 c_2 c_3 c_4 most d d_1 l d_2 d_3 (r4 κ) t number_2 number_3 l_1 row) (det_Explore_1_L8 letters c c_1 c_2 c_3 c_4 most d d_1 l d_2 d_3 r4' t number_2 number_3 l_1 row) := by
  unfold det_Explore_1_L8
  exact LFix_ch (fun κ => (det_Explore_1_L8_cn (r4 κ) letters c c_1 c_2 c_3 c_4 most d d_1 l d_2 d_3).mono) (det_Explore_1_L8_cn r4' letters c c_1 c_2 c_3 c_4 most d d_1 l d_2 d_3).mono (fun g h hg x => det_Explore_1_L8_B_ch r4 r4' h_r4 (fun κ t number_2 number_3 l_1 row => g κ (t, number_2, number_3, l_1, row)) (fun t number_2 number_3 l_1 row => h (t, number_2, number_3, l_1, row)) (fun t number_2 number_3 l_1 row => hg (t, number_2, number_3, l_1, row)) letters c c_1 c_2 c_3 c_4 most d d_1 l d_2 d_3 x.1 x.2.1 x.2.2.1 x.2.2.2.1 x.2.2.2.2) _
theorem det_Explore_1_L4_B_ch (r4 : Nat → Int → Int → (List Int) → (List Int) → (List Int) → (List (List Int)) → (List Int) → Option ((Int × Int × (List (List Int)) × (List Int) × Unit) × Bool)) (r4' : Int → Int → (List Int) → (List Int) → (List Int) → (List (List Int)) → (List Int) → Option ((Int × Int × (List (List Int)) × (List Int) × Unit) × Bool)) (h_r4 : ∀ a0 a1 a2 a3 a4 a5 a6, ChO (fun κ => r4 κ a0 a1 a2 a3 a4 a5 a6) (r4' a0 a1 a2 a3 a4 a5 a6)) (letters : Int) (c : (List Int)) (c_1 : (Int × Int × (List (List Int)) × (List Int) × Unit)) (c_2 : (List Int)) (c_3 : (Int × Int × (List (List Int)) × (List Int) × Unit)) (c_4 : (List Int)) (most : Int) (d : Int) (d_1 : Int) (number : (List Int)) (number_1 : (List Int)) (l : (List Int)) (d_2 : (List (List Int))) (d_3 : (List Int)) : ChO (fun κ => det_Explore_1_L4_B letters c c_1 c_2 c_3 c_4 most (r4 κ) d d_1 number number_1 l d_2 d_3) (det_Explore_1_L4_B letters c c_1 c_2 c_3 c_4 most r4' d d_1 number number_1 l d_2 d_3) := by
  unfold det_Explore_1_L4_B
  repeat' with_reducible first | exact ChO.const _ | exact h_r4 _ _ _ _ _ _ _ | (apply det_Explore_1_J17_ch <;> assumption) | (apply det_Explore_1_L8_ch <;> assumption) | apply ChO.ite | apply ChO.G | apply ChO.both | (apply ChO.bind; intro _)
theorem det_Explore_1_L4_cn  (letters : Int) (c : (List Int)) (c_1 : (Int × Int × (List (List Int)) × (List Int) × Unit)) (c_2 : (List Int)) (c_3 : (Int × Int × (List (List Int)) × (List Int) × Unit)) (c_4 : (List Int)) (most : Int) : Cn (det_Explore_1_L4_F letters c c_1 c_2 c_3 c_4 most) := fun g h hg x => det_Explore_1_L4_B_ch  (fun κ d d_1 number number_1 l d_2 d_3 => g κ (d, d_1, number, number_1, l, d_2, d_3)) (fun d d_1 number number_1 l d_2 d_3 => h (d, d_1, number, number_1, l, d_2, d_3)) (fun d d_1 number number_1 l d_2 d_3 => hg (d, d_1, number, number_1, l, d_2, d_3)) letters c c_1 c_2 c_3 c_4 most x.1 x.2.1 x.2.2.1 x.2.2.2.1 x.2.2.2.2.1 x.2.2.2.2.2.1 x.2.2.2.2.2.2
theorem det_Explore_1_L4_eq  (letters : Int) (c : (List Int)) (c_1 : (Int × Int × (List (List Int)) × (List Int) × Unit)) (c_2 : (List Int)) (c_3 : (Int × Int × (List (List Int)) × (List Int) × Unit)) (c_4 : (List Int)) (most : Int) (d : Int) (d_1 : Int) (number : (List Int)) (number_1 : (List Int)) (l : (List Int)) (d_2 : (List (List Int))) (d_3 : (List Int)) : det_Explore_1_L4 letters c c_1 c_2 c_3 c_4 most d d_1 number number_1 l d_2 d_3 = det_Explore_1_L4_B letters c c_1 c_2 c_3 c_4 most (det_Explore_1_L4 letters c c_1 c_2 c_3 c_4 most) d d_1 number number_1 l d_2 d_3 := LFix_eq (det_Explore_1_L4_cn letters c c_1 c_2 c_3 c_4 most) (d, d_1, number, number_1, l, d_2, d_3)

noncomputable def det_Smallest_J8 (out : Int) (out_1 : Int) (out_2 : (List (List Int))) (out_3 : (List Int)) : Option (Int × Int × (List (List Int)) × (List Int) × Unit) :=
  some (out, (out_1, (out_2, (out_3, ()))))
noncomputable def det_Smallest_L4_B (d : (Int × Int × (List (List Int)) × (List Int) × Unit)) (y' : (List Int)) (r4 : Int → (List Int) → Option (Int × Int × (List (List Int)) × (List Int) × Unit)) (t : Int) (l : (List Int)) : Option (Int × Int × (List (List Int)) × (List Int) × Unit) :=
  if (decide (t < (y'.length : Int))) = true then
  G (0 ≤ t ∧ t < (y'.length : Int)) (
  G ((t).toNat < y'.length) (
  G (0 ≤ ix y' t ∧ ix y' t < (l.length : Int)) (
  G ((ix y' t).toNat < l.length) (
  G (fits (t + (1 : Int))) (
  r4 (t + (1 : Int)) (l.set (ix y' t).toNat t)))))) else
  G (0 ≤ d.2.1 ∧ d.2.1 < (y'.length : Int)) (
  G ((d.2.1).toNat < y'.length) (
  G (fits ((y'.length : Int) + (1 : Int))) (
  both [(.pair (.int .i64) (.pair (.int .i64) (.pair (.list (.list (.int .i64))) (.pair (.list (.int .i64)) .unit))))] (
  (det_Explore_1 d.1 (ix y' d.2.1) y' (d.1, (d.2.1, (d.2.2.1, (d.2.2.2.1, ())))) l (d.1, (d.2.1, (d.2.2.1, (d.2.2.2.1, ())))) l ((y'.length : Int) + (1 : Int))).bind (fun y'_4 =>
  det_Smallest_J8 y'_4.1.1 y'_4.1.2.1 y'_4.1.2.2.1 y'_4.1.2.2.2.1)) (
  (det_Explore_1 d.1 (ix y' d.2.1) y' (d.1, (d.2.1, (d.2.2.1, (d.2.2.2.1, ())))) l (d.1, (d.2.1, (d.2.2.1, (d.2.2.2.1, ())))) l ((y'.length : Int) + (1 : Int))).bind (fun y'_8 =>
  det_Smallest_J8 y'_8.1.1 y'_8.1.2.1 y'_8.1.2.2.1 y'_8.1.2.2.2.1)))))
noncomputable def det_Smallest_L4_F (d : (Int × Int × (List (List Int)) × (List Int) × Unit)) (y' : (List Int)) : (Int × (List Int) → Option (Int × Int × (List (List Int)) × (List Int) × Unit)) → Int × (List Int) → Option (Int × Int × (List (List Int)) × (List Int) × Unit) :=
  fun rec x => det_Smallest_L4_B d y' (fun t l => rec (t, l)) x.1 x.2
noncomputable def det_Smallest_L4 (d : (Int × Int × (List (List Int)) × (List Int) × Unit)) (y' : (List Int)) (t : Int) (l : (List Int)) : Option (Int × Int × (List (List Int)) × (List Int) × Unit) := LFix (det_Smallest_L4_F d y' ) (t, l)
noncomputable def det_Smallest (d : (Int × Int × (List (List Int)) × (List Int) × Unit)) : Option (Int × Int × (List (List Int)) × (List Int) × Unit) :=
  (det_Classes (d.1, (d.2.1, (d.2.2.1, (d.2.2.2.1, ()))))).bind (fun y' =>
  G (mkOK (y'.length : Int) (y'.length : Int) 8) (
  det_Smallest_L4 d y' (0 : Int) (List.replicate ((y'.length : Int)).toNat (0 : Int))))
theorem det_Smallest_L4_B_ch (r4 : Nat → Int → (List Int) → Option (Int × Int × (List (List Int)) × (List Int) × Unit)) (r4' : Int → (List Int) → Option (Int × Int × (List (List Int)) × (List Int) × Unit)) (h_r4 : ∀ a0 a1, ChO (fun κ => r4 κ a0 a1) (r4' a0 a1)) (d : (Int × Int × (List (List Int)) × (List Int) × Unit)) (y' : (List Int)) (t : Int) (l : (List Int)) : ChO (fun κ => det_Smallest_L4_B d y' (r4 κ) t l) (det_Smallest_L4_B d y' r4' t l) := by
  unfold det_Smallest_L4_B
  repeat' with_reducible first | exact ChO.const _ | exact h_r4 _ _ | apply ChO.ite | apply ChO.G | apply ChO.both | (apply ChO.bind; intro _)
theorem det_Smallest_L4_cn  (d : (Int × Int × (List (List Int)) × (List Int) × Unit)) (y' : (List Int)) : Cn (det_Smallest_L4_F d y') := fun g h hg x => det_Smallest_L4_B_ch  (fun κ t l => g κ (t, l)) (fun t l => h (t, l)) (fun t l => hg (t, l)) d y' x.1 x.2
theorem det_Smallest_L4_eq  (d : (Int × Int × (List (List Int)) × (List Int) × Unit)) (y' : (List Int)) (t : Int) (l : (List Int)) : det_Smallest_L4 d y' t l = det_Smallest_L4_B d y' (det_Smallest_L4 d y') t l := LFix_eq (det_Smallest_L4_cn d y') (t, l)

noncomputable def two_Det_J12 (t_1 : Int) (r8 : (Int → Int → Int → Int → Int → Int → Option ((Int × Int × (List (List Int)) × (List Int) × Unit) × Int))) (begin_5 : Int) (begin_6 : Int) (begin_7 : Int) (begin_8 : Int) (begin_9 : Int) : Option ((Int × Int × (List (List Int)) × (List Int) × Unit) × Int) :=
  G (fits (t_1 + (1 : Int))) (
  r8 (t_1 + (1 : Int)) begin_5 begin_6 begin_7 begin_8 begin_9)
noncomputable def two_Det_L8_B (t : (Int × Int × (List (List (Int × Int × Unit))) × (List Int) × Unit)) (r8 : Int → Int → Int → Int → Int → Int → Option ((Int × Int × (List (List Int)) × (List Int) × Unit) × Int)) (t_1 : Int) (begin : Int) (begin_1 : Int) (begin_2 : Int) (begin_3 : Int) (begin_4 : Int) : Option ((Int × Int × (List (List Int)) × (List Int) × Unit) × Int) :=
  if (decide (t_1 < (4 : Int))) = true then
  G (0 ≤ t_1 ∧ t_1 < (5 : Int)) (
  G ((t_1).toNat < 5) (
  if (decide (t_1 < (t.2.2.1.length : Int))) = true then
  (two_Det_1 (([begin, begin_1, begin_2, begin_3, begin_4].set (t_1).toNat (-1 : Int)).getD 0 0, (([begin, begin_1, begin_2, begin_3, begin_4].set (t_1).toNat (-1 : Int)).getD 1 0, (([begin, begin_1, begin_2, begin_3, begin_4].set (t_1).toNat (-1 : Int)).getD 2 0, (([begin, begin_1, begin_2, begin_3, begin_4].set (t_1).toNat (-1 : Int)).getD 3 0, (([begin, begin_1, begin_2, begin_3, begin_4].set (t_1).toNat (-1 : Int)).getD 4 0, ()))))) true t_1 t.1 (t.2.2.1.length : Int) (t.1, (t.2.1, (t.2.2.1, (t.2.2.2.1, ()))))).bind (fun y'_1 =>
  G (0 ≤ t_1 ∧ t_1 < (5 : Int)) (
  G ((t_1).toNat < 5) (
  two_Det_J12 t_1 r8 (([([begin, begin_1, begin_2, begin_3, begin_4].set (t_1).toNat (-1 : Int)).getD 0 0, ([begin, begin_1, begin_2, begin_3, begin_4].set (t_1).toNat (-1 : Int)).getD 1 0, ([begin, begin_1, begin_2, begin_3, begin_4].set (t_1).toNat (-1 : Int)).getD 2 0, ([begin, begin_1, begin_2, begin_3, begin_4].set (t_1).toNat (-1 : Int)).getD 3 0, ([begin, begin_1, begin_2, begin_3, begin_4].set (t_1).toNat (-1 : Int)).getD 4 0].set (t_1).toNat y'_1).getD 0 0) (([([begin, begin_1, begin_2, begin_3, begin_4].set (t_1).toNat (-1 : Int)).getD 0 0, ([begin, begin_1, begin_2, begin_3, begin_4].set (t_1).toNat (-1 : Int)).getD 1 0, ([begin, begin_1, begin_2, begin_3, begin_4].set (t_1).toNat (-1 : Int)).getD 2 0, ([begin, begin_1, begin_2, begin_3, begin_4].set (t_1).toNat (-1 : Int)).getD 3 0, ([begin, begin_1, begin_2, begin_3, begin_4].set (t_1).toNat (-1 : Int)).getD 4 0].set (t_1).toNat y'_1).getD 1 0) (([([begin, begin_1, begin_2, begin_3, begin_4].set (t_1).toNat (-1 : Int)).getD 0 0, ([begin, begin_1, begin_2, begin_3, begin_4].set (t_1).toNat (-1 : Int)).getD 1 0, ([begin, begin_1, begin_2, begin_3, begin_4].set (t_1).toNat (-1 : Int)).getD 2 0, ([begin, begin_1, begin_2, begin_3, begin_4].set (t_1).toNat (-1 : Int)).getD 3 0, ([begin, begin_1, begin_2, begin_3, begin_4].set (t_1).toNat (-1 : Int)).getD 4 0].set (t_1).toNat y'_1).getD 2 0) (([([begin, begin_1, begin_2, begin_3, begin_4].set (t_1).toNat (-1 : Int)).getD 0 0, ([begin, begin_1, begin_2, begin_3, begin_4].set (t_1).toNat (-1 : Int)).getD 1 0, ([begin, begin_1, begin_2, begin_3, begin_4].set (t_1).toNat (-1 : Int)).getD 2 0, ([begin, begin_1, begin_2, begin_3, begin_4].set (t_1).toNat (-1 : Int)).getD 3 0, ([begin, begin_1, begin_2, begin_3, begin_4].set (t_1).toNat (-1 : Int)).getD 4 0].set (t_1).toNat y'_1).getD 3 0) (([([begin, begin_1, begin_2, begin_3, begin_4].set (t_1).toNat (-1 : Int)).getD 0 0, ([begin, begin_1, begin_2, begin_3, begin_4].set (t_1).toNat (-1 : Int)).getD 1 0, ([begin, begin_1, begin_2, begin_3, begin_4].set (t_1).toNat (-1 : Int)).getD 2 0, ([begin, begin_1, begin_2, begin_3, begin_4].set (t_1).toNat (-1 : Int)).getD 3 0, ([begin, begin_1, begin_2, begin_3, begin_4].set (t_1).toNat (-1 : Int)).getD 4 0].set (t_1).toNat y'_1).getD 4 0)))) else
  two_Det_J12 t_1 r8 (([begin, begin_1, begin_2, begin_3, begin_4].set (t_1).toNat (-1 : Int)).getD 0 0) (([begin, begin_1, begin_2, begin_3, begin_4].set (t_1).toNat (-1 : Int)).getD 1 0) (([begin, begin_1, begin_2, begin_3, begin_4].set (t_1).toNat (-1 : Int)).getD 2 0) (([begin, begin_1, begin_2, begin_3, begin_4].set (t_1).toNat (-1 : Int)).getD 3 0) (([begin, begin_1, begin_2, begin_3, begin_4].set (t_1).toNat (-1 : Int)).getD 4 0))) else
  (two_Det_1 (begin, (begin_1, (begin_2, (begin_3, (begin_4, ()))))) true t.2.1 t.1 (t.2.2.1.length : Int) (t.1, (t.2.1, (t.2.2.1, (t.2.2.2.1, ()))))).bind (fun y'_2 =>
  (det_Explore t.1 (begin, (begin_1, (begin_2, (begin_3, (y'_2, ()))))) (t.2.2.1.length : Int) (t.1, (t.2.1, (t.2.2.1, (t.2.2.2.1, ())))) (1048576 : Int) (t.2.2.1.length : Int) (t.1, (t.2.1, (t.2.2.1, (t.2.2.2.1, ()))))).bind (fun y'_7 =>
  (det_Smallest (y'_7.1.1, (y'_7.1.2.1, (y'_7.1.2.2.1, (y'_7.1.2.2.2.1, ()))))).bind (fun y'_6 =>
  if (!y'_7.2) = true then
  some (((0 : Int), ((0 : Int), ([], ([], ())))), (7 : Int)) else
  if (decide ((3000 : Int) < (y'_6.2.2.1.length : Int))) = true then
  some (((0 : Int), ((0 : Int), ([], ([], ())))), (7 : Int)) else
  some ((y'_6.1, (y'_6.2.1, (y'_6.2.2.1, (y'_6.2.2.2.1, ())))), (0 : Int)))))
noncomputable def two_Det_L8_F (t : (Int × Int × (List (List (Int × Int × Unit))) × (List Int) × Unit)) : (Int × Int × Int × Int × Int × Int → Option ((Int × Int × (List (List Int)) × (List Int) × Unit) × Int)) → Int × Int × Int × Int × Int × Int → Option ((Int × Int × (List (List Int)) × (List Int) × Unit) × Int) :=
  fun rec x => two_Det_L8_B t (fun t_1 begin begin_1 begin_2 begin_3 begin_4 => rec (t_1, begin, begin_1, begin_2, begin_3, begin_4)) x.1 x.2.1 x.2.2.1 x.2.2.2.1 x.2.2.2.2.1 x.2.2.2.2.2
noncomputable def two_Det_L8 (t : (Int × Int × (List (List (Int × Int × Unit))) × (List Int) × Unit)) (t_1 : Int) (begin : Int) (begin_1 : Int) (begin_2 : Int) (begin_3 : Int) (begin_4 : Int) : Option ((Int × Int × (List (List Int)) × (List Int) × Unit) × Int) := LFix (two_Det_L8_F t ) (t_1, begin, begin_1, begin_2, begin_3, begin_4)
noncomputable def two_Det (t : (Int × Int × (List (List (Int × Int × Unit))) × (List Int) × Unit)) : Option ((Int × Int × (List (List Int)) × (List Int) × Unit) × Int) :=
  (two_Check (t.1, (t.2.1, (t.2.2.1, (t.2.2.2.1, ()))))).bind (fun y' =>
  if (decide (¬ y' = (0 : Int))) = true then
  some (((0 : Int), ((0 : Int), ([], ([], ())))), y') else
  two_Det_L8 t (0 : Int) (0 : Int) (0 : Int) (0 : Int) (0 : Int) (0 : Int))
theorem two_Det_J12_ch (r8 : Nat → Int → Int → Int → Int → Int → Int → Option ((Int × Int × (List (List Int)) × (List Int) × Unit) × Int)) (r8' : Int → Int → Int → Int → Int → Int → Option ((Int × Int × (List (List Int)) × (List Int) × Unit) × Int)) (h_r8 : ∀ a0 a1 a2 a3 a4 a5, ChO (fun κ => r8 κ a0 a1 a2 a3 a4 a5) (r8' a0 a1 a2 a3 a4 a5)) (t_1 : Int) (begin_5 : Int) (begin_6 : Int) (begin_7 : Int) (begin_8 : Int) (begin_9 : Int) : ChO (fun κ => two_Det_J12 t_1 (r8 κ) begin_5 begin_6 begin_7 begin_8 begin_9) (two_Det_J12 t_1 r8' begin_5 begin_6 begin_7 begin_8 begin_9) := by
  unfold two_Det_J12
  repeat' with_reducible first | exact ChO.const _ | exact h_r8 _ _ _ _ _ _ | apply ChO.ite | apply ChO.G | apply ChO.both | (apply ChO.bind; intro _)
theorem two_Det_L8_B_ch (r8 : Nat → Int → Int → Int → Int → Int → Int → Option ((Int × Int × (List (List Int)) × (List Int) × Unit) × Int)) (r8' : Int → Int → Int → Int → Int → Int → Option ((Int × Int × (List (List Int)) × (List Int) × Unit) × Int)) (h_r8 : ∀ a0 a1 a2 a3 a4 a5, ChO (fun κ => r8 κ a0 a1 a2 a3 a4 a5) (r8' a0 a1 a2 a3 a4 a5)) (t : (Int × Int × (List (List (Int × Int × Unit))) × (List Int) × Unit)) (t_1 : Int) (begin : Int) (begin_1 : Int) (begin_2 : Int) (begin_3 : Int) (begin_4 : Int) : ChO (fun κ => two_Det_L8_B t (r8 κ) t_1 begin begin_1 begin_2 begin_3 begin_4) (two_Det_L8_B t r8' t_1 begin begin_1 begin_2 begin_3 begin_4) := by
  unfold two_Det_L8_B
  repeat' with_reducible first | exact ChO.const _ | exact h_r8 _ _ _ _ _ _ | (apply two_Det_J12_ch <;> assumption) | apply ChO.ite | apply ChO.G | apply ChO.both | (apply ChO.bind; intro _)
theorem two_Det_L8_cn  (t : (Int × Int × (List (List (Int × Int × Unit))) × (List Int) × Unit)) : Cn (two_Det_L8_F t) := fun g h hg x => two_Det_L8_B_ch  (fun κ t_1 begin begin_1 begin_2 begin_3 begin_4 => g κ (t_1, begin, begin_1, begin_2, begin_3, begin_4)) (fun t_1 begin begin_1 begin_2 begin_3 begin_4 => h (t_1, begin, begin_1, begin_2, begin_3, begin_4)) (fun t_1 begin begin_1 begin_2 begin_3 begin_4 => hg (t_1, begin, begin_1, begin_2, begin_3, begin_4)) t x.1 x.2.1 x.2.2.1 x.2.2.2.1 x.2.2.2.2.1 x.2.2.2.2.2
theorem two_Det_L8_eq  (t : (Int × Int × (List (List (Int × Int × Unit))) × (List Int) × Unit)) (t_1 : Int) (begin : Int) (begin_1 : Int) (begin_2 : Int) (begin_3 : Int) (begin_4 : Int) : two_Det_L8 t t_1 begin begin_1 begin_2 begin_3 begin_4 = two_Det_L8_B t (two_Det_L8 t) t_1 begin begin_1 begin_2 begin_3 begin_4 := LFix_eq (two_Det_L8_cn t) (t_1, begin, begin_1, begin_2, begin_3, begin_4)

noncomputable def law_noDet (d : (Int × Int × (List (List Int)) × (List Int) × Unit)) : Option (Bool) :=
  if (decide (d.1 = (0 : Int))) = true then
  if (decide (d.2.1 = (0 : Int))) = true then
  G (fits ((d.2.2.1.length : Int) + (d.2.2.2.1.length : Int))) (
  some (decide (((d.2.2.1.length : Int) + (d.2.2.2.1.length : Int)) = (0 : Int)))) else
  some false else
  some false

noncomputable def r25_Check_L19_B (t : (Int × Int × (List (List (Int × Int × Unit))) × (List Int) × Unit)) (q_1 : Int) (r16 : (Int → Option (Int))) (r19 : Int → Option (Int)) (a : Int) : Option (Int) :=
  G (fits (t.1 + (2 : Int))) (
  if (decide (a < (t.1 + (2 : Int)))) = true then
  G (0 ≤ q_1 ∧ q_1 < (t.2.2.1.length : Int)) (
  G (0 ≤ a ∧ a < ((ix t.2.2.1 q_1).length : Int)) (
  if (decide (((ix (ix t.2.2.1 q_1) a).1) < (0 : Int))) = true then
  some (2 : Int) else
  if (decide ((t.2.2.1.length : Int) ≤ ((ix (ix t.2.2.1 q_1) a).1))) = true then
  some (2 : Int) else
  if (decide (¬ (((ix (ix t.2.2.1 q_1) a).2).1) = (1 : Int))) = true then
  if (decide (¬ (((ix (ix t.2.2.1 q_1) a).2).1) = (-1 : Int))) = true then
  some (2 : Int) else
  G (fits (a + (1 : Int))) (
  r19 (a + (1 : Int))) else
  G (fits (a + (1 : Int))) (
  r19 (a + (1 : Int))))) else
  G (0 ≤ q_1 ∧ q_1 < (t.2.2.2.1.length : Int)) (
  if (decide (¬ (ix t.2.2.2.1 q_1) = (0 : Int))) = true then
  G (0 ≤ q_1 ∧ q_1 < (t.2.2.2.1.length : Int)) (
  if (decide (¬ (ix t.2.2.2.1 q_1) = (1 : Int))) = true then
  some (2 : Int) else
  G (fits (q_1 + (1 : Int))) (
  r16 (q_1 + (1 : Int)))) else
  G (fits (q_1 + (1 : Int))) (
  r16 (q_1 + (1 : Int)))))
noncomputable def r25_Check_L19_F (t : (Int × Int × (List (List (Int × Int × Unit))) × (List Int) × Unit)) (q_1 : Int) (r16 : (Int → Option (Int))) : (Int → Option (Int)) → Int → Option (Int) :=
  fun rec x => r25_Check_L19_B t q_1 r16 (fun a => rec a) x
noncomputable def r25_Check_L19 (t : (Int × Int × (List (List (Int × Int × Unit))) × (List Int) × Unit)) (q_1 : Int) (r16 : (Int → Option (Int))) (a : Int) : Option (Int) := LFix (r25_Check_L19_F t q_1 r16 ) a
noncomputable def r25_Check_L16_B (t : (Int × Int × (List (List (Int × Int × Unit))) × (List Int) × Unit)) (r16 : Int → Option (Int)) (q_1 : Int) : Option (Int) :=
  if (decide (q_1 < (t.2.2.1.length : Int))) = true then
  r25_Check_L19 t q_1 r16 (0 : Int) else
  some (0 : Int)
noncomputable def r25_Check_L16_F (t : (Int × Int × (List (List (Int × Int × Unit))) × (List Int) × Unit)) : (Int → Option (Int)) → Int → Option (Int) :=
  fun rec x => r25_Check_L16_B t (fun q_1 => rec q_1) x
noncomputable def r25_Check_L16 (t : (Int × Int × (List (List (Int × Int × Unit))) × (List Int) × Unit)) (q_1 : Int) : Option (Int) := LFix (r25_Check_L16_F t ) q_1
noncomputable def r25_Check_L9_B (t : (Int × Int × (List (List (Int × Int × Unit))) × (List Int) × Unit)) (r9 : Int → Option (Int)) (q : Int) : Option (Int) :=
  if (decide (q < (t.2.2.1.length : Int))) = true then
  G (0 ≤ q ∧ q < (t.2.2.1.length : Int)) (
  G (fits (t.1 + (2 : Int))) (
  if (decide (¬ ((ix t.2.2.1 q).length : Int) = (t.1 + (2 : Int)))) = true then
  some (3 : Int) else
  G (fits (q + (1 : Int))) (
  r9 (q + (1 : Int))))) else
  if (decide (t.2.1 < (0 : Int))) = true then
  some (2 : Int) else
  if (decide ((t.2.2.1.length : Int) ≤ t.2.1)) = true then
  some (2 : Int) else
  r25_Check_L16 t (0 : Int)
noncomputable def r25_Check_L9_F (t : (Int × Int × (List (List (Int × Int × Unit))) × (List Int) × Unit)) : (Int → Option (Int)) → Int → Option (Int) :=
  fun rec x => r25_Check_L9_B t (fun q => rec q) x
noncomputable def r25_Check_L9 (t : (Int × Int × (List (List (Int × Int × Unit))) × (List Int) × Unit)) (q : Int) : Option (Int) := LFix (r25_Check_L9_F t ) q
noncomputable def r25_Check (t : (Int × Int × (List (List (Int × Int × Unit))) × (List Int) × Unit)) : Option (Int) :=
  if (decide (t.1 < (1 : Int))) = true then
  some (2 : Int) else
  if (decide ((4 : Int) < t.1)) = true then
  some (2 : Int) else
  if (decide ((t.2.2.1.length : Int) < (1 : Int))) = true then
  some (1 : Int) else
  if (decide ((4 : Int) < (t.2.2.1.length : Int))) = true then
  some (1 : Int) else
  if (decide (¬ (t.2.2.2.1.length : Int) = (t.2.2.1.length : Int))) = true then
  some (3 : Int) else
  r25_Check_L9 t (0 : Int)
theorem r25_Check_L19_B_ch (r16 : Nat → Int → Option (Int)) (r16' : Int → Option (Int)) (h_r16 : ∀ a0, ChO (fun κ => r16 κ a0) (r16' a0)) (r19 : Nat → Int → Option (Int)) (r19' : Int → Option (Int)) (h_r19 : ∀ a0, ChO (fun κ => r19 κ a0) (r19' a0)) (t : (Int × Int × (List (List (Int × Int × Unit))) × (List Int) × Unit)) (q_1 : Int) (a : Int) : ChO (fun κ => r25_Check_L19_B t q_1 (r16 κ) (r19 κ) a) (r25_Check_L19_B t q_1 r16' r19' a) := by
  unfold r25_Check_L19_B
  repeat' with_reducible first | exact ChO.const _ | exact h_r16 _ | exact h_r19 _ | apply ChO.ite | apply ChO.G | apply ChO.both | (apply ChO.bind; intro _)
theorem r25_Check_L19_cn (r16 : Int → Option (Int)) (t : (Int × Int × (List (List (Int × Int × Unit))) × (List Int) × Unit)) (q_1 : Int) : Cn (r25_Check_L19_F t q_1 r16) := fun g h hg x => r25_Check_L19_B_ch (fun _ => r16) r16 (fun _ => ChO.const _) (fun κ a => g κ a) (fun a => h a) (fun a => hg a) t q_1 x
theorem r25_Check_L19_eq (r16 : Int → Option (Int)) (t : (Int × Int × (List (List (Int × Int × Unit))) × (List Int) × Unit)) (q_1 : Int) (a : Int) : r25_Check_L19 t q_1 r16 a = r25_Check_L19_B t q_1 r16 (r25_Check_L19 t q_1 r16) a := LFix_eq (r25_Check_L19_cn r16 t q_1) a
theorem r25_Check_L19_ch (r16 : Nat → Int → Option (Int)) (r16' : Int → Option (Int)) (h_r16 : ∀ a0, ChO (fun κ => r16 κ a0) (r16' a0)) (t : (Int × Int × (List (List (Int × Int × Unit))) × (List Int) × Unit)) (q_1 : Int) (a : Int) : ChO (fun κ => r25_Check_L19 t q_1 (r16 κ) a) (r25_Check_L19 t q_1 r16' a) := by
  unfold r25_Check_L19
  exact LFix_ch (fun κ => (r25_Check_L19_cn (r16 κ) t q_1).mono) (r25_Check_L19_cn r16' t q_1).mono (fun g h hg x => r25_Check_L19_B_ch r16 r16' h_r16 (fun κ a => g κ a) (fun a => h a) (fun a => hg a) t q_1 x) _
theorem r25_Check_L16_B_ch (r16 : Nat → Int → Option (Int)) (r16' : Int → Option (Int)) (h_r16 : ∀ a0, ChO (fun κ => r16 κ a0) (r16' a0)) (t : (Int × Int × (List (List (Int × Int × Unit))) × (List Int) × Unit)) (q_1 : Int) : ChO (fun κ => r25_Check_L16_B t (r16 κ) q_1) (r25_Check_L16_B t r16' q_1) := by
  unfold r25_Check_L16_B
  repeat' with_reducible first | exact ChO.const _ | exact h_r16 _ | (apply r25_Check_L19_ch <;> assumption) | apply ChO.ite | apply ChO.G | apply ChO.both | (apply ChO.bind; intro _)
theorem r25_Check_L16_cn  (t : (Int × Int × (List (List (Int × Int × Unit))) × (List Int) × Unit)) : Cn (r25_Check_L16_F t) := fun g h hg x => r25_Check_L16_B_ch  (fun κ q_1 => g κ q_1) (fun q_1 => h q_1) (fun q_1 => hg q_1) t x
theorem r25_Check_L16_eq  (t : (Int × Int × (List (List (Int × Int × Unit))) × (List Int) × Unit)) (q_1 : Int) : r25_Check_L16 t q_1 = r25_Check_L16_B t (r25_Check_L16 t) q_1 := LFix_eq (r25_Check_L16_cn t) q_1
theorem r25_Check_L9_B_ch (r9 : Nat → Int → Option (Int)) (r9' : Int → Option (Int)) (h_r9 : ∀ a0, ChO (fun κ => r9 κ a0) (r9' a0)) (t : (Int × Int × (List (List (Int × Int × Unit))) × (List Int) × Unit)) (q : Int) : ChO (fun κ => r25_Check_L9_B t (r9 κ) q) (r25_Check_L9_B t r9' q) := by
  unfold r25_Check_L9_B
  repeat' with_reducible first | exact ChO.const _ | exact h_r9 _ | (apply r25_Check_L19_ch <;> assumption) | apply ChO.ite | apply ChO.G | apply ChO.both | (apply ChO.bind; intro _)
theorem r25_Check_L9_cn  (t : (Int × Int × (List (List (Int × Int × Unit))) × (List Int) × Unit)) : Cn (r25_Check_L9_F t) := fun g h hg x => r25_Check_L9_B_ch  (fun κ q => g κ q) (fun q => h q) (fun q => hg q) t x
theorem r25_Check_L9_eq  (t : (Int × Int × (List (List (Int × Int × Unit))) × (List Int) × Unit)) (q : Int) : r25_Check_L9 t q = r25_Check_L9_B t (r25_Check_L9 t) q := LFix_eq (r25_Check_L9_cn t) q

noncomputable def r25_Behind_L2_B (t : (Int × Int × (List (List (Int × Int × Unit))) × (List Int) × Unit)) (ahead : (List Int)) (first : Bool) (letter : Int) (r2 : Int → Int → Option (Int)) (q_1 : Int) (n : Int) : Option (Int) :=
  if (decide (n ≤ (t.2.2.1.length : Int))) = true then
  G (0 ≤ q_1 ∧ q_1 < (t.2.2.1.length : Int)) (
  G (0 ≤ letter ∧ letter < ((ix t.2.2.1 q_1).length : Int)) (
  if (decide ((((ix (ix t.2.2.1 q_1) letter).2).1) = (1 : Int))) = true then
  some ((ix (ix t.2.2.1 q_1) letter).1) else
  if first = true then
  some (-1 : Int) else
  G (0 ≤ (ix (ix t.2.2.1 q_1) letter).1 ∧ (ix (ix t.2.2.1 q_1) letter).1 < (ahead.length : Int)) (
  if (decide ((ix ahead ((ix (ix t.2.2.1 q_1) letter).1)) < (0 : Int))) = true then
  some (-1 : Int) else
  G (0 ≤ (ix (ix t.2.2.1 q_1) letter).1 ∧ (ix (ix t.2.2.1 q_1) letter).1 < (ahead.length : Int)) (
  G (fits (n + (1 : Int))) (
  r2 (ix ahead ((ix (ix t.2.2.1 q_1) letter).1)) (n + (1 : Int))))))) else
  some (-1 : Int)
noncomputable def r25_Behind_L2_F (t : (Int × Int × (List (List (Int × Int × Unit))) × (List Int) × Unit)) (ahead : (List Int)) (first : Bool) (letter : Int) : (Int × Int → Option (Int)) → Int × Int → Option (Int) :=
  fun rec x => r25_Behind_L2_B t ahead first letter (fun q_1 n => rec (q_1, n)) x.1 x.2
noncomputable def r25_Behind_L2 (t : (Int × Int × (List (List (Int × Int × Unit))) × (List Int) × Unit)) (ahead : (List Int)) (first : Bool) (letter : Int) (q_1 : Int) (n : Int) : Option (Int) := LFix (r25_Behind_L2_F t ahead first letter ) (q_1, n)
noncomputable def r25_Behind (t : (Int × Int × (List (List (Int × Int × Unit))) × (List Int) × Unit)) (ahead : (List Int)) (first : Bool) (q : Int) (letter : Int) : Option (Int) :=
  r25_Behind_L2 t ahead first letter q (0 : Int)
theorem r25_Behind_L2_B_ch (r2 : Nat → Int → Int → Option (Int)) (r2' : Int → Int → Option (Int)) (h_r2 : ∀ a0 a1, ChO (fun κ => r2 κ a0 a1) (r2' a0 a1)) (t : (Int × Int × (List (List (Int × Int × Unit))) × (List Int) × Unit)) (ahead : (List Int)) (first : Bool) (letter : Int) (q_1 : Int) (n : Int) : ChO (fun κ => r25_Behind_L2_B t ahead first letter (r2 κ) q_1 n) (r25_Behind_L2_B t ahead first letter r2' q_1 n) := by
  unfold r25_Behind_L2_B
  repeat' with_reducible first | exact ChO.const _ | exact h_r2 _ _ | apply ChO.ite | apply ChO.G | apply ChO.both | (apply ChO.bind; intro _)
theorem r25_Behind_L2_cn  (t : (Int × Int × (List (List (Int × Int × Unit))) × (List Int) × Unit)) (ahead : (List Int)) (first : Bool) (letter : Int) : Cn (r25_Behind_L2_F t ahead first letter) := fun g h hg x => r25_Behind_L2_B_ch  (fun κ q_1 n => g κ (q_1, n)) (fun q_1 n => h (q_1, n)) (fun q_1 n => hg (q_1, n)) t ahead first letter x.1 x.2
theorem r25_Behind_L2_eq  (t : (Int × Int × (List (List (Int × Int × Unit))) × (List Int) × Unit)) (ahead : (List Int)) (first : Bool) (letter : Int) (q_1 : Int) (n : Int) : r25_Behind_L2 t ahead first letter q_1 n = r25_Behind_L2_B t ahead first letter (r25_Behind_L2 t ahead first letter) q_1 n := LFix_eq (r25_Behind_L2_cn t ahead first letter) (q_1, n)

noncomputable def r25_Table_L3_B (t : (Int × Int × (List (List (Int × Int × Unit))) × (List Int) × Unit)) (ahead : (List Int)) (first : Bool) (from' : Int) (letter : Int) (r3 : Int → (List Int) → Option (List Int)) (q : Int) (out : (List Int)) : Option (List Int) :=
  if (decide (q < (t.2.2.1.length : Int))) = true then
  (r25_Behind (t.1, (t.2.1, (t.2.2.1, (t.2.2.2.1, ())))) ahead first q letter).bind (fun y' =>
  G (room out ([y']) 8) (
  G (fits (q + (1 : Int))) (
  r3 (q + (1 : Int)) (out ++ ([y']))))) else
  if (decide ((0 : Int) ≤ from')) = true then
  (r25_Behind (t.1, (t.2.1, (t.2.2.1, (t.2.2.2.1, ())))) ahead first from' letter).bind (fun y'_1 =>
  G (room out ([y'_1]) 8) (
  some (out ++ ([y'_1])))) else
  G (room out ([(-1 : Int)]) 8) (
  some (out ++ ([(-1 : Int)])))
noncomputable def r25_Table_L3_F (t : (Int × Int × (List (List (Int × Int × Unit))) × (List Int) × Unit)) (ahead : (List Int)) (first : Bool) (from' : Int) (letter : Int) : (Int × (List Int) → Option (List Int)) → Int × (List Int) → Option (List Int) :=
  fun rec x => r25_Table_L3_B t ahead first from' letter (fun q out => rec (q, out)) x.1 x.2
noncomputable def r25_Table_L3 (t : (Int × Int × (List (List (Int × Int × Unit))) × (List Int) × Unit)) (ahead : (List Int)) (first : Bool) (from' : Int) (letter : Int) (q : Int) (out : (List Int)) : Option (List Int) := LFix (r25_Table_L3_F t ahead first from' letter ) (q, out)
noncomputable def r25_Table (t : (Int × Int × (List (List (Int × Int × Unit))) × (List Int) × Unit)) (ahead : (List Int)) (first : Bool) (from' : Int) (letter : Int) : Option (List Int) :=
  r25_Table_L3 t ahead first from' letter (0 : Int) ([])
theorem r25_Table_L3_B_ch (r3 : Nat → Int → (List Int) → Option (List Int)) (r3' : Int → (List Int) → Option (List Int)) (h_r3 : ∀ a0 a1, ChO (fun κ => r3 κ a0 a1) (r3' a0 a1)) (t : (Int × Int × (List (List (Int × Int × Unit))) × (List Int) × Unit)) (ahead : (List Int)) (first : Bool) (from' : Int) (letter : Int) (q : Int) (out : (List Int)) : ChO (fun κ => r25_Table_L3_B t ahead first from' letter (r3 κ) q out) (r25_Table_L3_B t ahead first from' letter r3' q out) := by
  unfold r25_Table_L3_B
  repeat' with_reducible first | exact ChO.const _ | exact h_r3 _ _ | apply ChO.ite | apply ChO.G | apply ChO.both | (apply ChO.bind; intro _)
theorem r25_Table_L3_cn  (t : (Int × Int × (List (List (Int × Int × Unit))) × (List Int) × Unit)) (ahead : (List Int)) (first : Bool) (from' : Int) (letter : Int) : Cn (r25_Table_L3_F t ahead first from' letter) := fun g h hg x => r25_Table_L3_B_ch  (fun κ q out => g κ (q, out)) (fun q out => h (q, out)) (fun q out => hg (q, out)) t ahead first from' letter x.1 x.2
theorem r25_Table_L3_eq  (t : (Int × Int × (List (List (Int × Int × Unit))) × (List Int) × Unit)) (ahead : (List Int)) (first : Bool) (from' : Int) (letter : Int) (q : Int) (out : (List Int)) : r25_Table_L3 t ahead first from' letter q out = r25_Table_L3_B t ahead first from' letter (r25_Table_L3 t ahead first from' letter) q out := LFix_eq (r25_Table_L3_cn t ahead first from' letter) (q, out)

noncomputable def r1_Words_L4_B (a : (List Int)) (b : (List Int)) (r4 : Int → Option (Bool)) (i : Int) : Option (Bool) :=
  if (decide (i < (a.length : Int))) = true then
  G (0 ≤ i ∧ i < (a.length : Int)) (
  G (0 ≤ i ∧ i < (b.length : Int)) (
  if (decide (¬ (ix a i) = (ix b i))) = true then
  some false else
  G (fits (i + (1 : Int))) (
  r4 (i + (1 : Int))))) else
  some true
noncomputable def r1_Words_L4_F (a : (List Int)) (b : (List Int)) : (Int → Option (Bool)) → Int → Option (Bool) :=
  fun rec x => r1_Words_L4_B a b (fun i => rec i) x
noncomputable def r1_Words_L4 (a : (List Int)) (b : (List Int)) (i : Int) : Option (Bool) := LFix (r1_Words_L4_F a b ) i
noncomputable def r1_Words (a : (List Int)) (b : (List Int)) : Option (Bool) :=
  if (decide (¬ (a.length : Int) = (b.length : Int))) = true then
  some false else
  r1_Words_L4 a b (0 : Int)
theorem r1_Words_L4_B_ch (r4 : Nat → Int → Option (Bool)) (r4' : Int → Option (Bool)) (h_r4 : ∀ a0, ChO (fun κ => r4 κ a0) (r4' a0)) (a : (List Int)) (b : (List Int)) (i : Int) : ChO (fun κ => r1_Words_L4_B a b (r4 κ) i) (r1_Words_L4_B a b r4' i) := by
  unfold r1_Words_L4_B
  repeat' with_reducible first | exact ChO.const _ | exact h_r4 _ | apply ChO.ite | apply ChO.G | apply ChO.both | (apply ChO.bind; intro _)
theorem r1_Words_L4_cn  (a : (List Int)) (b : (List Int)) : Cn (r1_Words_L4_F a b) := fun g h hg x => r1_Words_L4_B_ch  (fun κ i => g κ i) (fun i => h i) (fun i => hg i) a b x
theorem r1_Words_L4_eq  (a : (List Int)) (b : (List Int)) (i : Int) : r1_Words_L4 a b i = r1_Words_L4_B a b (r1_Words_L4 a b) i := LFix_eq (r1_Words_L4_cn a b) i

noncomputable def r3_Classes_J21 (q : Int) (next' : (List Int)) (r7 : (Int → Int → (List Int) → (List Int) → Option (List Int))) (k_1 : Int) (n_1 : Int) (first_1 : (List Int)) : Option (List Int) :=
  G (0 ≤ q ∧ q < (next'.length : Int)) (
  G ((q).toNat < next'.length) (
  G (fits (q + (1 : Int))) (
  r7 n_1 (q + (1 : Int)) (next'.set (q).toNat k_1) first_1)))
noncomputable def r3_Classes_J18 (n : Int) (q : Int) (next' : (List Int)) (first : (List Int)) (r7 : (Int → Int → (List Int) → (List Int) → Option (List Int))) (k_1 : Int) : Option (List Int) :=
  if (decide (k_1 = n)) = true then
  G (room first ([q]) 8) (
  G (fits (n + (1 : Int))) (
  r3_Classes_J21 q next' r7 k_1 (n + (1 : Int)) (first ++ ([q])))) else
  r3_Classes_J21 q next' r7 k_1 n first
noncomputable def r3_Classes_J15 (n : Int) (q : Int) (next' : (List Int)) (first : (List Int)) (r7 : (Int → Int → (List Int) → (List Int) → Option (List Int))) (k : Int) (r10 : (Int → Option (List Int))) (same_1 : Bool) : Option (List Int) :=
  if same_1 = true then
  r3_Classes_J18 n q next' first r7 k else
  G (fits (k + (1 : Int))) (
  r10 (k + (1 : Int)))
noncomputable def r3_Classes_L14_B (d : (Int × Int × (List (List Int)) × (List Int) × Unit)) (class' : (List Int)) (n : Int) (q : Int) (next' : (List Int)) (first : (List Int)) (r7 : (Int → Int → (List Int) → (List Int) → Option (List Int))) (k : Int) (r10 : (Int → Option (List Int))) (r14 : Bool → Int → Option (List Int)) (same : Bool) (a : Int) : Option (List Int) :=
  if (decide (a < d.1)) = true then
  if same = true then
  G (0 ≤ ix first k ∧ ix first k < (d.2.2.1.length : Int)) (
  G (0 ≤ a ∧ a < ((ix d.2.2.1 (ix first k)).length : Int)) (
  G (0 ≤ ix (ix d.2.2.1 (ix first k)) a ∧ ix (ix d.2.2.1 (ix first k)) a < (class'.length : Int)) (
  G ((ix (ix d.2.2.1 (ix first k)) a).toNat < class'.length) (
  G (0 ≤ q ∧ q < (d.2.2.1.length : Int)) (
  G (0 ≤ a ∧ a < ((ix d.2.2.1 q).length : Int)) (
  G (0 ≤ ix (ix d.2.2.1 q) a ∧ ix (ix d.2.2.1 q) a < (class'.length : Int)) (
  G ((ix (ix d.2.2.1 q) a).toNat < class'.length) (
  G (fits (a + (1 : Int))) (
  r14 (decide ((ix class' (ix (ix d.2.2.1 (ix first k)) a)) = (ix class' (ix (ix d.2.2.1 q) a)))) (a + (1 : Int))))))))))) else
  r3_Classes_J15 n q next' first r7 k r10 same else
  r3_Classes_J15 n q next' first r7 k r10 same
noncomputable def r3_Classes_L14_F (d : (Int × Int × (List (List Int)) × (List Int) × Unit)) (class' : (List Int)) (n : Int) (q : Int) (next' : (List Int)) (first : (List Int)) (r7 : (Int → Int → (List Int) → (List Int) → Option (List Int))) (k : Int) (r10 : (Int → Option (List Int))) : (Bool × Int → Option (List Int)) → Bool × Int → Option (List Int) :=
  fun rec x => r3_Classes_L14_B d class' n q next' first r7 k r10 (fun same a => rec (same, a)) x.1 x.2
noncomputable def r3_Classes_L14 (d : (Int × Int × (List (List Int)) × (List Int) × Unit)) (class' : (List Int)) (n : Int) (q : Int) (next' : (List Int)) (first : (List Int)) (r7 : (Int → Int → (List Int) → (List Int) → Option (List Int))) (k : Int) (r10 : (Int → Option (List Int))) (same : Bool) (a : Int) : Option (List Int) := LFix (r3_Classes_L14_F d class' n q next' first r7 k r10 ) (same, a)
noncomputable def r3_Classes_L10_B (d : (Int × Int × (List (List Int)) × (List Int) × Unit)) (class' : (List Int)) (n : Int) (q : Int) (next' : (List Int)) (first : (List Int)) (r7 : (Int → Int → (List Int) → (List Int) → Option (List Int))) (r10 : Int → Option (List Int)) (k : Int) : Option (List Int) :=
  if (decide (k < n)) = true then
  G (0 ≤ k ∧ k < (first.length : Int)) (
  G ((k).toNat < first.length) (
  G (0 ≤ ix first k ∧ ix first k < (class'.length : Int)) (
  G ((ix first k).toNat < class'.length) (
  G (0 ≤ q ∧ q < (class'.length : Int)) (
  G ((q).toNat < class'.length) (
  r3_Classes_L14 d class' n q next' first r7 k r10 (decide ((ix class' (ix first k)) = (ix class' q))) (0 : Int))))))) else
  r3_Classes_J18 n q next' first r7 k
noncomputable def r3_Classes_L10_F (d : (Int × Int × (List (List Int)) × (List Int) × Unit)) (class' : (List Int)) (n : Int) (q : Int) (next' : (List Int)) (first : (List Int)) (r7 : (Int → Int → (List Int) → (List Int) → Option (List Int))) : (Int → Option (List Int)) → Int → Option (List Int) :=
  fun rec x => r3_Classes_L10_B d class' n q next' first r7 (fun k => rec k) x
noncomputable def r3_Classes_L10 (d : (Int × Int × (List (List Int)) × (List Int) × Unit)) (class' : (List Int)) (n : Int) (q : Int) (next' : (List Int)) (first : (List Int)) (r7 : (Int → Int → (List Int) → (List Int) → Option (List Int))) (k : Int) : Option (List Int) := LFix (r3_Classes_L10_F d class' n q next' first r7 ) k
noncomputable def r3_Classes_L7_B (d : (Int × Int × (List (List Int)) × (List Int) × Unit)) (count : Int) (class' : (List Int)) (r3 : (Int → (List Int) → Option (List Int))) (r7 : Int → Int → (List Int) → (List Int) → Option (List Int)) (n : Int) (q : Int) (next' : (List Int)) (first : (List Int)) : Option (List Int) :=
  if (decide (q < (class'.length : Int))) = true then
  r3_Classes_L10 d class' n q next' first r7 (0 : Int) else
  if (decide (n = count)) = true then
  some next' else
  r3 n next'
noncomputable def r3_Classes_L7_F (d : (Int × Int × (List (List Int)) × (List Int) × Unit)) (count : Int) (class' : (List Int)) (r3 : (Int → (List Int) → Option (List Int))) : (Int × Int × (List Int) × (List Int) → Option (List Int)) → Int × Int × (List Int) × (List Int) → Option (List Int) :=
  fun rec x => r3_Classes_L7_B d count class' r3 (fun n q next' first => rec (n, q, next', first)) x.1 x.2.1 x.2.2.1 x.2.2.2
noncomputable def r3_Classes_L7 (d : (Int × Int × (List (List Int)) × (List Int) × Unit)) (count : Int) (class' : (List Int)) (r3 : (Int → (List Int) → Option (List Int))) (n : Int) (q : Int) (next' : (List Int)) (first : (List Int)) : Option (List Int) := LFix (r3_Classes_L7_F d count class' r3 ) (n, q, next', first)
noncomputable def r3_Classes_L3_B (d : (Int × Int × (List (List Int)) × (List Int) × Unit)) (r3 : Int → (List Int) → Option (List Int)) (count : Int) (class' : (List Int)) : Option (List Int) :=
  G (mkOK (class'.length : Int) (class'.length : Int) 8) (
  r3_Classes_L7 d count class' r3 (0 : Int) (0 : Int) (List.replicate ((class'.length : Int)).toNat (0 : Int)) ([]))
noncomputable def r3_Classes_L3_F (d : (Int × Int × (List (List Int)) × (List Int) × Unit)) : (Int × (List Int) → Option (List Int)) → Int × (List Int) → Option (List Int) :=
  fun rec x => r3_Classes_L3_B d (fun count class' => rec (count, class')) x.1 x.2
noncomputable def r3_Classes_L3 (d : (Int × Int × (List (List Int)) × (List Int) × Unit)) (count : Int) (class' : (List Int)) : Option (List Int) := LFix (r3_Classes_L3_F d ) (count, class')
noncomputable def r3_Classes (d : (Int × Int × (List (List Int)) × (List Int) × Unit)) : Option (List Int) :=
  G (room ([] : List Int) d.2.2.2.1 8) (
  r3_Classes_L3 d (0 : Int) (([] : List Int) ++ d.2.2.2.1))
theorem r3_Classes_J21_ch (r7 : Nat → Int → Int → (List Int) → (List Int) → Option (List Int)) (r7' : Int → Int → (List Int) → (List Int) → Option (List Int)) (h_r7 : ∀ a0 a1 a2 a3, ChO (fun κ => r7 κ a0 a1 a2 a3) (r7' a0 a1 a2 a3)) (q : Int) (next' : (List Int)) (k_1 : Int) (n_1 : Int) (first_1 : (List Int)) : ChO (fun κ => r3_Classes_J21 q next' (r7 κ) k_1 n_1 first_1) (r3_Classes_J21 q next' r7' k_1 n_1 first_1) := by
  unfold r3_Classes_J21
  repeat' with_reducible first | exact ChO.const _ | exact h_r7 _ _ _ _ | apply ChO.ite | apply ChO.G | apply ChO.both | (apply ChO.bind; intro _)
theorem r3_Classes_J18_ch (r7 : Nat → Int → Int → (List Int) → (List Int) → Option (List Int)) (r7' : Int → Int → (List Int) → (List Int) → Option (List Int)) (h_r7 : ∀ a0 a1 a2 a3, ChO (fun κ => r7 κ a0 a1 a2 a3) (r7' a0 a1 a2 a3)) (n : Int) (q : Int) (next' : (List Int)) (first : (List Int)) (k_1 : Int) : ChO (fun κ => r3_Classes_J18 n q next' first (r7 κ) k_1) (r3_Classes_J18 n q next' first r7' k_1) := by
  unfold r3_Classes_J18
  repeat' with_reducible first | exact ChO.const _ | exact h_r7 _ _ _ _ | (apply r3_Classes_J21_ch <;> assumption) | apply ChO.ite | apply ChO.G | apply ChO.both | (apply ChO.bind; intro _)
theorem r3_Classes_J15_ch (r7 : Nat → Int → Int → (List Int) → (List Int) → Option (List Int)) (r7' : Int → Int → (List Int) → (List Int) → Option (List Int)) (h_r7 : ∀ a0 a1 a2 a3, ChO (fun κ => r7 κ a0 a1 a2 a3) (r7' a0 a1 a2 a3)) (r10 : Nat → Int → Option (List Int)) (r10' : Int → Option (List Int)) (h_r10 : ∀ a0, ChO (fun κ => r10 κ a0) (r10' a0)) (n : Int) (q : Int) (next' : (List Int)) (first : (List Int)) (k : Int) (same_1 : Bool) : ChO (fun κ => r3_Classes_J15 n q next' first (r7 κ) k (r10 κ) same_1) (r3_Classes_J15 n q next' first r7' k r10' same_1) := by
  unfold r3_Classes_J15
  repeat' with_reducible first | exact ChO.const _ | exact h_r7 _ _ _ _ | exact h_r10 _ | (apply r3_Classes_J21_ch <;> assumption) | (apply r3_Classes_J18_ch <;> assumption) | apply ChO.ite | apply ChO.G | apply ChO.both | (apply ChO.bind; intro _)
theorem r3_Classes_L14_B_ch (r7 : Nat → Int → Int → (List Int) → (List Int) → Option (List Int)) (r7' : Int → Int → (List Int) → (List Int) → Option (List Int)) (h_r7 : ∀ a0 a1 a2 a3, ChO (fun κ => r7 κ a0 a1 a2 a3) (r7' a0 a1 a2 a3)) (r10 : Nat → Int → Option (List Int)) (r10' : Int → Option (List Int)) (h_r10 : ∀ a0, ChO (fun κ => r10 κ a0) (r10' a0)) (r14 : Nat → Bool → Int → Option (List Int)) (r14' : Bool → Int → Option (List Int)) (h_r14 : ∀ a0 a1, ChO (fun κ => r14 κ a0 a1) (r14' a0 a1)) (d : (Int × Int × (List (List Int)) × (List Int) × Unit)) (class' : (List Int)) (n : Int) (q : Int) (next' : (List Int)) (first : (List Int)) (k : Int) (same : Bool) (a : Int) : ChO (fun κ => r3_Classes_L14_B d class' n q next' first (r7 κ) k (r10 κ) (r14 κ) same a) (r3_Classes_L14_B d class' n q next' first r7' k r10' r14' same a) := by
  unfold r3_Classes_L14_B
  repeat' with_reducible first | exact ChO.const _ | exact h_r7 _ _ _ _ | exact h_r10 _ | exact h_r14 _ _ | (apply r3_Classes_J21_ch <;> assumption) | (apply r3_Classes_J18_ch <;> assumption) | (apply r3_Classes_J15_ch <;> assumption) | apply ChO.ite | apply ChO.G | apply ChO.both | (apply ChO.bind; intro _)
theorem r3_Classes_L14_cn (r7 : Int → Int → (List Int) → (List Int) → Option (List Int)) (r10 : Int → Option (List Int)) (d : (Int × Int × (List (List Int)) × (List Int) × Unit)) (class' : (List Int)) (n : Int) (q : Int) (next' : (List Int)) (first : (List Int)) (k : Int) : Cn (r3_Classes_L14_F d class' n q next' first r7 k r10) := fun g h hg x => r3_Classes_L14_B_ch (fun _ => r7) r7 (fun _ _ _ _ => ChO.const _) (fun _ => r10) r10 (fun _ => ChO.const _) (fun κ same a => g κ (same, a)) (fun same a => h (same, a)) (fun same a => hg (same, a)) d class' n q next' first k x.1 x.2
theorem r3_Classes_L14_eq (r7 : Int → Int → (List Int) → (List Int) → Option (List Int)) (r10 : Int → Option (List Int)) (d : (Int × Int × (List (List Int)) × (List Int) × Unit)) (class' : (List Int)) (n : Int) (q : Int) (next' : (List Int)) (first : (List Int)) (k : Int) (same : Bool) (a : Int) : r3_Classes_L14 d class' n q next' first r7 k r10 same a = r3_Classes_L14_B d class' n q next' first r7 k r10 (r3_Classes_L14 d class' n q next' first r7 k r10) same a := LFix_eq (r3_Classes_L14_cn r7 r10 d class' n q next' first k) (same, a)
theorem r3_Classes_L14_ch (r7 : Nat → Int → Int → (List Int) → (List Int) → Option (List Int)) (r7' : Int → Int → (List Int) → (List Int) → Option (List Int)) (h_r7 : ∀ a0 a1 a2 a3, ChO (fun κ => r7 κ a0 a1 a2 a3) (r7' a0 a1 a2 a3)) (r10 : Nat → Int → Option (List Int)) (r10' : Int → Option (List Int)) (h_r10 : ∀ a0, ChO (fun κ => r10 κ a0) (r10' a0)) (d : (Int × Int × (List (List Int)) × (List Int) × Unit)) (class' : (List Int)) (n : Int) (q : Int) (next' : (List Int)) (first : (List Int)) (k : Int) (same : Bool) (a : Int) : ChO (fun κ => r3_Classes_L14 d class' n q next' first (r7 κ) k (r10 κ) same a) (r3_Classes_L14 d class' n q next' first r7' k r10' same a) := by
  unfold r3_Classes_L14
  exact LFix_ch (fun κ => (r3_Classes_L14_cn (r7 κ) (r10 κ) d class' n q next' first k).mono) (r3_Classes_L14_cn r7' r10' d class' n q next' first k).mono (fun g h hg x => r3_Classes_L14_B_ch r7 r7' h_r7 r10 r10' h_r10 (fun κ same a => g κ (same, a)) (fun same a => h (same, a)) (fun same a => hg (same, a)) d class' n q next' first k x.1 x.2) _
theorem r3_Classes_L10_B_ch (r7 : Nat → Int → Int → (List Int) → (List Int) → Option (List Int)) (r7' : Int → Int → (List Int) → (List Int) → Option (List Int)) (h_r7 : ∀ a0 a1 a2 a3, ChO (fun κ => r7 κ a0 a1 a2 a3) (r7' a0 a1 a2 a3)) (r10 : Nat → Int → Option (List Int)) (r10' : Int → Option (List Int)) (h_r10 : ∀ a0, ChO (fun κ => r10 κ a0) (r10' a0)) (d : (Int × Int × (List (List Int)) × (List Int) × Unit)) (class' : (List Int)) (n : Int) (q : Int) (next' : (List Int)) (first : (List Int)) (k : Int) : ChO (fun κ => r3_Classes_L10_B d class' n q next' first (r7 κ) (r10 κ) k) (r3_Classes_L10_B d class' n q next' first r7' r10' k) := by
  unfold r3_Classes_L10_B
  repeat' with_reducible first | exact ChO.const _ | exact h_r7 _ _ _ _ | exact h_r10 _ | (apply r3_Classes_J21_ch <;> assumption) | (apply r3_Classes_J18_ch <;> assumption) | (apply r3_Classes_J15_ch <;> assumption) | (apply r3_Classes_L14_ch <;> assumption) | apply ChO.ite | apply ChO.G | apply ChO.both | (apply ChO.bind; intro _)
theorem r3_Classes_L10_cn (r7 : Int → Int → (List Int) → (List Int) → Option (List Int)) (d : (Int × Int × (List (List Int)) × (List Int) × Unit)) (class' : (List Int)) (n : Int) (q : Int) (next' : (List Int)) (first : (List Int)) : Cn (r3_Classes_L10_F d class' n q next' first r7) := fun g h hg x => r3_Classes_L10_B_ch (fun _ => r7) r7 (fun _ _ _ _ => ChO.const _) (fun κ k => g κ k) (fun k => h k) (fun k => hg k) d class' n q next' first x
theorem r3_Classes_L10_eq (r7 : Int → Int → (List Int) → (List Int) → Option (List Int)) (d : (Int × Int × (List (List Int)) × (List Int) × Unit)) (class' : (List Int)) (n : Int) (q : Int) (next' : (List Int)) (first : (List Int)) (k : Int) : r3_Classes_L10 d class' n q next' first r7 k = r3_Classes_L10_B d class' n q next' first r7 (r3_Classes_L10 d class' n q next' first r7) k := LFix_eq (r3_Classes_L10_cn r7 d class' n q next' first) k
theorem r3_Classes_L10_ch (r7 : Nat → Int → Int → (List Int) → (List Int) → Option (List Int)) (r7' : Int → Int → (List Int) → (List Int) → Option (List Int)) (h_r7 : ∀ a0 a1 a2 a3, ChO (fun κ => r7 κ a0 a1 a2 a3) (r7' a0 a1 a2 a3)) (d : (Int × Int × (List (List Int)) × (List Int) × Unit)) (class' : (List Int)) (n : Int) (q : Int) (next' : (List Int)) (first : (List Int)) (k : Int) : ChO (fun κ => r3_Classes_L10 d class' n q next' first (r7 κ) k) (r3_Classes_L10 d class' n q next' first r7' k) := by
  unfold r3_Classes_L10
  exact LFix_ch (fun κ => (r3_Classes_L10_cn (r7 κ) d class' n q next' first).mono) (r3_Classes_L10_cn r7' d class' n q next' first).mono (fun g h hg x => r3_Classes_L10_B_ch r7 r7' h_r7 (fun κ k => g κ k) (fun k => h k) (fun k => hg k) d class' n q next' first x) _
theorem r3_Classes_L7_B_ch (r3 : Nat → Int → (List Int) → Option (List Int)) (r3' : Int → (List Int) → Option (List Int)) (h_r3 : ∀ a0 a1, ChO (fun κ => r3 κ a0 a1) (r3' a0 a1)) (r7 : Nat → Int → Int → (List Int) → (List Int) → Option (List Int)) (r7' : Int → Int → (List Int) → (List Int) → Option (List Int)) (h_r7 : ∀ a0 a1 a2 a3, ChO (fun κ => r7 κ a0 a1 a2 a3) (r7' a0 a1 a2 a3)) (d : (Int × Int × (List (List Int)) × (List Int) × Unit)) (count : Int) (class' : (List Int)) (n : Int) (q : Int) (next' : (List Int)) (first : (List Int)) : ChO (fun κ => r3_Classes_L7_B d count class' (r3 κ) (r7 κ) n q next' first) (r3_Classes_L7_B d count class' r3' r7' n q next' first) := by
  unfold r3_Classes_L7_B
  repeat' with_reducible first | exact ChO.const _ | exact h_r3 _ _ | exact h_r7 _ _ _ _ | (apply r3_Classes_J21_ch <;> assumption) | (apply r3_Classes_J18_ch <;> assumption) | (apply r3_Classes_J15_ch <;> assumption) | (apply r3_Classes_L14_ch <;> assumption) | (apply r3_Classes_L10_ch <;> assumption) | apply ChO.ite | apply ChO.G | apply ChO.both | (apply ChO.bind; intro _)
theorem r3_Classes_L7_cn (r3 : Int → (List Int) → Option (List Int)) (d : (Int × Int × (List (List Int)) × (List Int) × Unit)) (count : Int) (class' : (List Int)) : Cn (r3_Classes_L7_F d count class' r3) := fun g h hg x => r3_Classes_L7_B_ch (fun _ => r3) r3 (fun _ _ => ChO.const _) (fun κ n q next' first => g κ (n, q, next', first)) (fun n q next' first => h (n, q, next', first)) (fun n q next' first => hg (n, q, next', first)) d count class' x.1 x.2.1 x.2.2.1 x.2.2.2
theorem r3_Classes_L7_eq (r3 : Int → (List Int) → Option (List Int)) (d : (Int × Int × (List (List Int)) × (List Int) × Unit)) (count : Int) (class' : (List Int)) (n : Int) (q : Int) (next' : (List Int)) (first : (List Int)) : r3_Classes_L7 d count class' r3 n q next' first = r3_Classes_L7_B d count class' r3 (r3_Classes_L7 d count class' r3) n q next' first := LFix_eq (r3_Classes_L7_cn r3 d count class') (n, q, next', first)
theorem r3_Classes_L7_ch (r3 : Nat → Int → (List Int) → Option (List Int)) (r3' : Int → (List Int) → Option (List Int)) (h_r3 : ∀ a0 a1, ChO (fun κ => r3 κ a0 a1) (r3' a0 a1)) (d : (Int × Int × (List (List Int)) × (List Int) × Unit)) (count : Int) (class' : (List Int)) (n : Int) (q : Int) (next' : (List Int)) (first : (List Int)) : ChO (fun κ => r3_Classes_L7 d count class' (r3 κ) n q next' first) (r3_Classes_L7 d count class' r3' n q next' first) := by
  unfold r3_Classes_L7
  exact LFix_ch (fun κ => (r3_Classes_L7_cn (r3 κ) d count class').mono) (r3_Classes_L7_cn r3' d count class').mono (fun g h hg x => r3_Classes_L7_B_ch r3 r3' h_r3 (fun κ n q next' first => g κ (n, q, next', first)) (fun n q next' first => h (n, q, next', first)) (fun n q next' first => hg (n, q, next', first)) d count class' x.1 x.2.1 x.2.2.1 x.2.2.2) _
theorem r3_Classes_L3_B_ch (r3 : Nat → Int → (List Int) → Option (List Int)) (r3' : Int → (List Int) → Option (List Int)) (h_r3 : ∀ a0 a1, ChO (fun κ => r3 κ a0 a1) (r3' a0 a1)) (d : (Int × Int × (List (List Int)) × (List Int) × Unit)) (count : Int) (class' : (List Int)) : ChO (fun κ => r3_Classes_L3_B d (r3 κ) count class') (r3_Classes_L3_B d r3' count class') := by
  unfold r3_Classes_L3_B
  repeat' with_reducible first | exact ChO.const _ | exact h_r3 _ _ | (apply r3_Classes_J21_ch <;> assumption) | (apply r3_Classes_J18_ch <;> assumption) | (apply r3_Classes_J15_ch <;> assumption) | (apply r3_Classes_L14_ch <;> assumption) | (apply r3_Classes_L10_ch <;> assumption) | (apply r3_Classes_L7_ch <;> assumption) | apply ChO.ite | apply ChO.G | apply ChO.both | (apply ChO.bind; intro _)
theorem r3_Classes_L3_cn  (d : (Int × Int × (List (List Int)) × (List Int) × Unit)) : Cn (r3_Classes_L3_F d) := fun g h hg x => r3_Classes_L3_B_ch  (fun κ count class' => g κ (count, class')) (fun count class' => h (count, class')) (fun count class' => hg (count, class')) d x.1 x.2
theorem r3_Classes_L3_eq  (d : (Int × Int × (List (List Int)) × (List Int) × Unit)) (count : Int) (class' : (List Int)) : r3_Classes_L3 d count class' = r3_Classes_L3_B d (r3_Classes_L3 d) count class' := LFix_eq (r3_Classes_L3_cn d) (count, class')

noncomputable def r3_Least_J20 (d : (Int × Int × (List (List Int)) × (List Int) × Unit)) (y' : (List Int)) (i_1 : Int) (a : Int) (row_1 : (List Int)) (next' : (List Int)) (r15 : (Int → (List Int) → (List Int) → (List Int) → Option (Int × Int × (List (List Int)) × (List Int) × Unit))) (number_3 : (List Int)) (row_2 : (List Int)) : Option (Int × Int × (List (List Int)) × (List Int) × Unit) :=
  G (0 ≤ ix (ix d.2.2.1 (ix row_1 i_1)) a ∧ ix (ix d.2.2.1 (ix row_1 i_1)) a < (y'.length : Int)) (
  G ((ix (ix d.2.2.1 (ix row_1 i_1)) a).toNat < y'.length) (
  G (0 ≤ ix y' (ix (ix d.2.2.1 (ix row_1 i_1)) a) ∧ ix y' (ix (ix d.2.2.1 (ix row_1 i_1)) a) < (number_3.length : Int)) (
  G ((ix y' (ix (ix d.2.2.1 (ix row_1 i_1)) a)).toNat < number_3.length) (
  G (0 ≤ a ∧ a < (next'.length : Int)) (
  G ((a).toNat < next'.length) (
  G (fits (a + (1 : Int))) (
  r15 (a + (1 : Int)) number_3 row_2 (next'.set (a).toNat (ix number_3 (ix y' (ix (ix d.2.2.1 (ix row_1 i_1)) a)))))))))))
noncomputable def r3_Least_L15_B (d : (Int × Int × (List (List Int)) × (List Int) × Unit)) (y' : (List Int)) (i_1 : Int) (out : Int) (out_1 : Int) (out_2 : (List (List Int))) (out_3 : (List Int)) (r11 : (Int → (List Int) → (List Int) → Int → Int → (List (List Int)) → (List Int) → Option (Int × Int × (List (List Int)) × (List Int) × Unit))) (r15 : Int → (List Int) → (List Int) → (List Int) → Option (Int × Int × (List (List Int)) × (List Int) × Unit)) (a : Int) (number_2 : (List Int)) (row_1 : (List Int)) (next' : (List Int)) : Option (Int × Int × (List (List Int)) × (List Int) × Unit) :=
  if (decide (a < d.1)) = true then
  G (0 ≤ i_1 ∧ i_1 < (row_1.length : Int)) (
  G ((i_1).toNat < row_1.length) (
  G (0 ≤ ix row_1 i_1 ∧ ix row_1 i_1 < (d.2.2.1.length : Int)) (
  G (0 ≤ a ∧ a < ((ix d.2.2.1 (ix row_1 i_1)).length : Int)) (
  G (0 ≤ ix (ix d.2.2.1 (ix row_1 i_1)) a ∧ ix (ix d.2.2.1 (ix row_1 i_1)) a < (y'.length : Int)) (
  G ((ix (ix d.2.2.1 (ix row_1 i_1)) a).toNat < y'.length) (
  G (0 ≤ ix y' (ix (ix d.2.2.1 (ix row_1 i_1)) a) ∧ ix y' (ix (ix d.2.2.1 (ix row_1 i_1)) a) < (number_2.length : Int)) (
  G ((ix y' (ix (ix d.2.2.1 (ix row_1 i_1)) a)).toNat < number_2.length) (
  if (decide ((ix number_2 (ix y' (ix (ix d.2.2.1 (ix row_1 i_1)) a))) < (0 : Int))) = true then
  G (0 ≤ ix (ix d.2.2.1 (ix row_1 i_1)) a ∧ ix (ix d.2.2.1 (ix row_1 i_1)) a < (y'.length : Int)) (
  G ((ix (ix d.2.2.1 (ix row_1 i_1)) a).toNat < y'.length) (
  G (0 ≤ ix y' (ix (ix d.2.2.1 (ix row_1 i_1)) a) ∧ ix y' (ix (ix d.2.2.1 (ix row_1 i_1)) a) < (number_2.length : Int)) (
  G ((ix y' (ix (ix d.2.2.1 (ix row_1 i_1)) a)).toNat < number_2.length) (
  G (room row_1 ([ix (ix d.2.2.1 (ix row_1 i_1)) a]) 8) (
  r3_Least_J20 d y' i_1 a row_1 next' r15 (number_2.set (ix y' (ix (ix d.2.2.1 (ix row_1 i_1)) a)).toNat (row_1.length : Int)) (row_1 ++ ([ix (ix d.2.2.1 (ix row_1 i_1)) a]))))))) else
  r3_Least_J20 d y' i_1 a row_1 next' r15 number_2 row_1)))))))) else
  G (room out_2 ([next']) 24) (
  G (0 ≤ i_1 ∧ i_1 < (row_1.length : Int)) (
  G ((i_1).toNat < row_1.length) (
  G (0 ≤ ix row_1 i_1 ∧ ix row_1 i_1 < (d.2.2.2.1.length : Int)) (
  G (room out_3 ([ix d.2.2.2.1 (ix row_1 i_1)]) 8) (
  G (fits (i_1 + (1 : Int))) (
  r11 (i_1 + (1 : Int)) number_2 row_1 out out_1 (out_2 ++ ([next'])) (out_3 ++ ([ix d.2.2.2.1 (ix row_1 i_1)]))))))))
noncomputable def r3_Least_L15_F (d : (Int × Int × (List (List Int)) × (List Int) × Unit)) (y' : (List Int)) (i_1 : Int) (out : Int) (out_1 : Int) (out_2 : (List (List Int))) (out_3 : (List Int)) (r11 : (Int → (List Int) → (List Int) → Int → Int → (List (List Int)) → (List Int) → Option (Int × Int × (List (List Int)) × (List Int) × Unit))) : (Int × (List Int) × (List Int) × (List Int) → Option (Int × Int × (List (List Int)) × (List Int) × Unit)) → Int × (List Int) × (List Int) × (List Int) → Option (Int × Int × (List (List Int)) × (List Int) × Unit) :=
  fun rec x => r3_Least_L15_B d y' i_1 out out_1 out_2 out_3 r11 (fun a number_2 row_1 next' => rec (a, number_2, row_1, next')) x.1 x.2.1 x.2.2.1 x.2.2.2
noncomputable def r3_Least_L15 (d : (Int × Int × (List (List Int)) × (List Int) × Unit)) (y' : (List Int)) (i_1 : Int) (out : Int) (out_1 : Int) (out_2 : (List (List Int))) (out_3 : (List Int)) (r11 : (Int → (List Int) → (List Int) → Int → Int → (List (List Int)) → (List Int) → Option (Int × Int × (List (List Int)) × (List Int) × Unit))) (a : Int) (number_2 : (List Int)) (row_1 : (List Int)) (next' : (List Int)) : Option (Int × Int × (List (List Int)) × (List Int) × Unit) := LFix (r3_Least_L15_F d y' i_1 out out_1 out_2 out_3 r11 ) (a, number_2, row_1, next')
noncomputable def r3_Least_L11_B (d : (Int × Int × (List (List Int)) × (List Int) × Unit)) (y' : (List Int)) (r11 : Int → (List Int) → (List Int) → Int → Int → (List (List Int)) → (List Int) → Option (Int × Int × (List (List Int)) × (List Int) × Unit)) (i_1 : Int) (number_1 : (List Int)) (row : (List Int)) (out : Int) (out_1 : Int) (out_2 : (List (List Int))) (out_3 : (List Int)) : Option (Int × Int × (List (List Int)) × (List Int) × Unit) :=
  if (decide (i_1 < (row.length : Int))) = true then
  G (mkOK d.1 d.1 8) (
  r3_Least_L15 d y' i_1 out out_1 out_2 out_3 r11 (0 : Int) number_1 row (List.replicate (d.1).toNat (0 : Int))) else
  some (out, (out_1, (out_2, (out_3, ()))))
noncomputable def r3_Least_L11_F (d : (Int × Int × (List (List Int)) × (List Int) × Unit)) (y' : (List Int)) : (Int × (List Int) × (List Int) × Int × Int × (List (List Int)) × (List Int) → Option (Int × Int × (List (List Int)) × (List Int) × Unit)) → Int × (List Int) × (List Int) × Int × Int × (List (List Int)) × (List Int) → Option (Int × Int × (List (List Int)) × (List Int) × Unit) :=
  fun rec x => r3_Least_L11_B d y' (fun i_1 number_1 row out out_1 out_2 out_3 => rec (i_1, number_1, row, out, out_1, out_2, out_3)) x.1 x.2.1 x.2.2.1 x.2.2.2.1 x.2.2.2.2.1 x.2.2.2.2.2.1 x.2.2.2.2.2.2
noncomputable def r3_Least_L11 (d : (Int × Int × (List (List Int)) × (List Int) × Unit)) (y' : (List Int)) (i_1 : Int) (number_1 : (List Int)) (row : (List Int)) (out : Int) (out_1 : Int) (out_2 : (List (List Int))) (out_3 : (List Int)) : Option (Int × Int × (List (List Int)) × (List Int) × Unit) := LFix (r3_Least_L11_F d y' ) (i_1, number_1, row, out, out_1, out_2, out_3)
noncomputable def r3_Least_L4_B (d : (Int × Int × (List (List Int)) × (List Int) × Unit)) (y' : (List Int)) (r4 : Int → (List Int) → Option (Int × Int × (List (List Int)) × (List Int) × Unit)) (i : Int) (number : (List Int)) : Option (Int × Int × (List (List Int)) × (List Int) × Unit) :=
  if (decide (i < (number.length : Int))) = true then
  G (0 ≤ i ∧ i < (number.length : Int)) (
  G ((i).toNat < number.length) (
  G (fits (i + (1 : Int))) (
  r4 (i + (1 : Int)) (number.set (i).toNat (-1 : Int))))) else
  G (0 ≤ d.2.1 ∧ d.2.1 < (y'.length : Int)) (
  G ((d.2.1).toNat < y'.length) (
  G (0 ≤ ix y' d.2.1 ∧ ix y' d.2.1 < (number.length : Int)) (
  G ((ix y' d.2.1).toNat < number.length) (
  r3_Least_L11 d y' (0 : Int) (number.set (ix y' d.2.1).toNat (0 : Int)) ([d.2.1]) d.1 (0 : Int) ([] : List (List Int)) ([] : List Int)))))
noncomputable def r3_Least_L4_F (d : (Int × Int × (List (List Int)) × (List Int) × Unit)) (y' : (List Int)) : (Int × (List Int) → Option (Int × Int × (List (List Int)) × (List Int) × Unit)) → Int × (List Int) → Option (Int × Int × (List (List Int)) × (List Int) × Unit) :=
  fun rec x => r3_Least_L4_B d y' (fun i number => rec (i, number)) x.1 x.2
noncomputable def r3_Least_L4 (d : (Int × Int × (List (List Int)) × (List Int) × Unit)) (y' : (List Int)) (i : Int) (number : (List Int)) : Option (Int × Int × (List (List Int)) × (List Int) × Unit) := LFix (r3_Least_L4_F d y' ) (i, number)
noncomputable def r3_Least (d : (Int × Int × (List (List Int)) × (List Int) × Unit)) : Option (Int × Int × (List (List Int)) × (List Int) × Unit) :=
  (r3_Classes (d.1, (d.2.1, (d.2.2.1, (d.2.2.2.1, ()))))).bind (fun y' =>
  G (mkOK (y'.length : Int) (y'.length : Int) 8) (
  r3_Least_L4 d y' (0 : Int) (List.replicate ((y'.length : Int)).toNat (0 : Int))))
theorem r3_Least_J20_ch (r15 : Nat → Int → (List Int) → (List Int) → (List Int) → Option (Int × Int × (List (List Int)) × (List Int) × Unit)) (r15' : Int → (List Int) → (List Int) → (List Int) → Option (Int × Int × (List (List Int)) × (List Int) × Unit)) (h_r15 : ∀ a0 a1 a2 a3, ChO (fun κ => r15 κ a0 a1 a2 a3) (r15' a0 a1 a2 a3)) (d : (Int × Int × (List (List Int)) × (List Int) × Unit)) (y' : (List Int)) (i_1 : Int) (a : Int) (row_1 : (List Int)) (next' : (List Int)) (number_3 : (List Int)) (row_2 : (List Int)) : ChO (fun κ => r3_Least_J20 d y' i_1 a row_1 next' (r15 κ) number_3 row_2) (r3_Least_J20 d y' i_1 a row_1 next' r15' number_3 row_2) := by
  unfold r3_Least_J20
  repeat' with_reducible first | exact ChO.const _ | exact h_r15 _ _ _ _ | apply ChO.ite | apply ChO.G | apply ChO.both | (apply ChO.bind; intro _)
theorem r3_Least_L15_B_ch (r11 : Nat → Int → (List Int) → (List Int) → Int → Int → (List (List Int)) → (List Int) → Option (Int × Int × (List (List Int)) × (List Int) × Unit)) (r11' : Int → (List Int) → (List Int) → Int → Int → (List (List Int)) → (List Int) → Option (Int × Int × (List (List Int)) × (List Int) × Unit)) (h_r11 : ∀ a0 a1 a2 a3 a4 a5 a6, ChO (fun κ => r11 κ a0 a1 a2 a3 a4 a5 a6) (r11' a0 a1 a2 a3 a4 a5 a6)) (r15 : Nat → Int → (List Int) → (List Int) → (List Int) → Option (Int × Int × (List (List Int)) × (List Int) × Unit)) (r15' : Int → (List Int) → (List Int) → (List Int) → Option (Int × Int × (List (List Int)) × (List Int) × Unit)) (h_r15 : ∀ a0 a1 a2 a3, ChO (fun κ => r15 κ a0 a1 a2 a3) (r15' a0 a1 a2 a3)) (d : (Int × Int × (List (List Int)) × (List Int) × Unit)) (y' : (List Int)) (i_1 : Int) (out : Int) (out_1 : Int) (out_2 : (List (List Int))) (out_3 : (List Int)) (a : Int) (number_2 : (List Int)) (row_1 : (List Int)) (next' : (List Int)) : ChO (fun κ => r3_Least_L15_B d y' i_1 out out_1 out_2 out_3 (r11 κ) (r15 κ) a number_2 row_1 next') (r3_Least_L15_B d y' i_1 out out_1 out_2 out_3 r11' r15' a number_2 row_1 next') := by
  unfold r3_Least_L15_B
  repeat' with_reducible first | exact ChO.const _ | exact h_r11 _ _ _ _ _ _ _ | exact h_r15 _ _ _ _ | (apply r3_Least_J20_ch <;> assumption) | apply ChO.ite | apply ChO.G | apply ChO.both | (apply ChO.bind; intro _)
theorem r3_Least_L15_cn (r11 : Int → (List Int) → (List Int) → Int → Int → (List (List Int)) → (List Int) → Option (Int × Int × (List (List Int)) × (List Int) × Unit)) (d : (Int × Int × (List (List Int)) × (List Int) × Unit)) (y' : (List Int)) (i_1 : Int) (out : Int) (out_1 : Int) (out_2 : (List (List Int))) (out_3 : (List Int)) : Cn (r3_Least_L15_F d y' i_1 out out_1 out_2 out_3 r11) := fun g h hg x => r3_Least_L15_B_ch (fun _ => r11) r11 (fun _ _ _ _ _ _ _ => ChO.const _) (fun κ a number_2 row_1 next' => g κ (a, number_2, row_1, next')) (fun a number_2 row_1 next' => h (a, number_2, row_1, next')) (fun a number_2 row_1 next' => hg (a, number_2, row_1, next')) d y' i_1 out out_1 out_2 out_3 x.1 x.2.1 x.2.2.1 x.2.2.2
theorem r3_Least_L15_eq (r11 : Int → (List Int) → (List Int) → Int → Int → (List (List Int)) → (List Int) → Option (Int × Int × (List (List Int)) × (List Int) × Unit)) (d : (Int × Int × (List (List Int)) × (List Int) × Unit)) (y' : (List Int)) (i_1 : Int) (out : Int) (out_1 : Int) (out_2 : (List (List Int))) (out_3 : (List Int)) (a : Int) (number_2 : (List Int)) (row_1 : (List Int)) (next' : (List Int)) : r3_Least_L15 d y' i_1 out out_1 out_2 out_3 r11 a number_2 row_1 next' = r3_Least_L15_B d y' i_1 out out_1 out_2 out_3 r11 (r3_Least_L15 d y' i_1 out out_1 out_2 out_3 r11) a number_2 row_1 next' := LFix_eq (r3_Least_L15_cn r11 d y' i_1 out out_1 out_2 out_3) (a, number_2, row_1, next')
theorem r3_Least_L15_ch (r11 : Nat → Int → (List Int) → (List Int) → Int → Int → (List (List Int)) → (List Int) → Option (Int × Int × (List (List Int)) × (List Int) × Unit)) (r11' : Int → (List Int) → (List Int) → Int → Int → (List (List Int)) → (List Int) → Option (Int × Int × (List (List Int)) × (List Int) × Unit)) (h_r11 : ∀ a0 a1 a2 a3 a4 a5 a6, ChO (fun κ => r11 κ a0 a1 a2 a3 a4 a5 a6) (r11' a0 a1 a2 a3 a4 a5 a6)) (d : (Int × Int × (List (List Int)) × (List Int) × Unit)) (y' : (List Int)) (i_1 : Int) (out : Int) (out_1 : Int) (out_2 : (List (List Int))) (out_3 : (List Int)) (a : Int) (number_2 : (List Int)) (row_1 : (List Int)) (next' : (List Int)) : ChO (fun κ => r3_Least_L15 d y' i_1 out out_1 out_2 out_3 (r11 κ) a number_2 row_1 next') (r3_Least_L15 d y' i_1 out out_1 out_2 out_3 r11' a number_2 row_1 next') := by
  unfold r3_Least_L15
  exact LFix_ch (fun κ => (r3_Least_L15_cn (r11 κ) d y' i_1 out out_1 out_2 out_3).mono) (r3_Least_L15_cn r11' d y' i_1 out out_1 out_2 out_3).mono (fun g h hg x => r3_Least_L15_B_ch r11 r11' h_r11 (fun κ a number_2 row_1 next' => g κ (a, number_2, row_1, next')) (fun a number_2 row_1 next' => h (a, number_2, row_1, next')) (fun a number_2 row_1 next' => hg (a, number_2, row_1, next')) d y' i_1 out out_1 out_2 out_3 x.1 x.2.1 x.2.2.1 x.2.2.2) _
theorem r3_Least_L11_B_ch (r11 : Nat → Int → (List Int) → (List Int) → Int → Int → (List (List Int)) → (List Int) → Option (Int × Int × (List (List Int)) × (List Int) × Unit)) (r11' : Int → (List Int) → (List Int) → Int → Int → (List (List Int)) → (List Int) → Option (Int × Int × (List (List Int)) × (List Int) × Unit)) (h_r11 : ∀ a0 a1 a2 a3 a4 a5 a6, ChO (fun κ => r11 κ a0 a1 a2 a3 a4 a5 a6) (r11' a0 a1 a2 a3 a4 a5 a6)) (d : (Int × Int × (List (List Int)) × (List Int) × Unit)) (y' : (List Int)) (i_1 : Int) (number_1 : (List Int)) (row : (List Int)) (out : Int) (out_1 : Int) (out_2 : (List (List Int))) (out_3 : (List Int)) : ChO (fun κ => r3_Least_L11_B d y' (r11 κ) i_1 number_1 row out out_1 out_2 out_3) (r3_Least_L11_B d y' r11' i_1 number_1 row out out_1 out_2 out_3) := by
  unfold r3_Least_L11_B
  repeat' with_reducible first | exact ChO.const _ | exact h_r11 _ _ _ _ _ _ _ | (apply r3_Least_J20_ch <;> assumption) | (apply r3_Least_L15_ch <;> assumption) | apply ChO.ite | apply ChO.G | apply ChO.both | (apply ChO.bind; intro _)
theorem r3_Least_L11_cn  (d : (Int × Int × (List (List Int)) × (List Int) × Unit)) (y' : (List Int)) : Cn (r3_Least_L11_F d y') := fun g h hg x => r3_Least_L11_B_ch  (fun κ i_1 number_1 row out out_1 out_2 out_3 => g κ (i_1, number_1, row, out, out_1, out_2, out_3)) (fun i_1 number_1 row out out_1 out_2 out_3 => h (i_1, number_1, row, out, out_1, out_2, out_3)) (fun i_1 number_1 row out out_1 out_2 out_3 => hg (i_1, number_1, row, out, out_1, out_2, out_3)) d y' x.1 x.2.1 x.2.2.1 x.2.2.2.1 x.2.2.2.2.1 x.2.2.2.2.2.1 x.2.2.2.2.2.2
theorem r3_Least_L11_eq  (d : (Int × Int × (List (List Int)) × (List Int) × Unit)) (y' : (List Int)) (i_1 : Int) (number_1 : (List Int)) (row : (List Int)) (out : Int) (out_1 : Int) (out_2 : (List (List Int))) (out_3 : (List Int)) : r3_Least_L11 d y' i_1 number_1 row out out_1 out_2 out_3 = r3_Least_L11_B d y' (r3_Least_L11 d y') i_1 number_1 row out out_1 out_2 out_3 := LFix_eq (r3_Least_L11_cn d y') (i_1, number_1, row, out, out_1, out_2, out_3)
theorem r3_Least_L4_B_ch (r4 : Nat → Int → (List Int) → Option (Int × Int × (List (List Int)) × (List Int) × Unit)) (r4' : Int → (List Int) → Option (Int × Int × (List (List Int)) × (List Int) × Unit)) (h_r4 : ∀ a0 a1, ChO (fun κ => r4 κ a0 a1) (r4' a0 a1)) (d : (Int × Int × (List (List Int)) × (List Int) × Unit)) (y' : (List Int)) (i : Int) (number : (List Int)) : ChO (fun κ => r3_Least_L4_B d y' (r4 κ) i number) (r3_Least_L4_B d y' r4' i number) := by
  unfold r3_Least_L4_B
  repeat' with_reducible first | exact ChO.const _ | exact h_r4 _ _ | (apply r3_Least_J20_ch <;> assumption) | (apply r3_Least_L15_ch <;> assumption) | apply ChO.ite | apply ChO.G | apply ChO.both | (apply ChO.bind; intro _)
theorem r3_Least_L4_cn  (d : (Int × Int × (List (List Int)) × (List Int) × Unit)) (y' : (List Int)) : Cn (r3_Least_L4_F d y') := fun g h hg x => r3_Least_L4_B_ch  (fun κ i number => g κ (i, number)) (fun i number => h (i, number)) (fun i number => hg (i, number)) d y' x.1 x.2
theorem r3_Least_L4_eq  (d : (Int × Int × (List (List Int)) × (List Int) × Unit)) (y' : (List Int)) (i : Int) (number : (List Int)) : r3_Least_L4 d y' i number = r3_Least_L4_B d y' (r3_Least_L4 d y') i number := LFix_eq (r3_Least_L4_cn d y') (i, number)

noncomputable def r25_Det_J17 (a : Int) (l_1 : (List (List Int))) (row : (List Int)) (r10 : (Int → (List (List Int)) → (List Int) → Option ((Int × Int × (List (List Int)) × (List Int) × Unit) × Bool))) (y'_1 : (List Int)) (k_1 : Int) : Option ((Int × Int × (List (List Int)) × (List Int) × Unit) × Bool) :=
  if (decide (k_1 = (l_1.length : Int))) = true then
  if (decide (k_1 = (1500 : Int))) = true then
  some (((0 : Int), ((0 : Int), ([], ([], ())))), true) else
  G (room l_1 ([y'_1]) 24) (
  G (room row ([k_1]) 8) (
  G (fits (a + (1 : Int))) (
  r10 (a + (1 : Int)) (l_1 ++ ([y'_1])) (row ++ ([k_1]))))) else
  G (room row ([k_1]) 8) (
  G (fits (a + (1 : Int))) (
  r10 (a + (1 : Int)) l_1 (row ++ ([k_1]))))
noncomputable def r25_Det_L14_B (a : Int) (l_1 : (List (List Int))) (row : (List Int)) (r10 : (Int → (List (List Int)) → (List Int) → Option ((Int × Int × (List (List Int)) × (List Int) × Unit) × Bool))) (y'_1 : (List Int)) (r14 : Int → Option ((Int × Int × (List (List Int)) × (List Int) × Unit) × Bool)) (k : Int) : Option ((Int × Int × (List (List Int)) × (List Int) × Unit) × Bool) :=
  if (decide (k < (l_1.length : Int))) = true then
  G (0 ≤ k ∧ k < (l_1.length : Int)) (
  G ((k).toNat < l_1.length) (
  (r1_Words (ix l_1 k) y'_1).bind (fun y'_2 =>
  if y'_2 = true then
  r25_Det_J17 a l_1 row r10 y'_1 k else
  G (fits (k + (1 : Int))) (
  r14 (k + (1 : Int)))))) else
  r25_Det_J17 a l_1 row r10 y'_1 k
noncomputable def r25_Det_L14_F (a : Int) (l_1 : (List (List Int))) (row : (List Int)) (r10 : (Int → (List (List Int)) → (List Int) → Option ((Int × Int × (List (List Int)) × (List Int) × Unit) × Bool))) (y'_1 : (List Int)) : (Int → Option ((Int × Int × (List (List Int)) × (List Int) × Unit) × Bool)) → Int → Option ((Int × Int × (List (List Int)) × (List Int) × Unit) × Bool) :=
  fun rec x => r25_Det_L14_B a l_1 row r10 y'_1 (fun k => rec k) x
noncomputable def r25_Det_L14 (a : Int) (l_1 : (List (List Int))) (row : (List Int)) (r10 : (Int → (List (List Int)) → (List Int) → Option ((Int × Int × (List (List Int)) × (List Int) × Unit) × Bool))) (y'_1 : (List Int)) (k : Int) : Option ((Int × Int × (List (List Int)) × (List Int) × Unit) × Bool) := LFix (r25_Det_L14_F a l_1 row r10 y'_1 ) k
noncomputable def r25_Det_L10_B (t : (Int × Int × (List (List (Int × Int × Unit))) × (List Int) × Unit)) (i : Int) (out : Int) (out_1 : Int) (out_2 : (List (List Int))) (out_3 : (List Int)) (r6 : (Int → (List (List Int)) → Int → Int → (List (List Int)) → (List Int) → Option ((Int × Int × (List (List Int)) × (List Int) × Unit) × Bool))) (r10 : Int → (List (List Int)) → (List Int) → Option ((Int × Int × (List (List Int)) × (List Int) × Unit) × Bool)) (a : Int) (l_1 : (List (List Int))) (row : (List Int)) : Option ((Int × Int × (List (List Int)) × (List Int) × Unit) × Bool) :=
  if (decide (a < t.1)) = true then
  G (0 ≤ i ∧ i < (l_1.length : Int)) (
  G ((i).toNat < l_1.length) (
  G (0 ≤ i ∧ i < (l_1.length : Int)) (
  G ((i).toNat < l_1.length) (
  G (0 ≤ (t.2.2.1.length : Int) ∧ (t.2.2.1.length : Int) < ((ix l_1 i).length : Int)) (
  (r25_Table (t.1, (t.2.1, (t.2.2.1, (t.2.2.2.1, ())))) (ix l_1 i) false (ix (ix l_1 i) (t.2.2.1.length : Int)) a).bind (fun y'_1 =>
  r25_Det_L14 a l_1 row r10 y'_1 (0 : Int))))))) else
  G (room out_2 ([row]) 24) (
  G (0 ≤ i ∧ i < (l_1.length : Int)) (
  G ((i).toNat < l_1.length) (
  G (0 ≤ (t.2.2.1.length : Int) ∧ (t.2.2.1.length : Int) < ((ix l_1 i).length : Int)) (
  if (decide ((0 : Int) ≤ (ix (ix l_1 i) (t.2.2.1.length : Int)))) = true then
  G (0 ≤ i ∧ i < (l_1.length : Int)) (
  G ((i).toNat < l_1.length) (
  G (0 ≤ i ∧ i < (l_1.length : Int)) (
  G ((i).toNat < l_1.length) (
  G (0 ≤ (t.2.2.1.length : Int) ∧ (t.2.2.1.length : Int) < ((ix l_1 i).length : Int)) (
  G (fits (t.1 + (1 : Int))) (
  (r25_Behind (t.1, (t.2.1, (t.2.2.1, (t.2.2.2.1, ())))) (ix l_1 i) false (ix (ix l_1 i) (t.2.2.1.length : Int)) (t.1 + (1 : Int))).bind (fun y'_3 =>
  if (decide ((0 : Int) ≤ y'_3)) = true then
  G (0 ≤ y'_3 ∧ y'_3 < (t.2.2.2.1.length : Int)) (
  G (room out_3 ([ix t.2.2.2.1 y'_3]) 8) (
  G (fits (i + (1 : Int))) (
  r6 (i + (1 : Int)) l_1 out out_1 (out_2 ++ ([row])) (out_3 ++ ([ix t.2.2.2.1 y'_3]))))) else
  G (room out_3 ([(0 : Int)]) 8) (
  G (fits (i + (1 : Int))) (
  r6 (i + (1 : Int)) l_1 out out_1 (out_2 ++ ([row])) (out_3 ++ ([(0 : Int)]))))))))))) else
  G (room out_3 ([(0 : Int)]) 8) (
  G (fits (i + (1 : Int))) (
  r6 (i + (1 : Int)) l_1 out out_1 (out_2 ++ ([row])) (out_3 ++ ([(0 : Int)]))))))))
noncomputable def r25_Det_L10_F (t : (Int × Int × (List (List (Int × Int × Unit))) × (List Int) × Unit)) (i : Int) (out : Int) (out_1 : Int) (out_2 : (List (List Int))) (out_3 : (List Int)) (r6 : (Int → (List (List Int)) → Int → Int → (List (List Int)) → (List Int) → Option ((Int × Int × (List (List Int)) × (List Int) × Unit) × Bool))) : (Int × (List (List Int)) × (List Int) → Option ((Int × Int × (List (List Int)) × (List Int) × Unit) × Bool)) → Int × (List (List Int)) × (List Int) → Option ((Int × Int × (List (List Int)) × (List Int) × Unit) × Bool) :=
  fun rec x => r25_Det_L10_B t i out out_1 out_2 out_3 r6 (fun a l_1 row => rec (a, l_1, row)) x.1 x.2.1 x.2.2
noncomputable def r25_Det_L10 (t : (Int × Int × (List (List (Int × Int × Unit))) × (List Int) × Unit)) (i : Int) (out : Int) (out_1 : Int) (out_2 : (List (List Int))) (out_3 : (List Int)) (r6 : (Int → (List (List Int)) → Int → Int → (List (List Int)) → (List Int) → Option ((Int × Int × (List (List Int)) × (List Int) × Unit) × Bool))) (a : Int) (l_1 : (List (List Int))) (row : (List Int)) : Option ((Int × Int × (List (List Int)) × (List Int) × Unit) × Bool) := LFix (r25_Det_L10_F t i out out_1 out_2 out_3 r6 ) (a, l_1, row)
noncomputable def r25_Det_L6_B (t : (Int × Int × (List (List (Int × Int × Unit))) × (List Int) × Unit)) (r6 : Int → (List (List Int)) → Int → Int → (List (List Int)) → (List Int) → Option ((Int × Int × (List (List Int)) × (List Int) × Unit) × Bool)) (i : Int) (l : (List (List Int))) (out : Int) (out_1 : Int) (out_2 : (List (List Int))) (out_3 : (List Int)) : Option ((Int × Int × (List (List Int)) × (List Int) × Unit) × Bool) :=
  if (decide (i < (l.length : Int))) = true then
  r25_Det_L10 t i out out_1 out_2 out_3 r6 (0 : Int) l ([]) else
  (r3_Least (out, (out_1, (out_2, (out_3, ()))))).bind (fun y'_4 =>
  some ((y'_4.1, (y'_4.2.1, (y'_4.2.2.1, (y'_4.2.2.2.1, ())))), false))
noncomputable def r25_Det_L6_F (t : (Int × Int × (List (List (Int × Int × Unit))) × (List Int) × Unit)) : (Int × (List (List Int)) × Int × Int × (List (List Int)) × (List Int) → Option ((Int × Int × (List (List Int)) × (List Int) × Unit) × Bool)) → Int × (List (List Int)) × Int × Int × (List (List Int)) × (List Int) → Option ((Int × Int × (List (List Int)) × (List Int) × Unit) × Bool) :=
  fun rec x => r25_Det_L6_B t (fun i l out out_1 out_2 out_3 => rec (i, l, out, out_1, out_2, out_3)) x.1 x.2.1 x.2.2.1 x.2.2.2.1 x.2.2.2.2.1 x.2.2.2.2.2
noncomputable def r25_Det_L6 (t : (Int × Int × (List (List (Int × Int × Unit))) × (List Int) × Unit)) (i : Int) (l : (List (List Int))) (out : Int) (out_1 : Int) (out_2 : (List (List Int))) (out_3 : (List Int)) : Option ((Int × Int × (List (List Int)) × (List Int) × Unit) × Bool) := LFix (r25_Det_L6_F t ) (i, l, out, out_1, out_2, out_3)
noncomputable def r25_Det (t : (Int × Int × (List (List (Int × Int × Unit))) × (List Int) × Unit)) : Option ((Int × Int × (List (List Int)) × (List Int) × Unit) × Bool) :=
  (r25_Table (t.1, (t.2.1, (t.2.2.1, (t.2.2.2.1, ())))) ([]) true t.2.1 t.1).bind (fun y' =>
  r25_Det_L6 t (0 : Int) ([y']) t.1 (0 : Int) ([] : List (List Int)) ([] : List Int))
theorem r25_Det_J17_ch (r10 : Nat → Int → (List (List Int)) → (List Int) → Option ((Int × Int × (List (List Int)) × (List Int) × Unit) × Bool)) (r10' : Int → (List (List Int)) → (List Int) → Option ((Int × Int × (List (List Int)) × (List Int) × Unit) × Bool)) (h_r10 : ∀ a0 a1 a2, ChO (fun κ => r10 κ a0 a1 a2) (r10' a0 a1 a2)) (a : Int) (l_1 : (List (List Int))) (row : (List Int)) (y'_1 : (List Int)) (k_1 : Int) : ChO (fun κ => r25_Det_J17 a l_1 row (r10 κ) y'_1 k_1) (r25_Det_J17 a l_1 row r10' y'_1 k_1) := by
  unfold r25_Det_J17
  repeat' with_reducible first | exact ChO.const _ | exact h_r10 _ _ _ | apply ChO.ite | apply ChO.G | apply ChO.both | (apply ChO.bind; intro _)
theorem r25_Det_L14_B_ch (r10 : Nat → Int → (List (List Int)) → (List Int) → Option ((Int × Int × (List (List Int)) × (List Int) × Unit) × Bool)) (r10' : Int → (List (List Int)) → (List Int) → Option ((Int × Int × (List (List Int)) × (List Int) × Unit) × Bool)) (h_r10 : ∀ a0 a1 a2, ChO (fun κ => r10 κ a0 a1 a2) (r10' a0 a1 a2)) (r14 : Nat → Int → Option ((Int × Int × (List (List Int)) × (List Int) × Unit) × Bool)) (r14' : Int → Option ((Int × Int × (List (List Int)) × (List Int) × Unit) × Bool)) (h_r14 : ∀ a0, ChO (fun κ => r14 κ a0) (r14' a0)) (a : Int) (l_1 : (List (List Int))) (row : (List Int)) (y'_1 : (List Int)) (k : Int) : ChO (fun κ => r25_Det_L14_B a l_1 row (r10 κ) y'_1 (r14 κ) k) (r25_Det_L14_B a l_1 row r10' y'_1 r14' k) := by
  unfold r25_Det_L14_B
  repeat' with_reducible first | exact ChO.const _ | exact h_r10 _ _ _ | exact h_r14 _ | (apply r25_Det_J17_ch <;> assumption) | apply ChO.ite | apply ChO.G | apply ChO.both | (apply ChO.bind; intro _)
theorem r25_Det_L14_cn (r10 : Int → (List (List Int)) → (List Int) → Option ((Int × Int × (List (List Int)) × (List Int) × Unit) × Bool)) (a : Int) (l_1 : (List (List Int))) (row : (List Int)) (y'_1 : (List Int)) : Cn (r25_Det_L14_F a l_1 row r10 y'_1) := fun g h hg x => r25_Det_L14_B_ch (fun _ => r10) r10 (fun _ _ _ => ChO.const _) (fun κ k => g κ k) (fun k => h k) (fun k => hg k) a l_1 row y'_1 x
theorem r25_Det_L14_eq (r10 : Int → (List (List Int)) → (List Int) → Option ((Int × Int × (List (List Int)) × (List Int) × Unit) × Bool)) (a : Int) (l_1 : (List (List Int))) (row : (List Int)) (y'_1 : (List Int)) (k : Int) : r25_Det_L14 a l_1 row r10 y'_1 k = r25_Det_L14_B a l_1 row r10 y'_1 (r25_Det_L14 a l_1 row r10 y'_1) k := LFix_eq (r25_Det_L14_cn r10 a l_1 row y'_1) k
theorem r25_Det_L14_ch (r10 : Nat → Int → (List (List Int)) → (List Int) → Option ((Int × Int × (List (List Int)) × (List Int) × Unit) × Bool)) (r10' : Int → (List (List Int)) → (List Int) → Option ((Int × Int × (List (List Int)) × (List Int) × Unit) × Bool)) (h_r10 : ∀ a0 a1 a2, ChO (fun κ => r10 κ a0 a1 a2) (r10' a0 a1 a2)) (a : Int) (l_1 : (List (List Int))) (row : (List Int)) (y'_1 : (List Int)) (k : Int) : ChO (fun κ => r25_Det_L14 a l_1 row (r10 κ) y'_1 k) (r25_Det_L14 a l_1 row r10' y'_1 k) := by
  unfold r25_Det_L14
  exact LFix_ch (fun κ => (r25_Det_L14_cn (r10 κ) a l_1 row y'_1).mono) (r25_Det_L14_cn r10' a l_1 row y'_1).mono (fun g h hg x => r25_Det_L14_B_ch r10 r10' h_r10 (fun κ k => g κ k) (fun k => h k) (fun k => hg k) a l_1 row y'_1 x) _
theorem r25_Det_L10_B_ch (r6 : Nat → Int → (List (List Int)) → Int → Int → (List (List Int)) → (List Int) → Option ((Int × Int × (List (List Int)) × (List Int) × Unit) × Bool)) (r6' : Int → (List (List Int)) → Int → Int → (List (List Int)) → (List Int) → Option ((Int × Int × (List (List Int)) × (List Int) × Unit) × Bool)) (h_r6 : ∀ a0 a1 a2 a3 a4 a5, ChO (fun κ => r6 κ a0 a1 a2 a3 a4 a5) (r6' a0 a1 a2 a3 a4 a5)) (r10 : Nat → Int → (List (List Int)) → (List Int) → Option ((Int × Int × (List (List Int)) × (List Int) × Unit) × Bool)) (r10' : Int → (List (List Int)) → (List Int) → Option ((Int × Int × (List (List Int)) × (List Int) × Unit) × Bool)) (h_r10 : ∀ a0 a1 a2, ChO (fun κ => r10 κ a0 a1 a2) (r10' a0 a1 a2)) (t : (Int × Int × (List (List (Int × Int × Unit))) × (List Int) × Unit)) (i : Int) (out : Int) (out_1 : Int) (out_2 : (List (List Int))) (out_3 : (List Int)) (a : Int) (l_1 : (List (List Int))) (row : (List Int)) : ChO (fun κ => r25_Det_L10_B t i out out_1 out_2 out_3 (r6 κ) (r10 κ) a l_1 row) (r25_Det_L10_B t i out out_1 out_2 out_3 r6' r10' a l_1 row) := by
  unfold r25_Det_L10_B
  repeat' with_reducible first | exact ChO.const _ | exact h_r6 _ _ _ _ _ _ | exact h_r10 _ _ _ | (apply r25_Det_J17_ch <;> assumption) | (apply r25_Det_L14_ch <;> assumption) | apply ChO.ite | apply ChO.G | apply ChO.both | (apply ChO.bind; intro _)
theorem r25_Det_L10_cn (r6 : Int → (List (List Int)) → Int → Int → (List (List Int)) → (List Int) → Option ((Int × Int × (List (List Int)) × (List Int) × Unit) × Bool)) (t : (Int × Int × (List (List (Int × Int × Unit))) × (List Int) × Unit)) (i : Int) (out : Int) (out_1 : Int) (out_2 : (List (List Int))) (out_3 : (List Int)) : Cn (r25_Det_L10_F t i out out_1 out_2 out_3 r6) := fun g h hg x => r25_Det_L10_B_ch (fun _ => r6) r6 (fun _ _ _ _ _ _ => ChO.const _) (fun κ a l_1 row => g κ (a, l_1, row)) (fun a l_1 row => h (a, l_1, row)) (fun a l_1 row => hg (a, l_1, row)) t i out out_1 out_2 out_3 x.1 x.2.1 x.2.2
theorem r25_Det_L10_eq (r6 : Int → (List (List Int)) → Int → Int → (List (List Int)) → (List Int) → Option ((Int × Int × (List (List Int)) × (List Int) × Unit) × Bool)) (t : (Int × Int × (List (List (Int × Int × Unit))) × (List Int) × Unit)) (i : Int) (out : Int) (out_1 : Int) (out_2 : (List (List Int))) (out_3 : (List Int)) (a : Int) (l_1 : (List (List Int))) (row : (List Int)) : r25_Det_L10 t i out out_1 out_2 out_3 r6 a l_1 row = r25_Det_L10_B t i out out_1 out_2 out_3 r6 (r25_Det_L10 t i out out_1 out_2 out_3 r6) a l_1 row := LFix_eq (r25_Det_L10_cn r6 t i out out_1 out_2 out_3) (a, l_1, row)
theorem r25_Det_L10_ch (r6 : Nat → Int → (List (List Int)) → Int → Int → (List (List Int)) → (List Int) → Option ((Int × Int × (List (List Int)) × (List Int) × Unit) × Bool)) (r6' : Int → (List (List Int)) → Int → Int → (List (List Int)) → (List Int) → Option ((Int × Int × (List (List Int)) × (List Int) × Unit) × Bool)) (h_r6 : ∀ a0 a1 a2 a3 a4 a5, ChO (fun κ => r6 κ a0 a1 a2 a3 a4 a5) (r6' a0 a1 a2 a3 a4 a5)) (t : (Int × Int × (List (List (Int × Int × Unit))) × (List Int) × Unit)) (i : Int) (out : Int) (out_1 : Int) (out_2 : (List (List Int))) (out_3 : (List Int)) (a : Int) (l_1 : (List (List Int))) (row : (List Int)) : ChO (fun κ => r25_Det_L10 t i out out_1 out_2 out_3 (r6 κ) a l_1 row) (r25_Det_L10 t i out out_1 out_2 out_3 r6' a l_1 row) := by
  unfold r25_Det_L10
  exact LFix_ch (fun κ => (r25_Det_L10_cn (r6 κ) t i out out_1 out_2 out_3).mono) (r25_Det_L10_cn r6' t i out out_1 out_2 out_3).mono (fun g h hg x => r25_Det_L10_B_ch r6 r6' h_r6 (fun κ a l_1 row => g κ (a, l_1, row)) (fun a l_1 row => h (a, l_1, row)) (fun a l_1 row => hg (a, l_1, row)) t i out out_1 out_2 out_3 x.1 x.2.1 x.2.2) _
theorem r25_Det_L6_B_ch (r6 : Nat → Int → (List (List Int)) → Int → Int → (List (List Int)) → (List Int) → Option ((Int × Int × (List (List Int)) × (List Int) × Unit) × Bool)) (r6' : Int → (List (List Int)) → Int → Int → (List (List Int)) → (List Int) → Option ((Int × Int × (List (List Int)) × (List Int) × Unit) × Bool)) (h_r6 : ∀ a0 a1 a2 a3 a4 a5, ChO (fun κ => r6 κ a0 a1 a2 a3 a4 a5) (r6' a0 a1 a2 a3 a4 a5)) (t : (Int × Int × (List (List (Int × Int × Unit))) × (List Int) × Unit)) (i : Int) (l : (List (List Int))) (out : Int) (out_1 : Int) (out_2 : (List (List Int))) (out_3 : (List Int)) : ChO (fun κ => r25_Det_L6_B t (r6 κ) i l out out_1 out_2 out_3) (r25_Det_L6_B t r6' i l out out_1 out_2 out_3) := by
  unfold r25_Det_L6_B
  repeat' with_reducible first | exact ChO.const _ | exact h_r6 _ _ _ _ _ _ | (apply r25_Det_J17_ch <;> assumption) | (apply r25_Det_L14_ch <;> assumption) | (apply r25_Det_L10_ch <;> assumption) | apply ChO.ite | apply ChO.G | apply ChO.both | (apply ChO.bind; intro _)
theorem r25_Det_L6_cn  (t : (Int × Int × (List (List (Int × Int × Unit))) × (List Int) × Unit)) : Cn (r25_Det_L6_F t) := fun g h hg x => r25_Det_L6_B_ch  (fun κ i l out out_1 out_2 out_3 => g κ (i, l, out, out_1, out_2, out_3)) (fun i l out out_1 out_2 out_3 => h (i, l, out, out_1, out_2, out_3)) (fun i l out out_1 out_2 out_3 => hg (i, l, out, out_1, out_2, out_3)) t x.1 x.2.1 x.2.2.1 x.2.2.2.1 x.2.2.2.2.1 x.2.2.2.2.2
theorem r25_Det_L6_eq  (t : (Int × Int × (List (List (Int × Int × Unit))) × (List Int) × Unit)) (i : Int) (l : (List (List Int))) (out : Int) (out_1 : Int) (out_2 : (List (List Int))) (out_3 : (List Int)) : r25_Det_L6 t i l out out_1 out_2 out_3 = r25_Det_L6_B t (r25_Det_L6 t) i l out out_1 out_2 out_3 := LFix_eq (r25_Det_L6_cn t) (i, l, out, out_1, out_2, out_3)

noncomputable def r3_Same_L14_B (a : (Int × Int × (List (List Int)) × (List Int) × Unit)) (b : (Int × Int × (List (List Int)) × (List Int) × Unit)) (i_1 : Int) (r9 : (Int → Option (Bool))) (r14 : Int → Option (Bool)) (k : Int) : Option (Bool) :=
  G (0 ≤ i_1 ∧ i_1 < (a.2.2.1.length : Int)) (
  if (decide (k < ((ix a.2.2.1 i_1).length : Int))) = true then
  G (0 ≤ i_1 ∧ i_1 < (a.2.2.1.length : Int)) (
  G (0 ≤ k ∧ k < ((ix a.2.2.1 i_1).length : Int)) (
  G (0 ≤ i_1 ∧ i_1 < (b.2.2.1.length : Int)) (
  G (0 ≤ k ∧ k < ((ix b.2.2.1 i_1).length : Int)) (
  if (decide (¬ (ix (ix a.2.2.1 i_1) k) = (ix (ix b.2.2.1 i_1) k))) = true then
  some false else
  G (fits (k + (1 : Int))) (
  r14 (k + (1 : Int))))))) else
  G (fits (i_1 + (1 : Int))) (
  r9 (i_1 + (1 : Int))))
noncomputable def r3_Same_L14_F (a : (Int × Int × (List (List Int)) × (List Int) × Unit)) (b : (Int × Int × (List (List Int)) × (List Int) × Unit)) (i_1 : Int) (r9 : (Int → Option (Bool))) : (Int → Option (Bool)) → Int → Option (Bool) :=
  fun rec x => r3_Same_L14_B a b i_1 r9 (fun k => rec k) x
noncomputable def r3_Same_L14 (a : (Int × Int × (List (List Int)) × (List Int) × Unit)) (b : (Int × Int × (List (List Int)) × (List Int) × Unit)) (i_1 : Int) (r9 : (Int → Option (Bool))) (k : Int) : Option (Bool) := LFix (r3_Same_L14_F a b i_1 r9 ) k
noncomputable def r3_Same_L9_B (a : (Int × Int × (List (List Int)) × (List Int) × Unit)) (b : (Int × Int × (List (List Int)) × (List Int) × Unit)) (r9 : Int → Option (Bool)) (i_1 : Int) : Option (Bool) :=
  if (decide (i_1 < (a.2.2.1.length : Int))) = true then
  G (0 ≤ i_1 ∧ i_1 < (a.2.2.1.length : Int)) (
  G (0 ≤ i_1 ∧ i_1 < (b.2.2.1.length : Int)) (
  if (decide (¬ ((ix a.2.2.1 i_1).length : Int) = ((ix b.2.2.1 i_1).length : Int))) = true then
  some false else
  r3_Same_L14 a b i_1 r9 (0 : Int))) else
  some true
noncomputable def r3_Same_L9_F (a : (Int × Int × (List (List Int)) × (List Int) × Unit)) (b : (Int × Int × (List (List Int)) × (List Int) × Unit)) : (Int → Option (Bool)) → Int → Option (Bool) :=
  fun rec x => r3_Same_L9_B a b (fun i_1 => rec i_1) x
noncomputable def r3_Same_L9 (a : (Int × Int × (List (List Int)) × (List Int) × Unit)) (b : (Int × Int × (List (List Int)) × (List Int) × Unit)) (i_1 : Int) : Option (Bool) := LFix (r3_Same_L9_F a b ) i_1
noncomputable def r3_Same_L4_B (a : (Int × Int × (List (List Int)) × (List Int) × Unit)) (b : (Int × Int × (List (List Int)) × (List Int) × Unit)) (r4 : Int → Option (Bool)) (i : Int) : Option (Bool) :=
  if (decide (i < (a.2.2.2.1.length : Int))) = true then
  G (0 ≤ i ∧ i < (a.2.2.2.1.length : Int)) (
  G (0 ≤ i ∧ i < (b.2.2.2.1.length : Int)) (
  if (decide (¬ (ix a.2.2.2.1 i) = (ix b.2.2.2.1 i))) = true then
  some false else
  G (fits (i + (1 : Int))) (
  r4 (i + (1 : Int))))) else
  r3_Same_L9 a b (0 : Int)
noncomputable def r3_Same_L4_F (a : (Int × Int × (List (List Int)) × (List Int) × Unit)) (b : (Int × Int × (List (List Int)) × (List Int) × Unit)) : (Int → Option (Bool)) → Int → Option (Bool) :=
  fun rec x => r3_Same_L4_B a b (fun i => rec i) x
noncomputable def r3_Same_L4 (a : (Int × Int × (List (List Int)) × (List Int) × Unit)) (b : (Int × Int × (List (List Int)) × (List Int) × Unit)) (i : Int) : Option (Bool) := LFix (r3_Same_L4_F a b ) i
noncomputable def r3_Same (a : (Int × Int × (List (List Int)) × (List Int) × Unit)) (b : (Int × Int × (List (List Int)) × (List Int) × Unit)) : Option (Bool) :=
  if (decide (¬ a.1 = b.1)) = true then
  some false else
  if (decide (¬ a.2.1 = b.2.1)) = true then
  some false else
  if (decide (¬ (a.2.2.1.length : Int) = (b.2.2.1.length : Int))) = true then
  some false else
  if (decide (¬ (a.2.2.2.1.length : Int) = (b.2.2.2.1.length : Int))) = true then
  some false else
  r3_Same_L4 a b (0 : Int)
theorem r3_Same_L14_B_ch (r9 : Nat → Int → Option (Bool)) (r9' : Int → Option (Bool)) (h_r9 : ∀ a0, ChO (fun κ => r9 κ a0) (r9' a0)) (r14 : Nat → Int → Option (Bool)) (r14' : Int → Option (Bool)) (h_r14 : ∀ a0, ChO (fun κ => r14 κ a0) (r14' a0)) (a : (Int × Int × (List (List Int)) × (List Int) × Unit)) (b : (Int × Int × (List (List Int)) × (List Int) × Unit)) (i_1 : Int) (k : Int) : ChO (fun κ => r3_Same_L14_B a b i_1 (r9 κ) (r14 κ) k) (r3_Same_L14_B a b i_1 r9' r14' k) := by
  unfold r3_Same_L14_B
  repeat' with_reducible first | exact ChO.const _ | exact h_r9 _ | exact h_r14 _ | apply ChO.ite | apply ChO.G | apply ChO.both | (apply ChO.bind; intro _)
theorem r3_Same_L14_cn (r9 : Int → Option (Bool)) (a : (Int × Int × (List (List Int)) × (List Int) × Unit)) (b : (Int × Int × (List (List Int)) × (List Int) × Unit)) (i_1 : Int) : Cn (r3_Same_L14_F a b i_1 r9) := fun g h hg x => r3_Same_L14_B_ch (fun _ => r9) r9 (fun _ => ChO.const _) (fun κ k => g κ k) (fun k => h k) (fun k => hg k) a b i_1 x
theorem r3_Same_L14_eq (r9 : Int → Option (Bool)) (a : (Int × Int × (List (List Int)) × (List Int) × Unit)) (b : (Int × Int × (List (List Int)) × (List Int) × Unit)) (i_1 : Int) (k : Int) : r3_Same_L14 a b i_1 r9 k = r3_Same_L14_B a b i_1 r9 (r3_Same_L14 a b i_1 r9) k := LFix_eq (r3_Same_L14_cn r9 a b i_1) k
theorem r3_Same_L14_ch (r9 : Nat → Int → Option (Bool)) (r9' : Int → Option (Bool)) (h_r9 : ∀ a0, ChO (fun κ => r9 κ a0) (r9' a0)) (a : (Int × Int × (List (List Int)) × (List Int) × Unit)) (b : (Int × Int × (List (List Int)) × (List Int) × Unit)) (i_1 : Int) (k : Int) : ChO (fun κ => r3_Same_L14 a b i_1 (r9 κ) k) (r3_Same_L14 a b i_1 r9' k) := by
  unfold r3_Same_L14
  exact LFix_ch (fun κ => (r3_Same_L14_cn (r9 κ) a b i_1).mono) (r3_Same_L14_cn r9' a b i_1).mono (fun g h hg x => r3_Same_L14_B_ch r9 r9' h_r9 (fun κ k => g κ k) (fun k => h k) (fun k => hg k) a b i_1 x) _
theorem r3_Same_L9_B_ch (r9 : Nat → Int → Option (Bool)) (r9' : Int → Option (Bool)) (h_r9 : ∀ a0, ChO (fun κ => r9 κ a0) (r9' a0)) (a : (Int × Int × (List (List Int)) × (List Int) × Unit)) (b : (Int × Int × (List (List Int)) × (List Int) × Unit)) (i_1 : Int) : ChO (fun κ => r3_Same_L9_B a b (r9 κ) i_1) (r3_Same_L9_B a b r9' i_1) := by
  unfold r3_Same_L9_B
  repeat' with_reducible first | exact ChO.const _ | exact h_r9 _ | (apply r3_Same_L14_ch <;> assumption) | apply ChO.ite | apply ChO.G | apply ChO.both | (apply ChO.bind; intro _)
theorem r3_Same_L9_cn  (a : (Int × Int × (List (List Int)) × (List Int) × Unit)) (b : (Int × Int × (List (List Int)) × (List Int) × Unit)) : Cn (r3_Same_L9_F a b) := fun g h hg x => r3_Same_L9_B_ch  (fun κ i_1 => g κ i_1) (fun i_1 => h i_1) (fun i_1 => hg i_1) a b x
theorem r3_Same_L9_eq  (a : (Int × Int × (List (List Int)) × (List Int) × Unit)) (b : (Int × Int × (List (List Int)) × (List Int) × Unit)) (i_1 : Int) : r3_Same_L9 a b i_1 = r3_Same_L9_B a b (r3_Same_L9 a b) i_1 := LFix_eq (r3_Same_L9_cn a b) i_1
theorem r3_Same_L4_B_ch (r4 : Nat → Int → Option (Bool)) (r4' : Int → Option (Bool)) (h_r4 : ∀ a0, ChO (fun κ => r4 κ a0) (r4' a0)) (a : (Int × Int × (List (List Int)) × (List Int) × Unit)) (b : (Int × Int × (List (List Int)) × (List Int) × Unit)) (i : Int) : ChO (fun κ => r3_Same_L4_B a b (r4 κ) i) (r3_Same_L4_B a b r4' i) := by
  unfold r3_Same_L4_B
  repeat' with_reducible first | exact ChO.const _ | exact h_r4 _ | (apply r3_Same_L14_ch <;> assumption) | apply ChO.ite | apply ChO.G | apply ChO.both | (apply ChO.bind; intro _)
theorem r3_Same_L4_cn  (a : (Int × Int × (List (List Int)) × (List Int) × Unit)) (b : (Int × Int × (List (List Int)) × (List Int) × Unit)) : Cn (r3_Same_L4_F a b) := fun g h hg x => r3_Same_L4_B_ch  (fun κ i => g κ i) (fun i => h i) (fun i => hg i) a b x
theorem r3_Same_L4_eq  (a : (Int × Int × (List (List Int)) × (List Int) × Unit)) (b : (Int × Int × (List (List Int)) × (List Int) × Unit)) (i : Int) : r3_Same_L4 a b i = r3_Same_L4_B a b (r3_Same_L4 a b) i := LFix_eq (r3_Same_L4_cn a b) i

noncomputable def r1_May_L6_B (letters : Int) (w : (List Int)) (r6 : Int → Option (Int)) (i : Int) : Option (Int) :=
  if (decide (i < (w.length : Int))) = true then
  G (0 ≤ i ∧ i < (w.length : Int)) (
  if (decide ((ix w i) < (0 : Int))) = true then
  some (2 : Int) else
  G (0 ≤ i ∧ i < (w.length : Int)) (
  if (decide (letters ≤ (ix w i))) = true then
  some (2 : Int) else
  G (fits (i + (1 : Int))) (
  r6 (i + (1 : Int))))) else
  some (0 : Int)
noncomputable def r1_May_L6_F (letters : Int) (w : (List Int)) : (Int → Option (Int)) → Int → Option (Int) :=
  fun rec x => r1_May_L6_B letters w (fun i => rec i) x
noncomputable def r1_May_L6 (letters : Int) (w : (List Int)) (i : Int) : Option (Int) := LFix (r1_May_L6_F letters w ) i
noncomputable def r1_May (letters : Int) (w : (List Int)) : Option (Int) :=
  if (decide (letters < (1 : Int))) = true then
  some (2 : Int) else
  if (decide ((4 : Int) < letters)) = true then
  some (2 : Int) else
  if (decide ((60 : Int) < (w.length : Int))) = true then
  some (1 : Int) else
  r1_May_L6 letters w (0 : Int)
theorem r1_May_L6_B_ch (r6 : Nat → Int → Option (Int)) (r6' : Int → Option (Int)) (h_r6 : ∀ a0, ChO (fun κ => r6 κ a0) (r6' a0)) (letters : Int) (w : (List Int)) (i : Int) : ChO (fun κ => r1_May_L6_B letters w (r6 κ) i) (r1_May_L6_B letters w r6' i) := by
  unfold r1_May_L6_B
  repeat' with_reducible first | exact ChO.const _ | exact h_r6 _ | apply ChO.ite | apply ChO.G | apply ChO.both | (apply ChO.bind; intro _)
theorem r1_May_L6_cn  (letters : Int) (w : (List Int)) : Cn (r1_May_L6_F letters w) := fun g h hg x => r1_May_L6_B_ch  (fun κ i => g κ i) (fun i => h i) (fun i => hg i) letters w x
theorem r1_May_L6_eq  (letters : Int) (w : (List Int)) (i : Int) : r1_May_L6 letters w i = r1_May_L6_B letters w (r1_May_L6 letters w) i := LFix_eq (r1_May_L6_cn letters w) i

noncomputable def r25_Run_L7_B (t : (Int × Int × (List (List (Int × Int × Unit))) × (List Int) × Unit)) (w : (List Int)) (r7 : Int → Int → Int → Option (Bool × Int)) (q : Int) (at' : Int) (n : Int) : Option (Bool × Int) :=
  G (fits ((((([t.1]) ++ w) ++ ([t.1 + (1 : Int)])).length : Int) * (t.2.2.1.length : Int))) (
  if (decide (n ≤ ((((([t.1]) ++ w) ++ ([t.1 + (1 : Int)])).length : Int) * (t.2.2.1.length : Int)))) = true then
  if (decide (at' < (0 : Int))) = true then
  some (false, n) else
  if (decide (at' = (((([t.1]) ++ w) ++ ([t.1 + (1 : Int)])).length : Int))) = true then
  G (0 ≤ q ∧ q < (t.2.2.2.1.length : Int)) (
  some (decide ((ix t.2.2.2.1 q) = (1 : Int)), n)) else
  G (0 ≤ q ∧ q < (t.2.2.1.length : Int)) (
  G (0 ≤ at' ∧ at' < (((([t.1]) ++ w) ++ ([t.1 + (1 : Int)])).length : Int)) (
  G ((at').toNat < ((([t.1]) ++ w) ++ ([t.1 + (1 : Int)])).length) (
  G (0 ≤ ix ((([t.1]) ++ w) ++ ([t.1 + (1 : Int)])) at' ∧ ix ((([t.1]) ++ w) ++ ([t.1 + (1 : Int)])) at' < ((ix t.2.2.1 q).length : Int)) (
  G (fits (at' + (((ix (ix t.2.2.1 q) (ix ((([t.1]) ++ w) ++ ([t.1 + (1 : Int)])) at')).2).1))) (
  G (fits (n + (1 : Int))) (
  r7 ((ix (ix t.2.2.1 q) (ix ((([t.1]) ++ w) ++ ([t.1 + (1 : Int)])) at')).1) (at' + (((ix (ix t.2.2.1 q) (ix ((([t.1]) ++ w) ++ ([t.1 + (1 : Int)])) at')).2).1)) (n + (1 : Int)))))))) else
  some (false, (0 : Int)))
noncomputable def r25_Run_L7_F (t : (Int × Int × (List (List (Int × Int × Unit))) × (List Int) × Unit)) (w : (List Int)) : (Int × Int × Int → Option (Bool × Int)) → Int × Int × Int → Option (Bool × Int) :=
  fun rec x => r25_Run_L7_B t w (fun q at' n => rec (q, at', n)) x.1 x.2.1 x.2.2
noncomputable def r25_Run_L7 (t : (Int × Int × (List (List (Int × Int × Unit))) × (List Int) × Unit)) (w : (List Int)) (q : Int) (at' : Int) (n : Int) : Option (Bool × Int) := LFix (r25_Run_L7_F t w ) (q, at', n)
noncomputable def r25_Run (t : (Int × Int × (List (List (Int × Int × Unit))) × (List Int) × Unit)) (w : (List Int)) : Option (Bool × Int) :=
  G (room ([t.1]) w 8) (
  G (fits (t.1 + (1 : Int))) (
  G (room (([t.1]) ++ w) ([t.1 + (1 : Int)]) 8) (
  r25_Run_L7 t w t.2.1 (0 : Int) (0 : Int))))
theorem r25_Run_L7_B_ch (r7 : Nat → Int → Int → Int → Option (Bool × Int)) (r7' : Int → Int → Int → Option (Bool × Int)) (h_r7 : ∀ a0 a1 a2, ChO (fun κ => r7 κ a0 a1 a2) (r7' a0 a1 a2)) (t : (Int × Int × (List (List (Int × Int × Unit))) × (List Int) × Unit)) (w : (List Int)) (q : Int) (at' : Int) (n : Int) : ChO (fun κ => r25_Run_L7_B t w (r7 κ) q at' n) (r25_Run_L7_B t w r7' q at' n) := by
  unfold r25_Run_L7_B
  repeat' with_reducible first | exact ChO.const _ | exact h_r7 _ _ _ | apply ChO.ite | apply ChO.G | apply ChO.both | (apply ChO.bind; intro _)
theorem r25_Run_L7_cn  (t : (Int × Int × (List (List (Int × Int × Unit))) × (List Int) × Unit)) (w : (List Int)) : Cn (r25_Run_L7_F t w) := fun g h hg x => r25_Run_L7_B_ch  (fun κ q at' n => g κ (q, at', n)) (fun q at' n => h (q, at', n)) (fun q at' n => hg (q, at', n)) t w x.1 x.2.1 x.2.2
theorem r25_Run_L7_eq  (t : (Int × Int × (List (List (Int × Int × Unit))) × (List Int) × Unit)) (w : (List Int)) (q : Int) (at' : Int) (n : Int) : r25_Run_L7 t w q at' n = r25_Run_L7_B t w (r25_Run_L7 t w) q at' n := LFix_eq (r25_Run_L7_cn t w) (q, at', n)

noncomputable def r3_After_L2_B (d : (Int × Int × (List (List Int)) × (List Int) × Unit)) (w : (List Int)) (r2 : Int → Int → Option (Int)) (q_1 : Int) (i : Int) : Option (Int) :=
  if (decide (i < (w.length : Int))) = true then
  G (0 ≤ q_1 ∧ q_1 < (d.2.2.1.length : Int)) (
  G (0 ≤ i ∧ i < (w.length : Int)) (
  G (0 ≤ ix w i ∧ ix w i < ((ix d.2.2.1 q_1).length : Int)) (
  G (fits (i + (1 : Int))) (
  r2 (ix (ix d.2.2.1 q_1) (ix w i)) (i + (1 : Int)))))) else
  some q_1
noncomputable def r3_After_L2_F (d : (Int × Int × (List (List Int)) × (List Int) × Unit)) (w : (List Int)) : (Int × Int → Option (Int)) → Int × Int → Option (Int) :=
  fun rec x => r3_After_L2_B d w (fun q_1 i => rec (q_1, i)) x.1 x.2
noncomputable def r3_After_L2 (d : (Int × Int × (List (List Int)) × (List Int) × Unit)) (w : (List Int)) (q_1 : Int) (i : Int) : Option (Int) := LFix (r3_After_L2_F d w ) (q_1, i)
noncomputable def r3_After (d : (Int × Int × (List (List Int)) × (List Int) × Unit)) (q : Int) (w : (List Int)) : Option (Int) :=
  r3_After_L2 d w q (0 : Int)
theorem r3_After_L2_B_ch (r2 : Nat → Int → Int → Option (Int)) (r2' : Int → Int → Option (Int)) (h_r2 : ∀ a0 a1, ChO (fun κ => r2 κ a0 a1) (r2' a0 a1)) (d : (Int × Int × (List (List Int)) × (List Int) × Unit)) (w : (List Int)) (q_1 : Int) (i : Int) : ChO (fun κ => r3_After_L2_B d w (r2 κ) q_1 i) (r3_After_L2_B d w r2' q_1 i) := by
  unfold r3_After_L2_B
  repeat' with_reducible first | exact ChO.const _ | exact h_r2 _ _ | apply ChO.ite | apply ChO.G | apply ChO.both | (apply ChO.bind; intro _)
theorem r3_After_L2_cn  (d : (Int × Int × (List (List Int)) × (List Int) × Unit)) (w : (List Int)) : Cn (r3_After_L2_F d w) := fun g h hg x => r3_After_L2_B_ch  (fun κ q_1 i => g κ (q_1, i)) (fun q_1 i => h (q_1, i)) (fun q_1 i => hg (q_1, i)) d w x.1 x.2
theorem r3_After_L2_eq  (d : (Int × Int × (List (List Int)) × (List Int) × Unit)) (w : (List Int)) (q_1 : Int) (i : Int) : r3_After_L2 d w q_1 i = r3_After_L2_B d w (r3_After_L2 d w) q_1 i := LFix_eq (r3_After_L2_cn d w) (q_1, i)

noncomputable def r3_Accepts (d : (Int × Int × (List (List Int)) × (List Int) × Unit)) (w : (List Int)) : Option (Bool) :=
  (r3_After (d.1, (d.2.1, (d.2.2.1, (d.2.2.2.1, ())))) d.2.1 w).bind (fun y' =>
  G (0 ≤ y' ∧ y' < (d.2.2.2.1.length : Int)) (
  some (decide ((ix d.2.2.2.1 y') = (1 : Int)))))

noncomputable def law_TwoDet (t : (Int × Int × (List (List (Int × Int × Unit))) × (List Int) × Unit)) (w : (List Int)) : Option (Bool) :=
  (two_Det (t.1, (t.2.1, (t.2.2.1, (t.2.2.2.1, ()))))).bind (fun y'_16 =>
  (law_noDet (y'_16.1.1, (y'_16.1.2.1, (y'_16.1.2.2.1, (y'_16.1.2.2.2.1, ()))))).bind (fun y'_3 =>
  (r25_Check (t.1, (t.2.1, (t.2.2.1, (t.2.2.2.1, ()))))).bind (fun y'_4 =>
  if (decide (¬ y'_4 = (0 : Int))) = true then
  if (decide (y'_16.2 = y'_4)) = true then
  some y'_3 else
  some false else
  (r25_Det (t.1, (t.2.1, (t.2.2.1, (t.2.2.2.1, ()))))).bind (fun y'_15 =>
  if y'_15.2 = true then
  some true else
  (r3_Same (y'_16.1.1, (y'_16.1.2.1, (y'_16.1.2.2.1, (y'_16.1.2.2.2.1, ())))) (y'_15.1.1, (y'_15.1.2.1, (y'_15.1.2.2.1, (y'_15.1.2.2.2.1, ()))))).bind (fun y'_8 =>
  if (decide (¬ y'_16.2 = (0 : Int))) = true then
  some false else
  if (!y'_8) = true then
  some false else
  (r1_May t.1 w).bind (fun y'_9 =>
  if (decide (¬ y'_9 = (0 : Int))) = true then
  some true else
  (r25_Run (t.1, (t.2.1, (t.2.2.1, (t.2.2.2.1, ())))) w).bind (fun y'_14 =>
  (r3_Accepts (y'_16.1.1, (y'_16.1.2.1, (y'_16.1.2.2.1, (y'_16.1.2.2.2.1, ())))) w).bind (fun y'_13 =>
  some (decide (y'_14.1 = y'_13))))))))))

end Go.Proofs.Ytmlohdkgmabfdaa.twoDetW
