/- What the functions that 'TreeAccepts' reaches compute: plain functions. -/
import Derived.Test.YtiihghghjoonhaaEv20n21
set_option maxHeartbeats 1000000
set_option maxRecDepth 20000
set_option linter.unusedSimpArgs false
set_option linter.unusedVariables false
set_option linter.unusedSectionVars false
namespace Go.Proofs.Ytiihghghjoonhaa.treeAcceptsW
open Go Go.Ab
noncomputable def tree_Check_1 (q : Int) (t : (Int × Int × (List (Int × Int × Int × Int × Unit)) × Int × (List Int) × Unit)) : Option (Bool) :=
  if (decide (q < (0 : Int))) = true then
  some true else
  some (decide (t.2.1 ≤ q))

noncomputable def tree_Check_2 (m : Int) : Option (Bool) :=
  if (decide (¬ m = (0 : Int))) = true then
  some (decide (¬ m = (1 : Int))) else
  some false

noncomputable def slices_IndexFunc_L2_B (s : (List Int)) (r2 : Int → Option (Int)) (t : Int) : Option (Int) :=
  if (decide (t < (s.length : Int))) = true then
  G (0 ≤ t ∧ t < (s.length : Int)) (
  (tree_Check_2 (ix s t)).bind (fun y' =>
  if y' = true then
  some t else
  G (fits (t + (1 : Int))) (
  r2 (t + (1 : Int))))) else
  some (-1 : Int)
noncomputable def slices_IndexFunc_L2_F (s : (List Int)) : (Int → Option (Int)) → Int → Option (Int) :=
  fun rec x => slices_IndexFunc_L2_B s (fun t => rec t) x
noncomputable def slices_IndexFunc_L2 (s : (List Int)) (t : Int) : Option (Int) := LFix (slices_IndexFunc_L2_F s ) t
noncomputable def slices_IndexFunc (s : (List Int)) : Option (Int) :=
  slices_IndexFunc_L2 s (0 : Int)
theorem slices_IndexFunc_L2_B_ch (r2 : Nat → Int → Option (Int)) (r2' : Int → Option (Int)) (h_r2 : ∀ a0, ChO (fun κ => r2 κ a0) (r2' a0)) (s : (List Int)) (t : Int) : ChO (fun κ => slices_IndexFunc_L2_B s (r2 κ) t) (slices_IndexFunc_L2_B s r2' t) := by
  unfold slices_IndexFunc_L2_B
  repeat' with_reducible first | exact ChO.const _ | exact h_r2 _ | apply ChO.ite | apply ChO.G | apply ChO.both | (apply ChO.bind; intro _)
theorem slices_IndexFunc_L2_cn  (s : (List Int)) : Cn (slices_IndexFunc_L2_F s) := fun g h hg x => slices_IndexFunc_L2_B_ch  (fun κ t => g κ t) (fun t => h t) (fun t => hg t) s x
theorem slices_IndexFunc_L2_eq  (s : (List Int)) (t : Int) : slices_IndexFunc_L2 s t = slices_IndexFunc_L2_B s (slices_IndexFunc_L2 s) t := LFix_eq (slices_IndexFunc_L2_cn s) t

noncomputable def slices_ContainsFunc (s : (List Int)) : Option (Bool) :=
  (slices_IndexFunc s).bind (fun y' =>
  some (decide ((0 : Int) ≤ y')))

noncomputable def cmp_isNaN (x' : Int) : Option (Bool) :=
  some (decide (¬ x' = x'))

noncomputable def cmp_Compare (x' : Int) (y' : Int) : Option (Int) :=
  (cmp_isNaN x').bind (fun y'_1 =>
  (cmp_isNaN y').bind (fun y'_2 =>
  if y'_1 = true then
  if y'_2 = true then
  some (0 : Int) else
  some (-1 : Int) else
  if y'_2 = true then
  some (1 : Int) else
  if (decide (x' < y')) = true then
  some (-1 : Int) else
  if (decide (y' < x')) = true then
  some (1 : Int) else
  some (0 : Int)))

noncomputable def cmp_Or_L3_B (vals : (List Int)) (r3 : Int → Option (Int)) (t : Int) : Option (Int) :=
  if (decide (t < (vals.length : Int))) = true then
  G (0 ≤ t ∧ t < (vals.length : Int)) (
  if (decide (¬ (ix vals t) = (0 : Int))) = true then
  some (ix vals t) else
  G (fits (t + (1 : Int))) (
  r3 (t + (1 : Int)))) else
  some (0 : Int)
noncomputable def cmp_Or_L3_F (vals : (List Int)) : (Int → Option (Int)) → Int → Option (Int) :=
  fun rec x => cmp_Or_L3_B vals (fun t => rec t) x
noncomputable def cmp_Or_L3 (vals : (List Int)) (t : Int) : Option (Int) := LFix (cmp_Or_L3_F vals ) t
noncomputable def cmp_Or (vals : (List Int)) : Option (Int) :=
  cmp_Or_L3 vals (0 : Int)
theorem cmp_Or_L3_B_ch (r3 : Nat → Int → Option (Int)) (r3' : Int → Option (Int)) (h_r3 : ∀ a0, ChO (fun κ => r3 κ a0) (r3' a0)) (vals : (List Int)) (t : Int) : ChO (fun κ => cmp_Or_L3_B vals (r3 κ) t) (cmp_Or_L3_B vals r3' t) := by
  unfold cmp_Or_L3_B
  repeat' with_reducible first | exact ChO.const _ | exact h_r3 _ | apply ChO.ite | apply ChO.G | apply ChO.both | (apply ChO.bind; intro _)
theorem cmp_Or_L3_cn  (vals : (List Int)) : Cn (cmp_Or_L3_F vals) := fun g h hg x => cmp_Or_L3_B_ch  (fun κ t => g κ t) (fun t => h t) (fun t => hg t) vals x
theorem cmp_Or_L3_eq  (vals : (List Int)) (t : Int) : cmp_Or_L3 vals t = cmp_Or_L3_B vals (cmp_Or_L3 vals) t := LFix_eq (cmp_Or_L3_cn vals) t

noncomputable def tree_Order (x' : (Int × Int × Int × Int × Unit)) (y' : (Int × Int × Int × Int × Unit)) : Option (Int) :=
  (cmp_Compare x'.1 y'.1).bind (fun y'_1 =>
  (cmp_Compare x'.2.1 y'.2.1).bind (fun y'_2 =>
  (cmp_Compare x'.2.2.1 y'.2.2.1).bind (fun y'_3 =>
  (cmp_Compare x'.2.2.2.1 y'.2.2.2.1).bind (fun y'_4 =>
  (cmp_Or ([y'_1, y'_2, y'_3, y'_4])).bind (fun y'_5 =>
  some y'_5)))))

noncomputable def tree_Check_J9 (t : (Int × Int × (List (Int × Int × Int × Int × Unit)) × Int × (List Int) × Unit)) (t_1 : Int) (r7 : (Int → Option (Int))) (leaf : Bool) : Option (Int) :=
  if (decide (((ix t.2.2.1 t_1).1) < (0 : Int))) = true then
  some (2 : Int) else
  if (decide (t.1 ≤ ((ix t.2.2.1 t_1).1))) = true then
  some (2 : Int) else
  (tree_Check_1 (((((ix t.2.2.1 t_1).2).2).2).1) (t.1, (t.2.1, (t.2.2.1, (t.2.2.2.1, (t.2.2.2.2.1, ())))))).bind (fun y' =>
  if y' = true then
  some (2 : Int) else
  if (!leaf) = true then
  (tree_Check_1 (((ix t.2.2.1 t_1).2).1) (t.1, (t.2.1, (t.2.2.1, (t.2.2.2.1, (t.2.2.2.2.1, ())))))).bind (fun y'_1 =>
  if y'_1 = true then
  some (2 : Int) else
  (tree_Check_1 ((((ix t.2.2.1 t_1).2).2).1) (t.1, (t.2.1, (t.2.2.1, (t.2.2.2.1, (t.2.2.2.2.1, ())))))).bind (fun y'_2 =>
  if y'_2 = true then
  some (2 : Int) else
  G (fits (t_1 + (1 : Int))) (
  r7 (t_1 + (1 : Int))))) else
  G (fits (t_1 + (1 : Int))) (
  r7 (t_1 + (1 : Int))))
noncomputable def tree_Check_L16_B (t : (Int × Int × (List (Int × Int × Int × Int × Unit)) × Int × (List Int) × Unit)) (r16 : Int → Option (Int)) (t_2 : Int) : Option (Int) :=
  if (decide (t_2 < (t.2.2.1.length : Int))) = true then
  if (decide ((0 : Int) < t_2)) = true then
  G (fits (t_2 - (1 : Int))) (
  G (0 ≤ t_2 - (1 : Int) ∧ t_2 - (1 : Int) < (t.2.2.1.length : Int)) (
  G (0 ≤ t_2 ∧ t_2 < (t.2.2.1.length : Int)) (
  (tree_Order (ix t.2.2.1 (t_2 - (1 : Int))) (ix t.2.2.1 t_2)).bind (fun y'_4 =>
  if (decide ((0 : Int) ≤ y'_4)) = true then
  some (3 : Int) else
  G (fits (t_2 + (1 : Int))) (
  r16 (t_2 + (1 : Int))))))) else
  G (fits (t_2 + (1 : Int))) (
  r16 (t_2 + (1 : Int))) else
  if (decide (¬ t.2.2.2.1 = (0 : Int))) = true then
  some (3 : Int) else
  some (0 : Int)
noncomputable def tree_Check_L16_F (t : (Int × Int × (List (Int × Int × Int × Int × Unit)) × Int × (List Int) × Unit)) : (Int → Option (Int)) → Int → Option (Int) :=
  fun rec x => tree_Check_L16_B t (fun t_2 => rec t_2) x
noncomputable def tree_Check_L16 (t : (Int × Int × (List (Int × Int × Int × Int × Unit)) × Int × (List Int) × Unit)) (t_2 : Int) : Option (Int) := LFix (tree_Check_L16_F t ) t_2
noncomputable def tree_Check_L7_B (t : (Int × Int × (List (Int × Int × Int × Int × Unit)) × Int × (List Int) × Unit)) (r7 : Int → Option (Int)) (t_1 : Int) : Option (Int) :=
  if (decide (t_1 < (t.2.2.1.length : Int))) = true then
  G (0 ≤ t_1 ∧ t_1 < (t.2.2.1.length : Int)) (
  if (decide ((((ix t.2.2.1 t_1).2).1) = (-1 : Int))) = true then
  tree_Check_J9 t t_1 r7 (decide (((((ix t.2.2.1 t_1).2).2).1) = (-1 : Int))) else
  tree_Check_J9 t t_1 r7 false) else
  (slices_ContainsFunc t.2.2.2.2.1).bind (fun y'_3 =>
  if y'_3 = true then
  some (2 : Int) else
  tree_Check_L16 t (0 : Int))
noncomputable def tree_Check_L7_F (t : (Int × Int × (List (Int × Int × Int × Int × Unit)) × Int × (List Int) × Unit)) : (Int → Option (Int)) → Int → Option (Int) :=
  fun rec x => tree_Check_L7_B t (fun t_1 => rec t_1) x
noncomputable def tree_Check_L7 (t : (Int × Int × (List (Int × Int × Int × Int × Unit)) × Int × (List Int) × Unit)) (t_1 : Int) : Option (Int) := LFix (tree_Check_L7_F t ) t_1
noncomputable def tree_Check (t : (Int × Int × (List (Int × Int × Int × Int × Unit)) × Int × (List Int) × Unit)) : Option (Int) :=
  if (decide (t.1 < (1 : Int))) = true then
  some (2 : Int) else
  if (decide ((4 : Int) < t.1)) = true then
  some (2 : Int) else
  if (decide (t.2.1 < (1 : Int))) = true then
  some (1 : Int) else
  if (decide ((300 : Int) < t.2.1)) = true then
  some (1 : Int) else
  if (decide ((40000 : Int) < (t.2.2.1.length : Int))) = true then
  some (1 : Int) else
  if (decide (¬ (t.2.2.2.2.1.length : Int) = t.2.1)) = true then
  some (1 : Int) else
  tree_Check_L7 t (0 : Int)
theorem tree_Check_J9_ch (r7 : Nat → Int → Option (Int)) (r7' : Int → Option (Int)) (h_r7 : ∀ a0, ChO (fun κ => r7 κ a0) (r7' a0)) (t : (Int × Int × (List (Int × Int × Int × Int × Unit)) × Int × (List Int) × Unit)) (t_1 : Int) (leaf : Bool) : ChO (fun κ => tree_Check_J9 t t_1 (r7 κ) leaf) (tree_Check_J9 t t_1 r7' leaf) := by
  unfold tree_Check_J9
  repeat' with_reducible first | exact ChO.const _ | exact h_r7 _ | apply ChO.ite | apply ChO.G | apply ChO.both | (apply ChO.bind; intro _)
theorem tree_Check_L16_B_ch (r16 : Nat → Int → Option (Int)) (r16' : Int → Option (Int)) (h_r16 : ∀ a0, ChO (fun κ => r16 κ a0) (r16' a0)) (t : (Int × Int × (List (Int × Int × Int × Int × Unit)) × Int × (List Int) × Unit)) (t_2 : Int) : ChO (fun κ => tree_Check_L16_B t (r16 κ) t_2) (tree_Check_L16_B t r16' t_2) := by
  unfold tree_Check_L16_B
  repeat' with_reducible first | exact ChO.const _ | exact h_r16 _ | (apply tree_Check_J9_ch <;> assumption) | apply ChO.ite | apply ChO.G | apply ChO.both | (apply ChO.bind; intro _)
theorem tree_Check_L16_cn  (t : (Int × Int × (List (Int × Int × Int × Int × Unit)) × Int × (List Int) × Unit)) : Cn (tree_Check_L16_F t) := fun g h hg x => tree_Check_L16_B_ch  (fun κ t_2 => g κ t_2) (fun t_2 => h t_2) (fun t_2 => hg t_2) t x
theorem tree_Check_L16_eq  (t : (Int × Int × (List (Int × Int × Int × Int × Unit)) × Int × (List Int) × Unit)) (t_2 : Int) : tree_Check_L16 t t_2 = tree_Check_L16_B t (tree_Check_L16 t) t_2 := LFix_eq (tree_Check_L16_cn t) t_2
theorem tree_Check_L7_B_ch (r7 : Nat → Int → Option (Int)) (r7' : Int → Option (Int)) (h_r7 : ∀ a0, ChO (fun κ => r7 κ a0) (r7' a0)) (t : (Int × Int × (List (Int × Int × Int × Int × Unit)) × Int × (List Int) × Unit)) (t_1 : Int) : ChO (fun κ => tree_Check_L7_B t (r7 κ) t_1) (tree_Check_L7_B t r7' t_1) := by
  unfold tree_Check_L7_B
  repeat' with_reducible first | exact ChO.const _ | exact h_r7 _ | (apply tree_Check_J9_ch <;> assumption) | apply ChO.ite | apply ChO.G | apply ChO.both | (apply ChO.bind; intro _)
theorem tree_Check_L7_cn  (t : (Int × Int × (List (Int × Int × Int × Int × Unit)) × Int × (List Int) × Unit)) : Cn (tree_Check_L7_F t) := fun g h hg x => tree_Check_L7_B_ch  (fun κ t_1 => g κ t_1) (fun t_1 => h t_1) (fun t_1 => hg t_1) t x
theorem tree_Check_L7_eq  (t : (Int × Int × (List (Int × Int × Int × Int × Unit)) × Int × (List Int) × Unit)) (t_1 : Int) : tree_Check_L7 t t_1 = tree_Check_L7_B t (tree_Check_L7 t) t_1 := LFix_eq (tree_Check_L7_cn t) t_1

noncomputable def r12_Ahead (x' : (Int × Int × Int × Int × Unit)) (y' : (Int × Int × Int × Int × Unit)) : Option (Bool) :=
  if (decide (¬ x'.1 = y'.1)) = true then
  some (decide (x'.1 < y'.1)) else
  if (decide (¬ x'.2.1 = y'.2.1)) = true then
  some (decide (x'.2.1 < y'.2.1)) else
  if (decide (¬ x'.2.2.1 = y'.2.2.1)) = true then
  some (decide (x'.2.2.1 < y'.2.2.1)) else
  some (decide (x'.2.2.2.1 < y'.2.2.2.1))

noncomputable def r12_Check_J10 (t : (Int × Int × (List (Int × Int × Int × Int × Unit)) × Int × (List Int) × Unit)) (i : Int) (r6 : (Int → Option (Int))) (leaf : Bool) (both' : Bool) : Option (Int) :=
  if (decide (((ix t.2.2.1 i).1) < (0 : Int))) = true then
  some (2 : Int) else
  if (decide (t.1 ≤ ((ix t.2.2.1 i).1))) = true then
  some (2 : Int) else
  if (decide ((((((ix t.2.2.1 i).2).2).2).1) < (0 : Int))) = true then
  some (2 : Int) else
  if (decide (t.2.1 ≤ (((((ix t.2.2.1 i).2).2).2).1))) = true then
  some (2 : Int) else
  if (!leaf) = true then
  if (!both') = true then
  some (2 : Int) else
  G (fits (i + (1 : Int))) (
  r6 (i + (1 : Int))) else
  G (fits (i + (1 : Int))) (
  r6 (i + (1 : Int)))
noncomputable def r12_Check_J9 (t : (Int × Int × (List (Int × Int × Int × Int × Unit)) × Int × (List Int) × Unit)) (i : Int) (r6 : (Int → Option (Int))) (leaf : Bool) : Option (Int) :=
  if (decide ((0 : Int) ≤ (((ix t.2.2.1 i).2).1))) = true then
  if (decide ((((ix t.2.2.1 i).2).1) < t.2.1)) = true then
  if (decide ((0 : Int) ≤ ((((ix t.2.2.1 i).2).2).1))) = true then
  r12_Check_J10 t i r6 leaf (decide (((((ix t.2.2.1 i).2).2).1) < t.2.1)) else
  r12_Check_J10 t i r6 leaf false else
  r12_Check_J10 t i r6 leaf false else
  r12_Check_J10 t i r6 leaf false
noncomputable def r12_Check_L19_B (t : (Int × Int × (List (Int × Int × Int × Int × Unit)) × Int × (List Int) × Unit)) (r19 : Int → Option (Int)) (i_2 : Int) : Option (Int) :=
  if (decide (i_2 < (t.2.2.1.length : Int))) = true then
  G (fits (i_2 - (1 : Int))) (
  G (0 ≤ i_2 - (1 : Int) ∧ i_2 - (1 : Int) < (t.2.2.1.length : Int)) (
  G (0 ≤ i_2 ∧ i_2 < (t.2.2.1.length : Int)) (
  (r12_Ahead (ix t.2.2.1 (i_2 - (1 : Int))) (ix t.2.2.1 i_2)).bind (fun y' =>
  if (!y') = true then
  some (3 : Int) else
  G (fits (i_2 + (1 : Int))) (
  r19 (i_2 + (1 : Int))))))) else
  if (decide (¬ t.2.2.2.1 = (0 : Int))) = true then
  some (3 : Int) else
  some (0 : Int)
noncomputable def r12_Check_L19_F (t : (Int × Int × (List (Int × Int × Int × Int × Unit)) × Int × (List Int) × Unit)) : (Int → Option (Int)) → Int → Option (Int) :=
  fun rec x => r12_Check_L19_B t (fun i_2 => rec i_2) x
noncomputable def r12_Check_L19 (t : (Int × Int × (List (Int × Int × Int × Int × Unit)) × Int × (List Int) × Unit)) (i_2 : Int) : Option (Int) := LFix (r12_Check_L19_F t ) i_2
noncomputable def r12_Check_L14_B (t : (Int × Int × (List (Int × Int × Int × Int × Unit)) × Int × (List Int) × Unit)) (r14 : Int → Option (Int)) (i_1 : Int) : Option (Int) :=
  if (decide (i_1 < (t.2.2.2.2.1.length : Int))) = true then
  G (0 ≤ i_1 ∧ i_1 < (t.2.2.2.2.1.length : Int)) (
  if (decide (¬ (ix t.2.2.2.2.1 i_1) = (0 : Int))) = true then
  G (0 ≤ i_1 ∧ i_1 < (t.2.2.2.2.1.length : Int)) (
  if (decide (¬ (ix t.2.2.2.2.1 i_1) = (1 : Int))) = true then
  some (2 : Int) else
  G (fits (i_1 + (1 : Int))) (
  r14 (i_1 + (1 : Int)))) else
  G (fits (i_1 + (1 : Int))) (
  r14 (i_1 + (1 : Int)))) else
  r12_Check_L19 t (1 : Int)
noncomputable def r12_Check_L14_F (t : (Int × Int × (List (Int × Int × Int × Int × Unit)) × Int × (List Int) × Unit)) : (Int → Option (Int)) → Int → Option (Int) :=
  fun rec x => r12_Check_L14_B t (fun i_1 => rec i_1) x
noncomputable def r12_Check_L14 (t : (Int × Int × (List (Int × Int × Int × Int × Unit)) × Int × (List Int) × Unit)) (i_1 : Int) : Option (Int) := LFix (r12_Check_L14_F t ) i_1
noncomputable def r12_Check_L6_B (t : (Int × Int × (List (Int × Int × Int × Int × Unit)) × Int × (List Int) × Unit)) (r6 : Int → Option (Int)) (i : Int) : Option (Int) :=
  if (decide (i < (t.2.2.1.length : Int))) = true then
  G (0 ≤ i ∧ i < (t.2.2.1.length : Int)) (
  if (decide ((((ix t.2.2.1 i).2).1) = (-1 : Int))) = true then
  r12_Check_J9 t i r6 (decide (((((ix t.2.2.1 i).2).2).1) = (-1 : Int))) else
  r12_Check_J9 t i r6 false) else
  r12_Check_L14 t (0 : Int)
noncomputable def r12_Check_L6_F (t : (Int × Int × (List (Int × Int × Int × Int × Unit)) × Int × (List Int) × Unit)) : (Int → Option (Int)) → Int → Option (Int) :=
  fun rec x => r12_Check_L6_B t (fun i => rec i) x
noncomputable def r12_Check_L6 (t : (Int × Int × (List (Int × Int × Int × Int × Unit)) × Int × (List Int) × Unit)) (i : Int) : Option (Int) := LFix (r12_Check_L6_F t ) i
noncomputable def r12_Check (t : (Int × Int × (List (Int × Int × Int × Int × Unit)) × Int × (List Int) × Unit)) : Option (Int) :=
  if (decide (t.1 < (1 : Int))) = true then
  some (2 : Int) else
  if (decide ((4 : Int) < t.1)) = true then
  some (2 : Int) else
  if (decide (t.2.1 < (1 : Int))) = true then
  some (1 : Int) else
  if (decide ((300 : Int) < t.2.1)) = true then
  some (1 : Int) else
  if (decide ((40000 : Int) < (t.2.2.1.length : Int))) = true then
  some (1 : Int) else
  if (decide (¬ (t.2.2.2.2.1.length : Int) = t.2.1)) = true then
  some (1 : Int) else
  r12_Check_L6 t (0 : Int)
theorem r12_Check_J10_ch (r6 : Nat → Int → Option (Int)) (r6' : Int → Option (Int)) (h_r6 : ∀ a0, ChO (fun κ => r6 κ a0) (r6' a0)) (t : (Int × Int × (List (Int × Int × Int × Int × Unit)) × Int × (List Int) × Unit)) (i : Int) (leaf : Bool) (both' : Bool) : ChO (fun κ => r12_Check_J10 t i (r6 κ) leaf both') (r12_Check_J10 t i r6' leaf both') := by
  unfold r12_Check_J10
  repeat' with_reducible first | exact ChO.const _ | exact h_r6 _ | apply ChO.ite | apply ChO.G | apply ChO.both | (apply ChO.bind; intro _)
theorem r12_Check_J9_ch (r6 : Nat → Int → Option (Int)) (r6' : Int → Option (Int)) (h_r6 : ∀ a0, ChO (fun κ => r6 κ a0) (r6' a0)) (t : (Int × Int × (List (Int × Int × Int × Int × Unit)) × Int × (List Int) × Unit)) (i : Int) (leaf : Bool) : ChO (fun κ => r12_Check_J9 t i (r6 κ) leaf) (r12_Check_J9 t i r6' leaf) := by
  unfold r12_Check_J9
  repeat' with_reducible first | exact ChO.const _ | exact h_r6 _ | (apply r12_Check_J10_ch <;> assumption) | apply ChO.ite | apply ChO.G | apply ChO.both | (apply ChO.bind; intro _)
theorem r12_Check_L19_B_ch (r19 : Nat → Int → Option (Int)) (r19' : Int → Option (Int)) (h_r19 : ∀ a0, ChO (fun κ => r19 κ a0) (r19' a0)) (t : (Int × Int × (List (Int × Int × Int × Int × Unit)) × Int × (List Int) × Unit)) (i_2 : Int) : ChO (fun κ => r12_Check_L19_B t (r19 κ) i_2) (r12_Check_L19_B t r19' i_2) := by
  unfold r12_Check_L19_B
  repeat' with_reducible first | exact ChO.const _ | exact h_r19 _ | (apply r12_Check_J10_ch <;> assumption) | (apply r12_Check_J9_ch <;> assumption) | apply ChO.ite | apply ChO.G | apply ChO.both | (apply ChO.bind; intro _)
theorem r12_Check_L19_cn  (t : (Int × Int × (List (Int × Int × Int × Int × Unit)) × Int × (List Int) × Unit)) : Cn (r12_Check_L19_F t) := fun g h hg x => r12_Check_L19_B_ch  (fun κ i_2 => g κ i_2) (fun i_2 => h i_2) (fun i_2 => hg i_2) t x
theorem r12_Check_L19_eq  (t : (Int × Int × (List (Int × Int × Int × Int × Unit)) × Int × (List Int) × Unit)) (i_2 : Int) : r12_Check_L19 t i_2 = r12_Check_L19_B t (r12_Check_L19 t) i_2 := LFix_eq (r12_Check_L19_cn t) i_2
theorem r12_Check_L14_B_ch (r14 : Nat → Int → Option (Int)) (r14' : Int → Option (Int)) (h_r14 : ∀ a0, ChO (fun κ => r14 κ a0) (r14' a0)) (t : (Int × Int × (List (Int × Int × Int × Int × Unit)) × Int × (List Int) × Unit)) (i_1 : Int) : ChO (fun κ => r12_Check_L14_B t (r14 κ) i_1) (r12_Check_L14_B t r14' i_1) := by
  unfold r12_Check_L14_B
  repeat' with_reducible first | exact ChO.const _ | exact h_r14 _ | (apply r12_Check_J10_ch <;> assumption) | (apply r12_Check_J9_ch <;> assumption) | apply ChO.ite | apply ChO.G | apply ChO.both | (apply ChO.bind; intro _)
theorem r12_Check_L14_cn  (t : (Int × Int × (List (Int × Int × Int × Int × Unit)) × Int × (List Int) × Unit)) : Cn (r12_Check_L14_F t) := fun g h hg x => r12_Check_L14_B_ch  (fun κ i_1 => g κ i_1) (fun i_1 => h i_1) (fun i_1 => hg i_1) t x
theorem r12_Check_L14_eq  (t : (Int × Int × (List (Int × Int × Int × Int × Unit)) × Int × (List Int) × Unit)) (i_1 : Int) : r12_Check_L14 t i_1 = r12_Check_L14_B t (r12_Check_L14 t) i_1 := LFix_eq (r12_Check_L14_cn t) i_1
theorem r12_Check_L6_B_ch (r6 : Nat → Int → Option (Int)) (r6' : Int → Option (Int)) (h_r6 : ∀ a0, ChO (fun κ => r6 κ a0) (r6' a0)) (t : (Int × Int × (List (Int × Int × Int × Int × Unit)) × Int × (List Int) × Unit)) (i : Int) : ChO (fun κ => r12_Check_L6_B t (r6 κ) i) (r12_Check_L6_B t r6' i) := by
  unfold r12_Check_L6_B
  repeat' with_reducible first | exact ChO.const _ | exact h_r6 _ | (apply r12_Check_J10_ch <;> assumption) | (apply r12_Check_J9_ch <;> assumption) | apply ChO.ite | apply ChO.G | apply ChO.both | (apply ChO.bind; intro _)
theorem r12_Check_L6_cn  (t : (Int × Int × (List (Int × Int × Int × Int × Unit)) × Int × (List Int) × Unit)) : Cn (r12_Check_L6_F t) := fun g h hg x => r12_Check_L6_B_ch  (fun κ i => g κ i) (fun i => h i) (fun i => hg i) t x
theorem r12_Check_L6_eq  (t : (Int × Int × (List (Int × Int × Int × Int × Unit)) × Int × (List Int) × Unit)) (i : Int) : r12_Check_L6 t i = r12_Check_L6_B t (r12_Check_L6 t) i := LFix_eq (r12_Check_L6_cn t) i

noncomputable def slices_Index_L2_B (s : (List Bool)) (v : Bool) (r2 : Int → Option (Int)) (t : Int) : Option (Int) :=
  if (decide (t < (s.length : Int))) = true then
  G (0 ≤ t ∧ t < (s.length : Int)) (
  if (decide (v = (ix s t))) = true then
  some t else
  G (fits (t + (1 : Int))) (
  r2 (t + (1 : Int)))) else
  some (-1 : Int)
noncomputable def slices_Index_L2_F (s : (List Bool)) (v : Bool) : (Int → Option (Int)) → Int → Option (Int) :=
  fun rec x => slices_Index_L2_B s v (fun t => rec t) x
noncomputable def slices_Index_L2 (s : (List Bool)) (v : Bool) (t : Int) : Option (Int) := LFix (slices_Index_L2_F s v ) t
noncomputable def slices_Index (s : (List Bool)) (v : Bool) : Option (Int) :=
  slices_Index_L2 s v (0 : Int)
theorem slices_Index_L2_B_ch (r2 : Nat → Int → Option (Int)) (r2' : Int → Option (Int)) (h_r2 : ∀ a0, ChO (fun κ => r2 κ a0) (r2' a0)) (s : (List Bool)) (v : Bool) (t : Int) : ChO (fun κ => slices_Index_L2_B s v (r2 κ) t) (slices_Index_L2_B s v r2' t) := by
  unfold slices_Index_L2_B
  repeat' with_reducible first | exact ChO.const _ | exact h_r2 _ | apply ChO.ite | apply ChO.G | apply ChO.both | (apply ChO.bind; intro _)
theorem slices_Index_L2_cn  (s : (List Bool)) (v : Bool) : Cn (slices_Index_L2_F s v) := fun g h hg x => slices_Index_L2_B_ch  (fun κ t => g κ t) (fun t => h t) (fun t => hg t) s v x
theorem slices_Index_L2_eq  (s : (List Bool)) (v : Bool) (t : Int) : slices_Index_L2 s v t = slices_Index_L2_B s v (slices_Index_L2 s v) t := LFix_eq (slices_Index_L2_cn s v) t

noncomputable def slices_Contains (s : (List Bool)) (v : Bool) : Option (Bool) :=
  (slices_Index s v).bind (fun y' =>
  some (decide ((0 : Int) ≤ y')))

noncomputable def tree_Tree_L14_B (t : ((List (Int × Int × Int × Unit)) × Unit)) (t_1 : Int) (r8 : (Int → (List Bool) → Option (Int))) (r14 : Int → (List Bool) → Option (Int)) (t_2 : Int) (child_1 : (List Bool)) : Option (Int) :=
  if (decide (t_2 < (([((ix t.1 t_1).2).1, (((ix t.1 t_1).2).2).1]).length : Int))) = true then
  G (0 ≤ t_2 ∧ t_2 < (([((ix t.1 t_1).2).1, (((ix t.1 t_1).2).2).1]).length : Int)) (
  G ((t_2).toNat < ([((ix t.1 t_1).2).1, (((ix t.1 t_1).2).2).1]).length) (
  if (decide ((ix ([((ix t.1 t_1).2).1, (((ix t.1 t_1).2).2).1]) t_2) < (0 : Int))) = true then
  some (3 : Int) else
  if (decide (t_1 ≤ (ix ([((ix t.1 t_1).2).1, (((ix t.1 t_1).2).2).1]) t_2))) = true then
  some (3 : Int) else
  G (0 ≤ ix ([((ix t.1 t_1).2).1, (((ix t.1 t_1).2).2).1]) t_2 ∧ ix ([((ix t.1 t_1).2).1, (((ix t.1 t_1).2).2).1]) t_2 < (child_1.length : Int)) (
  G ((ix ([((ix t.1 t_1).2).1, (((ix t.1 t_1).2).2).1]) t_2).toNat < child_1.length) (
  if (ix child_1 (ix ([((ix t.1 t_1).2).1, (((ix t.1 t_1).2).2).1]) t_2)) = true then
  some (3 : Int) else
  G (0 ≤ ix ([((ix t.1 t_1).2).1, (((ix t.1 t_1).2).2).1]) t_2 ∧ ix ([((ix t.1 t_1).2).1, (((ix t.1 t_1).2).2).1]) t_2 < (child_1.length : Int)) (
  G ((ix ([((ix t.1 t_1).2).1, (((ix t.1 t_1).2).2).1]) t_2).toNat < child_1.length) (
  G (fits (t_2 + (1 : Int))) (
  r14 (t_2 + (1 : Int)) (child_1.set (ix ([((ix t.1 t_1).2).1, (((ix t.1 t_1).2).2).1]) t_2).toNat true)))))))) else
  G (fits (t_1 + (1 : Int))) (
  r8 (t_1 + (1 : Int)) child_1)
noncomputable def tree_Tree_L14_F (t : ((List (Int × Int × Int × Unit)) × Unit)) (t_1 : Int) (r8 : (Int → (List Bool) → Option (Int))) : (Int × (List Bool) → Option (Int)) → Int × (List Bool) → Option (Int) :=
  fun rec x => tree_Tree_L14_B t t_1 r8 (fun t_2 child_1 => rec (t_2, child_1)) x.1 x.2
noncomputable def tree_Tree_L14 (t : ((List (Int × Int × Int × Unit)) × Unit)) (t_1 : Int) (r8 : (Int → (List Bool) → Option (Int))) (t_2 : Int) (child_1 : (List Bool)) : Option (Int) := LFix (tree_Tree_L14_F t t_1 r8 ) (t_2, child_1)
noncomputable def tree_Tree_J12 (t : ((List (Int × Int × Int × Unit)) × Unit)) (t_1 : Int) (child : (List Bool)) (r8 : (Int → (List Bool) → Option (Int))) : Option (Int) :=
  tree_Tree_L14 t t_1 r8 (0 : Int) child
noncomputable def tree_Tree_L8_B (letters : Int) (t : ((List (Int × Int × Int × Unit)) × Unit)) (r8 : Int → (List Bool) → Option (Int)) (t_1 : Int) (child : (List Bool)) : Option (Int) :=
  if (decide (t_1 < (t.1.length : Int))) = true then
  G (0 ≤ t_1 ∧ t_1 < (t.1.length : Int)) (
  if (decide (((ix t.1 t_1).1) < (0 : Int))) = true then
  some (2 : Int) else
  if (decide (letters ≤ ((ix t.1 t_1).1))) = true then
  some (2 : Int) else
  if (decide ((((ix t.1 t_1).2).1) = (-1 : Int))) = true then
  if (decide (((((ix t.1 t_1).2).2).1) = (-1 : Int))) = true then
  G (fits (t_1 + (1 : Int))) (
  r8 (t_1 + (1 : Int)) child) else
  tree_Tree_J12 t t_1 child r8 else
  tree_Tree_J12 t t_1 child r8) else
  G (fits ((t.1.length : Int) - (1 : Int))) (
  G (0 ≤ (t.1.length : Int) - (1 : Int) ∧ (t.1.length : Int) - (1 : Int) ≤ (child.length : Int)) (
  (slices_Contains ((child.drop 0).take (((t.1.length : Int) - (1 : Int)).toNat)) false).bind (fun y' =>
  if y' = true then
  some (3 : Int) else
  some (0 : Int))))
noncomputable def tree_Tree_L8_F (letters : Int) (t : ((List (Int × Int × Int × Unit)) × Unit)) : (Int × (List Bool) → Option (Int)) → Int × (List Bool) → Option (Int) :=
  fun rec x => tree_Tree_L8_B letters t (fun t_1 child => rec (t_1, child)) x.1 x.2
noncomputable def tree_Tree_L8 (letters : Int) (t : ((List (Int × Int × Int × Unit)) × Unit)) (t_1 : Int) (child : (List Bool)) : Option (Int) := LFix (tree_Tree_L8_F letters t ) (t_1, child)
noncomputable def tree_Tree (letters : Int) (t : ((List (Int × Int × Int × Unit)) × Unit)) : Option (Int) :=
  if (decide (letters < (1 : Int))) = true then
  some (2 : Int) else
  if (decide ((4 : Int) < letters)) = true then
  some (2 : Int) else
  if (decide ((t.1.length : Int) < (1 : Int))) = true then
  some (1 : Int) else
  if (decide ((60 : Int) < (t.1.length : Int))) = true then
  some (1 : Int) else
  G (mkOK (t.1.length : Int) (t.1.length : Int) 1) (
  tree_Tree_L8 letters t (0 : Int) (List.replicate ((t.1.length : Int)).toNat (false : Bool)))
theorem tree_Tree_L14_B_ch (r8 : Nat → Int → (List Bool) → Option (Int)) (r8' : Int → (List Bool) → Option (Int)) (h_r8 : ∀ a0 a1, ChO (fun κ => r8 κ a0 a1) (r8' a0 a1)) (r14 : Nat → Int → (List Bool) → Option (Int)) (r14' : Int → (List Bool) → Option (Int)) (h_r14 : ∀ a0 a1, ChO (fun κ => r14 κ a0 a1) (r14' a0 a1)) (t : ((List (Int × Int × Int × Unit)) × Unit)) (t_1 : Int) (t_2 : Int) (child_1 : (List Bool)) : ChO (fun κ => tree_Tree_L14_B t t_1 (r8 κ) (r14 κ) t_2 child_1) (tree_Tree_L14_B t t_1 r8' r14' t_2 child_1) := by
  unfold tree_Tree_L14_B
  repeat' with_reducible first | exact ChO.const _ | exact h_r8 _ _ | exact h_r14 _ _ | apply ChO.ite | apply ChO.G | apply ChO.both | (apply ChO.bind; intro _)
theorem tree_Tree_L14_cn (r8 : Int → (List Bool) → Option (Int)) (t : ((List (Int × Int × Int × Unit)) × Unit)) (t_1 : Int) : Cn (tree_Tree_L14_F t t_1 r8) := fun g h hg x => tree_Tree_L14_B_ch (fun _ => r8) r8 (fun _ _ => ChO.const _) (fun κ t_2 child_1 => g κ (t_2, child_1)) (fun t_2 child_1 => h (t_2, child_1)) (fun t_2 child_1 => hg (t_2, child_1)) t t_1 x.1 x.2
theorem tree_Tree_L14_eq (r8 : Int → (List Bool) → Option (Int)) (t : ((List (Int × Int × Int × Unit)) × Unit)) (t_1 : Int) (t_2 : Int) (child_1 : (List Bool)) : tree_Tree_L14 t t_1 r8 t_2 child_1 = tree_Tree_L14_B t t_1 r8 (tree_Tree_L14 t t_1 r8) t_2 child_1 := LFix_eq (tree_Tree_L14_cn r8 t t_1) (t_2, child_1)
theorem tree_Tree_L14_ch (r8 : Nat → Int → (List Bool) → Option (Int)) (r8' : Int → (List Bool) → Option (Int)) (h_r8 : ∀ a0 a1, ChO (fun κ => r8 κ a0 a1) (r8' a0 a1)) (t : ((List (Int × Int × Int × Unit)) × Unit)) (t_1 : Int) (t_2 : Int) (child_1 : (List Bool)) : ChO (fun κ => tree_Tree_L14 t t_1 (r8 κ) t_2 child_1) (tree_Tree_L14 t t_1 r8' t_2 child_1) := by
  unfold tree_Tree_L14
  exact LFix_ch (fun κ => (tree_Tree_L14_cn (r8 κ) t t_1).mono) (tree_Tree_L14_cn r8' t t_1).mono (fun g h hg x => tree_Tree_L14_B_ch r8 r8' h_r8 (fun κ t_2 child_1 => g κ (t_2, child_1)) (fun t_2 child_1 => h (t_2, child_1)) (fun t_2 child_1 => hg (t_2, child_1)) t t_1 x.1 x.2) _
theorem tree_Tree_J12_ch (r8 : Nat → Int → (List Bool) → Option (Int)) (r8' : Int → (List Bool) → Option (Int)) (h_r8 : ∀ a0 a1, ChO (fun κ => r8 κ a0 a1) (r8' a0 a1)) (t : ((List (Int × Int × Int × Unit)) × Unit)) (t_1 : Int) (child : (List Bool)) : ChO (fun κ => tree_Tree_J12 t t_1 child (r8 κ)) (tree_Tree_J12 t t_1 child r8') := by
  unfold tree_Tree_J12
  repeat' with_reducible first | exact ChO.const _ | exact h_r8 _ _ | (apply tree_Tree_L14_ch <;> assumption) | apply ChO.ite | apply ChO.G | apply ChO.both | (apply ChO.bind; intro _)
theorem tree_Tree_L8_B_ch (r8 : Nat → Int → (List Bool) → Option (Int)) (r8' : Int → (List Bool) → Option (Int)) (h_r8 : ∀ a0 a1, ChO (fun κ => r8 κ a0 a1) (r8' a0 a1)) (letters : Int) (t : ((List (Int × Int × Int × Unit)) × Unit)) (t_1 : Int) (child : (List Bool)) : ChO (fun κ => tree_Tree_L8_B letters t (r8 κ) t_1 child) (tree_Tree_L8_B letters t r8' t_1 child) := by
  unfold tree_Tree_L8_B
  repeat' with_reducible first | exact ChO.const _ | exact h_r8 _ _ | (apply tree_Tree_L14_ch <;> assumption) | (apply tree_Tree_J12_ch <;> assumption) | apply ChO.ite | apply ChO.G | apply ChO.both | (apply ChO.bind; intro _)
theorem tree_Tree_L8_cn  (letters : Int) (t : ((List (Int × Int × Int × Unit)) × Unit)) : Cn (tree_Tree_L8_F letters t) := fun g h hg x => tree_Tree_L8_B_ch  (fun κ t_1 child => g κ (t_1, child)) (fun t_1 child => h (t_1, child)) (fun t_1 child => hg (t_1, child)) letters t x.1 x.2
theorem tree_Tree_L8_eq  (letters : Int) (t : ((List (Int × Int × Int × Unit)) × Unit)) (t_1 : Int) (child : (List Bool)) : tree_Tree_L8 letters t t_1 child = tree_Tree_L8_B letters t (tree_Tree_L8 letters t) t_1 child := LFix_eq (tree_Tree_L8_cn letters t) (t_1, child)

noncomputable def r12_Tree_J13 (t : ((List (Int × Int × Int × Unit)) × Unit)) (i : Int) (child : (List Bool)) (r8 : (Int → (List Bool) → Option (Int))) : Option (Int) :=
  if (decide ((((ix t.1 i).2).1) < (0 : Int))) = true then
  some (3 : Int) else
  if (decide (i ≤ (((ix t.1 i).2).1))) = true then
  some (3 : Int) else
  G (0 ≤ ((ix t.1 i).2).1 ∧ ((ix t.1 i).2).1 < (child.length : Int)) (
  G ((((ix t.1 i).2).1).toNat < child.length) (
  if (ix child (((ix t.1 i).2).1)) = true then
  some (3 : Int) else
  G (0 ≤ ((ix t.1 i).2).1 ∧ ((ix t.1 i).2).1 < (child.length : Int)) (
  G ((((ix t.1 i).2).1).toNat < child.length) (
  if (decide (((((ix t.1 i).2).2).1) < (0 : Int))) = true then
  some (3 : Int) else
  if (decide (i ≤ ((((ix t.1 i).2).2).1))) = true then
  some (3 : Int) else
  G (0 ≤ (((ix t.1 i).2).2).1 ∧ (((ix t.1 i).2).2).1 < ((child.set (((ix t.1 i).2).1).toNat true).length : Int)) (
  G (((((ix t.1 i).2).2).1).toNat < (child.set (((ix t.1 i).2).1).toNat true).length) (
  if (ix (child.set (((ix t.1 i).2).1).toNat true) ((((ix t.1 i).2).2).1)) = true then
  some (3 : Int) else
  G (0 ≤ (((ix t.1 i).2).2).1 ∧ (((ix t.1 i).2).2).1 < ((child.set (((ix t.1 i).2).1).toNat true).length : Int)) (
  G (((((ix t.1 i).2).2).1).toNat < (child.set (((ix t.1 i).2).1).toNat true).length) (
  G (fits (i + (1 : Int))) (
  r8 (i + (1 : Int)) ((child.set (((ix t.1 i).2).1).toNat true).set ((((ix t.1 i).2).2).1).toNat true))))))))))
noncomputable def r12_Tree_L21_B (t : ((List (Int × Int × Int × Unit)) × Unit)) (child : (List Bool)) (r21 : Int → Option (Int)) (i_1 : Int) : Option (Int) :=
  G (fits ((t.1.length : Int) - (1 : Int))) (
  if (decide (i_1 < ((t.1.length : Int) - (1 : Int)))) = true then
  G (0 ≤ i_1 ∧ i_1 < (child.length : Int)) (
  G ((i_1).toNat < child.length) (
  if (!(ix child i_1)) = true then
  some (3 : Int) else
  G (fits (i_1 + (1 : Int))) (
  r21 (i_1 + (1 : Int))))) else
  some (0 : Int))
noncomputable def r12_Tree_L21_F (t : ((List (Int × Int × Int × Unit)) × Unit)) (child : (List Bool)) : (Int → Option (Int)) → Int → Option (Int) :=
  fun rec x => r12_Tree_L21_B t child (fun i_1 => rec i_1) x
noncomputable def r12_Tree_L21 (t : ((List (Int × Int × Int × Unit)) × Unit)) (child : (List Bool)) (i_1 : Int) : Option (Int) := LFix (r12_Tree_L21_F t child ) i_1
noncomputable def r12_Tree_L8_B (letters : Int) (t : ((List (Int × Int × Int × Unit)) × Unit)) (r8 : Int → (List Bool) → Option (Int)) (i : Int) (child : (List Bool)) : Option (Int) :=
  if (decide (i < (t.1.length : Int))) = true then
  G (0 ≤ i ∧ i < (t.1.length : Int)) (
  if (decide (((ix t.1 i).1) < (0 : Int))) = true then
  some (2 : Int) else
  if (decide (letters ≤ ((ix t.1 i).1))) = true then
  some (2 : Int) else
  if (decide ((((ix t.1 i).2).1) = (-1 : Int))) = true then
  if (decide (((((ix t.1 i).2).2).1) = (-1 : Int))) = true then
  G (fits (i + (1 : Int))) (
  r8 (i + (1 : Int)) child) else
  r12_Tree_J13 t i child r8 else
  r12_Tree_J13 t i child r8) else
  r12_Tree_L21 t child (0 : Int)
noncomputable def r12_Tree_L8_F (letters : Int) (t : ((List (Int × Int × Int × Unit)) × Unit)) : (Int × (List Bool) → Option (Int)) → Int × (List Bool) → Option (Int) :=
  fun rec x => r12_Tree_L8_B letters t (fun i child => rec (i, child)) x.1 x.2
noncomputable def r12_Tree_L8 (letters : Int) (t : ((List (Int × Int × Int × Unit)) × Unit)) (i : Int) (child : (List Bool)) : Option (Int) := LFix (r12_Tree_L8_F letters t ) (i, child)
noncomputable def r12_Tree (letters : Int) (t : ((List (Int × Int × Int × Unit)) × Unit)) : Option (Int) :=
  if (decide (letters < (1 : Int))) = true then
  some (2 : Int) else
  if (decide ((4 : Int) < letters)) = true then
  some (2 : Int) else
  if (decide ((t.1.length : Int) < (1 : Int))) = true then
  some (1 : Int) else
  if (decide ((60 : Int) < (t.1.length : Int))) = true then
  some (1 : Int) else
  G (mkOK (t.1.length : Int) (t.1.length : Int) 1) (
  r12_Tree_L8 letters t (0 : Int) (List.replicate ((t.1.length : Int)).toNat (false : Bool)))
theorem r12_Tree_J13_ch (r8 : Nat → Int → (List Bool) → Option (Int)) (r8' : Int → (List Bool) → Option (Int)) (h_r8 : ∀ a0 a1, ChO (fun κ => r8 κ a0 a1) (r8' a0 a1)) (t : ((List (Int × Int × Int × Unit)) × Unit)) (i : Int) (child : (List Bool)) : ChO (fun κ => r12_Tree_J13 t i child (r8 κ)) (r12_Tree_J13 t i child r8') := by
  unfold r12_Tree_J13
  repeat' with_reducible first | exact ChO.const _ | exact h_r8 _ _ | apply ChO.ite | apply ChO.G | apply ChO.both | (apply ChO.bind; intro _)
theorem r12_Tree_L21_B_ch (r21 : Nat → Int → Option (Int)) (r21' : Int → Option (Int)) (h_r21 : ∀ a0, ChO (fun κ => r21 κ a0) (r21' a0)) (t : ((List (Int × Int × Int × Unit)) × Unit)) (child : (List Bool)) (i_1 : Int) : ChO (fun κ => r12_Tree_L21_B t child (r21 κ) i_1) (r12_Tree_L21_B t child r21' i_1) := by
  unfold r12_Tree_L21_B
  repeat' with_reducible first | exact ChO.const _ | exact h_r21 _ | (apply r12_Tree_J13_ch <;> assumption) | apply ChO.ite | apply ChO.G | apply ChO.both | (apply ChO.bind; intro _)
theorem r12_Tree_L21_cn  (t : ((List (Int × Int × Int × Unit)) × Unit)) (child : (List Bool)) : Cn (r12_Tree_L21_F t child) := fun g h hg x => r12_Tree_L21_B_ch  (fun κ i_1 => g κ i_1) (fun i_1 => h i_1) (fun i_1 => hg i_1) t child x
theorem r12_Tree_L21_eq  (t : ((List (Int × Int × Int × Unit)) × Unit)) (child : (List Bool)) (i_1 : Int) : r12_Tree_L21 t child i_1 = r12_Tree_L21_B t child (r12_Tree_L21 t child) i_1 := LFix_eq (r12_Tree_L21_cn t child) i_1
theorem r12_Tree_L8_B_ch (r8 : Nat → Int → (List Bool) → Option (Int)) (r8' : Int → (List Bool) → Option (Int)) (h_r8 : ∀ a0 a1, ChO (fun κ => r8 κ a0 a1) (r8' a0 a1)) (letters : Int) (t : ((List (Int × Int × Int × Unit)) × Unit)) (i : Int) (child : (List Bool)) : ChO (fun κ => r12_Tree_L8_B letters t (r8 κ) i child) (r12_Tree_L8_B letters t r8' i child) := by
  unfold r12_Tree_L8_B
  repeat' with_reducible first | exact ChO.const _ | exact h_r8 _ _ | (apply r12_Tree_J13_ch <;> assumption) | apply ChO.ite | apply ChO.G | apply ChO.both | (apply ChO.bind; intro _)
theorem r12_Tree_L8_cn  (letters : Int) (t : ((List (Int × Int × Int × Unit)) × Unit)) : Cn (r12_Tree_L8_F letters t) := fun g h hg x => r12_Tree_L8_B_ch  (fun κ i child => g κ (i, child)) (fun i child => h (i, child)) (fun i child => hg (i, child)) letters t x.1 x.2
theorem r12_Tree_L8_eq  (letters : Int) (t : ((List (Int × Int × Int × Unit)) × Unit)) (i : Int) (child : (List Bool)) : r12_Tree_L8 letters t i child = r12_Tree_L8_B letters t (r12_Tree_L8 letters t) i child := LFix_eq (r12_Tree_L8_cn letters t) (i, child)

noncomputable def tree_states_J10 (a : (Int × Int × (List (Int × Int × Int × Int × Unit)) × Int × (List Int) × Unit)) (t_1 : Int) (t_2 : Int) (out_1 : (List (List Bool))) (r7 : (Int → (List (List Bool)) → Option (List (List Bool)))) (t_3 : Bool) : Option (List (List Bool)) :=
  if t_3 = true then
  G (0 ≤ t_1 ∧ t_1 < (out_1.length : Int)) (
  G ((t_1).toNat < out_1.length) (
  G (0 ≤ ((((ix a.2.2.1 t_2).2).2).2).1 ∧ ((((ix a.2.2.1 t_2).2).2).2).1 < ((ix out_1 t_1).length : Int)) (
  G ((((((ix a.2.2.1 t_2).2).2).2).1).toNat < (ix out_1 t_1).length) (
  G (fits (t_2 + (1 : Int))) (
  r7 (t_2 + (1 : Int)) (out_1.set (t_1).toNat ((ix out_1 t_1).set (((((ix a.2.2.1 t_2).2).2).2).1).toNat true))))))) else
  G (fits (t_2 + (1 : Int))) (
  r7 (t_2 + (1 : Int)) out_1)
noncomputable def tree_states_L7_B (a : (Int × Int × (List (Int × Int × Int × Int × Unit)) × Int × (List Int) × Unit)) (t : ((List (Int × Int × Int × Unit)) × Unit)) (t_1 : Int) (r3 : (Int → (List (List Bool)) → Option (List (List Bool)))) (r7 : Int → (List (List Bool)) → Option (List (List Bool))) (t_2 : Int) (out_1 : (List (List Bool))) : Option (List (List Bool)) :=
  if (decide (t_2 < (a.2.2.1.length : Int))) = true then
  G (0 ≤ t_2 ∧ t_2 < (a.2.2.1.length : Int)) (
  if (decide (((ix a.2.2.1 t_2).1) = ((ix t.1 t_1).1))) = true then
  if (decide ((decide ((((ix a.2.2.1 t_2).2).1) = (-1 : Int))) = (decide ((((ix t.1 t_1).2).1) = (-1 : Int))))) = true then
  if (decide ((((ix a.2.2.1 t_2).2).1) = (-1 : Int))) = true then
  tree_states_J10 a t_1 t_2 out_1 r7 true else
  G (0 ≤ ((ix t.1 t_1).2).1 ∧ ((ix t.1 t_1).2).1 < (out_1.length : Int)) (
  G ((((ix t.1 t_1).2).1).toNat < out_1.length) (
  G (0 ≤ ((ix a.2.2.1 t_2).2).1 ∧ ((ix a.2.2.1 t_2).2).1 < ((ix out_1 (((ix t.1 t_1).2).1)).length : Int)) (
  G ((((ix a.2.2.1 t_2).2).1).toNat < (ix out_1 (((ix t.1 t_1).2).1)).length) (
  if (ix (ix out_1 (((ix t.1 t_1).2).1)) (((ix a.2.2.1 t_2).2).1)) = true then
  G (0 ≤ (((ix t.1 t_1).2).2).1 ∧ (((ix t.1 t_1).2).2).1 < (out_1.length : Int)) (
  G (((((ix t.1 t_1).2).2).1).toNat < out_1.length) (
  G (0 ≤ (((ix a.2.2.1 t_2).2).2).1 ∧ (((ix a.2.2.1 t_2).2).2).1 < ((ix out_1 ((((ix t.1 t_1).2).2).1)).length : Int)) (
  G (((((ix a.2.2.1 t_2).2).2).1).toNat < (ix out_1 ((((ix t.1 t_1).2).2).1)).length) (
  tree_states_J10 a t_1 t_2 out_1 r7 (ix (ix out_1 ((((ix t.1 t_1).2).2).1)) ((((ix a.2.2.1 t_2).2).2).1)))))) else
  tree_states_J10 a t_1 t_2 out_1 r7 false)))) else
  tree_states_J10 a t_1 t_2 out_1 r7 false else
  tree_states_J10 a t_1 t_2 out_1 r7 false) else
  G (fits (t_1 + (1 : Int))) (
  r3 (t_1 + (1 : Int)) out_1)
noncomputable def tree_states_L7_F (a : (Int × Int × (List (Int × Int × Int × Int × Unit)) × Int × (List Int) × Unit)) (t : ((List (Int × Int × Int × Unit)) × Unit)) (t_1 : Int) (r3 : (Int → (List (List Bool)) → Option (List (List Bool)))) : (Int × (List (List Bool)) → Option (List (List Bool))) → Int × (List (List Bool)) → Option (List (List Bool)) :=
  fun rec x => tree_states_L7_B a t t_1 r3 (fun t_2 out_1 => rec (t_2, out_1)) x.1 x.2
noncomputable def tree_states_L7 (a : (Int × Int × (List (Int × Int × Int × Int × Unit)) × Int × (List Int) × Unit)) (t : ((List (Int × Int × Int × Unit)) × Unit)) (t_1 : Int) (r3 : (Int → (List (List Bool)) → Option (List (List Bool)))) (t_2 : Int) (out_1 : (List (List Bool))) : Option (List (List Bool)) := LFix (tree_states_L7_F a t t_1 r3 ) (t_2, out_1)
noncomputable def tree_states_L3_B (a : (Int × Int × (List (Int × Int × Int × Int × Unit)) × Int × (List Int) × Unit)) (t : ((List (Int × Int × Int × Unit)) × Unit)) (r3 : Int → (List (List Bool)) → Option (List (List Bool))) (t_1 : Int) (out : (List (List Bool))) : Option (List (List Bool)) :=
  if (decide (t_1 < (t.1.length : Int))) = true then
  G (0 ≤ t_1 ∧ t_1 < (t.1.length : Int)) (
  G (mkOK a.2.1 a.2.1 1) (
  G (0 ≤ t_1 ∧ t_1 < (out.length : Int)) (
  tree_states_L7 a t t_1 r3 (0 : Int) (out.set (t_1).toNat (List.replicate (a.2.1).toNat (false : Bool)))))) else
  some out
noncomputable def tree_states_L3_F (a : (Int × Int × (List (Int × Int × Int × Int × Unit)) × Int × (List Int) × Unit)) (t : ((List (Int × Int × Int × Unit)) × Unit)) : (Int × (List (List Bool)) → Option (List (List Bool))) → Int × (List (List Bool)) → Option (List (List Bool)) :=
  fun rec x => tree_states_L3_B a t (fun t_1 out => rec (t_1, out)) x.1 x.2
noncomputable def tree_states_L3 (a : (Int × Int × (List (Int × Int × Int × Int × Unit)) × Int × (List Int) × Unit)) (t : ((List (Int × Int × Int × Unit)) × Unit)) (t_1 : Int) (out : (List (List Bool))) : Option (List (List Bool)) := LFix (tree_states_L3_F a t ) (t_1, out)
noncomputable def tree_states (a : (Int × Int × (List (Int × Int × Int × Int × Unit)) × Int × (List Int) × Unit)) (t : ((List (Int × Int × Int × Unit)) × Unit)) : Option (List (List Bool)) :=
  G (mkOK (t.1.length : Int) (t.1.length : Int) 24) (
  tree_states_L3 a t (0 : Int) (List.replicate ((t.1.length : Int)).toNat ([] : List Bool)))
theorem tree_states_J10_ch (r7 : Nat → Int → (List (List Bool)) → Option (List (List Bool))) (r7' : Int → (List (List Bool)) → Option (List (List Bool))) (h_r7 : ∀ a0 a1, ChO (fun κ => r7 κ a0 a1) (r7' a0 a1)) (a : (Int × Int × (List (Int × Int × Int × Int × Unit)) × Int × (List Int) × Unit)) (t_1 : Int) (t_2 : Int) (out_1 : (List (List Bool))) (t_3 : Bool) : ChO (fun κ => tree_states_J10 a t_1 t_2 out_1 (r7 κ) t_3) (tree_states_J10 a t_1 t_2 out_1 r7' t_3) := by
  unfold tree_states_J10
  repeat' with_reducible first | exact ChO.const _ | exact h_r7 _ _ | apply ChO.ite | apply ChO.G | apply ChO.both | (apply ChO.bind; intro _)
theorem tree_states_L7_B_ch (r3 : Nat → Int → (List (List Bool)) → Option (List (List Bool))) (r3' : Int → (List (List Bool)) → Option (List (List Bool))) (h_r3 : ∀ a0 a1, ChO (fun κ => r3 κ a0 a1) (r3' a0 a1)) (r7 : Nat → Int → (List (List Bool)) → Option (List (List Bool))) (r7' : Int → (List (List Bool)) → Option (List (List Bool))) (h_r7 : ∀ a0 a1, ChO (fun κ => r7 κ a0 a1) (r7' a0 a1)) (a : (Int × Int × (List (Int × Int × Int × Int × Unit)) × Int × (List Int) × Unit)) (t : ((List (Int × Int × Int × Unit)) × Unit)) (t_1 : Int) (t_2 : Int) (out_1 : (List (List Bool))) : ChO (fun κ => tree_states_L7_B a t t_1 (r3 κ) (r7 κ) t_2 out_1) (tree_states_L7_B a t t_1 r3' r7' t_2 out_1) := by
  unfold tree_states_L7_B
  repeat' with_reducible first | exact ChO.const _ | exact h_r3 _ _ | exact h_r7 _ _ | (apply tree_states_J10_ch <;> assumption) | apply ChO.ite | apply ChO.G | apply ChO.both | (apply ChO.bind; intro _)
theorem tree_states_L7_cn (r3 : Int → (List (List Bool)) → Option (List (List Bool))) (a : (Int × Int × (List (Int × Int × Int × Int × Unit)) × Int × (List Int) × Unit)) (t : ((List (Int × Int × Int × Unit)) × Unit)) (t_1 : Int) : Cn (tree_states_L7_F a t t_1 r3) := fun g h hg x => tree_states_L7_B_ch (fun _ => r3) r3 (fun _ _ => ChO.const _) (fun κ t_2 out_1 => g κ (t_2, out_1)) (fun t_2 out_1 => h (t_2, out_1)) (fun t_2 out_1 => hg (t_2, out_1)) a t t_1 x.1 x.2
theorem tree_states_L7_eq (r3 : Int → (List (List Bool)) → Option (List (List Bool))) (a : (Int × Int × (List (Int × Int × Int × Int × Unit)) × Int × (List Int) × Unit)) (t : ((List (Int × Int × Int × Unit)) × Unit)) (t_1 : Int) (t_2 : Int) (out_1 : (List (List Bool))) : tree_states_L7 a t t_1 r3 t_2 out_1 = tree_states_L7_B a t t_1 r3 (tree_states_L7 a t t_1 r3) t_2 out_1 := LFix_eq (tree_states_L7_cn r3 a t t_1) (t_2, out_1)
theorem tree_states_L7_ch (r3 : Nat → Int → (List (List Bool)) → Option (List (List Bool))) (r3' : Int → (List (List Bool)) → Option (List (List Bool))) (h_r3 : ∀ a0 a1, ChO (fun κ => r3 κ a0 a1) (r3' a0 a1)) (a : (Int × Int × (List (Int × Int × Int × Int × Unit)) × Int × (List Int) × Unit)) (t : ((List (Int × Int × Int × Unit)) × Unit)) (t_1 : Int) (t_2 : Int) (out_1 : (List (List Bool))) : ChO (fun κ => tree_states_L7 a t t_1 (r3 κ) t_2 out_1) (tree_states_L7 a t t_1 r3' t_2 out_1) := by
  unfold tree_states_L7
  exact LFix_ch (fun κ => (tree_states_L7_cn (r3 κ) a t t_1).mono) (tree_states_L7_cn r3' a t t_1).mono (fun g h hg x => tree_states_L7_B_ch r3 r3' h_r3 (fun κ t_2 out_1 => g κ (t_2, out_1)) (fun t_2 out_1 => h (t_2, out_1)) (fun t_2 out_1 => hg (t_2, out_1)) a t t_1 x.1 x.2) _
theorem tree_states_L3_B_ch (r3 : Nat → Int → (List (List Bool)) → Option (List (List Bool))) (r3' : Int → (List (List Bool)) → Option (List (List Bool))) (h_r3 : ∀ a0 a1, ChO (fun κ => r3 κ a0 a1) (r3' a0 a1)) (a : (Int × Int × (List (Int × Int × Int × Int × Unit)) × Int × (List Int) × Unit)) (t : ((List (Int × Int × Int × Unit)) × Unit)) (t_1 : Int) (out : (List (List Bool))) : ChO (fun κ => tree_states_L3_B a t (r3 κ) t_1 out) (tree_states_L3_B a t r3' t_1 out) := by
  unfold tree_states_L3_B
  repeat' with_reducible first | exact ChO.const _ | exact h_r3 _ _ | (apply tree_states_J10_ch <;> assumption) | (apply tree_states_L7_ch <;> assumption) | apply ChO.ite | apply ChO.G | apply ChO.both | (apply ChO.bind; intro _)
theorem tree_states_L3_cn  (a : (Int × Int × (List (Int × Int × Int × Int × Unit)) × Int × (List Int) × Unit)) (t : ((List (Int × Int × Int × Unit)) × Unit)) : Cn (tree_states_L3_F a t) := fun g h hg x => tree_states_L3_B_ch  (fun κ t_1 out => g κ (t_1, out)) (fun t_1 out => h (t_1, out)) (fun t_1 out => hg (t_1, out)) a t x.1 x.2
theorem tree_states_L3_eq  (a : (Int × Int × (List (Int × Int × Int × Int × Unit)) × Int × (List Int) × Unit)) (t : ((List (Int × Int × Int × Unit)) × Unit)) (t_1 : Int) (out : (List (List Bool))) : tree_states_L3 a t t_1 out = tree_states_L3_B a t (tree_states_L3 a t) t_1 out := LFix_eq (tree_states_L3_cn a t) (t_1, out)

noncomputable def tree_Accepts_L9_B (a : (Int × Int × (List (Int × Int × Int × Int × Unit)) × Int × (List Int) × Unit)) (y'_2 : (List (List Bool))) (r9 : Int → Option (Bool × Int)) (t_1 : Int) : Option (Bool × Int) :=
  if (decide (t_1 < ((ix y'_2 ((y'_2.length : Int) - (1 : Int))).length : Int))) = true then
  G (0 ≤ t_1 ∧ t_1 < ((ix y'_2 ((y'_2.length : Int) - (1 : Int))).length : Int)) (
  if (ix (ix y'_2 ((y'_2.length : Int) - (1 : Int))) t_1) = true then
  G (0 ≤ t_1 ∧ t_1 < (a.2.2.2.2.1.length : Int)) (
  if (decide ((ix a.2.2.2.2.1 t_1) = (1 : Int))) = true then
  some (true, (0 : Int)) else
  G (fits (t_1 + (1 : Int))) (
  r9 (t_1 + (1 : Int)))) else
  G (fits (t_1 + (1 : Int))) (
  r9 (t_1 + (1 : Int)))) else
  some (false, (0 : Int))
noncomputable def tree_Accepts_L9_F (a : (Int × Int × (List (Int × Int × Int × Int × Unit)) × Int × (List Int) × Unit)) (y'_2 : (List (List Bool))) : (Int → Option (Bool × Int)) → Int → Option (Bool × Int) :=
  fun rec x => tree_Accepts_L9_B a y'_2 (fun t_1 => rec t_1) x
noncomputable def tree_Accepts_L9 (a : (Int × Int × (List (Int × Int × Int × Int × Unit)) × Int × (List Int) × Unit)) (y'_2 : (List (List Bool))) (t_1 : Int) : Option (Bool × Int) := LFix (tree_Accepts_L9_F a y'_2 ) t_1
noncomputable def tree_Accepts (a : (Int × Int × (List (Int × Int × Int × Int × Unit)) × Int × (List Int) × Unit)) (t : ((List (Int × Int × Int × Unit)) × Unit)) : Option (Bool × Int) :=
  (tree_Check (a.1, (a.2.1, (a.2.2.1, (a.2.2.2.1, (a.2.2.2.2.1, ())))))).bind (fun y' =>
  if (decide (¬ y' = (0 : Int))) = true then
  some (false, y') else
  (tree_Tree a.1 (t.1, ())).bind (fun y'_1 =>
  if (decide (¬ y'_1 = (0 : Int))) = true then
  some (false, y'_1) else
  (tree_states (a.1, (a.2.1, (a.2.2.1, (a.2.2.2.1, (a.2.2.2.2.1, ()))))) (t.1, ())).bind (fun y'_2 =>
  G (fits ((y'_2.length : Int) - (1 : Int))) (
  G (0 ≤ (y'_2.length : Int) - (1 : Int) ∧ (y'_2.length : Int) - (1 : Int) < (y'_2.length : Int)) (
  tree_Accepts_L9 a y'_2 (0 : Int))))))
theorem tree_Accepts_L9_B_ch (r9 : Nat → Int → Option (Bool × Int)) (r9' : Int → Option (Bool × Int)) (h_r9 : ∀ a0, ChO (fun κ => r9 κ a0) (r9' a0)) (a : (Int × Int × (List (Int × Int × Int × Int × Unit)) × Int × (List Int) × Unit)) (y'_2 : (List (List Bool))) (t_1 : Int) : ChO (fun κ => tree_Accepts_L9_B a y'_2 (r9 κ) t_1) (tree_Accepts_L9_B a y'_2 r9' t_1) := by
  unfold tree_Accepts_L9_B
  repeat' with_reducible first | exact ChO.const _ | exact h_r9 _ | apply ChO.ite | apply ChO.G | apply ChO.both | (apply ChO.bind; intro _)
theorem tree_Accepts_L9_cn  (a : (Int × Int × (List (Int × Int × Int × Int × Unit)) × Int × (List Int) × Unit)) (y'_2 : (List (List Bool))) : Cn (tree_Accepts_L9_F a y'_2) := fun g h hg x => tree_Accepts_L9_B_ch  (fun κ t_1 => g κ t_1) (fun t_1 => h t_1) (fun t_1 => hg t_1) a y'_2 x
theorem tree_Accepts_L9_eq  (a : (Int × Int × (List (Int × Int × Int × Int × Unit)) × Int × (List Int) × Unit)) (y'_2 : (List (List Bool))) (t_1 : Int) : tree_Accepts_L9 a y'_2 t_1 = tree_Accepts_L9_B a y'_2 (tree_Accepts_L9 a y'_2) t_1 := LFix_eq (tree_Accepts_L9_cn a y'_2) t_1

noncomputable def r12_Accepts_J12 (a : (Int × Int × (List (Int × Int × Int × Int × Unit)) × Int × (List Int) × Unit)) (k : Int) (own : (List Bool)) (r8 : (Int → (List Bool) → Option (Bool))) (t_1 : Bool) : Option (Bool) :=
  if t_1 = true then
  G (0 ≤ ((((ix a.2.2.1 k).2).2).2).1 ∧ ((((ix a.2.2.1 k).2).2).2).1 < (own.length : Int)) (
  G ((((((ix a.2.2.1 k).2).2).2).1).toNat < own.length) (
  G (fits (k + (1 : Int))) (
  r8 (k + (1 : Int)) (own.set (((((ix a.2.2.1 k).2).2).2).1).toNat true)))) else
  G (fits (k + (1 : Int))) (
  r8 (k + (1 : Int)) own)
noncomputable def r12_Accepts_L8_B (a : (Int × Int × (List (Int × Int × Int × Int × Unit)) × Int × (List Int) × Unit)) (t : ((List (Int × Int × Int × Unit)) × Unit)) (i : Int) (can : (List (List Bool))) (r3 : (Int → (List (List Bool)) → Option (Bool))) (r8 : Int → (List Bool) → Option (Bool)) (k : Int) (own : (List Bool)) : Option (Bool) :=
  if (decide (k < (a.2.2.1.length : Int))) = true then
  G (0 ≤ k ∧ k < (a.2.2.1.length : Int)) (
  if (decide (¬ ((ix a.2.2.1 k).1) = ((ix t.1 i).1))) = true then
  G (fits (k + (1 : Int))) (
  r8 (k + (1 : Int)) own) else
  if (decide (¬ (decide ((((ix a.2.2.1 k).2).1) = (-1 : Int))) = (decide ((((ix t.1 i).2).1) = (-1 : Int))))) = true then
  G (fits (k + (1 : Int))) (
  r8 (k + (1 : Int)) own) else
  if (decide ((((ix a.2.2.1 k).2).1) = (-1 : Int))) = true then
  r12_Accepts_J12 a k own r8 true else
  G (0 ≤ ((ix t.1 i).2).1 ∧ ((ix t.1 i).2).1 < (can.length : Int)) (
  G ((((ix t.1 i).2).1).toNat < can.length) (
  G (0 ≤ ((ix a.2.2.1 k).2).1 ∧ ((ix a.2.2.1 k).2).1 < ((ix can (((ix t.1 i).2).1)).length : Int)) (
  if (ix (ix can (((ix t.1 i).2).1)) (((ix a.2.2.1 k).2).1)) = true then
  G (0 ≤ (((ix t.1 i).2).2).1 ∧ (((ix t.1 i).2).2).1 < (can.length : Int)) (
  G (((((ix t.1 i).2).2).1).toNat < can.length) (
  G (0 ≤ (((ix a.2.2.1 k).2).2).1 ∧ (((ix a.2.2.1 k).2).2).1 < ((ix can ((((ix t.1 i).2).2).1)).length : Int)) (
  r12_Accepts_J12 a k own r8 (ix (ix can ((((ix t.1 i).2).2).1)) ((((ix a.2.2.1 k).2).2).1))))) else
  r12_Accepts_J12 a k own r8 false)))) else
  G (room can ([own]) 24) (
  G (fits (i + (1 : Int))) (
  r3 (i + (1 : Int)) (can ++ ([own]))))
noncomputable def r12_Accepts_L8_F (a : (Int × Int × (List (Int × Int × Int × Int × Unit)) × Int × (List Int) × Unit)) (t : ((List (Int × Int × Int × Unit)) × Unit)) (i : Int) (can : (List (List Bool))) (r3 : (Int → (List (List Bool)) → Option (Bool))) : (Int × (List Bool) → Option (Bool)) → Int × (List Bool) → Option (Bool) :=
  fun rec x => r12_Accepts_L8_B a t i can r3 (fun k own => rec (k, own)) x.1 x.2
noncomputable def r12_Accepts_L8 (a : (Int × Int × (List (Int × Int × Int × Int × Unit)) × Int × (List Int) × Unit)) (t : ((List (Int × Int × Int × Unit)) × Unit)) (i : Int) (can : (List (List Bool))) (r3 : (Int → (List (List Bool)) → Option (Bool))) (k : Int) (own : (List Bool)) : Option (Bool) := LFix (r12_Accepts_L8_F a t i can r3 ) (k, own)
noncomputable def r12_Accepts_L17_B (a : (Int × Int × (List (Int × Int × Int × Int × Unit)) × Int × (List Int) × Unit)) (can : (List (List Bool))) (r17 : Int → Option (Bool)) (q : Int) : Option (Bool) :=
  if (decide (q < a.2.1)) = true then
  G (0 ≤ q ∧ q < ((ix can ((can.length : Int) - (1 : Int))).length : Int)) (
  if (ix (ix can ((can.length : Int) - (1 : Int))) q) = true then
  G (0 ≤ q ∧ q < (a.2.2.2.2.1.length : Int)) (
  if (decide ((ix a.2.2.2.2.1 q) = (1 : Int))) = true then
  some true else
  G (fits (q + (1 : Int))) (
  r17 (q + (1 : Int)))) else
  G (fits (q + (1 : Int))) (
  r17 (q + (1 : Int)))) else
  some false
noncomputable def r12_Accepts_L17_F (a : (Int × Int × (List (Int × Int × Int × Int × Unit)) × Int × (List Int) × Unit)) (can : (List (List Bool))) : (Int → Option (Bool)) → Int → Option (Bool) :=
  fun rec x => r12_Accepts_L17_B a can (fun q => rec q) x
noncomputable def r12_Accepts_L17 (a : (Int × Int × (List (Int × Int × Int × Int × Unit)) × Int × (List Int) × Unit)) (can : (List (List Bool))) (q : Int) : Option (Bool) := LFix (r12_Accepts_L17_F a can ) q
noncomputable def r12_Accepts_L3_B (a : (Int × Int × (List (Int × Int × Int × Int × Unit)) × Int × (List Int) × Unit)) (t : ((List (Int × Int × Int × Unit)) × Unit)) (r3 : Int → (List (List Bool)) → Option (Bool)) (i : Int) (can : (List (List Bool))) : Option (Bool) :=
  if (decide (i < (t.1.length : Int))) = true then
  G (0 ≤ i ∧ i < (t.1.length : Int)) (
  G (mkOK a.2.1 a.2.1 1) (
  r12_Accepts_L8 a t i can r3 (0 : Int) (List.replicate (a.2.1).toNat (false : Bool)))) else
  G (fits ((can.length : Int) - (1 : Int))) (
  G (0 ≤ (can.length : Int) - (1 : Int) ∧ (can.length : Int) - (1 : Int) < (can.length : Int)) (
  G (((can.length : Int) - (1 : Int)).toNat < can.length) (
  r12_Accepts_L17 a can (0 : Int))))
noncomputable def r12_Accepts_L3_F (a : (Int × Int × (List (Int × Int × Int × Int × Unit)) × Int × (List Int) × Unit)) (t : ((List (Int × Int × Int × Unit)) × Unit)) : (Int × (List (List Bool)) → Option (Bool)) → Int × (List (List Bool)) → Option (Bool) :=
  fun rec x => r12_Accepts_L3_B a t (fun i can => rec (i, can)) x.1 x.2
noncomputable def r12_Accepts_L3 (a : (Int × Int × (List (Int × Int × Int × Int × Unit)) × Int × (List Int) × Unit)) (t : ((List (Int × Int × Int × Unit)) × Unit)) (i : Int) (can : (List (List Bool))) : Option (Bool) := LFix (r12_Accepts_L3_F a t ) (i, can)
noncomputable def r12_Accepts (a : (Int × Int × (List (Int × Int × Int × Int × Unit)) × Int × (List Int) × Unit)) (t : ((List (Int × Int × Int × Unit)) × Unit)) : Option (Bool) :=
  r12_Accepts_L3 a t (0 : Int) ([])
theorem r12_Accepts_J12_ch (r8 : Nat → Int → (List Bool) → Option (Bool)) (r8' : Int → (List Bool) → Option (Bool)) (h_r8 : ∀ a0 a1, ChO (fun κ => r8 κ a0 a1) (r8' a0 a1)) (a : (Int × Int × (List (Int × Int × Int × Int × Unit)) × Int × (List Int) × Unit)) (k : Int) (own : (List Bool)) (t_1 : Bool) : ChO (fun κ => r12_Accepts_J12 a k own (r8 κ) t_1) (r12_Accepts_J12 a k own r8' t_1) := by
  unfold r12_Accepts_J12
  repeat' with_reducible first | exact ChO.const _ | exact h_r8 _ _ | apply ChO.ite | apply ChO.G | apply ChO.both | (apply ChO.bind; intro _)
theorem r12_Accepts_L8_B_ch (r3 : Nat → Int → (List (List Bool)) → Option (Bool)) (r3' : Int → (List (List Bool)) → Option (Bool)) (h_r3 : ∀ a0 a1, ChO (fun κ => r3 κ a0 a1) (r3' a0 a1)) (r8 : Nat → Int → (List Bool) → Option (Bool)) (r8' : Int → (List Bool) → Option (Bool)) (h_r8 : ∀ a0 a1, ChO (fun κ => r8 κ a0 a1) (r8' a0 a1)) (a : (Int × Int × (List (Int × Int × Int × Int × Unit)) × Int × (List Int) × Unit)) (t : ((List (Int × Int × Int × Unit)) × Unit)) (i : Int) (can : (List (List Bool))) (k : Int) (own : (List Bool)) : ChO (fun κ => r12_Accepts_L8_B a t i can (r3 κ) (r8 κ) k own) (r12_Accepts_L8_B a t i can r3' r8' k own) := by
  unfold r12_Accepts_L8_B
  repeat' with_reducible first | exact ChO.const _ | exact h_r3 _ _ | exact h_r8 _ _ | (apply r12_Accepts_J12_ch <;> assumption) | apply ChO.ite | apply ChO.G | apply ChO.both | (apply ChO.bind; intro _)
theorem r12_Accepts_L8_cn (r3 : Int → (List (List Bool)) → Option (Bool)) (a : (Int × Int × (List (Int × Int × Int × Int × Unit)) × Int × (List Int) × Unit)) (t : ((List (Int × Int × Int × Unit)) × Unit)) (i : Int) (can : (List (List Bool))) : Cn (r12_Accepts_L8_F a t i can r3) := fun g h hg x => r12_Accepts_L8_B_ch (fun _ => r3) r3 (fun _ _ => ChO.const _) (fun κ k own => g κ (k, own)) (fun k own => h (k, own)) (fun k own => hg (k, own)) a t i can x.1 x.2
theorem r12_Accepts_L8_eq (r3 : Int → (List (List Bool)) → Option (Bool)) (a : (Int × Int × (List (Int × Int × Int × Int × Unit)) × Int × (List Int) × Unit)) (t : ((List (Int × Int × Int × Unit)) × Unit)) (i : Int) (can : (List (List Bool))) (k : Int) (own : (List Bool)) : r12_Accepts_L8 a t i can r3 k own = r12_Accepts_L8_B a t i can r3 (r12_Accepts_L8 a t i can r3) k own := LFix_eq (r12_Accepts_L8_cn r3 a t i can) (k, own)
theorem r12_Accepts_L8_ch (r3 : Nat → Int → (List (List Bool)) → Option (Bool)) (r3' : Int → (List (List Bool)) → Option (Bool)) (h_r3 : ∀ a0 a1, ChO (fun κ => r3 κ a0 a1) (r3' a0 a1)) (a : (Int × Int × (List (Int × Int × Int × Int × Unit)) × Int × (List Int) × Unit)) (t : ((List (Int × Int × Int × Unit)) × Unit)) (i : Int) (can : (List (List Bool))) (k : Int) (own : (List Bool)) : ChO (fun κ => r12_Accepts_L8 a t i can (r3 κ) k own) (r12_Accepts_L8 a t i can r3' k own) := by
  unfold r12_Accepts_L8
  exact LFix_ch (fun κ => (r12_Accepts_L8_cn (r3 κ) a t i can).mono) (r12_Accepts_L8_cn r3' a t i can).mono (fun g h hg x => r12_Accepts_L8_B_ch r3 r3' h_r3 (fun κ k own => g κ (k, own)) (fun k own => h (k, own)) (fun k own => hg (k, own)) a t i can x.1 x.2) _
theorem r12_Accepts_L17_B_ch (r17 : Nat → Int → Option (Bool)) (r17' : Int → Option (Bool)) (h_r17 : ∀ a0, ChO (fun κ => r17 κ a0) (r17' a0)) (a : (Int × Int × (List (Int × Int × Int × Int × Unit)) × Int × (List Int) × Unit)) (can : (List (List Bool))) (q : Int) : ChO (fun κ => r12_Accepts_L17_B a can (r17 κ) q) (r12_Accepts_L17_B a can r17' q) := by
  unfold r12_Accepts_L17_B
  repeat' with_reducible first | exact ChO.const _ | exact h_r17 _ | (apply r12_Accepts_J12_ch <;> assumption) | (apply r12_Accepts_L8_ch <;> assumption) | apply ChO.ite | apply ChO.G | apply ChO.both | (apply ChO.bind; intro _)
theorem r12_Accepts_L17_cn  (a : (Int × Int × (List (Int × Int × Int × Int × Unit)) × Int × (List Int) × Unit)) (can : (List (List Bool))) : Cn (r12_Accepts_L17_F a can) := fun g h hg x => r12_Accepts_L17_B_ch  (fun κ q => g κ q) (fun q => h q) (fun q => hg q) a can x
theorem r12_Accepts_L17_eq  (a : (Int × Int × (List (Int × Int × Int × Int × Unit)) × Int × (List Int) × Unit)) (can : (List (List Bool))) (q : Int) : r12_Accepts_L17 a can q = r12_Accepts_L17_B a can (r12_Accepts_L17 a can) q := LFix_eq (r12_Accepts_L17_cn a can) q
theorem r12_Accepts_L3_B_ch (r3 : Nat → Int → (List (List Bool)) → Option (Bool)) (r3' : Int → (List (List Bool)) → Option (Bool)) (h_r3 : ∀ a0 a1, ChO (fun κ => r3 κ a0 a1) (r3' a0 a1)) (a : (Int × Int × (List (Int × Int × Int × Int × Unit)) × Int × (List Int) × Unit)) (t : ((List (Int × Int × Int × Unit)) × Unit)) (i : Int) (can : (List (List Bool))) : ChO (fun κ => r12_Accepts_L3_B a t (r3 κ) i can) (r12_Accepts_L3_B a t r3' i can) := by
  unfold r12_Accepts_L3_B
  repeat' with_reducible first | exact ChO.const _ | exact h_r3 _ _ | (apply r12_Accepts_J12_ch <;> assumption) | (apply r12_Accepts_L8_ch <;> assumption) | apply ChO.ite | apply ChO.G | apply ChO.both | (apply ChO.bind; intro _)
theorem r12_Accepts_L3_cn  (a : (Int × Int × (List (Int × Int × Int × Int × Unit)) × Int × (List Int) × Unit)) (t : ((List (Int × Int × Int × Unit)) × Unit)) : Cn (r12_Accepts_L3_F a t) := fun g h hg x => r12_Accepts_L3_B_ch  (fun κ i can => g κ (i, can)) (fun i can => h (i, can)) (fun i can => hg (i, can)) a t x.1 x.2
theorem r12_Accepts_L3_eq  (a : (Int × Int × (List (Int × Int × Int × Int × Unit)) × Int × (List Int) × Unit)) (t : ((List (Int × Int × Int × Unit)) × Unit)) (i : Int) (can : (List (List Bool))) : r12_Accepts_L3 a t i can = r12_Accepts_L3_B a t (r12_Accepts_L3 a t) i can := LFix_eq (r12_Accepts_L3_cn a t) (i, can)

noncomputable def law_TreeAccepts (a : (Int × Int × (List (Int × Int × Int × Int × Unit)) × Int × (List Int) × Unit)) (t : ((List (Int × Int × Int × Unit)) × Unit)) (letters : Int) : Option (Bool) :=
  (tree_Check (a.1, (a.2.1, (a.2.2.1, (a.2.2.2.1, (a.2.2.2.2.1, ())))))).bind (fun y' =>
  (r12_Check (a.1, (a.2.1, (a.2.2.1, (a.2.2.2.1, (a.2.2.2.2.1, ())))))).bind (fun y'_1 =>
  (tree_Tree letters (t.1, ())).bind (fun y'_2 =>
  (r12_Tree letters (t.1, ())).bind (fun y'_3 =>
  (tree_Accepts (a.1, (a.2.1, (a.2.2.1, (a.2.2.2.1, (a.2.2.2.2.1, ()))))) (t.1, ())).bind (fun y'_9 =>
  if (decide (¬ y' = y'_1)) = true then
  some false else
  if (decide (¬ y'_2 = y'_3)) = true then
  some false else
  if (decide (¬ y'_1 = (0 : Int))) = true then
  if (decide (y'_9.2 = y'_1)) = true then
  some (!y'_9.1) else
  some false else
  (r12_Tree a.1 (t.1, ())).bind (fun y'_7 =>
  if (decide (¬ y'_7 = (0 : Int))) = true then
  if (decide (y'_9.2 = y'_7)) = true then
  some (!y'_9.1) else
  some false else
  (r12_Accepts (a.1, (a.2.1, (a.2.2.1, (a.2.2.2.1, (a.2.2.2.2.1, ()))))) (t.1, ())).bind (fun y'_8 =>
  if (decide (y'_9.2 = (0 : Int))) = true then
  some (decide (y'_9.1 = y'_8)) else
  some false)))))))

end Go.Proofs.Ytiihghghjoonhaa.treeAcceptsW
