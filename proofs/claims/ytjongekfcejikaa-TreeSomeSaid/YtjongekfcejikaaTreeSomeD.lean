/- What the functions that 'TreeSome' reaches compute: plain functions. -/
import Derived.Test.YtjongekfcejikaaEv20n21
set_option maxHeartbeats 1000000
set_option maxRecDepth 20000
set_option linter.unusedSimpArgs false
set_option linter.unusedVariables false
set_option linter.unusedSectionVars false
namespace Go.Proofs.Ytjongekfcejikaa.treeSomeW
open Go Go.Ab
noncomputable def law_list (l : (List Int)) : Option (List Int) :=
  G (fits ((l.length : Int) + (3 : Int))) (
  G (mkOK (l.length : Int) ((l.length : Int) + (3 : Int)) 8) (
  some (l.take (List.replicate ((l.length : Int)).toNat (0 : Int)).length ++ (List.replicate ((l.length : Int)).toNat (0 : Int)).drop l.length)))

noncomputable def law_trees (t : (Int × Int × (List (Int × Int × Int × Int × Unit)) × Int × (List Int) × Unit)) : Option (Int × Int × (List (Int × Int × Int × Int × Unit)) × Int × (List Int) × Unit) :=
  G (room ([] : List (Int × Int × Int × Int × Unit)) t.2.2.1 32) (
  (law_list t.2.2.2.2.1).bind (fun y' =>
  some (t.1, (t.2.1, (([] : List (Int × Int × Int × Int × Unit)) ++ t.2.2.1, (t.2.2.2.1, (y', ())))))))

noncomputable def tree_Check_1 (q : Int) (t : (Int × Int × (List (Int × Int × Int × Int × Unit)) × Int × (List Int) × Unit)) : Option (Bool) :=
  if (decide (q < (0 : Int))) = true then
  some true else
  some (decide (t.2.1 ≤ q))

noncomputable def tree_Check_2 (m : Int) : Option (Bool) :=
  if (decide (¬ m = (0 : Int))) = true then
  some (decide (¬ m = (1 : Int))) else
  some false

noncomputable def slices_IndexFunc_L2_B (s : (List Int)) (r2 : Int → Option (Int)) (t : Int) : Option (Int) :=
  if (decide (t < (s.length : Int))) = true then
  G (0 ≤ t ∧ t < (s.length : Int)) (
  (tree_Check_2 (ix s t)).bind (fun y' =>
  if y' = true then
  some t else
  G (fits (t + (1 : Int))) (
  r2 (t + (1 : Int))))) else
  some (-1 : Int)
noncomputable def slices_IndexFunc_L2_F (s : (List Int)) : (Int → Option (Int)) → Int → Option (Int) :=
  fun rec x => slices_IndexFunc_L2_B s (fun t => rec t) x
noncomputable def slices_IndexFunc_L2 (s : (List Int)) (t : Int) : Option (Int) := LFix (slices_IndexFunc_L2_F s ) t
noncomputable def slices_IndexFunc (s : (List Int)) : Option (Int) :=
  slices_IndexFunc_L2 s (0 : Int)
theorem slices_IndexFunc_L2_B_ch (r2 : Nat → Int → Option (Int)) (r2' : Int → Option (Int)) (h_r2 : ∀ a0, ChO (fun κ => r2 κ a0) (r2' a0)) (s : (List Int)) (t : Int) : ChO (fun κ => slices_IndexFunc_L2_B s (r2 κ) t) (slices_IndexFunc_L2_B s r2' t) := by
  unfold slices_IndexFunc_L2_B
  repeat' with_reducible first | exact ChO.const _ | exact h_r2 _ | apply ChO.ite | apply ChO.G | apply ChO.both | (apply ChO.bind; intro _)
theorem slices_IndexFunc_L2_cn  (s : (List Int)) : Cn (slices_IndexFunc_L2_F s) := fun g h hg x => slices_IndexFunc_L2_B_ch  (fun κ t => g κ t) (fun t => h t) (fun t => hg t) s x
theorem slices_IndexFunc_L2_eq  (s : (List Int)) (t : Int) : slices_IndexFunc_L2 s t = slices_IndexFunc_L2_B s (slices_IndexFunc_L2 s) t := LFix_eq (slices_IndexFunc_L2_cn s) t

noncomputable def slices_ContainsFunc (s : (List Int)) : Option (Bool) :=
  (slices_IndexFunc s).bind (fun y' =>
  some (decide ((0 : Int) ≤ y')))

noncomputable def cmp_isNaN (x' : Int) : Option (Bool) :=
  some (decide (¬ x' = x'))

noncomputable def cmp_Compare (x' : Int) (y' : Int) : Option (Int) :=
  (cmp_isNaN x').bind (fun y'_1 =>
  (cmp_isNaN y').bind (fun y'_2 =>
  if y'_1 = true then
  if y'_2 = true then
  some (0 : Int) else
  some (-1 : Int) else
  if y'_2 = true then
  some (1 : Int) else
  if (decide (x' < y')) = true then
  some (-1 : Int) else
  if (decide (y' < x')) = true then
  some (1 : Int) else
  some (0 : Int)))

noncomputable def cmp_Or_L3_B (vals : (List Int)) (r3 : Int → Option (Int)) (t : Int) : Option (Int) :=
  if (decide (t < (vals.length : Int))) = true then
  G (0 ≤ t ∧ t < (vals.length : Int)) (
  if (decide (¬ (ix vals t) = (0 : Int))) = true then
  some (ix vals t) else
  G (fits (t + (1 : Int))) (
  r3 (t + (1 : Int)))) else
  some (0 : Int)
noncomputable def cmp_Or_L3_F (vals : (List Int)) : (Int → Option (Int)) → Int → Option (Int) :=
  fun rec x => cmp_Or_L3_B vals (fun t => rec t) x
noncomputable def cmp_Or_L3 (vals : (List Int)) (t : Int) : Option (Int) := LFix (cmp_Or_L3_F vals ) t
noncomputable def cmp_Or (vals : (List Int)) : Option (Int) :=
  cmp_Or_L3 vals (0 : Int)
theorem cmp_Or_L3_B_ch (r3 : Nat → Int → Option (Int)) (r3' : Int → Option (Int)) (h_r3 : ∀ a0, ChO (fun κ => r3 κ a0) (r3' a0)) (vals : (List Int)) (t : Int) : ChO (fun κ => cmp_Or_L3_B vals (r3 κ) t) (cmp_Or_L3_B vals r3' t) := by
  unfold cmp_Or_L3_B
  repeat' with_reducible first | exact ChO.const _ | exact h_r3 _ | apply ChO.ite | apply ChO.G | apply ChO.both | (apply ChO.bind; intro _)
theorem cmp_Or_L3_cn  (vals : (List Int)) : Cn (cmp_Or_L3_F vals) := fun g h hg x => cmp_Or_L3_B_ch  (fun κ t => g κ t) (fun t => h t) (fun t => hg t) vals x
theorem cmp_Or_L3_eq  (vals : (List Int)) (t : Int) : cmp_Or_L3 vals t = cmp_Or_L3_B vals (cmp_Or_L3 vals) t := LFix_eq (cmp_Or_L3_cn vals) t

noncomputable def tree_Order (x' : (Int × Int × Int × Int × Unit)) (y' : (Int × Int × Int × Int × Unit)) : Option (Int) :=
  (cmp_Compare x'.1 y'.1).bind (fun y'_1 =>
  (cmp_Compare x'.2.1 y'.2.1).bind (fun y'_2 =>
  (cmp_Compare x'.2.2.1 y'.2.2.1).bind (fun y'_3 =>
  (cmp_Compare x'.2.2.2.1 y'.2.2.2.1).bind (fun y'_4 =>
  (cmp_Or ([y'_1, y'_2, y'_3, y'_4])).bind (fun y'_5 =>
  some y'_5)))))

noncomputable def tree_Check_J9 (t : (Int × Int × (List (Int × Int × Int × Int × Unit)) × Int × (List Int) × Unit)) (t_1 : Int) (r7 : (Int → Option (Int))) (leaf : Bool) : Option (Int) :=
  if (decide (((ix t.2.2.1 t_1).1) < (0 : Int))) = true then
  some (2 : Int) else
  if (decide (t.1 ≤ ((ix t.2.2.1 t_1).1))) = true then
  some (2 : Int) else
  (tree_Check_1 (((((ix t.2.2.1 t_1).2).2).2).1) (t.1, (t.2.1, (t.2.2.1, (t.2.2.2.1, (t.2.2.2.2.1, ())))))).bind (fun y' =>
  if y' = true then
  some (2 : Int) else
  if (!leaf) = true then
  (tree_Check_1 (((ix t.2.2.1 t_1).2).1) (t.1, (t.2.1, (t.2.2.1, (t.2.2.2.1, (t.2.2.2.2.1, ())))))).bind (fun y'_1 =>
  if y'_1 = true then
  some (2 : Int) else
  (tree_Check_1 ((((ix t.2.2.1 t_1).2).2).1) (t.1, (t.2.1, (t.2.2.1, (t.2.2.2.1, (t.2.2.2.2.1, ())))))).bind (fun y'_2 =>
  if y'_2 = true then
  some (2 : Int) else
  G (fits (t_1 + (1 : Int))) (
  r7 (t_1 + (1 : Int))))) else
  G (fits (t_1 + (1 : Int))) (
  r7 (t_1 + (1 : Int))))
noncomputable def tree_Check_L16_B (t : (Int × Int × (List (Int × Int × Int × Int × Unit)) × Int × (List Int) × Unit)) (r16 : Int → Option (Int)) (t_2 : Int) : Option (Int) :=
  if (decide (t_2 < (t.2.2.1.length : Int))) = true then
  if (decide ((0 : Int) < t_2)) = true then
  G (fits (t_2 - (1 : Int))) (
  G (0 ≤ t_2 - (1 : Int) ∧ t_2 - (1 : Int) < (t.2.2.1.length : Int)) (
  G (0 ≤ t_2 ∧ t_2 < (t.2.2.1.length : Int)) (
  (tree_Order (ix t.2.2.1 (t_2 - (1 : Int))) (ix t.2.2.1 t_2)).bind (fun y'_4 =>
  if (decide ((0 : Int) ≤ y'_4)) = true then
  some (3 : Int) else
  G (fits (t_2 + (1 : Int))) (
  r16 (t_2 + (1 : Int))))))) else
  G (fits (t_2 + (1 : Int))) (
  r16 (t_2 + (1 : Int))) else
  if (decide (¬ t.2.2.2.1 = (0 : Int))) = true then
  some (3 : Int) else
  some (0 : Int)
noncomputable def tree_Check_L16_F (t : (Int × Int × (List (Int × Int × Int × Int × Unit)) × Int × (List Int) × Unit)) : (Int → Option (Int)) → Int → Option (Int) :=
  fun rec x => tree_Check_L16_B t (fun t_2 => rec t_2) x
noncomputable def tree_Check_L16 (t : (Int × Int × (List (Int × Int × Int × Int × Unit)) × Int × (List Int) × Unit)) (t_2 : Int) : Option (Int) := LFix (tree_Check_L16_F t ) t_2
noncomputable def tree_Check_L7_B (t : (Int × Int × (List (Int × Int × Int × Int × Unit)) × Int × (List Int) × Unit)) (r7 : Int → Option (Int)) (t_1 : Int) : Option (Int) :=
  if (decide (t_1 < (t.2.2.1.length : Int))) = true then
  G (0 ≤ t_1 ∧ t_1 < (t.2.2.1.length : Int)) (
  if (decide ((((ix t.2.2.1 t_1).2).1) = (-1 : Int))) = true then
  tree_Check_J9 t t_1 r7 (decide (((((ix t.2.2.1 t_1).2).2).1) = (-1 : Int))) else
  tree_Check_J9 t t_1 r7 false) else
  (slices_ContainsFunc t.2.2.2.2.1).bind (fun y'_3 =>
  if y'_3 = true then
  some (2 : Int) else
  tree_Check_L16 t (0 : Int))
noncomputable def tree_Check_L7_F (t : (Int × Int × (List (Int × Int × Int × Int × Unit)) × Int × (List Int) × Unit)) : (Int → Option (Int)) → Int → Option (Int) :=
  fun rec x => tree_Check_L7_B t (fun t_1 => rec t_1) x
noncomputable def tree_Check_L7 (t : (Int × Int × (List (Int × Int × Int × Int × Unit)) × Int × (List Int) × Unit)) (t_1 : Int) : Option (Int) := LFix (tree_Check_L7_F t ) t_1
noncomputable def tree_Check (t : (Int × Int × (List (Int × Int × Int × Int × Unit)) × Int × (List Int) × Unit)) : Option (Int) :=
  if (decide (t.1 < (1 : Int))) = true then
  some (2 : Int) else
  if (decide ((4 : Int) < t.1)) = true then
  some (2 : Int) else
  if (decide (t.2.1 < (1 : Int))) = true then
  some (1 : Int) else
  if (decide ((300 : Int) < t.2.1)) = true then
  some (1 : Int) else
  if (decide ((40000 : Int) < (t.2.2.1.length : Int))) = true then
  some (1 : Int) else
  if (decide (¬ (t.2.2.2.2.1.length : Int) = t.2.1)) = true then
  some (1 : Int) else
  tree_Check_L7 t (0 : Int)
theorem tree_Check_J9_ch (r7 : Nat → Int → Option (Int)) (r7' : Int → Option (Int)) (h_r7 : ∀ a0, ChO (fun κ => r7 κ a0) (r7' a0)) (t : (Int × Int × (List (Int × Int × Int × Int × Unit)) × Int × (List Int) × Unit)) (t_1 : Int) (leaf : Bool) : ChO (fun κ => tree_Check_J9 t t_1 (r7 κ) leaf) (tree_Check_J9 t t_1 r7' leaf) := by
  unfold tree_Check_J9
  repeat' with_reducible first | exact ChO.const _ | exact h_r7 _ | apply ChO.ite | apply ChO.G | apply ChO.both | (apply ChO.bind; intro _)
theorem tree_Check_L16_B_ch (r16 : Nat → Int → Option (Int)) (r16' : Int → Option (Int)) (h_r16 : ∀ a0, ChO (fun κ => r16 κ a0) (r16' a0)) (t : (Int × Int × (List (Int × Int × Int × Int × Unit)) × Int × (List Int) × Unit)) (t_2 : Int) : ChO (fun κ => tree_Check_L16_B t (r16 κ) t_2) (tree_Check_L16_B t r16' t_2) := by
  unfold tree_Check_L16_B
  repeat' with_reducible first | exact ChO.const _ | exact h_r16 _ | (apply tree_Check_J9_ch <;> assumption) | apply ChO.ite | apply ChO.G | apply ChO.both | (apply ChO.bind; intro _)
theorem tree_Check_L16_cn  (t : (Int × Int × (List (Int × Int × Int × Int × Unit)) × Int × (List Int) × Unit)) : Cn (tree_Check_L16_F t) := fun g h hg x => tree_Check_L16_B_ch  (fun κ t_2 => g κ t_2) (fun t_2 => h t_2) (fun t_2 => hg t_2) t x
theorem tree_Check_L16_eq  (t : (Int × Int × (List (Int × Int × Int × Int × Unit)) × Int × (List Int) × Unit)) (t_2 : Int) : tree_Check_L16 t t_2 = tree_Check_L16_B t (tree_Check_L16 t) t_2 := LFix_eq (tree_Check_L16_cn t) t_2
theorem tree_Check_L7_B_ch (r7 : Nat → Int → Option (Int)) (r7' : Int → Option (Int)) (h_r7 : ∀ a0, ChO (fun κ => r7 κ a0) (r7' a0)) (t : (Int × Int × (List (Int × Int × Int × Int × Unit)) × Int × (List Int) × Unit)) (t_1 : Int) : ChO (fun κ => tree_Check_L7_B t (r7 κ) t_1) (tree_Check_L7_B t r7' t_1) := by
  unfold tree_Check_L7_B
  repeat' with_reducible first | exact ChO.const _ | exact h_r7 _ | (apply tree_Check_J9_ch <;> assumption) | apply ChO.ite | apply ChO.G | apply ChO.both | (apply ChO.bind; intro _)
theorem tree_Check_L7_cn  (t : (Int × Int × (List (Int × Int × Int × Int × Unit)) × Int × (List Int) × Unit)) : Cn (tree_Check_L7_F t) := fun g h hg x => tree_Check_L7_B_ch  (fun κ t_1 => g κ t_1) (fun t_1 => h t_1) (fun t_1 => hg t_1) t x
theorem tree_Check_L7_eq  (t : (Int × Int × (List (Int × Int × Int × Int × Unit)) × Int × (List Int) × Unit)) (t_1 : Int) : tree_Check_L7 t t_1 = tree_Check_L7_B t (tree_Check_L7 t) t_1 := LFix_eq (tree_Check_L7_cn t) t_1

noncomputable def tree_grown_J13 (t : Int) (r6 : (Bool → Int → (List Int) → (List Int) → Option ((List Int) × (List Int)))) (size_3 : (List Int)) (by'_3 : (List Int)) : Option ((List Int) × (List Int)) :=
  G (fits (t + (1 : Int))) (
  r6 true (t + (1 : Int)) size_3 by'_3)
noncomputable def tree_grown_J12 (a : (Int × Int × (List (Int × Int × Int × Int × Unit)) × Int × (List Int) × Unit)) (again_1 : Bool) (t : Int) (size_2 : (List Int)) (by'_2 : (List Int)) (r6 : (Bool → Int → (List Int) → (List Int) → Option ((List Int) × (List Int)))) (n : Int) (t_1 : Bool) : Option ((List Int) × (List Int)) :=
  if t_1 = true then
  G (0 ≤ ((((ix a.2.2.1 t).2).2).2).1 ∧ ((((ix a.2.2.1 t).2).2).2).1 < (size_2.length : Int)) (
  both [(.list (.int .i64)), (.list (.int .i64))] (
  G ((((((ix a.2.2.1 t).2).2).2).1).toNat < size_2.length) (
  G (0 ≤ ((((ix a.2.2.1 t).2).2).2).1 ∧ ((((ix a.2.2.1 t).2).2).2).1 < (by'_2.length : Int)) (
  G ((((((ix a.2.2.1 t).2).2).2).1).toNat < by'_2.length) (
  tree_grown_J13 t r6 (size_2.set (((((ix a.2.2.1 t).2).2).2).1).toNat n) (by'_2.set (((((ix a.2.2.1 t).2).2).2).1).toNat t))))) (
  G ((((((ix a.2.2.1 t).2).2).2).1).toNat < size_2.length) (
  G (0 ≤ ((((ix a.2.2.1 t).2).2).2).1 ∧ ((((ix a.2.2.1 t).2).2).2).1 < (by'_2.length : Int)) (
  G ((((((ix a.2.2.1 t).2).2).2).1).toNat < by'_2.length) (
  tree_grown_J13 t r6 (size_2.set (((((ix a.2.2.1 t).2).2).2).1).toNat n) (by'_2.set (((((ix a.2.2.1 t).2).2).2).1).toNat t)))))) else
  G (fits (t + (1 : Int))) (
  r6 again_1 (t + (1 : Int)) size_2 by'_2)
noncomputable def tree_grown_J11 (a : (Int × Int × (List (Int × Int × Int × Int × Unit)) × Int × (List Int) × Unit)) (again_1 : Bool) (t : Int) (size_2 : (List Int)) (by'_2 : (List Int)) (r6 : (Bool → Int → (List Int) → (List Int) → Option ((List Int) × (List Int)))) (n : Int) : Option ((List Int) × (List Int)) :=
  if (decide (n ≤ (60 : Int))) = true then
  G (0 ≤ ((((ix a.2.2.1 t).2).2).2).1 ∧ ((((ix a.2.2.1 t).2).2).2).1 < (size_2.length : Int)) (
  G ((((((ix a.2.2.1 t).2).2).2).1).toNat < size_2.length) (
  if (decide ((ix size_2 (((((ix a.2.2.1 t).2).2).2).1)) = (0 : Int))) = true then
  tree_grown_J12 a again_1 t size_2 by'_2 r6 n true else
  G (0 ≤ ((((ix a.2.2.1 t).2).2).2).1 ∧ ((((ix a.2.2.1 t).2).2).2).1 < (size_2.length : Int)) (
  G ((((((ix a.2.2.1 t).2).2).2).1).toNat < size_2.length) (
  tree_grown_J12 a again_1 t size_2 by'_2 r6 n (decide (n < (ix size_2 (((((ix a.2.2.1 t).2).2).2).1)))))))) else
  tree_grown_J12 a again_1 t size_2 by'_2 r6 n false
noncomputable def tree_grown_L6_B (a : (Int × Int × (List (Int × Int × Int × Int × Unit)) × Int × (List Int) × Unit)) (r3 : (Bool → (List Int) → (List Int) → Option ((List Int) × (List Int)))) (r6 : Bool → Int → (List Int) → (List Int) → Option ((List Int) × (List Int))) (again_1 : Bool) (t : Int) (size_2 : (List Int)) (by'_2 : (List Int)) : Option ((List Int) × (List Int)) :=
  if (decide (t < (a.2.2.1.length : Int))) = true then
  G (0 ≤ t ∧ t < (a.2.2.1.length : Int)) (
  if (decide ((0 : Int) ≤ (((ix a.2.2.1 t).2).1))) = true then
  G (0 ≤ ((ix a.2.2.1 t).2).1 ∧ ((ix a.2.2.1 t).2).1 < (size_2.length : Int)) (
  G ((((ix a.2.2.1 t).2).1).toNat < size_2.length) (
  if (decide ((ix size_2 (((ix a.2.2.1 t).2).1)) = (0 : Int))) = true then
  G (fits (t + (1 : Int))) (
  r6 again_1 (t + (1 : Int)) size_2 by'_2) else
  G (0 ≤ (((ix a.2.2.1 t).2).2).1 ∧ (((ix a.2.2.1 t).2).2).1 < (size_2.length : Int)) (
  G (((((ix a.2.2.1 t).2).2).1).toNat < size_2.length) (
  if (decide ((ix size_2 ((((ix a.2.2.1 t).2).2).1)) = (0 : Int))) = true then
  G (fits (t + (1 : Int))) (
  r6 again_1 (t + (1 : Int)) size_2 by'_2) else
  G (0 ≤ ((ix a.2.2.1 t).2).1 ∧ ((ix a.2.2.1 t).2).1 < (size_2.length : Int)) (
  G ((((ix a.2.2.1 t).2).1).toNat < size_2.length) (
  G (0 ≤ (((ix a.2.2.1 t).2).2).1 ∧ (((ix a.2.2.1 t).2).2).1 < (size_2.length : Int)) (
  G (((((ix a.2.2.1 t).2).2).1).toNat < size_2.length) (
  G (fits ((ix size_2 (((ix a.2.2.1 t).2).1)) + (ix size_2 ((((ix a.2.2.1 t).2).2).1)))) (
  G (fits ((1 : Int) + ((ix size_2 (((ix a.2.2.1 t).2).1)) + (ix size_2 ((((ix a.2.2.1 t).2).2).1))))) (
  tree_grown_J11 a again_1 t size_2 by'_2 r6 ((1 : Int) + ((ix size_2 (((ix a.2.2.1 t).2).1)) + (ix size_2 ((((ix a.2.2.1 t).2).2).1)))))))))))))) else
  tree_grown_J11 a again_1 t size_2 by'_2 r6 (1 : Int)) else
  r3 again_1 size_2 by'_2
noncomputable def tree_grown_L6_F (a : (Int × Int × (List (Int × Int × Int × Int × Unit)) × Int × (List Int) × Unit)) (r3 : (Bool → (List Int) → (List Int) → Option ((List Int) × (List Int)))) : (Bool × Int × (List Int) × (List Int) → Option ((List Int) × (List Int))) → Bool × Int × (List Int) × (List Int) → Option ((List Int) × (List Int)) :=
  fun rec x => tree_grown_L6_B a r3 (fun again_1 t size_2 by'_2 => rec (again_1, t, size_2, by'_2)) x.1 x.2.1 x.2.2.1 x.2.2.2
noncomputable def tree_grown_L6 (a : (Int × Int × (List (Int × Int × Int × Int × Unit)) × Int × (List Int) × Unit)) (r3 : (Bool → (List Int) → (List Int) → Option ((List Int) × (List Int)))) (again_1 : Bool) (t : Int) (size_2 : (List Int)) (by'_2 : (List Int)) : Option ((List Int) × (List Int)) := LFix (tree_grown_L6_F a r3 ) (again_1, t, size_2, by'_2)
noncomputable def tree_grown_L3_B (a : (Int × Int × (List (Int × Int × Int × Int × Unit)) × Int × (List Int) × Unit)) (r3 : Bool → (List Int) → (List Int) → Option ((List Int) × (List Int))) (again : Bool) (size_1 : (List Int)) (by'_1 : (List Int)) : Option ((List Int) × (List Int)) :=
  if again = true then
  tree_grown_L6 a r3 false (0 : Int) size_1 by'_1 else
  some (size_1, by'_1)
noncomputable def tree_grown_L3_F (a : (Int × Int × (List (Int × Int × Int × Int × Unit)) × Int × (List Int) × Unit)) : (Bool × (List Int) × (List Int) → Option ((List Int) × (List Int))) → Bool × (List Int) × (List Int) → Option ((List Int) × (List Int)) :=
  fun rec x => tree_grown_L3_B a (fun again size_1 by'_1 => rec (again, size_1, by'_1)) x.1 x.2.1 x.2.2
noncomputable def tree_grown_L3 (a : (Int × Int × (List (Int × Int × Int × Int × Unit)) × Int × (List Int) × Unit)) (again : Bool) (size_1 : (List Int)) (by'_1 : (List Int)) : Option ((List Int) × (List Int)) := LFix (tree_grown_L3_F a ) (again, size_1, by'_1)
noncomputable def tree_grown_J1 (a : (Int × Int × (List (Int × Int × Int × Int × Unit)) × Int × (List Int) × Unit)) (size : (List Int)) (by' : (List Int)) : Option ((List Int) × (List Int)) :=
  tree_grown_L3 a true size by'
noncomputable def tree_grown (a : (Int × Int × (List (Int × Int × Int × Int × Unit)) × Int × (List Int) × Unit)) : Option ((List Int) × (List Int)) :=
  both [(.list (.int .i64)), (.list (.int .i64))] (
  G (mkOK a.2.1 a.2.1 8) (
  G (mkOK a.2.1 a.2.1 8) (
  tree_grown_J1 a (List.replicate (a.2.1).toNat (0 : Int)) (List.replicate (a.2.1).toNat (0 : Int))))) (
  G (mkOK a.2.1 a.2.1 8) (
  G (mkOK a.2.1 a.2.1 8) (
  tree_grown_J1 a (List.replicate (a.2.1).toNat (0 : Int)) (List.replicate (a.2.1).toNat (0 : Int)))))
theorem tree_grown_J13_ch (r6 : Nat → Bool → Int → (List Int) → (List Int) → Option ((List Int) × (List Int))) (r6' : Bool → Int → (List Int) → (List Int) → Option ((List Int) × (List Int))) (h_r6 : ∀ a0 a1 a2 a3, ChO (fun κ => r6 κ a0 a1 a2 a3) (r6' a0 a1 a2 a3)) (t : Int) (size_3 : (List Int)) (by'_3 : (List Int)) : ChO (fun κ => tree_grown_J13 t (r6 κ) size_3 by'_3) (tree_grown_J13 t r6' size_3 by'_3) := by
  unfold tree_grown_J13
  repeat' with_reducible first | exact ChO.const _ | exact h_r6 _ _ _ _ | apply ChO.ite | apply ChO.G | apply ChO.both | (apply ChO.bind; intro _)
theorem tree_grown_J12_ch (r6 : Nat → Bool → Int → (List Int) → (List Int) → Option ((List Int) × (List Int))) (r6' : Bool → Int → (List Int) → (List Int) → Option ((List Int) × (List Int))) (h_r6 : ∀ a0 a1 a2 a3, ChO (fun κ => r6 κ a0 a1 a2 a3) (r6' a0 a1 a2 a3)) (a : (Int × Int × (List (Int × Int × Int × Int × Unit)) × Int × (List Int) × Unit)) (again_1 : Bool) (t : Int) (size_2 : (List Int)) (by'_2 : (List Int)) (n : Int) (t_1 : Bool) : ChO (fun κ => tree_grown_J12 a again_1 t size_2 by'_2 (r6 κ) n t_1) (tree_grown_J12 a again_1 t size_2 by'_2 r6' n t_1) := by
  unfold tree_grown_J12
  repeat' with_reducible first | exact ChO.const _ | exact h_r6 _ _ _ _ | (apply tree_grown_J13_ch <;> assumption) | apply ChO.ite | apply ChO.G | apply ChO.both | (apply ChO.bind; intro _)
theorem tree_grown_J11_ch (r6 : Nat → Bool → Int → (List Int) → (List Int) → Option ((List Int) × (List Int))) (r6' : Bool → Int → (List Int) → (List Int) → Option ((List Int) × (List Int))) (h_r6 : ∀ a0 a1 a2 a3, ChO (fun κ => r6 κ a0 a1 a2 a3) (r6' a0 a1 a2 a3)) (a : (Int × Int × (List (Int × Int × Int × Int × Unit)) × Int × (List Int) × Unit)) (again_1 : Bool) (t : Int) (size_2 : (List Int)) (by'_2 : (List Int)) (n : Int) : ChO (fun κ => tree_grown_J11 a again_1 t size_2 by'_2 (r6 κ) n) (tree_grown_J11 a again_1 t size_2 by'_2 r6' n) := by
  unfold tree_grown_J11
  repeat' with_reducible first | exact ChO.const _ | exact h_r6 _ _ _ _ | (apply tree_grown_J13_ch <;> assumption) | (apply tree_grown_J12_ch <;> assumption) | apply ChO.ite | apply ChO.G | apply ChO.both | (apply ChO.bind; intro _)
theorem tree_grown_L6_B_ch (r3 : Nat → Bool → (List Int) → (List Int) → Option ((List Int) × (List Int))) (r3' : Bool → (List Int) → (List Int) → Option ((List Int) × (List Int))) (h_r3 : ∀ a0 a1 a2, ChO (fun κ => r3 κ a0 a1 a2) (r3' a0 a1 a2)) (r6 : Nat → Bool → Int → (List Int) → (List Int) → Option ((List Int) × (List Int))) (r6' : Bool → Int → (List Int) → (List Int) → Option ((List Int) × (List Int))) (h_r6 : ∀ a0 a1 a2 a3, ChO (fun κ => r6 κ a0 a1 a2 a3) (r6' a0 a1 a2 a3)) (a : (Int × Int × (List (Int × Int × Int × Int × Unit)) × Int × (List Int) × Unit)) (again_1 : Bool) (t : Int) (size_2 : (List Int)) (by'_2 : (List Int)) : ChO (fun κ => tree_grown_L6_B a (r3 κ) (r6 κ) again_1 t size_2 by'_2) (tree_grown_L6_B a r3' r6' again_1 t size_2 by'_2) := by
  unfold tree_grown_L6_B
  repeat' with_reducible first | exact ChO.const _ | exact h_r3 _ _ _ | exact h_r6 _ _ _ _ | (apply tree_grown_J13_ch <;> assumption) | (apply tree_grown_J12_ch <;> assumption) | (apply tree_grown_J11_ch <;> assumption) | apply ChO.ite | apply ChO.G | apply ChO.both | (apply ChO.bind; intro _)
theorem tree_grown_L6_cn (r3 : Bool → (List Int) → (List Int) → Option ((List Int) × (List Int))) (a : (Int × Int × (List (Int × Int × Int × Int × Unit)) × Int × (List Int) × Unit)) : Cn (tree_grown_L6_F a r3) := fun g h hg x => tree_grown_L6_B_ch (fun _ => r3) r3 (fun _ _ _ => ChO.const _) (fun κ again_1 t size_2 by'_2 => g κ (again_1, t, size_2, by'_2)) (fun again_1 t size_2 by'_2 => h (again_1, t, size_2, by'_2)) (fun again_1 t size_2 by'_2 => hg (again_1, t, size_2, by'_2)) a x.1 x.2.1 x.2.2.1 x.2.2.2
theorem tree_grown_L6_eq (r3 : Bool → (List Int) → (List Int) → Option ((List Int) × (List Int))) (a : (Int × Int × (List (Int × Int × Int × Int × Unit)) × Int × (List Int) × Unit)) (again_1 : Bool) (t : Int) (size_2 : (List Int)) (by'_2 : (List Int)) : tree_grown_L6 a r3 again_1 t size_2 by'_2 = tree_grown_L6_B a r3 (tree_grown_L6 a r3) again_1 t size_2 by'_2 := LFix_eq (tree_grown_L6_cn r3 a) (again_1, t, size_2, by'_2)
theorem tree_grown_L6_ch (r3 : Nat → Bool → (List Int) → (List Int) → Option ((List Int) × (List Int))) (r3' : Bool → (List Int) → (List Int) → Option ((List Int) × (List Int))) (h_r3 : ∀ a0 a1 a2, ChO (fun κ => r3 κ a0 a1 a2) (r3' a0 a1 a2)) (a : (Int × Int × (List (Int × Int × Int × Int × Unit)) × Int × (List Int) × Unit)) (again_1 : Bool) (t : Int) (size_2 : (List Int)) (by'_2 : (List Int)) : ChO (fun κ => tree_grown_L6 a (r3 κ) again_1 t size_2 by'_2) (tree_grown_L6 a r3' again_1 t size_2 by'_2) := by
  unfold tree_grown_L6
  exact LFix_ch (fun κ => (tree_grown_L6_cn (r3 κ) a).mono) (tree_grown_L6_cn r3' a).mono (fun g h hg x => tree_grown_L6_B_ch r3 r3' h_r3 (fun κ again_1 t size_2 by'_2 => g κ (again_1, t, size_2, by'_2)) (fun again_1 t size_2 by'_2 => h (again_1, t, size_2, by'_2)) (fun again_1 t size_2 by'_2 => hg (again_1, t, size_2, by'_2)) a x.1 x.2.1 x.2.2.1 x.2.2.2) _
theorem tree_grown_L3_B_ch (r3 : Nat → Bool → (List Int) → (List Int) → Option ((List Int) × (List Int))) (r3' : Bool → (List Int) → (List Int) → Option ((List Int) × (List Int))) (h_r3 : ∀ a0 a1 a2, ChO (fun κ => r3 κ a0 a1 a2) (r3' a0 a1 a2)) (a : (Int × Int × (List (Int × Int × Int × Int × Unit)) × Int × (List Int) × Unit)) (again : Bool) (size_1 : (List Int)) (by'_1 : (List Int)) : ChO (fun κ => tree_grown_L3_B a (r3 κ) again size_1 by'_1) (tree_grown_L3_B a r3' again size_1 by'_1) := by
  unfold tree_grown_L3_B
  repeat' with_reducible first | exact ChO.const _ | exact h_r3 _ _ _ | (apply tree_grown_J13_ch <;> assumption) | (apply tree_grown_J12_ch <;> assumption) | (apply tree_grown_J11_ch <;> assumption) | (apply tree_grown_L6_ch <;> assumption) | apply ChO.ite | apply ChO.G | apply ChO.both | (apply ChO.bind; intro _)
theorem tree_grown_L3_cn  (a : (Int × Int × (List (Int × Int × Int × Int × Unit)) × Int × (List Int) × Unit)) : Cn (tree_grown_L3_F a) := fun g h hg x => tree_grown_L3_B_ch  (fun κ again size_1 by'_1 => g κ (again, size_1, by'_1)) (fun again size_1 by'_1 => h (again, size_1, by'_1)) (fun again size_1 by'_1 => hg (again, size_1, by'_1)) a x.1 x.2.1 x.2.2
theorem tree_grown_L3_eq  (a : (Int × Int × (List (Int × Int × Int × Int × Unit)) × Int × (List Int) × Unit)) (again : Bool) (size_1 : (List Int)) (by'_1 : (List Int)) : tree_grown_L3 a again size_1 by'_1 = tree_grown_L3_B a (tree_grown_L3 a) again size_1 by'_1 := LFix_eq (tree_grown_L3_cn a) (again, size_1, by'_1)

noncomputable def tree_put_J5 (x' : Int) (x'_1 : Int) (x'_2 : Int) (l_1 : (List (Int × Int × Int × Unit))) : Option (Int × (List (Int × Int × Int × Unit))) :=
  G (room l_1 ([(x', (x'_1, (x'_2, ())))]) 24) (
  G (fits (((l_1 ++ ([(x', (x'_1, (x'_2, ())))])).length : Int) - (1 : Int))) (
  some (((l_1 ++ ([(x', (x'_1, (x'_2, ())))])).length : Int) - (1 : Int), l_1 ++ ([(x', (x'_1, (x'_2, ())))]))))
noncomputable def tree_put_B (rc_tree_put : (Int × Int × (List (Int × Int × Int × Int × Unit)) × Int × (List Int) × Unit) → (List Int) → Int → (List (Int × Int × Int × Unit)) → Option (Int × (List (Int × Int × Int × Unit)))) (a : (Int × Int × (List (Int × Int × Int × Int × Unit)) × Int × (List Int) × Unit)) (by' : (List Int)) (q : Int) (l : (List (Int × Int × Int × Unit))) : Option (Int × (List (Int × Int × Int × Unit))) :=
  G (0 ≤ q ∧ q < (by'.length : Int)) (
  G (0 ≤ ix by' q ∧ ix by' q < (a.2.2.1.length : Int)) (
  if (decide ((0 : Int) ≤ (((ix a.2.2.1 (ix by' q)).2).1))) = true then
  (rc_tree_put (a.1, (a.2.1, (a.2.2.1, (a.2.2.2.1, (a.2.2.2.2.1, ()))))) by' (((ix a.2.2.1 (ix by' q)).2).1) l).bind (fun y'_7 =>
  (rc_tree_put (a.1, (a.2.1, (a.2.2.1, (a.2.2.2.1, (a.2.2.2.2.1, ()))))) by' ((((ix a.2.2.1 (ix by' q)).2).2).1) y'_7.2).bind (fun y'_6 =>
  tree_put_J5 ((ix a.2.2.1 (ix by' q)).1) y'_7.1 y'_6.1 y'_6.2)) else
  tree_put_J5 ((ix a.2.2.1 (ix by' q)).1) (-1 : Int) (-1 : Int) l))
theorem tree_put_B_ch (rc_tree_put : Nat → (Int × Int × (List (Int × Int × Int × Int × Unit)) × Int × (List Int) × Unit) → (List Int) → Int → (List (Int × Int × Int × Unit)) → Option (Int × (List (Int × Int × Int × Unit)))) (rc_tree_put' : (Int × Int × (List (Int × Int × Int × Int × Unit)) × Int × (List Int) × Unit) → (List Int) → Int → (List (Int × Int × Int × Unit)) → Option (Int × (List (Int × Int × Int × Unit)))) (h_rc_tree_put : ∀ a0 a1 a2 a3, ChO (fun κ => rc_tree_put κ a0 a1 a2 a3) (rc_tree_put' a0 a1 a2 a3)) (a : (Int × Int × (List (Int × Int × Int × Int × Unit)) × Int × (List Int) × Unit)) (by' : (List Int)) (q : Int) (l : (List (Int × Int × Int × Unit))) : ChO (fun κ => tree_put_B (rc_tree_put κ) a by' q l) (tree_put_B rc_tree_put' a by' q l) := by
  unfold tree_put_B
  repeat' with_reducible first | exact ChO.const _ | exact h_rc_tree_put _ _ _ _ | apply ChO.ite | apply ChO.G | apply ChO.both | (apply ChO.bind; intro _) | (apply ChO.bind2 (h_rc_tree_put _ _ _ _); intro _)
noncomputable def tree_put_F : ((Int × Int × (List (Int × Int × Int × Int × Unit)) × Int × (List Int) × Unit) × (List Int) × Int × (List (Int × Int × Int × Unit)) → Option (Int × (List (Int × Int × Int × Unit)))) → (Int × Int × (List (Int × Int × Int × Int × Unit)) × Int × (List Int) × Unit) × (List Int) × Int × (List (Int × Int × Int × Unit)) → Option (Int × (List (Int × Int × Int × Unit))) :=
  fun rec X => tree_put_B (fun a by' q l => rec (a, by', q, l)) X.1 X.2.1 X.2.2.1 X.2.2.2
noncomputable def tree_put (a : (Int × Int × (List (Int × Int × Int × Int × Unit)) × Int × (List Int) × Unit)) (by' : (List Int)) (q : Int) (l : (List (Int × Int × Int × Unit))) : Option (Int × (List (Int × Int × Int × Unit))) := LFix tree_put_F (a, by', q, l)
theorem tree_put_cn : Cn tree_put_F := fun g h hg X => tree_put_B_ch _ _ (fun a by' q l => hg (a, by', q, l)) X.1 X.2.1 X.2.2.1 X.2.2.2
theorem tree_put_eq (a : (Int × Int × (List (Int × Int × Int × Int × Unit)) × Int × (List Int) × Unit)) (by' : (List Int)) (q : Int) (l : (List (Int × Int × Int × Unit))) : tree_put a by' q l = tree_put_B tree_put a by' q l := LFix_eq tree_put_cn (a, by', q, l)

noncomputable def tree_some_L4_B (a : (Int × Int × (List (Int × Int × Int × Int × Unit)) × Int × (List Int) × Unit)) (y' : (List Int)) (y'_1 : (List Int)) (r4 : Int → Int → Option (((List (Int × Int × Int × Unit)) × Unit) × Bool × Int)) (best : Int) (t : Int) : Option (((List (Int × Int × Int × Unit)) × Unit) × Bool × Int) :=
  if (decide (t < (y'.length : Int))) = true then
  G (0 ≤ t ∧ t < (y'.length : Int)) (
  G ((t).toNat < y'.length) (
  if (decide ((0 : Int) < (ix y' t))) = true then
  G (0 ≤ t ∧ t < (a.2.2.2.2.1.length : Int)) (
  if (decide ((ix a.2.2.2.2.1 t) = (1 : Int))) = true then
  if (decide (best < (0 : Int))) = true then
  G (fits (t + (1 : Int))) (
  r4 t (t + (1 : Int))) else
  G (0 ≤ best ∧ best < (y'.length : Int)) (
  G ((best).toNat < y'.length) (
  if (decide ((ix y' t) < (ix y' best))) = true then
  G (fits (t + (1 : Int))) (
  r4 t (t + (1 : Int))) else
  G (fits (t + (1 : Int))) (
  r4 best (t + (1 : Int))))) else
  G (fits (t + (1 : Int))) (
  r4 best (t + (1 : Int)))) else
  G (fits (t + (1 : Int))) (
  r4 best (t + (1 : Int))))) else
  if (decide (best < (0 : Int))) = true then
  some (([], ()), false, (0 : Int)) else
  (tree_put (a.1, (a.2.1, (a.2.2.1, (a.2.2.2.1, (a.2.2.2.2.1, ()))))) y'_1 best ([] : List (Int × Int × Int × Unit))).bind (fun y'_6 =>
  some ((y'_6.2, ()), true, (0 : Int)))
noncomputable def tree_some_L4_F (a : (Int × Int × (List (Int × Int × Int × Int × Unit)) × Int × (List Int) × Unit)) (y' : (List Int)) (y'_1 : (List Int)) : (Int × Int → Option (((List (Int × Int × Int × Unit)) × Unit) × Bool × Int)) → Int × Int → Option (((List (Int × Int × Int × Unit)) × Unit) × Bool × Int) :=
  fun rec x => tree_some_L4_B a y' y'_1 (fun best t => rec (best, t)) x.1 x.2
noncomputable def tree_some_L4 (a : (Int × Int × (List (Int × Int × Int × Int × Unit)) × Int × (List Int) × Unit)) (y' : (List Int)) (y'_1 : (List Int)) (best : Int) (t : Int) : Option (((List (Int × Int × Int × Unit)) × Unit) × Bool × Int) := LFix (tree_some_L4_F a y' y'_1 ) (best, t)
noncomputable def tree_some (a : (Int × Int × (List (Int × Int × Int × Int × Unit)) × Int × (List Int) × Unit)) : Option (((List (Int × Int × Int × Unit)) × Unit) × Bool × Int) :=
  (tree_grown (a.1, (a.2.1, (a.2.2.1, (a.2.2.2.1, (a.2.2.2.2.1, ())))))).bind (fun y'_7 =>
  tree_some_L4 a y'_7.1 y'_7.2 (-1 : Int) (0 : Int))
theorem tree_some_L4_B_ch (r4 : Nat → Int → Int → Option (((List (Int × Int × Int × Unit)) × Unit) × Bool × Int)) (r4' : Int → Int → Option (((List (Int × Int × Int × Unit)) × Unit) × Bool × Int)) (h_r4 : ∀ a0 a1, ChO (fun κ => r4 κ a0 a1) (r4' a0 a1)) (a : (Int × Int × (List (Int × Int × Int × Int × Unit)) × Int × (List Int) × Unit)) (y' : (List Int)) (y'_1 : (List Int)) (best : Int) (t : Int) : ChO (fun κ => tree_some_L4_B a y' y'_1 (r4 κ) best t) (tree_some_L4_B a y' y'_1 r4' best t) := by
  unfold tree_some_L4_B
  repeat' with_reducible first | exact ChO.const _ | exact h_r4 _ _ | apply ChO.ite | apply ChO.G | apply ChO.both | (apply ChO.bind; intro _)
theorem tree_some_L4_cn  (a : (Int × Int × (List (Int × Int × Int × Int × Unit)) × Int × (List Int) × Unit)) (y' : (List Int)) (y'_1 : (List Int)) : Cn (tree_some_L4_F a y' y'_1) := fun g h hg x => tree_some_L4_B_ch  (fun κ best t => g κ (best, t)) (fun best t => h (best, t)) (fun best t => hg (best, t)) a y' y'_1 x.1 x.2
theorem tree_some_L4_eq  (a : (Int × Int × (List (Int × Int × Int × Int × Unit)) × Int × (List Int) × Unit)) (y' : (List Int)) (y'_1 : (List Int)) (best : Int) (t : Int) : tree_some_L4 a y' y'_1 best t = tree_some_L4_B a y' y'_1 (tree_some_L4 a y' y'_1) best t := LFix_eq (tree_some_L4_cn a y' y'_1) (best, t)

noncomputable def tree_Some (a : (Int × Int × (List (Int × Int × Int × Int × Unit)) × Int × (List Int) × Unit)) : Option (((List (Int × Int × Int × Unit)) × Unit) × Bool × Int) :=
  (tree_Check (a.1, (a.2.1, (a.2.2.1, (a.2.2.2.1, (a.2.2.2.2.1, ())))))).bind (fun y' =>
  if (decide (¬ y' = (0 : Int))) = true then
  some (([], ()), false, y') else
  (tree_some (a.1, (a.2.1, (a.2.2.1, (a.2.2.2.1, (a.2.2.2.2.1, ())))))).bind (fun y'_5 =>
  some ((y'_5.1.1, ()), y'_5.2.1, y'_5.2.2)))

noncomputable def r12_Ahead (x' : (Int × Int × Int × Int × Unit)) (y' : (Int × Int × Int × Int × Unit)) : Option (Bool) :=
  if (decide (¬ x'.1 = y'.1)) = true then
  some (decide (x'.1 < y'.1)) else
  if (decide (¬ x'.2.1 = y'.2.1)) = true then
  some (decide (x'.2.1 < y'.2.1)) else
  if (decide (¬ x'.2.2.1 = y'.2.2.1)) = true then
  some (decide (x'.2.2.1 < y'.2.2.1)) else
  some (decide (x'.2.2.2.1 < y'.2.2.2.1))

noncomputable def r12_Check_J10 (t : (Int × Int × (List (Int × Int × Int × Int × Unit)) × Int × (List Int) × Unit)) (i : Int) (r6 : (Int → Option (Int))) (leaf : Bool) (both' : Bool) : Option (Int) :=
  if (decide (((ix t.2.2.1 i).1) < (0 : Int))) = true then
  some (2 : Int) else
  if (decide (t.1 ≤ ((ix t.2.2.1 i).1))) = true then
  some (2 : Int) else
  if (decide ((((((ix t.2.2.1 i).2).2).2).1) < (0 : Int))) = true then
  some (2 : Int) else
  if (decide (t.2.1 ≤ (((((ix t.2.2.1 i).2).2).2).1))) = true then
  some (2 : Int) else
  if (!leaf) = true then
  if (!both') = true then
  some (2 : Int) else
  G (fits (i + (1 : Int))) (
  r6 (i + (1 : Int))) else
  G (fits (i + (1 : Int))) (
  r6 (i + (1 : Int)))
noncomputable def r12_Check_J9 (t : (Int × Int × (List (Int × Int × Int × Int × Unit)) × Int × (List Int) × Unit)) (i : Int) (r6 : (Int → Option (Int))) (leaf : Bool) : Option (Int) :=
  if (decide ((0 : Int) ≤ (((ix t.2.2.1 i).2).1))) = true then
  if (decide ((((ix t.2.2.1 i).2).1) < t.2.1)) = true then
  if (decide ((0 : Int) ≤ ((((ix t.2.2.1 i).2).2).1))) = true then
  r12_Check_J10 t i r6 leaf (decide (((((ix t.2.2.1 i).2).2).1) < t.2.1)) else
  r12_Check_J10 t i r6 leaf false else
  r12_Check_J10 t i r6 leaf false else
  r12_Check_J10 t i r6 leaf false
noncomputable def r12_Check_L19_B (t : (Int × Int × (List (Int × Int × Int × Int × Unit)) × Int × (List Int) × Unit)) (r19 : Int → Option (Int)) (i_2 : Int) : Option (Int) :=
  if (decide (i_2 < (t.2.2.1.length : Int))) = true then
  G (fits (i_2 - (1 : Int))) (
  G (0 ≤ i_2 - (1 : Int) ∧ i_2 - (1 : Int) < (t.2.2.1.length : Int)) (
  G (0 ≤ i_2 ∧ i_2 < (t.2.2.1.length : Int)) (
  (r12_Ahead (ix t.2.2.1 (i_2 - (1 : Int))) (ix t.2.2.1 i_2)).bind (fun y' =>
  if (!y') = true then
  some (3 : Int) else
  G (fits (i_2 + (1 : Int))) (
  r19 (i_2 + (1 : Int))))))) else
  if (decide (¬ t.2.2.2.1 = (0 : Int))) = true then
  some (3 : Int) else
  some (0 : Int)
noncomputable def r12_Check_L19_F (t : (Int × Int × (List (Int × Int × Int × Int × Unit)) × Int × (List Int) × Unit)) : (Int → Option (Int)) → Int → Option (Int) :=
  fun rec x => r12_Check_L19_B t (fun i_2 => rec i_2) x
noncomputable def r12_Check_L19 (t : (Int × Int × (List (Int × Int × Int × Int × Unit)) × Int × (List Int) × Unit)) (i_2 : Int) : Option (Int) := LFix (r12_Check_L19_F t ) i_2
noncomputable def r12_Check_L14_B (t : (Int × Int × (List (Int × Int × Int × Int × Unit)) × Int × (List Int) × Unit)) (r14 : Int → Option (Int)) (i_1 : Int) : Option (Int) :=
  if (decide (i_1 < (t.2.2.2.2.1.length : Int))) = true then
  G (0 ≤ i_1 ∧ i_1 < (t.2.2.2.2.1.length : Int)) (
  if (decide (¬ (ix t.2.2.2.2.1 i_1) = (0 : Int))) = true then
  G (0 ≤ i_1 ∧ i_1 < (t.2.2.2.2.1.length : Int)) (
  if (decide (¬ (ix t.2.2.2.2.1 i_1) = (1 : Int))) = true then
  some (2 : Int) else
  G (fits (i_1 + (1 : Int))) (
  r14 (i_1 + (1 : Int)))) else
  G (fits (i_1 + (1 : Int))) (
  r14 (i_1 + (1 : Int)))) else
  r12_Check_L19 t (1 : Int)
noncomputable def r12_Check_L14_F (t : (Int × Int × (List (Int × Int × Int × Int × Unit)) × Int × (List Int) × Unit)) : (Int → Option (Int)) → Int → Option (Int) :=
  fun rec x => r12_Check_L14_B t (fun i_1 => rec i_1) x
noncomputable def r12_Check_L14 (t : (Int × Int × (List (Int × Int × Int × Int × Unit)) × Int × (List Int) × Unit)) (i_1 : Int) : Option (Int) := LFix (r12_Check_L14_F t ) i_1
noncomputable def r12_Check_L6_B (t : (Int × Int × (List (Int × Int × Int × Int × Unit)) × Int × (List Int) × Unit)) (r6 : Int → Option (Int)) (i : Int) : Option (Int) :=
  if (decide (i < (t.2.2.1.length : Int))) = true then
  G (0 ≤ i ∧ i < (t.2.2.1.length : Int)) (
  if (decide ((((ix t.2.2.1 i).2).1) = (-1 : Int))) = true then
  r12_Check_J9 t i r6 (decide (((((ix t.2.2.1 i).2).2).1) = (-1 : Int))) else
  r12_Check_J9 t i r6 false) else
  r12_Check_L14 t (0 : Int)
noncomputable def r12_Check_L6_F (t : (Int × Int × (List (Int × Int × Int × Int × Unit)) × Int × (List Int) × Unit)) : (Int → Option (Int)) → Int → Option (Int) :=
  fun rec x => r12_Check_L6_B t (fun i => rec i) x
noncomputable def r12_Check_L6 (t : (Int × Int × (List (Int × Int × Int × Int × Unit)) × Int × (List Int) × Unit)) (i : Int) : Option (Int) := LFix (r12_Check_L6_F t ) i
noncomputable def r12_Check (t : (Int × Int × (List (Int × Int × Int × Int × Unit)) × Int × (List Int) × Unit)) : Option (Int) :=
  if (decide (t.1 < (1 : Int))) = true then
  some (2 : Int) else
  if (decide ((4 : Int) < t.1)) = true then
  some (2 : Int) else
  if (decide (t.2.1 < (1 : Int))) = true then
  some (1 : Int) else
  if (decide ((300 : Int) < t.2.1)) = true then
  some (1 : Int) else
  if (decide ((40000 : Int) < (t.2.2.1.length : Int))) = true then
  some (1 : Int) else
  if (decide (¬ (t.2.2.2.2.1.length : Int) = t.2.1)) = true then
  some (1 : Int) else
  r12_Check_L6 t (0 : Int)
theorem r12_Check_J10_ch (r6 : Nat → Int → Option (Int)) (r6' : Int → Option (Int)) (h_r6 : ∀ a0, ChO (fun κ => r6 κ a0) (r6' a0)) (t : (Int × Int × (List (Int × Int × Int × Int × Unit)) × Int × (List Int) × Unit)) (i : Int) (leaf : Bool) (both' : Bool) : ChO (fun κ => r12_Check_J10 t i (r6 κ) leaf both') (r12_Check_J10 t i r6' leaf both') := by
  unfold r12_Check_J10
  repeat' with_reducible first | exact ChO.const _ | exact h_r6 _ | apply ChO.ite | apply ChO.G | apply ChO.both | (apply ChO.bind; intro _)
theorem r12_Check_J9_ch (r6 : Nat → Int → Option (Int)) (r6' : Int → Option (Int)) (h_r6 : ∀ a0, ChO (fun κ => r6 κ a0) (r6' a0)) (t : (Int × Int × (List (Int × Int × Int × Int × Unit)) × Int × (List Int) × Unit)) (i : Int) (leaf : Bool) : ChO (fun κ => r12_Check_J9 t i (r6 κ) leaf) (r12_Check_J9 t i r6' leaf) := by
  unfold r12_Check_J9
  repeat' with_reducible first | exact ChO.const _ | exact h_r6 _ | (apply r12_Check_J10_ch <;> assumption) | apply ChO.ite | apply ChO.G | apply ChO.both | (apply ChO.bind; intro _)
theorem r12_Check_L19_B_ch (r19 : Nat → Int → Option (Int)) (r19' : Int → Option (Int)) (h_r19 : ∀ a0, ChO (fun κ => r19 κ a0) (r19' a0)) (t : (Int × Int × (List (Int × Int × Int × Int × Unit)) × Int × (List Int) × Unit)) (i_2 : Int) : ChO (fun κ => r12_Check_L19_B t (r19 κ) i_2) (r12_Check_L19_B t r19' i_2) := by
  unfold r12_Check_L19_B
  repeat' with_reducible first | exact ChO.const _ | exact h_r19 _ | (apply r12_Check_J10_ch <;> assumption) | (apply r12_Check_J9_ch <;> assumption) | apply ChO.ite | apply ChO.G | apply ChO.both | (apply ChO.bind; intro _)
theorem r12_Check_L19_cn  (t : (Int × Int × (List (Int × Int × Int × Int × Unit)) × Int × (List Int) × Unit)) : Cn (r12_Check_L19_F t) := fun g h hg x => r12_Check_L19_B_ch  (fun κ i_2 => g κ i_2) (fun i_2 => h i_2) (fun i_2 => hg i_2) t x
theorem r12_Check_L19_eq  (t : (Int × Int × (List (Int × Int × Int × Int × Unit)) × Int × (List Int) × Unit)) (i_2 : Int) : r12_Check_L19 t i_2 = r12_Check_L19_B t (r12_Check_L19 t) i_2 := LFix_eq (r12_Check_L19_cn t) i_2
theorem r12_Check_L14_B_ch (r14 : Nat → Int → Option (Int)) (r14' : Int → Option (Int)) (h_r14 : ∀ a0, ChO (fun κ => r14 κ a0) (r14' a0)) (t : (Int × Int × (List (Int × Int × Int × Int × Unit)) × Int × (List Int) × Unit)) (i_1 : Int) : ChO (fun κ => r12_Check_L14_B t (r14 κ) i_1) (r12_Check_L14_B t r14' i_1) := by
  unfold r12_Check_L14_B
  repeat' with_reducible first | exact ChO.const _ | exact h_r14 _ | (apply r12_Check_J10_ch <;> assumption) | (apply r12_Check_J9_ch <;> assumption) | apply ChO.ite | apply ChO.G | apply ChO.both | (apply ChO.bind; intro _)
theorem r12_Check_L14_cn  (t : (Int × Int × (List (Int × Int × Int × Int × Unit)) × Int × (List Int) × Unit)) : Cn (r12_Check_L14_F t) := fun g h hg x => r12_Check_L14_B_ch  (fun κ i_1 => g κ i_1) (fun i_1 => h i_1) (fun i_1 => hg i_1) t x
theorem r12_Check_L14_eq  (t : (Int × Int × (List (Int × Int × Int × Int × Unit)) × Int × (List Int) × Unit)) (i_1 : Int) : r12_Check_L14 t i_1 = r12_Check_L14_B t (r12_Check_L14 t) i_1 := LFix_eq (r12_Check_L14_cn t) i_1
theorem r12_Check_L6_B_ch (r6 : Nat → Int → Option (Int)) (r6' : Int → Option (Int)) (h_r6 : ∀ a0, ChO (fun κ => r6 κ a0) (r6' a0)) (t : (Int × Int × (List (Int × Int × Int × Int × Unit)) × Int × (List Int) × Unit)) (i : Int) : ChO (fun κ => r12_Check_L6_B t (r6 κ) i) (r12_Check_L6_B t r6' i) := by
  unfold r12_Check_L6_B
  repeat' with_reducible first | exact ChO.const _ | exact h_r6 _ | (apply r12_Check_J10_ch <;> assumption) | (apply r12_Check_J9_ch <;> assumption) | apply ChO.ite | apply ChO.G | apply ChO.both | (apply ChO.bind; intro _)
theorem r12_Check_L6_cn  (t : (Int × Int × (List (Int × Int × Int × Int × Unit)) × Int × (List Int) × Unit)) : Cn (r12_Check_L6_F t) := fun g h hg x => r12_Check_L6_B_ch  (fun κ i => g κ i) (fun i => h i) (fun i => hg i) t x
theorem r12_Check_L6_eq  (t : (Int × Int × (List (Int × Int × Int × Int × Unit)) × Int × (List Int) × Unit)) (i : Int) : r12_Check_L6 t i = r12_Check_L6_B t (r12_Check_L6 t) i := LFix_eq (r12_Check_L6_cn t) i

noncomputable def r12_Least_J13 (a : (Int × Int × (List (Int × Int × Int × Int × Unit)) × Int × (List Int) × Unit)) (k : Int) (now : (List Int)) (r7 : (Int → (List Int) → Option (Int))) (t : Bool) : Option (Int) :=
  if t = true then
  G (room now ([((((ix a.2.2.1 k).2).2).2).1]) 8) (
  G (fits (k + (1 : Int))) (
  r7 (k + (1 : Int)) (now ++ ([((((ix a.2.2.1 k).2).2).2).1])))) else
  G (fits (k + (1 : Int))) (
  r7 (k + (1 : Int)) now)
noncomputable def r12_Least_J12 (a : (Int × Int × (List (Int × Int × Int × Int × Unit)) × Int × (List Int) × Unit)) (size : (List Int)) (k : Int) (now : (List Int)) (r7 : (Int → (List Int) → Option (Int))) (is' : Bool) : Option (Int) :=
  if is' = true then
  G (0 ≤ ((((ix a.2.2.1 k).2).2).2).1 ∧ ((((ix a.2.2.1 k).2).2).2).1 < (size.length : Int)) (
  G ((((((ix a.2.2.1 k).2).2).2).1).toNat < size.length) (
  r12_Least_J13 a k now r7 (decide ((ix size (((((ix a.2.2.1 k).2).2).2).1)) = (0 : Int))))) else
  r12_Least_J13 a k now r7 false
noncomputable def r12_Least_J19 (a : (Int × Int × (List (Int × Int × Int × Int × Unit)) × Int × (List Int) × Unit)) (n : Int) (now : (List Int)) (i : Int) (r16 : (Int → (List Int) → Option (Int))) (size_2 : (List Int)) : Option (Int) :=
  G (0 ≤ i ∧ i < (now.length : Int)) (
  G ((i).toNat < now.length) (
  G (0 ≤ ix now i ∧ ix now i < (a.2.2.2.2.1.length : Int)) (
  if (decide ((ix a.2.2.2.2.1 (ix now i)) = (1 : Int))) = true then
  some n else
  G (fits (i + (1 : Int))) (
  r16 (i + (1 : Int)) size_2))))
noncomputable def r12_Least_L16_B (a : (Int × Int × (List (Int × Int × Int × Int × Unit)) × Int × (List Int) × Unit)) (n : Int) (r3 : (Int → (List Int) → Option (Int))) (now : (List Int)) (r16 : Int → (List Int) → Option (Int)) (i : Int) (size_1 : (List Int)) : Option (Int) :=
  if (decide (i < (now.length : Int))) = true then
  G (0 ≤ i ∧ i < (now.length : Int)) (
  G ((i).toNat < now.length) (
  G (0 ≤ ix now i ∧ ix now i < (size_1.length : Int)) (
  G ((ix now i).toNat < size_1.length) (
  if (decide ((ix size_1 (ix now i)) = (0 : Int))) = true then
  G (0 ≤ i ∧ i < (now.length : Int)) (
  G ((i).toNat < now.length) (
  G (0 ≤ ix now i ∧ ix now i < (size_1.length : Int)) (
  G ((ix now i).toNat < size_1.length) (
  r12_Least_J19 a n now i r16 (size_1.set (ix now i).toNat n))))) else
  r12_Least_J19 a n now i r16 size_1)))) else
  G (fits (n + (1 : Int))) (
  r3 (n + (1 : Int)) size_1)
noncomputable def r12_Least_L16_F (a : (Int × Int × (List (Int × Int × Int × Int × Unit)) × Int × (List Int) × Unit)) (n : Int) (r3 : (Int → (List Int) → Option (Int))) (now : (List Int)) : (Int × (List Int) → Option (Int)) → Int × (List Int) → Option (Int) :=
  fun rec x => r12_Least_L16_B a n r3 now (fun i size_1 => rec (i, size_1)) x.1 x.2
noncomputable def r12_Least_L16 (a : (Int × Int × (List (Int × Int × Int × Int × Unit)) × Int × (List Int) × Unit)) (n : Int) (r3 : (Int → (List Int) → Option (Int))) (now : (List Int)) (i : Int) (size_1 : (List Int)) : Option (Int) := LFix (r12_Least_L16_F a n r3 now ) (i, size_1)
noncomputable def r12_Least_L7_B (a : (Int × Int × (List (Int × Int × Int × Int × Unit)) × Int × (List Int) × Unit)) (n : Int) (size : (List Int)) (r3 : (Int → (List Int) → Option (Int))) (r7 : Int → (List Int) → Option (Int)) (k : Int) (now : (List Int)) : Option (Int) :=
  if (decide (k < (a.2.2.1.length : Int))) = true then
  G (0 ≤ k ∧ k < (a.2.2.1.length : Int)) (
  if (decide ((0 : Int) ≤ (((ix a.2.2.1 k).2).1))) = true then
  G (0 ≤ ((ix a.2.2.1 k).2).1 ∧ ((ix a.2.2.1 k).2).1 < (size.length : Int)) (
  G ((((ix a.2.2.1 k).2).1).toNat < size.length) (
  if (decide ((0 : Int) < (ix size (((ix a.2.2.1 k).2).1)))) = true then
  G (0 ≤ (((ix a.2.2.1 k).2).2).1 ∧ (((ix a.2.2.1 k).2).2).1 < (size.length : Int)) (
  G (((((ix a.2.2.1 k).2).2).1).toNat < size.length) (
  if (decide ((0 : Int) < (ix size ((((ix a.2.2.1 k).2).2).1)))) = true then
  G (0 ≤ ((ix a.2.2.1 k).2).1 ∧ ((ix a.2.2.1 k).2).1 < (size.length : Int)) (
  G ((((ix a.2.2.1 k).2).1).toNat < size.length) (
  G (0 ≤ (((ix a.2.2.1 k).2).2).1 ∧ (((ix a.2.2.1 k).2).2).1 < (size.length : Int)) (
  G (((((ix a.2.2.1 k).2).2).1).toNat < size.length) (
  G (fits ((ix size (((ix a.2.2.1 k).2).1)) + (ix size ((((ix a.2.2.1 k).2).2).1)))) (
  G (fits (((ix size (((ix a.2.2.1 k).2).1)) + (ix size ((((ix a.2.2.1 k).2).2).1))) + (1 : Int))) (
  r12_Least_J12 a size k now r7 (decide ((((ix size (((ix a.2.2.1 k).2).1)) + (ix size ((((ix a.2.2.1 k).2).2).1))) + (1 : Int)) = n)))))))) else
  r12_Least_J12 a size k now r7 false)) else
  r12_Least_J12 a size k now r7 false)) else
  r12_Least_J12 a size k now r7 (decide (n = (1 : Int)))) else
  r12_Least_L16 a n r3 now (0 : Int) size
noncomputable def r12_Least_L7_F (a : (Int × Int × (List (Int × Int × Int × Int × Unit)) × Int × (List Int) × Unit)) (n : Int) (size : (List Int)) (r3 : (Int → (List Int) → Option (Int))) : (Int × (List Int) → Option (Int)) → Int × (List Int) → Option (Int) :=
  fun rec x => r12_Least_L7_B a n size r3 (fun k now => rec (k, now)) x.1 x.2
noncomputable def r12_Least_L7 (a : (Int × Int × (List (Int × Int × Int × Int × Unit)) × Int × (List Int) × Unit)) (n : Int) (size : (List Int)) (r3 : (Int → (List Int) → Option (Int))) (k : Int) (now : (List Int)) : Option (Int) := LFix (r12_Least_L7_F a n size r3 ) (k, now)
noncomputable def r12_Least_L3_B (a : (Int × Int × (List (Int × Int × Int × Int × Unit)) × Int × (List Int) × Unit)) (r3 : Int → (List Int) → Option (Int)) (n : Int) (size : (List Int)) : Option (Int) :=
  if (decide (n ≤ (60 : Int))) = true then
  r12_Least_L7 a n size r3 (0 : Int) ([]) else
  some (0 : Int)
noncomputable def r12_Least_L3_F (a : (Int × Int × (List (Int × Int × Int × Int × Unit)) × Int × (List Int) × Unit)) : (Int × (List Int) → Option (Int)) → Int × (List Int) → Option (Int) :=
  fun rec x => r12_Least_L3_B a (fun n size => rec (n, size)) x.1 x.2
noncomputable def r12_Least_L3 (a : (Int × Int × (List (Int × Int × Int × Int × Unit)) × Int × (List Int) × Unit)) (n : Int) (size : (List Int)) : Option (Int) := LFix (r12_Least_L3_F a ) (n, size)
noncomputable def r12_Least (a : (Int × Int × (List (Int × Int × Int × Int × Unit)) × Int × (List Int) × Unit)) : Option (Int) :=
  G (mkOK a.2.1 a.2.1 8) (
  r12_Least_L3 a (1 : Int) (List.replicate (a.2.1).toNat (0 : Int)))
theorem r12_Least_J13_ch (r7 : Nat → Int → (List Int) → Option (Int)) (r7' : Int → (List Int) → Option (Int)) (h_r7 : ∀ a0 a1, ChO (fun κ => r7 κ a0 a1) (r7' a0 a1)) (a : (Int × Int × (List (Int × Int × Int × Int × Unit)) × Int × (List Int) × Unit)) (k : Int) (now : (List Int)) (t : Bool) : ChO (fun κ => r12_Least_J13 a k now (r7 κ) t) (r12_Least_J13 a k now r7' t) := by
  unfold r12_Least_J13
  repeat' with_reducible first | exact ChO.const _ | exact h_r7 _ _ | apply ChO.ite | apply ChO.G | apply ChO.both | (apply ChO.bind; intro _)
theorem r12_Least_J12_ch (r7 : Nat → Int → (List Int) → Option (Int)) (r7' : Int → (List Int) → Option (Int)) (h_r7 : ∀ a0 a1, ChO (fun κ => r7 κ a0 a1) (r7' a0 a1)) (a : (Int × Int × (List (Int × Int × Int × Int × Unit)) × Int × (List Int) × Unit)) (size : (List Int)) (k : Int) (now : (List Int)) (is' : Bool) : ChO (fun κ => r12_Least_J12 a size k now (r7 κ) is') (r12_Least_J12 a size k now r7' is') := by
  unfold r12_Least_J12
  repeat' with_reducible first | exact ChO.const _ | exact h_r7 _ _ | (apply r12_Least_J13_ch <;> assumption) | apply ChO.ite | apply ChO.G | apply ChO.both | (apply ChO.bind; intro _)
theorem r12_Least_J19_ch (r16 : Nat → Int → (List Int) → Option (Int)) (r16' : Int → (List Int) → Option (Int)) (h_r16 : ∀ a0 a1, ChO (fun κ => r16 κ a0 a1) (r16' a0 a1)) (a : (Int × Int × (List (Int × Int × Int × Int × Unit)) × Int × (List Int) × Unit)) (n : Int) (now : (List Int)) (i : Int) (size_2 : (List Int)) : ChO (fun κ => r12_Least_J19 a n now i (r16 κ) size_2) (r12_Least_J19 a n now i r16' size_2) := by
  unfold r12_Least_J19
  repeat' with_reducible first | exact ChO.const _ | exact h_r16 _ _ | (apply r12_Least_J13_ch <;> assumption) | (apply r12_Least_J12_ch <;> assumption) | apply ChO.ite | apply ChO.G | apply ChO.both | (apply ChO.bind; intro _)
theorem r12_Least_L16_B_ch (r3 : Nat → Int → (List Int) → Option (Int)) (r3' : Int → (List Int) → Option (Int)) (h_r3 : ∀ a0 a1, ChO (fun κ => r3 κ a0 a1) (r3' a0 a1)) (r16 : Nat → Int → (List Int) → Option (Int)) (r16' : Int → (List Int) → Option (Int)) (h_r16 : ∀ a0 a1, ChO (fun κ => r16 κ a0 a1) (r16' a0 a1)) (a : (Int × Int × (List (Int × Int × Int × Int × Unit)) × Int × (List Int) × Unit)) (n : Int) (now : (List Int)) (i : Int) (size_1 : (List Int)) : ChO (fun κ => r12_Least_L16_B a n (r3 κ) now (r16 κ) i size_1) (r12_Least_L16_B a n r3' now r16' i size_1) := by
  unfold r12_Least_L16_B
  repeat' with_reducible first | exact ChO.const _ | exact h_r3 _ _ | exact h_r16 _ _ | (apply r12_Least_J13_ch <;> assumption) | (apply r12_Least_J12_ch <;> assumption) | (apply r12_Least_J19_ch <;> assumption) | apply ChO.ite | apply ChO.G | apply ChO.both | (apply ChO.bind; intro _)
theorem r12_Least_L16_cn (r3 : Int → (List Int) → Option (Int)) (a : (Int × Int × (List (Int × Int × Int × Int × Unit)) × Int × (List Int) × Unit)) (n : Int) (now : (List Int)) : Cn (r12_Least_L16_F a n r3 now) := fun g h hg x => r12_Least_L16_B_ch (fun _ => r3) r3 (fun _ _ => ChO.const _) (fun κ i size_1 => g κ (i, size_1)) (fun i size_1 => h (i, size_1)) (fun i size_1 => hg (i, size_1)) a n now x.1 x.2
theorem r12_Least_L16_eq (r3 : Int → (List Int) → Option (Int)) (a : (Int × Int × (List (Int × Int × Int × Int × Unit)) × Int × (List Int) × Unit)) (n : Int) (now : (List Int)) (i : Int) (size_1 : (List Int)) : r12_Least_L16 a n r3 now i size_1 = r12_Least_L16_B a n r3 now (r12_Least_L16 a n r3 now) i size_1 := LFix_eq (r12_Least_L16_cn r3 a n now) (i, size_1)
theorem r12_Least_L16_ch (r3 : Nat → Int → (List Int) → Option (Int)) (r3' : Int → (List Int) → Option (Int)) (h_r3 : ∀ a0 a1, ChO (fun κ => r3 κ a0 a1) (r3' a0 a1)) (a : (Int × Int × (List (Int × Int × Int × Int × Unit)) × Int × (List Int) × Unit)) (n : Int) (now : (List Int)) (i : Int) (size_1 : (List Int)) : ChO (fun κ => r12_Least_L16 a n (r3 κ) now i size_1) (r12_Least_L16 a n r3' now i size_1) := by
  unfold r12_Least_L16
  exact LFix_ch (fun κ => (r12_Least_L16_cn (r3 κ) a n now).mono) (r12_Least_L16_cn r3' a n now).mono (fun g h hg x => r12_Least_L16_B_ch r3 r3' h_r3 (fun κ i size_1 => g κ (i, size_1)) (fun i size_1 => h (i, size_1)) (fun i size_1 => hg (i, size_1)) a n now x.1 x.2) _
theorem r12_Least_L7_B_ch (r3 : Nat → Int → (List Int) → Option (Int)) (r3' : Int → (List Int) → Option (Int)) (h_r3 : ∀ a0 a1, ChO (fun κ => r3 κ a0 a1) (r3' a0 a1)) (r7 : Nat → Int → (List Int) → Option (Int)) (r7' : Int → (List Int) → Option (Int)) (h_r7 : ∀ a0 a1, ChO (fun κ => r7 κ a0 a1) (r7' a0 a1)) (a : (Int × Int × (List (Int × Int × Int × Int × Unit)) × Int × (List Int) × Unit)) (n : Int) (size : (List Int)) (k : Int) (now : (List Int)) : ChO (fun κ => r12_Least_L7_B a n size (r3 κ) (r7 κ) k now) (r12_Least_L7_B a n size r3' r7' k now) := by
  unfold r12_Least_L7_B
  repeat' with_reducible first | exact ChO.const _ | exact h_r3 _ _ | exact h_r7 _ _ | (apply r12_Least_J13_ch <;> assumption) | (apply r12_Least_J12_ch <;> assumption) | (apply r12_Least_J19_ch <;> assumption) | (apply r12_Least_L16_ch <;> assumption) | apply ChO.ite | apply ChO.G | apply ChO.both | (apply ChO.bind; intro _)
theorem r12_Least_L7_cn (r3 : Int → (List Int) → Option (Int)) (a : (Int × Int × (List (Int × Int × Int × Int × Unit)) × Int × (List Int) × Unit)) (n : Int) (size : (List Int)) : Cn (r12_Least_L7_F a n size r3) := fun g h hg x => r12_Least_L7_B_ch (fun _ => r3) r3 (fun _ _ => ChO.const _) (fun κ k now => g κ (k, now)) (fun k now => h (k, now)) (fun k now => hg (k, now)) a n size x.1 x.2
theorem r12_Least_L7_eq (r3 : Int → (List Int) → Option (Int)) (a : (Int × Int × (List (Int × Int × Int × Int × Unit)) × Int × (List Int) × Unit)) (n : Int) (size : (List Int)) (k : Int) (now : (List Int)) : r12_Least_L7 a n size r3 k now = r12_Least_L7_B a n size r3 (r12_Least_L7 a n size r3) k now := LFix_eq (r12_Least_L7_cn r3 a n size) (k, now)
theorem r12_Least_L7_ch (r3 : Nat → Int → (List Int) → Option (Int)) (r3' : Int → (List Int) → Option (Int)) (h_r3 : ∀ a0 a1, ChO (fun κ => r3 κ a0 a1) (r3' a0 a1)) (a : (Int × Int × (List (Int × Int × Int × Int × Unit)) × Int × (List Int) × Unit)) (n : Int) (size : (List Int)) (k : Int) (now : (List Int)) : ChO (fun κ => r12_Least_L7 a n size (r3 κ) k now) (r12_Least_L7 a n size r3' k now) := by
  unfold r12_Least_L7
  exact LFix_ch (fun κ => (r12_Least_L7_cn (r3 κ) a n size).mono) (r12_Least_L7_cn r3' a n size).mono (fun g h hg x => r12_Least_L7_B_ch r3 r3' h_r3 (fun κ k now => g κ (k, now)) (fun k now => h (k, now)) (fun k now => hg (k, now)) a n size x.1 x.2) _
theorem r12_Least_L3_B_ch (r3 : Nat → Int → (List Int) → Option (Int)) (r3' : Int → (List Int) → Option (Int)) (h_r3 : ∀ a0 a1, ChO (fun κ => r3 κ a0 a1) (r3' a0 a1)) (a : (Int × Int × (List (Int × Int × Int × Int × Unit)) × Int × (List Int) × Unit)) (n : Int) (size : (List Int)) : ChO (fun κ => r12_Least_L3_B a (r3 κ) n size) (r12_Least_L3_B a r3' n size) := by
  unfold r12_Least_L3_B
  repeat' with_reducible first | exact ChO.const _ | exact h_r3 _ _ | (apply r12_Least_J13_ch <;> assumption) | (apply r12_Least_J12_ch <;> assumption) | (apply r12_Least_J19_ch <;> assumption) | (apply r12_Least_L16_ch <;> assumption) | (apply r12_Least_L7_ch <;> assumption) | apply ChO.ite | apply ChO.G | apply ChO.both | (apply ChO.bind; intro _)
theorem r12_Least_L3_cn  (a : (Int × Int × (List (Int × Int × Int × Int × Unit)) × Int × (List Int) × Unit)) : Cn (r12_Least_L3_F a) := fun g h hg x => r12_Least_L3_B_ch  (fun κ n size => g κ (n, size)) (fun n size => h (n, size)) (fun n size => hg (n, size)) a x.1 x.2
theorem r12_Least_L3_eq  (a : (Int × Int × (List (Int × Int × Int × Int × Unit)) × Int × (List Int) × Unit)) (n : Int) (size : (List Int)) : r12_Least_L3 a n size = r12_Least_L3_B a (r12_Least_L3 a) n size := LFix_eq (r12_Least_L3_cn a) (n, size)

noncomputable def r12_Tree_J13 (t : ((List (Int × Int × Int × Unit)) × Unit)) (i : Int) (child : (List Bool)) (r8 : (Int → (List Bool) → Option (Int))) : Option (Int) :=
  if (decide ((((ix t.1 i).2).1) < (0 : Int))) = true then
  some (3 : Int) else
  if (decide (i ≤ (((ix t.1 i).2).1))) = true then
  some (3 : Int) else
  G (0 ≤ ((ix t.1 i).2).1 ∧ ((ix t.1 i).2).1 < (child.length : Int)) (
  G ((((ix t.1 i).2).1).toNat < child.length) (
  if (ix child (((ix t.1 i).2).1)) = true then
  some (3 : Int) else
  G (0 ≤ ((ix t.1 i).2).1 ∧ ((ix t.1 i).2).1 < (child.length : Int)) (
  G ((((ix t.1 i).2).1).toNat < child.length) (
  if (decide (((((ix t.1 i).2).2).1) < (0 : Int))) = true then
  some (3 : Int) else
  if (decide (i ≤ ((((ix t.1 i).2).2).1))) = true then
  some (3 : Int) else
  G (0 ≤ (((ix t.1 i).2).2).1 ∧ (((ix t.1 i).2).2).1 < ((child.set (((ix t.1 i).2).1).toNat true).length : Int)) (
  G (((((ix t.1 i).2).2).1).toNat < (child.set (((ix t.1 i).2).1).toNat true).length) (
  if (ix (child.set (((ix t.1 i).2).1).toNat true) ((((ix t.1 i).2).2).1)) = true then
  some (3 : Int) else
  G (0 ≤ (((ix t.1 i).2).2).1 ∧ (((ix t.1 i).2).2).1 < ((child.set (((ix t.1 i).2).1).toNat true).length : Int)) (
  G (((((ix t.1 i).2).2).1).toNat < (child.set (((ix t.1 i).2).1).toNat true).length) (
  G (fits (i + (1 : Int))) (
  r8 (i + (1 : Int)) ((child.set (((ix t.1 i).2).1).toNat true).set ((((ix t.1 i).2).2).1).toNat true))))))))))
noncomputable def r12_Tree_L21_B (t : ((List (Int × Int × Int × Unit)) × Unit)) (child : (List Bool)) (r21 : Int → Option (Int)) (i_1 : Int) : Option (Int) :=
  G (fits ((t.1.length : Int) - (1 : Int))) (
  if (decide (i_1 < ((t.1.length : Int) - (1 : Int)))) = true then
  G (0 ≤ i_1 ∧ i_1 < (child.length : Int)) (
  G ((i_1).toNat < child.length) (
  if (!(ix child i_1)) = true then
  some (3 : Int) else
  G (fits (i_1 + (1 : Int))) (
  r21 (i_1 + (1 : Int))))) else
  some (0 : Int))
noncomputable def r12_Tree_L21_F (t : ((List (Int × Int × Int × Unit)) × Unit)) (child : (List Bool)) : (Int → Option (Int)) → Int → Option (Int) :=
  fun rec x => r12_Tree_L21_B t child (fun i_1 => rec i_1) x
noncomputable def r12_Tree_L21 (t : ((List (Int × Int × Int × Unit)) × Unit)) (child : (List Bool)) (i_1 : Int) : Option (Int) := LFix (r12_Tree_L21_F t child ) i_1
noncomputable def r12_Tree_L8_B (letters : Int) (t : ((List (Int × Int × Int × Unit)) × Unit)) (r8 : Int → (List Bool) → Option (Int)) (i : Int) (child : (List Bool)) : Option (Int) :=
  if (decide (i < (t.1.length : Int))) = true then
  G (0 ≤ i ∧ i < (t.1.length : Int)) (
  if (decide (((ix t.1 i).1) < (0 : Int))) = true then
  some (2 : Int) else
  if (decide (letters ≤ ((ix t.1 i).1))) = true then
  some (2 : Int) else
  if (decide ((((ix t.1 i).2).1) = (-1 : Int))) = true then
  if (decide (((((ix t.1 i).2).2).1) = (-1 : Int))) = true then
  G (fits (i + (1 : Int))) (
  r8 (i + (1 : Int)) child) else
  r12_Tree_J13 t i child r8 else
  r12_Tree_J13 t i child r8) else
  r12_Tree_L21 t child (0 : Int)
noncomputable def r12_Tree_L8_F (letters : Int) (t : ((List (Int × Int × Int × Unit)) × Unit)) : (Int × (List Bool) → Option (Int)) → Int × (List Bool) → Option (Int) :=
  fun rec x => r12_Tree_L8_B letters t (fun i child => rec (i, child)) x.1 x.2
noncomputable def r12_Tree_L8 (letters : Int) (t : ((List (Int × Int × Int × Unit)) × Unit)) (i : Int) (child : (List Bool)) : Option (Int) := LFix (r12_Tree_L8_F letters t ) (i, child)
noncomputable def r12_Tree (letters : Int) (t : ((List (Int × Int × Int × Unit)) × Unit)) : Option (Int) :=
  if (decide (letters < (1 : Int))) = true then
  some (2 : Int) else
  if (decide ((4 : Int) < letters)) = true then
  some (2 : Int) else
  if (decide ((t.1.length : Int) < (1 : Int))) = true then
  some (1 : Int) else
  if (decide ((60 : Int) < (t.1.length : Int))) = true then
  some (1 : Int) else
  G (mkOK (t.1.length : Int) (t.1.length : Int) 1) (
  r12_Tree_L8 letters t (0 : Int) (List.replicate ((t.1.length : Int)).toNat (false : Bool)))
theorem r12_Tree_J13_ch (r8 : Nat → Int → (List Bool) → Option (Int)) (r8' : Int → (List Bool) → Option (Int)) (h_r8 : ∀ a0 a1, ChO (fun κ => r8 κ a0 a1) (r8' a0 a1)) (t : ((List (Int × Int × Int × Unit)) × Unit)) (i : Int) (child : (List Bool)) : ChO (fun κ => r12_Tree_J13 t i child (r8 κ)) (r12_Tree_J13 t i child r8') := by
  unfold r12_Tree_J13
  repeat' with_reducible first | exact ChO.const _ | exact h_r8 _ _ | apply ChO.ite | apply ChO.G | apply ChO.both | (apply ChO.bind; intro _)
theorem r12_Tree_L21_B_ch (r21 : Nat → Int → Option (Int)) (r21' : Int → Option (Int)) (h_r21 : ∀ a0, ChO (fun κ => r21 κ a0) (r21' a0)) (t : ((List (Int × Int × Int × Unit)) × Unit)) (child : (List Bool)) (i_1 : Int) : ChO (fun κ => r12_Tree_L21_B t child (r21 κ) i_1) (r12_Tree_L21_B t child r21' i_1) := by
  unfold r12_Tree_L21_B
  repeat' with_reducible first | exact ChO.const _ | exact h_r21 _ | (apply r12_Tree_J13_ch <;> assumption) | apply ChO.ite | apply ChO.G | apply ChO.both | (apply ChO.bind; intro _)
theorem r12_Tree_L21_cn  (t : ((List (Int × Int × Int × Unit)) × Unit)) (child : (List Bool)) : Cn (r12_Tree_L21_F t child) := fun g h hg x => r12_Tree_L21_B_ch  (fun κ i_1 => g κ i_1) (fun i_1 => h i_1) (fun i_1 => hg i_1) t child x
theorem r12_Tree_L21_eq  (t : ((List (Int × Int × Int × Unit)) × Unit)) (child : (List Bool)) (i_1 : Int) : r12_Tree_L21 t child i_1 = r12_Tree_L21_B t child (r12_Tree_L21 t child) i_1 := LFix_eq (r12_Tree_L21_cn t child) i_1
theorem r12_Tree_L8_B_ch (r8 : Nat → Int → (List Bool) → Option (Int)) (r8' : Int → (List Bool) → Option (Int)) (h_r8 : ∀ a0 a1, ChO (fun κ => r8 κ a0 a1) (r8' a0 a1)) (letters : Int) (t : ((List (Int × Int × Int × Unit)) × Unit)) (i : Int) (child : (List Bool)) : ChO (fun κ => r12_Tree_L8_B letters t (r8 κ) i child) (r12_Tree_L8_B letters t r8' i child) := by
  unfold r12_Tree_L8_B
  repeat' with_reducible first | exact ChO.const _ | exact h_r8 _ _ | (apply r12_Tree_J13_ch <;> assumption) | apply ChO.ite | apply ChO.G | apply ChO.both | (apply ChO.bind; intro _)
theorem r12_Tree_L8_cn  (letters : Int) (t : ((List (Int × Int × Int × Unit)) × Unit)) : Cn (r12_Tree_L8_F letters t) := fun g h hg x => r12_Tree_L8_B_ch  (fun κ i child => g κ (i, child)) (fun i child => h (i, child)) (fun i child => hg (i, child)) letters t x.1 x.2
theorem r12_Tree_L8_eq  (letters : Int) (t : ((List (Int × Int × Int × Unit)) × Unit)) (i : Int) (child : (List Bool)) : r12_Tree_L8 letters t i child = r12_Tree_L8_B letters t (r12_Tree_L8 letters t) i child := LFix_eq (r12_Tree_L8_cn letters t) (i, child)

noncomputable def r12_Accepts_J12 (a : (Int × Int × (List (Int × Int × Int × Int × Unit)) × Int × (List Int) × Unit)) (k : Int) (own : (List Bool)) (r8 : (Int → (List Bool) → Option (Bool))) (t_1 : Bool) : Option (Bool) :=
  if t_1 = true then
  G (0 ≤ ((((ix a.2.2.1 k).2).2).2).1 ∧ ((((ix a.2.2.1 k).2).2).2).1 < (own.length : Int)) (
  G ((((((ix a.2.2.1 k).2).2).2).1).toNat < own.length) (
  G (fits (k + (1 : Int))) (
  r8 (k + (1 : Int)) (own.set (((((ix a.2.2.1 k).2).2).2).1).toNat true)))) else
  G (fits (k + (1 : Int))) (
  r8 (k + (1 : Int)) own)
noncomputable def r12_Accepts_L8_B (a : (Int × Int × (List (Int × Int × Int × Int × Unit)) × Int × (List Int) × Unit)) (t : ((List (Int × Int × Int × Unit)) × Unit)) (i : Int) (can : (List (List Bool))) (r3 : (Int → (List (List Bool)) → Option (Bool))) (r8 : Int → (List Bool) → Option (Bool)) (k : Int) (own : (List Bool)) : Option (Bool) :=
  if (decide (k < (a.2.2.1.length : Int))) = true then
  G (0 ≤ k ∧ k < (a.2.2.1.length : Int)) (
  if (decide (¬ ((ix a.2.2.1 k).1) = ((ix t.1 i).1))) = true then
  G (fits (k + (1 : Int))) (
  r8 (k + (1 : Int)) own) else
  if (decide (¬ (decide ((((ix a.2.2.1 k).2).1) = (-1 : Int))) = (decide ((((ix t.1 i).2).1) = (-1 : Int))))) = true then
  G (fits (k + (1 : Int))) (
  r8 (k + (1 : Int)) own) else
  if (decide ((((ix a.2.2.1 k).2).1) = (-1 : Int))) = true then
  r12_Accepts_J12 a k own r8 true else
  G (0 ≤ ((ix t.1 i).2).1 ∧ ((ix t.1 i).2).1 < (can.length : Int)) (
  G ((((ix t.1 i).2).1).toNat < can.length) (
  G (0 ≤ ((ix a.2.2.1 k).2).1 ∧ ((ix a.2.2.1 k).2).1 < ((ix can (((ix t.1 i).2).1)).length : Int)) (
  if (ix (ix can (((ix t.1 i).2).1)) (((ix a.2.2.1 k).2).1)) = true then
  G (0 ≤ (((ix t.1 i).2).2).1 ∧ (((ix t.1 i).2).2).1 < (can.length : Int)) (
  G (((((ix t.1 i).2).2).1).toNat < can.length) (
  G (0 ≤ (((ix a.2.2.1 k).2).2).1 ∧ (((ix a.2.2.1 k).2).2).1 < ((ix can ((((ix t.1 i).2).2).1)).length : Int)) (
  r12_Accepts_J12 a k own r8 (ix (ix can ((((ix t.1 i).2).2).1)) ((((ix a.2.2.1 k).2).2).1))))) else
  r12_Accepts_J12 a k own r8 false)))) else
  G (room can ([own]) 24) (
  G (fits (i + (1 : Int))) (
  r3 (i + (1 : Int)) (can ++ ([own]))))
noncomputable def r12_Accepts_L8_F (a : (Int × Int × (List (Int × Int × Int × Int × Unit)) × Int × (List Int) × Unit)) (t : ((List (Int × Int × Int × Unit)) × Unit)) (i : Int) (can : (List (List Bool))) (r3 : (Int → (List (List Bool)) → Option (Bool))) : (Int × (List Bool) → Option (Bool)) → Int × (List Bool) → Option (Bool) :=
  fun rec x => r12_Accepts_L8_B a t i can r3 (fun k own => rec (k, own)) x.1 x.2
noncomputable def r12_Accepts_L8 (a : (Int × Int × (List (Int × Int × Int × Int × Unit)) × Int × (List Int) × Unit)) (t : ((List (Int × Int × Int × Unit)) × Unit)) (i : Int) (can : (List (List Bool))) (r3 : (Int → (List (List Bool)) → Option (Bool))) (k : Int) (own : (List Bool)) : Option (Bool) := LFix (r12_Accepts_L8_F a t i can r3 ) (k, own)
noncomputable def r12_Accepts_L17_B (a : (Int × Int × (List (Int × Int × Int × Int × Unit)) × Int × (List Int) × Unit)) (can : (List (List Bool))) (r17 : Int → Option (Bool)) (q : Int) : Option (Bool) :=
  if (decide (q < a.2.1)) = true then
  G (0 ≤ q ∧ q < ((ix can ((can.length : Int) - (1 : Int))).length : Int)) (
  if (ix (ix can ((can.length : Int) - (1 : Int))) q) = true then
  G (0 ≤ q ∧ q < (a.2.2.2.2.1.length : Int)) (
  if (decide ((ix a.2.2.2.2.1 q) = (1 : Int))) = true then
  some true else
  G (fits (q + (1 : Int))) (
  r17 (q + (1 : Int)))) else
  G (fits (q + (1 : Int))) (
  r17 (q + (1 : Int)))) else
  some false
noncomputable def r12_Accepts_L17_F (a : (Int × Int × (List (Int × Int × Int × Int × Unit)) × Int × (List Int) × Unit)) (can : (List (List Bool))) : (Int → Option (Bool)) → Int → Option (Bool) :=
  fun rec x => r12_Accepts_L17_B a can (fun q => rec q) x
noncomputable def r12_Accepts_L17 (a : (Int × Int × (List (Int × Int × Int × Int × Unit)) × Int × (List Int) × Unit)) (can : (List (List Bool))) (q : Int) : Option (Bool) := LFix (r12_Accepts_L17_F a can ) q
noncomputable def r12_Accepts_L3_B (a : (Int × Int × (List (Int × Int × Int × Int × Unit)) × Int × (List Int) × Unit)) (t : ((List (Int × Int × Int × Unit)) × Unit)) (r3 : Int → (List (List Bool)) → Option (Bool)) (i : Int) (can : (List (List Bool))) : Option (Bool) :=
  if (decide (i < (t.1.length : Int))) = true then
  G (0 ≤ i ∧ i < (t.1.length : Int)) (
  G (mkOK a.2.1 a.2.1 1) (
  r12_Accepts_L8 a t i can r3 (0 : Int) (List.replicate (a.2.1).toNat (false : Bool)))) else
  G (fits ((can.length : Int) - (1 : Int))) (
  G (0 ≤ (can.length : Int) - (1 : Int) ∧ (can.length : Int) - (1 : Int) < (can.length : Int)) (
  G (((can.length : Int) - (1 : Int)).toNat < can.length) (
  r12_Accepts_L17 a can (0 : Int))))
noncomputable def r12_Accepts_L3_F (a : (Int × Int × (List (Int × Int × Int × Int × Unit)) × Int × (List Int) × Unit)) (t : ((List (Int × Int × Int × Unit)) × Unit)) : (Int × (List (List Bool)) → Option (Bool)) → Int × (List (List Bool)) → Option (Bool) :=
  fun rec x => r12_Accepts_L3_B a t (fun i can => rec (i, can)) x.1 x.2
noncomputable def r12_Accepts_L3 (a : (Int × Int × (List (Int × Int × Int × Int × Unit)) × Int × (List Int) × Unit)) (t : ((List (Int × Int × Int × Unit)) × Unit)) (i : Int) (can : (List (List Bool))) : Option (Bool) := LFix (r12_Accepts_L3_F a t ) (i, can)
noncomputable def r12_Accepts (a : (Int × Int × (List (Int × Int × Int × Int × Unit)) × Int × (List Int) × Unit)) (t : ((List (Int × Int × Int × Unit)) × Unit)) : Option (Bool) :=
  r12_Accepts_L3 a t (0 : Int) ([])
theorem r12_Accepts_J12_ch (r8 : Nat → Int → (List Bool) → Option (Bool)) (r8' : Int → (List Bool) → Option (Bool)) (h_r8 : ∀ a0 a1, ChO (fun κ => r8 κ a0 a1) (r8' a0 a1)) (a : (Int × Int × (List (Int × Int × Int × Int × Unit)) × Int × (List Int) × Unit)) (k : Int) (own : (List Bool)) (t_1 : Bool) : ChO (fun κ => r12_Accepts_J12 a k own (r8 κ) t_1) (r12_Accepts_J12 a k own r8' t_1) := by
  unfold r12_Accepts_J12
  repeat' with_reducible first | exact ChO.const _ | exact h_r8 _ _ | apply ChO.ite | apply ChO.G | apply ChO.both | (apply ChO.bind; intro _)
theorem r12_Accepts_L8_B_ch (r3 : Nat → Int → (List (List Bool)) → Option (Bool)) (r3' : Int → (List (List Bool)) → Option (Bool)) (h_r3 : ∀ a0 a1, ChO (fun κ => r3 κ a0 a1) (r3' a0 a1)) (r8 : Nat → Int → (List Bool) → Option (Bool)) (r8' : Int → (List Bool) → Option (Bool)) (h_r8 : ∀ a0 a1, ChO (fun κ => r8 κ a0 a1) (r8' a0 a1)) (a : (Int × Int × (List (Int × Int × Int × Int × Unit)) × Int × (List Int) × Unit)) (t : ((List (Int × Int × Int × Unit)) × Unit)) (i : Int) (can : (List (List Bool))) (k : Int) (own : (List Bool)) : ChO (fun κ => r12_Accepts_L8_B a t i can (r3 κ) (r8 κ) k own) (r12_Accepts_L8_B a t i can r3' r8' k own) := by
  unfold r12_Accepts_L8_B
  repeat' with_reducible first | exact ChO.const _ | exact h_r3 _ _ | exact h_r8 _ _ | (apply r12_Accepts_J12_ch <;> assumption) | apply ChO.ite | apply ChO.G | apply ChO.both | (apply ChO.bind; intro _)
theorem r12_Accepts_L8_cn (r3 : Int → (List (List Bool)) → Option (Bool)) (a : (Int × Int × (List (Int × Int × Int × Int × Unit)) × Int × (List Int) × Unit)) (t : ((List (Int × Int × Int × Unit)) × Unit)) (i : Int) (can : (List (List Bool))) : Cn (r12_Accepts_L8_F a t i can r3) := fun g h hg x => r12_Accepts_L8_B_ch (fun _ => r3) r3 (fun _ _ => ChO.const _) (fun κ k own => g κ (k, own)) (fun k own => h (k, own)) (fun k own => hg (k, own)) a t i can x.1 x.2
theorem r12_Accepts_L8_eq (r3 : Int → (List (List Bool)) → Option (Bool)) (a : (Int × Int × (List (Int × Int × Int × Int × Unit)) × Int × (List Int) × Unit)) (t : ((List (Int × Int × Int × Unit)) × Unit)) (i : Int) (can : (List (List Bool))) (k : Int) (own : (List Bool)) : r12_Accepts_L8 a t i can r3 k own = r12_Accepts_L8_B a t i can r3 (r12_Accepts_L8 a t i can r3) k own := LFix_eq (r12_Accepts_L8_cn r3 a t i can) (k, own)
theorem r12_Accepts_L8_ch (r3 : Nat → Int → (List (List Bool)) → Option (Bool)) (r3' : Int → (List (List Bool)) → Option (Bool)) (h_r3 : ∀ a0 a1, ChO (fun κ => r3 κ a0 a1) (r3' a0 a1)) (a : (Int × Int × (List (Int × Int × Int × Int × Unit)) × Int × (List Int) × Unit)) (t : ((List (Int × Int × Int × Unit)) × Unit)) (i : Int) (can : (List (List Bool))) (k : Int) (own : (List Bool)) : ChO (fun κ => r12_Accepts_L8 a t i can (r3 κ) k own) (r12_Accepts_L8 a t i can r3' k own) := by
  unfold r12_Accepts_L8
  exact LFix_ch (fun κ => (r12_Accepts_L8_cn (r3 κ) a t i can).mono) (r12_Accepts_L8_cn r3' a t i can).mono (fun g h hg x => r12_Accepts_L8_B_ch r3 r3' h_r3 (fun κ k own => g κ (k, own)) (fun k own => h (k, own)) (fun k own => hg (k, own)) a t i can x.1 x.2) _
theorem r12_Accepts_L17_B_ch (r17 : Nat → Int → Option (Bool)) (r17' : Int → Option (Bool)) (h_r17 : ∀ a0, ChO (fun κ => r17 κ a0) (r17' a0)) (a : (Int × Int × (List (Int × Int × Int × Int × Unit)) × Int × (List Int) × Unit)) (can : (List (List Bool))) (q : Int) : ChO (fun κ => r12_Accepts_L17_B a can (r17 κ) q) (r12_Accepts_L17_B a can r17' q) := by
  unfold r12_Accepts_L17_B
  repeat' with_reducible first | exact ChO.const _ | exact h_r17 _ | (apply r12_Accepts_J12_ch <;> assumption) | (apply r12_Accepts_L8_ch <;> assumption) | apply ChO.ite | apply ChO.G | apply ChO.both | (apply ChO.bind; intro _)
theorem r12_Accepts_L17_cn  (a : (Int × Int × (List (Int × Int × Int × Int × Unit)) × Int × (List Int) × Unit)) (can : (List (List Bool))) : Cn (r12_Accepts_L17_F a can) := fun g h hg x => r12_Accepts_L17_B_ch  (fun κ q => g κ q) (fun q => h q) (fun q => hg q) a can x
theorem r12_Accepts_L17_eq  (a : (Int × Int × (List (Int × Int × Int × Int × Unit)) × Int × (List Int) × Unit)) (can : (List (List Bool))) (q : Int) : r12_Accepts_L17 a can q = r12_Accepts_L17_B a can (r12_Accepts_L17 a can) q := LFix_eq (r12_Accepts_L17_cn a can) q
theorem r12_Accepts_L3_B_ch (r3 : Nat → Int → (List (List Bool)) → Option (Bool)) (r3' : Int → (List (List Bool)) → Option (Bool)) (h_r3 : ∀ a0 a1, ChO (fun κ => r3 κ a0 a1) (r3' a0 a1)) (a : (Int × Int × (List (Int × Int × Int × Int × Unit)) × Int × (List Int) × Unit)) (t : ((List (Int × Int × Int × Unit)) × Unit)) (i : Int) (can : (List (List Bool))) : ChO (fun κ => r12_Accepts_L3_B a t (r3 κ) i can) (r12_Accepts_L3_B a t r3' i can) := by
  unfold r12_Accepts_L3_B
  repeat' with_reducible first | exact ChO.const _ | exact h_r3 _ _ | (apply r12_Accepts_J12_ch <;> assumption) | (apply r12_Accepts_L8_ch <;> assumption) | apply ChO.ite | apply ChO.G | apply ChO.both | (apply ChO.bind; intro _)
theorem r12_Accepts_L3_cn  (a : (Int × Int × (List (Int × Int × Int × Int × Unit)) × Int × (List Int) × Unit)) (t : ((List (Int × Int × Int × Unit)) × Unit)) : Cn (r12_Accepts_L3_F a t) := fun g h hg x => r12_Accepts_L3_B_ch  (fun κ i can => g κ (i, can)) (fun i can => h (i, can)) (fun i can => hg (i, can)) a t x.1 x.2
theorem r12_Accepts_L3_eq  (a : (Int × Int × (List (Int × Int × Int × Int × Unit)) × Int × (List Int) × Unit)) (t : ((List (Int × Int × Int × Unit)) × Unit)) (i : Int) (can : (List (List Bool))) : r12_Accepts_L3 a t i can = r12_Accepts_L3_B a t (r12_Accepts_L3 a t) i can := LFix_eq (r12_Accepts_L3_cn a t) (i, can)

noncomputable def law_TreeSome (a : (Int × Int × (List (Int × Int × Int × Int × Unit)) × Int × (List Int) × Unit)) : Option (Bool) :=
  (law_trees (a.1, (a.2.1, (a.2.2.1, (a.2.2.2.1, (a.2.2.2.2.1, ())))))).bind (fun y' =>
  (tree_Some (y'.1, (y'.2.1, (y'.2.2.1, (y'.2.2.2.1, (y'.2.2.2.2.1, ())))))).bind (fun y'_9 =>
  (r12_Check (a.1, (a.2.1, (a.2.2.1, (a.2.2.2.1, (a.2.2.2.2.1, ())))))).bind (fun y'_5 =>
  if (decide (¬ y'_5 = (0 : Int))) = true then
  if (decide (y'_9.2.2 = y'_5)) = true then
  if (!y'_9.2.1) = true then
  some (decide ((y'_9.1.1.length : Int) = (0 : Int))) else
  some false else
  some false else
  (r12_Least (a.1, (a.2.1, (a.2.2.1, (a.2.2.2.1, (a.2.2.2.2.1, ())))))).bind (fun y'_6 =>
  if (decide (¬ y'_9.2.2 = (0 : Int))) = true then
  some false else
  if (decide (¬ y'_9.2.1 = (decide ((0 : Int) < y'_6)))) = true then
  some false else
  if (decide (¬ (y'_9.1.1.length : Int) = y'_6)) = true then
  some false else
  if (!y'_9.2.1) = true then
  some true else
  (r12_Tree a.1 (y'_9.1.1, ())).bind (fun y'_7 =>
  if (decide (¬ y'_7 = (0 : Int))) = true then
  some false else
  (r12_Accepts (a.1, (a.2.1, (a.2.2.1, (a.2.2.2.1, (a.2.2.2.2.1, ()))))) (y'_9.1.1, ())).bind (fun y'_8 =>
  some y'_8))))))

end Go.Proofs.Ytjongekfcejikaa.treeSomeW
