/- What the functions that 'CoverFires' reaches compute: plain functions. -/
import Derived.Test.YtiamohlhhcafdaaEv4n21
set_option maxHeartbeats 1000000
set_option maxRecDepth 20000
set_option linter.unusedSimpArgs false
set_option linter.unusedVariables false
namespace Go.Proofs.Ytiamohlhhcafdaa.coverFiresW
open Go Go.Ab
noncomputable def slices_Grow (n : Int) : Option (List (List Int)) :=
  if (decide (n < (0 : Int))) = true then
  none else
  G (fits ((0 : Int) - (0 : Int))) (
  G (fits (n - ((0 : Int) - (0 : Int)))) (
  if (decide ((0 : Int) < (n - ((0 : Int) - (0 : Int))))) = true then
  G ((0 : Int) = (0 : Int)) (
  G (0 < n - ((0 : Int) - (0 : Int)) ∧ (n - ((0 : Int) - (0 : Int))) * 24 ≤ 140737488355328) (
  G (0 ≤ (0 : Int) ∧ (0 : Int) ≤ ((List.replicate (n - ((0 : Int) - (0 : Int))).toNat ([] : List Int)).length : Int)) (
  some ((List.replicate (n - ((0 : Int) - (0 : Int))).toNat ([] : List Int)).take ((0 : Int)).toNat)))) else
  some ([])))

noncomputable def slices_Concat_L11_B (slices : (List (List (List Int)))) (r11 : Int → (List (List Int)) → Option (List (List Int))) (t_1 : Int) (newslice : (List (List Int))) : Option (List (List Int)) :=
  if (decide (t_1 < (slices.length : Int))) = true then
  G (0 ≤ t_1 ∧ t_1 < (slices.length : Int)) (
  G (room newslice (ix slices t_1) 24) (
  G (fits (t_1 + (1 : Int))) (
  r11 (t_1 + (1 : Int)) (newslice ++ (ix slices t_1))))) else
  some newslice
noncomputable def slices_Concat_L11_F (slices : (List (List (List Int)))) : (Int × (List (List Int)) → Option (List (List Int))) → Int × (List (List Int)) → Option (List (List Int)) :=
  fun rec x => slices_Concat_L11_B slices (fun t_1 newslice => rec (t_1, newslice)) x.1 x.2
noncomputable def slices_Concat_L11 (slices : (List (List (List Int)))) (t_1 : Int) (newslice : (List (List Int))) : Option (List (List Int)) := LFix (slices_Concat_L11_F slices ) (t_1, newslice)
noncomputable def slices_Concat_L3_B (slices : (List (List (List Int)))) (r3 : Int → Int → Option (List (List Int))) (size : Int) (t : Int) : Option (List (List Int)) :=
  if (decide (t < (slices.length : Int))) = true then
  G (0 ≤ t ∧ t < (slices.length : Int)) (
  G (fits (size + ((ix slices t).length : Int))) (
  if (decide ((size + ((ix slices t).length : Int)) < (0 : Int))) = true then
  none else
  G (fits (t + (1 : Int))) (
  r3 (size + ((ix slices t).length : Int)) (t + (1 : Int))))) else
  (slices_Grow size).bind (fun y' =>
  slices_Concat_L11 slices (0 : Int) y')
noncomputable def slices_Concat_L3_F (slices : (List (List (List Int)))) : (Int × Int → Option (List (List Int))) → Int × Int → Option (List (List Int)) :=
  fun rec x => slices_Concat_L3_B slices (fun size t => rec (size, t)) x.1 x.2
noncomputable def slices_Concat_L3 (slices : (List (List (List Int)))) (size : Int) (t : Int) : Option (List (List Int)) := LFix (slices_Concat_L3_F slices ) (size, t)
noncomputable def slices_Concat (slices : (List (List (List Int)))) : Option (List (List Int)) :=
  slices_Concat_L3 slices (0 : Int) (0 : Int)
theorem slices_Concat_L11_B_ch (r11 : Nat → Int → (List (List Int)) → Option (List (List Int))) (r11' : Int → (List (List Int)) → Option (List (List Int))) (h_r11 : ∀ a0 a1, ChO (fun κ => r11 κ a0 a1) (r11' a0 a1)) (slices : (List (List (List Int)))) (t_1 : Int) (newslice : (List (List Int))) : ChO (fun κ => slices_Concat_L11_B slices (r11 κ) t_1 newslice) (slices_Concat_L11_B slices r11' t_1 newslice) := by
  unfold slices_Concat_L11_B
  repeat' first | exact ChO.const _ | exact h_r11 _ _ | apply ChO.ite | apply ChO.G | apply ChO.both | (apply ChO.bind; intro _)
theorem slices_Concat_L11_cn  (slices : (List (List (List Int)))) : Cn (slices_Concat_L11_F slices) := fun g h hg x => slices_Concat_L11_B_ch  (fun κ t_1 newslice => g κ (t_1, newslice)) (fun t_1 newslice => h (t_1, newslice)) (fun t_1 newslice => hg (t_1, newslice)) slices x.1 x.2
theorem slices_Concat_L11_eq  (slices : (List (List (List Int)))) (t_1 : Int) (newslice : (List (List Int))) : slices_Concat_L11 slices t_1 newslice = slices_Concat_L11_B slices (slices_Concat_L11 slices) t_1 newslice := LFix_eq (slices_Concat_L11_cn slices) (t_1, newslice)
theorem slices_Concat_L3_B_ch (r3 : Nat → Int → Int → Option (List (List Int))) (r3' : Int → Int → Option (List (List Int))) (h_r3 : ∀ a0 a1, ChO (fun κ => r3 κ a0 a1) (r3' a0 a1)) (slices : (List (List (List Int)))) (size : Int) (t : Int) : ChO (fun κ => slices_Concat_L3_B slices (r3 κ) size t) (slices_Concat_L3_B slices r3' size t) := by
  unfold slices_Concat_L3_B
  repeat' first | exact ChO.const _ | exact h_r3 _ _ | apply ChO.ite | apply ChO.G | apply ChO.both | (apply ChO.bind; intro _)
theorem slices_Concat_L3_cn  (slices : (List (List (List Int)))) : Cn (slices_Concat_L3_F slices) := fun g h hg x => slices_Concat_L3_B_ch  (fun κ size t => g κ (size, t)) (fun size t => h (size, t)) (fun size t => hg (size, t)) slices x.1 x.2
theorem slices_Concat_L3_eq  (slices : (List (List (List Int)))) (size : Int) (t : Int) : slices_Concat_L3 slices size t = slices_Concat_L3_B slices (slices_Concat_L3 slices) size t := LFix_eq (slices_Concat_L3_cn slices) (size, t)

noncomputable def cover_Check_1 (r : (List Int)) (t : (Int × (List (List Int)) × (List (List Int)) × Unit)) : Option (Bool) :=
  some (decide (¬ (r.length : Int) = t.1))

noncomputable def slices_IndexFunc_L2_B (s : (List (List Int))) (c : (Int × (List (List Int)) × (List (List Int)) × Unit)) (r2 : Int → Option (Int)) (t : Int) : Option (Int) :=
  if (decide (t < (s.length : Int))) = true then
  G (0 ≤ t ∧ t < (s.length : Int)) (
  (cover_Check_1 (ix s t) c).bind (fun y' =>
  if y' = true then
  some t else
  G (fits (t + (1 : Int))) (
  r2 (t + (1 : Int))))) else
  some (-1 : Int)
noncomputable def slices_IndexFunc_L2_F (s : (List (List Int))) (c : (Int × (List (List Int)) × (List (List Int)) × Unit)) : (Int → Option (Int)) → Int → Option (Int) :=
  fun rec x => slices_IndexFunc_L2_B s c (fun t => rec t) x
noncomputable def slices_IndexFunc_L2 (s : (List (List Int))) (c : (Int × (List (List Int)) × (List (List Int)) × Unit)) (t : Int) : Option (Int) := LFix (slices_IndexFunc_L2_F s c ) t
noncomputable def slices_IndexFunc (s : (List (List Int))) (c : (Int × (List (List Int)) × (List (List Int)) × Unit)) : Option (Int) :=
  slices_IndexFunc_L2 s c (0 : Int)
theorem slices_IndexFunc_L2_B_ch (r2 : Nat → Int → Option (Int)) (r2' : Int → Option (Int)) (h_r2 : ∀ a0, ChO (fun κ => r2 κ a0) (r2' a0)) (s : (List (List Int))) (c : (Int × (List (List Int)) × (List (List Int)) × Unit)) (t : Int) : ChO (fun κ => slices_IndexFunc_L2_B s c (r2 κ) t) (slices_IndexFunc_L2_B s c r2' t) := by
  unfold slices_IndexFunc_L2_B
  repeat' first | exact ChO.const _ | exact h_r2 _ | apply ChO.ite | apply ChO.G | apply ChO.both | (apply ChO.bind; intro _)
theorem slices_IndexFunc_L2_cn  (s : (List (List Int))) (c : (Int × (List (List Int)) × (List (List Int)) × Unit)) : Cn (slices_IndexFunc_L2_F s c) := fun g h hg x => slices_IndexFunc_L2_B_ch  (fun κ t => g κ t) (fun t => h t) (fun t => hg t) s c x
theorem slices_IndexFunc_L2_eq  (s : (List (List Int))) (c : (Int × (List (List Int)) × (List (List Int)) × Unit)) (t : Int) : slices_IndexFunc_L2 s c t = slices_IndexFunc_L2_B s c (slices_IndexFunc_L2 s c) t := LFix_eq (slices_IndexFunc_L2_cn s c) t

noncomputable def slices_ContainsFunc (s : (List (List Int))) (c : (Int × (List (List Int)) × (List (List Int)) × Unit)) : Option (Bool) :=
  (slices_IndexFunc s c).bind (fun y' =>
  some (decide ((0 : Int) ≤ y')))

noncomputable def cover_beyond_1 (x' : Int) (t : Int) : Option (Bool) :=
  if (decide (x' < (0 : Int))) = true then
  some true else
  some (decide (t < x'))

noncomputable def slices_IndexFunc_2_L2_B (s : (List Int)) (c : Int) (r2 : Int → Option (Int)) (t : Int) : Option (Int) :=
  if (decide (t < (s.length : Int))) = true then
  G (0 ≤ t ∧ t < (s.length : Int)) (
  (cover_beyond_1 (ix s t) c).bind (fun y' =>
  if y' = true then
  some t else
  G (fits (t + (1 : Int))) (
  r2 (t + (1 : Int))))) else
  some (-1 : Int)
noncomputable def slices_IndexFunc_2_L2_F (s : (List Int)) (c : Int) : (Int → Option (Int)) → Int → Option (Int) :=
  fun rec x => slices_IndexFunc_2_L2_B s c (fun t => rec t) x
noncomputable def slices_IndexFunc_2_L2 (s : (List Int)) (c : Int) (t : Int) : Option (Int) := LFix (slices_IndexFunc_2_L2_F s c ) t
noncomputable def slices_IndexFunc_2 (s : (List Int)) (c : Int) : Option (Int) :=
  slices_IndexFunc_2_L2 s c (0 : Int)
theorem slices_IndexFunc_2_L2_B_ch (r2 : Nat → Int → Option (Int)) (r2' : Int → Option (Int)) (h_r2 : ∀ a0, ChO (fun κ => r2 κ a0) (r2' a0)) (s : (List Int)) (c : Int) (t : Int) : ChO (fun κ => slices_IndexFunc_2_L2_B s c (r2 κ) t) (slices_IndexFunc_2_L2_B s c r2' t) := by
  unfold slices_IndexFunc_2_L2_B
  repeat' first | exact ChO.const _ | exact h_r2 _ | apply ChO.ite | apply ChO.G | apply ChO.both | (apply ChO.bind; intro _)
theorem slices_IndexFunc_2_L2_cn  (s : (List Int)) (c : Int) : Cn (slices_IndexFunc_2_L2_F s c) := fun g h hg x => slices_IndexFunc_2_L2_B_ch  (fun κ t => g κ t) (fun t => h t) (fun t => hg t) s c x
theorem slices_IndexFunc_2_L2_eq  (s : (List Int)) (c : Int) (t : Int) : slices_IndexFunc_2_L2 s c t = slices_IndexFunc_2_L2_B s c (slices_IndexFunc_2_L2 s c) t := LFix_eq (slices_IndexFunc_2_L2_cn s c) t

noncomputable def slices_ContainsFunc_2 (s : (List Int)) (c : Int) : Option (Bool) :=
  (slices_IndexFunc_2 s c).bind (fun y' =>
  some (decide ((0 : Int) ≤ y')))

noncomputable def cover_beyond (r : (List Int)) (most : Int) : Option (Bool) :=
  (slices_ContainsFunc_2 r most).bind (fun y' =>
  some y')

noncomputable def cover_Check_2 (r : (List Int)) : Option (Bool) :=
  (cover_beyond r (2 : Int)).bind (fun y' =>
  some y')

noncomputable def slices_IndexFunc_1_L2_B (s : (List (List Int))) (r2 : Int → Option (Int)) (t : Int) : Option (Int) :=
  if (decide (t < (s.length : Int))) = true then
  G (0 ≤ t ∧ t < (s.length : Int)) (
  (cover_Check_2 (ix s t)).bind (fun y' =>
  if y' = true then
  some t else
  G (fits (t + (1 : Int))) (
  r2 (t + (1 : Int))))) else
  some (-1 : Int)
noncomputable def slices_IndexFunc_1_L2_F (s : (List (List Int))) : (Int → Option (Int)) → Int → Option (Int) :=
  fun rec x => slices_IndexFunc_1_L2_B s (fun t => rec t) x
noncomputable def slices_IndexFunc_1_L2 (s : (List (List Int))) (t : Int) : Option (Int) := LFix (slices_IndexFunc_1_L2_F s ) t
noncomputable def slices_IndexFunc_1 (s : (List (List Int))) : Option (Int) :=
  slices_IndexFunc_1_L2 s (0 : Int)
theorem slices_IndexFunc_1_L2_B_ch (r2 : Nat → Int → Option (Int)) (r2' : Int → Option (Int)) (h_r2 : ∀ a0, ChO (fun κ => r2 κ a0) (r2' a0)) (s : (List (List Int))) (t : Int) : ChO (fun κ => slices_IndexFunc_1_L2_B s (r2 κ) t) (slices_IndexFunc_1_L2_B s r2' t) := by
  unfold slices_IndexFunc_1_L2_B
  repeat' first | exact ChO.const _ | exact h_r2 _ | apply ChO.ite | apply ChO.G | apply ChO.both | (apply ChO.bind; intro _)
theorem slices_IndexFunc_1_L2_cn  (s : (List (List Int))) : Cn (slices_IndexFunc_1_L2_F s) := fun g h hg x => slices_IndexFunc_1_L2_B_ch  (fun κ t => g κ t) (fun t => h t) (fun t => hg t) s x
theorem slices_IndexFunc_1_L2_eq  (s : (List (List Int))) (t : Int) : slices_IndexFunc_1_L2 s t = slices_IndexFunc_1_L2_B s (slices_IndexFunc_1_L2 s) t := LFix_eq (slices_IndexFunc_1_L2_cn s) t

noncomputable def slices_ContainsFunc_1 (s : (List (List Int))) : Option (Bool) :=
  (slices_IndexFunc_1 s).bind (fun y' =>
  some (decide ((0 : Int) ≤ y')))

noncomputable def cover_Check (n : (Int × (List (List Int)) × (List (List Int)) × Unit)) : Option (Int) :=
  if (decide (n.1 < (1 : Int))) = true then
  some (1 : Int) else
  if (decide ((4 : Int) < n.1)) = true then
  some (1 : Int) else
  if (decide ((8 : Int) < (n.2.1.length : Int))) = true then
  some (1 : Int) else
  if (decide (¬ (n.2.2.1.length : Int) = (n.2.1.length : Int))) = true then
  some (3 : Int) else
  (slices_Concat ([n.2.1, n.2.2.1])).bind (fun y' =>
  (slices_ContainsFunc y' (n.1, (n.2.1, (n.2.2.1, ())))).bind (fun y'_1 =>
  if y'_1 = true then
  some (3 : Int) else
  (slices_ContainsFunc_1 y').bind (fun y'_2 =>
  if y'_2 = true then
  some (2 : Int) else
  some (0 : Int))))

noncomputable def r19_row_L4_B (r : (List Int)) (most : Int) (r4 : Int → Option (Int)) (i : Int) : Option (Int) :=
  if (decide (i < (r.length : Int))) = true then
  G (0 ≤ i ∧ i < (r.length : Int)) (
  if (decide ((ix r i) < (0 : Int))) = true then
  some (2 : Int) else
  G (0 ≤ i ∧ i < (r.length : Int)) (
  if (decide (most < (ix r i))) = true then
  some (2 : Int) else
  G (fits (i + (1 : Int))) (
  r4 (i + (1 : Int))))) else
  some (0 : Int)
noncomputable def r19_row_L4_F (r : (List Int)) (most : Int) : (Int → Option (Int)) → Int → Option (Int) :=
  fun rec x => r19_row_L4_B r most (fun i => rec i) x
noncomputable def r19_row_L4 (r : (List Int)) (most : Int) (i : Int) : Option (Int) := LFix (r19_row_L4_F r most ) i
noncomputable def r19_row (r : (List Int)) (places : Int) (most : Int) : Option (Int) :=
  if (decide (¬ (r.length : Int) = places)) = true then
  some (3 : Int) else
  r19_row_L4 r most (0 : Int)
theorem r19_row_L4_B_ch (r4 : Nat → Int → Option (Int)) (r4' : Int → Option (Int)) (h_r4 : ∀ a0, ChO (fun κ => r4 κ a0) (r4' a0)) (r : (List Int)) (most : Int) (i : Int) : ChO (fun κ => r19_row_L4_B r most (r4 κ) i) (r19_row_L4_B r most r4' i) := by
  unfold r19_row_L4_B
  repeat' first | exact ChO.const _ | exact h_r4 _ | apply ChO.ite | apply ChO.G | apply ChO.both | (apply ChO.bind; intro _)
theorem r19_row_L4_cn  (r : (List Int)) (most : Int) : Cn (r19_row_L4_F r most) := fun g h hg x => r19_row_L4_B_ch  (fun κ i => g κ i) (fun i => h i) (fun i => hg i) r most x
theorem r19_row_L4_eq  (r : (List Int)) (most : Int) (i : Int) : r19_row_L4 r most i = r19_row_L4_B r most (r19_row_L4 r most) i := LFix_eq (r19_row_L4_cn r most) i

noncomputable def r19_Check_L7_B (n : (Int × (List (List Int)) × (List (List Int)) × Unit)) (r7 : Int → Int → Option (Int)) (bad : Int) (t : Int) : Option (Int) :=
  if (decide (t < (n.2.1.length : Int))) = true then
  G (0 ≤ t ∧ t < (n.2.1.length : Int)) (
  (r19_row (ix n.2.1 t) n.1 (2 : Int)).bind (fun y' =>
  G (0 ≤ t ∧ t < (n.2.2.1.length : Int)) (
  (r19_row (ix n.2.2.1 t) n.1 (2 : Int)).bind (fun y'_1 =>
  if (decide (y' = (3 : Int))) = true then
  some (3 : Int) else
  if (decide (y'_1 = (3 : Int))) = true then
  some (3 : Int) else
  if (decide (¬ y' = (0 : Int))) = true then
  G (fits (t + (1 : Int))) (
  r7 (2 : Int) (t + (1 : Int))) else
  if (decide (¬ y'_1 = (0 : Int))) = true then
  G (fits (t + (1 : Int))) (
  r7 (2 : Int) (t + (1 : Int))) else
  G (fits (t + (1 : Int))) (
  r7 bad (t + (1 : Int))))))) else
  some bad
noncomputable def r19_Check_L7_F (n : (Int × (List (List Int)) × (List (List Int)) × Unit)) : (Int × Int → Option (Int)) → Int × Int → Option (Int) :=
  fun rec x => r19_Check_L7_B n (fun bad t => rec (bad, t)) x.1 x.2
noncomputable def r19_Check_L7 (n : (Int × (List (List Int)) × (List (List Int)) × Unit)) (bad : Int) (t : Int) : Option (Int) := LFix (r19_Check_L7_F n ) (bad, t)
noncomputable def r19_Check (n : (Int × (List (List Int)) × (List (List Int)) × Unit)) : Option (Int) :=
  if (decide (n.1 < (1 : Int))) = true then
  some (1 : Int) else
  if (decide ((4 : Int) < n.1)) = true then
  some (1 : Int) else
  if (decide ((8 : Int) < (n.2.1.length : Int))) = true then
  some (1 : Int) else
  if (decide (¬ (n.2.2.1.length : Int) = (n.2.1.length : Int))) = true then
  some (3 : Int) else
  r19_Check_L7 n (0 : Int) (0 : Int)
theorem r19_Check_L7_B_ch (r7 : Nat → Int → Int → Option (Int)) (r7' : Int → Int → Option (Int)) (h_r7 : ∀ a0 a1, ChO (fun κ => r7 κ a0 a1) (r7' a0 a1)) (n : (Int × (List (List Int)) × (List (List Int)) × Unit)) (bad : Int) (t : Int) : ChO (fun κ => r19_Check_L7_B n (r7 κ) bad t) (r19_Check_L7_B n r7' bad t) := by
  unfold r19_Check_L7_B
  repeat' first | exact ChO.const _ | exact h_r7 _ _ | apply ChO.ite | apply ChO.G | apply ChO.both | (apply ChO.bind; intro _)
theorem r19_Check_L7_cn  (n : (Int × (List (List Int)) × (List (List Int)) × Unit)) : Cn (r19_Check_L7_F n) := fun g h hg x => r19_Check_L7_B_ch  (fun κ bad t => g κ (bad, t)) (fun bad t => h (bad, t)) (fun bad t => hg (bad, t)) n x.1 x.2
theorem r19_Check_L7_eq  (n : (Int × (List (List Int)) × (List (List Int)) × Unit)) (bad : Int) (t : Int) : r19_Check_L7 n bad t = r19_Check_L7_B n (r19_Check_L7 n) bad t := LFix_eq (r19_Check_L7_cn n) (bad, t)

noncomputable def cover_checked_L5_B (n : (Int × (List (List Int)) × (List (List Int)) × Unit)) (states : (List (List Int))) (r5 : Int → Option (Int)) (t : Int) : Option (Int) :=
  if (decide (t < (states.length : Int))) = true then
  G (0 ≤ t ∧ t < (states.length : Int)) (
  if (decide (¬ ((ix states t).length : Int) = n.1)) = true then
  some (3 : Int) else
  (cover_beyond (ix states t) (10 : Int)).bind (fun y'_1 =>
  if y'_1 = true then
  some (2 : Int) else
  G (fits (t + (1 : Int))) (
  r5 (t + (1 : Int))))) else
  some (0 : Int)
noncomputable def cover_checked_L5_F (n : (Int × (List (List Int)) × (List (List Int)) × Unit)) (states : (List (List Int))) : (Int → Option (Int)) → Int → Option (Int) :=
  fun rec x => cover_checked_L5_B n states (fun t => rec t) x
noncomputable def cover_checked_L5 (n : (Int × (List (List Int)) × (List (List Int)) × Unit)) (states : (List (List Int))) (t : Int) : Option (Int) := LFix (cover_checked_L5_F n states ) t
noncomputable def cover_checked (n : (Int × (List (List Int)) × (List (List Int)) × Unit)) (states : (List (List Int))) : Option (Int) :=
  (cover_Check (n.1, (n.2.1, (n.2.2.1, ())))).bind (fun y' =>
  if (decide (¬ y' = (0 : Int))) = true then
  some y' else
  cover_checked_L5 n states (0 : Int))
theorem cover_checked_L5_B_ch (r5 : Nat → Int → Option (Int)) (r5' : Int → Option (Int)) (h_r5 : ∀ a0, ChO (fun κ => r5 κ a0) (r5' a0)) (n : (Int × (List (List Int)) × (List (List Int)) × Unit)) (states : (List (List Int))) (t : Int) : ChO (fun κ => cover_checked_L5_B n states (r5 κ) t) (cover_checked_L5_B n states r5' t) := by
  unfold cover_checked_L5_B
  repeat' first | exact ChO.const _ | exact h_r5 _ | apply ChO.ite | apply ChO.G | apply ChO.both | (apply ChO.bind; intro _)
theorem cover_checked_L5_cn  (n : (Int × (List (List Int)) × (List (List Int)) × Unit)) (states : (List (List Int))) : Cn (cover_checked_L5_F n states) := fun g h hg x => cover_checked_L5_B_ch  (fun κ t => g κ t) (fun t => h t) (fun t => hg t) n states x
theorem cover_checked_L5_eq  (n : (Int × (List (List Int)) × (List (List Int)) × Unit)) (states : (List (List Int))) (t : Int) : cover_checked_L5 n states t = cover_checked_L5_B n states (cover_checked_L5 n states) t := LFix_eq (cover_checked_L5_cn n states) t

noncomputable def cover_covers_L2_B (a : (List Int)) (b : (List Int)) (r2 : Int → Option (Bool)) (t : Int) : Option (Bool) :=
  if (decide (t < (a.length : Int))) = true then
  G (0 ≤ t ∧ t < (a.length : Int)) (
  G (0 ≤ t ∧ t < (b.length : Int)) (
  if (decide ((ix a t) < (ix b t))) = true then
  some false else
  G (fits (t + (1 : Int))) (
  r2 (t + (1 : Int))))) else
  some true
noncomputable def cover_covers_L2_F (a : (List Int)) (b : (List Int)) : (Int → Option (Bool)) → Int → Option (Bool) :=
  fun rec x => cover_covers_L2_B a b (fun t => rec t) x
noncomputable def cover_covers_L2 (a : (List Int)) (b : (List Int)) (t : Int) : Option (Bool) := LFix (cover_covers_L2_F a b ) t
noncomputable def cover_covers (a : (List Int)) (b : (List Int)) : Option (Bool) :=
  cover_covers_L2 a b (0 : Int)
theorem cover_covers_L2_B_ch (r2 : Nat → Int → Option (Bool)) (r2' : Int → Option (Bool)) (h_r2 : ∀ a0, ChO (fun κ => r2 κ a0) (r2' a0)) (a : (List Int)) (b : (List Int)) (t : Int) : ChO (fun κ => cover_covers_L2_B a b (r2 κ) t) (cover_covers_L2_B a b r2' t) := by
  unfold cover_covers_L2_B
  repeat' first | exact ChO.const _ | exact h_r2 _ | apply ChO.ite | apply ChO.G | apply ChO.both | (apply ChO.bind; intro _)
theorem cover_covers_L2_cn  (a : (List Int)) (b : (List Int)) : Cn (cover_covers_L2_F a b) := fun g h hg x => cover_covers_L2_B_ch  (fun κ t => g κ t) (fun t => h t) (fun t => hg t) a b x
theorem cover_covers_L2_eq  (a : (List Int)) (b : (List Int)) (t : Int) : cover_covers_L2 a b t = cover_covers_L2_B a b (cover_covers_L2 a b) t := LFix_eq (cover_covers_L2_cn a b) t

noncomputable def slices_Clone (s : (List Int)) : Option (List Int) :=
  if s.length = 0 then both [(.list (.int .i64))] (
  some ([])) (
  G (room ([] : List Int) s 8) (
  some (([] : List Int) ++ s))) else
  G (room ([] : List Int) s 8) (
  some (([] : List Int) ++ s))

noncomputable def cover_done_L3_B (n : (Int × (List (List Int)) × (List (List Int)) × Unit)) (step : Int) (y' : (List Int)) (r3 : Int → (List Int) → Option (List Int)) (t : Int) (out : (List Int)) : Option (List Int) :=
  if (decide (t < (y'.length : Int))) = true then
  G (0 ≤ t ∧ t < (out.length : Int)) (
  G ((t).toNat < out.length) (
  G (0 ≤ step ∧ step < (n.2.2.1.length : Int)) (
  G (0 ≤ t ∧ t < ((ix n.2.2.1 step).length : Int)) (
  G (0 ≤ step ∧ step < (n.2.1.length : Int)) (
  G (0 ≤ t ∧ t < ((ix n.2.1 step).length : Int)) (
  G (fits ((ix (ix n.2.2.1 step) t) - (ix (ix n.2.1 step) t))) (
  G (fits ((ix out t) + ((ix (ix n.2.2.1 step) t) - (ix (ix n.2.1 step) t)))) (
  G (0 ≤ t ∧ t < (out.length : Int)) (
  G ((t).toNat < out.length) (
  G (fits (t + (1 : Int))) (
  r3 (t + (1 : Int)) (out.set (t).toNat ((ix out t) + ((ix (ix n.2.2.1 step) t) - (ix (ix n.2.1 step) t))))))))))))))) else
  some out
noncomputable def cover_done_L3_F (n : (Int × (List (List Int)) × (List (List Int)) × Unit)) (step : Int) (y' : (List Int)) : (Int × (List Int) → Option (List Int)) → Int × (List Int) → Option (List Int) :=
  fun rec x => cover_done_L3_B n step y' (fun t out => rec (t, out)) x.1 x.2
noncomputable def cover_done_L3 (n : (Int × (List (List Int)) × (List (List Int)) × Unit)) (step : Int) (y' : (List Int)) (t : Int) (out : (List Int)) : Option (List Int) := LFix (cover_done_L3_F n step y' ) (t, out)
noncomputable def cover_done (n : (Int × (List (List Int)) × (List (List Int)) × Unit)) (state : (List Int)) (step : Int) : Option (List Int) :=
  (slices_Clone state).bind (fun y' =>
  cover_done_L3 n step y' (0 : Int) y')
theorem cover_done_L3_B_ch (r3 : Nat → Int → (List Int) → Option (List Int)) (r3' : Int → (List Int) → Option (List Int)) (h_r3 : ∀ a0 a1, ChO (fun κ => r3 κ a0 a1) (r3' a0 a1)) (n : (Int × (List (List Int)) × (List (List Int)) × Unit)) (step : Int) (y' : (List Int)) (t : Int) (out : (List Int)) : ChO (fun κ => cover_done_L3_B n step y' (r3 κ) t out) (cover_done_L3_B n step y' r3' t out) := by
  unfold cover_done_L3_B
  repeat' first | exact ChO.const _ | exact h_r3 _ _ | apply ChO.ite | apply ChO.G | apply ChO.both | (apply ChO.bind; intro _)
theorem cover_done_L3_cn  (n : (Int × (List (List Int)) × (List (List Int)) × Unit)) (step : Int) (y' : (List Int)) : Cn (cover_done_L3_F n step y') := fun g h hg x => cover_done_L3_B_ch  (fun κ t out => g κ (t, out)) (fun t out => h (t, out)) (fun t out => hg (t, out)) n step y' x.1 x.2
theorem cover_done_L3_eq  (n : (Int × (List (List Int)) × (List (List Int)) × Unit)) (step : Int) (y' : (List Int)) (t : Int) (out : (List Int)) : cover_done_L3 n step y' t out = cover_done_L3_B n step y' (cover_done_L3 n step y') t out := LFix_eq (cover_done_L3_cn n step y') (t, out)

noncomputable def cover_Fire (n : (Int × (List (List Int)) × (List (List Int)) × Unit)) (state : (List Int)) (step : Int) : Option (Int × (List Int)) :=
  (cover_checked (n.1, (n.2.1, (n.2.2.1, ()))) ([state])).bind (fun y' =>
  if (decide (¬ y' = (0 : Int))) = true then
  some (y', []) else
  if (decide (step < (0 : Int))) = true then
  some ((5 : Int), []) else
  if (decide ((n.2.1.length : Int) ≤ step)) = true then
  some ((5 : Int), []) else
  G (0 ≤ step ∧ step < (n.2.1.length : Int)) (
  (cover_covers state (ix n.2.1 step)).bind (fun y'_1 =>
  if (!y'_1) = true then
  some ((6 : Int), []) else
  (cover_done (n.1, (n.2.1, (n.2.2.1, ()))) state step).bind (fun y'_2 =>
  some ((0 : Int), y'_2)))))

noncomputable def r19_State (n : (Int × (List (List Int)) × (List (List Int)) × Unit)) (s : (List Int)) : Option (Int) :=
  (r19_row s n.1 (10 : Int)).bind (fun y' =>
  some y')

noncomputable def law_heaps_J3_1 (n : (Int × (List (List Int)) × (List (List Int)) × Unit)) (states : (List (List Int))) (i : Int) (r3 : (Int → Int → Option (Int))) (t_1 : Bool) : Option (Int) :=
  G (0 ≤ i ∧ i < (states.length : Int)) (
  (r19_State (n.1, (n.2.1, (n.2.2.1, ()))) (ix states i)).bind (fun y'_1 =>
  G (fits (i + (1 : Int))) (
  r3 y'_1 (i + (1 : Int)))))
noncomputable def law_heaps_J3 (n : (Int × (List (List Int)) × (List (List Int)) × Unit)) (states : (List (List Int))) (e : Int) (i : Int) (r3 : (Int → Int → Option (Int))) (t : Bool) : Option (Int) :=
  if t = true then
  law_heaps_J3_1 n states i r3 t else
  some e
noncomputable def law_heaps_L3_B (n : (Int × (List (List Int)) × (List (List Int)) × Unit)) (states : (List (List Int))) (r3 : Int → Int → Option (Int)) (e : Int) (i : Int) : Option (Int) :=
  if (decide (i < (states.length : Int))) = true then
  law_heaps_J3 n states e i r3 (decide (e = (0 : Int))) else
  law_heaps_J3 n states e i r3 false
noncomputable def law_heaps_L3_F (n : (Int × (List (List Int)) × (List (List Int)) × Unit)) (states : (List (List Int))) : (Int × Int → Option (Int)) → Int × Int → Option (Int) :=
  fun rec x => law_heaps_L3_B n states (fun e i => rec (e, i)) x.1 x.2
noncomputable def law_heaps_L3 (n : (Int × (List (List Int)) × (List (List Int)) × Unit)) (states : (List (List Int))) (e : Int) (i : Int) : Option (Int) := LFix (law_heaps_L3_F n states ) (e, i)
noncomputable def law_heaps (n : (Int × (List (List Int)) × (List (List Int)) × Unit)) (states : (List (List Int))) : Option (Int) :=
  (r19_Check (n.1, (n.2.1, (n.2.2.1, ())))).bind (fun y' =>
  law_heaps_L3 n states y' (0 : Int))
theorem law_heaps_J3_1_ch (r3 : Nat → Int → Int → Option (Int)) (r3' : Int → Int → Option (Int)) (h_r3 : ∀ a0 a1, ChO (fun κ => r3 κ a0 a1) (r3' a0 a1)) (n : (Int × (List (List Int)) × (List (List Int)) × Unit)) (states : (List (List Int))) (i : Int) (t_1 : Bool) : ChO (fun κ => law_heaps_J3_1 n states i (r3 κ) t_1) (law_heaps_J3_1 n states i r3' t_1) := by
  unfold law_heaps_J3_1
  repeat' first | exact ChO.const _ | exact h_r3 _ _ | apply ChO.ite | apply ChO.G | apply ChO.both | (apply ChO.bind; intro _)
theorem law_heaps_J3_ch (r3 : Nat → Int → Int → Option (Int)) (r3' : Int → Int → Option (Int)) (h_r3 : ∀ a0 a1, ChO (fun κ => r3 κ a0 a1) (r3' a0 a1)) (n : (Int × (List (List Int)) × (List (List Int)) × Unit)) (states : (List (List Int))) (e : Int) (i : Int) (t : Bool) : ChO (fun κ => law_heaps_J3 n states e i (r3 κ) t) (law_heaps_J3 n states e i r3' t) := by
  unfold law_heaps_J3
  repeat' first | exact ChO.const _ | exact h_r3 _ _ | (apply law_heaps_J3_1_ch <;> assumption) | apply ChO.ite | apply ChO.G | apply ChO.both | (apply ChO.bind; intro _)
theorem law_heaps_L3_B_ch (r3 : Nat → Int → Int → Option (Int)) (r3' : Int → Int → Option (Int)) (h_r3 : ∀ a0 a1, ChO (fun κ => r3 κ a0 a1) (r3' a0 a1)) (n : (Int × (List (List Int)) × (List (List Int)) × Unit)) (states : (List (List Int))) (e : Int) (i : Int) : ChO (fun κ => law_heaps_L3_B n states (r3 κ) e i) (law_heaps_L3_B n states r3' e i) := by
  unfold law_heaps_L3_B
  repeat' first | exact ChO.const _ | exact h_r3 _ _ | (apply law_heaps_J3_1_ch <;> assumption) | (apply law_heaps_J3_ch <;> assumption) | apply ChO.ite | apply ChO.G | apply ChO.both | (apply ChO.bind; intro _)
theorem law_heaps_L3_cn  (n : (Int × (List (List Int)) × (List (List Int)) × Unit)) (states : (List (List Int))) : Cn (law_heaps_L3_F n states) := fun g h hg x => law_heaps_L3_B_ch  (fun κ e i => g κ (e, i)) (fun e i => h (e, i)) (fun e i => hg (e, i)) n states x.1 x.2
theorem law_heaps_L3_eq  (n : (Int × (List (List Int)) × (List (List Int)) × Unit)) (states : (List (List Int))) (e : Int) (i : Int) : law_heaps_L3 n states e i = law_heaps_L3_B n states (law_heaps_L3 n states) e i := LFix_eq (law_heaps_L3_cn n states) (e, i)

noncomputable def r19_Covers_L2_B (a : (List Int)) (b : (List Int)) (r2 : Int → Option (Bool)) (i : Int) : Option (Bool) :=
  if (decide (i < (a.length : Int))) = true then
  G (0 ≤ i ∧ i < (a.length : Int)) (
  G (0 ≤ i ∧ i < (b.length : Int)) (
  if (decide ((ix a i) < (ix b i))) = true then
  some false else
  G (fits (i + (1 : Int))) (
  r2 (i + (1 : Int))))) else
  some true
noncomputable def r19_Covers_L2_F (a : (List Int)) (b : (List Int)) : (Int → Option (Bool)) → Int → Option (Bool) :=
  fun rec x => r19_Covers_L2_B a b (fun i => rec i) x
noncomputable def r19_Covers_L2 (a : (List Int)) (b : (List Int)) (i : Int) : Option (Bool) := LFix (r19_Covers_L2_F a b ) i
noncomputable def r19_Covers (a : (List Int)) (b : (List Int)) : Option (Bool) :=
  r19_Covers_L2 a b (0 : Int)
theorem r19_Covers_L2_B_ch (r2 : Nat → Int → Option (Bool)) (r2' : Int → Option (Bool)) (h_r2 : ∀ a0, ChO (fun κ => r2 κ a0) (r2' a0)) (a : (List Int)) (b : (List Int)) (i : Int) : ChO (fun κ => r19_Covers_L2_B a b (r2 κ) i) (r19_Covers_L2_B a b r2' i) := by
  unfold r19_Covers_L2_B
  repeat' first | exact ChO.const _ | exact h_r2 _ | apply ChO.ite | apply ChO.G | apply ChO.both | (apply ChO.bind; intro _)
theorem r19_Covers_L2_cn  (a : (List Int)) (b : (List Int)) : Cn (r19_Covers_L2_F a b) := fun g h hg x => r19_Covers_L2_B_ch  (fun κ i => g κ i) (fun i => h i) (fun i => hg i) a b x
theorem r19_Covers_L2_eq  (a : (List Int)) (b : (List Int)) (i : Int) : r19_Covers_L2 a b i = r19_Covers_L2_B a b (r19_Covers_L2 a b) i := LFix_eq (r19_Covers_L2_cn a b) i

noncomputable def r19_Done_L3_B (n : (Int × (List (List Int)) × (List (List Int)) × Unit)) (s : (List Int)) (t : Int) (r3 : Int → (List Int) → Option (List Int)) (i : Int) (out : (List Int)) : Option (List Int) :=
  if (decide (i < (s.length : Int))) = true then
  G (0 ≤ i ∧ i < (s.length : Int)) (
  G (0 ≤ t ∧ t < (n.2.2.1.length : Int)) (
  G (0 ≤ i ∧ i < ((ix n.2.2.1 t).length : Int)) (
  G (fits ((ix s i) + (ix (ix n.2.2.1 t) i))) (
  G (0 ≤ t ∧ t < (n.2.1.length : Int)) (
  G (0 ≤ i ∧ i < ((ix n.2.1 t).length : Int)) (
  G (fits (((ix s i) + (ix (ix n.2.2.1 t) i)) - (ix (ix n.2.1 t) i))) (
  G (room out ([((ix s i) + (ix (ix n.2.2.1 t) i)) - (ix (ix n.2.1 t) i)]) 8) (
  G (fits (i + (1 : Int))) (
  r3 (i + (1 : Int)) (out ++ ([((ix s i) + (ix (ix n.2.2.1 t) i)) - (ix (ix n.2.1 t) i)]))))))))))) else
  some out
noncomputable def r19_Done_L3_F (n : (Int × (List (List Int)) × (List (List Int)) × Unit)) (s : (List Int)) (t : Int) : (Int × (List Int) → Option (List Int)) → Int × (List Int) → Option (List Int) :=
  fun rec x => r19_Done_L3_B n s t (fun i out => rec (i, out)) x.1 x.2
noncomputable def r19_Done_L3 (n : (Int × (List (List Int)) × (List (List Int)) × Unit)) (s : (List Int)) (t : Int) (i : Int) (out : (List Int)) : Option (List Int) := LFix (r19_Done_L3_F n s t ) (i, out)
noncomputable def r19_Done (n : (Int × (List (List Int)) × (List (List Int)) × Unit)) (s : (List Int)) (t : Int) : Option (List Int) :=
  r19_Done_L3 n s t (0 : Int) ([])
theorem r19_Done_L3_B_ch (r3 : Nat → Int → (List Int) → Option (List Int)) (r3' : Int → (List Int) → Option (List Int)) (h_r3 : ∀ a0 a1, ChO (fun κ => r3 κ a0 a1) (r3' a0 a1)) (n : (Int × (List (List Int)) × (List (List Int)) × Unit)) (s : (List Int)) (t : Int) (i : Int) (out : (List Int)) : ChO (fun κ => r19_Done_L3_B n s t (r3 κ) i out) (r19_Done_L3_B n s t r3' i out) := by
  unfold r19_Done_L3_B
  repeat' first | exact ChO.const _ | exact h_r3 _ _ | apply ChO.ite | apply ChO.G | apply ChO.both | (apply ChO.bind; intro _)
theorem r19_Done_L3_cn  (n : (Int × (List (List Int)) × (List (List Int)) × Unit)) (s : (List Int)) (t : Int) : Cn (r19_Done_L3_F n s t) := fun g h hg x => r19_Done_L3_B_ch  (fun κ i out => g κ (i, out)) (fun i out => h (i, out)) (fun i out => hg (i, out)) n s t x.1 x.2
theorem r19_Done_L3_eq  (n : (Int × (List (List Int)) × (List (List Int)) × Unit)) (s : (List Int)) (t : Int) (i : Int) (out : (List Int)) : r19_Done_L3 n s t i out = r19_Done_L3_B n s t (r19_Done_L3 n s t) i out := LFix_eq (r19_Done_L3_cn n s t) (i, out)

noncomputable def r1_Words_L4_B (a : (List Int)) (b : (List Int)) (r4 : Int → Option (Bool)) (i : Int) : Option (Bool) :=
  if (decide (i < (a.length : Int))) = true then
  G (0 ≤ i ∧ i < (a.length : Int)) (
  G (0 ≤ i ∧ i < (b.length : Int)) (
  if (decide (¬ (ix a i) = (ix b i))) = true then
  some false else
  G (fits (i + (1 : Int))) (
  r4 (i + (1 : Int))))) else
  some true
noncomputable def r1_Words_L4_F (a : (List Int)) (b : (List Int)) : (Int → Option (Bool)) → Int → Option (Bool) :=
  fun rec x => r1_Words_L4_B a b (fun i => rec i) x
noncomputable def r1_Words_L4 (a : (List Int)) (b : (List Int)) (i : Int) : Option (Bool) := LFix (r1_Words_L4_F a b ) i
noncomputable def r1_Words (a : (List Int)) (b : (List Int)) : Option (Bool) :=
  if (decide (¬ (a.length : Int) = (b.length : Int))) = true then
  some false else
  r1_Words_L4 a b (0 : Int)
theorem r1_Words_L4_B_ch (r4 : Nat → Int → Option (Bool)) (r4' : Int → Option (Bool)) (h_r4 : ∀ a0, ChO (fun κ => r4 κ a0) (r4' a0)) (a : (List Int)) (b : (List Int)) (i : Int) : ChO (fun κ => r1_Words_L4_B a b (r4 κ) i) (r1_Words_L4_B a b r4' i) := by
  unfold r1_Words_L4_B
  repeat' first | exact ChO.const _ | exact h_r4 _ | apply ChO.ite | apply ChO.G | apply ChO.both | (apply ChO.bind; intro _)
theorem r1_Words_L4_cn  (a : (List Int)) (b : (List Int)) : Cn (r1_Words_L4_F a b) := fun g h hg x => r1_Words_L4_B_ch  (fun κ i => g κ i) (fun i => h i) (fun i => hg i) a b x
theorem r1_Words_L4_eq  (a : (List Int)) (b : (List Int)) (i : Int) : r1_Words_L4 a b i = r1_Words_L4_B a b (r1_Words_L4 a b) i := LFix_eq (r1_Words_L4_cn a b) i

noncomputable def law_CoverFires_J12 (n : (Int × (List (List Int)) × (List (List Int)) × Unit)) (s : (List Int)) (t : Int) (y'_2 : Int) (y'_3 : (List Int)) (no_1 : Int) : Option (Bool) :=
  if (decide (¬ no_1 = (0 : Int))) = true then
  if (decide (y'_2 = no_1)) = true then
  some (decide ((y'_3.length : Int) = (0 : Int))) else
  some false else
  (r19_Done (n.1, (n.2.1, (n.2.2.1, ()))) s t).bind (fun y'_7 =>
  (r1_Words y'_3 y'_7).bind (fun y'_8 =>
  if (decide (y'_2 = (0 : Int))) = true then
  some y'_8 else
  some false))
noncomputable def law_CoverFires_J8 (n : (Int × (List (List Int)) × (List (List Int)) × Unit)) (s : (List Int)) (t : Int) (y'_2 : Int) (y'_3 : (List Int)) (no : Int) : Option (Bool) :=
  if (decide (no = (0 : Int))) = true then
  G (0 ≤ t ∧ t < (n.2.1.length : Int)) (
  (r19_Covers s (ix n.2.1 t)).bind (fun y'_6 =>
  if (!y'_6) = true then
  law_CoverFires_J12 n s t y'_2 y'_3 (6 : Int) else
  law_CoverFires_J12 n s t y'_2 y'_3 no)) else
  law_CoverFires_J12 n s t y'_2 y'_3 no
noncomputable def law_CoverFires_J7 (n : (Int × (List (List Int)) × (List (List Int)) × Unit)) (s : (List Int)) (t : Int) (y'_2 : Int) (y'_3 : (List Int)) (y'_5 : Int) (t_1 : Bool) : Option (Bool) :=
  if t_1 = true then
  law_CoverFires_J8 n s t y'_2 y'_3 (5 : Int) else
  law_CoverFires_J8 n s t y'_2 y'_3 y'_5
noncomputable def law_CoverFires (n : (Int × (List (List Int)) × (List (List Int)) × Unit)) (s : (List Int)) (t : Int) : Option (Bool) :=
  (cover_Check (n.1, (n.2.1, (n.2.2.1, ())))).bind (fun y' =>
  (r19_Check (n.1, (n.2.1, (n.2.2.1, ())))).bind (fun y'_1 =>
  (cover_Fire (n.1, (n.2.1, (n.2.2.1, ()))) s t).bind (fun y'_9 =>
  if (decide (¬ y' = y'_1)) = true then
  some false else
  (law_heaps (n.1, (n.2.1, (n.2.2.1, ()))) ([s])).bind (fun y'_5 =>
  if (decide (y'_5 = (0 : Int))) = true then
  if (decide (t < (0 : Int))) = true then
  law_CoverFires_J7 n s t y'_9.1 y'_9.2 y'_5 true else
  law_CoverFires_J7 n s t y'_9.1 y'_9.2 y'_5 (decide ((n.2.1.length : Int) ≤ t)) else
  law_CoverFires_J7 n s t y'_9.1 y'_9.2 y'_5 false))))

end Go.Proofs.Ytiamohlhhcafdaa.coverFiresW
