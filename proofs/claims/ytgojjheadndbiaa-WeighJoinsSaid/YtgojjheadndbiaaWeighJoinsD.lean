/- What the functions that 'WeighJoins' reaches compute: plain functions. -/
import Derived.Test.YtgojjheadndbiaaEv16n21
set_option maxHeartbeats 1000000
set_option maxRecDepth 20000
set_option linter.unusedSimpArgs false
set_option linter.unusedVariables false
set_option linter.unusedSectionVars false
namespace Go.Proofs.Ytgojjheadndbiaa.weighJoinsW
open Go Go.Ab
noncomputable def weigh_Check_1 (r : (List Int)) (t : Int) : Option (Bool) :=
  some (decide (¬ (r.length : Int) = t))

noncomputable def slices_IndexFunc_L2_B (s : (List (List Int))) (c : Int) (r2 : Int → Option (Int)) (t : Int) : Option (Int) :=
  if (decide (t < (s.length : Int))) = true then
  G (0 ≤ t ∧ t < (s.length : Int)) (
  (weigh_Check_1 (ix s t) c).bind (fun y' =>
  if y' = true then
  some t else
  G (fits (t + (1 : Int))) (
  r2 (t + (1 : Int))))) else
  some (-1 : Int)
noncomputable def slices_IndexFunc_L2_F (s : (List (List Int))) (c : Int) : (Int → Option (Int)) → Int → Option (Int) :=
  fun rec x => slices_IndexFunc_L2_B s c (fun t => rec t) x
noncomputable def slices_IndexFunc_L2 (s : (List (List Int))) (c : Int) (t : Int) : Option (Int) := LFix (slices_IndexFunc_L2_F s c ) t
noncomputable def slices_IndexFunc (s : (List (List Int))) (c : Int) : Option (Int) :=
  slices_IndexFunc_L2 s c (0 : Int)
theorem slices_IndexFunc_L2_B_ch (r2 : Nat → Int → Option (Int)) (r2' : Int → Option (Int)) (h_r2 : ∀ a0, ChO (fun κ => r2 κ a0) (r2' a0)) (s : (List (List Int))) (c : Int) (t : Int) : ChO (fun κ => slices_IndexFunc_L2_B s c (r2 κ) t) (slices_IndexFunc_L2_B s c r2' t) := by
  unfold slices_IndexFunc_L2_B
  repeat' with_reducible first | exact ChO.const _ | exact h_r2 _ | apply ChO.ite | apply ChO.G | apply ChO.both | (apply ChO.bind; intro _)
theorem slices_IndexFunc_L2_cn  (s : (List (List Int))) (c : Int) : Cn (slices_IndexFunc_L2_F s c) := fun g h hg x => slices_IndexFunc_L2_B_ch  (fun κ t => g κ t) (fun t => h t) (fun t => hg t) s c x
theorem slices_IndexFunc_L2_eq  (s : (List (List Int))) (c : Int) (t : Int) : slices_IndexFunc_L2 s c t = slices_IndexFunc_L2_B s c (slices_IndexFunc_L2 s c) t := LFix_eq (slices_IndexFunc_L2_cn s c) t

noncomputable def slices_ContainsFunc (s : (List (List Int))) (c : Int) : Option (Bool) :=
  (slices_IndexFunc s c).bind (fun y' =>
  some (decide ((0 : Int) ≤ y')))

noncomputable def weigh_above_1_1 (x' : Int) (t : Int) : Option (Bool) :=
  G (fits (0 - t)) (
  if (decide (x' < (0 - t))) = true then
  some true else
  some (decide (t < x')))

noncomputable def slices_IndexFunc_2_L2_B (s : (List Int)) (c : Int) (r2 : Int → Option (Int)) (t : Int) : Option (Int) :=
  if (decide (t < (s.length : Int))) = true then
  G (0 ≤ t ∧ t < (s.length : Int)) (
  (weigh_above_1_1 (ix s t) c).bind (fun y' =>
  if y' = true then
  some t else
  G (fits (t + (1 : Int))) (
  r2 (t + (1 : Int))))) else
  some (-1 : Int)
noncomputable def slices_IndexFunc_2_L2_F (s : (List Int)) (c : Int) : (Int → Option (Int)) → Int → Option (Int) :=
  fun rec x => slices_IndexFunc_2_L2_B s c (fun t => rec t) x
noncomputable def slices_IndexFunc_2_L2 (s : (List Int)) (c : Int) (t : Int) : Option (Int) := LFix (slices_IndexFunc_2_L2_F s c ) t
noncomputable def slices_IndexFunc_2 (s : (List Int)) (c : Int) : Option (Int) :=
  slices_IndexFunc_2_L2 s c (0 : Int)
theorem slices_IndexFunc_2_L2_B_ch (r2 : Nat → Int → Option (Int)) (r2' : Int → Option (Int)) (h_r2 : ∀ a0, ChO (fun κ => r2 κ a0) (r2' a0)) (s : (List Int)) (c : Int) (t : Int) : ChO (fun κ => slices_IndexFunc_2_L2_B s c (r2 κ) t) (slices_IndexFunc_2_L2_B s c r2' t) := by
  unfold slices_IndexFunc_2_L2_B
  repeat' with_reducible first | exact ChO.const _ | exact h_r2 _ | apply ChO.ite | apply ChO.G | apply ChO.both | (apply ChO.bind; intro _)
theorem slices_IndexFunc_2_L2_cn  (s : (List Int)) (c : Int) : Cn (slices_IndexFunc_2_L2_F s c) := fun g h hg x => slices_IndexFunc_2_L2_B_ch  (fun κ t => g κ t) (fun t => h t) (fun t => hg t) s c x
theorem slices_IndexFunc_2_L2_eq  (s : (List Int)) (c : Int) (t : Int) : slices_IndexFunc_2_L2 s c t = slices_IndexFunc_2_L2_B s c (slices_IndexFunc_2_L2 s c) t := LFix_eq (slices_IndexFunc_2_L2_cn s c) t

noncomputable def slices_ContainsFunc_2 (s : (List Int)) (c : Int) : Option (Bool) :=
  (slices_IndexFunc_2 s c).bind (fun y' =>
  some (decide ((0 : Int) ≤ y')))

noncomputable def weigh_above_1 (r : (List Int)) (t : Int) : Option (Bool) :=
  (slices_ContainsFunc_2 r t).bind (fun y' =>
  some y')

noncomputable def slices_IndexFunc_1_L2_B (s : (List (List Int))) (c : Int) (r2 : Int → Option (Int)) (t : Int) : Option (Int) :=
  if (decide (t < (s.length : Int))) = true then
  G (0 ≤ t ∧ t < (s.length : Int)) (
  (weigh_above_1 (ix s t) c).bind (fun y' =>
  if y' = true then
  some t else
  G (fits (t + (1 : Int))) (
  r2 (t + (1 : Int))))) else
  some (-1 : Int)
noncomputable def slices_IndexFunc_1_L2_F (s : (List (List Int))) (c : Int) : (Int → Option (Int)) → Int → Option (Int) :=
  fun rec x => slices_IndexFunc_1_L2_B s c (fun t => rec t) x
noncomputable def slices_IndexFunc_1_L2 (s : (List (List Int))) (c : Int) (t : Int) : Option (Int) := LFix (slices_IndexFunc_1_L2_F s c ) t
noncomputable def slices_IndexFunc_1 (s : (List (List Int))) (c : Int) : Option (Int) :=
  slices_IndexFunc_1_L2 s c (0 : Int)
theorem slices_IndexFunc_1_L2_B_ch (r2 : Nat → Int → Option (Int)) (r2' : Int → Option (Int)) (h_r2 : ∀ a0, ChO (fun κ => r2 κ a0) (r2' a0)) (s : (List (List Int))) (c : Int) (t : Int) : ChO (fun κ => slices_IndexFunc_1_L2_B s c (r2 κ) t) (slices_IndexFunc_1_L2_B s c r2' t) := by
  unfold slices_IndexFunc_1_L2_B
  repeat' with_reducible first | exact ChO.const _ | exact h_r2 _ | apply ChO.ite | apply ChO.G | apply ChO.both | (apply ChO.bind; intro _)
theorem slices_IndexFunc_1_L2_cn  (s : (List (List Int))) (c : Int) : Cn (slices_IndexFunc_1_L2_F s c) := fun g h hg x => slices_IndexFunc_1_L2_B_ch  (fun κ t => g κ t) (fun t => h t) (fun t => hg t) s c x
theorem slices_IndexFunc_1_L2_eq  (s : (List (List Int))) (c : Int) (t : Int) : slices_IndexFunc_1_L2 s c t = slices_IndexFunc_1_L2_B s c (slices_IndexFunc_1_L2 s c) t := LFix_eq (slices_IndexFunc_1_L2_cn s c) t

noncomputable def slices_ContainsFunc_1 (s : (List (List Int))) (c : Int) : Option (Bool) :=
  (slices_IndexFunc_1 s c).bind (fun y' =>
  some (decide ((0 : Int) ≤ y')))

noncomputable def weigh_above (rows : (List (List Int))) (most : Int) : Option (Bool) :=
  (slices_ContainsFunc_1 rows most).bind (fun y' =>
  some y')

noncomputable def weigh_Check_L10_B (a : (Int × (List Int) × (List (List (List Int))) × (List Int) × Unit)) (r10 : Int → (List (List Int)) → Option (Int)) (t : Int) (rows : (List (List Int))) : Option (Int) :=
  if (decide (t < (a.2.2.1.length : Int))) = true then
  G (0 ≤ t ∧ t < (a.2.2.1.length : Int)) (
  if (decide (¬ ((ix a.2.2.1 t).length : Int) = (a.2.1.length : Int))) = true then
  some (3 : Int) else
  (slices_ContainsFunc (ix a.2.2.1 t) (a.2.1.length : Int)).bind (fun y' =>
  if y' = true then
  some (3 : Int) else
  G (room rows (ix a.2.2.1 t) 24) (
  G (fits (t + (1 : Int))) (
  r10 (t + (1 : Int)) (rows ++ (ix a.2.2.1 t)))))) else
  (weigh_above rows (9 : Int)).bind (fun y'_1 =>
  if y'_1 = true then
  some (2 : Int) else
  some (0 : Int))
noncomputable def weigh_Check_L10_F (a : (Int × (List Int) × (List (List (List Int))) × (List Int) × Unit)) : (Int × (List (List Int)) → Option (Int)) → Int × (List (List Int)) → Option (Int) :=
  fun rec x => weigh_Check_L10_B a (fun t rows => rec (t, rows)) x.1 x.2
noncomputable def weigh_Check_L10 (a : (Int × (List Int) × (List (List (List Int))) × (List Int) × Unit)) (t : Int) (rows : (List (List Int))) : Option (Int) := LFix (weigh_Check_L10_F a ) (t, rows)
noncomputable def weigh_Check (a : (Int × (List Int) × (List (List (List Int))) × (List Int) × Unit)) : Option (Int) :=
  if (decide (a.1 < (1 : Int))) = true then
  some (2 : Int) else
  if (decide ((4 : Int) < a.1)) = true then
  some (2 : Int) else
  if (decide ((a.2.1.length : Int) < (1 : Int))) = true then
  some (1 : Int) else
  if (decide ((8 : Int) < (a.2.1.length : Int))) = true then
  some (1 : Int) else
  if (decide (¬ (a.2.2.2.1.length : Int) = (a.2.1.length : Int))) = true then
  some (3 : Int) else
  if (decide (¬ (a.2.2.1.length : Int) = a.1)) = true then
  some (3 : Int) else
  weigh_Check_L10 a (0 : Int) ([a.2.1, a.2.2.2.1])
theorem weigh_Check_L10_B_ch (r10 : Nat → Int → (List (List Int)) → Option (Int)) (r10' : Int → (List (List Int)) → Option (Int)) (h_r10 : ∀ a0 a1, ChO (fun κ => r10 κ a0 a1) (r10' a0 a1)) (a : (Int × (List Int) × (List (List (List Int))) × (List Int) × Unit)) (t : Int) (rows : (List (List Int))) : ChO (fun κ => weigh_Check_L10_B a (r10 κ) t rows) (weigh_Check_L10_B a r10' t rows) := by
  unfold weigh_Check_L10_B
  repeat' with_reducible first | exact ChO.const _ | exact h_r10 _ _ | apply ChO.ite | apply ChO.G | apply ChO.both | (apply ChO.bind; intro _)
theorem weigh_Check_L10_cn  (a : (Int × (List Int) × (List (List (List Int))) × (List Int) × Unit)) : Cn (weigh_Check_L10_F a) := fun g h hg x => weigh_Check_L10_B_ch  (fun κ t rows => g κ (t, rows)) (fun t rows => h (t, rows)) (fun t rows => hg (t, rows)) a x.1 x.2
theorem weigh_Check_L10_eq  (a : (Int × (List Int) × (List (List (List Int))) × (List Int) × Unit)) (t : Int) (rows : (List (List Int))) : weigh_Check_L10 a t rows = weigh_Check_L10_B a (weigh_Check_L10 a) t rows := LFix_eq (weigh_Check_L10_cn a) (t, rows)

noncomputable def weigh_two_L2_B (a : (Int × (List Int) × (List (List (List Int))) × (List Int) × Unit)) (b : (Int × (List Int) × (List (List (List Int))) × (List Int) × Unit)) (r2 : Int → Option (Int)) (t : Int) : Option (Int) :=
  if (decide (t < (([(a.1, (a.2.1, (a.2.2.1, (a.2.2.2.1, ())))), (b.1, (b.2.1, (b.2.2.1, (b.2.2.2.1, ()))))]).length : Int))) = true then
  G (0 ≤ t ∧ t < (([(a.1, (a.2.1, (a.2.2.1, (a.2.2.2.1, ())))), (b.1, (b.2.1, (b.2.2.1, (b.2.2.2.1, ()))))]).length : Int)) (
  G ((t).toNat < ([(a.1, (a.2.1, (a.2.2.1, (a.2.2.2.1, ())))), (b.1, (b.2.1, (b.2.2.1, (b.2.2.2.1, ()))))]).length) (
  (weigh_Check ((ix ([(a.1, (a.2.1, (a.2.2.1, (a.2.2.2.1, ())))), (b.1, (b.2.1, (b.2.2.1, (b.2.2.2.1, ()))))]) t).1, (((ix ([(a.1, (a.2.1, (a.2.2.1, (a.2.2.2.1, ())))), (b.1, (b.2.1, (b.2.2.1, (b.2.2.2.1, ()))))]) t).2).1, ((((ix ([(a.1, (a.2.1, (a.2.2.1, (a.2.2.2.1, ())))), (b.1, (b.2.1, (b.2.2.1, (b.2.2.2.1, ()))))]) t).2).2).1, (((((ix ([(a.1, (a.2.1, (a.2.2.1, (a.2.2.2.1, ())))), (b.1, (b.2.1, (b.2.2.1, (b.2.2.2.1, ()))))]) t).2).2).2).1, ()))))).bind (fun y' =>
  if (decide (¬ y' = (0 : Int))) = true then
  some y' else
  G (fits (t + (1 : Int))) (
  r2 (t + (1 : Int)))))) else
  if (decide (¬ a.1 = b.1)) = true then
  some (3 : Int) else
  some (0 : Int)
noncomputable def weigh_two_L2_F (a : (Int × (List Int) × (List (List (List Int))) × (List Int) × Unit)) (b : (Int × (List Int) × (List (List (List Int))) × (List Int) × Unit)) : (Int → Option (Int)) → Int → Option (Int) :=
  fun rec x => weigh_two_L2_B a b (fun t => rec t) x
noncomputable def weigh_two_L2 (a : (Int × (List Int) × (List (List (List Int))) × (List Int) × Unit)) (b : (Int × (List Int) × (List (List (List Int))) × (List Int) × Unit)) (t : Int) : Option (Int) := LFix (weigh_two_L2_F a b ) t
noncomputable def weigh_two (a : (Int × (List Int) × (List (List (List Int))) × (List Int) × Unit)) (b : (Int × (List Int) × (List (List (List Int))) × (List Int) × Unit)) : Option (Int) :=
  weigh_two_L2 a b (0 : Int)
theorem weigh_two_L2_B_ch (r2 : Nat → Int → Option (Int)) (r2' : Int → Option (Int)) (h_r2 : ∀ a0, ChO (fun κ => r2 κ a0) (r2' a0)) (a : (Int × (List Int) × (List (List (List Int))) × (List Int) × Unit)) (b : (Int × (List Int) × (List (List (List Int))) × (List Int) × Unit)) (t : Int) : ChO (fun κ => weigh_two_L2_B a b (r2 κ) t) (weigh_two_L2_B a b r2' t) := by
  unfold weigh_two_L2_B
  repeat' with_reducible first | exact ChO.const _ | exact h_r2 _ | apply ChO.ite | apply ChO.G | apply ChO.both | (apply ChO.bind; intro _)
theorem weigh_two_L2_cn  (a : (Int × (List Int) × (List (List (List Int))) × (List Int) × Unit)) (b : (Int × (List Int) × (List (List (List Int))) × (List Int) × Unit)) : Cn (weigh_two_L2_F a b) := fun g h hg x => weigh_two_L2_B_ch  (fun κ t => g κ t) (fun t => h t) (fun t => hg t) a b x
theorem weigh_two_L2_eq  (a : (Int × (List Int) × (List (List (List Int))) × (List Int) × Unit)) (b : (Int × (List Int) × (List (List (List Int))) × (List Int) × Unit)) (t : Int) : weigh_two_L2 a b t = weigh_two_L2_B a b (weigh_two_L2 a b) t := LFix_eq (weigh_two_L2_cn a b) t

noncomputable def slices_Clone (s : (List Int)) : Option (List Int) :=
  if s.length = 0 then both [(.list (.int .i64))] (
  some ([])) (
  G (room ([] : List Int) s 8) (
  some (([] : List Int) ++ s))) else
  G (room ([] : List Int) s 8) (
  some (([] : List Int) ++ s))

noncomputable def slices_Grow (n : Int) : Option (List Int) :=
  if (decide (n < (0 : Int))) = true then
  none else
  G (fits ((0 : Int) - (0 : Int))) (
  G (fits (n - ((0 : Int) - (0 : Int)))) (
  if (decide ((0 : Int) < (n - ((0 : Int) - (0 : Int))))) = true then
  G ((0 : Int) = (0 : Int)) (
  G (0 < n - ((0 : Int) - (0 : Int)) ∧ (n - ((0 : Int) - (0 : Int))) * 8 ≤ 140737488355328) (
  G (0 ≤ (0 : Int) ∧ (0 : Int) ≤ ((List.replicate (n - ((0 : Int) - (0 : Int))).toNat (0 : Int)).length : Int)) (
  some ((List.replicate (n - ((0 : Int) - (0 : Int))).toNat (0 : Int)).take ((0 : Int)).toNat)))) else
  some ([])))

noncomputable def slices_Concat_L11_B (slices : (List (List Int))) (r11 : Int → (List Int) → Option (List Int)) (t_1 : Int) (newslice : (List Int)) : Option (List Int) :=
  if (decide (t_1 < (slices.length : Int))) = true then
  G (0 ≤ t_1 ∧ t_1 < (slices.length : Int)) (
  G (room newslice (ix slices t_1) 8) (
  G (fits (t_1 + (1 : Int))) (
  r11 (t_1 + (1 : Int)) (newslice ++ (ix slices t_1))))) else
  some newslice
noncomputable def slices_Concat_L11_F (slices : (List (List Int))) : (Int × (List Int) → Option (List Int)) → Int × (List Int) → Option (List Int) :=
  fun rec x => slices_Concat_L11_B slices (fun t_1 newslice => rec (t_1, newslice)) x.1 x.2
noncomputable def slices_Concat_L11 (slices : (List (List Int))) (t_1 : Int) (newslice : (List Int)) : Option (List Int) := LFix (slices_Concat_L11_F slices ) (t_1, newslice)
noncomputable def slices_Concat_L3_B (slices : (List (List Int))) (r3 : Int → Int → Option (List Int)) (size : Int) (t : Int) : Option (List Int) :=
  if (decide (t < (slices.length : Int))) = true then
  G (0 ≤ t ∧ t < (slices.length : Int)) (
  G (fits (size + ((ix slices t).length : Int))) (
  if (decide ((size + ((ix slices t).length : Int)) < (0 : Int))) = true then
  none else
  G (fits (t + (1 : Int))) (
  r3 (size + ((ix slices t).length : Int)) (t + (1 : Int))))) else
  (slices_Grow size).bind (fun y' =>
  slices_Concat_L11 slices (0 : Int) y')
noncomputable def slices_Concat_L3_F (slices : (List (List Int))) : (Int × Int → Option (List Int)) → Int × Int → Option (List Int) :=
  fun rec x => slices_Concat_L3_B slices (fun size t => rec (size, t)) x.1 x.2
noncomputable def slices_Concat_L3 (slices : (List (List Int))) (size : Int) (t : Int) : Option (List Int) := LFix (slices_Concat_L3_F slices ) (size, t)
noncomputable def slices_Concat (slices : (List (List Int))) : Option (List Int) :=
  slices_Concat_L3 slices (0 : Int) (0 : Int)
theorem slices_Concat_L11_B_ch (r11 : Nat → Int → (List Int) → Option (List Int)) (r11' : Int → (List Int) → Option (List Int)) (h_r11 : ∀ a0 a1, ChO (fun κ => r11 κ a0 a1) (r11' a0 a1)) (slices : (List (List Int))) (t_1 : Int) (newslice : (List Int)) : ChO (fun κ => slices_Concat_L11_B slices (r11 κ) t_1 newslice) (slices_Concat_L11_B slices r11' t_1 newslice) := by
  unfold slices_Concat_L11_B
  repeat' with_reducible first | exact ChO.const _ | exact h_r11 _ _ | apply ChO.ite | apply ChO.G | apply ChO.both | (apply ChO.bind; intro _)
theorem slices_Concat_L11_cn  (slices : (List (List Int))) : Cn (slices_Concat_L11_F slices) := fun g h hg x => slices_Concat_L11_B_ch  (fun κ t_1 newslice => g κ (t_1, newslice)) (fun t_1 newslice => h (t_1, newslice)) (fun t_1 newslice => hg (t_1, newslice)) slices x.1 x.2
theorem slices_Concat_L11_eq  (slices : (List (List Int))) (t_1 : Int) (newslice : (List Int)) : slices_Concat_L11 slices t_1 newslice = slices_Concat_L11_B slices (slices_Concat_L11 slices) t_1 newslice := LFix_eq (slices_Concat_L11_cn slices) (t_1, newslice)
theorem slices_Concat_L3_B_ch (r3 : Nat → Int → Int → Option (List Int)) (r3' : Int → Int → Option (List Int)) (h_r3 : ∀ a0 a1, ChO (fun κ => r3 κ a0 a1) (r3' a0 a1)) (slices : (List (List Int))) (size : Int) (t : Int) : ChO (fun κ => slices_Concat_L3_B slices (r3 κ) size t) (slices_Concat_L3_B slices r3' size t) := by
  unfold slices_Concat_L3_B
  repeat' with_reducible first | exact ChO.const _ | exact h_r3 _ _ | apply ChO.ite | apply ChO.G | apply ChO.both | (apply ChO.bind; intro _)
theorem slices_Concat_L3_cn  (slices : (List (List Int))) : Cn (slices_Concat_L3_F slices) := fun g h hg x => slices_Concat_L3_B_ch  (fun κ size t => g κ (size, t)) (fun size t => h (size, t)) (fun size t => hg (size, t)) slices x.1 x.2
theorem slices_Concat_L3_eq  (slices : (List (List Int))) (size : Int) (t : Int) : slices_Concat_L3 slices size t = slices_Concat_L3_B slices (slices_Concat_L3 slices) size t := LFix_eq (slices_Concat_L3_cn slices) (size, t)

noncomputable def weigh_sum_L18_B (a : (Int × (List Int) × (List (List (List Int))) × (List Int) × Unit)) (b : (Int × (List Int) × (List (List (List Int))) × (List Int) × Unit)) (t_1 : Int) (out_2 : Int) (l_4 : (List Int)) (l_5 : (List Int)) (out_3 : (List (List (List Int)))) (r9 : (Int → Int → (List Int) → (List Int) → (List (List (List Int))) → Option (Int × (List Int) × (List (List (List Int))) × (List Int) × Unit))) (r18 : Int → (List (List Int)) → Option (Int × (List Int) × (List (List (List Int))) × (List Int) × Unit)) (t_4 : Int) (t_5 : (List (List Int))) : Option (Int × (List Int) × (List (List (List Int))) × (List Int) × Unit) :=
  if (decide (t_4 < ((ix b.2.2.1 t_1).length : Int))) = true then
  G (0 ≤ t_4 ∧ t_4 < ((ix b.2.2.1 t_1).length : Int)) (
  G (mkOK (a.2.1.length : Int) (a.2.1.length : Int) 8) (
  (slices_Concat ([List.replicate ((a.2.1.length : Int)).toNat (0 : Int), ix (ix b.2.2.1 t_1) t_4])).bind (fun y'_3 =>
  G (room t_5 ([y'_3]) 24) (
  G (fits (t_4 + (1 : Int))) (
  r18 (t_4 + (1 : Int)) (t_5 ++ ([y'_3]))))))) else
  G (room out_3 ([t_5]) 24) (
  G (fits (t_1 + (1 : Int))) (
  r9 (t_1 + (1 : Int)) out_2 l_4 l_5 (out_3 ++ ([t_5]))))
noncomputable def weigh_sum_L18_F (a : (Int × (List Int) × (List (List (List Int))) × (List Int) × Unit)) (b : (Int × (List Int) × (List (List (List Int))) × (List Int) × Unit)) (t_1 : Int) (out_2 : Int) (l_4 : (List Int)) (l_5 : (List Int)) (out_3 : (List (List (List Int)))) (r9 : (Int → Int → (List Int) → (List Int) → (List (List (List Int))) → Option (Int × (List Int) × (List (List (List Int))) × (List Int) × Unit))) : (Int × (List (List Int)) → Option (Int × (List Int) × (List (List (List Int))) × (List Int) × Unit)) → Int × (List (List Int)) → Option (Int × (List Int) × (List (List (List Int))) × (List Int) × Unit) :=
  fun rec x => weigh_sum_L18_B a b t_1 out_2 l_4 l_5 out_3 r9 (fun t_4 t_5 => rec (t_4, t_5)) x.1 x.2
noncomputable def weigh_sum_L18 (a : (Int × (List Int) × (List (List (List Int))) × (List Int) × Unit)) (b : (Int × (List Int) × (List (List (List Int))) × (List Int) × Unit)) (t_1 : Int) (out_2 : Int) (l_4 : (List Int)) (l_5 : (List Int)) (out_3 : (List (List (List Int)))) (r9 : (Int → Int → (List Int) → (List Int) → (List (List (List Int))) → Option (Int × (List Int) × (List (List (List Int))) × (List Int) × Unit))) (t_4 : Int) (t_5 : (List (List Int))) : Option (Int × (List Int) × (List (List (List Int))) × (List Int) × Unit) := LFix (weigh_sum_L18_F a b t_1 out_2 l_4 l_5 out_3 r9 ) (t_4, t_5)
noncomputable def weigh_sum_L13_B (a : (Int × (List Int) × (List (List (List Int))) × (List Int) × Unit)) (b : (Int × (List Int) × (List (List (List Int))) × (List Int) × Unit)) (t_1 : Int) (out_2 : Int) (l_4 : (List Int)) (l_5 : (List Int)) (out_3 : (List (List (List Int)))) (r9 : (Int → Int → (List Int) → (List Int) → (List (List (List Int))) → Option (Int × (List Int) × (List (List (List Int))) × (List Int) × Unit))) (r13 : Int → (List (List Int)) → Option (Int × (List Int) × (List (List (List Int))) × (List Int) × Unit)) (t_2 : Int) (t_3 : (List (List Int))) : Option (Int × (List Int) × (List (List (List Int))) × (List Int) × Unit) :=
  if (decide (t_2 < ((ix a.2.2.1 t_1).length : Int))) = true then
  G (0 ≤ t_2 ∧ t_2 < ((ix a.2.2.1 t_1).length : Int)) (
  G (mkOK (b.2.1.length : Int) (b.2.1.length : Int) 8) (
  (slices_Concat ([ix (ix a.2.2.1 t_1) t_2, List.replicate ((b.2.1.length : Int)).toNat (0 : Int)])).bind (fun y'_2 =>
  G (room t_3 ([y'_2]) 24) (
  G (fits (t_2 + (1 : Int))) (
  r13 (t_2 + (1 : Int)) (t_3 ++ ([y'_2]))))))) else
  G (0 ≤ t_1 ∧ t_1 < (b.2.2.1.length : Int)) (
  weigh_sum_L18 a b t_1 out_2 l_4 l_5 out_3 r9 (0 : Int) t_3)
noncomputable def weigh_sum_L13_F (a : (Int × (List Int) × (List (List (List Int))) × (List Int) × Unit)) (b : (Int × (List Int) × (List (List (List Int))) × (List Int) × Unit)) (t_1 : Int) (out_2 : Int) (l_4 : (List Int)) (l_5 : (List Int)) (out_3 : (List (List (List Int)))) (r9 : (Int → Int → (List Int) → (List Int) → (List (List (List Int))) → Option (Int × (List Int) × (List (List (List Int))) × (List Int) × Unit))) : (Int × (List (List Int)) → Option (Int × (List Int) × (List (List (List Int))) × (List Int) × Unit)) → Int × (List (List Int)) → Option (Int × (List Int) × (List (List (List Int))) × (List Int) × Unit) :=
  fun rec x => weigh_sum_L13_B a b t_1 out_2 l_4 l_5 out_3 r9 (fun t_2 t_3 => rec (t_2, t_3)) x.1 x.2
noncomputable def weigh_sum_L13 (a : (Int × (List Int) × (List (List (List Int))) × (List Int) × Unit)) (b : (Int × (List Int) × (List (List (List Int))) × (List Int) × Unit)) (t_1 : Int) (out_2 : Int) (l_4 : (List Int)) (l_5 : (List Int)) (out_3 : (List (List (List Int)))) (r9 : (Int → Int → (List Int) → (List Int) → (List (List (List Int))) → Option (Int × (List Int) × (List (List (List Int))) × (List Int) × Unit))) (t_2 : Int) (t_3 : (List (List Int))) : Option (Int × (List Int) × (List (List (List Int))) × (List Int) × Unit) := LFix (weigh_sum_L13_F a b t_1 out_2 l_4 l_5 out_3 r9 ) (t_2, t_3)
noncomputable def weigh_sum_L9_B (a : (Int × (List Int) × (List (List (List Int))) × (List Int) × Unit)) (b : (Int × (List Int) × (List (List (List Int))) × (List Int) × Unit)) (r9 : Int → Int → (List Int) → (List Int) → (List (List (List Int))) → Option (Int × (List Int) × (List (List (List Int))) × (List Int) × Unit)) (t_1 : Int) (out_2 : Int) (l_4 : (List Int)) (l_5 : (List Int)) (out_3 : (List (List (List Int)))) : Option (Int × (List Int) × (List (List (List Int))) × (List Int) × Unit) :=
  if (decide (t_1 < a.1)) = true then
  G (0 ≤ t_1 ∧ t_1 < (a.2.2.1.length : Int)) (
  weigh_sum_L13 a b t_1 out_2 l_4 l_5 out_3 r9 (0 : Int) ([])) else
  some (out_2, (l_4, (out_3, (l_5, ()))))
noncomputable def weigh_sum_L9_F (a : (Int × (List Int) × (List (List (List Int))) × (List Int) × Unit)) (b : (Int × (List Int) × (List (List (List Int))) × (List Int) × Unit)) : (Int × Int × (List Int) × (List Int) × (List (List (List Int))) → Option (Int × (List Int) × (List (List (List Int))) × (List Int) × Unit)) → Int × Int × (List Int) × (List Int) × (List (List (List Int))) → Option (Int × (List Int) × (List (List (List Int))) × (List Int) × Unit) :=
  fun rec x => weigh_sum_L9_B a b (fun t_1 out_2 l_4 l_5 out_3 => rec (t_1, out_2, l_4, l_5, out_3)) x.1 x.2.1 x.2.2.1 x.2.2.2.1 x.2.2.2.2
noncomputable def weigh_sum_L9 (a : (Int × (List Int) × (List (List (List Int))) × (List Int) × Unit)) (b : (Int × (List Int) × (List (List (List Int))) × (List Int) × Unit)) (t_1 : Int) (out_2 : Int) (l_4 : (List Int)) (l_5 : (List Int)) (out_3 : (List (List (List Int)))) : Option (Int × (List Int) × (List (List (List Int))) × (List Int) × Unit) := LFix (weigh_sum_L9_F a b ) (t_1, out_2, l_4, l_5, out_3)
noncomputable def weigh_sum_L4_B (a : (Int × (List Int) × (List (List (List Int))) × (List Int) × Unit)) (b : (Int × (List Int) × (List (List (List Int))) × (List Int) × Unit)) (sign : Int) (r4 : Int → Int → (List Int) → (List Int) → Option (Int × (List Int) × (List (List (List Int))) × (List Int) × Unit)) (t : Int) (out_1 : Int) (l_2 : (List Int)) (l_3 : (List Int)) : Option (Int × (List Int) × (List (List (List Int))) × (List Int) × Unit) :=
  if (decide (t < (b.2.1.length : Int))) = true then
  G (0 ≤ t ∧ t < (b.2.1.length : Int)) (
  G (fits (sign * (ix b.2.1 t))) (
  G (room l_2 ([sign * (ix b.2.1 t)]) 8) (
  G (fits (t + (1 : Int))) (
  r4 (t + (1 : Int)) out_1 (l_2 ++ ([sign * (ix b.2.1 t)])) l_3)))) else
  weigh_sum_L9 a b (0 : Int) out_1 l_2 l_3 ([] : List (List (List Int)))
noncomputable def weigh_sum_L4_F (a : (Int × (List Int) × (List (List (List Int))) × (List Int) × Unit)) (b : (Int × (List Int) × (List (List (List Int))) × (List Int) × Unit)) (sign : Int) : (Int × Int × (List Int) × (List Int) → Option (Int × (List Int) × (List (List (List Int))) × (List Int) × Unit)) → Int × Int × (List Int) × (List Int) → Option (Int × (List Int) × (List (List (List Int))) × (List Int) × Unit) :=
  fun rec x => weigh_sum_L4_B a b sign (fun t out_1 l_2 l_3 => rec (t, out_1, l_2, l_3)) x.1 x.2.1 x.2.2.1 x.2.2.2
noncomputable def weigh_sum_L4 (a : (Int × (List Int) × (List (List (List Int))) × (List Int) × Unit)) (b : (Int × (List Int) × (List (List (List Int))) × (List Int) × Unit)) (sign : Int) (t : Int) (out_1 : Int) (l_2 : (List Int)) (l_3 : (List Int)) : Option (Int × (List Int) × (List (List (List Int))) × (List Int) × Unit) := LFix (weigh_sum_L4_F a b sign ) (t, out_1, l_2, l_3)
noncomputable def weigh_sum_J2 (a : (Int × (List Int) × (List (List (List Int))) × (List Int) × Unit)) (b : (Int × (List Int) × (List (List (List Int))) × (List Int) × Unit)) (sign : Int) (out : Int) (l : (List Int)) (l_1 : (List Int)) : Option (Int × (List Int) × (List (List (List Int))) × (List Int) × Unit) :=
  weigh_sum_L4 a b sign (0 : Int) out l l_1
noncomputable def weigh_sum (a : (Int × (List Int) × (List (List (List Int))) × (List Int) × Unit)) (b : (Int × (List Int) × (List (List (List Int))) × (List Int) × Unit)) (sign : Int) : Option (Int × (List Int) × (List (List (List Int))) × (List Int) × Unit) :=
  both [(.pair (.int .i64) (.pair (.list (.int .i64)) (.pair (.list (.list (.list (.int .i64)))) (.pair (.list (.int .i64)) .unit))))] (
  (slices_Clone a.2.1).bind (fun y' =>
  both [(.pair (.int .i64) (.pair (.list (.int .i64)) (.pair (.list (.list (.list (.int .i64)))) (.pair (.list (.int .i64)) .unit))))] (
  both [(.pair (.int .i64) (.pair (.list (.int .i64)) (.pair (.list (.list (.list (.int .i64)))) (.pair (.list (.int .i64)) .unit))))] (
  (slices_Concat ([a.2.2.2.1, b.2.2.2.1])).bind (fun y'_1 =>
  both [(.pair (.int .i64) (.pair (.list (.int .i64)) (.pair (.list (.list (.list (.int .i64)))) (.pair (.list (.int .i64)) .unit))))] (
  weigh_sum_J2 a b sign a.1 y' y'_1) (
  weigh_sum_J2 a b sign a.1 y' y'_1))) (
  (slices_Concat ([a.2.2.2.1, b.2.2.2.1])).bind (fun y'_4 =>
  weigh_sum_J2 a b sign a.1 y' y'_4))) (
  (slices_Concat ([a.2.2.2.1, b.2.2.2.1])).bind (fun y'_5 =>
  weigh_sum_J2 a b sign a.1 y' y'_5)))) (
  both [(.pair (.int .i64) (.pair (.list (.int .i64)) (.pair (.list (.list (.list (.int .i64)))) (.pair (.list (.int .i64)) .unit))))] (
  both [(.pair (.int .i64) (.pair (.list (.int .i64)) (.pair (.list (.list (.list (.int .i64)))) (.pair (.list (.int .i64)) .unit))))] (
  (slices_Clone a.2.1).bind (fun y'_6 =>
  both [(.pair (.int .i64) (.pair (.list (.int .i64)) (.pair (.list (.list (.list (.int .i64)))) (.pair (.list (.int .i64)) .unit))))] (
  (slices_Concat ([a.2.2.2.1, b.2.2.2.1])).bind (fun y'_7 =>
  both [(.pair (.int .i64) (.pair (.list (.int .i64)) (.pair (.list (.list (.list (.int .i64)))) (.pair (.list (.int .i64)) .unit))))] (
  weigh_sum_J2 a b sign a.1 y'_6 y'_7) (
  weigh_sum_J2 a b sign a.1 y'_6 y'_7))) (
  (slices_Concat ([a.2.2.2.1, b.2.2.2.1])).bind (fun y'_8 =>
  weigh_sum_J2 a b sign a.1 y'_6 y'_8)))) (
  (slices_Clone a.2.1).bind (fun y'_9 =>
  (slices_Concat ([a.2.2.2.1, b.2.2.2.1])).bind (fun y'_10 =>
  weigh_sum_J2 a b sign a.1 y'_9 y'_10)))) (
  both [(.pair (.int .i64) (.pair (.list (.int .i64)) (.pair (.list (.list (.list (.int .i64)))) (.pair (.list (.int .i64)) .unit))))] (
  (slices_Clone a.2.1).bind (fun y'_11 =>
  (slices_Concat ([a.2.2.2.1, b.2.2.2.1])).bind (fun y'_12 =>
  weigh_sum_J2 a b sign a.1 y'_11 y'_12))) (
  (slices_Clone a.2.1).bind (fun y'_13 =>
  (slices_Concat ([a.2.2.2.1, b.2.2.2.1])).bind (fun y'_14 =>
  weigh_sum_J2 a b sign a.1 y'_13 y'_14)))))
theorem weigh_sum_L18_B_ch (r9 : Nat → Int → Int → (List Int) → (List Int) → (List (List (List Int))) → Option (Int × (List Int) × (List (List (List Int))) × (List Int) × Unit)) (r9' : Int → Int → (List Int) → (List Int) → (List (List (List Int))) → Option (Int × (List Int) × (List (List (List Int))) × (List Int) × Unit)) (h_r9 : ∀ a0 a1 a2 a3 a4, ChO (fun κ => r9 κ a0 a1 a2 a3 a4) (r9' a0 a1 a2 a3 a4)) (r18 : Nat → Int → (List (List Int)) → Option (Int × (List Int) × (List (List (List Int))) × (List Int) × Unit)) (r18' : Int → (List (List Int)) → Option (Int × (List Int) × (List (List (List Int))) × (List Int) × Unit)) (h_r18 : ∀ a0 a1, ChO (fun κ => r18 κ a0 a1) (r18' a0 a1)) (a : (Int × (List Int) × (List (List (List Int))) × (List Int) × Unit)) (b : (Int × (List Int) × (List (List (List Int))) × (List Int) × Unit)) (t_1 : Int) (out_2 : Int) (l_4 : (List Int)) (l_5 : (List Int)) (out_3 : (List (List (List Int)))) (t_4 : Int) (t_5 : (List (List Int))) : ChO (fun κ => weigh_sum_L18_B a b t_1 out_2 l_4 l_5 out_3 (r9 κ) (r18 κ) t_4 t_5) (weigh_sum_L18_B a b t_1 out_2 l_4 l_5 out_3 r9' r18' t_4 t_5) := by
  unfold weigh_sum_L18_B
  repeat' with_reducible first | exact ChO.const _ | exact h_r9 _ _ _ _ _ | exact h_r18 _ _ | apply ChO.ite | apply ChO.G | apply ChO.both | (apply ChO.bind; intro _)
theorem weigh_sum_L18_cn (r9 : Int → Int → (List Int) → (List Int) → (List (List (List Int))) → Option (Int × (List Int) × (List (List (List Int))) × (List Int) × Unit)) (a : (Int × (List Int) × (List (List (List Int))) × (List Int) × Unit)) (b : (Int × (List Int) × (List (List (List Int))) × (List Int) × Unit)) (t_1 : Int) (out_2 : Int) (l_4 : (List Int)) (l_5 : (List Int)) (out_3 : (List (List (List Int)))) : Cn (weigh_sum_L18_F a b t_1 out_2 l_4 l_5 out_3 r9) := fun g h hg x => weigh_sum_L18_B_ch (fun _ => r9) r9 (fun _ _ _ _ _ => ChO.const _) (fun κ t_4 t_5 => g κ (t_4, t_5)) (fun t_4 t_5 => h (t_4, t_5)) (fun t_4 t_5 => hg (t_4, t_5)) a b t_1 out_2 l_4 l_5 out_3 x.1 x.2
theorem weigh_sum_L18_eq (r9 : Int → Int → (List Int) → (List Int) → (List (List (List Int))) → Option (Int × (List Int) × (List (List (List Int))) × (List Int) × Unit)) (a : (Int × (List Int) × (List (List (List Int))) × (List Int) × Unit)) (b : (Int × (List Int) × (List (List (List Int))) × (List Int) × Unit)) (t_1 : Int) (out_2 : Int) (l_4 : (List Int)) (l_5 : (List Int)) (out_3 : (List (List (List Int)))) (t_4 : Int) (t_5 : (List (List Int))) : weigh_sum_L18 a b t_1 out_2 l_4 l_5 out_3 r9 t_4 t_5 = weigh_sum_L18_B a b t_1 out_2 l_4 l_5 out_3 r9 (weigh_sum_L18 a b t_1 out_2 l_4 l_5 out_3 r9) t_4 t_5 := LFix_eq (weigh_sum_L18_cn r9 a b t_1 out_2 l_4 l_5 out_3) (t_4, t_5)
theorem weigh_sum_L18_ch (r9 : Nat → Int → Int → (List Int) → (List Int) → (List (List (List Int))) → Option (Int × (List Int) × (List (List (List Int))) × (List Int) × Unit)) (r9' : Int → Int → (List Int) → (List Int) → (List (List (List Int))) → Option (Int × (List Int) × (List (List (List Int))) × (List Int) × Unit)) (h_r9 : ∀ a0 a1 a2 a3 a4, ChO (fun κ => r9 κ a0 a1 a2 a3 a4) (r9' a0 a1 a2 a3 a4)) (a : (Int × (List Int) × (List (List (List Int))) × (List Int) × Unit)) (b : (Int × (List Int) × (List (List (List Int))) × (List Int) × Unit)) (t_1 : Int) (out_2 : Int) (l_4 : (List Int)) (l_5 : (List Int)) (out_3 : (List (List (List Int)))) (t_4 : Int) (t_5 : (List (List Int))) : ChO (fun κ => weigh_sum_L18 a b t_1 out_2 l_4 l_5 out_3 (r9 κ) t_4 t_5) (weigh_sum_L18 a b t_1 out_2 l_4 l_5 out_3 r9' t_4 t_5) := by
  unfold weigh_sum_L18
  exact LFix_ch (fun κ => (weigh_sum_L18_cn (r9 κ) a b t_1 out_2 l_4 l_5 out_3).mono) (weigh_sum_L18_cn r9' a b t_1 out_2 l_4 l_5 out_3).mono (fun g h hg x => weigh_sum_L18_B_ch r9 r9' h_r9 (fun κ t_4 t_5 => g κ (t_4, t_5)) (fun t_4 t_5 => h (t_4, t_5)) (fun t_4 t_5 => hg (t_4, t_5)) a b t_1 out_2 l_4 l_5 out_3 x.1 x.2) _
theorem weigh_sum_L13_B_ch (r9 : Nat → Int → Int → (List Int) → (List Int) → (List (List (List Int))) → Option (Int × (List Int) × (List (List (List Int))) × (List Int) × Unit)) (r9' : Int → Int → (List Int) → (List Int) → (List (List (List Int))) → Option (Int × (List Int) × (List (List (List Int))) × (List Int) × Unit)) (h_r9 : ∀ a0 a1 a2 a3 a4, ChO (fun κ => r9 κ a0 a1 a2 a3 a4) (r9' a0 a1 a2 a3 a4)) (r13 : Nat → Int → (List (List Int)) → Option (Int × (List Int) × (List (List (List Int))) × (List Int) × Unit)) (r13' : Int → (List (List Int)) → Option (Int × (List Int) × (List (List (List Int))) × (List Int) × Unit)) (h_r13 : ∀ a0 a1, ChO (fun κ => r13 κ a0 a1) (r13' a0 a1)) (a : (Int × (List Int) × (List (List (List Int))) × (List Int) × Unit)) (b : (Int × (List Int) × (List (List (List Int))) × (List Int) × Unit)) (t_1 : Int) (out_2 : Int) (l_4 : (List Int)) (l_5 : (List Int)) (out_3 : (List (List (List Int)))) (t_2 : Int) (t_3 : (List (List Int))) : ChO (fun κ => weigh_sum_L13_B a b t_1 out_2 l_4 l_5 out_3 (r9 κ) (r13 κ) t_2 t_3) (weigh_sum_L13_B a b t_1 out_2 l_4 l_5 out_3 r9' r13' t_2 t_3) := by
  unfold weigh_sum_L13_B
  repeat' with_reducible first | exact ChO.const _ | exact h_r9 _ _ _ _ _ | exact h_r13 _ _ | (apply weigh_sum_L18_ch <;> assumption) | apply ChO.ite | apply ChO.G | apply ChO.both | (apply ChO.bind; intro _)
theorem weigh_sum_L13_cn (r9 : Int → Int → (List Int) → (List Int) → (List (List (List Int))) → Option (Int × (List Int) × (List (List (List Int))) × (List Int) × Unit)) (a : (Int × (List Int) × (List (List (List Int))) × (List Int) × Unit)) (b : (Int × (List Int) × (List (List (List Int))) × (List Int) × Unit)) (t_1 : Int) (out_2 : Int) (l_4 : (List Int)) (l_5 : (List Int)) (out_3 : (List (List (List Int)))) : Cn (weigh_sum_L13_F a b t_1 out_2 l_4 l_5 out_3 r9) := fun g h hg x => weigh_sum_L13_B_ch (fun _ => r9) r9 (fun _ _ _ _ _ => ChO.const _) (fun κ t_2 t_3 => g κ (t_2, t_3)) (fun t_2 t_3 => h (t_2, t_3)) (fun t_2 t_3 => hg (t_2, t_3)) a b t_1 out_2 l_4 l_5 out_3 x.1 x.2
theorem weigh_sum_L13_eq (r9 : Int → Int → (List Int) → (List Int) → (List (List (List Int))) → Option (Int × (List Int) × (List (List (List Int))) × (List Int) × Unit)) (a : (Int × (List Int) × (List (List (List Int))) × (List Int) × Unit)) (b : (Int × (List Int) × (List (List (List Int))) × (List Int) × Unit)) (t_1 : Int) (out_2 : Int) (l_4 : (List Int)) (l_5 : (List Int)) (out_3 : (List (List (List Int)))) (t_2 : Int) (t_3 : (List (List Int))) : weigh_sum_L13 a b t_1 out_2 l_4 l_5 out_3 r9 t_2 t_3 = weigh_sum_L13_B a b t_1 out_2 l_4 l_5 out_3 r9 (weigh_sum_L13 a b t_1 out_2 l_4 l_5 out_3 r9) t_2 t_3 := LFix_eq (weigh_sum_L13_cn r9 a b t_1 out_2 l_4 l_5 out_3) (t_2, t_3)
theorem weigh_sum_L13_ch (r9 : Nat → Int → Int → (List Int) → (List Int) → (List (List (List Int))) → Option (Int × (List Int) × (List (List (List Int))) × (List Int) × Unit)) (r9' : Int → Int → (List Int) → (List Int) → (List (List (List Int))) → Option (Int × (List Int) × (List (List (List Int))) × (List Int) × Unit)) (h_r9 : ∀ a0 a1 a2 a3 a4, ChO (fun κ => r9 κ a0 a1 a2 a3 a4) (r9' a0 a1 a2 a3 a4)) (a : (Int × (List Int) × (List (List (List Int))) × (List Int) × Unit)) (b : (Int × (List Int) × (List (List (List Int))) × (List Int) × Unit)) (t_1 : Int) (out_2 : Int) (l_4 : (List Int)) (l_5 : (List Int)) (out_3 : (List (List (List Int)))) (t_2 : Int) (t_3 : (List (List Int))) : ChO (fun κ => weigh_sum_L13 a b t_1 out_2 l_4 l_5 out_3 (r9 κ) t_2 t_3) (weigh_sum_L13 a b t_1 out_2 l_4 l_5 out_3 r9' t_2 t_3) := by
  unfold weigh_sum_L13
  exact LFix_ch (fun κ => (weigh_sum_L13_cn (r9 κ) a b t_1 out_2 l_4 l_5 out_3).mono) (weigh_sum_L13_cn r9' a b t_1 out_2 l_4 l_5 out_3).mono (fun g h hg x => weigh_sum_L13_B_ch r9 r9' h_r9 (fun κ t_2 t_3 => g κ (t_2, t_3)) (fun t_2 t_3 => h (t_2, t_3)) (fun t_2 t_3 => hg (t_2, t_3)) a b t_1 out_2 l_4 l_5 out_3 x.1 x.2) _
theorem weigh_sum_L9_B_ch (r9 : Nat → Int → Int → (List Int) → (List Int) → (List (List (List Int))) → Option (Int × (List Int) × (List (List (List Int))) × (List Int) × Unit)) (r9' : Int → Int → (List Int) → (List Int) → (List (List (List Int))) → Option (Int × (List Int) × (List (List (List Int))) × (List Int) × Unit)) (h_r9 : ∀ a0 a1 a2 a3 a4, ChO (fun κ => r9 κ a0 a1 a2 a3 a4) (r9' a0 a1 a2 a3 a4)) (a : (Int × (List Int) × (List (List (List Int))) × (List Int) × Unit)) (b : (Int × (List Int) × (List (List (List Int))) × (List Int) × Unit)) (t_1 : Int) (out_2 : Int) (l_4 : (List Int)) (l_5 : (List Int)) (out_3 : (List (List (List Int)))) : ChO (fun κ => weigh_sum_L9_B a b (r9 κ) t_1 out_2 l_4 l_5 out_3) (weigh_sum_L9_B a b r9' t_1 out_2 l_4 l_5 out_3) := by
  unfold weigh_sum_L9_B
  repeat' with_reducible first | exact ChO.const _ | exact h_r9 _ _ _ _ _ | (apply weigh_sum_L18_ch <;> assumption) | (apply weigh_sum_L13_ch <;> assumption) | apply ChO.ite | apply ChO.G | apply ChO.both | (apply ChO.bind; intro _)
theorem weigh_sum_L9_cn  (a : (Int × (List Int) × (List (List (List Int))) × (List Int) × Unit)) (b : (Int × (List Int) × (List (List (List Int))) × (List Int) × Unit)) : Cn (weigh_sum_L9_F a b) := fun g h hg x => weigh_sum_L9_B_ch  (fun κ t_1 out_2 l_4 l_5 out_3 => g κ (t_1, out_2, l_4, l_5, out_3)) (fun t_1 out_2 l_4 l_5 out_3 => h (t_1, out_2, l_4, l_5, out_3)) (fun t_1 out_2 l_4 l_5 out_3 => hg (t_1, out_2, l_4, l_5, out_3)) a b x.1 x.2.1 x.2.2.1 x.2.2.2.1 x.2.2.2.2
theorem weigh_sum_L9_eq  (a : (Int × (List Int) × (List (List (List Int))) × (List Int) × Unit)) (b : (Int × (List Int) × (List (List (List Int))) × (List Int) × Unit)) (t_1 : Int) (out_2 : Int) (l_4 : (List Int)) (l_5 : (List Int)) (out_3 : (List (List (List Int)))) : weigh_sum_L9 a b t_1 out_2 l_4 l_5 out_3 = weigh_sum_L9_B a b (weigh_sum_L9 a b) t_1 out_2 l_4 l_5 out_3 := LFix_eq (weigh_sum_L9_cn a b) (t_1, out_2, l_4, l_5, out_3)
theorem weigh_sum_L4_B_ch (r4 : Nat → Int → Int → (List Int) → (List Int) → Option (Int × (List Int) × (List (List (List Int))) × (List Int) × Unit)) (r4' : Int → Int → (List Int) → (List Int) → Option (Int × (List Int) × (List (List (List Int))) × (List Int) × Unit)) (h_r4 : ∀ a0 a1 a2 a3, ChO (fun κ => r4 κ a0 a1 a2 a3) (r4' a0 a1 a2 a3)) (a : (Int × (List Int) × (List (List (List Int))) × (List Int) × Unit)) (b : (Int × (List Int) × (List (List (List Int))) × (List Int) × Unit)) (sign : Int) (t : Int) (out_1 : Int) (l_2 : (List Int)) (l_3 : (List Int)) : ChO (fun κ => weigh_sum_L4_B a b sign (r4 κ) t out_1 l_2 l_3) (weigh_sum_L4_B a b sign r4' t out_1 l_2 l_3) := by
  unfold weigh_sum_L4_B
  repeat' with_reducible first | exact ChO.const _ | exact h_r4 _ _ _ _ | (apply weigh_sum_L18_ch <;> assumption) | (apply weigh_sum_L13_ch <;> assumption) | apply ChO.ite | apply ChO.G | apply ChO.both | (apply ChO.bind; intro _)
theorem weigh_sum_L4_cn  (a : (Int × (List Int) × (List (List (List Int))) × (List Int) × Unit)) (b : (Int × (List Int) × (List (List (List Int))) × (List Int) × Unit)) (sign : Int) : Cn (weigh_sum_L4_F a b sign) := fun g h hg x => weigh_sum_L4_B_ch  (fun κ t out_1 l_2 l_3 => g κ (t, out_1, l_2, l_3)) (fun t out_1 l_2 l_3 => h (t, out_1, l_2, l_3)) (fun t out_1 l_2 l_3 => hg (t, out_1, l_2, l_3)) a b sign x.1 x.2.1 x.2.2.1 x.2.2.2
theorem weigh_sum_L4_eq  (a : (Int × (List Int) × (List (List (List Int))) × (List Int) × Unit)) (b : (Int × (List Int) × (List (List (List Int))) × (List Int) × Unit)) (sign : Int) (t : Int) (out_1 : Int) (l_2 : (List Int)) (l_3 : (List Int)) : weigh_sum_L4 a b sign t out_1 l_2 l_3 = weigh_sum_L4_B a b sign (weigh_sum_L4 a b sign) t out_1 l_2 l_3 := LFix_eq (weigh_sum_L4_cn a b sign) (t, out_1, l_2, l_3)

noncomputable def weigh_Sum (a : (Int × (List Int) × (List (List (List Int))) × (List Int) × Unit)) (b : (Int × (List Int) × (List (List (List Int))) × (List Int) × Unit)) : Option ((Int × (List Int) × (List (List (List Int))) × (List Int) × Unit) × Int) :=
  (weigh_two (a.1, (a.2.1, (a.2.2.1, (a.2.2.2.1, ())))) (b.1, (b.2.1, (b.2.2.1, (b.2.2.2.1, ()))))).bind (fun y' =>
  if (decide (¬ y' = (0 : Int))) = true then
  some (((0 : Int), ([], ([], ([], ())))), y') else
  G (fits ((a.2.1.length : Int) + (b.2.1.length : Int))) (
  if (decide ((8 : Int) < ((a.2.1.length : Int) + (b.2.1.length : Int)))) = true then
  some (((0 : Int), ([], ([], ([], ())))), (1 : Int)) else
  (weigh_sum (a.1, (a.2.1, (a.2.2.1, (a.2.2.2.1, ())))) (b.1, (b.2.1, (b.2.2.1, (b.2.2.2.1, ())))) (1 : Int)).bind (fun y'_1 =>
  some ((y'_1.1, (y'_1.2.1, (y'_1.2.2.1, (y'_1.2.2.2.1, ())))), (0 : Int)))))

noncomputable def weigh_all_L3_B (a : (Int × (List Int) × (List (List (List Int))) × (List Int) × Unit)) (r3 : Int → (List (List Int)) → Option (List (List Int))) (t : Int) (l : (List (List Int))) : Option (List (List Int)) :=
  if (decide (t < (a.2.2.1.length : Int))) = true then
  G (0 ≤ t ∧ t < (a.2.2.1.length : Int)) (
  G (room l (ix a.2.2.1 t) 24) (
  G (fits (t + (1 : Int))) (
  r3 (t + (1 : Int)) (l ++ (ix a.2.2.1 t))))) else
  some l
noncomputable def weigh_all_L3_F (a : (Int × (List Int) × (List (List (List Int))) × (List Int) × Unit)) : (Int × (List (List Int)) → Option (List (List Int))) → Int × (List (List Int)) → Option (List (List Int)) :=
  fun rec x => weigh_all_L3_B a (fun t l => rec (t, l)) x.1 x.2
noncomputable def weigh_all_L3 (a : (Int × (List Int) × (List (List (List Int))) × (List Int) × Unit)) (t : Int) (l : (List (List Int))) : Option (List (List Int)) := LFix (weigh_all_L3_F a ) (t, l)
noncomputable def weigh_all (a : (Int × (List Int) × (List (List (List Int))) × (List Int) × Unit)) : Option (List (List Int)) :=
  weigh_all_L3 a (0 : Int) ([a.2.1, a.2.2.2.1])
theorem weigh_all_L3_B_ch (r3 : Nat → Int → (List (List Int)) → Option (List (List Int))) (r3' : Int → (List (List Int)) → Option (List (List Int))) (h_r3 : ∀ a0 a1, ChO (fun κ => r3 κ a0 a1) (r3' a0 a1)) (a : (Int × (List Int) × (List (List (List Int))) × (List Int) × Unit)) (t : Int) (l : (List (List Int))) : ChO (fun κ => weigh_all_L3_B a (r3 κ) t l) (weigh_all_L3_B a r3' t l) := by
  unfold weigh_all_L3_B
  repeat' with_reducible first | exact ChO.const _ | exact h_r3 _ _ | apply ChO.ite | apply ChO.G | apply ChO.both | (apply ChO.bind; intro _)
theorem weigh_all_L3_cn  (a : (Int × (List Int) × (List (List (List Int))) × (List Int) × Unit)) : Cn (weigh_all_L3_F a) := fun g h hg x => weigh_all_L3_B_ch  (fun κ t l => g κ (t, l)) (fun t l => h (t, l)) (fun t l => hg (t, l)) a x.1 x.2
theorem weigh_all_L3_eq  (a : (Int × (List Int) × (List (List (List Int))) × (List Int) × Unit)) (t : Int) (l : (List (List Int))) : weigh_all_L3 a t l = weigh_all_L3_B a (weigh_all_L3 a) t l := LFix_eq (weigh_all_L3_cn a) (t, l)

noncomputable def weigh_times_L6_B (a : (List Int)) (b : (List Int)) (t : Int) (r3 : (Int → (List Int) → Option (List Int))) (r6 : Int → (List Int) → Option (List Int)) (t_1 : Int) (l_1 : (List Int)) : Option (List Int) :=
  if (decide (t_1 < (b.length : Int))) = true then
  G (0 ≤ t_1 ∧ t_1 < (b.length : Int)) (
  G (fits ((ix a t) * (ix b t_1))) (
  G (room l_1 ([(ix a t) * (ix b t_1)]) 8) (
  G (fits (t_1 + (1 : Int))) (
  r6 (t_1 + (1 : Int)) (l_1 ++ ([(ix a t) * (ix b t_1)])))))) else
  G (fits (t + (1 : Int))) (
  r3 (t + (1 : Int)) l_1)
noncomputable def weigh_times_L6_F (a : (List Int)) (b : (List Int)) (t : Int) (r3 : (Int → (List Int) → Option (List Int))) : (Int × (List Int) → Option (List Int)) → Int × (List Int) → Option (List Int) :=
  fun rec x => weigh_times_L6_B a b t r3 (fun t_1 l_1 => rec (t_1, l_1)) x.1 x.2
noncomputable def weigh_times_L6 (a : (List Int)) (b : (List Int)) (t : Int) (r3 : (Int → (List Int) → Option (List Int))) (t_1 : Int) (l_1 : (List Int)) : Option (List Int) := LFix (weigh_times_L6_F a b t r3 ) (t_1, l_1)
noncomputable def weigh_times_L3_B (a : (List Int)) (b : (List Int)) (r3 : Int → (List Int) → Option (List Int)) (t : Int) (l : (List Int)) : Option (List Int) :=
  if (decide (t < (a.length : Int))) = true then
  G (0 ≤ t ∧ t < (a.length : Int)) (
  weigh_times_L6 a b t r3 (0 : Int) l) else
  some l
noncomputable def weigh_times_L3_F (a : (List Int)) (b : (List Int)) : (Int × (List Int) → Option (List Int)) → Int × (List Int) → Option (List Int) :=
  fun rec x => weigh_times_L3_B a b (fun t l => rec (t, l)) x.1 x.2
noncomputable def weigh_times_L3 (a : (List Int)) (b : (List Int)) (t : Int) (l : (List Int)) : Option (List Int) := LFix (weigh_times_L3_F a b ) (t, l)
noncomputable def weigh_times (a : (List Int)) (b : (List Int)) : Option (List Int) :=
  weigh_times_L3 a b (0 : Int) ([])
theorem weigh_times_L6_B_ch (r3 : Nat → Int → (List Int) → Option (List Int)) (r3' : Int → (List Int) → Option (List Int)) (h_r3 : ∀ a0 a1, ChO (fun κ => r3 κ a0 a1) (r3' a0 a1)) (r6 : Nat → Int → (List Int) → Option (List Int)) (r6' : Int → (List Int) → Option (List Int)) (h_r6 : ∀ a0 a1, ChO (fun κ => r6 κ a0 a1) (r6' a0 a1)) (a : (List Int)) (b : (List Int)) (t : Int) (t_1 : Int) (l_1 : (List Int)) : ChO (fun κ => weigh_times_L6_B a b t (r3 κ) (r6 κ) t_1 l_1) (weigh_times_L6_B a b t r3' r6' t_1 l_1) := by
  unfold weigh_times_L6_B
  repeat' with_reducible first | exact ChO.const _ | exact h_r3 _ _ | exact h_r6 _ _ | apply ChO.ite | apply ChO.G | apply ChO.both | (apply ChO.bind; intro _)
theorem weigh_times_L6_cn (r3 : Int → (List Int) → Option (List Int)) (a : (List Int)) (b : (List Int)) (t : Int) : Cn (weigh_times_L6_F a b t r3) := fun g h hg x => weigh_times_L6_B_ch (fun _ => r3) r3 (fun _ _ => ChO.const _) (fun κ t_1 l_1 => g κ (t_1, l_1)) (fun t_1 l_1 => h (t_1, l_1)) (fun t_1 l_1 => hg (t_1, l_1)) a b t x.1 x.2
theorem weigh_times_L6_eq (r3 : Int → (List Int) → Option (List Int)) (a : (List Int)) (b : (List Int)) (t : Int) (t_1 : Int) (l_1 : (List Int)) : weigh_times_L6 a b t r3 t_1 l_1 = weigh_times_L6_B a b t r3 (weigh_times_L6 a b t r3) t_1 l_1 := LFix_eq (weigh_times_L6_cn r3 a b t) (t_1, l_1)
theorem weigh_times_L6_ch (r3 : Nat → Int → (List Int) → Option (List Int)) (r3' : Int → (List Int) → Option (List Int)) (h_r3 : ∀ a0 a1, ChO (fun κ => r3 κ a0 a1) (r3' a0 a1)) (a : (List Int)) (b : (List Int)) (t : Int) (t_1 : Int) (l_1 : (List Int)) : ChO (fun κ => weigh_times_L6 a b t (r3 κ) t_1 l_1) (weigh_times_L6 a b t r3' t_1 l_1) := by
  unfold weigh_times_L6
  exact LFix_ch (fun κ => (weigh_times_L6_cn (r3 κ) a b t).mono) (weigh_times_L6_cn r3' a b t).mono (fun g h hg x => weigh_times_L6_B_ch r3 r3' h_r3 (fun κ t_1 l_1 => g κ (t_1, l_1)) (fun t_1 l_1 => h (t_1, l_1)) (fun t_1 l_1 => hg (t_1, l_1)) a b t x.1 x.2) _
theorem weigh_times_L3_B_ch (r3 : Nat → Int → (List Int) → Option (List Int)) (r3' : Int → (List Int) → Option (List Int)) (h_r3 : ∀ a0 a1, ChO (fun κ => r3 κ a0 a1) (r3' a0 a1)) (a : (List Int)) (b : (List Int)) (t : Int) (l : (List Int)) : ChO (fun κ => weigh_times_L3_B a b (r3 κ) t l) (weigh_times_L3_B a b r3' t l) := by
  unfold weigh_times_L3_B
  repeat' with_reducible first | exact ChO.const _ | exact h_r3 _ _ | (apply weigh_times_L6_ch <;> assumption) | apply ChO.ite | apply ChO.G | apply ChO.both | (apply ChO.bind; intro _)
theorem weigh_times_L3_cn  (a : (List Int)) (b : (List Int)) : Cn (weigh_times_L3_F a b) := fun g h hg x => weigh_times_L3_B_ch  (fun κ t l => g κ (t, l)) (fun t l => h (t, l)) (fun t l => hg (t, l)) a b x.1 x.2
theorem weigh_times_L3_eq  (a : (List Int)) (b : (List Int)) (t : Int) (l : (List Int)) : weigh_times_L3 a b t l = weigh_times_L3_B a b (weigh_times_L3 a b) t l := LFix_eq (weigh_times_L3_cn a b) (t, l)

noncomputable def weigh_Product_L17_B (a : (Int × (List Int) × (List (List (List Int))) × (List Int) × Unit)) (b : (Int × (List Int) × (List (List (List Int))) × (List Int) × Unit)) (t : Int) (t_1 : Int) (r14 : (Int → (List (List Int)) → Option ((Int × (List Int) × (List (List (List Int))) × (List Int) × Unit) × Int))) (r17 : Int → (List (List Int)) → Option ((Int × (List Int) × (List (List (List Int))) × (List Int) × Unit) × Int)) (t_3 : Int) (t_4 : (List (List Int))) : Option ((Int × (List Int) × (List (List (List Int))) × (List Int) × Unit) × Int) :=
  if (decide (t_3 < ((ix b.2.2.1 t).length : Int))) = true then
  G (0 ≤ t_3 ∧ t_3 < ((ix b.2.2.1 t).length : Int)) (
  (weigh_times (ix (ix a.2.2.1 t) t_1) (ix (ix b.2.2.1 t) t_3)).bind (fun y'_7 =>
  G (room t_4 ([y'_7]) 24) (
  G (fits (t_3 + (1 : Int))) (
  r17 (t_3 + (1 : Int)) (t_4 ++ ([y'_7])))))) else
  G (fits (t_1 + (1 : Int))) (
  r14 (t_1 + (1 : Int)) t_4)
noncomputable def weigh_Product_L17_F (a : (Int × (List Int) × (List (List (List Int))) × (List Int) × Unit)) (b : (Int × (List Int) × (List (List (List Int))) × (List Int) × Unit)) (t : Int) (t_1 : Int) (r14 : (Int → (List (List Int)) → Option ((Int × (List Int) × (List (List (List Int))) × (List Int) × Unit) × Int))) : (Int × (List (List Int)) → Option ((Int × (List Int) × (List (List (List Int))) × (List Int) × Unit) × Int)) → Int × (List (List Int)) → Option ((Int × (List Int) × (List (List (List Int))) × (List Int) × Unit) × Int) :=
  fun rec x => weigh_Product_L17_B a b t t_1 r14 (fun t_3 t_4 => rec (t_3, t_4)) x.1 x.2
noncomputable def weigh_Product_L17 (a : (Int × (List Int) × (List (List (List Int))) × (List Int) × Unit)) (b : (Int × (List Int) × (List (List (List Int))) × (List Int) × Unit)) (t : Int) (t_1 : Int) (r14 : (Int → (List (List Int)) → Option ((Int × (List Int) × (List (List (List Int))) × (List Int) × Unit) × Int))) (t_3 : Int) (t_4 : (List (List Int))) : Option ((Int × (List Int) × (List (List (List Int))) × (List Int) × Unit) × Int) := LFix (weigh_Product_L17_F a b t t_1 r14 ) (t_3, t_4)
noncomputable def weigh_Product_L14_B (a : (Int × (List Int) × (List (List (List Int))) × (List Int) × Unit)) (b : (Int × (List Int) × (List (List (List Int))) × (List Int) × Unit)) (t : Int) (out_3 : Int) (out_4 : (List Int)) (out_5 : (List Int)) (out_6 : (List (List (List Int)))) (r10 : (Int → Int → (List Int) → (List Int) → (List (List (List Int))) → Option ((Int × (List Int) × (List (List (List Int))) × (List Int) × Unit) × Int))) (r14 : Int → (List (List Int)) → Option ((Int × (List Int) × (List (List (List Int))) × (List Int) × Unit) × Int)) (t_1 : Int) (t_2 : (List (List Int))) : Option ((Int × (List Int) × (List (List (List Int))) × (List Int) × Unit) × Int) :=
  if (decide (t_1 < ((ix a.2.2.1 t).length : Int))) = true then
  G (0 ≤ t_1 ∧ t_1 < ((ix a.2.2.1 t).length : Int)) (
  G (0 ≤ t ∧ t < (b.2.2.1.length : Int)) (
  weigh_Product_L17 a b t t_1 r14 (0 : Int) t_2)) else
  G (room out_6 ([t_2]) 24) (
  G (fits (t + (1 : Int))) (
  r10 (t + (1 : Int)) out_3 out_4 out_5 (out_6 ++ ([t_2]))))
noncomputable def weigh_Product_L14_F (a : (Int × (List Int) × (List (List (List Int))) × (List Int) × Unit)) (b : (Int × (List Int) × (List (List (List Int))) × (List Int) × Unit)) (t : Int) (out_3 : Int) (out_4 : (List Int)) (out_5 : (List Int)) (out_6 : (List (List (List Int)))) (r10 : (Int → Int → (List Int) → (List Int) → (List (List (List Int))) → Option ((Int × (List Int) × (List (List (List Int))) × (List Int) × Unit) × Int))) : (Int × (List (List Int)) → Option ((Int × (List Int) × (List (List (List Int))) × (List Int) × Unit) × Int)) → Int × (List (List Int)) → Option ((Int × (List Int) × (List (List (List Int))) × (List Int) × Unit) × Int) :=
  fun rec x => weigh_Product_L14_B a b t out_3 out_4 out_5 out_6 r10 (fun t_1 t_2 => rec (t_1, t_2)) x.1 x.2
noncomputable def weigh_Product_L14 (a : (Int × (List Int) × (List (List (List Int))) × (List Int) × Unit)) (b : (Int × (List Int) × (List (List (List Int))) × (List Int) × Unit)) (t : Int) (out_3 : Int) (out_4 : (List Int)) (out_5 : (List Int)) (out_6 : (List (List (List Int)))) (r10 : (Int → Int → (List Int) → (List Int) → (List (List (List Int))) → Option ((Int × (List Int) × (List (List (List Int))) × (List Int) × Unit) × Int))) (t_1 : Int) (t_2 : (List (List Int))) : Option ((Int × (List Int) × (List (List (List Int))) × (List Int) × Unit) × Int) := LFix (weigh_Product_L14_F a b t out_3 out_4 out_5 out_6 r10 ) (t_1, t_2)
noncomputable def weigh_Product_L10_B (a : (Int × (List Int) × (List (List (List Int))) × (List Int) × Unit)) (b : (Int × (List Int) × (List (List (List Int))) × (List Int) × Unit)) (r10 : Int → Int → (List Int) → (List Int) → (List (List (List Int))) → Option ((Int × (List Int) × (List (List (List Int))) × (List Int) × Unit) × Int)) (t : Int) (out_3 : Int) (out_4 : (List Int)) (out_5 : (List Int)) (out_6 : (List (List (List Int)))) : Option ((Int × (List Int) × (List (List (List Int))) × (List Int) × Unit) × Int) :=
  if (decide (t < a.1)) = true then
  G (0 ≤ t ∧ t < (a.2.2.1.length : Int)) (
  weigh_Product_L14 a b t out_3 out_4 out_5 out_6 r10 (0 : Int) ([])) else
  some ((out_3, (out_4, (out_6, (out_5, ())))), (0 : Int))
noncomputable def weigh_Product_L10_F (a : (Int × (List Int) × (List (List (List Int))) × (List Int) × Unit)) (b : (Int × (List Int) × (List (List (List Int))) × (List Int) × Unit)) : (Int × Int × (List Int) × (List Int) × (List (List (List Int))) → Option ((Int × (List Int) × (List (List (List Int))) × (List Int) × Unit) × Int)) → Int × Int × (List Int) × (List Int) × (List (List (List Int))) → Option ((Int × (List Int) × (List (List (List Int))) × (List Int) × Unit) × Int) :=
  fun rec x => weigh_Product_L10_B a b (fun t out_3 out_4 out_5 out_6 => rec (t, out_3, out_4, out_5, out_6)) x.1 x.2.1 x.2.2.1 x.2.2.2.1 x.2.2.2.2
noncomputable def weigh_Product_L10 (a : (Int × (List Int) × (List (List (List Int))) × (List Int) × Unit)) (b : (Int × (List Int) × (List (List (List Int))) × (List Int) × Unit)) (t : Int) (out_3 : Int) (out_4 : (List Int)) (out_5 : (List Int)) (out_6 : (List (List (List Int)))) : Option ((Int × (List Int) × (List (List (List Int))) × (List Int) × Unit) × Int) := LFix (weigh_Product_L10_F a b ) (t, out_3, out_4, out_5, out_6)
noncomputable def weigh_Product_J8 (a : (Int × (List Int) × (List (List (List Int))) × (List Int) × Unit)) (b : (Int × (List Int) × (List (List (List Int))) × (List Int) × Unit)) (out : Int) (out_1 : (List Int)) (out_2 : (List Int)) : Option ((Int × (List Int) × (List (List (List Int))) × (List Int) × Unit) × Int) :=
  weigh_Product_L10 a b (0 : Int) out out_1 out_2 ([] : List (List (List Int)))
noncomputable def weigh_Product (a : (Int × (List Int) × (List (List (List Int))) × (List Int) × Unit)) (b : (Int × (List Int) × (List (List (List Int))) × (List Int) × Unit)) : Option ((Int × (List Int) × (List (List (List Int))) × (List Int) × Unit) × Int) :=
  (weigh_two (a.1, (a.2.1, (a.2.2.1, (a.2.2.2.1, ())))) (b.1, (b.2.1, (b.2.2.1, (b.2.2.2.1, ()))))).bind (fun y' =>
  if (decide (¬ y' = (0 : Int))) = true then
  some (((0 : Int), ([], ([], ([], ())))), y') else
  G (fits ((a.2.1.length : Int) * (b.2.1.length : Int))) (
  if (decide ((8 : Int) < ((a.2.1.length : Int) * (b.2.1.length : Int)))) = true then
  some (((0 : Int), ([], ([], ([], ())))), (1 : Int)) else
  (weigh_all (a.1, (a.2.1, (a.2.2.1, (a.2.2.2.1, ()))))).bind (fun y'_1 =>
  (weigh_above y'_1 (3 : Int)).bind (fun y'_2 =>
  if y'_2 = true then
  some (((0 : Int), ([], ([], ([], ())))), (2 : Int)) else
  (weigh_all (b.1, (b.2.1, (b.2.2.1, (b.2.2.2.1, ()))))).bind (fun y'_3 =>
  (weigh_above y'_3 (3 : Int)).bind (fun y'_4 =>
  if y'_4 = true then
  some (((0 : Int), ([], ([], ([], ())))), (2 : Int)) else
  both [(.pair (.int .i64) (.pair (.list (.int .i64)) (.pair (.list (.list (.list (.int .i64)))) (.pair (.list (.int .i64)) .unit)))), (.int .i64)] (
  (weigh_times a.2.1 b.2.1).bind (fun y'_5 =>
  both [(.pair (.int .i64) (.pair (.list (.int .i64)) (.pair (.list (.list (.list (.int .i64)))) (.pair (.list (.int .i64)) .unit)))), (.int .i64)] (
  (weigh_times a.2.2.2.1 b.2.2.2.1).bind (fun y'_6 =>
  weigh_Product_J8 a b a.1 y'_5 y'_6)) (
  (weigh_times a.2.2.2.1 b.2.2.2.1).bind (fun y'_8 =>
  weigh_Product_J8 a b a.1 y'_5 y'_8)))) (
  (weigh_times a.2.1 b.2.1).bind (fun y'_9 =>
  (weigh_times a.2.2.2.1 b.2.2.2.1).bind (fun y'_10 =>
  weigh_Product_J8 a b a.1 y'_9 y'_10)))))))))
theorem weigh_Product_L17_B_ch (r14 : Nat → Int → (List (List Int)) → Option ((Int × (List Int) × (List (List (List Int))) × (List Int) × Unit) × Int)) (r14' : Int → (List (List Int)) → Option ((Int × (List Int) × (List (List (List Int))) × (List Int) × Unit) × Int)) (h_r14 : ∀ a0 a1, ChO (fun κ => r14 κ a0 a1) (r14' a0 a1)) (r17 : Nat → Int → (List (List Int)) → Option ((Int × (List Int) × (List (List (List Int))) × (List Int) × Unit) × Int)) (r17' : Int → (List (List Int)) → Option ((Int × (List Int) × (List (List (List Int))) × (List Int) × Unit) × Int)) (h_r17 : ∀ a0 a1, ChO (fun κ => r17 κ a0 a1) (r17' a0 a1)) (a : (Int × (List Int) × (List (List (List Int))) × (List Int) × Unit)) (b : (Int × (List Int) × (List (List (List Int))) × (List Int) × Unit)) (t : Int) (t_1 : Int) (t_3 : Int) (t_4 : (List (List Int))) : ChO (fun κ => weigh_Product_L17_B a b t t_1 (r14 κ) (r17 κ) t_3 t_4) (weigh_Product_L17_B a b t t_1 r14' r17' t_3 t_4) := by
  unfold weigh_Product_L17_B
  repeat' with_reducible first | exact ChO.const _ | exact h_r14 _ _ | exact h_r17 _ _ | apply ChO.ite | apply ChO.G | apply ChO.both | (apply ChO.bind; intro _)
theorem weigh_Product_L17_cn (r14 : Int → (List (List Int)) → Option ((Int × (List Int) × (List (List (List Int))) × (List Int) × Unit) × Int)) (a : (Int × (List Int) × (List (List (List Int))) × (List Int) × Unit)) (b : (Int × (List Int) × (List (List (List Int))) × (List Int) × Unit)) (t : Int) (t_1 : Int) : Cn (weigh_Product_L17_F a b t t_1 r14) := fun g h hg x => weigh_Product_L17_B_ch (fun _ => r14) r14 (fun _ _ => ChO.const _) (fun κ t_3 t_4 => g κ (t_3, t_4)) (fun t_3 t_4 => h (t_3, t_4)) (fun t_3 t_4 => hg (t_3, t_4)) a b t t_1 x.1 x.2
theorem weigh_Product_L17_eq (r14 : Int → (List (List Int)) → Option ((Int × (List Int) × (List (List (List Int))) × (List Int) × Unit) × Int)) (a : (Int × (List Int) × (List (List (List Int))) × (List Int) × Unit)) (b : (Int × (List Int) × (List (List (List Int))) × (List Int) × Unit)) (t : Int) (t_1 : Int) (t_3 : Int) (t_4 : (List (List Int))) : weigh_Product_L17 a b t t_1 r14 t_3 t_4 = weigh_Product_L17_B a b t t_1 r14 (weigh_Product_L17 a b t t_1 r14) t_3 t_4 := LFix_eq (weigh_Product_L17_cn r14 a b t t_1) (t_3, t_4)
theorem weigh_Product_L17_ch (r14 : Nat → Int → (List (List Int)) → Option ((Int × (List Int) × (List (List (List Int))) × (List Int) × Unit) × Int)) (r14' : Int → (List (List Int)) → Option ((Int × (List Int) × (List (List (List Int))) × (List Int) × Unit) × Int)) (h_r14 : ∀ a0 a1, ChO (fun κ => r14 κ a0 a1) (r14' a0 a1)) (a : (Int × (List Int) × (List (List (List Int))) × (List Int) × Unit)) (b : (Int × (List Int) × (List (List (List Int))) × (List Int) × Unit)) (t : Int) (t_1 : Int) (t_3 : Int) (t_4 : (List (List Int))) : ChO (fun κ => weigh_Product_L17 a b t t_1 (r14 κ) t_3 t_4) (weigh_Product_L17 a b t t_1 r14' t_3 t_4) := by
  unfold weigh_Product_L17
  exact LFix_ch (fun κ => (weigh_Product_L17_cn (r14 κ) a b t t_1).mono) (weigh_Product_L17_cn r14' a b t t_1).mono (fun g h hg x => weigh_Product_L17_B_ch r14 r14' h_r14 (fun κ t_3 t_4 => g κ (t_3, t_4)) (fun t_3 t_4 => h (t_3, t_4)) (fun t_3 t_4 => hg (t_3, t_4)) a b t t_1 x.1 x.2) _
theorem weigh_Product_L14_B_ch (r10 : Nat → Int → Int → (List Int) → (List Int) → (List (List (List Int))) → Option ((Int × (List Int) × (List (List (List Int))) × (List Int) × Unit) × Int)) (r10' : Int → Int → (List Int) → (List Int) → (List (List (List Int))) → Option ((Int × (List Int) × (List (List (List Int))) × (List Int) × Unit) × Int)) (h_r10 : ∀ a0 a1 a2 a3 a4, ChO (fun κ => r10 κ a0 a1 a2 a3 a4) (r10' a0 a1 a2 a3 a4)) (r14 : Nat → Int → (List (List Int)) → Option ((Int × (List Int) × (List (List (List Int))) × (List Int) × Unit) × Int)) (r14' : Int → (List (List Int)) → Option ((Int × (List Int) × (List (List (List Int))) × (List Int) × Unit) × Int)) (h_r14 : ∀ a0 a1, ChO (fun κ => r14 κ a0 a1) (r14' a0 a1)) (a : (Int × (List Int) × (List (List (List Int))) × (List Int) × Unit)) (b : (Int × (List Int) × (List (List (List Int))) × (List Int) × Unit)) (t : Int) (out_3 : Int) (out_4 : (List Int)) (out_5 : (List Int)) (out_6 : (List (List (List Int)))) (t_1 : Int) (t_2 : (List (List Int))) : ChO (fun κ => weigh_Product_L14_B a b t out_3 out_4 out_5 out_6 (r10 κ) (r14 κ) t_1 t_2) (weigh_Product_L14_B a b t out_3 out_4 out_5 out_6 r10' r14' t_1 t_2) := by
  unfold weigh_Product_L14_B
  repeat' with_reducible first | exact ChO.const _ | exact h_r10 _ _ _ _ _ | exact h_r14 _ _ | (apply weigh_Product_L17_ch <;> assumption) | apply ChO.ite | apply ChO.G | apply ChO.both | (apply ChO.bind; intro _)
theorem weigh_Product_L14_cn (r10 : Int → Int → (List Int) → (List Int) → (List (List (List Int))) → Option ((Int × (List Int) × (List (List (List Int))) × (List Int) × Unit) × Int)) (a : (Int × (List Int) × (List (List (List Int))) × (List Int) × Unit)) (b : (Int × (List Int) × (List (List (List Int))) × (List Int) × Unit)) (t : Int) (out_3 : Int) (out_4 : (List Int)) (out_5 : (List Int)) (out_6 : (List (List (List Int)))) : Cn (weigh_Product_L14_F a b t out_3 out_4 out_5 out_6 r10) := fun g h hg x => weigh_Product_L14_B_ch (fun _ => r10) r10 (fun _ _ _ _ _ => ChO.const _) (fun κ t_1 t_2 => g κ (t_1, t_2)) (fun t_1 t_2 => h (t_1, t_2)) (fun t_1 t_2 => hg (t_1, t_2)) a b t out_3 out_4 out_5 out_6 x.1 x.2
theorem weigh_Product_L14_eq (r10 : Int → Int → (List Int) → (List Int) → (List (List (List Int))) → Option ((Int × (List Int) × (List (List (List Int))) × (List Int) × Unit) × Int)) (a : (Int × (List Int) × (List (List (List Int))) × (List Int) × Unit)) (b : (Int × (List Int) × (List (List (List Int))) × (List Int) × Unit)) (t : Int) (out_3 : Int) (out_4 : (List Int)) (out_5 : (List Int)) (out_6 : (List (List (List Int)))) (t_1 : Int) (t_2 : (List (List Int))) : weigh_Product_L14 a b t out_3 out_4 out_5 out_6 r10 t_1 t_2 = weigh_Product_L14_B a b t out_3 out_4 out_5 out_6 r10 (weigh_Product_L14 a b t out_3 out_4 out_5 out_6 r10) t_1 t_2 := LFix_eq (weigh_Product_L14_cn r10 a b t out_3 out_4 out_5 out_6) (t_1, t_2)
theorem weigh_Product_L14_ch (r10 : Nat → Int → Int → (List Int) → (List Int) → (List (List (List Int))) → Option ((Int × (List Int) × (List (List (List Int))) × (List Int) × Unit) × Int)) (r10' : Int → Int → (List Int) → (List Int) → (List (List (List Int))) → Option ((Int × (List Int) × (List (List (List Int))) × (List Int) × Unit) × Int)) (h_r10 : ∀ a0 a1 a2 a3 a4, ChO (fun κ => r10 κ a0 a1 a2 a3 a4) (r10' a0 a1 a2 a3 a4)) (a : (Int × (List Int) × (List (List (List Int))) × (List Int) × Unit)) (b : (Int × (List Int) × (List (List (List Int))) × (List Int) × Unit)) (t : Int) (out_3 : Int) (out_4 : (List Int)) (out_5 : (List Int)) (out_6 : (List (List (List Int)))) (t_1 : Int) (t_2 : (List (List Int))) : ChO (fun κ => weigh_Product_L14 a b t out_3 out_4 out_5 out_6 (r10 κ) t_1 t_2) (weigh_Product_L14 a b t out_3 out_4 out_5 out_6 r10' t_1 t_2) := by
  unfold weigh_Product_L14
  exact LFix_ch (fun κ => (weigh_Product_L14_cn (r10 κ) a b t out_3 out_4 out_5 out_6).mono) (weigh_Product_L14_cn r10' a b t out_3 out_4 out_5 out_6).mono (fun g h hg x => weigh_Product_L14_B_ch r10 r10' h_r10 (fun κ t_1 t_2 => g κ (t_1, t_2)) (fun t_1 t_2 => h (t_1, t_2)) (fun t_1 t_2 => hg (t_1, t_2)) a b t out_3 out_4 out_5 out_6 x.1 x.2) _
theorem weigh_Product_L10_B_ch (r10 : Nat → Int → Int → (List Int) → (List Int) → (List (List (List Int))) → Option ((Int × (List Int) × (List (List (List Int))) × (List Int) × Unit) × Int)) (r10' : Int → Int → (List Int) → (List Int) → (List (List (List Int))) → Option ((Int × (List Int) × (List (List (List Int))) × (List Int) × Unit) × Int)) (h_r10 : ∀ a0 a1 a2 a3 a4, ChO (fun κ => r10 κ a0 a1 a2 a3 a4) (r10' a0 a1 a2 a3 a4)) (a : (Int × (List Int) × (List (List (List Int))) × (List Int) × Unit)) (b : (Int × (List Int) × (List (List (List Int))) × (List Int) × Unit)) (t : Int) (out_3 : Int) (out_4 : (List Int)) (out_5 : (List Int)) (out_6 : (List (List (List Int)))) : ChO (fun κ => weigh_Product_L10_B a b (r10 κ) t out_3 out_4 out_5 out_6) (weigh_Product_L10_B a b r10' t out_3 out_4 out_5 out_6) := by
  unfold weigh_Product_L10_B
  repeat' with_reducible first | exact ChO.const _ | exact h_r10 _ _ _ _ _ | (apply weigh_Product_L17_ch <;> assumption) | (apply weigh_Product_L14_ch <;> assumption) | apply ChO.ite | apply ChO.G | apply ChO.both | (apply ChO.bind; intro _)
theorem weigh_Product_L10_cn  (a : (Int × (List Int) × (List (List (List Int))) × (List Int) × Unit)) (b : (Int × (List Int) × (List (List (List Int))) × (List Int) × Unit)) : Cn (weigh_Product_L10_F a b) := fun g h hg x => weigh_Product_L10_B_ch  (fun κ t out_3 out_4 out_5 out_6 => g κ (t, out_3, out_4, out_5, out_6)) (fun t out_3 out_4 out_5 out_6 => h (t, out_3, out_4, out_5, out_6)) (fun t out_3 out_4 out_5 out_6 => hg (t, out_3, out_4, out_5, out_6)) a b x.1 x.2.1 x.2.2.1 x.2.2.2.1 x.2.2.2.2
theorem weigh_Product_L10_eq  (a : (Int × (List Int) × (List (List (List Int))) × (List Int) × Unit)) (b : (Int × (List Int) × (List (List (List Int))) × (List Int) × Unit)) (t : Int) (out_3 : Int) (out_4 : (List Int)) (out_5 : (List Int)) (out_6 : (List (List (List Int)))) : weigh_Product_L10 a b t out_3 out_4 out_5 out_6 = weigh_Product_L10_B a b (weigh_Product_L10 a b) t out_3 out_4 out_5 out_6 := LFix_eq (weigh_Product_L10_cn a b) (t, out_3, out_4, out_5, out_6)

noncomputable def r18_above_L2_B (l : (List Int)) (most : Int) (r2 : Int → Option (Bool)) (i : Int) : Option (Bool) :=
  if (decide (i < (l.length : Int))) = true then
  G (0 ≤ i ∧ i < (l.length : Int)) (
  G (fits (0 - most)) (
  if (decide ((ix l i) < (0 - most))) = true then
  some true else
  G (0 ≤ i ∧ i < (l.length : Int)) (
  if (decide (most < (ix l i))) = true then
  some true else
  G (fits (i + (1 : Int))) (
  r2 (i + (1 : Int)))))) else
  some false
noncomputable def r18_above_L2_F (l : (List Int)) (most : Int) : (Int → Option (Bool)) → Int → Option (Bool) :=
  fun rec x => r18_above_L2_B l most (fun i => rec i) x
noncomputable def r18_above_L2 (l : (List Int)) (most : Int) (i : Int) : Option (Bool) := LFix (r18_above_L2_F l most ) i
noncomputable def r18_above (l : (List Int)) (most : Int) : Option (Bool) :=
  r18_above_L2 l most (0 : Int)
theorem r18_above_L2_B_ch (r2 : Nat → Int → Option (Bool)) (r2' : Int → Option (Bool)) (h_r2 : ∀ a0, ChO (fun κ => r2 κ a0) (r2' a0)) (l : (List Int)) (most : Int) (i : Int) : ChO (fun κ => r18_above_L2_B l most (r2 κ) i) (r18_above_L2_B l most r2' i) := by
  unfold r18_above_L2_B
  repeat' with_reducible first | exact ChO.const _ | exact h_r2 _ | apply ChO.ite | apply ChO.G | apply ChO.both | (apply ChO.bind; intro _)
theorem r18_above_L2_cn  (l : (List Int)) (most : Int) : Cn (r18_above_L2_F l most) := fun g h hg x => r18_above_L2_B_ch  (fun κ i => g κ i) (fun i => h i) (fun i => hg i) l most x
theorem r18_above_L2_eq  (l : (List Int)) (most : Int) (i : Int) : r18_above_L2 l most i = r18_above_L2_B l most (r18_above_L2 l most) i := LFix_eq (r18_above_L2_cn l most) i

noncomputable def r18_Above_L7_B (a : (Int × (List Int) × (List (List (List Int))) × (List Int) × Unit)) (most : Int) (k : Int) (r4 : (Bool → Int → Option (Bool))) (r7 : Bool → Int → Option (Bool)) (one_1 : Bool) (i : Int) : Option (Bool) :=
  G (0 ≤ k ∧ k < (a.2.2.1.length : Int)) (
  if (decide (i < ((ix a.2.2.1 k).length : Int))) = true then
  G (0 ≤ k ∧ k < (a.2.2.1.length : Int)) (
  G (0 ≤ i ∧ i < ((ix a.2.2.1 k).length : Int)) (
  (r18_above (ix (ix a.2.2.1 k) i) most).bind (fun y'_2 =>
  if one_1 = true then
  G (fits (i + (1 : Int))) (
  r7 true (i + (1 : Int))) else
  G (fits (i + (1 : Int))) (
  r7 y'_2 (i + (1 : Int)))))) else
  G (fits (k + (1 : Int))) (
  r4 one_1 (k + (1 : Int))))
noncomputable def r18_Above_L7_F (a : (Int × (List Int) × (List (List (List Int))) × (List Int) × Unit)) (most : Int) (k : Int) (r4 : (Bool → Int → Option (Bool))) : (Bool × Int → Option (Bool)) → Bool × Int → Option (Bool) :=
  fun rec x => r18_Above_L7_B a most k r4 (fun one_1 i => rec (one_1, i)) x.1 x.2
noncomputable def r18_Above_L7 (a : (Int × (List Int) × (List (List (List Int))) × (List Int) × Unit)) (most : Int) (k : Int) (r4 : (Bool → Int → Option (Bool))) (one_1 : Bool) (i : Int) : Option (Bool) := LFix (r18_Above_L7_F a most k r4 ) (one_1, i)
noncomputable def r18_Above_L4_B (a : (Int × (List Int) × (List (List (List Int))) × (List Int) × Unit)) (most : Int) (y'_1 : Bool) (r4 : Bool → Int → Option (Bool)) (one : Bool) (k : Int) : Option (Bool) :=
  if (decide (k < (a.2.2.1.length : Int))) = true then
  r18_Above_L7 a most k r4 one (0 : Int) else
  if one = true then
  some true else
  some y'_1
noncomputable def r18_Above_L4_F (a : (Int × (List Int) × (List (List (List Int))) × (List Int) × Unit)) (most : Int) (y'_1 : Bool) : (Bool × Int → Option (Bool)) → Bool × Int → Option (Bool) :=
  fun rec x => r18_Above_L4_B a most y'_1 (fun one k => rec (one, k)) x.1 x.2
noncomputable def r18_Above_L4 (a : (Int × (List Int) × (List (List (List Int))) × (List Int) × Unit)) (most : Int) (y'_1 : Bool) (one : Bool) (k : Int) : Option (Bool) := LFix (r18_Above_L4_F a most y'_1 ) (one, k)
noncomputable def r18_Above (a : (Int × (List Int) × (List (List (List Int))) × (List Int) × Unit)) (most : Int) : Option (Bool) :=
  (r18_above a.2.1 most).bind (fun y' =>
  (r18_above a.2.2.2.1 most).bind (fun y'_1 =>
  r18_Above_L4 a most y'_1 y' (0 : Int)))
theorem r18_Above_L7_B_ch (r4 : Nat → Bool → Int → Option (Bool)) (r4' : Bool → Int → Option (Bool)) (h_r4 : ∀ a0 a1, ChO (fun κ => r4 κ a0 a1) (r4' a0 a1)) (r7 : Nat → Bool → Int → Option (Bool)) (r7' : Bool → Int → Option (Bool)) (h_r7 : ∀ a0 a1, ChO (fun κ => r7 κ a0 a1) (r7' a0 a1)) (a : (Int × (List Int) × (List (List (List Int))) × (List Int) × Unit)) (most : Int) (k : Int) (one_1 : Bool) (i : Int) : ChO (fun κ => r18_Above_L7_B a most k (r4 κ) (r7 κ) one_1 i) (r18_Above_L7_B a most k r4' r7' one_1 i) := by
  unfold r18_Above_L7_B
  repeat' with_reducible first | exact ChO.const _ | exact h_r4 _ _ | exact h_r7 _ _ | apply ChO.ite | apply ChO.G | apply ChO.both | (apply ChO.bind; intro _)
theorem r18_Above_L7_cn (r4 : Bool → Int → Option (Bool)) (a : (Int × (List Int) × (List (List (List Int))) × (List Int) × Unit)) (most : Int) (k : Int) : Cn (r18_Above_L7_F a most k r4) := fun g h hg x => r18_Above_L7_B_ch (fun _ => r4) r4 (fun _ _ => ChO.const _) (fun κ one_1 i => g κ (one_1, i)) (fun one_1 i => h (one_1, i)) (fun one_1 i => hg (one_1, i)) a most k x.1 x.2
theorem r18_Above_L7_eq (r4 : Bool → Int → Option (Bool)) (a : (Int × (List Int) × (List (List (List Int))) × (List Int) × Unit)) (most : Int) (k : Int) (one_1 : Bool) (i : Int) : r18_Above_L7 a most k r4 one_1 i = r18_Above_L7_B a most k r4 (r18_Above_L7 a most k r4) one_1 i := LFix_eq (r18_Above_L7_cn r4 a most k) (one_1, i)
theorem r18_Above_L7_ch (r4 : Nat → Bool → Int → Option (Bool)) (r4' : Bool → Int → Option (Bool)) (h_r4 : ∀ a0 a1, ChO (fun κ => r4 κ a0 a1) (r4' a0 a1)) (a : (Int × (List Int) × (List (List (List Int))) × (List Int) × Unit)) (most : Int) (k : Int) (one_1 : Bool) (i : Int) : ChO (fun κ => r18_Above_L7 a most k (r4 κ) one_1 i) (r18_Above_L7 a most k r4' one_1 i) := by
  unfold r18_Above_L7
  exact LFix_ch (fun κ => (r18_Above_L7_cn (r4 κ) a most k).mono) (r18_Above_L7_cn r4' a most k).mono (fun g h hg x => r18_Above_L7_B_ch r4 r4' h_r4 (fun κ one_1 i => g κ (one_1, i)) (fun one_1 i => h (one_1, i)) (fun one_1 i => hg (one_1, i)) a most k x.1 x.2) _
theorem r18_Above_L4_B_ch (r4 : Nat → Bool → Int → Option (Bool)) (r4' : Bool → Int → Option (Bool)) (h_r4 : ∀ a0 a1, ChO (fun κ => r4 κ a0 a1) (r4' a0 a1)) (a : (Int × (List Int) × (List (List (List Int))) × (List Int) × Unit)) (most : Int) (y'_1 : Bool) (one : Bool) (k : Int) : ChO (fun κ => r18_Above_L4_B a most y'_1 (r4 κ) one k) (r18_Above_L4_B a most y'_1 r4' one k) := by
  unfold r18_Above_L4_B
  repeat' with_reducible first | exact ChO.const _ | exact h_r4 _ _ | (apply r18_Above_L7_ch <;> assumption) | apply ChO.ite | apply ChO.G | apply ChO.both | (apply ChO.bind; intro _)
theorem r18_Above_L4_cn  (a : (Int × (List Int) × (List (List (List Int))) × (List Int) × Unit)) (most : Int) (y'_1 : Bool) : Cn (r18_Above_L4_F a most y'_1) := fun g h hg x => r18_Above_L4_B_ch  (fun κ one k => g κ (one, k)) (fun one k => h (one, k)) (fun one k => hg (one, k)) a most y'_1 x.1 x.2
theorem r18_Above_L4_eq  (a : (Int × (List Int) × (List (List (List Int))) × (List Int) × Unit)) (most : Int) (y'_1 : Bool) (one : Bool) (k : Int) : r18_Above_L4 a most y'_1 one k = r18_Above_L4_B a most y'_1 (r18_Above_L4 a most y'_1) one k := LFix_eq (r18_Above_L4_cn a most y'_1) (one, k)

noncomputable def r18_Check_L14_B (a : (Int × (List Int) × (List (List (List Int))) × (List Int) × Unit)) (k : Int) (r9 : (Int → Option (Int))) (r14 : Int → Option (Int)) (i : Int) : Option (Int) :=
  if (decide (i < (a.2.1.length : Int))) = true then
  G (0 ≤ k ∧ k < (a.2.2.1.length : Int)) (
  G (0 ≤ i ∧ i < ((ix a.2.2.1 k).length : Int)) (
  if (decide (¬ ((ix (ix a.2.2.1 k) i).length : Int) = (a.2.1.length : Int))) = true then
  some (3 : Int) else
  G (fits (i + (1 : Int))) (
  r14 (i + (1 : Int))))) else
  G (fits (k + (1 : Int))) (
  r9 (k + (1 : Int)))
noncomputable def r18_Check_L14_F (a : (Int × (List Int) × (List (List (List Int))) × (List Int) × Unit)) (k : Int) (r9 : (Int → Option (Int))) : (Int → Option (Int)) → Int → Option (Int) :=
  fun rec x => r18_Check_L14_B a k r9 (fun i => rec i) x
noncomputable def r18_Check_L14 (a : (Int × (List Int) × (List (List (List Int))) × (List Int) × Unit)) (k : Int) (r9 : (Int → Option (Int))) (i : Int) : Option (Int) := LFix (r18_Check_L14_F a k r9 ) i
noncomputable def r18_Check_L9_B (a : (Int × (List Int) × (List (List (List Int))) × (List Int) × Unit)) (r9 : Int → Option (Int)) (k : Int) : Option (Int) :=
  if (decide (k < (a.2.2.1.length : Int))) = true then
  G (0 ≤ k ∧ k < (a.2.2.1.length : Int)) (
  if (decide (¬ ((ix a.2.2.1 k).length : Int) = (a.2.1.length : Int))) = true then
  some (3 : Int) else
  r18_Check_L14 a k r9 (0 : Int)) else
  (r18_Above (a.1, (a.2.1, (a.2.2.1, (a.2.2.2.1, ())))) (9 : Int)).bind (fun y' =>
  if y' = true then
  some (2 : Int) else
  some (0 : Int))
noncomputable def r18_Check_L9_F (a : (Int × (List Int) × (List (List (List Int))) × (List Int) × Unit)) : (Int → Option (Int)) → Int → Option (Int) :=
  fun rec x => r18_Check_L9_B a (fun k => rec k) x
noncomputable def r18_Check_L9 (a : (Int × (List Int) × (List (List (List Int))) × (List Int) × Unit)) (k : Int) : Option (Int) := LFix (r18_Check_L9_F a ) k
noncomputable def r18_Check (a : (Int × (List Int) × (List (List (List Int))) × (List Int) × Unit)) : Option (Int) :=
  if (decide (a.1 < (1 : Int))) = true then
  some (2 : Int) else
  if (decide ((4 : Int) < a.1)) = true then
  some (2 : Int) else
  if (decide ((a.2.1.length : Int) < (1 : Int))) = true then
  some (1 : Int) else
  if (decide ((8 : Int) < (a.2.1.length : Int))) = true then
  some (1 : Int) else
  if (decide (¬ (a.2.2.2.1.length : Int) = (a.2.1.length : Int))) = true then
  some (3 : Int) else
  if (decide (¬ (a.2.2.1.length : Int) = a.1)) = true then
  some (3 : Int) else
  r18_Check_L9 a (0 : Int)
theorem r18_Check_L14_B_ch (r9 : Nat → Int → Option (Int)) (r9' : Int → Option (Int)) (h_r9 : ∀ a0, ChO (fun κ => r9 κ a0) (r9' a0)) (r14 : Nat → Int → Option (Int)) (r14' : Int → Option (Int)) (h_r14 : ∀ a0, ChO (fun κ => r14 κ a0) (r14' a0)) (a : (Int × (List Int) × (List (List (List Int))) × (List Int) × Unit)) (k : Int) (i : Int) : ChO (fun κ => r18_Check_L14_B a k (r9 κ) (r14 κ) i) (r18_Check_L14_B a k r9' r14' i) := by
  unfold r18_Check_L14_B
  repeat' with_reducible first | exact ChO.const _ | exact h_r9 _ | exact h_r14 _ | apply ChO.ite | apply ChO.G | apply ChO.both | (apply ChO.bind; intro _)
theorem r18_Check_L14_cn (r9 : Int → Option (Int)) (a : (Int × (List Int) × (List (List (List Int))) × (List Int) × Unit)) (k : Int) : Cn (r18_Check_L14_F a k r9) := fun g h hg x => r18_Check_L14_B_ch (fun _ => r9) r9 (fun _ => ChO.const _) (fun κ i => g κ i) (fun i => h i) (fun i => hg i) a k x
theorem r18_Check_L14_eq (r9 : Int → Option (Int)) (a : (Int × (List Int) × (List (List (List Int))) × (List Int) × Unit)) (k : Int) (i : Int) : r18_Check_L14 a k r9 i = r18_Check_L14_B a k r9 (r18_Check_L14 a k r9) i := LFix_eq (r18_Check_L14_cn r9 a k) i
theorem r18_Check_L14_ch (r9 : Nat → Int → Option (Int)) (r9' : Int → Option (Int)) (h_r9 : ∀ a0, ChO (fun κ => r9 κ a0) (r9' a0)) (a : (Int × (List Int) × (List (List (List Int))) × (List Int) × Unit)) (k : Int) (i : Int) : ChO (fun κ => r18_Check_L14 a k (r9 κ) i) (r18_Check_L14 a k r9' i) := by
  unfold r18_Check_L14
  exact LFix_ch (fun κ => (r18_Check_L14_cn (r9 κ) a k).mono) (r18_Check_L14_cn r9' a k).mono (fun g h hg x => r18_Check_L14_B_ch r9 r9' h_r9 (fun κ i => g κ i) (fun i => h i) (fun i => hg i) a k x) _
theorem r18_Check_L9_B_ch (r9 : Nat → Int → Option (Int)) (r9' : Int → Option (Int)) (h_r9 : ∀ a0, ChO (fun κ => r9 κ a0) (r9' a0)) (a : (Int × (List Int) × (List (List (List Int))) × (List Int) × Unit)) (k : Int) : ChO (fun κ => r18_Check_L9_B a (r9 κ) k) (r18_Check_L9_B a r9' k) := by
  unfold r18_Check_L9_B
  repeat' with_reducible first | exact ChO.const _ | exact h_r9 _ | (apply r18_Check_L14_ch <;> assumption) | apply ChO.ite | apply ChO.G | apply ChO.both | (apply ChO.bind; intro _)
theorem r18_Check_L9_cn  (a : (Int × (List Int) × (List (List (List Int))) × (List Int) × Unit)) : Cn (r18_Check_L9_F a) := fun g h hg x => r18_Check_L9_B_ch  (fun κ k => g κ k) (fun k => h k) (fun k => hg k) a x
theorem r18_Check_L9_eq  (a : (Int × (List Int) × (List (List (List Int))) × (List Int) × Unit)) (k : Int) : r18_Check_L9 a k = r18_Check_L9_B a (r18_Check_L9 a) k := LFix_eq (r18_Check_L9_cn a) k

noncomputable def law_noWeigh (a : (Int × (List Int) × (List (List (List Int))) × (List Int) × Unit)) : Option (Bool) :=
  if (decide (a.1 = (0 : Int))) = true then
  G (fits ((a.2.1.length : Int) + (a.2.2.1.length : Int))) (
  G (fits (((a.2.1.length : Int) + (a.2.2.1.length : Int)) + (a.2.2.2.1.length : Int))) (
  some (decide ((((a.2.1.length : Int) + (a.2.2.1.length : Int)) + (a.2.2.2.1.length : Int)) = (0 : Int))))) else
  some false

noncomputable def r1_May_L6_B (letters : Int) (w : (List Int)) (r6 : Int → Option (Int)) (i : Int) : Option (Int) :=
  if (decide (i < (w.length : Int))) = true then
  G (0 ≤ i ∧ i < (w.length : Int)) (
  if (decide ((ix w i) < (0 : Int))) = true then
  some (2 : Int) else
  G (0 ≤ i ∧ i < (w.length : Int)) (
  if (decide (letters ≤ (ix w i))) = true then
  some (2 : Int) else
  G (fits (i + (1 : Int))) (
  r6 (i + (1 : Int))))) else
  some (0 : Int)
noncomputable def r1_May_L6_F (letters : Int) (w : (List Int)) : (Int → Option (Int)) → Int → Option (Int) :=
  fun rec x => r1_May_L6_B letters w (fun i => rec i) x
noncomputable def r1_May_L6 (letters : Int) (w : (List Int)) (i : Int) : Option (Int) := LFix (r1_May_L6_F letters w ) i
noncomputable def r1_May (letters : Int) (w : (List Int)) : Option (Int) :=
  if (decide (letters < (1 : Int))) = true then
  some (2 : Int) else
  if (decide ((4 : Int) < letters)) = true then
  some (2 : Int) else
  if (decide ((60 : Int) < (w.length : Int))) = true then
  some (1 : Int) else
  r1_May_L6 letters w (0 : Int)
theorem r1_May_L6_B_ch (r6 : Nat → Int → Option (Int)) (r6' : Int → Option (Int)) (h_r6 : ∀ a0, ChO (fun κ => r6 κ a0) (r6' a0)) (letters : Int) (w : (List Int)) (i : Int) : ChO (fun κ => r1_May_L6_B letters w (r6 κ) i) (r1_May_L6_B letters w r6' i) := by
  unfold r1_May_L6_B
  repeat' with_reducible first | exact ChO.const _ | exact h_r6 _ | apply ChO.ite | apply ChO.G | apply ChO.both | (apply ChO.bind; intro _)
theorem r1_May_L6_cn  (letters : Int) (w : (List Int)) : Cn (r1_May_L6_F letters w) := fun g h hg x => r1_May_L6_B_ch  (fun κ i => g κ i) (fun i => h i) (fun i => hg i) letters w x
theorem r1_May_L6_eq  (letters : Int) (w : (List Int)) (i : Int) : r1_May_L6 letters w i = r1_May_L6_B letters w (r1_May_L6 letters w) i := LFix_eq (r1_May_L6_cn letters w) i

noncomputable def evermorenum_trim_J3 (below : Bool) (l : (List Int)) (n_1 : Int) : Option (Bool × (List Int) × Unit) :=
  if below = true then
  G (0 ≤ (0 : Int) ∧ (0 : Int) ≤ n_1 ∧ n_1 ≤ (l.length : Int)) (
  some (decide ((0 : Int) < n_1), (cut l (0 : Int) n_1, ()))) else
  G (0 ≤ (0 : Int) ∧ (0 : Int) ≤ n_1 ∧ n_1 ≤ (l.length : Int)) (
  some (false, (cut l (0 : Int) n_1, ())))
noncomputable def evermorenum_trim_L2_B (below : Bool) (l : (List Int)) (r2 : Int → Option (Bool × (List Int) × Unit)) (n : Int) : Option (Bool × (List Int) × Unit) :=
  if (decide ((0 : Int) < n)) = true then
  G (fits (n - (1 : Int))) (
  G (0 ≤ n - (1 : Int) ∧ n - (1 : Int) < (l.length : Int)) (
  if (decide ((ix l (n - (1 : Int))) = (0 : Int))) = true then
  G (fits (n - (1 : Int))) (
  r2 (n - (1 : Int))) else
  evermorenum_trim_J3 below l n)) else
  evermorenum_trim_J3 below l n
noncomputable def evermorenum_trim_L2_F (below : Bool) (l : (List Int)) : (Int → Option (Bool × (List Int) × Unit)) → Int → Option (Bool × (List Int) × Unit) :=
  fun rec x => evermorenum_trim_L2_B below l (fun n => rec n) x
noncomputable def evermorenum_trim_L2 (below : Bool) (l : (List Int)) (n : Int) : Option (Bool × (List Int) × Unit) := LFix (evermorenum_trim_L2_F below l ) n
noncomputable def evermorenum_trim (below : Bool) (l : (List Int)) : Option (Bool × (List Int) × Unit) :=
  evermorenum_trim_L2 below l (l.length : Int)
theorem evermorenum_trim_L2_B_ch (r2 : Nat → Int → Option (Bool × (List Int) × Unit)) (r2' : Int → Option (Bool × (List Int) × Unit)) (h_r2 : ∀ a0, ChO (fun κ => r2 κ a0) (r2' a0)) (below : Bool) (l : (List Int)) (n : Int) : ChO (fun κ => evermorenum_trim_L2_B below l (r2 κ) n) (evermorenum_trim_L2_B below l r2' n) := by
  unfold evermorenum_trim_L2_B
  repeat' with_reducible first | exact ChO.const _ | exact h_r2 _ | apply ChO.ite | apply ChO.G | apply ChO.both | (apply ChO.bind; intro _)
theorem evermorenum_trim_L2_cn  (below : Bool) (l : (List Int)) : Cn (evermorenum_trim_L2_F below l) := fun g h hg x => evermorenum_trim_L2_B_ch  (fun κ n => g κ n) (fun n => h n) (fun n => hg n) below l x
theorem evermorenum_trim_L2_eq  (below : Bool) (l : (List Int)) (n : Int) : evermorenum_trim_L2 below l n = evermorenum_trim_L2_B below l (evermorenum_trim_L2 below l) n := LFix_eq (evermorenum_trim_L2_cn below l) n

noncomputable def evermorenum_Of_L5_B (n : Int) (r5 : Int → (List Int) → Option (Bool × (List Int) × Unit)) (n_2 : Int) (l : (List Int)) : Option (Bool × (List Int) × Unit) :=
  if (decide ((0 : Int) < n_2)) = true then
  G ((10000 : Int) ≠ 0) (
  G (room l ([Int.tmod n_2 (10000 : Int)]) 8) (
  G ((10000 : Int) ≠ 0) (
  G (fits (Int.tdiv n_2 (10000 : Int))) (
  r5 (Int.tdiv n_2 (10000 : Int)) (l ++ ([Int.tmod n_2 (10000 : Int)])))))) else
  (evermorenum_trim (decide (n < (0 : Int))) l).bind (fun y' =>
  some (y'.1, (y'.2.1, ())))
noncomputable def evermorenum_Of_L5_F (n : Int) : (Int × (List Int) → Option (Bool × (List Int) × Unit)) → Int × (List Int) → Option (Bool × (List Int) × Unit) :=
  fun rec x => evermorenum_Of_L5_B n (fun n_2 l => rec (n_2, l)) x.1 x.2
noncomputable def evermorenum_Of_L5 (n : Int) (n_2 : Int) (l : (List Int)) : Option (Bool × (List Int) × Unit) := LFix (evermorenum_Of_L5_F n ) (n_2, l)
noncomputable def evermorenum_Of_J3 (n : Int) (n_1 : Int) : Option (Bool × (List Int) × Unit) :=
  evermorenum_Of_L5 n n_1 ([])
noncomputable def evermorenum_Of (n : Int) : Option (Bool × (List Int) × Unit) :=
  if (decide (n < (0 : Int))) = true then
  G (fits (0 - n)) (
  evermorenum_Of_J3 n (0 - n)) else
  evermorenum_Of_J3 n n
theorem evermorenum_Of_L5_B_ch (r5 : Nat → Int → (List Int) → Option (Bool × (List Int) × Unit)) (r5' : Int → (List Int) → Option (Bool × (List Int) × Unit)) (h_r5 : ∀ a0 a1, ChO (fun κ => r5 κ a0 a1) (r5' a0 a1)) (n : Int) (n_2 : Int) (l : (List Int)) : ChO (fun κ => evermorenum_Of_L5_B n (r5 κ) n_2 l) (evermorenum_Of_L5_B n r5' n_2 l) := by
  unfold evermorenum_Of_L5_B
  repeat' with_reducible first | exact ChO.const _ | exact h_r5 _ _ | apply ChO.ite | apply ChO.G | apply ChO.both | (apply ChO.bind; intro _)
theorem evermorenum_Of_L5_cn  (n : Int) : Cn (evermorenum_Of_L5_F n) := fun g h hg x => evermorenum_Of_L5_B_ch  (fun κ n_2 l => g κ (n_2, l)) (fun n_2 l => h (n_2, l)) (fun n_2 l => hg (n_2, l)) n x.1 x.2
theorem evermorenum_Of_L5_eq  (n : Int) (n_2 : Int) (l : (List Int)) : evermorenum_Of_L5 n n_2 l = evermorenum_Of_L5_B n (evermorenum_Of_L5 n) n_2 l := LFix_eq (evermorenum_Of_L5_cn n) (n_2, l)

noncomputable def r18_Wide_L3_B (l : (List Int)) (r3 : Int → (List (Bool × (List Int) × Unit)) → Option (List (Bool × (List Int) × Unit))) (i : Int) (out : (List (Bool × (List Int) × Unit))) : Option (List (Bool × (List Int) × Unit)) :=
  if (decide (i < (l.length : Int))) = true then
  G (0 ≤ i ∧ i < (l.length : Int)) (
  (evermorenum_Of (ix l i)).bind (fun y' =>
  G (room out ([(y'.1, (y'.2.1, ()))]) 32) (
  G (fits (i + (1 : Int))) (
  r3 (i + (1 : Int)) (out ++ ([(y'.1, (y'.2.1, ()))])))))) else
  some out
noncomputable def r18_Wide_L3_F (l : (List Int)) : (Int × (List (Bool × (List Int) × Unit)) → Option (List (Bool × (List Int) × Unit))) → Int × (List (Bool × (List Int) × Unit)) → Option (List (Bool × (List Int) × Unit)) :=
  fun rec x => r18_Wide_L3_B l (fun i out => rec (i, out)) x.1 x.2
noncomputable def r18_Wide_L3 (l : (List Int)) (i : Int) (out : (List (Bool × (List Int) × Unit))) : Option (List (Bool × (List Int) × Unit)) := LFix (r18_Wide_L3_F l ) (i, out)
noncomputable def r18_Wide (l : (List Int)) : Option (List (Bool × (List Int) × Unit)) :=
  r18_Wide_L3 l (0 : Int) ([])
theorem r18_Wide_L3_B_ch (r3 : Nat → Int → (List (Bool × (List Int) × Unit)) → Option (List (Bool × (List Int) × Unit))) (r3' : Int → (List (Bool × (List Int) × Unit)) → Option (List (Bool × (List Int) × Unit))) (h_r3 : ∀ a0 a1, ChO (fun κ => r3 κ a0 a1) (r3' a0 a1)) (l : (List Int)) (i : Int) (out : (List (Bool × (List Int) × Unit))) : ChO (fun κ => r18_Wide_L3_B l (r3 κ) i out) (r18_Wide_L3_B l r3' i out) := by
  unfold r18_Wide_L3_B
  repeat' with_reducible first | exact ChO.const _ | exact h_r3 _ _ | apply ChO.ite | apply ChO.G | apply ChO.both | (apply ChO.bind; intro _)
theorem r18_Wide_L3_cn  (l : (List Int)) : Cn (r18_Wide_L3_F l) := fun g h hg x => r18_Wide_L3_B_ch  (fun κ i out => g κ (i, out)) (fun i out => h (i, out)) (fun i out => hg (i, out)) l x.1 x.2
theorem r18_Wide_L3_eq  (l : (List Int)) (i : Int) (out : (List (Bool × (List Int) × Unit))) : r18_Wide_L3 l i out = r18_Wide_L3_B l (r18_Wide_L3 l) i out := LFix_eq (r18_Wide_L3_cn l) (i, out)

noncomputable def evermorenum_Mul_J11 (i : Int) (j : Int) (r7 : (Int → Int → (List Int) → Option (Bool × (List Int) × Unit))) (out_2 : (List Int)) (n : Int) : Option (Bool × (List Int) × Unit) :=
  G (fits (i + j)) (
  G ((10000 : Int) ≠ 0) (
  G (0 ≤ i + j ∧ i + j < (out_2.length : Int)) (
  G ((i + j).toNat < out_2.length) (
  G ((10000 : Int) ≠ 0) (
  G (fits (Int.tdiv n (10000 : Int))) (
  G (fits (j + (1 : Int))) (
  r7 (Int.tdiv n (10000 : Int)) (j + (1 : Int)) (out_2.set (i + j).toNat (Int.tmod n (10000 : Int))))))))))
noncomputable def evermorenum_Mul_J7 (a : (Bool × (List Int) × Unit)) (b : (Bool × (List Int) × Unit)) (i : Int) (carry : Int) (j : Int) (r7 : (Int → Int → (List Int) → Option (Bool × (List Int) × Unit))) (out_2 : (List Int)) : Option (Bool × (List Int) × Unit) :=
  G (fits (i + j)) (
  G (0 ≤ i + j ∧ i + j < (out_2.length : Int)) (
  G ((i + j).toNat < out_2.length) (
  G (fits ((ix out_2 (i + j)) + carry)) (
  if (decide (j < (b.2.1.length : Int))) = true then
  G (0 ≤ i ∧ i < (a.2.1.length : Int)) (
  G (0 ≤ j ∧ j < (b.2.1.length : Int)) (
  G (fits ((ix a.2.1 i) * (ix b.2.1 j))) (
  G (fits (((ix out_2 (i + j)) + carry) + ((ix a.2.1 i) * (ix b.2.1 j)))) (
  evermorenum_Mul_J11 i j r7 out_2 (((ix out_2 (i + j)) + carry) + ((ix a.2.1 i) * (ix b.2.1 j))))))) else
  evermorenum_Mul_J11 i j r7 out_2 ((ix out_2 (i + j)) + carry)))))
noncomputable def evermorenum_Mul_L7_B (a : (Bool × (List Int) × Unit)) (b : (Bool × (List Int) × Unit)) (i : Int) (r3 : (Int → (List Int) → Option (Bool × (List Int) × Unit))) (r7 : Int → Int → (List Int) → Option (Bool × (List Int) × Unit)) (carry : Int) (j : Int) (out_1 : (List Int)) : Option (Bool × (List Int) × Unit) :=
  if (decide (j < (b.2.1.length : Int))) = true then
  evermorenum_Mul_J7 a b i carry j r7 out_1 else
  if (decide ((0 : Int) < carry)) = true then
  evermorenum_Mul_J7 a b i carry j r7 out_1 else
  G (fits (i + (1 : Int))) (
  r3 (i + (1 : Int)) out_1)
noncomputable def evermorenum_Mul_L7_F (a : (Bool × (List Int) × Unit)) (b : (Bool × (List Int) × Unit)) (i : Int) (r3 : (Int → (List Int) → Option (Bool × (List Int) × Unit))) : (Int × Int × (List Int) → Option (Bool × (List Int) × Unit)) → Int × Int × (List Int) → Option (Bool × (List Int) × Unit) :=
  fun rec x => evermorenum_Mul_L7_B a b i r3 (fun carry j out_1 => rec (carry, j, out_1)) x.1 x.2.1 x.2.2
noncomputable def evermorenum_Mul_L7 (a : (Bool × (List Int) × Unit)) (b : (Bool × (List Int) × Unit)) (i : Int) (r3 : (Int → (List Int) → Option (Bool × (List Int) × Unit))) (carry : Int) (j : Int) (out_1 : (List Int)) : Option (Bool × (List Int) × Unit) := LFix (evermorenum_Mul_L7_F a b i r3 ) (carry, j, out_1)
noncomputable def evermorenum_Mul_L3_B (a : (Bool × (List Int) × Unit)) (b : (Bool × (List Int) × Unit)) (r3 : Int → (List Int) → Option (Bool × (List Int) × Unit)) (i : Int) (out : (List Int)) : Option (Bool × (List Int) × Unit) :=
  if (decide (i < (a.2.1.length : Int))) = true then
  evermorenum_Mul_L7 a b i r3 (0 : Int) (0 : Int) out else
  (evermorenum_trim (decide (¬ a.1 = b.1)) out).bind (fun y' =>
  some (y'.1, (y'.2.1, ())))
noncomputable def evermorenum_Mul_L3_F (a : (Bool × (List Int) × Unit)) (b : (Bool × (List Int) × Unit)) : (Int × (List Int) → Option (Bool × (List Int) × Unit)) → Int × (List Int) → Option (Bool × (List Int) × Unit) :=
  fun rec x => evermorenum_Mul_L3_B a b (fun i out => rec (i, out)) x.1 x.2
noncomputable def evermorenum_Mul_L3 (a : (Bool × (List Int) × Unit)) (b : (Bool × (List Int) × Unit)) (i : Int) (out : (List Int)) : Option (Bool × (List Int) × Unit) := LFix (evermorenum_Mul_L3_F a b ) (i, out)
noncomputable def evermorenum_Mul (a : (Bool × (List Int) × Unit)) (b : (Bool × (List Int) × Unit)) : Option (Bool × (List Int) × Unit) :=
  G (fits ((a.2.1.length : Int) + (b.2.1.length : Int))) (
  G (fits (((a.2.1.length : Int) + (b.2.1.length : Int)) + (1 : Int))) (
  G (mkOK (((a.2.1.length : Int) + (b.2.1.length : Int)) + (1 : Int)) (((a.2.1.length : Int) + (b.2.1.length : Int)) + (1 : Int)) 8) (
  evermorenum_Mul_L3 a b (0 : Int) (List.replicate (((a.2.1.length : Int) + (b.2.1.length : Int)) + (1 : Int)).toNat (0 : Int)))))
theorem evermorenum_Mul_J11_ch (r7 : Nat → Int → Int → (List Int) → Option (Bool × (List Int) × Unit)) (r7' : Int → Int → (List Int) → Option (Bool × (List Int) × Unit)) (h_r7 : ∀ a0 a1 a2, ChO (fun κ => r7 κ a0 a1 a2) (r7' a0 a1 a2)) (i : Int) (j : Int) (out_2 : (List Int)) (n : Int) : ChO (fun κ => evermorenum_Mul_J11 i j (r7 κ) out_2 n) (evermorenum_Mul_J11 i j r7' out_2 n) := by
  unfold evermorenum_Mul_J11
  repeat' with_reducible first | exact ChO.const _ | exact h_r7 _ _ _ | apply ChO.ite | apply ChO.G | apply ChO.both | (apply ChO.bind; intro _)
theorem evermorenum_Mul_J7_ch (r7 : Nat → Int → Int → (List Int) → Option (Bool × (List Int) × Unit)) (r7' : Int → Int → (List Int) → Option (Bool × (List Int) × Unit)) (h_r7 : ∀ a0 a1 a2, ChO (fun κ => r7 κ a0 a1 a2) (r7' a0 a1 a2)) (a : (Bool × (List Int) × Unit)) (b : (Bool × (List Int) × Unit)) (i : Int) (carry : Int) (j : Int) (out_2 : (List Int)) : ChO (fun κ => evermorenum_Mul_J7 a b i carry j (r7 κ) out_2) (evermorenum_Mul_J7 a b i carry j r7' out_2) := by
  unfold evermorenum_Mul_J7
  repeat' with_reducible first | exact ChO.const _ | exact h_r7 _ _ _ | (apply evermorenum_Mul_J11_ch <;> assumption) | apply ChO.ite | apply ChO.G | apply ChO.both | (apply ChO.bind; intro _)
theorem evermorenum_Mul_L7_B_ch (r3 : Nat → Int → (List Int) → Option (Bool × (List Int) × Unit)) (r3' : Int → (List Int) → Option (Bool × (List Int) × Unit)) (h_r3 : ∀ a0 a1, ChO (fun κ => r3 κ a0 a1) (r3' a0 a1)) (r7 : Nat → Int → Int → (List Int) → Option (Bool × (List Int) × Unit)) (r7' : Int → Int → (List Int) → Option (Bool × (List Int) × Unit)) (h_r7 : ∀ a0 a1 a2, ChO (fun κ => r7 κ a0 a1 a2) (r7' a0 a1 a2)) (a : (Bool × (List Int) × Unit)) (b : (Bool × (List Int) × Unit)) (i : Int) (carry : Int) (j : Int) (out_1 : (List Int)) : ChO (fun κ => evermorenum_Mul_L7_B a b i (r3 κ) (r7 κ) carry j out_1) (evermorenum_Mul_L7_B a b i r3' r7' carry j out_1) := by
  unfold evermorenum_Mul_L7_B
  repeat' with_reducible first | exact ChO.const _ | exact h_r3 _ _ | exact h_r7 _ _ _ | (apply evermorenum_Mul_J11_ch <;> assumption) | (apply evermorenum_Mul_J7_ch <;> assumption) | apply ChO.ite | apply ChO.G | apply ChO.both | (apply ChO.bind; intro _)
theorem evermorenum_Mul_L7_cn (r3 : Int → (List Int) → Option (Bool × (List Int) × Unit)) (a : (Bool × (List Int) × Unit)) (b : (Bool × (List Int) × Unit)) (i : Int) : Cn (evermorenum_Mul_L7_F a b i r3) := fun g h hg x => evermorenum_Mul_L7_B_ch (fun _ => r3) r3 (fun _ _ => ChO.const _) (fun κ carry j out_1 => g κ (carry, j, out_1)) (fun carry j out_1 => h (carry, j, out_1)) (fun carry j out_1 => hg (carry, j, out_1)) a b i x.1 x.2.1 x.2.2
theorem evermorenum_Mul_L7_eq (r3 : Int → (List Int) → Option (Bool × (List Int) × Unit)) (a : (Bool × (List Int) × Unit)) (b : (Bool × (List Int) × Unit)) (i : Int) (carry : Int) (j : Int) (out_1 : (List Int)) : evermorenum_Mul_L7 a b i r3 carry j out_1 = evermorenum_Mul_L7_B a b i r3 (evermorenum_Mul_L7 a b i r3) carry j out_1 := LFix_eq (evermorenum_Mul_L7_cn r3 a b i) (carry, j, out_1)
theorem evermorenum_Mul_L7_ch (r3 : Nat → Int → (List Int) → Option (Bool × (List Int) × Unit)) (r3' : Int → (List Int) → Option (Bool × (List Int) × Unit)) (h_r3 : ∀ a0 a1, ChO (fun κ => r3 κ a0 a1) (r3' a0 a1)) (a : (Bool × (List Int) × Unit)) (b : (Bool × (List Int) × Unit)) (i : Int) (carry : Int) (j : Int) (out_1 : (List Int)) : ChO (fun κ => evermorenum_Mul_L7 a b i (r3 κ) carry j out_1) (evermorenum_Mul_L7 a b i r3' carry j out_1) := by
  unfold evermorenum_Mul_L7
  exact LFix_ch (fun κ => (evermorenum_Mul_L7_cn (r3 κ) a b i).mono) (evermorenum_Mul_L7_cn r3' a b i).mono (fun g h hg x => evermorenum_Mul_L7_B_ch r3 r3' h_r3 (fun κ carry j out_1 => g κ (carry, j, out_1)) (fun carry j out_1 => h (carry, j, out_1)) (fun carry j out_1 => hg (carry, j, out_1)) a b i x.1 x.2.1 x.2.2) _
theorem evermorenum_Mul_L3_B_ch (r3 : Nat → Int → (List Int) → Option (Bool × (List Int) × Unit)) (r3' : Int → (List Int) → Option (Bool × (List Int) × Unit)) (h_r3 : ∀ a0 a1, ChO (fun κ => r3 κ a0 a1) (r3' a0 a1)) (a : (Bool × (List Int) × Unit)) (b : (Bool × (List Int) × Unit)) (i : Int) (out : (List Int)) : ChO (fun κ => evermorenum_Mul_L3_B a b (r3 κ) i out) (evermorenum_Mul_L3_B a b r3' i out) := by
  unfold evermorenum_Mul_L3_B
  repeat' with_reducible first | exact ChO.const _ | exact h_r3 _ _ | (apply evermorenum_Mul_J11_ch <;> assumption) | (apply evermorenum_Mul_J7_ch <;> assumption) | (apply evermorenum_Mul_L7_ch <;> assumption) | apply ChO.ite | apply ChO.G | apply ChO.both | (apply ChO.bind; intro _)
theorem evermorenum_Mul_L3_cn  (a : (Bool × (List Int) × Unit)) (b : (Bool × (List Int) × Unit)) : Cn (evermorenum_Mul_L3_F a b) := fun g h hg x => evermorenum_Mul_L3_B_ch  (fun κ i out => g κ (i, out)) (fun i out => h (i, out)) (fun i out => hg (i, out)) a b x.1 x.2
theorem evermorenum_Mul_L3_eq  (a : (Bool × (List Int) × Unit)) (b : (Bool × (List Int) × Unit)) (i : Int) (out : (List Int)) : evermorenum_Mul_L3 a b i out = evermorenum_Mul_L3_B a b (evermorenum_Mul_L3 a b) i out := LFix_eq (evermorenum_Mul_L3_cn a b) (i, out)

noncomputable def evermorenum_plus_J10 (i : Int) (out : (List Int)) (r4 : (Int → Int → (List Int) → Option (List Int))) (n_1 : Int) : Option (List Int) :=
  G ((10000 : Int) ≠ 0) (
  G (room out ([Int.tmod n_1 (10000 : Int)]) 8) (
  G ((10000 : Int) ≠ 0) (
  G (fits (Int.tdiv n_1 (10000 : Int))) (
  G (fits (i + (1 : Int))) (
  r4 (Int.tdiv n_1 (10000 : Int)) (i + (1 : Int)) (out ++ ([Int.tmod n_1 (10000 : Int)])))))))
noncomputable def evermorenum_plus_J8 (b : (List Int)) (i : Int) (out : (List Int)) (r4 : (Int → Int → (List Int) → Option (List Int))) (n : Int) : Option (List Int) :=
  if (decide (i < (b.length : Int))) = true then
  G (0 ≤ i ∧ i < (b.length : Int)) (
  G (fits (n + (ix b i))) (
  evermorenum_plus_J10 i out r4 (n + (ix b i)))) else
  evermorenum_plus_J10 i out r4 n
noncomputable def evermorenum_plus_J4 (a : (List Int)) (b : (List Int)) (carry : Int) (i : Int) (out : (List Int)) (r4 : (Int → Int → (List Int) → Option (List Int))) : Option (List Int) :=
  if (decide (i < (a.length : Int))) = true then
  G (0 ≤ i ∧ i < (a.length : Int)) (
  G (fits (carry + (ix a i))) (
  evermorenum_plus_J8 b i out r4 (carry + (ix a i)))) else
  evermorenum_plus_J8 b i out r4 carry
noncomputable def evermorenum_plus_L4_B (a : (List Int)) (b : (List Int)) (r4 : Int → Int → (List Int) → Option (List Int)) (carry : Int) (i : Int) (out : (List Int)) : Option (List Int) :=
  if (decide (i < (a.length : Int))) = true then
  evermorenum_plus_J4 a b carry i out r4 else
  if (decide (i < (b.length : Int))) = true then
  evermorenum_plus_J4 a b carry i out r4 else
  if (decide ((0 : Int) < carry)) = true then
  evermorenum_plus_J4 a b carry i out r4 else
  some out
noncomputable def evermorenum_plus_L4_F (a : (List Int)) (b : (List Int)) : (Int × Int × (List Int) → Option (List Int)) → Int × Int × (List Int) → Option (List Int) :=
  fun rec x => evermorenum_plus_L4_B a b (fun carry i out => rec (carry, i, out)) x.1 x.2.1 x.2.2
noncomputable def evermorenum_plus_L4 (a : (List Int)) (b : (List Int)) (carry : Int) (i : Int) (out : (List Int)) : Option (List Int) := LFix (evermorenum_plus_L4_F a b ) (carry, i, out)
noncomputable def evermorenum_plus (a : (List Int)) (b : (List Int)) : Option (List Int) :=
  evermorenum_plus_L4 a b (0 : Int) (0 : Int) ([])
theorem evermorenum_plus_J10_ch (r4 : Nat → Int → Int → (List Int) → Option (List Int)) (r4' : Int → Int → (List Int) → Option (List Int)) (h_r4 : ∀ a0 a1 a2, ChO (fun κ => r4 κ a0 a1 a2) (r4' a0 a1 a2)) (i : Int) (out : (List Int)) (n_1 : Int) : ChO (fun κ => evermorenum_plus_J10 i out (r4 κ) n_1) (evermorenum_plus_J10 i out r4' n_1) := by
  unfold evermorenum_plus_J10
  repeat' with_reducible first | exact ChO.const _ | exact h_r4 _ _ _ | apply ChO.ite | apply ChO.G | apply ChO.both | (apply ChO.bind; intro _)
theorem evermorenum_plus_J8_ch (r4 : Nat → Int → Int → (List Int) → Option (List Int)) (r4' : Int → Int → (List Int) → Option (List Int)) (h_r4 : ∀ a0 a1 a2, ChO (fun κ => r4 κ a0 a1 a2) (r4' a0 a1 a2)) (b : (List Int)) (i : Int) (out : (List Int)) (n : Int) : ChO (fun κ => evermorenum_plus_J8 b i out (r4 κ) n) (evermorenum_plus_J8 b i out r4' n) := by
  unfold evermorenum_plus_J8
  repeat' with_reducible first | exact ChO.const _ | exact h_r4 _ _ _ | (apply evermorenum_plus_J10_ch <;> assumption) | apply ChO.ite | apply ChO.G | apply ChO.both | (apply ChO.bind; intro _)
theorem evermorenum_plus_J4_ch (r4 : Nat → Int → Int → (List Int) → Option (List Int)) (r4' : Int → Int → (List Int) → Option (List Int)) (h_r4 : ∀ a0 a1 a2, ChO (fun κ => r4 κ a0 a1 a2) (r4' a0 a1 a2)) (a : (List Int)) (b : (List Int)) (carry : Int) (i : Int) (out : (List Int)) : ChO (fun κ => evermorenum_plus_J4 a b carry i out (r4 κ)) (evermorenum_plus_J4 a b carry i out r4') := by
  unfold evermorenum_plus_J4
  repeat' with_reducible first | exact ChO.const _ | exact h_r4 _ _ _ | (apply evermorenum_plus_J10_ch <;> assumption) | (apply evermorenum_plus_J8_ch <;> assumption) | apply ChO.ite | apply ChO.G | apply ChO.both | (apply ChO.bind; intro _)
theorem evermorenum_plus_L4_B_ch (r4 : Nat → Int → Int → (List Int) → Option (List Int)) (r4' : Int → Int → (List Int) → Option (List Int)) (h_r4 : ∀ a0 a1 a2, ChO (fun κ => r4 κ a0 a1 a2) (r4' a0 a1 a2)) (a : (List Int)) (b : (List Int)) (carry : Int) (i : Int) (out : (List Int)) : ChO (fun κ => evermorenum_plus_L4_B a b (r4 κ) carry i out) (evermorenum_plus_L4_B a b r4' carry i out) := by
  unfold evermorenum_plus_L4_B
  repeat' with_reducible first | exact ChO.const _ | exact h_r4 _ _ _ | (apply evermorenum_plus_J10_ch <;> assumption) | (apply evermorenum_plus_J8_ch <;> assumption) | (apply evermorenum_plus_J4_ch <;> assumption) | apply ChO.ite | apply ChO.G | apply ChO.both | (apply ChO.bind; intro _)
theorem evermorenum_plus_L4_cn  (a : (List Int)) (b : (List Int)) : Cn (evermorenum_plus_L4_F a b) := fun g h hg x => evermorenum_plus_L4_B_ch  (fun κ carry i out => g κ (carry, i, out)) (fun carry i out => h (carry, i, out)) (fun carry i out => hg (carry, i, out)) a b x.1 x.2.1 x.2.2
theorem evermorenum_plus_L4_eq  (a : (List Int)) (b : (List Int)) (carry : Int) (i : Int) (out : (List Int)) : evermorenum_plus_L4 a b carry i out = evermorenum_plus_L4_B a b (evermorenum_plus_L4 a b) carry i out := LFix_eq (evermorenum_plus_L4_cn a b) (carry, i, out)

noncomputable def evermorenum_size_L6_B (a : (List Int)) (b : (List Int)) (r6 : Int → Option (Int)) (i : Int) : Option (Int) :=
  if (decide ((0 : Int) ≤ i)) = true then
  G (0 ≤ i ∧ i < (a.length : Int)) (
  G (0 ≤ i ∧ i < (b.length : Int)) (
  if (decide (¬ (ix a i) = (ix b i))) = true then
  G (0 ≤ i ∧ i < (a.length : Int)) (
  G (0 ≤ i ∧ i < (b.length : Int)) (
  if (decide ((ix a i) < (ix b i))) = true then
  some (-1 : Int) else
  some (1 : Int))) else
  G (fits (i - (1 : Int))) (
  r6 (i - (1 : Int))))) else
  some (0 : Int)
noncomputable def evermorenum_size_L6_F (a : (List Int)) (b : (List Int)) : (Int → Option (Int)) → Int → Option (Int) :=
  fun rec x => evermorenum_size_L6_B a b (fun i => rec i) x
noncomputable def evermorenum_size_L6 (a : (List Int)) (b : (List Int)) (i : Int) : Option (Int) := LFix (evermorenum_size_L6_F a b ) i
noncomputable def evermorenum_size (a : (List Int)) (b : (List Int)) : Option (Int) :=
  if (decide (¬ (a.length : Int) = (b.length : Int))) = true then
  if (decide ((a.length : Int) < (b.length : Int))) = true then
  some (-1 : Int) else
  some (1 : Int) else
  G (fits ((a.length : Int) - (1 : Int))) (
  evermorenum_size_L6 a b ((a.length : Int) - (1 : Int)))
theorem evermorenum_size_L6_B_ch (r6 : Nat → Int → Option (Int)) (r6' : Int → Option (Int)) (h_r6 : ∀ a0, ChO (fun κ => r6 κ a0) (r6' a0)) (a : (List Int)) (b : (List Int)) (i : Int) : ChO (fun κ => evermorenum_size_L6_B a b (r6 κ) i) (evermorenum_size_L6_B a b r6' i) := by
  unfold evermorenum_size_L6_B
  repeat' with_reducible first | exact ChO.const _ | exact h_r6 _ | apply ChO.ite | apply ChO.G | apply ChO.both | (apply ChO.bind; intro _)
theorem evermorenum_size_L6_cn  (a : (List Int)) (b : (List Int)) : Cn (evermorenum_size_L6_F a b) := fun g h hg x => evermorenum_size_L6_B_ch  (fun κ i => g κ i) (fun i => h i) (fun i => hg i) a b x
theorem evermorenum_size_L6_eq  (a : (List Int)) (b : (List Int)) (i : Int) : evermorenum_size_L6 a b i = evermorenum_size_L6_B a b (evermorenum_size_L6 a b) i := LFix_eq (evermorenum_size_L6_cn a b) i

noncomputable def evermorenum_minus_J12 (i : Int) (out : (List Int)) (r4 : (Int → Int → (List Int) → Option (List Int))) (carry_1 : Int) (n_1 : Int) : Option (List Int) :=
  G (room out ([n_1]) 8) (
  G (fits (i + (1 : Int))) (
  r4 carry_1 (i + (1 : Int)) (out ++ ([n_1]))))
noncomputable def evermorenum_minus_J8 (i : Int) (out : (List Int)) (r4 : (Int → Int → (List Int) → Option (List Int))) (n : Int) : Option (List Int) :=
  if (decide (n < (0 : Int))) = true then
  G (fits (n + (10000 : Int))) (
  evermorenum_minus_J12 i out r4 (1 : Int) (n + (10000 : Int))) else
  evermorenum_minus_J12 i out r4 (0 : Int) n
noncomputable def evermorenum_minus_L4_B (a : (List Int)) (b : (List Int)) (r4 : Int → Int → (List Int) → Option (List Int)) (carry : Int) (i : Int) (out : (List Int)) : Option (List Int) :=
  if (decide (i < (a.length : Int))) = true then
  G (0 ≤ i ∧ i < (a.length : Int)) (
  G (fits ((ix a i) - carry)) (
  if (decide (i < (b.length : Int))) = true then
  G (0 ≤ i ∧ i < (b.length : Int)) (
  G (fits (((ix a i) - carry) - (ix b i))) (
  evermorenum_minus_J8 i out r4 (((ix a i) - carry) - (ix b i)))) else
  evermorenum_minus_J8 i out r4 ((ix a i) - carry))) else
  some out
noncomputable def evermorenum_minus_L4_F (a : (List Int)) (b : (List Int)) : (Int × Int × (List Int) → Option (List Int)) → Int × Int × (List Int) → Option (List Int) :=
  fun rec x => evermorenum_minus_L4_B a b (fun carry i out => rec (carry, i, out)) x.1 x.2.1 x.2.2
noncomputable def evermorenum_minus_L4 (a : (List Int)) (b : (List Int)) (carry : Int) (i : Int) (out : (List Int)) : Option (List Int) := LFix (evermorenum_minus_L4_F a b ) (carry, i, out)
noncomputable def evermorenum_minus (a : (List Int)) (b : (List Int)) : Option (List Int) :=
  evermorenum_minus_L4 a b (0 : Int) (0 : Int) ([])
theorem evermorenum_minus_J12_ch (r4 : Nat → Int → Int → (List Int) → Option (List Int)) (r4' : Int → Int → (List Int) → Option (List Int)) (h_r4 : ∀ a0 a1 a2, ChO (fun κ => r4 κ a0 a1 a2) (r4' a0 a1 a2)) (i : Int) (out : (List Int)) (carry_1 : Int) (n_1 : Int) : ChO (fun κ => evermorenum_minus_J12 i out (r4 κ) carry_1 n_1) (evermorenum_minus_J12 i out r4' carry_1 n_1) := by
  unfold evermorenum_minus_J12
  repeat' with_reducible first | exact ChO.const _ | exact h_r4 _ _ _ | apply ChO.ite | apply ChO.G | apply ChO.both | (apply ChO.bind; intro _)
theorem evermorenum_minus_J8_ch (r4 : Nat → Int → Int → (List Int) → Option (List Int)) (r4' : Int → Int → (List Int) → Option (List Int)) (h_r4 : ∀ a0 a1 a2, ChO (fun κ => r4 κ a0 a1 a2) (r4' a0 a1 a2)) (i : Int) (out : (List Int)) (n : Int) : ChO (fun κ => evermorenum_minus_J8 i out (r4 κ) n) (evermorenum_minus_J8 i out r4' n) := by
  unfold evermorenum_minus_J8
  repeat' with_reducible first | exact ChO.const _ | exact h_r4 _ _ _ | (apply evermorenum_minus_J12_ch <;> assumption) | apply ChO.ite | apply ChO.G | apply ChO.both | (apply ChO.bind; intro _)
theorem evermorenum_minus_L4_B_ch (r4 : Nat → Int → Int → (List Int) → Option (List Int)) (r4' : Int → Int → (List Int) → Option (List Int)) (h_r4 : ∀ a0 a1 a2, ChO (fun κ => r4 κ a0 a1 a2) (r4' a0 a1 a2)) (a : (List Int)) (b : (List Int)) (carry : Int) (i : Int) (out : (List Int)) : ChO (fun κ => evermorenum_minus_L4_B a b (r4 κ) carry i out) (evermorenum_minus_L4_B a b r4' carry i out) := by
  unfold evermorenum_minus_L4_B
  repeat' with_reducible first | exact ChO.const _ | exact h_r4 _ _ _ | (apply evermorenum_minus_J12_ch <;> assumption) | (apply evermorenum_minus_J8_ch <;> assumption) | apply ChO.ite | apply ChO.G | apply ChO.both | (apply ChO.bind; intro _)
theorem evermorenum_minus_L4_cn  (a : (List Int)) (b : (List Int)) : Cn (evermorenum_minus_L4_F a b) := fun g h hg x => evermorenum_minus_L4_B_ch  (fun κ carry i out => g κ (carry, i, out)) (fun carry i out => h (carry, i, out)) (fun carry i out => hg (carry, i, out)) a b x.1 x.2.1 x.2.2
theorem evermorenum_minus_L4_eq  (a : (List Int)) (b : (List Int)) (carry : Int) (i : Int) (out : (List Int)) : evermorenum_minus_L4 a b carry i out = evermorenum_minus_L4_B a b (evermorenum_minus_L4 a b) carry i out := LFix_eq (evermorenum_minus_L4_cn a b) (carry, i, out)

noncomputable def evermorenum_Add (a : (Bool × (List Int) × Unit)) (b : (Bool × (List Int) × Unit)) : Option (Bool × (List Int) × Unit) :=
  if (decide (a.1 = b.1)) = true then
  (evermorenum_plus a.2.1 b.2.1).bind (fun y' =>
  (evermorenum_trim a.1 y').bind (fun y'_1 =>
  some (y'_1.1, (y'_1.2.1, ())))) else
  (evermorenum_size a.2.1 b.2.1).bind (fun y'_2 =>
  if (decide (y'_2 < (0 : Int))) = true then
  (evermorenum_minus b.2.1 a.2.1).bind (fun y'_3 =>
  (evermorenum_trim b.1 y'_3).bind (fun y'_4 =>
  some (y'_4.1, (y'_4.2.1, ())))) else
  (evermorenum_minus a.2.1 b.2.1).bind (fun y'_5 =>
  (evermorenum_trim a.1 y'_5).bind (fun y'_6 =>
  some (y'_6.1, (y'_6.2.1, ())))))

noncomputable def r18_Dot_J5 (i : Int) (sum : Bool) (sum_1 : (List Int)) (r3 : (Int → Bool → (List Int) → Option (Bool × (List Int) × Unit))) (x' : Bool) (x'_1 : (List Int)) : Option (Bool × (List Int) × Unit) :=
  (evermorenum_Add (sum, (sum_1, ())) (x', (x'_1, ()))).bind (fun y'_1 =>
  G (fits (i + (1 : Int))) (
  r3 (i + (1 : Int)) y'_1.1 y'_1.2.1))
noncomputable def r18_Dot_L3_B (r : (List (Bool × (List Int) × Unit))) (c : (List (Bool × (List Int) × Unit))) (r3 : Int → Bool → (List Int) → Option (Bool × (List Int) × Unit)) (i : Int) (sum : Bool) (sum_1 : (List Int)) : Option (Bool × (List Int) × Unit) :=
  if (decide (i < (r.length : Int))) = true then
  G (0 ≤ i ∧ i < (r.length : Int)) (
  G (0 ≤ i ∧ i < (c.length : Int)) (
  both [(.pair .bool (.pair (.list (.int .i64)) .unit))] (
  (evermorenum_Mul (ix r i) (ix c i)).bind (fun y' =>
  r18_Dot_J5 i sum sum_1 r3 y'.1 y'.2.1)) (
  (evermorenum_Mul (ix r i) (ix c i)).bind (fun y'_2 =>
  r18_Dot_J5 i sum sum_1 r3 y'_2.1 y'_2.2.1)))) else
  some (sum, (sum_1, ()))
noncomputable def r18_Dot_L3_F (r : (List (Bool × (List Int) × Unit))) (c : (List (Bool × (List Int) × Unit))) : (Int × Bool × (List Int) → Option (Bool × (List Int) × Unit)) → Int × Bool × (List Int) → Option (Bool × (List Int) × Unit) :=
  fun rec x => r18_Dot_L3_B r c (fun i sum sum_1 => rec (i, sum, sum_1)) x.1 x.2.1 x.2.2
noncomputable def r18_Dot_L3 (r : (List (Bool × (List Int) × Unit))) (c : (List (Bool × (List Int) × Unit))) (i : Int) (sum : Bool) (sum_1 : (List Int)) : Option (Bool × (List Int) × Unit) := LFix (r18_Dot_L3_F r c ) (i, sum, sum_1)
noncomputable def r18_Dot (r : (List (Bool × (List Int) × Unit))) (c : (List (Bool × (List Int) × Unit))) : Option (Bool × (List Int) × Unit) :=
  r18_Dot_L3 r c (0 : Int) false ([])
theorem r18_Dot_J5_ch (r3 : Nat → Int → Bool → (List Int) → Option (Bool × (List Int) × Unit)) (r3' : Int → Bool → (List Int) → Option (Bool × (List Int) × Unit)) (h_r3 : ∀ a0 a1 a2, ChO (fun κ => r3 κ a0 a1 a2) (r3' a0 a1 a2)) (i : Int) (sum : Bool) (sum_1 : (List Int)) (x' : Bool) (x'_1 : (List Int)) : ChO (fun κ => r18_Dot_J5 i sum sum_1 (r3 κ) x' x'_1) (r18_Dot_J5 i sum sum_1 r3' x' x'_1) := by
  unfold r18_Dot_J5
  repeat' with_reducible first | exact ChO.const _ | exact h_r3 _ _ _ | apply ChO.ite | apply ChO.G | apply ChO.both | (apply ChO.bind; intro _)
theorem r18_Dot_L3_B_ch (r3 : Nat → Int → Bool → (List Int) → Option (Bool × (List Int) × Unit)) (r3' : Int → Bool → (List Int) → Option (Bool × (List Int) × Unit)) (h_r3 : ∀ a0 a1 a2, ChO (fun κ => r3 κ a0 a1 a2) (r3' a0 a1 a2)) (r : (List (Bool × (List Int) × Unit))) (c : (List (Bool × (List Int) × Unit))) (i : Int) (sum : Bool) (sum_1 : (List Int)) : ChO (fun κ => r18_Dot_L3_B r c (r3 κ) i sum sum_1) (r18_Dot_L3_B r c r3' i sum sum_1) := by
  unfold r18_Dot_L3_B
  repeat' with_reducible first | exact ChO.const _ | exact h_r3 _ _ _ | (apply r18_Dot_J5_ch <;> assumption) | apply ChO.ite | apply ChO.G | apply ChO.both | (apply ChO.bind; intro _)
theorem r18_Dot_L3_cn  (r : (List (Bool × (List Int) × Unit))) (c : (List (Bool × (List Int) × Unit))) : Cn (r18_Dot_L3_F r c) := fun g h hg x => r18_Dot_L3_B_ch  (fun κ i sum sum_1 => g κ (i, sum, sum_1)) (fun i sum sum_1 => h (i, sum, sum_1)) (fun i sum sum_1 => hg (i, sum, sum_1)) r c x.1 x.2.1 x.2.2
theorem r18_Dot_L3_eq  (r : (List (Bool × (List Int) × Unit))) (c : (List (Bool × (List Int) × Unit))) (i : Int) (sum : Bool) (sum_1 : (List Int)) : r18_Dot_L3 r c i sum sum_1 = r18_Dot_L3_B r c (r18_Dot_L3 r c) i sum sum_1 := LFix_eq (r18_Dot_L3_cn r c) (i, sum, sum_1)

noncomputable def r18_By_L7_B (r : (List (Bool × (List Int) × Unit))) (t : (List (List Int))) (k : Int) (out : (List (Bool × (List Int) × Unit))) (r3 : (Int → (List (Bool × (List Int) × Unit)) → Option (List (Bool × (List Int) × Unit)))) (r7 : Int → (List Int) → Option (List (Bool × (List Int) × Unit))) (i : Int) (c : (List Int)) : Option (List (Bool × (List Int) × Unit)) :=
  if (decide (i < (t.length : Int))) = true then
  G (0 ≤ i ∧ i < (t.length : Int)) (
  G (0 ≤ k ∧ k < ((ix t i).length : Int)) (
  G (room c ([ix (ix t i) k]) 8) (
  G (fits (i + (1 : Int))) (
  r7 (i + (1 : Int)) (c ++ ([ix (ix t i) k])))))) else
  (r18_Wide c).bind (fun y' =>
  (r18_Dot r y').bind (fun y'_1 =>
  G (room out ([(y'_1.1, (y'_1.2.1, ()))]) 32) (
  G (fits (k + (1 : Int))) (
  r3 (k + (1 : Int)) (out ++ ([(y'_1.1, (y'_1.2.1, ()))]))))))
noncomputable def r18_By_L7_F (r : (List (Bool × (List Int) × Unit))) (t : (List (List Int))) (k : Int) (out : (List (Bool × (List Int) × Unit))) (r3 : (Int → (List (Bool × (List Int) × Unit)) → Option (List (Bool × (List Int) × Unit)))) : (Int × (List Int) → Option (List (Bool × (List Int) × Unit))) → Int × (List Int) → Option (List (Bool × (List Int) × Unit)) :=
  fun rec x => r18_By_L7_B r t k out r3 (fun i c => rec (i, c)) x.1 x.2
noncomputable def r18_By_L7 (r : (List (Bool × (List Int) × Unit))) (t : (List (List Int))) (k : Int) (out : (List (Bool × (List Int) × Unit))) (r3 : (Int → (List (Bool × (List Int) × Unit)) → Option (List (Bool × (List Int) × Unit)))) (i : Int) (c : (List Int)) : Option (List (Bool × (List Int) × Unit)) := LFix (r18_By_L7_F r t k out r3 ) (i, c)
noncomputable def r18_By_L3_B (r : (List (Bool × (List Int) × Unit))) (t : (List (List Int))) (r3 : Int → (List (Bool × (List Int) × Unit)) → Option (List (Bool × (List Int) × Unit))) (k : Int) (out : (List (Bool × (List Int) × Unit))) : Option (List (Bool × (List Int) × Unit)) :=
  if (decide (k < (t.length : Int))) = true then
  r18_By_L7 r t k out r3 (0 : Int) ([]) else
  some out
noncomputable def r18_By_L3_F (r : (List (Bool × (List Int) × Unit))) (t : (List (List Int))) : (Int × (List (Bool × (List Int) × Unit)) → Option (List (Bool × (List Int) × Unit))) → Int × (List (Bool × (List Int) × Unit)) → Option (List (Bool × (List Int) × Unit)) :=
  fun rec x => r18_By_L3_B r t (fun k out => rec (k, out)) x.1 x.2
noncomputable def r18_By_L3 (r : (List (Bool × (List Int) × Unit))) (t : (List (List Int))) (k : Int) (out : (List (Bool × (List Int) × Unit))) : Option (List (Bool × (List Int) × Unit)) := LFix (r18_By_L3_F r t ) (k, out)
noncomputable def r18_By (r : (List (Bool × (List Int) × Unit))) (t : (List (List Int))) : Option (List (Bool × (List Int) × Unit)) :=
  r18_By_L3 r t (0 : Int) ([])
theorem r18_By_L7_B_ch (r3 : Nat → Int → (List (Bool × (List Int) × Unit)) → Option (List (Bool × (List Int) × Unit))) (r3' : Int → (List (Bool × (List Int) × Unit)) → Option (List (Bool × (List Int) × Unit))) (h_r3 : ∀ a0 a1, ChO (fun κ => r3 κ a0 a1) (r3' a0 a1)) (r7 : Nat → Int → (List Int) → Option (List (Bool × (List Int) × Unit))) (r7' : Int → (List Int) → Option (List (Bool × (List Int) × Unit))) (h_r7 : ∀ a0 a1, ChO (fun κ => r7 κ a0 a1) (r7' a0 a1)) (r : (List (Bool × (List Int) × Unit))) (t : (List (List Int))) (k : Int) (out : (List (Bool × (List Int) × Unit))) (i : Int) (c : (List Int)) : ChO (fun κ => r18_By_L7_B r t k out (r3 κ) (r7 κ) i c) (r18_By_L7_B r t k out r3' r7' i c) := by
  unfold r18_By_L7_B
  repeat' with_reducible first | exact ChO.const _ | exact h_r3 _ _ | exact h_r7 _ _ | apply ChO.ite | apply ChO.G | apply ChO.both | (apply ChO.bind; intro _)
theorem r18_By_L7_cn (r3 : Int → (List (Bool × (List Int) × Unit)) → Option (List (Bool × (List Int) × Unit))) (r : (List (Bool × (List Int) × Unit))) (t : (List (List Int))) (k : Int) (out : (List (Bool × (List Int) × Unit))) : Cn (r18_By_L7_F r t k out r3) := fun g h hg x => r18_By_L7_B_ch (fun _ => r3) r3 (fun _ _ => ChO.const _) (fun κ i c => g κ (i, c)) (fun i c => h (i, c)) (fun i c => hg (i, c)) r t k out x.1 x.2
theorem r18_By_L7_eq (r3 : Int → (List (Bool × (List Int) × Unit)) → Option (List (Bool × (List Int) × Unit))) (r : (List (Bool × (List Int) × Unit))) (t : (List (List Int))) (k : Int) (out : (List (Bool × (List Int) × Unit))) (i : Int) (c : (List Int)) : r18_By_L7 r t k out r3 i c = r18_By_L7_B r t k out r3 (r18_By_L7 r t k out r3) i c := LFix_eq (r18_By_L7_cn r3 r t k out) (i, c)
theorem r18_By_L7_ch (r3 : Nat → Int → (List (Bool × (List Int) × Unit)) → Option (List (Bool × (List Int) × Unit))) (r3' : Int → (List (Bool × (List Int) × Unit)) → Option (List (Bool × (List Int) × Unit))) (h_r3 : ∀ a0 a1, ChO (fun κ => r3 κ a0 a1) (r3' a0 a1)) (r : (List (Bool × (List Int) × Unit))) (t : (List (List Int))) (k : Int) (out : (List (Bool × (List Int) × Unit))) (i : Int) (c : (List Int)) : ChO (fun κ => r18_By_L7 r t k out (r3 κ) i c) (r18_By_L7 r t k out r3' i c) := by
  unfold r18_By_L7
  exact LFix_ch (fun κ => (r18_By_L7_cn (r3 κ) r t k out).mono) (r18_By_L7_cn r3' r t k out).mono (fun g h hg x => r18_By_L7_B_ch r3 r3' h_r3 (fun κ i c => g κ (i, c)) (fun i c => h (i, c)) (fun i c => hg (i, c)) r t k out x.1 x.2) _
theorem r18_By_L3_B_ch (r3 : Nat → Int → (List (Bool × (List Int) × Unit)) → Option (List (Bool × (List Int) × Unit))) (r3' : Int → (List (Bool × (List Int) × Unit)) → Option (List (Bool × (List Int) × Unit))) (h_r3 : ∀ a0 a1, ChO (fun κ => r3 κ a0 a1) (r3' a0 a1)) (r : (List (Bool × (List Int) × Unit))) (t : (List (List Int))) (k : Int) (out : (List (Bool × (List Int) × Unit))) : ChO (fun κ => r18_By_L3_B r t (r3 κ) k out) (r18_By_L3_B r t r3' k out) := by
  unfold r18_By_L3_B
  repeat' with_reducible first | exact ChO.const _ | exact h_r3 _ _ | (apply r18_By_L7_ch <;> assumption) | apply ChO.ite | apply ChO.G | apply ChO.both | (apply ChO.bind; intro _)
theorem r18_By_L3_cn  (r : (List (Bool × (List Int) × Unit))) (t : (List (List Int))) : Cn (r18_By_L3_F r t) := fun g h hg x => r18_By_L3_B_ch  (fun κ k out => g κ (k, out)) (fun k out => h (k, out)) (fun k out => hg (k, out)) r t x.1 x.2
theorem r18_By_L3_eq  (r : (List (Bool × (List Int) × Unit))) (t : (List (List Int))) (k : Int) (out : (List (Bool × (List Int) × Unit))) : r18_By_L3 r t k out = r18_By_L3_B r t (r18_By_L3 r t) k out := LFix_eq (r18_By_L3_cn r t) (k, out)

noncomputable def r18_Row_L3_B (a : (Int × (List Int) × (List (List (List Int))) × (List Int) × Unit)) (w : (List Int)) (r3 : Int → (List (Bool × (List Int) × Unit)) → Option (List (Bool × (List Int) × Unit))) (i : Int) (r : (List (Bool × (List Int) × Unit))) : Option (List (Bool × (List Int) × Unit)) :=
  if (decide (i < (w.length : Int))) = true then
  G (0 ≤ i ∧ i < (w.length : Int)) (
  G (0 ≤ ix w i ∧ ix w i < (a.2.2.1.length : Int)) (
  (r18_By r (ix a.2.2.1 (ix w i))).bind (fun y'_1 =>
  G (fits (i + (1 : Int))) (
  r3 (i + (1 : Int)) y'_1)))) else
  some r
noncomputable def r18_Row_L3_F (a : (Int × (List Int) × (List (List (List Int))) × (List Int) × Unit)) (w : (List Int)) : (Int × (List (Bool × (List Int) × Unit)) → Option (List (Bool × (List Int) × Unit))) → Int × (List (Bool × (List Int) × Unit)) → Option (List (Bool × (List Int) × Unit)) :=
  fun rec x => r18_Row_L3_B a w (fun i r => rec (i, r)) x.1 x.2
noncomputable def r18_Row_L3 (a : (Int × (List Int) × (List (List (List Int))) × (List Int) × Unit)) (w : (List Int)) (i : Int) (r : (List (Bool × (List Int) × Unit))) : Option (List (Bool × (List Int) × Unit)) := LFix (r18_Row_L3_F a w ) (i, r)
noncomputable def r18_Row (a : (Int × (List Int) × (List (List (List Int))) × (List Int) × Unit)) (w : (List Int)) : Option (List (Bool × (List Int) × Unit)) :=
  (r18_Wide a.2.1).bind (fun y' =>
  r18_Row_L3 a w (0 : Int) y')
theorem r18_Row_L3_B_ch (r3 : Nat → Int → (List (Bool × (List Int) × Unit)) → Option (List (Bool × (List Int) × Unit))) (r3' : Int → (List (Bool × (List Int) × Unit)) → Option (List (Bool × (List Int) × Unit))) (h_r3 : ∀ a0 a1, ChO (fun κ => r3 κ a0 a1) (r3' a0 a1)) (a : (Int × (List Int) × (List (List (List Int))) × (List Int) × Unit)) (w : (List Int)) (i : Int) (r : (List (Bool × (List Int) × Unit))) : ChO (fun κ => r18_Row_L3_B a w (r3 κ) i r) (r18_Row_L3_B a w r3' i r) := by
  unfold r18_Row_L3_B
  repeat' with_reducible first | exact ChO.const _ | exact h_r3 _ _ | apply ChO.ite | apply ChO.G | apply ChO.both | (apply ChO.bind; intro _)
theorem r18_Row_L3_cn  (a : (Int × (List Int) × (List (List (List Int))) × (List Int) × Unit)) (w : (List Int)) : Cn (r18_Row_L3_F a w) := fun g h hg x => r18_Row_L3_B_ch  (fun κ i r => g κ (i, r)) (fun i r => h (i, r)) (fun i r => hg (i, r)) a w x.1 x.2
theorem r18_Row_L3_eq  (a : (Int × (List Int) × (List (List (List Int))) × (List Int) × Unit)) (w : (List Int)) (i : Int) (r : (List (Bool × (List Int) × Unit))) : r18_Row_L3 a w i r = r18_Row_L3_B a w (r18_Row_L3 a w) i r := LFix_eq (r18_Row_L3_cn a w) (i, r)

noncomputable def r18_Value (a : (Int × (List Int) × (List (List (List Int))) × (List Int) × Unit)) (w : (List Int)) : Option (Bool × (List Int) × Unit) :=
  (r18_Row (a.1, (a.2.1, (a.2.2.1, (a.2.2.2.1, ())))) w).bind (fun y' =>
  (r18_Wide a.2.2.2.1).bind (fun y'_1 =>
  (r18_Dot y' y'_1).bind (fun y'_2 =>
  some (y'_2.1, (y'_2.2.1, ())))))

noncomputable def evermorenum_Neg (a : (Bool × (List Int) × Unit)) : Option (Bool × (List Int) × Unit) :=
  (evermorenum_trim (!a.1) a.2.1).bind (fun y' =>
  some (y'.1, (y'.2.1, ())))

noncomputable def evermorenum_Sub (a : (Bool × (List Int) × Unit)) (b : (Bool × (List Int) × Unit)) : Option (Bool × (List Int) × Unit) :=
  (evermorenum_Neg (b.1, (b.2.1, ()))).bind (fun y' =>
  (evermorenum_Add (a.1, (a.2.1, ())) (y'.1, (y'.2.1, ()))).bind (fun y'_1 =>
  some (y'_1.1, (y'_1.2.1, ()))))

noncomputable def evermorenum_Sign (a : (Bool × (List Int) × Unit)) : Option (Int) :=
  if (decide ((a.2.1.length : Int) = (0 : Int))) = true then
  some (0 : Int) else
  if a.1 = true then
  some (-1 : Int) else
  some (1 : Int)

noncomputable def evermorenum_Cmp (a : (Bool × (List Int) × Unit)) (b : (Bool × (List Int) × Unit)) : Option (Int) :=
  (evermorenum_Sub (a.1, (a.2.1, ())) (b.1, (b.2.1, ()))).bind (fun y' =>
  (evermorenum_Sign (y'.1, (y'.2.1, ()))).bind (fun y'_1 =>
  some y'_1))

noncomputable def law_weighs (c : (Int × (List Int) × (List (List (List Int))) × (List Int) × Unit)) (a : (Int × (List Int) × (List (List (List Int))) × (List Int) × Unit)) (b : (Int × (List Int) × (List (List (List Int))) × (List Int) × Unit)) (w : (List Int)) (product : Bool) : Option (Bool) :=
  (r18_Value (a.1, (a.2.1, (a.2.2.1, (a.2.2.2.1, ())))) w).bind (fun y' =>
  (r18_Value (b.1, (b.2.1, (b.2.2.1, (b.2.2.2.1, ())))) w).bind (fun y'_1 =>
  (r18_Value (c.1, (c.2.1, (c.2.2.1, (c.2.2.2.1, ())))) w).bind (fun y'_2 =>
  (evermorenum_Add (y'.1, (y'.2.1, ())) (y'_1.1, (y'_1.2.1, ()))).bind (fun y'_3 =>
  if product = true then
  (evermorenum_Mul (y'.1, (y'.2.1, ())) (y'_1.1, (y'_1.2.1, ()))).bind (fun y'_4 =>
  (evermorenum_Cmp (y'_2.1, (y'_2.2.1, ())) (y'_4.1, (y'_4.2.1, ()))).bind (fun y'_5 =>
  some (decide (y'_5 = (0 : Int))))) else
  (evermorenum_Cmp (y'_2.1, (y'_2.2.1, ())) (y'_3.1, (y'_3.2.1, ()))).bind (fun y'_6 =>
  some (decide (y'_6 = (0 : Int))))))))

noncomputable def law_WeighJoins_J35 (a : (Int × (List Int) × (List (List (List Int))) × (List Int) × Unit)) (b : (Int × (List Int) × (List (List (List Int))) × (List Int) × Unit)) (w : (List Int)) (y'_3 : (Int × (List Int) × (List (List (List Int))) × (List Int) × Unit)) (two_1 : Int) (may : Int) : Option (Bool) :=
  if (decide (two_1 = (0 : Int))) = true then
  (r18_Check (y'_3.1, (y'_3.2.1, (y'_3.2.2.1, (y'_3.2.2.2.1, ()))))).bind (fun y'_15 =>
  if (decide (¬ y'_15 = (0 : Int))) = true then
  some false else
  if (decide (¬ y'_3.1 = a.1)) = true then
  some false else
  if (decide (may = (0 : Int))) = true then
  (law_weighs (y'_3.1, (y'_3.2.1, (y'_3.2.2.1, (y'_3.2.2.2.1, ())))) (a.1, (a.2.1, (a.2.2.1, (a.2.2.2.1, ())))) (b.1, (b.2.1, (b.2.2.1, (b.2.2.2.1, ())))) w true).bind (fun y'_16 =>
  some y'_16) else
  some true) else
  some true
noncomputable def law_WeighJoins_J27 (a : (Int × (List Int) × (List (List (List Int))) × (List Int) × Unit)) (b : (Int × (List Int) × (List (List (List Int))) × (List Int) × Unit)) (w : (List Int)) (y' : (Int × (List Int) × (List (List (List Int))) × (List Int) × Unit)) (y'_3 : (Int × (List Int) × (List (List (List Int))) × (List Int) × Unit)) (one_1 : Int) (two_1 : Int) (may : Int) : Option (Bool) :=
  if (decide (one_1 = (0 : Int))) = true then
  (r18_Check (y'.1, (y'.2.1, (y'.2.2.1, (y'.2.2.2.1, ()))))).bind (fun y'_13 =>
  if (decide (¬ y'_13 = (0 : Int))) = true then
  some false else
  if (decide (¬ y'.1 = a.1)) = true then
  some false else
  if (decide (may = (0 : Int))) = true then
  (law_weighs (y'.1, (y'.2.1, (y'.2.2.1, (y'.2.2.2.1, ())))) (a.1, (a.2.1, (a.2.2.1, (a.2.2.2.1, ())))) (b.1, (b.2.1, (b.2.2.1, (b.2.2.2.1, ())))) w false).bind (fun y'_14 =>
  if (!y'_14) = true then
  some false else
  law_WeighJoins_J35 a b w y'_3 two_1 may) else
  law_WeighJoins_J35 a b w y'_3 two_1 may) else
  law_WeighJoins_J35 a b w y'_3 two_1 may
noncomputable def law_WeighJoins_J24 (a : (Int × (List Int) × (List (List (List Int))) × (List Int) × Unit)) (b : (Int × (List Int) × (List (List (List Int))) × (List Int) × Unit)) (w : (List Int)) (y' : (Int × (List Int) × (List (List (List Int))) × (List Int) × Unit)) (y'_3 : (Int × (List Int) × (List (List (List Int))) × (List Int) × Unit)) (no_1 : Int) (one_1 : Int) (two_1 : Int) : Option (Bool) :=
  if (decide (no_1 = (0 : Int))) = true then
  (r1_May a.1 w).bind (fun y'_12 =>
  law_WeighJoins_J27 a b w y' y'_3 one_1 two_1 y'_12) else
  law_WeighJoins_J27 a b w y' y'_3 one_1 two_1 (1 : Int)
noncomputable def law_WeighJoins_J18 (a : (Int × (List Int) × (List (List (List Int))) × (List Int) × Unit)) (b : (Int × (List Int) × (List (List (List Int))) × (List Int) × Unit)) (w : (List Int)) (y' : (Int × (List Int) × (List (List (List Int))) × (List Int) × Unit)) (y'_1 : Int) (y'_3 : (Int × (List Int) × (List (List (List Int))) × (List Int) × Unit)) (y'_4 : Int) (no_1 : Int) (one_1 : Int) (two_1 : Int) : Option (Bool) :=
  if (decide (¬ y'_1 = one_1)) = true then
  some false else
  if (decide (¬ y'_4 = two_1)) = true then
  some false else
  (law_noWeigh (y'.1, (y'.2.1, (y'.2.2.1, (y'.2.2.2.1, ()))))).bind (fun y'_10 =>
  (law_noWeigh (y'_3.1, (y'_3.2.1, (y'_3.2.2.1, (y'_3.2.2.2.1, ()))))).bind (fun y'_11 =>
  if (decide (¬ one_1 = (0 : Int))) = true then
  if (!y'_10) = true then
  some false else
  if (decide (¬ two_1 = (0 : Int))) = true then
  if (!y'_11) = true then
  some false else
  law_WeighJoins_J24 a b w y' y'_3 no_1 one_1 two_1 else
  law_WeighJoins_J24 a b w y' y'_3 no_1 one_1 two_1 else
  if (decide (¬ two_1 = (0 : Int))) = true then
  if (!y'_11) = true then
  some false else
  law_WeighJoins_J24 a b w y' y'_3 no_1 one_1 two_1 else
  law_WeighJoins_J24 a b w y' y'_3 no_1 one_1 two_1))
noncomputable def law_WeighJoins_J16 (a : (Int × (List Int) × (List (List (List Int))) × (List Int) × Unit)) (b : (Int × (List Int) × (List (List (List Int))) × (List Int) × Unit)) (w : (List Int)) (y' : (Int × (List Int) × (List (List (List Int))) × (List Int) × Unit)) (y'_1 : Int) (y'_3 : (Int × (List Int) × (List (List (List Int))) × (List Int) × Unit)) (y'_4 : Int) (no_1 : Int) (one : Int) (two : Int) : Option (Bool) :=
  G (fits ((a.2.1.length : Int) * (b.2.1.length : Int))) (
  if (decide ((8 : Int) < ((a.2.1.length : Int) * (b.2.1.length : Int)))) = true then
  law_WeighJoins_J18 a b w y' y'_1 y'_3 y'_4 no_1 one (1 : Int) else
  law_WeighJoins_J18 a b w y' y'_1 y'_3 y'_4 no_1 one two)
noncomputable def law_WeighJoins_J15 (a : (Int × (List Int) × (List (List (List Int))) × (List Int) × Unit)) (b : (Int × (List Int) × (List (List (List Int))) × (List Int) × Unit)) (w : (List Int)) (y' : (Int × (List Int) × (List (List (List Int))) × (List Int) × Unit)) (y'_1 : Int) (y'_3 : (Int × (List Int) × (List (List (List Int))) × (List Int) × Unit)) (y'_4 : Int) (no_1 : Int) (one : Int) (t_1 : Bool) : Option (Bool) :=
  if t_1 = true then
  law_WeighJoins_J16 a b w y' y'_1 y'_3 y'_4 no_1 one (2 : Int) else
  law_WeighJoins_J16 a b w y' y'_1 y'_3 y'_4 no_1 one no_1
noncomputable def law_WeighJoins_J12 (a : (Int × (List Int) × (List (List (List Int))) × (List Int) × Unit)) (b : (Int × (List Int) × (List (List (List Int))) × (List Int) × Unit)) (w : (List Int)) (y' : (Int × (List Int) × (List (List (List Int))) × (List Int) × Unit)) (y'_1 : Int) (y'_3 : (Int × (List Int) × (List (List (List Int))) × (List Int) × Unit)) (y'_4 : Int) (no_1 : Int) (one : Int) : Option (Bool) :=
  (r18_Above (a.1, (a.2.1, (a.2.2.1, (a.2.2.2.1, ())))) (3 : Int)).bind (fun y'_8 =>
  (r18_Above (b.1, (b.2.1, (b.2.2.1, (b.2.2.2.1, ())))) (3 : Int)).bind (fun y'_9 =>
  if y'_8 = true then
  law_WeighJoins_J15 a b w y' y'_1 y'_3 y'_4 no_1 one true else
  law_WeighJoins_J15 a b w y' y'_1 y'_3 y'_4 no_1 one y'_9))
noncomputable def law_WeighJoins_J7 (a : (Int × (List Int) × (List (List (List Int))) × (List Int) × Unit)) (b : (Int × (List Int) × (List (List (List Int))) × (List Int) × Unit)) (w : (List Int)) (y' : (Int × (List Int) × (List (List (List Int))) × (List Int) × Unit)) (y'_1 : Int) (y'_3 : (Int × (List Int) × (List (List (List Int))) × (List Int) × Unit)) (y'_4 : Int) (no_1 : Int) : Option (Bool) :=
  if (decide (no_1 = (0 : Int))) = true then
  G (fits ((a.2.1.length : Int) + (b.2.1.length : Int))) (
  if (decide ((8 : Int) < ((a.2.1.length : Int) + (b.2.1.length : Int)))) = true then
  law_WeighJoins_J12 a b w y' y'_1 y'_3 y'_4 no_1 (1 : Int) else
  law_WeighJoins_J12 a b w y' y'_1 y'_3 y'_4 no_1 no_1) else
  law_WeighJoins_J18 a b w y' y'_1 y'_3 y'_4 no_1 no_1 no_1
noncomputable def law_WeighJoins_J6 (a : (Int × (List Int) × (List (List (List Int))) × (List Int) × Unit)) (b : (Int × (List Int) × (List (List (List Int))) × (List Int) × Unit)) (w : (List Int)) (y' : (Int × (List Int) × (List (List (List Int))) × (List Int) × Unit)) (y'_1 : Int) (y'_3 : (Int × (List Int) × (List (List (List Int))) × (List Int) × Unit)) (y'_4 : Int) (no : Int) (t : Bool) : Option (Bool) :=
  if t = true then
  law_WeighJoins_J7 a b w y' y'_1 y'_3 y'_4 (3 : Int) else
  law_WeighJoins_J7 a b w y' y'_1 y'_3 y'_4 no
noncomputable def law_WeighJoins_J5 (a : (Int × (List Int) × (List (List (List Int))) × (List Int) × Unit)) (b : (Int × (List Int) × (List (List (List Int))) × (List Int) × Unit)) (w : (List Int)) (y' : (Int × (List Int) × (List (List (List Int))) × (List Int) × Unit)) (y'_1 : Int) (y'_3 : (Int × (List Int) × (List (List (List Int))) × (List Int) × Unit)) (y'_4 : Int) (no : Int) : Option (Bool) :=
  if (decide (no = (0 : Int))) = true then
  law_WeighJoins_J6 a b w y' y'_1 y'_3 y'_4 no (decide (¬ a.1 = b.1)) else
  law_WeighJoins_J6 a b w y' y'_1 y'_3 y'_4 no false
noncomputable def law_WeighJoins (a : (Int × (List Int) × (List (List (List Int))) × (List Int) × Unit)) (b : (Int × (List Int) × (List (List (List Int))) × (List Int) × Unit)) (w : (List Int)) : Option (Bool) :=
  (weigh_Sum (a.1, (a.2.1, (a.2.2.1, (a.2.2.2.1, ())))) (b.1, (b.2.1, (b.2.2.1, (b.2.2.2.1, ()))))).bind (fun y'_18 =>
  (weigh_Product (a.1, (a.2.1, (a.2.2.1, (a.2.2.2.1, ())))) (b.1, (b.2.1, (b.2.2.1, (b.2.2.2.1, ()))))).bind (fun y'_17 =>
  (r18_Check (a.1, (a.2.1, (a.2.2.1, (a.2.2.2.1, ()))))).bind (fun y'_6 =>
  if (decide (y'_6 = (0 : Int))) = true then
  (r18_Check (b.1, (b.2.1, (b.2.2.1, (b.2.2.2.1, ()))))).bind (fun y'_7 =>
  law_WeighJoins_J5 a b w y'_18.1 y'_18.2 y'_17.1 y'_17.2 y'_7) else
  law_WeighJoins_J5 a b w y'_18.1 y'_18.2 y'_17.1 y'_17.2 y'_6)))

end Go.Proofs.Ytgojjheadndbiaa.weighJoinsW
