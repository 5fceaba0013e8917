/- What the functions that 'RewriteForks' reaches compute: plain functions. -/
import Derived.Test.YtdcnnmjodpecaaaEv16n21
set_option maxHeartbeats 1000000
set_option maxRecDepth 20000
set_option linter.unusedSimpArgs false
set_option linter.unusedVariables false
set_option linter.unusedSectionVars false
namespace Go.Proofs.Ytdcnnmjodpecaaa.rewriteForksW
open Go Go.Ab
noncomputable def rewrite_Check_1 (a : Int) (t : Int) : Option (Bool) :=
  if (decide (a < (0 : Int))) = true then
  some true else
  some (decide (t ≤ a))

noncomputable def slices_IndexFunc_L2_B (s : (List Int)) (c : Int) (r2 : Int → Option (Int)) (t : Int) : Option (Int) :=
  if (decide (t < (s.length : Int))) = true then
  G (0 ≤ t ∧ t < (s.length : Int)) (
  (rewrite_Check_1 (ix s t) c).bind (fun y' =>
  if y' = true then
  some t else
  G (fits (t + (1 : Int))) (
  r2 (t + (1 : Int))))) else
  some (-1 : Int)
noncomputable def slices_IndexFunc_L2_F (s : (List Int)) (c : Int) : (Int → Option (Int)) → Int → Option (Int) :=
  fun rec x => slices_IndexFunc_L2_B s c (fun t => rec t) x
noncomputable def slices_IndexFunc_L2 (s : (List Int)) (c : Int) (t : Int) : Option (Int) := LFix (slices_IndexFunc_L2_F s c ) t
noncomputable def slices_IndexFunc (s : (List Int)) (c : Int) : Option (Int) :=
  slices_IndexFunc_L2 s c (0 : Int)
theorem slices_IndexFunc_L2_B_ch (r2 : Nat → Int → Option (Int)) (r2' : Int → Option (Int)) (h_r2 : ∀ a0, ChO (fun κ => r2 κ a0) (r2' a0)) (s : (List Int)) (c : Int) (t : Int) : ChO (fun κ => slices_IndexFunc_L2_B s c (r2 κ) t) (slices_IndexFunc_L2_B s c r2' t) := by
  unfold slices_IndexFunc_L2_B
  repeat' with_reducible first | exact ChO.const _ | exact h_r2 _ | apply ChO.ite | apply ChO.G | apply ChO.both | (apply ChO.bind; intro _)
theorem slices_IndexFunc_L2_cn  (s : (List Int)) (c : Int) : Cn (slices_IndexFunc_L2_F s c) := fun g h hg x => slices_IndexFunc_L2_B_ch  (fun κ t => g κ t) (fun t => h t) (fun t => hg t) s c x
theorem slices_IndexFunc_L2_eq  (s : (List Int)) (c : Int) (t : Int) : slices_IndexFunc_L2 s c t = slices_IndexFunc_L2_B s c (slices_IndexFunc_L2 s c) t := LFix_eq (slices_IndexFunc_L2_cn s c) t

noncomputable def slices_ContainsFunc (s : (List Int)) (c : Int) : Option (Bool) :=
  (slices_IndexFunc s c).bind (fun y' =>
  some (decide ((0 : Int) ≤ y')))

noncomputable def cmp_isNaN (x' : Int) : Option (Bool) :=
  some (decide (¬ x' = x'))

noncomputable def cmp_Compare (x' : Int) (y' : Int) : Option (Int) :=
  (cmp_isNaN x').bind (fun y'_1 =>
  (cmp_isNaN y').bind (fun y'_2 =>
  if y'_1 = true then
  if y'_2 = true then
  some (0 : Int) else
  some (-1 : Int) else
  if y'_2 = true then
  some (1 : Int) else
  if (decide (x' < y')) = true then
  some (-1 : Int) else
  if (decide (y' < x')) = true then
  some (1 : Int) else
  some (0 : Int)))

noncomputable def slices_Compare_L2_B (s1 : (List Int)) (s2 : (List Int)) (r2 : Int → Option (Int)) (t : Int) : Option (Int) :=
  if (decide (t < (s1.length : Int))) = true then
  G (0 ≤ t ∧ t < (s1.length : Int)) (
  if (decide ((s2.length : Int) ≤ t)) = true then
  some (1 : Int) else
  G (0 ≤ t ∧ t < (s2.length : Int)) (
  (cmp_Compare (ix s1 t) (ix s2 t)).bind (fun y' =>
  if (decide (¬ y' = (0 : Int))) = true then
  some y' else
  G (fits (t + (1 : Int))) (
  r2 (t + (1 : Int)))))) else
  if (decide ((s1.length : Int) < (s2.length : Int))) = true then
  some (-1 : Int) else
  some (0 : Int)
noncomputable def slices_Compare_L2_F (s1 : (List Int)) (s2 : (List Int)) : (Int → Option (Int)) → Int → Option (Int) :=
  fun rec x => slices_Compare_L2_B s1 s2 (fun t => rec t) x
noncomputable def slices_Compare_L2 (s1 : (List Int)) (s2 : (List Int)) (t : Int) : Option (Int) := LFix (slices_Compare_L2_F s1 s2 ) t
noncomputable def slices_Compare (s1 : (List Int)) (s2 : (List Int)) : Option (Int) :=
  slices_Compare_L2 s1 s2 (0 : Int)
theorem slices_Compare_L2_B_ch (r2 : Nat → Int → Option (Int)) (r2' : Int → Option (Int)) (h_r2 : ∀ a0, ChO (fun κ => r2 κ a0) (r2' a0)) (s1 : (List Int)) (s2 : (List Int)) (t : Int) : ChO (fun κ => slices_Compare_L2_B s1 s2 (r2 κ) t) (slices_Compare_L2_B s1 s2 r2' t) := by
  unfold slices_Compare_L2_B
  repeat' with_reducible first | exact ChO.const _ | exact h_r2 _ | apply ChO.ite | apply ChO.G | apply ChO.both | (apply ChO.bind; intro _)
theorem slices_Compare_L2_cn  (s1 : (List Int)) (s2 : (List Int)) : Cn (slices_Compare_L2_F s1 s2) := fun g h hg x => slices_Compare_L2_B_ch  (fun κ t => g κ t) (fun t => h t) (fun t => hg t) s1 s2 x
theorem slices_Compare_L2_eq  (s1 : (List Int)) (s2 : (List Int)) (t : Int) : slices_Compare_L2 s1 s2 t = slices_Compare_L2_B s1 s2 (slices_Compare_L2 s1 s2) t := LFix_eq (slices_Compare_L2_cn s1 s2) t

noncomputable def rewrite_before (a : (List Int)) (b : (List Int)) : Option (Bool) :=
  if (decide (¬ (a.length : Int) = (b.length : Int))) = true then
  some (decide ((a.length : Int) < (b.length : Int))) else
  (slices_Compare a b).bind (fun y' =>
  some (decide (y' < (0 : Int))))

noncomputable def rewrite_Check_L7_B (letters : Int) (l : (List ((List Int) × (List Int) × Unit))) (r7 : Int → Option (Int)) (t : Int) : Option (Int) :=
  if (decide (t < (l.length : Int))) = true then
  G (0 ≤ t ∧ t < (l.length : Int)) (
  if (decide ((((ix l t).1).length : Int) < (1 : Int))) = true then
  some (1 : Int) else
  if (decide ((5 : Int) < (((ix l t).1).length : Int))) = true then
  some (1 : Int) else
  if (decide ((5 : Int) < ((((ix l t).2).1).length : Int))) = true then
  some (1 : Int) else
  (slices_ContainsFunc ((ix l t).1) letters).bind (fun y' =>
  if y' = true then
  some (2 : Int) else
  (slices_ContainsFunc (((ix l t).2).1) letters).bind (fun y'_1 =>
  if y'_1 = true then
  some (2 : Int) else
  (rewrite_before (((ix l t).2).1) ((ix l t).1)).bind (fun y'_2 =>
  if (!y'_2) = true then
  some (3 : Int) else
  G (fits (t + (1 : Int))) (
  r7 (t + (1 : Int))))))) else
  some (0 : Int)
noncomputable def rewrite_Check_L7_F (letters : Int) (l : (List ((List Int) × (List Int) × Unit))) : (Int → Option (Int)) → Int → Option (Int) :=
  fun rec x => rewrite_Check_L7_B letters l (fun t => rec t) x
noncomputable def rewrite_Check_L7 (letters : Int) (l : (List ((List Int) × (List Int) × Unit))) (t : Int) : Option (Int) := LFix (rewrite_Check_L7_F letters l ) t
noncomputable def rewrite_Check (letters : Int) (l : (List ((List Int) × (List Int) × Unit))) : Option (Int) :=
  if (decide (letters < (1 : Int))) = true then
  some (2 : Int) else
  if (decide ((4 : Int) < letters)) = true then
  some (2 : Int) else
  if (decide ((8 : Int) < (l.length : Int))) = true then
  some (1 : Int) else
  rewrite_Check_L7 letters l (0 : Int)
theorem rewrite_Check_L7_B_ch (r7 : Nat → Int → Option (Int)) (r7' : Int → Option (Int)) (h_r7 : ∀ a0, ChO (fun κ => r7 κ a0) (r7' a0)) (letters : Int) (l : (List ((List Int) × (List Int) × Unit))) (t : Int) : ChO (fun κ => rewrite_Check_L7_B letters l (r7 κ) t) (rewrite_Check_L7_B letters l r7' t) := by
  unfold rewrite_Check_L7_B
  repeat' with_reducible first | exact ChO.const _ | exact h_r7 _ | apply ChO.ite | apply ChO.G | apply ChO.both | (apply ChO.bind; intro _)
theorem rewrite_Check_L7_cn  (letters : Int) (l : (List ((List Int) × (List Int) × Unit))) : Cn (rewrite_Check_L7_F letters l) := fun g h hg x => rewrite_Check_L7_B_ch  (fun κ t => g κ t) (fun t => h t) (fun t => hg t) letters l x
theorem rewrite_Check_L7_eq  (letters : Int) (l : (List ((List Int) × (List Int) × Unit))) (t : Int) : rewrite_Check_L7 letters l t = rewrite_Check_L7_B letters l (rewrite_Check_L7 letters l) t := LFix_eq (rewrite_Check_L7_cn letters l) t

noncomputable def slices_Equal_L4_B (s1 : (List Int)) (s2 : (List Int)) (r4 : Int → Option (Bool)) (t : Int) : Option (Bool) :=
  if (decide (t < (s1.length : Int))) = true then
  G (0 ≤ t ∧ t < (s1.length : Int)) (
  G (0 ≤ t ∧ t < (s2.length : Int)) (
  if (decide (¬ (ix s1 t) = (ix s2 t))) = true then
  some false else
  G (fits (t + (1 : Int))) (
  r4 (t + (1 : Int))))) else
  some true
noncomputable def slices_Equal_L4_F (s1 : (List Int)) (s2 : (List Int)) : (Int → Option (Bool)) → Int → Option (Bool) :=
  fun rec x => slices_Equal_L4_B s1 s2 (fun t => rec t) x
noncomputable def slices_Equal_L4 (s1 : (List Int)) (s2 : (List Int)) (t : Int) : Option (Bool) := LFix (slices_Equal_L4_F s1 s2 ) t
noncomputable def slices_Equal (s1 : (List Int)) (s2 : (List Int)) : Option (Bool) :=
  if (decide (¬ (s1.length : Int) = (s2.length : Int))) = true then
  some false else
  slices_Equal_L4 s1 s2 (0 : Int)
theorem slices_Equal_L4_B_ch (r4 : Nat → Int → Option (Bool)) (r4' : Int → Option (Bool)) (h_r4 : ∀ a0, ChO (fun κ => r4 κ a0) (r4' a0)) (s1 : (List Int)) (s2 : (List Int)) (t : Int) : ChO (fun κ => slices_Equal_L4_B s1 s2 (r4 κ) t) (slices_Equal_L4_B s1 s2 r4' t) := by
  unfold slices_Equal_L4_B
  repeat' with_reducible first | exact ChO.const _ | exact h_r4 _ | apply ChO.ite | apply ChO.G | apply ChO.both | (apply ChO.bind; intro _)
theorem slices_Equal_L4_cn  (s1 : (List Int)) (s2 : (List Int)) : Cn (slices_Equal_L4_F s1 s2) := fun g h hg x => slices_Equal_L4_B_ch  (fun κ t => g κ t) (fun t => h t) (fun t => hg t) s1 s2 x
theorem slices_Equal_L4_eq  (s1 : (List Int)) (s2 : (List Int)) (t : Int) : slices_Equal_L4 s1 s2 t = slices_Equal_L4_B s1 s2 (slices_Equal_L4 s1 s2) t := LFix_eq (slices_Equal_L4_cn s1 s2) t

noncomputable def slices_Grow (n : Int) : Option (List Int) :=
  if (decide (n < (0 : Int))) = true then
  none else
  G (fits ((0 : Int) - (0 : Int))) (
  G (fits (n - ((0 : Int) - (0 : Int)))) (
  if (decide ((0 : Int) < (n - ((0 : Int) - (0 : Int))))) = true then
  G ((0 : Int) = (0 : Int)) (
  G (0 < n - ((0 : Int) - (0 : Int)) ∧ (n - ((0 : Int) - (0 : Int))) * 8 ≤ 140737488355328) (
  G (0 ≤ (0 : Int) ∧ (0 : Int) ≤ ((List.replicate (n - ((0 : Int) - (0 : Int))).toNat (0 : Int)).length : Int)) (
  some ((List.replicate (n - ((0 : Int) - (0 : Int))).toNat (0 : Int)).take ((0 : Int)).toNat)))) else
  some ([])))

noncomputable def slices_Concat_L11_B (slices : (List (List Int))) (r11 : Int → (List Int) → Option (List Int)) (t_1 : Int) (newslice : (List Int)) : Option (List Int) :=
  if (decide (t_1 < (slices.length : Int))) = true then
  G (0 ≤ t_1 ∧ t_1 < (slices.length : Int)) (
  G (room newslice (ix slices t_1) 8) (
  G (fits (t_1 + (1 : Int))) (
  r11 (t_1 + (1 : Int)) (newslice ++ (ix slices t_1))))) else
  some newslice
noncomputable def slices_Concat_L11_F (slices : (List (List Int))) : (Int × (List Int) → Option (List Int)) → Int × (List Int) → Option (List Int) :=
  fun rec x => slices_Concat_L11_B slices (fun t_1 newslice => rec (t_1, newslice)) x.1 x.2
noncomputable def slices_Concat_L11 (slices : (List (List Int))) (t_1 : Int) (newslice : (List Int)) : Option (List Int) := LFix (slices_Concat_L11_F slices ) (t_1, newslice)
noncomputable def slices_Concat_L3_B (slices : (List (List Int))) (r3 : Int → Int → Option (List Int)) (size : Int) (t : Int) : Option (List Int) :=
  if (decide (t < (slices.length : Int))) = true then
  G (0 ≤ t ∧ t < (slices.length : Int)) (
  G (fits (size + ((ix slices t).length : Int))) (
  if (decide ((size + ((ix slices t).length : Int)) < (0 : Int))) = true then
  none else
  G (fits (t + (1 : Int))) (
  r3 (size + ((ix slices t).length : Int)) (t + (1 : Int))))) else
  (slices_Grow size).bind (fun y' =>
  slices_Concat_L11 slices (0 : Int) y')
noncomputable def slices_Concat_L3_F (slices : (List (List Int))) : (Int × Int → Option (List Int)) → Int × Int → Option (List Int) :=
  fun rec x => slices_Concat_L3_B slices (fun size t => rec (size, t)) x.1 x.2
noncomputable def slices_Concat_L3 (slices : (List (List Int))) (size : Int) (t : Int) : Option (List Int) := LFix (slices_Concat_L3_F slices ) (size, t)
noncomputable def slices_Concat (slices : (List (List Int))) : Option (List Int) :=
  slices_Concat_L3 slices (0 : Int) (0 : Int)
theorem slices_Concat_L11_B_ch (r11 : Nat → Int → (List Int) → Option (List Int)) (r11' : Int → (List Int) → Option (List Int)) (h_r11 : ∀ a0 a1, ChO (fun κ => r11 κ a0 a1) (r11' a0 a1)) (slices : (List (List Int))) (t_1 : Int) (newslice : (List Int)) : ChO (fun κ => slices_Concat_L11_B slices (r11 κ) t_1 newslice) (slices_Concat_L11_B slices r11' t_1 newslice) := by
  unfold slices_Concat_L11_B
  repeat' with_reducible first | exact ChO.const _ | exact h_r11 _ _ | apply ChO.ite | apply ChO.G | apply ChO.both | (apply ChO.bind; intro _)
theorem slices_Concat_L11_cn  (slices : (List (List Int))) : Cn (slices_Concat_L11_F slices) := fun g h hg x => slices_Concat_L11_B_ch  (fun κ t_1 newslice => g κ (t_1, newslice)) (fun t_1 newslice => h (t_1, newslice)) (fun t_1 newslice => hg (t_1, newslice)) slices x.1 x.2
theorem slices_Concat_L11_eq  (slices : (List (List Int))) (t_1 : Int) (newslice : (List Int)) : slices_Concat_L11 slices t_1 newslice = slices_Concat_L11_B slices (slices_Concat_L11 slices) t_1 newslice := LFix_eq (slices_Concat_L11_cn slices) (t_1, newslice)
theorem slices_Concat_L3_B_ch (r3 : Nat → Int → Int → Option (List Int)) (r3' : Int → Int → Option (List Int)) (h_r3 : ∀ a0 a1, ChO (fun κ => r3 κ a0 a1) (r3' a0 a1)) (slices : (List (List Int))) (size : Int) (t : Int) : ChO (fun κ => slices_Concat_L3_B slices (r3 κ) size t) (slices_Concat_L3_B slices r3' size t) := by
  unfold slices_Concat_L3_B
  repeat' with_reducible first | exact ChO.const _ | exact h_r3 _ _ | apply ChO.ite | apply ChO.G | apply ChO.both | (apply ChO.bind; intro _)
theorem slices_Concat_L3_cn  (slices : (List (List Int))) : Cn (slices_Concat_L3_F slices) := fun g h hg x => slices_Concat_L3_B_ch  (fun κ size t => g κ (size, t)) (fun size t => h (size, t)) (fun size t => hg (size, t)) slices x.1 x.2
theorem slices_Concat_L3_eq  (slices : (List (List Int))) (size : Int) (t : Int) : slices_Concat_L3 slices size t = slices_Concat_L3_B slices (slices_Concat_L3 slices) size t := LFix_eq (slices_Concat_L3_cn slices) (size, t)

noncomputable def rewrite_swapped (w : (List Int)) (s : ((List Int) × (List Int) × Unit)) (at' : Int) : Option (List Int) :=
  G (0 ≤ (0 : Int) ∧ (0 : Int) ≤ at' ∧ at' ≤ (w.length : Int)) (
  G (fits (at' + (s.1.length : Int))) (
  G (0 ≤ at' + (s.1.length : Int) ∧ at' + (s.1.length : Int) ≤ (w.length : Int) ∧ (w.length : Int) ≤ (w.length : Int)) (
  (slices_Concat ([cut w (0 : Int) at', s.2.1, cut w (at' + (s.1.length : Int)) (w.length : Int)])).bind (fun y' =>
  some y'))))

noncomputable def rewrite_stands (w : (List Int)) (v : (List Int)) (at' : Int) : Option (Bool) :=
  G (fits (at' + (v.length : Int))) (
  if (decide ((at' + (v.length : Int)) ≤ (w.length : Int))) = true then
  G (fits (at' + (v.length : Int))) (
  G (0 ≤ at' ∧ at' ≤ at' + (v.length : Int) ∧ at' + (v.length : Int) ≤ (w.length : Int)) (
  (slices_Equal (cut w at' (at' + (v.length : Int))) v).bind (fun y' =>
  some y'))) else
  some false)

noncomputable def rewrite_normal_L5_B (l : (List ((List Int) × (List Int) × Unit))) (r2 : ((List Int) → Int → Option (List Int))) (r5 : (List Int) → Int → Int → Option (List Int)) (w_2 : (List Int)) (at'_1 : Int) (t : Int) : Option (List Int) :=
  if (decide (t < (l.length : Int))) = true then
  G (0 ≤ t ∧ t < (l.length : Int)) (
  (rewrite_stands w_2 ((ix l t).1) at'_1).bind (fun y' =>
  if y' = true then
  (rewrite_swapped w_2 ((ix l t).1, (((ix l t).2).1, ())) at'_1).bind (fun y'_1 =>
  G (fits ((-1 : Int) + (1 : Int))) (
  r2 y'_1 ((-1 : Int) + (1 : Int)))) else
  G (fits (t + (1 : Int))) (
  r5 w_2 at'_1 (t + (1 : Int))))) else
  G (fits (at'_1 + (1 : Int))) (
  r2 w_2 (at'_1 + (1 : Int)))
noncomputable def rewrite_normal_L5_F (l : (List ((List Int) × (List Int) × Unit))) (r2 : ((List Int) → Int → Option (List Int))) : ((List Int) × Int × Int → Option (List Int)) → (List Int) × Int × Int → Option (List Int) :=
  fun rec x => rewrite_normal_L5_B l r2 (fun w_2 at'_1 t => rec (w_2, at'_1, t)) x.1 x.2.1 x.2.2
noncomputable def rewrite_normal_L5 (l : (List ((List Int) × (List Int) × Unit))) (r2 : ((List Int) → Int → Option (List Int))) (w_2 : (List Int)) (at'_1 : Int) (t : Int) : Option (List Int) := LFix (rewrite_normal_L5_F l r2 ) (w_2, at'_1, t)
noncomputable def rewrite_normal_L2_B (l : (List ((List Int) × (List Int) × Unit))) (r2 : (List Int) → Int → Option (List Int)) (w_1 : (List Int)) (at' : Int) : Option (List Int) :=
  if (decide (at' < (w_1.length : Int))) = true then
  rewrite_normal_L5 l r2 w_1 at' (0 : Int) else
  some w_1
noncomputable def rewrite_normal_L2_F (l : (List ((List Int) × (List Int) × Unit))) : ((List Int) × Int → Option (List Int)) → (List Int) × Int → Option (List Int) :=
  fun rec x => rewrite_normal_L2_B l (fun w_1 at' => rec (w_1, at')) x.1 x.2
noncomputable def rewrite_normal_L2 (l : (List ((List Int) × (List Int) × Unit))) (w_1 : (List Int)) (at' : Int) : Option (List Int) := LFix (rewrite_normal_L2_F l ) (w_1, at')
noncomputable def rewrite_normal (l : (List ((List Int) × (List Int) × Unit))) (w : (List Int)) : Option (List Int) :=
  rewrite_normal_L2 l w (0 : Int)
theorem rewrite_normal_L5_B_ch (r2 : Nat → (List Int) → Int → Option (List Int)) (r2' : (List Int) → Int → Option (List Int)) (h_r2 : ∀ a0 a1, ChO (fun κ => r2 κ a0 a1) (r2' a0 a1)) (r5 : Nat → (List Int) → Int → Int → Option (List Int)) (r5' : (List Int) → Int → Int → Option (List Int)) (h_r5 : ∀ a0 a1 a2, ChO (fun κ => r5 κ a0 a1 a2) (r5' a0 a1 a2)) (l : (List ((List Int) × (List Int) × Unit))) (w_2 : (List Int)) (at'_1 : Int) (t : Int) : ChO (fun κ => rewrite_normal_L5_B l (r2 κ) (r5 κ) w_2 at'_1 t) (rewrite_normal_L5_B l r2' r5' w_2 at'_1 t) := by
  unfold rewrite_normal_L5_B
  repeat' with_reducible first | exact ChO.const _ | exact h_r2 _ _ | exact h_r5 _ _ _ | apply ChO.ite | apply ChO.G | apply ChO.both | (apply ChO.bind; intro _)
theorem rewrite_normal_L5_cn (r2 : (List Int) → Int → Option (List Int)) (l : (List ((List Int) × (List Int) × Unit))) : Cn (rewrite_normal_L5_F l r2) := fun g h hg x => rewrite_normal_L5_B_ch (fun _ => r2) r2 (fun _ _ => ChO.const _) (fun κ w_2 at'_1 t => g κ (w_2, at'_1, t)) (fun w_2 at'_1 t => h (w_2, at'_1, t)) (fun w_2 at'_1 t => hg (w_2, at'_1, t)) l x.1 x.2.1 x.2.2
theorem rewrite_normal_L5_eq (r2 : (List Int) → Int → Option (List Int)) (l : (List ((List Int) × (List Int) × Unit))) (w_2 : (List Int)) (at'_1 : Int) (t : Int) : rewrite_normal_L5 l r2 w_2 at'_1 t = rewrite_normal_L5_B l r2 (rewrite_normal_L5 l r2) w_2 at'_1 t := LFix_eq (rewrite_normal_L5_cn r2 l) (w_2, at'_1, t)
theorem rewrite_normal_L5_ch (r2 : Nat → (List Int) → Int → Option (List Int)) (r2' : (List Int) → Int → Option (List Int)) (h_r2 : ∀ a0 a1, ChO (fun κ => r2 κ a0 a1) (r2' a0 a1)) (l : (List ((List Int) × (List Int) × Unit))) (w_2 : (List Int)) (at'_1 : Int) (t : Int) : ChO (fun κ => rewrite_normal_L5 l (r2 κ) w_2 at'_1 t) (rewrite_normal_L5 l r2' w_2 at'_1 t) := by
  unfold rewrite_normal_L5
  exact LFix_ch (fun κ => (rewrite_normal_L5_cn (r2 κ) l).mono) (rewrite_normal_L5_cn r2' l).mono (fun g h hg x => rewrite_normal_L5_B_ch r2 r2' h_r2 (fun κ w_2 at'_1 t => g κ (w_2, at'_1, t)) (fun w_2 at'_1 t => h (w_2, at'_1, t)) (fun w_2 at'_1 t => hg (w_2, at'_1, t)) l x.1 x.2.1 x.2.2) _
theorem rewrite_normal_L2_B_ch (r2 : Nat → (List Int) → Int → Option (List Int)) (r2' : (List Int) → Int → Option (List Int)) (h_r2 : ∀ a0 a1, ChO (fun κ => r2 κ a0 a1) (r2' a0 a1)) (l : (List ((List Int) × (List Int) × Unit))) (w_1 : (List Int)) (at' : Int) : ChO (fun κ => rewrite_normal_L2_B l (r2 κ) w_1 at') (rewrite_normal_L2_B l r2' w_1 at') := by
  unfold rewrite_normal_L2_B
  repeat' with_reducible first | exact ChO.const _ | exact h_r2 _ _ | (apply rewrite_normal_L5_ch <;> assumption) | apply ChO.ite | apply ChO.G | apply ChO.both | (apply ChO.bind; intro _)
theorem rewrite_normal_L2_cn  (l : (List ((List Int) × (List Int) × Unit))) : Cn (rewrite_normal_L2_F l) := fun g h hg x => rewrite_normal_L2_B_ch  (fun κ w_1 at' => g κ (w_1, at')) (fun w_1 at' => h (w_1, at')) (fun w_1 at' => hg (w_1, at')) l x.1 x.2
theorem rewrite_normal_L2_eq  (l : (List ((List Int) × (List Int) × Unit))) (w_1 : (List Int)) (at' : Int) : rewrite_normal_L2 l w_1 at' = rewrite_normal_L2_B l (rewrite_normal_L2 l) w_1 at' := LFix_eq (rewrite_normal_L2_cn l) (w_1, at')

noncomputable def det_Key_L3_B (l : (List Int)) (r3 : Int → (List Int) → Option (List UInt8)) (t : Int) (b : (List Int)) : Option (List UInt8) :=
  if (decide (t < (l.length : Int))) = true then
  G (0 ≤ t ∧ t < (l.length : Int)) (
  G (0 ≤ (8 : Int)) (
  G (room b ([IntKind.wrap .u8 (ix l t), IntKind.wrap .u8 (ishr .i64 (ix l t) (8 : Int))]) 1) (
  G (fits (t + (1 : Int))) (
  r3 (t + (1 : Int)) (b ++ ([IntKind.wrap .u8 (ix l t), IntKind.wrap .u8 (ishr .i64 (ix l t) (8 : Int))])))))) else
  some (bstr b)
noncomputable def det_Key_L3_F (l : (List Int)) : (Int × (List Int) → Option (List UInt8)) → Int × (List Int) → Option (List UInt8) :=
  fun rec x => det_Key_L3_B l (fun t b => rec (t, b)) x.1 x.2
noncomputable def det_Key_L3 (l : (List Int)) (t : Int) (b : (List Int)) : Option (List UInt8) := LFix (det_Key_L3_F l ) (t, b)
noncomputable def det_Key (l : (List Int)) : Option (List UInt8) :=
  det_Key_L3 l (0 : Int) ([])
theorem det_Key_L3_B_ch (r3 : Nat → Int → (List Int) → Option (List UInt8)) (r3' : Int → (List Int) → Option (List UInt8)) (h_r3 : ∀ a0 a1, ChO (fun κ => r3 κ a0 a1) (r3' a0 a1)) (l : (List Int)) (t : Int) (b : (List Int)) : ChO (fun κ => det_Key_L3_B l (r3 κ) t b) (det_Key_L3_B l r3' t b) := by
  unfold det_Key_L3_B
  repeat' with_reducible first | exact ChO.const _ | exact h_r3 _ _ | apply ChO.ite | apply ChO.G | apply ChO.both | (apply ChO.bind; intro _)
theorem det_Key_L3_cn  (l : (List Int)) : Cn (det_Key_L3_F l) := fun g h hg x => det_Key_L3_B_ch  (fun κ t b => g κ (t, b)) (fun t b => h (t, b)) (fun t b => hg (t, b)) l x.1 x.2
theorem det_Key_L3_eq  (l : (List Int)) (t : Int) (b : (List Int)) : det_Key_L3 l t b = det_Key_L3_B l (det_Key_L3 l) t b := LFix_eq (det_Key_L3_cn l) (t, b)

noncomputable def slices_Clone (s : (List Int)) : Option (List Int) :=
  if s.length = 0 then both [(.list (.int .i64))] (
  some ([])) (
  G (room ([] : List Int) s 8) (
  some (([] : List Int) ++ s))) else
  G (room ([] : List Int) s 8) (
  some (([] : List Int) ++ s))

noncomputable def rewrite_Fork_1 (word : (List Int)) (a : ((List Int) × (List Int) × Unit)) (i : Int) (b : ((List Int) × (List Int) × Unit)) (k : Int) (t : (List ((List Int) × (List Int) × Unit))) : Option (Bool × (List Int) × (List Int) × (List Int)) :=
  (rewrite_swapped word (a.1, (a.2.1, ())) i).bind (fun y' =>
  (rewrite_normal t y').bind (fun y'_1 =>
  (rewrite_swapped word (b.1, (b.2.1, ())) k).bind (fun y'_2 =>
  (rewrite_normal t y'_2).bind (fun y'_3 =>
  (det_Key y'_1).bind (fun y'_4 =>
  (det_Key y'_3).bind (fun y'_5 =>
  if (decide (y'_4 = y'_5)) = true then
  some (false, [], [], []) else
  (slices_Clone word).bind (fun y'_6 =>
  (slices_Clone y'_1).bind (fun y'_7 =>
  (slices_Clone y'_3).bind (fun y'_8 =>
  some (true, y'_6, y'_7, y'_8))))))))))

noncomputable def rewrite_Fork_1_1 (word : (List Int)) (a : ((List Int) × (List Int) × Unit)) (i : Int) (b : ((List Int) × (List Int) × Unit)) (k : Int) (t : (List ((List Int) × (List Int) × Unit))) (l : (List Int)) : Option (Bool × (List Int) × (List Int) × (List Int)) :=
  (rewrite_swapped word (a.1, (a.2.1, ())) i).bind (fun y' =>
  (rewrite_normal t y').bind (fun y'_1 =>
  (rewrite_swapped word (b.1, (b.2.1, ())) k).bind (fun y'_2 =>
  (rewrite_normal t y'_2).bind (fun y'_3 =>
  (det_Key y'_1).bind (fun y'_4 =>
  (det_Key y'_3).bind (fun y'_5 =>
  if (decide (y'_4 = y'_5)) = true then
  some (false, l, [], []) else
  (slices_Clone word).bind (fun y'_6 =>
  (slices_Clone y'_1).bind (fun y'_7 =>
  (slices_Clone y'_3).bind (fun y'_8 =>
  some (true, y'_6, y'_7, y'_8))))))))))

noncomputable def rewrite_Fork_1_2 (word : (List Int)) (a : ((List Int) × (List Int) × Unit)) (i : Int) (b : ((List Int) × (List Int) × Unit)) (k : Int) (t : (List ((List Int) × (List Int) × Unit))) (c : (List Int)) : Option (Bool × (List Int) × (List Int) × (List Int)) :=
  (rewrite_swapped word (a.1, (a.2.1, ())) i).bind (fun y' =>
  (rewrite_normal t y').bind (fun y'_1 =>
  (rewrite_swapped word (b.1, (b.2.1, ())) k).bind (fun y'_2 =>
  (rewrite_normal t y'_2).bind (fun y'_3 =>
  (det_Key y'_1).bind (fun y'_4 =>
  (det_Key y'_3).bind (fun y'_5 =>
  if (decide (y'_4 = y'_5)) = true then
  some (false, c, [], []) else
  (slices_Clone word).bind (fun y'_6 =>
  (slices_Clone y'_1).bind (fun y'_7 =>
  (slices_Clone y'_3).bind (fun y'_8 =>
  some (true, y'_6, y'_7, y'_8))))))))))

noncomputable def rewrite_Fork_1_3 (word : (List Int)) (a : ((List Int) × (List Int) × Unit)) (i : Int) (b : ((List Int) × (List Int) × Unit)) (k : Int) (t : (List ((List Int) × (List Int) × Unit))) (c : (List Int)) (l : (List Int)) : Option (Bool × (List Int) × (List Int) × (List Int)) :=
  (rewrite_swapped word (a.1, (a.2.1, ())) i).bind (fun y' =>
  (rewrite_normal t y').bind (fun y'_1 =>
  (rewrite_swapped word (b.1, (b.2.1, ())) k).bind (fun y'_2 =>
  (rewrite_normal t y'_2).bind (fun y'_3 =>
  (det_Key y'_1).bind (fun y'_4 =>
  (det_Key y'_3).bind (fun y'_5 =>
  if (decide (y'_4 = y'_5)) = true then
  some (false, c, l, []) else
  (slices_Clone word).bind (fun y'_6 =>
  (slices_Clone y'_1).bind (fun y'_7 =>
  (slices_Clone y'_3).bind (fun y'_8 =>
  some (true, y'_6, y'_7, y'_8))))))))))

noncomputable def rewrite_Fork_1_4 (word : (List Int)) (a : ((List Int) × (List Int) × Unit)) (i : Int) (b : ((List Int) × (List Int) × Unit)) (k : Int) (t : (List ((List Int) × (List Int) × Unit))) (c : (List Int)) (c_1 : (List Int)) : Option (Bool × (List Int) × (List Int) × (List Int)) :=
  (rewrite_swapped word (a.1, (a.2.1, ())) i).bind (fun y' =>
  (rewrite_normal t y').bind (fun y'_1 =>
  (rewrite_swapped word (b.1, (b.2.1, ())) k).bind (fun y'_2 =>
  (rewrite_normal t y'_2).bind (fun y'_3 =>
  (det_Key y'_1).bind (fun y'_4 =>
  (det_Key y'_3).bind (fun y'_5 =>
  if (decide (y'_4 = y'_5)) = true then
  some (false, c, c_1, []) else
  (slices_Clone word).bind (fun y'_6 =>
  (slices_Clone y'_1).bind (fun y'_7 =>
  (slices_Clone y'_3).bind (fun y'_8 =>
  some (true, y'_6, y'_7, y'_8))))))))))

noncomputable def rewrite_Fork_1_5 (word : (List Int)) (a : ((List Int) × (List Int) × Unit)) (i : Int) (b : ((List Int) × (List Int) × Unit)) (k : Int) (t : (List ((List Int) × (List Int) × Unit))) (c : (List Int)) (c_1 : (List Int)) (l : (List Int)) : Option (Bool × (List Int) × (List Int) × (List Int)) :=
  (rewrite_swapped word (a.1, (a.2.1, ())) i).bind (fun y' =>
  (rewrite_normal t y').bind (fun y'_1 =>
  (rewrite_swapped word (b.1, (b.2.1, ())) k).bind (fun y'_2 =>
  (rewrite_normal t y'_2).bind (fun y'_3 =>
  (det_Key y'_1).bind (fun y'_4 =>
  (det_Key y'_3).bind (fun y'_5 =>
  if (decide (y'_4 = y'_5)) = true then
  some (false, c, c_1, l) else
  (slices_Clone word).bind (fun y'_6 =>
  (slices_Clone y'_1).bind (fun y'_7 =>
  (slices_Clone y'_3).bind (fun y'_8 =>
  some (true, y'_6, y'_7, y'_8))))))))))

noncomputable def rewrite_Fork_1_6 (word : (List Int)) (a : ((List Int) × (List Int) × Unit)) (i : Int) (b : ((List Int) × (List Int) × Unit)) (k : Int) (t : (List ((List Int) × (List Int) × Unit))) (c : (List Int)) (c_1 : (List Int)) (c_2 : (List Int)) : Option (Bool × (List Int) × (List Int) × (List Int)) :=
  (rewrite_swapped word (a.1, (a.2.1, ())) i).bind (fun y' =>
  (rewrite_normal t y').bind (fun y'_1 =>
  (rewrite_swapped word (b.1, (b.2.1, ())) k).bind (fun y'_2 =>
  (rewrite_normal t y'_2).bind (fun y'_3 =>
  (det_Key y'_1).bind (fun y'_4 =>
  (det_Key y'_3).bind (fun y'_5 =>
  if (decide (y'_4 = y'_5)) = true then
  some (false, c, c_1, c_2) else
  (slices_Clone word).bind (fun y'_6 =>
  (slices_Clone y'_1).bind (fun y'_7 =>
  (slices_Clone y'_3).bind (fun y'_8 =>
  some (true, y'_6, y'_7, y'_8))))))))))

noncomputable def rewrite_Fork_J17 (t_2 : Int) (a_2 : (List Int)) (a_3 : (List Int)) (r12 : ((List ((List Int) × (List Int) × Unit)) → (List ((List Int) × (List Int) × Unit)) → Int → (List Int) → (List Int) → (List Int) → (List Int) → (List Int) → (List Int) → (List Int) → Option ((List Int) × (List Int) × (List Int) × Bool × Int))) (l_4 : (List ((List Int) × (List Int) × Unit))) (try'_3 : (List ((List Int) × (List Int) × Unit))) (w_3 : (List Int)) (u_3 : (List Int)) (v_3 : (List Int)) (b_2 : (List Int)) (b_3 : (List Int)) : Option ((List Int) × (List Int) × (List Int) × Bool × Int) :=
  G (fits (t_2 + (1 : Int))) (
  r12 l_4 try'_3 (t_2 + (1 : Int)) w_3 u_3 v_3 a_2 a_3 b_2 b_3)
noncomputable def rewrite_Fork_L12_B (t_1 : Int) (a : (List Int)) (r9 : ((List ((List Int) × (List Int) × Unit)) → (List ((List Int) × (List Int) × Unit)) → Int → (List Int) → (List Int) → (List Int) → (List Int) → (List Int) → Option ((List Int) × (List Int) × (List Int) × Bool × Int))) (r12 : (List ((List Int) × (List Int) × Unit)) → (List ((List Int) × (List Int) × Unit)) → Int → (List Int) → (List Int) → (List Int) → (List Int) → (List Int) → (List Int) → (List Int) → Option ((List Int) × (List Int) × (List Int) × Bool × Int)) (l_3 : (List ((List Int) × (List Int) × Unit))) (try'_2 : (List ((List Int) × (List Int) × Unit))) (t_2 : Int) (w_2 : (List Int)) (u_2 : (List Int)) (v_2 : (List Int)) (a_2 : (List Int)) (a_3 : (List Int)) (b : (List Int)) (b_1 : (List Int)) : Option ((List Int) × (List Int) × (List Int) × Bool × Int) :=
  if (decide (t_2 < (a.length : Int))) = true then
  G (fits ((a_2.length : Int) - t_2)) (
  G (fits (t_2 + (imin (b.length : Int) ((a_2.length : Int) - t_2)))) (
  G (0 ≤ t_2 ∧ t_2 ≤ t_2 + (imin (b.length : Int) ((a_2.length : Int) - t_2)) ∧ t_2 + (imin (b.length : Int) ((a_2.length : Int) - t_2)) ≤ (a_2.length : Int)) (
  G (0 ≤ (0 : Int) ∧ (0 : Int) ≤ imin (b.length : Int) ((a_2.length : Int) - t_2) ∧ imin (b.length : Int) ((a_2.length : Int) - t_2) ≤ (b.length : Int)) (
  (slices_Equal (cut a_2 t_2 (t_2 + (imin (b.length : Int) ((a_2.length : Int) - t_2)))) (cut b (0 : Int) (imin (b.length : Int) ((a_2.length : Int) - t_2)))).bind (fun y'_1 =>
  if (!y'_1) = true then
  rewrite_Fork_J17 t_2 a_2 a_3 r12 l_3 try'_2 w_2 u_2 v_2 b b_1 else
  G (0 ≤ imin (b.length : Int) ((a_2.length : Int) - t_2) ∧ imin (b.length : Int) ((a_2.length : Int) - t_2) ≤ (b.length : Int) ∧ (b.length : Int) ≤ (b.length : Int)) (
  (slices_Concat ([a_2, cut b (imin (b.length : Int) ((a_2.length : Int) - t_2)) (b.length : Int)])).bind (fun y'_2 =>
  (rewrite_Fork_1_6 y'_2 (a_2, (a_3, ())) (0 : Int) (b, (b_1, ())) t_2 try'_2 w_2 u_2 v_2).bind (fun y'_8 =>
  if y'_8.1 = true then
  both [(.list (.int .i64)), (.list (.int .i64)), (.list (.int .i64)), .bool, (.int .i64)] (
  both [(.list (.int .i64)), (.list (.int .i64)), (.list (.int .i64)), .bool, (.int .i64)] (
  some (y'_8.2.1, y'_8.2.2.1, y'_8.2.2.2, true, (0 : Int))) (
  both [(.list (.int .i64)), (.list (.int .i64)), (.list (.int .i64)), .bool, (.int .i64)] (
  some (y'_8.2.1, y'_8.2.2.1, y'_8.2.2.2, true, (0 : Int))) (
  some (y'_8.2.1, y'_8.2.2.1, y'_8.2.2.2, true, (0 : Int))))) (
  both [(.list (.int .i64)), (.list (.int .i64)), (.list (.int .i64)), .bool, (.int .i64)] (
  both [(.list (.int .i64)), (.list (.int .i64)), (.list (.int .i64)), .bool, (.int .i64)] (
  some (y'_8.2.1, y'_8.2.2.1, y'_8.2.2.2, true, (0 : Int))) (
  some (y'_8.2.1, y'_8.2.2.1, y'_8.2.2.2, true, (0 : Int)))) (
  both [(.list (.int .i64)), (.list (.int .i64)), (.list (.int .i64)), .bool, (.int .i64)] (
  some (y'_8.2.1, y'_8.2.2.1, y'_8.2.2.2, true, (0 : Int))) (
  some (y'_8.2.1, y'_8.2.2.1, y'_8.2.2.2, true, (0 : Int))))) else
  rewrite_Fork_J17 t_2 a_2 a_3 r12 l_3 try'_2 y'_8.2.1 y'_8.2.2.1 y'_8.2.2.2 b b_1)))))))) else
  G (fits (t_1 + (1 : Int))) (
  r9 l_3 try'_2 (t_1 + (1 : Int)) w_2 u_2 v_2 a_2 a_3)
noncomputable def rewrite_Fork_L12_F (t_1 : Int) (a : (List Int)) (r9 : ((List ((List Int) × (List Int) × Unit)) → (List ((List Int) × (List Int) × Unit)) → Int → (List Int) → (List Int) → (List Int) → (List Int) → (List Int) → Option ((List Int) × (List Int) × (List Int) × Bool × Int))) : ((List ((List Int) × (List Int) × Unit)) × (List ((List Int) × (List Int) × Unit)) × Int × (List Int) × (List Int) × (List Int) × (List Int) × (List Int) × (List Int) × (List Int) → Option ((List Int) × (List Int) × (List Int) × Bool × Int)) → (List ((List Int) × (List Int) × Unit)) × (List ((List Int) × (List Int) × Unit)) × Int × (List Int) × (List Int) × (List Int) × (List Int) × (List Int) × (List Int) × (List Int) → Option ((List Int) × (List Int) × (List Int) × Bool × Int) :=
  fun rec x => rewrite_Fork_L12_B t_1 a r9 (fun l_3 try'_2 t_2 w_2 u_2 v_2 a_2 a_3 b b_1 => rec (l_3, try'_2, t_2, w_2, u_2, v_2, a_2, a_3, b, b_1)) x.1 x.2.1 x.2.2.1 x.2.2.2.1 x.2.2.2.2.1 x.2.2.2.2.2.1 x.2.2.2.2.2.2.1 x.2.2.2.2.2.2.2.1 x.2.2.2.2.2.2.2.2.1 x.2.2.2.2.2.2.2.2.2
noncomputable def rewrite_Fork_L12 (t_1 : Int) (a : (List Int)) (r9 : ((List ((List Int) × (List Int) × Unit)) → (List ((List Int) × (List Int) × Unit)) → Int → (List Int) → (List Int) → (List Int) → (List Int) → (List Int) → Option ((List Int) × (List Int) × (List Int) × Bool × Int))) (l_3 : (List ((List Int) × (List Int) × Unit))) (try'_2 : (List ((List Int) × (List Int) × Unit))) (t_2 : Int) (w_2 : (List Int)) (u_2 : (List Int)) (v_2 : (List Int)) (a_2 : (List Int)) (a_3 : (List Int)) (b : (List Int)) (b_1 : (List Int)) : Option ((List Int) × (List Int) × (List Int) × Bool × Int) := LFix (rewrite_Fork_L12_F t_1 a r9 ) (l_3, try'_2, t_2, w_2, u_2, v_2, a_2, a_3, b, b_1)
noncomputable def rewrite_Fork_L9_B (l_1 : (List ((List Int) × (List Int) × Unit))) (t : Int) (r6 : ((List ((List Int) × (List Int) × Unit)) → (List ((List Int) × (List Int) × Unit)) → Int → (List Int) → (List Int) → (List Int) → Option ((List Int) × (List Int) × (List Int) × Bool × Int))) (r9 : (List ((List Int) × (List Int) × Unit)) → (List ((List Int) × (List Int) × Unit)) → Int → (List Int) → (List Int) → (List Int) → (List Int) → (List Int) → Option ((List Int) × (List Int) × (List Int) × Bool × Int)) (l_2 : (List ((List Int) × (List Int) × Unit))) (try'_1 : (List ((List Int) × (List Int) × Unit))) (t_1 : Int) (w_1 : (List Int)) (u_1 : (List Int)) (v_1 : (List Int)) (a : (List Int)) (a_1 : (List Int)) : Option ((List Int) × (List Int) × (List Int) × Bool × Int) :=
  if (decide (t_1 < (l_1.length : Int))) = true then
  G (0 ≤ t_1 ∧ t_1 < (l_1.length : Int)) (
  rewrite_Fork_L12 t_1 a r9 l_2 try'_1 (0 : Int) w_1 u_1 v_1 a a_1 ((ix l_1 t_1).1) (((ix l_1 t_1).2).1)) else
  G (fits (t + (1 : Int))) (
  r6 l_2 try'_1 (t + (1 : Int)) w_1 u_1 v_1)
noncomputable def rewrite_Fork_L9_F (l_1 : (List ((List Int) × (List Int) × Unit))) (t : Int) (r6 : ((List ((List Int) × (List Int) × Unit)) → (List ((List Int) × (List Int) × Unit)) → Int → (List Int) → (List Int) → (List Int) → Option ((List Int) × (List Int) × (List Int) × Bool × Int))) : ((List ((List Int) × (List Int) × Unit)) × (List ((List Int) × (List Int) × Unit)) × Int × (List Int) × (List Int) × (List Int) × (List Int) × (List Int) → Option ((List Int) × (List Int) × (List Int) × Bool × Int)) → (List ((List Int) × (List Int) × Unit)) × (List ((List Int) × (List Int) × Unit)) × Int × (List Int) × (List Int) × (List Int) × (List Int) × (List Int) → Option ((List Int) × (List Int) × (List Int) × Bool × Int) :=
  fun rec x => rewrite_Fork_L9_B l_1 t r6 (fun l_2 try'_1 t_1 w_1 u_1 v_1 a a_1 => rec (l_2, try'_1, t_1, w_1, u_1, v_1, a, a_1)) x.1 x.2.1 x.2.2.1 x.2.2.2.1 x.2.2.2.2.1 x.2.2.2.2.2.1 x.2.2.2.2.2.2.1 x.2.2.2.2.2.2.2
noncomputable def rewrite_Fork_L9 (l_1 : (List ((List Int) × (List Int) × Unit))) (t : Int) (r6 : ((List ((List Int) × (List Int) × Unit)) → (List ((List Int) × (List Int) × Unit)) → Int → (List Int) → (List Int) → (List Int) → Option ((List Int) × (List Int) × (List Int) × Bool × Int))) (l_2 : (List ((List Int) × (List Int) × Unit))) (try'_1 : (List ((List Int) × (List Int) × Unit))) (t_1 : Int) (w_1 : (List Int)) (u_1 : (List Int)) (v_1 : (List Int)) (a : (List Int)) (a_1 : (List Int)) : Option ((List Int) × (List Int) × (List Int) × Bool × Int) := LFix (rewrite_Fork_L9_F l_1 t r6 ) (l_2, try'_1, t_1, w_1, u_1, v_1, a, a_1)
noncomputable def rewrite_Fork_L6_B (l : (List ((List Int) × (List Int) × Unit))) (r6 : (List ((List Int) × (List Int) × Unit)) → (List ((List Int) × (List Int) × Unit)) → Int → (List Int) → (List Int) → (List Int) → Option ((List Int) × (List Int) × (List Int) × Bool × Int)) (l_1 : (List ((List Int) × (List Int) × Unit))) (try' : (List ((List Int) × (List Int) × Unit))) (t : Int) (w : (List Int)) (u : (List Int)) (v : (List Int)) : Option ((List Int) × (List Int) × (List Int) × Bool × Int) :=
  if (decide (t < (l.length : Int))) = true then
  G (0 ≤ t ∧ t < (l.length : Int)) (
  rewrite_Fork_L9 l_1 t r6 l_1 try' (0 : Int) w u v ((ix l t).1) (((ix l t).2).1)) else
  some ([], [], [], false, (0 : Int))
noncomputable def rewrite_Fork_L6_F (l : (List ((List Int) × (List Int) × Unit))) : ((List ((List Int) × (List Int) × Unit)) × (List ((List Int) × (List Int) × Unit)) × Int × (List Int) × (List Int) × (List Int) → Option ((List Int) × (List Int) × (List Int) × Bool × Int)) → (List ((List Int) × (List Int) × Unit)) × (List ((List Int) × (List Int) × Unit)) × Int × (List Int) × (List Int) × (List Int) → Option ((List Int) × (List Int) × (List Int) × Bool × Int) :=
  fun rec x => rewrite_Fork_L6_B l (fun l_1 try' t w u v => rec (l_1, try', t, w, u, v)) x.1 x.2.1 x.2.2.1 x.2.2.2.1 x.2.2.2.2.1 x.2.2.2.2.2
noncomputable def rewrite_Fork_L6 (l : (List ((List Int) × (List Int) × Unit))) (l_1 : (List ((List Int) × (List Int) × Unit))) (try' : (List ((List Int) × (List Int) × Unit))) (t : Int) (w : (List Int)) (u : (List Int)) (v : (List Int)) : Option ((List Int) × (List Int) × (List Int) × Bool × Int) := LFix (rewrite_Fork_L6_F l ) (l_1, try', t, w, u, v)
noncomputable def rewrite_Fork (letters : Int) (l : (List ((List Int) × (List Int) × Unit))) : Option ((List Int) × (List Int) × (List Int) × Bool × Int) :=
  (rewrite_Check letters l).bind (fun y' =>
  if (decide (¬ y' = (0 : Int))) = true then
  some ([], [], [], false, y') else
  rewrite_Fork_L6 l l l (0 : Int) ([]) ([]) ([]))
theorem rewrite_Fork_J17_ch (r12 : Nat → (List ((List Int) × (List Int) × Unit)) → (List ((List Int) × (List Int) × Unit)) → Int → (List Int) → (List Int) → (List Int) → (List Int) → (List Int) → (List Int) → (List Int) → Option ((List Int) × (List Int) × (List Int) × Bool × Int)) (r12' : (List ((List Int) × (List Int) × Unit)) → (List ((List Int) × (List Int) × Unit)) → Int → (List Int) → (List Int) → (List Int) → (List Int) → (List Int) → (List Int) → (List Int) → Option ((List Int) × (List Int) × (List Int) × Bool × Int)) (h_r12 : ∀ a0 a1 a2 a3 a4 a5 a6 a7 a8 a9, ChO (fun κ => r12 κ a0 a1 a2 a3 a4 a5 a6 a7 a8 a9) (r12' a0 a1 a2 a3 a4 a5 a6 a7 a8 a9)) (t_2 : Int) (a_2 : (List Int)) (a_3 : (List Int)) (l_4 : (List ((List Int) × (List Int) × Unit))) (try'_3 : (List ((List Int) × (List Int) × Unit))) (w_3 : (List Int)) (u_3 : (List Int)) (v_3 : (List Int)) (b_2 : (List Int)) (b_3 : (List Int)) : ChO (fun κ => rewrite_Fork_J17 t_2 a_2 a_3 (r12 κ) l_4 try'_3 w_3 u_3 v_3 b_2 b_3) (rewrite_Fork_J17 t_2 a_2 a_3 r12' l_4 try'_3 w_3 u_3 v_3 b_2 b_3) := by
  unfold rewrite_Fork_J17
  repeat' with_reducible first | exact ChO.const _ | exact h_r12 _ _ _ _ _ _ _ _ _ _ | apply ChO.ite | apply ChO.G | apply ChO.both | (apply ChO.bind; intro _)
theorem rewrite_Fork_L12_B_ch (r9 : Nat → (List ((List Int) × (List Int) × Unit)) → (List ((List Int) × (List Int) × Unit)) → Int → (List Int) → (List Int) → (List Int) → (List Int) → (List Int) → Option ((List Int) × (List Int) × (List Int) × Bool × Int)) (r9' : (List ((List Int) × (List Int) × Unit)) → (List ((List Int) × (List Int) × Unit)) → Int → (List Int) → (List Int) → (List Int) → (List Int) → (List Int) → Option ((List Int) × (List Int) × (List Int) × Bool × Int)) (h_r9 : ∀ a0 a1 a2 a3 a4 a5 a6 a7, ChO (fun κ => r9 κ a0 a1 a2 a3 a4 a5 a6 a7) (r9' a0 a1 a2 a3 a4 a5 a6 a7)) (r12 : Nat → (List ((List Int) × (List Int) × Unit)) → (List ((List Int) × (List Int) × Unit)) → Int → (List Int) → (List Int) → (List Int) → (List Int) → (List Int) → (List Int) → (List Int) → Option ((List Int) × (List Int) × (List Int) × Bool × Int)) (r12' : (List ((List Int) × (List Int) × Unit)) → (List ((List Int) × (List Int) × Unit)) → Int → (List Int) → (List Int) → (List Int) → (List Int) → (List Int) → (List Int) → (List Int) → Option ((List Int) × (List Int) × (List Int) × Bool × Int)) (h_r12 : ∀ a0 a1 a2 a3 a4 a5 a6 a7 a8 a9, ChO (fun κ => r12 κ a0 a1 a2 a3 a4 a5 a6 a7 a8 a9) (r12' a0 a1 a2 a3 a4 a5 a6 a7 a8 a9)) (t_1 : Int) (a : (List Int)) (l_3 : (List ((List Int) × (List Int) × Unit))) (try'_2 : (List ((List Int) × (List Int) × Unit))) (t_2 : Int) (w_2 : (List Int)) (u_2 : (List Int)) (v_2 : (List Int)) (a_2 : (List Int)) (a_3 : (List Int)) (b : (List Int)) (b_1 : (List Int)) : ChO (fun κ => rewrite_Fork_L12_B t_1 a (r9 κ) (r12 κ) l_3 try'_2 t_2 w_2 u_2 v_2 a_2 a_3 b b_1) (rewrite_Fork_L12_B t_1 a r9' r12' l_3 try'_2 t_2 w_2 u_2 v_2 a_2 a_3 b b_1) := by
  unfold rewrite_Fork_L12_B
  repeat' with_reducible first | exact ChO.const _ | exact h_r9 _ _ _ _ _ _ _ _ | exact h_r12 _ _ _ _ _ _ _ _ _ _ | (apply rewrite_Fork_J17_ch <;> assumption) | apply ChO.ite | apply ChO.G | apply ChO.both | (apply ChO.bind; intro _)
theorem rewrite_Fork_L12_cn (r9 : (List ((List Int) × (List Int) × Unit)) → (List ((List Int) × (List Int) × Unit)) → Int → (List Int) → (List Int) → (List Int) → (List Int) → (List Int) → Option ((List Int) × (List Int) × (List Int) × Bool × Int)) (t_1 : Int) (a : (List Int)) : Cn (rewrite_Fork_L12_F t_1 a r9) := fun g h hg x => rewrite_Fork_L12_B_ch (fun _ => r9) r9 (fun _ _ _ _ _ _ _ _ => ChO.const _) (fun κ l_3 try'_2 t_2 w_2 u_2 v_2 a_2 a_3 b b_1 => g κ (l_3, try'_2, t_2, w_2, u_2, v_2, a_2, a_3, b, b_1)) (fun l_3 try'_2 t_2 w_2 u_2 v_2 a_2 a_3 b b_1 => h (l_3, try'_2, t_2, w_2, u_2, v_2, a_2, a_3, b, b_1)) (fun l_3 try'_2 t_2 w_2 u_2 v_2 a_2 a_3 b b_1 => hg (l_3, try'_2, t_2, w_2, u_2, v_2, a_2, a_3, b, b_1)) t_1 a x.1 x.2.1 x.2.2.1 x.2.2.2.1 x.2.2.2.2.1 x.2.2.2.2.2.1 x.2.2.2.2.2.2.1 x.2.2.2.2.2.2.2.1 x.2.2.2.2.2.2.2.2.1 x.2.2.2.2.2.2.2.2.2
theorem rewrite_Fork_L12_eq (r9 : (List ((List Int) × (List Int) × Unit)) → (List ((List Int) × (List Int) × Unit)) → Int → (List Int) → (List Int) → (List Int) → (List Int) → (List Int) → Option ((List Int) × (List Int) × (List Int) × Bool × Int)) (t_1 : Int) (a : (List Int)) (l_3 : (List ((List Int) × (List Int) × Unit))) (try'_2 : (List ((List Int) × (List Int) × Unit))) (t_2 : Int) (w_2 : (List Int)) (u_2 : (List Int)) (v_2 : (List Int)) (a_2 : (List Int)) (a_3 : (List Int)) (b : (List Int)) (b_1 : (List Int)) : rewrite_Fork_L12 t_1 a r9 l_3 try'_2 t_2 w_2 u_2 v_2 a_2 a_3 b b_1 = rewrite_Fork_L12_B t_1 a r9 (rewrite_Fork_L12 t_1 a r9) l_3 try'_2 t_2 w_2 u_2 v_2 a_2 a_3 b b_1 := LFix_eq (rewrite_Fork_L12_cn r9 t_1 a) (l_3, try'_2, t_2, w_2, u_2, v_2, a_2, a_3, b, b_1)
theorem rewrite_Fork_L12_ch (r9 : Nat → (List ((List Int) × (List Int) × Unit)) → (List ((List Int) × (List Int) × Unit)) → Int → (List Int) → (List Int) → (List Int) → (List Int) → (List Int) → Option ((List Int) × (List Int) × (List Int) × Bool × Int)) (r9' : (List ((List Int) × (List Int) × Unit)) → (List ((List Int) × (List Int) × Unit)) → Int → (List Int) → (List Int) → (List Int) → (List Int) → (List Int) → Option ((List Int) × (List Int) × (List Int) × Bool × Int)) (h_r9 : ∀ a0 a1 a2 a3 a4 a5 a6 a7, ChO (fun κ => r9 κ a0 a1 a2 a3 a4 a5 a6 a7) (r9' a0 a1 a2 a3 a4 a5 a6 a7)) (t_1 : Int) (a : (List Int)) (l_3 : (List ((List Int) × (List Int) × Unit))) (try'_2 : (List ((List Int) × (List Int) × Unit))) (t_2 : Int) (w_2 : (List Int)) (u_2 : (List Int)) (v_2 : (List Int)) (a_2 : (List Int)) (a_3 : (List Int)) (b : (List Int)) (b_1 : (List Int)) : ChO (fun κ => rewrite_Fork_L12 t_1 a (r9 κ) l_3 try'_2 t_2 w_2 u_2 v_2 a_2 a_3 b b_1) (rewrite_Fork_L12 t_1 a r9' l_3 try'_2 t_2 w_2 u_2 v_2 a_2 a_3 b b_1) := by
  unfold rewrite_Fork_L12
  exact LFix_ch (fun κ => (rewrite_Fork_L12_cn (r9 κ) t_1 a).mono) (rewrite_Fork_L12_cn r9' t_1 a).mono (fun g h hg x => rewrite_Fork_L12_B_ch r9 r9' h_r9 (fun κ l_3 try'_2 t_2 w_2 u_2 v_2 a_2 a_3 b b_1 => g κ (l_3, try'_2, t_2, w_2, u_2, v_2, a_2, a_3, b, b_1)) (fun l_3 try'_2 t_2 w_2 u_2 v_2 a_2 a_3 b b_1 => h (l_3, try'_2, t_2, w_2, u_2, v_2, a_2, a_3, b, b_1)) (fun l_3 try'_2 t_2 w_2 u_2 v_2 a_2 a_3 b b_1 => hg (l_3, try'_2, t_2, w_2, u_2, v_2, a_2, a_3, b, b_1)) t_1 a x.1 x.2.1 x.2.2.1 x.2.2.2.1 x.2.2.2.2.1 x.2.2.2.2.2.1 x.2.2.2.2.2.2.1 x.2.2.2.2.2.2.2.1 x.2.2.2.2.2.2.2.2.1 x.2.2.2.2.2.2.2.2.2) _
theorem rewrite_Fork_L9_B_ch (r6 : Nat → (List ((List Int) × (List Int) × Unit)) → (List ((List Int) × (List Int) × Unit)) → Int → (List Int) → (List Int) → (List Int) → Option ((List Int) × (List Int) × (List Int) × Bool × Int)) (r6' : (List ((List Int) × (List Int) × Unit)) → (List ((List Int) × (List Int) × Unit)) → Int → (List Int) → (List Int) → (List Int) → Option ((List Int) × (List Int) × (List Int) × Bool × Int)) (h_r6 : ∀ a0 a1 a2 a3 a4 a5, ChO (fun κ => r6 κ a0 a1 a2 a3 a4 a5) (r6' a0 a1 a2 a3 a4 a5)) (r9 : Nat → (List ((List Int) × (List Int) × Unit)) → (List ((List Int) × (List Int) × Unit)) → Int → (List Int) → (List Int) → (List Int) → (List Int) → (List Int) → Option ((List Int) × (List Int) × (List Int) × Bool × Int)) (r9' : (List ((List Int) × (List Int) × Unit)) → (List ((List Int) × (List Int) × Unit)) → Int → (List Int) → (List Int) → (List Int) → (List Int) → (List Int) → Option ((List Int) × (List Int) × (List Int) × Bool × Int)) (h_r9 : ∀ a0 a1 a2 a3 a4 a5 a6 a7, ChO (fun κ => r9 κ a0 a1 a2 a3 a4 a5 a6 a7) (r9' a0 a1 a2 a3 a4 a5 a6 a7)) (l_1 : (List ((List Int) × (List Int) × Unit))) (t : Int) (l_2 : (List ((List Int) × (List Int) × Unit))) (try'_1 : (List ((List Int) × (List Int) × Unit))) (t_1 : Int) (w_1 : (List Int)) (u_1 : (List Int)) (v_1 : (List Int)) (a : (List Int)) (a_1 : (List Int)) : ChO (fun κ => rewrite_Fork_L9_B l_1 t (r6 κ) (r9 κ) l_2 try'_1 t_1 w_1 u_1 v_1 a a_1) (rewrite_Fork_L9_B l_1 t r6' r9' l_2 try'_1 t_1 w_1 u_1 v_1 a a_1) := by
  unfold rewrite_Fork_L9_B
  repeat' with_reducible first | exact ChO.const _ | exact h_r6 _ _ _ _ _ _ | exact h_r9 _ _ _ _ _ _ _ _ | (apply rewrite_Fork_J17_ch <;> assumption) | (apply rewrite_Fork_L12_ch <;> assumption) | apply ChO.ite | apply ChO.G | apply ChO.both | (apply ChO.bind; intro _)
theorem rewrite_Fork_L9_cn (r6 : (List ((List Int) × (List Int) × Unit)) → (List ((List Int) × (List Int) × Unit)) → Int → (List Int) → (List Int) → (List Int) → Option ((List Int) × (List Int) × (List Int) × Bool × Int)) (l_1 : (List ((List Int) × (List Int) × Unit))) (t : Int) : Cn (rewrite_Fork_L9_F l_1 t r6) := fun g h hg x => rewrite_Fork_L9_B_ch (fun _ => r6) r6 (fun _ _ _ _ _ _ => ChO.const _) (fun κ l_2 try'_1 t_1 w_1 u_1 v_1 a a_1 => g κ (l_2, try'_1, t_1, w_1, u_1, v_1, a, a_1)) (fun l_2 try'_1 t_1 w_1 u_1 v_1 a a_1 => h (l_2, try'_1, t_1, w_1, u_1, v_1, a, a_1)) (fun l_2 try'_1 t_1 w_1 u_1 v_1 a a_1 => hg (l_2, try'_1, t_1, w_1, u_1, v_1, a, a_1)) l_1 t x.1 x.2.1 x.2.2.1 x.2.2.2.1 x.2.2.2.2.1 x.2.2.2.2.2.1 x.2.2.2.2.2.2.1 x.2.2.2.2.2.2.2
theorem rewrite_Fork_L9_eq (r6 : (List ((List Int) × (List Int) × Unit)) → (List ((List Int) × (List Int) × Unit)) → Int → (List Int) → (List Int) → (List Int) → Option ((List Int) × (List Int) × (List Int) × Bool × Int)) (l_1 : (List ((List Int) × (List Int) × Unit))) (t : Int) (l_2 : (List ((List Int) × (List Int) × Unit))) (try'_1 : (List ((List Int) × (List Int) × Unit))) (t_1 : Int) (w_1 : (List Int)) (u_1 : (List Int)) (v_1 : (List Int)) (a : (List Int)) (a_1 : (List Int)) : rewrite_Fork_L9 l_1 t r6 l_2 try'_1 t_1 w_1 u_1 v_1 a a_1 = rewrite_Fork_L9_B l_1 t r6 (rewrite_Fork_L9 l_1 t r6) l_2 try'_1 t_1 w_1 u_1 v_1 a a_1 := LFix_eq (rewrite_Fork_L9_cn r6 l_1 t) (l_2, try'_1, t_1, w_1, u_1, v_1, a, a_1)
theorem rewrite_Fork_L9_ch (r6 : Nat → (List ((List Int) × (List Int) × Unit)) → (List ((List Int) × (List Int) × Unit)) → Int → (List Int) → (List Int) → (List Int) → Option ((List Int) × (List Int) × (List Int) × Bool × Int)) (r6' : (List ((List Int) × (List Int) × Unit)) → (List ((List Int) × (List Int) × Unit)) → Int → (List Int) → (List Int) → (List Int) → Option ((List Int) × (List Int) × (List Int) × Bool × Int)) (h_r6 : ∀ a0 a1 a2 a3 a4 a5, ChO (fun κ => r6 κ a0 a1 a2 a3 a4 a5) (r6' a0 a1 a2 a3 a4 a5)) (l_1 : (List ((List Int) × (List Int) × Unit))) (t : Int) (l_2 : (List ((List Int) × (List Int) × Unit))) (try'_1 : (List ((List Int) × (List Int) × Unit))) (t_1 : Int) (w_1 : (List Int)) (u_1 : (List Int)) (v_1 : (List Int)) (a : (List Int)) (a_1 : (List Int)) : ChO (fun κ => rewrite_Fork_L9 l_1 t (r6 κ) l_2 try'_1 t_1 w_1 u_1 v_1 a a_1) (rewrite_Fork_L9 l_1 t r6' l_2 try'_1 t_1 w_1 u_1 v_1 a a_1) := by
  unfold rewrite_Fork_L9
  exact LFix_ch (fun κ => (rewrite_Fork_L9_cn (r6 κ) l_1 t).mono) (rewrite_Fork_L9_cn r6' l_1 t).mono (fun g h hg x => rewrite_Fork_L9_B_ch r6 r6' h_r6 (fun κ l_2 try'_1 t_1 w_1 u_1 v_1 a a_1 => g κ (l_2, try'_1, t_1, w_1, u_1, v_1, a, a_1)) (fun l_2 try'_1 t_1 w_1 u_1 v_1 a a_1 => h (l_2, try'_1, t_1, w_1, u_1, v_1, a, a_1)) (fun l_2 try'_1 t_1 w_1 u_1 v_1 a a_1 => hg (l_2, try'_1, t_1, w_1, u_1, v_1, a, a_1)) l_1 t x.1 x.2.1 x.2.2.1 x.2.2.2.1 x.2.2.2.2.1 x.2.2.2.2.2.1 x.2.2.2.2.2.2.1 x.2.2.2.2.2.2.2) _
theorem rewrite_Fork_L6_B_ch (r6 : Nat → (List ((List Int) × (List Int) × Unit)) → (List ((List Int) × (List Int) × Unit)) → Int → (List Int) → (List Int) → (List Int) → Option ((List Int) × (List Int) × (List Int) × Bool × Int)) (r6' : (List ((List Int) × (List Int) × Unit)) → (List ((List Int) × (List Int) × Unit)) → Int → (List Int) → (List Int) → (List Int) → Option ((List Int) × (List Int) × (List Int) × Bool × Int)) (h_r6 : ∀ a0 a1 a2 a3 a4 a5, ChO (fun κ => r6 κ a0 a1 a2 a3 a4 a5) (r6' a0 a1 a2 a3 a4 a5)) (l : (List ((List Int) × (List Int) × Unit))) (l_1 : (List ((List Int) × (List Int) × Unit))) (try' : (List ((List Int) × (List Int) × Unit))) (t : Int) (w : (List Int)) (u : (List Int)) (v : (List Int)) : ChO (fun κ => rewrite_Fork_L6_B l (r6 κ) l_1 try' t w u v) (rewrite_Fork_L6_B l r6' l_1 try' t w u v) := by
  unfold rewrite_Fork_L6_B
  repeat' with_reducible first | exact ChO.const _ | exact h_r6 _ _ _ _ _ _ | (apply rewrite_Fork_J17_ch <;> assumption) | (apply rewrite_Fork_L12_ch <;> assumption) | (apply rewrite_Fork_L9_ch <;> assumption) | apply ChO.ite | apply ChO.G | apply ChO.both | (apply ChO.bind; intro _)
theorem rewrite_Fork_L6_cn  (l : (List ((List Int) × (List Int) × Unit))) : Cn (rewrite_Fork_L6_F l) := fun g h hg x => rewrite_Fork_L6_B_ch  (fun κ l_1 try' t w u v => g κ (l_1, try', t, w, u, v)) (fun l_1 try' t w u v => h (l_1, try', t, w, u, v)) (fun l_1 try' t w u v => hg (l_1, try', t, w, u, v)) l x.1 x.2.1 x.2.2.1 x.2.2.2.1 x.2.2.2.2.1 x.2.2.2.2.2
theorem rewrite_Fork_L6_eq  (l : (List ((List Int) × (List Int) × Unit))) (l_1 : (List ((List Int) × (List Int) × Unit))) (try' : (List ((List Int) × (List Int) × Unit))) (t : Int) (w : (List Int)) (u : (List Int)) (v : (List Int)) : rewrite_Fork_L6 l l_1 try' t w u v = rewrite_Fork_L6_B l (rewrite_Fork_L6 l) l_1 try' t w u v := LFix_eq (rewrite_Fork_L6_cn l) (l_1, try', t, w, u, v)

noncomputable def r29_letters_L2_B (w : (List Int)) (n : Int) (r2 : Int → Option (Bool)) (i : Int) : Option (Bool) :=
  if (decide (i < (w.length : Int))) = true then
  G (0 ≤ i ∧ i < (w.length : Int)) (
  if (decide ((ix w i) < (0 : Int))) = true then
  some false else
  G (0 ≤ i ∧ i < (w.length : Int)) (
  if (decide (n ≤ (ix w i))) = true then
  some false else
  G (fits (i + (1 : Int))) (
  r2 (i + (1 : Int))))) else
  some true
noncomputable def r29_letters_L2_F (w : (List Int)) (n : Int) : (Int → Option (Bool)) → Int → Option (Bool) :=
  fun rec x => r29_letters_L2_B w n (fun i => rec i) x
noncomputable def r29_letters_L2 (w : (List Int)) (n : Int) (i : Int) : Option (Bool) := LFix (r29_letters_L2_F w n ) i
noncomputable def r29_letters (w : (List Int)) (n : Int) : Option (Bool) :=
  r29_letters_L2 w n (0 : Int)
theorem r29_letters_L2_B_ch (r2 : Nat → Int → Option (Bool)) (r2' : Int → Option (Bool)) (h_r2 : ∀ a0, ChO (fun κ => r2 κ a0) (r2' a0)) (w : (List Int)) (n : Int) (i : Int) : ChO (fun κ => r29_letters_L2_B w n (r2 κ) i) (r29_letters_L2_B w n r2' i) := by
  unfold r29_letters_L2_B
  repeat' with_reducible first | exact ChO.const _ | exact h_r2 _ | apply ChO.ite | apply ChO.G | apply ChO.both | (apply ChO.bind; intro _)
theorem r29_letters_L2_cn  (w : (List Int)) (n : Int) : Cn (r29_letters_L2_F w n) := fun g h hg x => r29_letters_L2_B_ch  (fun κ i => g κ i) (fun i => h i) (fun i => hg i) w n x
theorem r29_letters_L2_eq  (w : (List Int)) (n : Int) (i : Int) : r29_letters_L2 w n i = r29_letters_L2_B w n (r29_letters_L2 w n) i := LFix_eq (r29_letters_L2_cn w n) i

noncomputable def r1_Before_L4_B (a : (List Int)) (b : (List Int)) (r4 : Int → Option (Bool)) (i : Int) : Option (Bool) :=
  if (decide (i < (a.length : Int))) = true then
  G (0 ≤ i ∧ i < (a.length : Int)) (
  G (0 ≤ i ∧ i < (b.length : Int)) (
  if (decide (¬ (ix a i) = (ix b i))) = true then
  G (0 ≤ i ∧ i < (a.length : Int)) (
  G (0 ≤ i ∧ i < (b.length : Int)) (
  some (decide ((ix a i) < (ix b i))))) else
  G (fits (i + (1 : Int))) (
  r4 (i + (1 : Int))))) else
  some false
noncomputable def r1_Before_L4_F (a : (List Int)) (b : (List Int)) : (Int → Option (Bool)) → Int → Option (Bool) :=
  fun rec x => r1_Before_L4_B a b (fun i => rec i) x
noncomputable def r1_Before_L4 (a : (List Int)) (b : (List Int)) (i : Int) : Option (Bool) := LFix (r1_Before_L4_F a b ) i
noncomputable def r1_Before (a : (List Int)) (b : (List Int)) : Option (Bool) :=
  if (decide (¬ (a.length : Int) = (b.length : Int))) = true then
  some (decide ((a.length : Int) < (b.length : Int))) else
  r1_Before_L4 a b (0 : Int)
theorem r1_Before_L4_B_ch (r4 : Nat → Int → Option (Bool)) (r4' : Int → Option (Bool)) (h_r4 : ∀ a0, ChO (fun κ => r4 κ a0) (r4' a0)) (a : (List Int)) (b : (List Int)) (i : Int) : ChO (fun κ => r1_Before_L4_B a b (r4 κ) i) (r1_Before_L4_B a b r4' i) := by
  unfold r1_Before_L4_B
  repeat' with_reducible first | exact ChO.const _ | exact h_r4 _ | apply ChO.ite | apply ChO.G | apply ChO.both | (apply ChO.bind; intro _)
theorem r1_Before_L4_cn  (a : (List Int)) (b : (List Int)) : Cn (r1_Before_L4_F a b) := fun g h hg x => r1_Before_L4_B_ch  (fun κ i => g κ i) (fun i => h i) (fun i => hg i) a b x
theorem r1_Before_L4_eq  (a : (List Int)) (b : (List Int)) (i : Int) : r1_Before_L4 a b i = r1_Before_L4_B a b (r1_Before_L4 a b) i := LFix_eq (r1_Before_L4_cn a b) i

noncomputable def r29_Check_L6_B (n : Int) (l : (List ((List Int) × (List Int) × Unit))) (r6 : Int → Option (Int)) (i : Int) : Option (Int) :=
  if (decide (i < (l.length : Int))) = true then
  G (0 ≤ i ∧ i < (l.length : Int)) (
  if (decide ((((ix l i).1).length : Int) < (1 : Int))) = true then
  some (1 : Int) else
  if (decide ((5 : Int) < (((ix l i).1).length : Int))) = true then
  some (1 : Int) else
  if (decide ((5 : Int) < ((((ix l i).2).1).length : Int))) = true then
  some (1 : Int) else
  (r29_letters ((ix l i).1) n).bind (fun y' =>
  (r29_letters (((ix l i).2).1) n).bind (fun y'_1 =>
  if (!y') = true then
  some (2 : Int) else
  if (!y'_1) = true then
  some (2 : Int) else
  (r1_Before (((ix l i).2).1) ((ix l i).1)).bind (fun y'_2 =>
  if (!y'_2) = true then
  some (3 : Int) else
  G (fits (i + (1 : Int))) (
  r6 (i + (1 : Int))))))) else
  some (0 : Int)
noncomputable def r29_Check_L6_F (n : Int) (l : (List ((List Int) × (List Int) × Unit))) : (Int → Option (Int)) → Int → Option (Int) :=
  fun rec x => r29_Check_L6_B n l (fun i => rec i) x
noncomputable def r29_Check_L6 (n : Int) (l : (List ((List Int) × (List Int) × Unit))) (i : Int) : Option (Int) := LFix (r29_Check_L6_F n l ) i
noncomputable def r29_Check (n : Int) (l : (List ((List Int) × (List Int) × Unit))) : Option (Int) :=
  if (decide (n < (1 : Int))) = true then
  some (2 : Int) else
  if (decide ((4 : Int) < n)) = true then
  some (2 : Int) else
  if (decide ((8 : Int) < (l.length : Int))) = true then
  some (1 : Int) else
  r29_Check_L6 n l (0 : Int)
theorem r29_Check_L6_B_ch (r6 : Nat → Int → Option (Int)) (r6' : Int → Option (Int)) (h_r6 : ∀ a0, ChO (fun κ => r6 κ a0) (r6' a0)) (n : Int) (l : (List ((List Int) × (List Int) × Unit))) (i : Int) : ChO (fun κ => r29_Check_L6_B n l (r6 κ) i) (r29_Check_L6_B n l r6' i) := by
  unfold r29_Check_L6_B
  repeat' with_reducible first | exact ChO.const _ | exact h_r6 _ | apply ChO.ite | apply ChO.G | apply ChO.both | (apply ChO.bind; intro _)
theorem r29_Check_L6_cn  (n : Int) (l : (List ((List Int) × (List Int) × Unit))) : Cn (r29_Check_L6_F n l) := fun g h hg x => r29_Check_L6_B_ch  (fun κ i => g κ i) (fun i => h i) (fun i => hg i) n l x
theorem r29_Check_L6_eq  (n : Int) (l : (List ((List Int) × (List Int) × Unit))) (i : Int) : r29_Check_L6 n l i = r29_Check_L6_B n l (r29_Check_L6 n l) i := LFix_eq (r29_Check_L6_cn n l) i

noncomputable def r1_Words_L4_B (a : (List Int)) (b : (List Int)) (r4 : Int → Option (Bool)) (i : Int) : Option (Bool) :=
  if (decide (i < (a.length : Int))) = true then
  G (0 ≤ i ∧ i < (a.length : Int)) (
  G (0 ≤ i ∧ i < (b.length : Int)) (
  if (decide (¬ (ix a i) = (ix b i))) = true then
  some false else
  G (fits (i + (1 : Int))) (
  r4 (i + (1 : Int))))) else
  some true
noncomputable def r1_Words_L4_F (a : (List Int)) (b : (List Int)) : (Int → Option (Bool)) → Int → Option (Bool) :=
  fun rec x => r1_Words_L4_B a b (fun i => rec i) x
noncomputable def r1_Words_L4 (a : (List Int)) (b : (List Int)) (i : Int) : Option (Bool) := LFix (r1_Words_L4_F a b ) i
noncomputable def r1_Words (a : (List Int)) (b : (List Int)) : Option (Bool) :=
  if (decide (¬ (a.length : Int) = (b.length : Int))) = true then
  some false else
  r1_Words_L4 a b (0 : Int)
theorem r1_Words_L4_B_ch (r4 : Nat → Int → Option (Bool)) (r4' : Int → Option (Bool)) (h_r4 : ∀ a0, ChO (fun κ => r4 κ a0) (r4' a0)) (a : (List Int)) (b : (List Int)) (i : Int) : ChO (fun κ => r1_Words_L4_B a b (r4 κ) i) (r1_Words_L4_B a b r4' i) := by
  unfold r1_Words_L4_B
  repeat' with_reducible first | exact ChO.const _ | exact h_r4 _ | apply ChO.ite | apply ChO.G | apply ChO.both | (apply ChO.bind; intro _)
theorem r1_Words_L4_cn  (a : (List Int)) (b : (List Int)) : Cn (r1_Words_L4_F a b) := fun g h hg x => r1_Words_L4_B_ch  (fun κ i => g κ i) (fun i => h i) (fun i => hg i) a b x
theorem r1_Words_L4_eq  (a : (List Int)) (b : (List Int)) (i : Int) : r1_Words_L4 a b i = r1_Words_L4_B a b (r1_Words_L4 a b) i := LFix_eq (r1_Words_L4_cn a b) i

noncomputable def r29_Swapped (w : (List Int)) (s : ((List Int) × (List Int) × Unit)) (at' : Int) : Option (List Int) :=
  G (0 ≤ (0 : Int) ∧ (0 : Int) ≤ at' ∧ at' ≤ (w.length : Int)) (
  G (room ([] : List Int) (cut w (0 : Int) at') 8) (
  G (room (cut w (0 : Int) at') s.2.1 8) (
  G (fits (at' + (s.1.length : Int))) (
  G (0 ≤ at' + (s.1.length : Int) ∧ at' + (s.1.length : Int) ≤ (w.length : Int) ∧ (w.length : Int) ≤ (w.length : Int)) (
  G (room ((cut w (0 : Int) at') ++ s.2.1) (cut w (at' + (s.1.length : Int)) (w.length : Int)) 8) (
  some (((cut w (0 : Int) at') ++ s.2.1) ++ (cut w (at' + (s.1.length : Int)) (w.length : Int)))))))))

noncomputable def r29_Stands (w : (List Int)) (v : (List Int)) (at' : Int) : Option (Bool) :=
  G (fits (at' + (v.length : Int))) (
  if (decide ((w.length : Int) < (at' + (v.length : Int)))) = true then
  some false else
  G (fits (at' + (v.length : Int))) (
  G (0 ≤ at' ∧ at' ≤ at' + (v.length : Int) ∧ at' + (v.length : Int) ≤ (w.length : Int)) (
  (r1_Words (cut w at' (at' + (v.length : Int))) v).bind (fun y' =>
  some y'))))

noncomputable def r29_Step_L5_B (l : (List ((List Int) × (List Int) × Unit))) (w : (List Int)) (at' : Int) (r2 : (Int → Option ((List Int) × Bool))) (r5 : Int → Option ((List Int) × Bool)) (i : Int) : Option ((List Int) × Bool) :=
  if (decide (i < (l.length : Int))) = true then
  G (0 ≤ i ∧ i < (l.length : Int)) (
  (r29_Stands w ((ix l i).1) at').bind (fun y' =>
  if y' = true then
  G (0 ≤ i ∧ i < (l.length : Int)) (
  (r29_Swapped w (ix l i) at').bind (fun y'_1 =>
  some (y'_1, true))) else
  G (fits (i + (1 : Int))) (
  r5 (i + (1 : Int))))) else
  G (fits (at' + (1 : Int))) (
  r2 (at' + (1 : Int)))
noncomputable def r29_Step_L5_F (l : (List ((List Int) × (List Int) × Unit))) (w : (List Int)) (at' : Int) (r2 : (Int → Option ((List Int) × Bool))) : (Int → Option ((List Int) × Bool)) → Int → Option ((List Int) × Bool) :=
  fun rec x => r29_Step_L5_B l w at' r2 (fun i => rec i) x
noncomputable def r29_Step_L5 (l : (List ((List Int) × (List Int) × Unit))) (w : (List Int)) (at' : Int) (r2 : (Int → Option ((List Int) × Bool))) (i : Int) : Option ((List Int) × Bool) := LFix (r29_Step_L5_F l w at' r2 ) i
noncomputable def r29_Step_L2_B (l : (List ((List Int) × (List Int) × Unit))) (w : (List Int)) (r2 : Int → Option ((List Int) × Bool)) (at' : Int) : Option ((List Int) × Bool) :=
  if (decide (at' < (w.length : Int))) = true then
  r29_Step_L5 l w at' r2 (0 : Int) else
  some (w, false)
noncomputable def r29_Step_L2_F (l : (List ((List Int) × (List Int) × Unit))) (w : (List Int)) : (Int → Option ((List Int) × Bool)) → Int → Option ((List Int) × Bool) :=
  fun rec x => r29_Step_L2_B l w (fun at' => rec at') x
noncomputable def r29_Step_L2 (l : (List ((List Int) × (List Int) × Unit))) (w : (List Int)) (at' : Int) : Option ((List Int) × Bool) := LFix (r29_Step_L2_F l w ) at'
noncomputable def r29_Step (l : (List ((List Int) × (List Int) × Unit))) (w : (List Int)) : Option ((List Int) × Bool) :=
  r29_Step_L2 l w (0 : Int)
theorem r29_Step_L5_B_ch (r2 : Nat → Int → Option ((List Int) × Bool)) (r2' : Int → Option ((List Int) × Bool)) (h_r2 : ∀ a0, ChO (fun κ => r2 κ a0) (r2' a0)) (r5 : Nat → Int → Option ((List Int) × Bool)) (r5' : Int → Option ((List Int) × Bool)) (h_r5 : ∀ a0, ChO (fun κ => r5 κ a0) (r5' a0)) (l : (List ((List Int) × (List Int) × Unit))) (w : (List Int)) (at' : Int) (i : Int) : ChO (fun κ => r29_Step_L5_B l w at' (r2 κ) (r5 κ) i) (r29_Step_L5_B l w at' r2' r5' i) := by
  unfold r29_Step_L5_B
  repeat' with_reducible first | exact ChO.const _ | exact h_r2 _ | exact h_r5 _ | apply ChO.ite | apply ChO.G | apply ChO.both | (apply ChO.bind; intro _)
theorem r29_Step_L5_cn (r2 : Int → Option ((List Int) × Bool)) (l : (List ((List Int) × (List Int) × Unit))) (w : (List Int)) (at' : Int) : Cn (r29_Step_L5_F l w at' r2) := fun g h hg x => r29_Step_L5_B_ch (fun _ => r2) r2 (fun _ => ChO.const _) (fun κ i => g κ i) (fun i => h i) (fun i => hg i) l w at' x
theorem r29_Step_L5_eq (r2 : Int → Option ((List Int) × Bool)) (l : (List ((List Int) × (List Int) × Unit))) (w : (List Int)) (at' : Int) (i : Int) : r29_Step_L5 l w at' r2 i = r29_Step_L5_B l w at' r2 (r29_Step_L5 l w at' r2) i := LFix_eq (r29_Step_L5_cn r2 l w at') i
theorem r29_Step_L5_ch (r2 : Nat → Int → Option ((List Int) × Bool)) (r2' : Int → Option ((List Int) × Bool)) (h_r2 : ∀ a0, ChO (fun κ => r2 κ a0) (r2' a0)) (l : (List ((List Int) × (List Int) × Unit))) (w : (List Int)) (at' : Int) (i : Int) : ChO (fun κ => r29_Step_L5 l w at' (r2 κ) i) (r29_Step_L5 l w at' r2' i) := by
  unfold r29_Step_L5
  exact LFix_ch (fun κ => (r29_Step_L5_cn (r2 κ) l w at').mono) (r29_Step_L5_cn r2' l w at').mono (fun g h hg x => r29_Step_L5_B_ch r2 r2' h_r2 (fun κ i => g κ i) (fun i => h i) (fun i => hg i) l w at' x) _
theorem r29_Step_L2_B_ch (r2 : Nat → Int → Option ((List Int) × Bool)) (r2' : Int → Option ((List Int) × Bool)) (h_r2 : ∀ a0, ChO (fun κ => r2 κ a0) (r2' a0)) (l : (List ((List Int) × (List Int) × Unit))) (w : (List Int)) (at' : Int) : ChO (fun κ => r29_Step_L2_B l w (r2 κ) at') (r29_Step_L2_B l w r2' at') := by
  unfold r29_Step_L2_B
  repeat' with_reducible first | exact ChO.const _ | exact h_r2 _ | (apply r29_Step_L5_ch <;> assumption) | apply ChO.ite | apply ChO.G | apply ChO.both | (apply ChO.bind; intro _)
theorem r29_Step_L2_cn  (l : (List ((List Int) × (List Int) × Unit))) (w : (List Int)) : Cn (r29_Step_L2_F l w) := fun g h hg x => r29_Step_L2_B_ch  (fun κ at' => g κ at') (fun at' => h at') (fun at' => hg at') l w x
theorem r29_Step_L2_eq  (l : (List ((List Int) × (List Int) × Unit))) (w : (List Int)) (at' : Int) : r29_Step_L2 l w at' = r29_Step_L2_B l w (r29_Step_L2 l w) at' := LFix_eq (r29_Step_L2_cn l w) at'

noncomputable def r29_Normal_L2_B (l : (List ((List Int) × (List Int) × Unit))) (r2 : (List Int) → Bool → Option (List Int)) (w_1 : (List Int)) (more : Bool) : Option (List Int) :=
  if more = true then
  (r29_Step l w_1).bind (fun y'_3 =>
  r2 y'_3.1 y'_3.2) else
  some w_1
noncomputable def r29_Normal_L2_F (l : (List ((List Int) × (List Int) × Unit))) : ((List Int) × Bool → Option (List Int)) → (List Int) × Bool → Option (List Int) :=
  fun rec x => r29_Normal_L2_B l (fun w_1 more => rec (w_1, more)) x.1 x.2
noncomputable def r29_Normal_L2 (l : (List ((List Int) × (List Int) × Unit))) (w_1 : (List Int)) (more : Bool) : Option (List Int) := LFix (r29_Normal_L2_F l ) (w_1, more)
noncomputable def r29_Normal (l : (List ((List Int) × (List Int) × Unit))) (w : (List Int)) : Option (List Int) :=
  r29_Normal_L2 l w true
theorem r29_Normal_L2_B_ch (r2 : Nat → (List Int) → Bool → Option (List Int)) (r2' : (List Int) → Bool → Option (List Int)) (h_r2 : ∀ a0 a1, ChO (fun κ => r2 κ a0 a1) (r2' a0 a1)) (l : (List ((List Int) × (List Int) × Unit))) (w_1 : (List Int)) (more : Bool) : ChO (fun κ => r29_Normal_L2_B l (r2 κ) w_1 more) (r29_Normal_L2_B l r2' w_1 more) := by
  unfold r29_Normal_L2_B
  repeat' with_reducible first | exact ChO.const _ | exact h_r2 _ _ | apply ChO.ite | apply ChO.G | apply ChO.both | (apply ChO.bind; intro _)
theorem r29_Normal_L2_cn  (l : (List ((List Int) × (List Int) × Unit))) : Cn (r29_Normal_L2_F l) := fun g h hg x => r29_Normal_L2_B_ch  (fun κ w_1 more => g κ (w_1, more)) (fun w_1 more => h (w_1, more)) (fun w_1 more => hg (w_1, more)) l x.1 x.2
theorem r29_Normal_L2_eq  (l : (List ((List Int) × (List Int) × Unit))) (w_1 : (List Int)) (more : Bool) : r29_Normal_L2 l w_1 more = r29_Normal_L2_B l (r29_Normal_L2 l) w_1 more := LFix_eq (r29_Normal_L2_cn l) (w_1, more)

noncomputable def r29_Meet_J12 (l : (List ((List Int) × (List Int) × Unit))) (i : Int) (k : Int) (at' : Int) (r8 : (Int → Option (Bool))) (n : Int) : Option (Bool) :=
  G (0 ≤ i ∧ i < (l.length : Int)) (
  G (fits (at' + n)) (
  G (0 ≤ at' ∧ at' ≤ at' + n ∧ at' + n ≤ (((ix l i).1).length : Int)) (
  G (0 ≤ k ∧ k < (l.length : Int)) (
  G (0 ≤ (0 : Int) ∧ (0 : Int) ≤ n ∧ n ≤ (((ix l k).1).length : Int)) (
  (r1_Words (cut ((ix l i).1) at' (at' + n)) (cut ((ix l k).1) (0 : Int) n)).bind (fun y' =>
  if (!y') = true then
  G (fits (at' + (1 : Int))) (
  r8 (at' + (1 : Int))) else
  G (0 ≤ i ∧ i < (l.length : Int)) (
  G (room ([] : List Int) ((ix l i).1) 8) (
  G (0 ≤ k ∧ k < (l.length : Int)) (
  G (0 ≤ n ∧ n ≤ (((ix l k).1).length : Int) ∧ (((ix l k).1).length : Int) ≤ (((ix l k).1).length : Int)) (
  G (room (([] : List Int) ++ ((ix l i).1)) (cut ((ix l k).1) n (((ix l k).1).length : Int)) 8) (
  G (0 ≤ i ∧ i < (l.length : Int)) (
  (r29_Swapped ((([] : List Int) ++ ((ix l i).1)) ++ (cut ((ix l k).1) n (((ix l k).1).length : Int))) (ix l i) (0 : Int)).bind (fun y'_1 =>
  G (0 ≤ k ∧ k < (l.length : Int)) (
  (r29_Swapped ((([] : List Int) ++ ((ix l i).1)) ++ (cut ((ix l k).1) n (((ix l k).1).length : Int))) (ix l k) at').bind (fun y'_2 =>
  (r29_Normal l y'_1).bind (fun y'_3 =>
  (r29_Normal l y'_2).bind (fun y'_4 =>
  (r1_Words y'_3 y'_4).bind (fun y'_5 =>
  if (!y'_5) = true then
  some false else
  G (fits (at' + (1 : Int))) (
  r8 (at' + (1 : Int)))))))))))))))))))))
noncomputable def r29_Meet_L8_B (l : (List ((List Int) × (List Int) × Unit))) (i : Int) (k : Int) (r5 : (Int → Option (Bool))) (r8 : Int → Option (Bool)) (at' : Int) : Option (Bool) :=
  G (0 ≤ i ∧ i < (l.length : Int)) (
  if (decide (at' < (((ix l i).1).length : Int))) = true then
  G (0 ≤ i ∧ i < (l.length : Int)) (
  G (fits ((((ix l i).1).length : Int) - at')) (
  G (0 ≤ k ∧ k < (l.length : Int)) (
  if (decide ((((ix l k).1).length : Int) < ((((ix l i).1).length : Int) - at'))) = true then
  G (0 ≤ k ∧ k < (l.length : Int)) (
  r29_Meet_J12 l i k at' r8 (((ix l k).1).length : Int)) else
  r29_Meet_J12 l i k at' r8 ((((ix l i).1).length : Int) - at')))) else
  G (fits (k + (1 : Int))) (
  r5 (k + (1 : Int))))
noncomputable def r29_Meet_L8_F (l : (List ((List Int) × (List Int) × Unit))) (i : Int) (k : Int) (r5 : (Int → Option (Bool))) : (Int → Option (Bool)) → Int → Option (Bool) :=
  fun rec x => r29_Meet_L8_B l i k r5 (fun at' => rec at') x
noncomputable def r29_Meet_L8 (l : (List ((List Int) × (List Int) × Unit))) (i : Int) (k : Int) (r5 : (Int → Option (Bool))) (at' : Int) : Option (Bool) := LFix (r29_Meet_L8_F l i k r5 ) at'
noncomputable def r29_Meet_L5_B (l : (List ((List Int) × (List Int) × Unit))) (i : Int) (r2 : (Int → Option (Bool))) (r5 : Int → Option (Bool)) (k : Int) : Option (Bool) :=
  if (decide (k < (l.length : Int))) = true then
  r29_Meet_L8 l i k r5 (0 : Int) else
  G (fits (i + (1 : Int))) (
  r2 (i + (1 : Int)))
noncomputable def r29_Meet_L5_F (l : (List ((List Int) × (List Int) × Unit))) (i : Int) (r2 : (Int → Option (Bool))) : (Int → Option (Bool)) → Int → Option (Bool) :=
  fun rec x => r29_Meet_L5_B l i r2 (fun k => rec k) x
noncomputable def r29_Meet_L5 (l : (List ((List Int) × (List Int) × Unit))) (i : Int) (r2 : (Int → Option (Bool))) (k : Int) : Option (Bool) := LFix (r29_Meet_L5_F l i r2 ) k
noncomputable def r29_Meet_L2_B (l : (List ((List Int) × (List Int) × Unit))) (r2 : Int → Option (Bool)) (i : Int) : Option (Bool) :=
  if (decide (i < (l.length : Int))) = true then
  r29_Meet_L5 l i r2 (0 : Int) else
  some true
noncomputable def r29_Meet_L2_F (l : (List ((List Int) × (List Int) × Unit))) : (Int → Option (Bool)) → Int → Option (Bool) :=
  fun rec x => r29_Meet_L2_B l (fun i => rec i) x
noncomputable def r29_Meet_L2 (l : (List ((List Int) × (List Int) × Unit))) (i : Int) : Option (Bool) := LFix (r29_Meet_L2_F l ) i
noncomputable def r29_Meet (l : (List ((List Int) × (List Int) × Unit))) : Option (Bool) :=
  r29_Meet_L2 l (0 : Int)
theorem r29_Meet_J12_ch (r8 : Nat → Int → Option (Bool)) (r8' : Int → Option (Bool)) (h_r8 : ∀ a0, ChO (fun κ => r8 κ a0) (r8' a0)) (l : (List ((List Int) × (List Int) × Unit))) (i : Int) (k : Int) (at' : Int) (n : Int) : ChO (fun κ => r29_Meet_J12 l i k at' (r8 κ) n) (r29_Meet_J12 l i k at' r8' n) := by
  unfold r29_Meet_J12
  repeat' with_reducible first | exact ChO.const _ | exact h_r8 _ | apply ChO.ite | apply ChO.G | apply ChO.both | (apply ChO.bind; intro _)
theorem r29_Meet_L8_B_ch (r5 : Nat → Int → Option (Bool)) (r5' : Int → Option (Bool)) (h_r5 : ∀ a0, ChO (fun κ => r5 κ a0) (r5' a0)) (r8 : Nat → Int → Option (Bool)) (r8' : Int → Option (Bool)) (h_r8 : ∀ a0, ChO (fun κ => r8 κ a0) (r8' a0)) (l : (List ((List Int) × (List Int) × Unit))) (i : Int) (k : Int) (at' : Int) : ChO (fun κ => r29_Meet_L8_B l i k (r5 κ) (r8 κ) at') (r29_Meet_L8_B l i k r5' r8' at') := by
  unfold r29_Meet_L8_B
  repeat' with_reducible first | exact ChO.const _ | exact h_r5 _ | exact h_r8 _ | (apply r29_Meet_J12_ch <;> assumption) | apply ChO.ite | apply ChO.G | apply ChO.both | (apply ChO.bind; intro _)
theorem r29_Meet_L8_cn (r5 : Int → Option (Bool)) (l : (List ((List Int) × (List Int) × Unit))) (i : Int) (k : Int) : Cn (r29_Meet_L8_F l i k r5) := fun g h hg x => r29_Meet_L8_B_ch (fun _ => r5) r5 (fun _ => ChO.const _) (fun κ at' => g κ at') (fun at' => h at') (fun at' => hg at') l i k x
theorem r29_Meet_L8_eq (r5 : Int → Option (Bool)) (l : (List ((List Int) × (List Int) × Unit))) (i : Int) (k : Int) (at' : Int) : r29_Meet_L8 l i k r5 at' = r29_Meet_L8_B l i k r5 (r29_Meet_L8 l i k r5) at' := LFix_eq (r29_Meet_L8_cn r5 l i k) at'
theorem r29_Meet_L8_ch (r5 : Nat → Int → Option (Bool)) (r5' : Int → Option (Bool)) (h_r5 : ∀ a0, ChO (fun κ => r5 κ a0) (r5' a0)) (l : (List ((List Int) × (List Int) × Unit))) (i : Int) (k : Int) (at' : Int) : ChO (fun κ => r29_Meet_L8 l i k (r5 κ) at') (r29_Meet_L8 l i k r5' at') := by
  unfold r29_Meet_L8
  exact LFix_ch (fun κ => (r29_Meet_L8_cn (r5 κ) l i k).mono) (r29_Meet_L8_cn r5' l i k).mono (fun g h hg x => r29_Meet_L8_B_ch r5 r5' h_r5 (fun κ at' => g κ at') (fun at' => h at') (fun at' => hg at') l i k x) _
theorem r29_Meet_L5_B_ch (r2 : Nat → Int → Option (Bool)) (r2' : Int → Option (Bool)) (h_r2 : ∀ a0, ChO (fun κ => r2 κ a0) (r2' a0)) (r5 : Nat → Int → Option (Bool)) (r5' : Int → Option (Bool)) (h_r5 : ∀ a0, ChO (fun κ => r5 κ a0) (r5' a0)) (l : (List ((List Int) × (List Int) × Unit))) (i : Int) (k : Int) : ChO (fun κ => r29_Meet_L5_B l i (r2 κ) (r5 κ) k) (r29_Meet_L5_B l i r2' r5' k) := by
  unfold r29_Meet_L5_B
  repeat' with_reducible first | exact ChO.const _ | exact h_r2 _ | exact h_r5 _ | (apply r29_Meet_J12_ch <;> assumption) | (apply r29_Meet_L8_ch <;> assumption) | apply ChO.ite | apply ChO.G | apply ChO.both | (apply ChO.bind; intro _)
theorem r29_Meet_L5_cn (r2 : Int → Option (Bool)) (l : (List ((List Int) × (List Int) × Unit))) (i : Int) : Cn (r29_Meet_L5_F l i r2) := fun g h hg x => r29_Meet_L5_B_ch (fun _ => r2) r2 (fun _ => ChO.const _) (fun κ k => g κ k) (fun k => h k) (fun k => hg k) l i x
theorem r29_Meet_L5_eq (r2 : Int → Option (Bool)) (l : (List ((List Int) × (List Int) × Unit))) (i : Int) (k : Int) : r29_Meet_L5 l i r2 k = r29_Meet_L5_B l i r2 (r29_Meet_L5 l i r2) k := LFix_eq (r29_Meet_L5_cn r2 l i) k
theorem r29_Meet_L5_ch (r2 : Nat → Int → Option (Bool)) (r2' : Int → Option (Bool)) (h_r2 : ∀ a0, ChO (fun κ => r2 κ a0) (r2' a0)) (l : (List ((List Int) × (List Int) × Unit))) (i : Int) (k : Int) : ChO (fun κ => r29_Meet_L5 l i (r2 κ) k) (r29_Meet_L5 l i r2' k) := by
  unfold r29_Meet_L5
  exact LFix_ch (fun κ => (r29_Meet_L5_cn (r2 κ) l i).mono) (r29_Meet_L5_cn r2' l i).mono (fun g h hg x => r29_Meet_L5_B_ch r2 r2' h_r2 (fun κ k => g κ k) (fun k => h k) (fun k => hg k) l i x) _
theorem r29_Meet_L2_B_ch (r2 : Nat → Int → Option (Bool)) (r2' : Int → Option (Bool)) (h_r2 : ∀ a0, ChO (fun κ => r2 κ a0) (r2' a0)) (l : (List ((List Int) × (List Int) × Unit))) (i : Int) : ChO (fun κ => r29_Meet_L2_B l (r2 κ) i) (r29_Meet_L2_B l r2' i) := by
  unfold r29_Meet_L2_B
  repeat' with_reducible first | exact ChO.const _ | exact h_r2 _ | (apply r29_Meet_J12_ch <;> assumption) | (apply r29_Meet_L8_ch <;> assumption) | (apply r29_Meet_L5_ch <;> assumption) | apply ChO.ite | apply ChO.G | apply ChO.both | (apply ChO.bind; intro _)
theorem r29_Meet_L2_cn  (l : (List ((List Int) × (List Int) × Unit))) : Cn (r29_Meet_L2_F l) := fun g h hg x => r29_Meet_L2_B_ch  (fun κ i => g κ i) (fun i => h i) (fun i => hg i) l x
theorem r29_Meet_L2_eq  (l : (List ((List Int) × (List Int) × Unit))) (i : Int) : r29_Meet_L2 l i = r29_Meet_L2_B l (r29_Meet_L2 l) i := LFix_eq (r29_Meet_L2_cn l) i

noncomputable def r29_Letters (w : (List Int)) (n : Int) : Option (Bool) :=
  (r29_letters w n).bind (fun y' =>
  some y')

noncomputable def r29_Comes_J20 (k : Int) (all'_2 : (List (List Int))) (r12 : (Int → (List (List Int)) → Option (Int))) (y'_2 : (List Int)) (known_1 : Bool) : Option (Int) :=
  if (!known_1) = true then
  if (decide ((all'_2.length : Int) = (2000 : Int))) = true then
  some (-1 : Int) else
  G (room all'_2 ([y'_2]) 24) (
  G (fits (k + (1 : Int))) (
  r12 (k + (1 : Int)) (all'_2 ++ ([y'_2])))) else
  G (fits (k + (1 : Int))) (
  r12 (k + (1 : Int)) all'_2)
noncomputable def r29_Comes_L19_B (k : Int) (all'_2 : (List (List Int))) (r12 : (Int → (List (List Int)) → Option (Int))) (y'_2 : (List Int)) (r19 : Bool → Int → Option (Int)) (known : Bool) (j : Int) : Option (Int) :=
  if (decide (j < (all'_2.length : Int))) = true then
  if (!known) = true then
  G (0 ≤ j ∧ j < (all'_2.length : Int)) (
  G ((j).toNat < all'_2.length) (
  (r1_Words (ix all'_2 j) y'_2).bind (fun y'_3 =>
  G (fits (j + (1 : Int))) (
  r19 y'_3 (j + (1 : Int)))))) else
  r29_Comes_J20 k all'_2 r12 y'_2 known else
  r29_Comes_J20 k all'_2 r12 y'_2 known
noncomputable def r29_Comes_L19_F (k : Int) (all'_2 : (List (List Int))) (r12 : (Int → (List (List Int)) → Option (Int))) (y'_2 : (List Int)) : (Bool × Int → Option (Int)) → Bool × Int → Option (Int) :=
  fun rec x => r29_Comes_L19_B k all'_2 r12 y'_2 (fun known j => rec (known, j)) x.1 x.2
noncomputable def r29_Comes_L19 (k : Int) (all'_2 : (List (List Int))) (r12 : (Int → (List (List Int)) → Option (Int))) (y'_2 : (List Int)) (known : Bool) (j : Int) : Option (Int) := LFix (r29_Comes_L19_F k all'_2 r12 y'_2 ) (known, j)
noncomputable def r29_Comes_L12_B (l : (List ((List Int) × (List Int) × Unit))) (i : Int) (at' : Int) (r9 : (Int → (List (List Int)) → Option (Int))) (r12 : Int → (List (List Int)) → Option (Int)) (k : Int) (all'_2 : (List (List Int))) : Option (Int) :=
  if (decide (k < (l.length : Int))) = true then
  G (0 ≤ i ∧ i < (all'_2.length : Int)) (
  G ((i).toNat < all'_2.length) (
  G (0 ≤ k ∧ k < (l.length : Int)) (
  (r29_Stands (ix all'_2 i) ((ix l k).1) at').bind (fun y'_1 =>
  if (!y'_1) = true then
  G (fits (k + (1 : Int))) (
  r12 (k + (1 : Int)) all'_2) else
  G (0 ≤ i ∧ i < (all'_2.length : Int)) (
  G ((i).toNat < all'_2.length) (
  G (0 ≤ k ∧ k < (l.length : Int)) (
  (r29_Swapped (ix all'_2 i) (ix l k) at').bind (fun y'_2 =>
  r29_Comes_L19 k all'_2 r12 y'_2 false (0 : Int))))))))) else
  G (fits (at' + (1 : Int))) (
  r9 (at' + (1 : Int)) all'_2)
noncomputable def r29_Comes_L12_F (l : (List ((List Int) × (List Int) × Unit))) (i : Int) (at' : Int) (r9 : (Int → (List (List Int)) → Option (Int))) : (Int × (List (List Int)) → Option (Int)) → Int × (List (List Int)) → Option (Int) :=
  fun rec x => r29_Comes_L12_B l i at' r9 (fun k all'_2 => rec (k, all'_2)) x.1 x.2
noncomputable def r29_Comes_L12 (l : (List ((List Int) × (List Int) × Unit))) (i : Int) (at' : Int) (r9 : (Int → (List (List Int)) → Option (Int))) (k : Int) (all'_2 : (List (List Int))) : Option (Int) := LFix (r29_Comes_L12_F l i at' r9 ) (k, all'_2)
noncomputable def r29_Comes_L9_B (l : (List ((List Int) × (List Int) × Unit))) (i : Int) (r3 : (Int → (List (List Int)) → Option (Int))) (r9 : Int → (List (List Int)) → Option (Int)) (at' : Int) (all'_1 : (List (List Int))) : Option (Int) :=
  G (0 ≤ i ∧ i < (all'_1.length : Int)) (
  G ((i).toNat < all'_1.length) (
  if (decide (at' < ((ix all'_1 i).length : Int))) = true then
  r29_Comes_L12 l i at' r9 (0 : Int) all'_1 else
  G (fits (i + (1 : Int))) (
  r3 (i + (1 : Int)) all'_1)))
noncomputable def r29_Comes_L9_F (l : (List ((List Int) × (List Int) × Unit))) (i : Int) (r3 : (Int → (List (List Int)) → Option (Int))) : (Int × (List (List Int)) → Option (Int)) → Int × (List (List Int)) → Option (Int) :=
  fun rec x => r29_Comes_L9_B l i r3 (fun at' all'_1 => rec (at', all'_1)) x.1 x.2
noncomputable def r29_Comes_L9 (l : (List ((List Int) × (List Int) × Unit))) (i : Int) (r3 : (Int → (List (List Int)) → Option (Int))) (at' : Int) (all'_1 : (List (List Int))) : Option (Int) := LFix (r29_Comes_L9_F l i r3 ) (at', all'_1)
noncomputable def r29_Comes_L3_B (l : (List ((List Int) × (List Int) × Unit))) (goal : (List Int)) (r3 : Int → (List (List Int)) → Option (Int)) (i : Int) (all' : (List (List Int))) : Option (Int) :=
  if (decide (i < (all'.length : Int))) = true then
  G (0 ≤ i ∧ i < (all'.length : Int)) (
  G ((i).toNat < all'.length) (
  (r1_Words (ix all' i) goal).bind (fun y' =>
  if y' = true then
  some (1 : Int) else
  r29_Comes_L9 l i r3 (0 : Int) all'))) else
  some (0 : Int)
noncomputable def r29_Comes_L3_F (l : (List ((List Int) × (List Int) × Unit))) (goal : (List Int)) : (Int × (List (List Int)) → Option (Int)) → Int × (List (List Int)) → Option (Int) :=
  fun rec x => r29_Comes_L3_B l goal (fun i all' => rec (i, all')) x.1 x.2
noncomputable def r29_Comes_L3 (l : (List ((List Int) × (List Int) × Unit))) (goal : (List Int)) (i : Int) (all' : (List (List Int))) : Option (Int) := LFix (r29_Comes_L3_F l goal ) (i, all')
noncomputable def r29_Comes (l : (List ((List Int) × (List Int) × Unit))) (w : (List Int)) (goal : (List Int)) : Option (Int) :=
  r29_Comes_L3 l goal (0 : Int) ([w])
theorem r29_Comes_J20_ch (r12 : Nat → Int → (List (List Int)) → Option (Int)) (r12' : Int → (List (List Int)) → Option (Int)) (h_r12 : ∀ a0 a1, ChO (fun κ => r12 κ a0 a1) (r12' a0 a1)) (k : Int) (all'_2 : (List (List Int))) (y'_2 : (List Int)) (known_1 : Bool) : ChO (fun κ => r29_Comes_J20 k all'_2 (r12 κ) y'_2 known_1) (r29_Comes_J20 k all'_2 r12' y'_2 known_1) := by
  unfold r29_Comes_J20
  repeat' with_reducible first | exact ChO.const _ | exact h_r12 _ _ | apply ChO.ite | apply ChO.G | apply ChO.both | (apply ChO.bind; intro _)
theorem r29_Comes_L19_B_ch (r12 : Nat → Int → (List (List Int)) → Option (Int)) (r12' : Int → (List (List Int)) → Option (Int)) (h_r12 : ∀ a0 a1, ChO (fun κ => r12 κ a0 a1) (r12' a0 a1)) (r19 : Nat → Bool → Int → Option (Int)) (r19' : Bool → Int → Option (Int)) (h_r19 : ∀ a0 a1, ChO (fun κ => r19 κ a0 a1) (r19' a0 a1)) (k : Int) (all'_2 : (List (List Int))) (y'_2 : (List Int)) (known : Bool) (j : Int) : ChO (fun κ => r29_Comes_L19_B k all'_2 (r12 κ) y'_2 (r19 κ) known j) (r29_Comes_L19_B k all'_2 r12' y'_2 r19' known j) := by
  unfold r29_Comes_L19_B
  repeat' with_reducible first | exact ChO.const _ | exact h_r12 _ _ | exact h_r19 _ _ | (apply r29_Comes_J20_ch <;> assumption) | apply ChO.ite | apply ChO.G | apply ChO.both | (apply ChO.bind; intro _)
theorem r29_Comes_L19_cn (r12 : Int → (List (List Int)) → Option (Int)) (k : Int) (all'_2 : (List (List Int))) (y'_2 : (List Int)) : Cn (r29_Comes_L19_F k all'_2 r12 y'_2) := fun g h hg x => r29_Comes_L19_B_ch (fun _ => r12) r12 (fun _ _ => ChO.const _) (fun κ known j => g κ (known, j)) (fun known j => h (known, j)) (fun known j => hg (known, j)) k all'_2 y'_2 x.1 x.2
theorem r29_Comes_L19_eq (r12 : Int → (List (List Int)) → Option (Int)) (k : Int) (all'_2 : (List (List Int))) (y'_2 : (List Int)) (known : Bool) (j : Int) : r29_Comes_L19 k all'_2 r12 y'_2 known j = r29_Comes_L19_B k all'_2 r12 y'_2 (r29_Comes_L19 k all'_2 r12 y'_2) known j := LFix_eq (r29_Comes_L19_cn r12 k all'_2 y'_2) (known, j)
theorem r29_Comes_L19_ch (r12 : Nat → Int → (List (List Int)) → Option (Int)) (r12' : Int → (List (List Int)) → Option (Int)) (h_r12 : ∀ a0 a1, ChO (fun κ => r12 κ a0 a1) (r12' a0 a1)) (k : Int) (all'_2 : (List (List Int))) (y'_2 : (List Int)) (known : Bool) (j : Int) : ChO (fun κ => r29_Comes_L19 k all'_2 (r12 κ) y'_2 known j) (r29_Comes_L19 k all'_2 r12' y'_2 known j) := by
  unfold r29_Comes_L19
  exact LFix_ch (fun κ => (r29_Comes_L19_cn (r12 κ) k all'_2 y'_2).mono) (r29_Comes_L19_cn r12' k all'_2 y'_2).mono (fun g h hg x => r29_Comes_L19_B_ch r12 r12' h_r12 (fun κ known j => g κ (known, j)) (fun known j => h (known, j)) (fun known j => hg (known, j)) k all'_2 y'_2 x.1 x.2) _
theorem r29_Comes_L12_B_ch (r9 : Nat → Int → (List (List Int)) → Option (Int)) (r9' : Int → (List (List Int)) → Option (Int)) (h_r9 : ∀ a0 a1, ChO (fun κ => r9 κ a0 a1) (r9' a0 a1)) (r12 : Nat → Int → (List (List Int)) → Option (Int)) (r12' : Int → (List (List Int)) → Option (Int)) (h_r12 : ∀ a0 a1, ChO (fun κ => r12 κ a0 a1) (r12' a0 a1)) (l : (List ((List Int) × (List Int) × Unit))) (i : Int) (at' : Int) (k : Int) (all'_2 : (List (List Int))) : ChO (fun κ => r29_Comes_L12_B l i at' (r9 κ) (r12 κ) k all'_2) (r29_Comes_L12_B l i at' r9' r12' k all'_2) := by
  unfold r29_Comes_L12_B
  repeat' with_reducible first | exact ChO.const _ | exact h_r9 _ _ | exact h_r12 _ _ | (apply r29_Comes_J20_ch <;> assumption) | (apply r29_Comes_L19_ch <;> assumption) | apply ChO.ite | apply ChO.G | apply ChO.both | (apply ChO.bind; intro _)
theorem r29_Comes_L12_cn (r9 : Int → (List (List Int)) → Option (Int)) (l : (List ((List Int) × (List Int) × Unit))) (i : Int) (at' : Int) : Cn (r29_Comes_L12_F l i at' r9) := fun g h hg x => r29_Comes_L12_B_ch (fun _ => r9) r9 (fun _ _ => ChO.const _) (fun κ k all'_2 => g κ (k, all'_2)) (fun k all'_2 => h (k, all'_2)) (fun k all'_2 => hg (k, all'_2)) l i at' x.1 x.2
theorem r29_Comes_L12_eq (r9 : Int → (List (List Int)) → Option (Int)) (l : (List ((List Int) × (List Int) × Unit))) (i : Int) (at' : Int) (k : Int) (all'_2 : (List (List Int))) : r29_Comes_L12 l i at' r9 k all'_2 = r29_Comes_L12_B l i at' r9 (r29_Comes_L12 l i at' r9) k all'_2 := LFix_eq (r29_Comes_L12_cn r9 l i at') (k, all'_2)
theorem r29_Comes_L12_ch (r9 : Nat → Int → (List (List Int)) → Option (Int)) (r9' : Int → (List (List Int)) → Option (Int)) (h_r9 : ∀ a0 a1, ChO (fun κ => r9 κ a0 a1) (r9' a0 a1)) (l : (List ((List Int) × (List Int) × Unit))) (i : Int) (at' : Int) (k : Int) (all'_2 : (List (List Int))) : ChO (fun κ => r29_Comes_L12 l i at' (r9 κ) k all'_2) (r29_Comes_L12 l i at' r9' k all'_2) := by
  unfold r29_Comes_L12
  exact LFix_ch (fun κ => (r29_Comes_L12_cn (r9 κ) l i at').mono) (r29_Comes_L12_cn r9' l i at').mono (fun g h hg x => r29_Comes_L12_B_ch r9 r9' h_r9 (fun κ k all'_2 => g κ (k, all'_2)) (fun k all'_2 => h (k, all'_2)) (fun k all'_2 => hg (k, all'_2)) l i at' x.1 x.2) _
theorem r29_Comes_L9_B_ch (r3 : Nat → Int → (List (List Int)) → Option (Int)) (r3' : Int → (List (List Int)) → Option (Int)) (h_r3 : ∀ a0 a1, ChO (fun κ => r3 κ a0 a1) (r3' a0 a1)) (r9 : Nat → Int → (List (List Int)) → Option (Int)) (r9' : Int → (List (List Int)) → Option (Int)) (h_r9 : ∀ a0 a1, ChO (fun κ => r9 κ a0 a1) (r9' a0 a1)) (l : (List ((List Int) × (List Int) × Unit))) (i : Int) (at' : Int) (all'_1 : (List (List Int))) : ChO (fun κ => r29_Comes_L9_B l i (r3 κ) (r9 κ) at' all'_1) (r29_Comes_L9_B l i r3' r9' at' all'_1) := by
  unfold r29_Comes_L9_B
  repeat' with_reducible first | exact ChO.const _ | exact h_r3 _ _ | exact h_r9 _ _ | (apply r29_Comes_J20_ch <;> assumption) | (apply r29_Comes_L19_ch <;> assumption) | (apply r29_Comes_L12_ch <;> assumption) | apply ChO.ite | apply ChO.G | apply ChO.both | (apply ChO.bind; intro _)
theorem r29_Comes_L9_cn (r3 : Int → (List (List Int)) → Option (Int)) (l : (List ((List Int) × (List Int) × Unit))) (i : Int) : Cn (r29_Comes_L9_F l i r3) := fun g h hg x => r29_Comes_L9_B_ch (fun _ => r3) r3 (fun _ _ => ChO.const _) (fun κ at' all'_1 => g κ (at', all'_1)) (fun at' all'_1 => h (at', all'_1)) (fun at' all'_1 => hg (at', all'_1)) l i x.1 x.2
theorem r29_Comes_L9_eq (r3 : Int → (List (List Int)) → Option (Int)) (l : (List ((List Int) × (List Int) × Unit))) (i : Int) (at' : Int) (all'_1 : (List (List Int))) : r29_Comes_L9 l i r3 at' all'_1 = r29_Comes_L9_B l i r3 (r29_Comes_L9 l i r3) at' all'_1 := LFix_eq (r29_Comes_L9_cn r3 l i) (at', all'_1)
theorem r29_Comes_L9_ch (r3 : Nat → Int → (List (List Int)) → Option (Int)) (r3' : Int → (List (List Int)) → Option (Int)) (h_r3 : ∀ a0 a1, ChO (fun κ => r3 κ a0 a1) (r3' a0 a1)) (l : (List ((List Int) × (List Int) × Unit))) (i : Int) (at' : Int) (all'_1 : (List (List Int))) : ChO (fun κ => r29_Comes_L9 l i (r3 κ) at' all'_1) (r29_Comes_L9 l i r3' at' all'_1) := by
  unfold r29_Comes_L9
  exact LFix_ch (fun κ => (r29_Comes_L9_cn (r3 κ) l i).mono) (r29_Comes_L9_cn r3' l i).mono (fun g h hg x => r29_Comes_L9_B_ch r3 r3' h_r3 (fun κ at' all'_1 => g κ (at', all'_1)) (fun at' all'_1 => h (at', all'_1)) (fun at' all'_1 => hg (at', all'_1)) l i x.1 x.2) _
theorem r29_Comes_L3_B_ch (r3 : Nat → Int → (List (List Int)) → Option (Int)) (r3' : Int → (List (List Int)) → Option (Int)) (h_r3 : ∀ a0 a1, ChO (fun κ => r3 κ a0 a1) (r3' a0 a1)) (l : (List ((List Int) × (List Int) × Unit))) (goal : (List Int)) (i : Int) (all' : (List (List Int))) : ChO (fun κ => r29_Comes_L3_B l goal (r3 κ) i all') (r29_Comes_L3_B l goal r3' i all') := by
  unfold r29_Comes_L3_B
  repeat' with_reducible first | exact ChO.const _ | exact h_r3 _ _ | (apply r29_Comes_J20_ch <;> assumption) | (apply r29_Comes_L19_ch <;> assumption) | (apply r29_Comes_L12_ch <;> assumption) | (apply r29_Comes_L9_ch <;> assumption) | apply ChO.ite | apply ChO.G | apply ChO.both | (apply ChO.bind; intro _)
theorem r29_Comes_L3_cn  (l : (List ((List Int) × (List Int) × Unit))) (goal : (List Int)) : Cn (r29_Comes_L3_F l goal) := fun g h hg x => r29_Comes_L3_B_ch  (fun κ i all' => g κ (i, all')) (fun i all' => h (i, all')) (fun i all' => hg (i, all')) l goal x.1 x.2
theorem r29_Comes_L3_eq  (l : (List ((List Int) × (List Int) × Unit))) (goal : (List Int)) (i : Int) (all' : (List (List Int))) : r29_Comes_L3 l goal i all' = r29_Comes_L3_B l goal (r29_Comes_L3 l goal) i all' := LFix_eq (r29_Comes_L3_cn l goal) (i, all')

noncomputable def law_RewriteForks (letters : Int) (l : (List ((List Int) × (List Int) × Unit))) : Option (Bool) :=
  (rewrite_Fork letters l).bind (fun y'_20 =>
  (r29_Check letters l).bind (fun y'_6 =>
  if (decide (¬ y'_6 = (0 : Int))) = true then
  if (decide (y'_20.2.2.2.2 = y'_6)) = true then
  if (!y'_20.2.2.2.1) = true then
  G (fits ((y'_20.1.length : Int) + (y'_20.2.1.length : Int))) (
  G (fits (((y'_20.1.length : Int) + (y'_20.2.1.length : Int)) + (y'_20.2.2.1.length : Int))) (
  some (decide ((((y'_20.1.length : Int) + (y'_20.2.1.length : Int)) + (y'_20.2.2.1.length : Int)) = (0 : Int))))) else
  some false else
  some false else
  (r29_Meet l).bind (fun y'_7 =>
  if (decide (¬ y'_20.2.2.2.2 = (0 : Int))) = true then
  some false else
  if (decide (y'_20.2.2.2.1 = y'_7)) = true then
  some false else
  if (!y'_20.2.2.2.1) = true then
  G (fits ((y'_20.1.length : Int) + (y'_20.2.1.length : Int))) (
  G (fits (((y'_20.1.length : Int) + (y'_20.2.1.length : Int)) + (y'_20.2.2.1.length : Int))) (
  some (decide ((((y'_20.1.length : Int) + (y'_20.2.1.length : Int)) + (y'_20.2.2.1.length : Int)) = (0 : Int))))) else
  (r29_Letters y'_20.1 letters).bind (fun y'_8 =>
  (r1_Words y'_20.2.1 y'_20.2.2.1).bind (fun y'_9 =>
  (r29_Step l y'_20.2.1).bind (fun y'_19 =>
  (r29_Step l y'_20.2.2.1).bind (fun y'_18 =>
  if (!y'_8) = true then
  some false else
  if y'_9 = true then
  some false else
  if y'_19.2 = true then
  some false else
  if y'_18.2 = true then
  some false else
  if (decide ((30 : Int) < (y'_20.1.length : Int))) = true then
  some true else
  (r29_Comes l y'_20.1 y'_20.2.1).bind (fun y'_16 =>
  (r29_Comes l y'_20.1 y'_20.2.2.1).bind (fun y'_17 =>
  if (decide (¬ y'_16 = (0 : Int))) = true then
  some (decide (¬ y'_17 = (0 : Int))) else
  some false)))))))))

end Go.Proofs.Ytdcnnmjodpecaaa.rewriteForksW
