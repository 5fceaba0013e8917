/- What the functions that 'TopRules' reaches compute: plain functions. -/
import Derived.Test.YtiaioemmmpdjfaaEv20n21
set_option maxHeartbeats 1000000
set_option maxRecDepth 20000
set_option linter.unusedSimpArgs false
set_option linter.unusedVariables false
set_option linter.unusedSectionVars false
namespace Go.Proofs.Ytiaioemmmpdjfaa.topRulesW
open Go Go.Ab
abbrev Tp9 := (Int × Int × Int × Unit)
abbrev Tp8 := (Int × (List Int) × Unit)
abbrev Tp7 := (List Tp9)
abbrev Tp6 := (List Tp8)
abbrev Tp5 := (Int × Int × (List (List Int)) × (List Int) × Unit)
abbrev Tp4 := (Int × Int × Tp6 × Unit)
abbrev Tp3 := (Int × Int × Tp6 × (List Int) × Tp7 × (List Int) × Tp7 × Tp6)
abbrev Tp2 := ((List Int) × Int × Int × Tp6 × (List Int) × Tp7 × (List Int) × Tp7 × Tp6)
abbrev Tp1 := (Int × (List Int) × Int × Int × Tp6 × (List Int) × Tp7 × (List Int) × Tp7 × Tp6)
noncomputable def det_Check_1 (r : (List Int)) (t : Tp5) : Option (Bool) :=
  some (decide (¬ (r.length : Int) = t.1))

noncomputable def slices_IndexFunc_L2_B (s : (List (List Int))) (c : Tp5) (r2 : Int → Option (Int)) (t : Int) : Option (Int) :=
  if (decide (t < (s.length : Int))) = true then
  G (0 ≤ t ∧ t < (s.length : Int)) (
  (det_Check_1 (ix s t) c).bind (fun y' =>
  if y' = true then
  some t else
  G (fits (t + (1 : Int))) (
  r2 (t + (1 : Int))))) else
  some (-1 : Int)
noncomputable def slices_IndexFunc_L2_F (s : (List (List Int))) (c : Tp5) : (Int → Option (Int)) → Int → Option (Int) :=
  fun rec x => slices_IndexFunc_L2_B s c (fun t => rec t) x
noncomputable def slices_IndexFunc_L2 (s : (List (List Int))) (c : Tp5) (t : Int) : Option (Int) := LFix (slices_IndexFunc_L2_F s c ) t
noncomputable def slices_IndexFunc (s : (List (List Int))) (c : Tp5) : Option (Int) :=
  slices_IndexFunc_L2 s c (0 : Int)
theorem slices_IndexFunc_L2_B_ch (r2 : Nat → Int → Option (Int)) (r2' : Int → Option (Int)) (h_r2 : ∀ a0, ChO (fun κ => r2 κ a0) (r2' a0)) (s : (List (List Int))) (c : Tp5) (t : Int) : ChO (fun κ => slices_IndexFunc_L2_B s c (r2 κ) t) (slices_IndexFunc_L2_B s c r2' t) := by
  unfold slices_IndexFunc_L2_B
  repeat' with_reducible first | exact ChO.const _ | exact h_r2 _ | apply ChO.ite | apply ChO.G | apply ChO.both | (apply ChO.bind; intro _)
theorem slices_IndexFunc_L2_cn  (s : (List (List Int))) (c : Tp5) : Cn (slices_IndexFunc_L2_F s c) := fun g h hg x => slices_IndexFunc_L2_B_ch  (fun κ t => g κ t) (fun t => h t) (fun t => hg t) s c x
theorem slices_IndexFunc_L2_eq  (s : (List (List Int))) (c : Tp5) (t : Int) : slices_IndexFunc_L2 s c t = slices_IndexFunc_L2_B s c (slices_IndexFunc_L2 s c) t := LFix_eq (slices_IndexFunc_L2_cn s c) t

noncomputable def slices_ContainsFunc (s : (List (List Int))) (c : Tp5) : Option (Bool) :=
  (slices_IndexFunc s c).bind (fun y' =>
  some (decide ((0 : Int) ≤ y')))

noncomputable def det_Check_2 (q : Int) (t : Int) : Option (Bool) :=
  if (decide (q < (0 : Int))) = true then
  some true else
  some (decide (t ≤ q))

noncomputable def slices_IndexFunc_2_L2_B (s : (List Int)) (c : Int) (r2 : Int → Option (Int)) (t : Int) : Option (Int) :=
  if (decide (t < (s.length : Int))) = true then
  G (0 ≤ t ∧ t < (s.length : Int)) (
  (det_Check_2 (ix s t) c).bind (fun y' =>
  if y' = true then
  some t else
  G (fits (t + (1 : Int))) (
  r2 (t + (1 : Int))))) else
  some (-1 : Int)
noncomputable def slices_IndexFunc_2_L2_F (s : (List Int)) (c : Int) : (Int → Option (Int)) → Int → Option (Int) :=
  fun rec x => slices_IndexFunc_2_L2_B s c (fun t => rec t) x
noncomputable def slices_IndexFunc_2_L2 (s : (List Int)) (c : Int) (t : Int) : Option (Int) := LFix (slices_IndexFunc_2_L2_F s c ) t
noncomputable def slices_IndexFunc_2 (s : (List Int)) (c : Int) : Option (Int) :=
  slices_IndexFunc_2_L2 s c (0 : Int)
theorem slices_IndexFunc_2_L2_B_ch (r2 : Nat → Int → Option (Int)) (r2' : Int → Option (Int)) (h_r2 : ∀ a0, ChO (fun κ => r2 κ a0) (r2' a0)) (s : (List Int)) (c : Int) (t : Int) : ChO (fun κ => slices_IndexFunc_2_L2_B s c (r2 κ) t) (slices_IndexFunc_2_L2_B s c r2' t) := by
  unfold slices_IndexFunc_2_L2_B
  repeat' with_reducible first | exact ChO.const _ | exact h_r2 _ | apply ChO.ite | apply ChO.G | apply ChO.both | (apply ChO.bind; intro _)
theorem slices_IndexFunc_2_L2_cn  (s : (List Int)) (c : Int) : Cn (slices_IndexFunc_2_L2_F s c) := fun g h hg x => slices_IndexFunc_2_L2_B_ch  (fun κ t => g κ t) (fun t => h t) (fun t => hg t) s c x
theorem slices_IndexFunc_2_L2_eq  (s : (List Int)) (c : Int) (t : Int) : slices_IndexFunc_2_L2 s c t = slices_IndexFunc_2_L2_B s c (slices_IndexFunc_2_L2 s c) t := LFix_eq (slices_IndexFunc_2_L2_cn s c) t

noncomputable def slices_ContainsFunc_2 (s : (List Int)) (c : Int) : Option (Bool) :=
  (slices_IndexFunc_2 s c).bind (fun y' =>
  some (decide ((0 : Int) ≤ y')))

noncomputable def det_Check_3 (r : (List Int)) (c : Int) : Option (Bool × Int) :=
  (slices_ContainsFunc_2 r c).bind (fun y' =>
  some (y', c))

noncomputable def slices_IndexFunc_1_L2_B (s : (List (List Int))) (r2 : Int → Int → Option (Int × Int)) (t : Int) (l : Int) : Option (Int × Int) :=
  if (decide (t < (s.length : Int))) = true then
  G (0 ≤ t ∧ t < (s.length : Int)) (
  (det_Check_3 (ix s t) l).bind (fun y'_3 =>
  if y'_3.1 = true then
  some (t, y'_3.2) else
  G (fits (t + (1 : Int))) (
  r2 (t + (1 : Int)) y'_3.2))) else
  some ((-1 : Int), l)
noncomputable def slices_IndexFunc_1_L2_F (s : (List (List Int))) : (Int × Int → Option (Int × Int)) → Int × Int → Option (Int × Int) :=
  fun rec x => slices_IndexFunc_1_L2_B s (fun t l => rec (t, l)) x.1 x.2
noncomputable def slices_IndexFunc_1_L2 (s : (List (List Int))) (t : Int) (l : Int) : Option (Int × Int) := LFix (slices_IndexFunc_1_L2_F s ) (t, l)
noncomputable def slices_IndexFunc_1 (s : (List (List Int))) (c : Int) : Option (Int × Int) :=
  slices_IndexFunc_1_L2 s (0 : Int) c
theorem slices_IndexFunc_1_L2_B_ch (r2 : Nat → Int → Int → Option (Int × Int)) (r2' : Int → Int → Option (Int × Int)) (h_r2 : ∀ a0 a1, ChO (fun κ => r2 κ a0 a1) (r2' a0 a1)) (s : (List (List Int))) (t : Int) (l : Int) : ChO (fun κ => slices_IndexFunc_1_L2_B s (r2 κ) t l) (slices_IndexFunc_1_L2_B s r2' t l) := by
  unfold slices_IndexFunc_1_L2_B
  repeat' with_reducible first | exact ChO.const _ | exact h_r2 _ _ | apply ChO.ite | apply ChO.G | apply ChO.both | (apply ChO.bind; intro _)
theorem slices_IndexFunc_1_L2_cn  (s : (List (List Int))) : Cn (slices_IndexFunc_1_L2_F s) := fun g h hg x => slices_IndexFunc_1_L2_B_ch  (fun κ t l => g κ (t, l)) (fun t l => h (t, l)) (fun t l => hg (t, l)) s x.1 x.2
theorem slices_IndexFunc_1_L2_eq  (s : (List (List Int))) (t : Int) (l : Int) : slices_IndexFunc_1_L2 s t l = slices_IndexFunc_1_L2_B s (slices_IndexFunc_1_L2 s) t l := LFix_eq (slices_IndexFunc_1_L2_cn s) (t, l)

noncomputable def slices_ContainsFunc_1 (s : (List (List Int))) (c : Int) : Option (Bool × Int) :=
  (slices_IndexFunc_1 s c).bind (fun y'_3 =>
  some (decide ((0 : Int) ≤ y'_3.1), y'_3.2))

noncomputable def det_Check_4 (m : Int) : Option (Bool) :=
  if (decide (¬ m = (0 : Int))) = true then
  some (decide (¬ m = (1 : Int))) else
  some false

noncomputable def slices_IndexFunc_3_L2_B (s : (List Int)) (r2 : Int → Option (Int)) (t : Int) : Option (Int) :=
  if (decide (t < (s.length : Int))) = true then
  G (0 ≤ t ∧ t < (s.length : Int)) (
  (det_Check_4 (ix s t)).bind (fun y' =>
  if y' = true then
  some t else
  G (fits (t + (1 : Int))) (
  r2 (t + (1 : Int))))) else
  some (-1 : Int)
noncomputable def slices_IndexFunc_3_L2_F (s : (List Int)) : (Int → Option (Int)) → Int → Option (Int) :=
  fun rec x => slices_IndexFunc_3_L2_B s (fun t => rec t) x
noncomputable def slices_IndexFunc_3_L2 (s : (List Int)) (t : Int) : Option (Int) := LFix (slices_IndexFunc_3_L2_F s ) t
noncomputable def slices_IndexFunc_3 (s : (List Int)) : Option (Int) :=
  slices_IndexFunc_3_L2 s (0 : Int)
theorem slices_IndexFunc_3_L2_B_ch (r2 : Nat → Int → Option (Int)) (r2' : Int → Option (Int)) (h_r2 : ∀ a0, ChO (fun κ => r2 κ a0) (r2' a0)) (s : (List Int)) (t : Int) : ChO (fun κ => slices_IndexFunc_3_L2_B s (r2 κ) t) (slices_IndexFunc_3_L2_B s r2' t) := by
  unfold slices_IndexFunc_3_L2_B
  repeat' with_reducible first | exact ChO.const _ | exact h_r2 _ | apply ChO.ite | apply ChO.G | apply ChO.both | (apply ChO.bind; intro _)
theorem slices_IndexFunc_3_L2_cn  (s : (List Int)) : Cn (slices_IndexFunc_3_L2_F s) := fun g h hg x => slices_IndexFunc_3_L2_B_ch  (fun κ t => g κ t) (fun t => h t) (fun t => hg t) s x
theorem slices_IndexFunc_3_L2_eq  (s : (List Int)) (t : Int) : slices_IndexFunc_3_L2 s t = slices_IndexFunc_3_L2_B s (slices_IndexFunc_3_L2 s) t := LFix_eq (slices_IndexFunc_3_L2_cn s) t

noncomputable def slices_ContainsFunc_3 (s : (List Int)) : Option (Bool) :=
  (slices_IndexFunc_3 s).bind (fun y' =>
  some (decide ((0 : Int) ≤ y')))

noncomputable def det_Check (d : Tp5) : Option (Int) :=
  if (decide (d.1 < (1 : Int))) = true then
  some (2 : Int) else
  if (decide ((4 : Int) < d.1)) = true then
  some (2 : Int) else
  if (decide ((d.2.2.1.length : Int) < (1 : Int))) = true then
  some (1 : Int) else
  if (decide ((3000 : Int) < (d.2.2.1.length : Int))) = true then
  some (1 : Int) else
  if (decide (¬ (d.2.2.2.1.length : Int) = (d.2.2.1.length : Int))) = true then
  some (3 : Int) else
  (slices_ContainsFunc d.2.2.1 (d.1, (d.2.1, (d.2.2.1, (d.2.2.2.1, ()))))).bind (fun y' =>
  if y' = true then
  some (3 : Int) else
  (det_Check_2 d.2.1 (d.2.2.1.length : Int)).bind (fun y'_1 =>
  if y'_1 = true then
  some (2 : Int) else
  (slices_ContainsFunc_1 d.2.2.1 (d.2.2.1.length : Int)).bind (fun y'_6 =>
  if y'_6.1 = true then
  some (2 : Int) else
  (slices_ContainsFunc_3 d.2.2.2.1).bind (fun y'_5 =>
  if y'_5 = true then
  some (2 : Int) else
  some (0 : Int)))))

noncomputable def word_May_L6_B (letters : Int) (w : (List Int)) (r6 : Int → Option (Int)) (t : Int) : Option (Int) :=
  if (decide (t < (w.length : Int))) = true then
  G (0 ≤ t ∧ t < (w.length : Int)) (
  if (decide ((ix w t) < (0 : Int))) = true then
  some (2 : Int) else
  if (decide (letters ≤ (ix w t))) = true then
  some (2 : Int) else
  G (fits (t + (1 : Int))) (
  r6 (t + (1 : Int)))) else
  some (0 : Int)
noncomputable def word_May_L6_F (letters : Int) (w : (List Int)) : (Int → Option (Int)) → Int → Option (Int) :=
  fun rec x => word_May_L6_B letters w (fun t => rec t) x
noncomputable def word_May_L6 (letters : Int) (w : (List Int)) (t : Int) : Option (Int) := LFix (word_May_L6_F letters w ) t
noncomputable def word_May (letters : Int) (w : (List Int)) : Option (Int) :=
  if (decide (letters < (1 : Int))) = true then
  some (2 : Int) else
  if (decide ((4 : Int) < letters)) = true then
  some (2 : Int) else
  if (decide ((60 : Int) < (w.length : Int))) = true then
  some (1 : Int) else
  word_May_L6 letters w (0 : Int)
theorem word_May_L6_B_ch (r6 : Nat → Int → Option (Int)) (r6' : Int → Option (Int)) (h_r6 : ∀ a0, ChO (fun κ => r6 κ a0) (r6' a0)) (letters : Int) (w : (List Int)) (t : Int) : ChO (fun κ => word_May_L6_B letters w (r6 κ) t) (word_May_L6_B letters w r6' t) := by
  unfold word_May_L6_B
  repeat' with_reducible first | exact ChO.const _ | exact h_r6 _ | apply ChO.ite | apply ChO.G | apply ChO.both | (apply ChO.bind; intro _)
theorem word_May_L6_cn  (letters : Int) (w : (List Int)) : Cn (word_May_L6_F letters w) := fun g h hg x => word_May_L6_B_ch  (fun κ t => g κ t) (fun t => h t) (fun t => hg t) letters w x
theorem word_May_L6_eq  (letters : Int) (w : (List Int)) (t : Int) : word_May_L6 letters w t = word_May_L6_B letters w (word_May_L6 letters w) t := LFix_eq (word_May_L6_cn letters w) t

noncomputable def det_After_L2_B (d : Tp5) (w : (List Int)) (r2 : Int → Int → Option (Int)) (q_1 : Int) (t : Int) : Option (Int) :=
  if (decide (t < (w.length : Int))) = true then
  G (0 ≤ t ∧ t < (w.length : Int)) (
  G (0 ≤ q_1 ∧ q_1 < (d.2.2.1.length : Int)) (
  G (0 ≤ ix w t ∧ ix w t < ((ix d.2.2.1 q_1).length : Int)) (
  G (fits (t + (1 : Int))) (
  r2 (ix (ix d.2.2.1 q_1) (ix w t)) (t + (1 : Int)))))) else
  some q_1
noncomputable def det_After_L2_F (d : Tp5) (w : (List Int)) : (Int × Int → Option (Int)) → Int × Int → Option (Int) :=
  fun rec x => det_After_L2_B d w (fun q_1 t => rec (q_1, t)) x.1 x.2
noncomputable def det_After_L2 (d : Tp5) (w : (List Int)) (q_1 : Int) (t : Int) : Option (Int) := LFix (det_After_L2_F d w ) (q_1, t)
noncomputable def det_After (d : Tp5) (q : Int) (w : (List Int)) : Option (Int) :=
  det_After_L2 d w q (0 : Int)
theorem det_After_L2_B_ch (r2 : Nat → Int → Int → Option (Int)) (r2' : Int → Int → Option (Int)) (h_r2 : ∀ a0 a1, ChO (fun κ => r2 κ a0 a1) (r2' a0 a1)) (d : Tp5) (w : (List Int)) (q_1 : Int) (t : Int) : ChO (fun κ => det_After_L2_B d w (r2 κ) q_1 t) (det_After_L2_B d w r2' q_1 t) := by
  unfold det_After_L2_B
  repeat' with_reducible first | exact ChO.const _ | exact h_r2 _ _ | apply ChO.ite | apply ChO.G | apply ChO.both | (apply ChO.bind; intro _)
theorem det_After_L2_cn  (d : Tp5) (w : (List Int)) : Cn (det_After_L2_F d w) := fun g h hg x => det_After_L2_B_ch  (fun κ q_1 t => g κ (q_1, t)) (fun q_1 t => h (q_1, t)) (fun q_1 t => hg (q_1, t)) d w x.1 x.2
theorem det_After_L2_eq  (d : Tp5) (w : (List Int)) (q_1 : Int) (t : Int) : det_After_L2 d w q_1 t = det_After_L2_B d w (det_After_L2 d w) q_1 t := LFix_eq (det_After_L2_cn d w) (q_1, t)

noncomputable def det_Accepts (d : Tp5) (w : (List Int)) : Option (Bool × Int) :=
  (det_Check (d.1, (d.2.1, (d.2.2.1, (d.2.2.2.1, ()))))).bind (fun y' =>
  if (decide (¬ y' = (0 : Int))) = true then
  some (false, y') else
  (word_May d.1 w).bind (fun y'_1 =>
  if (decide (¬ y'_1 = (0 : Int))) = true then
  some (false, y'_1) else
  (det_After (d.1, (d.2.1, (d.2.2.1, (d.2.2.2.1, ())))) d.2.1 w).bind (fun y'_2 =>
  G (0 ≤ y'_2 ∧ y'_2 < (d.2.2.2.1.length : Int)) (
  some (decide ((ix d.2.2.2.1 y'_2) = (1 : Int)), (0 : Int))))))

noncomputable def top_named (d : Tp5) (q : Int) : Option (Int) :=
  if (decide (q = d.2.1)) = true then
  some d.1 else
  if (decide (q = (0 : Int))) = true then
  G (fits (d.1 + d.2.1)) (
  some (d.1 + d.2.1)) else
  G (fits (d.1 + q)) (
  some (d.1 + q))

noncomputable def gram_Check_1 (s : Int) (t : Tp4) : Option (Bool) :=
  if (decide (s < (0 : Int))) = true then
  some true else
  G (fits (t.1 + t.2.1)) (
  some (decide ((t.1 + t.2.1) ≤ s)))

noncomputable def slices_IndexFunc_4_L2_B (s : (List Int)) (c : Tp4) (r2 : Int → Option (Int)) (t : Int) : Option (Int) :=
  if (decide (t < (s.length : Int))) = true then
  G (0 ≤ t ∧ t < (s.length : Int)) (
  (gram_Check_1 (ix s t) c).bind (fun y' =>
  if y' = true then
  some t else
  G (fits (t + (1 : Int))) (
  r2 (t + (1 : Int))))) else
  some (-1 : Int)
noncomputable def slices_IndexFunc_4_L2_F (s : (List Int)) (c : Tp4) : (Int → Option (Int)) → Int → Option (Int) :=
  fun rec x => slices_IndexFunc_4_L2_B s c (fun t => rec t) x
noncomputable def slices_IndexFunc_4_L2 (s : (List Int)) (c : Tp4) (t : Int) : Option (Int) := LFix (slices_IndexFunc_4_L2_F s c ) t
noncomputable def slices_IndexFunc_4 (s : (List Int)) (c : Tp4) : Option (Int) :=
  slices_IndexFunc_4_L2 s c (0 : Int)
theorem slices_IndexFunc_4_L2_B_ch (r2 : Nat → Int → Option (Int)) (r2' : Int → Option (Int)) (h_r2 : ∀ a0, ChO (fun κ => r2 κ a0) (r2' a0)) (s : (List Int)) (c : Tp4) (t : Int) : ChO (fun κ => slices_IndexFunc_4_L2_B s c (r2 κ) t) (slices_IndexFunc_4_L2_B s c r2' t) := by
  unfold slices_IndexFunc_4_L2_B
  repeat' with_reducible first | exact ChO.const _ | exact h_r2 _ | apply ChO.ite | apply ChO.G | apply ChO.both | (apply ChO.bind; intro _)
theorem slices_IndexFunc_4_L2_cn  (s : (List Int)) (c : Tp4) : Cn (slices_IndexFunc_4_L2_F s c) := fun g h hg x => slices_IndexFunc_4_L2_B_ch  (fun κ t => g κ t) (fun t => h t) (fun t => hg t) s c x
theorem slices_IndexFunc_4_L2_eq  (s : (List Int)) (c : Tp4) (t : Int) : slices_IndexFunc_4_L2 s c t = slices_IndexFunc_4_L2_B s c (slices_IndexFunc_4_L2 s c) t := LFix_eq (slices_IndexFunc_4_L2_cn s c) t

noncomputable def slices_ContainsFunc_4 (s : (List Int)) (c : Tp4) : Option (Bool) :=
  (slices_IndexFunc_4 s c).bind (fun y' =>
  some (decide ((0 : Int) ≤ y')))

noncomputable def gram_Check_L6_B (g' : Tp4) (r6 : Int → Option (Int)) (t : Int) : Option (Int) :=
  if (decide (t < (g'.2.2.1.length : Int))) = true then
  G (0 ≤ t ∧ t < (g'.2.2.1.length : Int)) (
  if (decide (((ix g'.2.2.1 t).1) < (0 : Int))) = true then
  some (2 : Int) else
  if (decide (g'.2.1 ≤ ((ix g'.2.2.1 t).1))) = true then
  some (2 : Int) else
  if (decide ((3 : Int) < ((((ix g'.2.2.1 t).2).1).length : Int))) = true then
  some (1 : Int) else
  (slices_ContainsFunc_4 (((ix g'.2.2.1 t).2).1) (g'.1, (g'.2.1, (g'.2.2.1, ())))).bind (fun y' =>
  if y' = true then
  some (2 : Int) else
  G (fits (t + (1 : Int))) (
  r6 (t + (1 : Int))))) else
  some (0 : Int)
noncomputable def gram_Check_L6_F (g' : Tp4) : (Int → Option (Int)) → Int → Option (Int) :=
  fun rec x => gram_Check_L6_B g' (fun t => rec t) x
noncomputable def gram_Check_L6 (g' : Tp4) (t : Int) : Option (Int) := LFix (gram_Check_L6_F g' ) t
noncomputable def gram_Check (g' : Tp4) : Option (Int) :=
  if (decide (g'.1 < (1 : Int))) = true then
  some (2 : Int) else
  if (decide ((4 : Int) < g'.1)) = true then
  some (2 : Int) else
  if (decide (g'.2.1 < (1 : Int))) = true then
  some (1 : Int) else
  if (decide ((6 : Int) < g'.2.1)) = true then
  some (1 : Int) else
  if (decide ((20 : Int) < (g'.2.2.1.length : Int))) = true then
  some (1 : Int) else
  gram_Check_L6 g' (0 : Int)
theorem gram_Check_L6_B_ch (r6 : Nat → Int → Option (Int)) (r6' : Int → Option (Int)) (h_r6 : ∀ a0, ChO (fun κ => r6 κ a0) (r6' a0)) (g' : Tp4) (t : Int) : ChO (fun κ => gram_Check_L6_B g' (r6 κ) t) (gram_Check_L6_B g' r6' t) := by
  unfold gram_Check_L6_B
  repeat' with_reducible first | exact ChO.const _ | exact h_r6 _ | apply ChO.ite | apply ChO.G | apply ChO.both | (apply ChO.bind; intro _)
theorem gram_Check_L6_cn  (g' : Tp4) : Cn (gram_Check_L6_F g') := fun g h hg x => gram_Check_L6_B_ch  (fun κ t => g κ t) (fun t => h t) (fun t => hg t) g' x
theorem gram_Check_L6_eq  (g' : Tp4) (t : Int) : gram_Check_L6 g' t = gram_Check_L6_B g' (gram_Check_L6 g') t := LFix_eq (gram_Check_L6_cn g') t

noncomputable def gram_chart_of (name : Int) (i : Int) (j : Int) (c : Int) (c_1 : Int) (c_2 : Tp6) (c_3 : (List Int)) (c_4 : Tp7) (c_5 : (List Int)) (c_6 : Tp7) (c_7 : Tp6) : Option (Int × Int × Int × Tp6 × (List Int) × Tp7 × (List Int) × Tp7 × Tp6) :=
  if (mhas c_4 (name, (i, (j, ())))) = true then
  some (mget c_4 c_5 (name, (i, (j, ()))) (0 : Int), c, c_1, c_2, c_3, c_4, c_5, c_6, c_7) else
  some ((1099511627776 : Int), c, c_1, c_2, c_3, c_4, c_5, c_6, c_7)

noncomputable def gram_chart_row_J14 (rc_gram_chart_row : (List Int) → Int → Int → Int → Int → Tp6 → (List Int) → Tp7 → (List Int) → Tp7 → Tp6 → Option Tp1) (signs : (List Int)) (j : Int) (best : Int) (k : Int) (ends : (List Int)) (r8 : (Int → Int → Int → Int → Tp6 → (List Int) → Tp7 → (List Int) → Tp7 → Tp6 → (List Int) → Option Tp1)) (n : Int) (c_12 : Int) (c_13 : Int) (c_14 : Tp6) (c_15 : (List Int)) (l_4 : Tp7) (l_5 : (List Int)) (l_6 : Tp7) (l_7 : Tp6) : Option Tp1 :=
  if (decide (n = (1099511627776 : Int))) = true then
  G (fits (k + (1 : Int))) (
  r8 best (k + (1 : Int)) c_12 c_13 c_14 c_15 l_4 l_5 l_6 l_7 ends) else
  G (0 ≤ (1 : Int) ∧ (1 : Int) ≤ (signs.length : Int) ∧ (signs.length : Int) ≤ (signs.length : Int)) (
  (rc_gram_chart_row (cut signs (1 : Int) (signs.length : Int)) k j c_12 c_13 c_14 c_15 l_4 l_5 l_6 l_7).bind (fun y'_21 =>
  G (fits (n + y'_21.1)) (
  if (decide ((n + y'_21.1) < best)) = true then
  G (fits (n + y'_21.1)) (
  G (room ([k]) y'_21.2.1 8) (
  G (fits (k + (1 : Int))) (
  r8 (n + y'_21.1) (k + (1 : Int)) y'_21.2.2.1 y'_21.2.2.2.1 y'_21.2.2.2.2.1 y'_21.2.2.2.2.2.1 y'_21.2.2.2.2.2.2.1 y'_21.2.2.2.2.2.2.2.1 y'_21.2.2.2.2.2.2.2.2.1 y'_21.2.2.2.2.2.2.2.2.2 (([k]) ++ y'_21.2.1)))) else
  G (fits (k + (1 : Int))) (
  r8 best (k + (1 : Int)) y'_21.2.2.1 y'_21.2.2.2.1 y'_21.2.2.2.2.1 y'_21.2.2.2.2.2.1 y'_21.2.2.2.2.2.2.1 y'_21.2.2.2.2.2.2.2.1 y'_21.2.2.2.2.2.2.2.2.1 y'_21.2.2.2.2.2.2.2.2.2 ends))))
noncomputable def gram_chart_row_J13 (rc_gram_chart_row : (List Int) → Int → Int → Int → Int → Tp6 → (List Int) → Tp7 → (List Int) → Tp7 → Tp6 → Option Tp1) (signs : (List Int)) (j : Int) (best : Int) (k : Int) (c_8 : Int) (c_9 : Int) (c_10 : Tp6) (c_11 : (List Int)) (l : Tp7) (l_1 : (List Int)) (l_2 : Tp7) (l_3 : Tp6) (ends : (List Int)) (r8 : (Int → Int → Int → Int → Tp6 → (List Int) → Tp7 → (List Int) → Tp7 → Tp6 → (List Int) → Option Tp1)) (t : Bool) : Option Tp1 :=
  if t = true then
  gram_chart_row_J14 rc_gram_chart_row signs j best k ends r8 (0 : Int) c_8 c_9 c_10 c_11 l l_1 l_2 l_3 else
  gram_chart_row_J14 rc_gram_chart_row signs j best k ends r8 (1099511627776 : Int) c_8 c_9 c_10 c_11 l l_1 l_2 l_3
noncomputable def gram_chart_row_L8_B (rc_gram_chart_row : (List Int) → Int → Int → Int → Int → Tp6 → (List Int) → Tp7 → (List Int) → Tp7 → Tp6 → Option Tp1) (signs : (List Int)) (i : Int) (j : Int) (r8 : Int → Int → Int → Int → Tp6 → (List Int) → Tp7 → (List Int) → Tp7 → Tp6 → (List Int) → Option Tp1) (best : Int) (k : Int) (c_8 : Int) (c_9 : Int) (c_10 : Tp6) (c_11 : (List Int)) (l : Tp7) (l_1 : (List Int)) (l_2 : Tp7) (l_3 : Tp6) (ends : (List Int)) : Option Tp1 :=
  if (decide (k ≤ j)) = true then
  if (decide (c_8 ≤ (ix signs (0 : Int)))) = true then
  G (fits ((ix signs (0 : Int)) - c_8)) (
  (gram_chart_of ((ix signs (0 : Int)) - c_8) i k c_8 c_9 c_10 c_11 l l_1 l_2 l_3).bind (fun y'_22 =>
  gram_chart_row_J14 rc_gram_chart_row signs j best k ends r8 y'_22.1 y'_22.2.1 y'_22.2.2.1 y'_22.2.2.2.1 y'_22.2.2.2.2.1 y'_22.2.2.2.2.2.1 y'_22.2.2.2.2.2.2.1 y'_22.2.2.2.2.2.2.2.1 y'_22.2.2.2.2.2.2.2.2)) else
  G (fits (i + (1 : Int))) (
  if (decide (k = (i + (1 : Int)))) = true then
  G (0 ≤ i ∧ i < (c_11.length : Int)) (
  gram_chart_row_J13 rc_gram_chart_row signs j best k c_8 c_9 c_10 c_11 l l_1 l_2 l_3 ends r8 (decide ((ix c_11 i) = (ix signs (0 : Int))))) else
  gram_chart_row_J13 rc_gram_chart_row signs j best k c_8 c_9 c_10 c_11 l l_1 l_2 l_3 ends r8 false) else
  some (best, ends, c_8, c_9, c_10, c_11, l, l_1, l_2, l_3)
noncomputable def gram_chart_row_L8_F (rc_gram_chart_row : (List Int) → Int → Int → Int → Int → Tp6 → (List Int) → Tp7 → (List Int) → Tp7 → Tp6 → Option Tp1) (signs : (List Int)) (i : Int) (j : Int) : (Int × Int × Int × Int × Tp6 × (List Int) × Tp7 × (List Int) × Tp7 × Tp6 × (List Int) → Option Tp1) → Int × Int × Int × Int × Tp6 × (List Int) × Tp7 × (List Int) × Tp7 × Tp6 × (List Int) → Option Tp1 :=
  fun rec x => gram_chart_row_L8_B rc_gram_chart_row signs i j (fun best k c_8 c_9 c_10 c_11 l l_1 l_2 l_3 ends => rec (best, k, c_8, c_9, c_10, c_11, l, l_1, l_2, l_3, ends)) x.1 x.2.1 x.2.2.1 x.2.2.2.1 x.2.2.2.2.1 x.2.2.2.2.2.1 x.2.2.2.2.2.2.1 x.2.2.2.2.2.2.2.1 x.2.2.2.2.2.2.2.2.1 x.2.2.2.2.2.2.2.2.2.1 x.2.2.2.2.2.2.2.2.2.2
noncomputable def gram_chart_row_L8 (rc_gram_chart_row : (List Int) → Int → Int → Int → Int → Tp6 → (List Int) → Tp7 → (List Int) → Tp7 → Tp6 → Option Tp1) (signs : (List Int)) (i : Int) (j : Int) (best : Int) (k : Int) (c_8 : Int) (c_9 : Int) (c_10 : Tp6) (c_11 : (List Int)) (l : Tp7) (l_1 : (List Int)) (l_2 : Tp7) (l_3 : Tp6) (ends : (List Int)) : Option Tp1 := LFix (gram_chart_row_L8_F rc_gram_chart_row signs i j ) (best, k, c_8, c_9, c_10, c_11, l, l_1, l_2, l_3, ends)
noncomputable def gram_chart_row_B (rc_gram_chart_row : (List Int) → Int → Int → Int → Int → Tp6 → (List Int) → Tp7 → (List Int) → Tp7 → Tp6 → Option Tp1) (signs : (List Int)) (i : Int) (j : Int) (c : Int) (c_1 : Int) (c_2 : Tp6) (c_3 : (List Int)) (c_4 : Tp7) (c_5 : (List Int)) (c_6 : Tp7) (c_7 : Tp6) : Option Tp1 :=
  if (decide ((signs.length : Int) = (0 : Int))) = true then
  if (decide (i = j)) = true then
  some ((0 : Int), [], c, c_1, c_2, c_3, c_4, c_5, c_6, c_7) else
  some ((1099511627776 : Int), [], c, c_1, c_2, c_3, c_4, c_5, c_6, c_7) else
  G (0 ≤ (0 : Int) ∧ (0 : Int) < (signs.length : Int)) (
  gram_chart_row_L8 rc_gram_chart_row signs i j (1099511627776 : Int) i c c_1 c_2 c_3 c_4 c_5 c_6 c_7 ([]))
theorem gram_chart_row_J14_ch (rc_gram_chart_row : Nat → (List Int) → Int → Int → Int → Int → Tp6 → (List Int) → Tp7 → (List Int) → Tp7 → Tp6 → Option Tp1) (rc_gram_chart_row' : (List Int) → Int → Int → Int → Int → Tp6 → (List Int) → Tp7 → (List Int) → Tp7 → Tp6 → Option Tp1) (h_rc_gram_chart_row : ∀ a0 a1 a2 a3 a4 a5 a6 a7 a8 a9 a10, ChO (fun κ => rc_gram_chart_row κ a0 a1 a2 a3 a4 a5 a6 a7 a8 a9 a10) (rc_gram_chart_row' a0 a1 a2 a3 a4 a5 a6 a7 a8 a9 a10)) (r8 : Nat → Int → Int → Int → Int → Tp6 → (List Int) → Tp7 → (List Int) → Tp7 → Tp6 → (List Int) → Option Tp1) (r8' : Int → Int → Int → Int → Tp6 → (List Int) → Tp7 → (List Int) → Tp7 → Tp6 → (List Int) → Option Tp1) (h_r8 : ∀ a0 a1 a2 a3 a4 a5 a6 a7 a8 a9 a10, ChO (fun κ => r8 κ a0 a1 a2 a3 a4 a5 a6 a7 a8 a9 a10) (r8' a0 a1 a2 a3 a4 a5 a6 a7 a8 a9 a10)) (signs : (List Int)) (j : Int) (best : Int) (k : Int) (ends : (List Int)) (n : Int) (c_12 : Int) (c_13 : Int) (c_14 : Tp6) (c_15 : (List Int)) (l_4 : Tp7) (l_5 : (List Int)) (l_6 : Tp7) (l_7 : Tp6) : ChO (fun κ => gram_chart_row_J14 (rc_gram_chart_row κ) signs j best k ends (r8 κ) n c_12 c_13 c_14 c_15 l_4 l_5 l_6 l_7) (gram_chart_row_J14 rc_gram_chart_row' signs j best k ends r8' n c_12 c_13 c_14 c_15 l_4 l_5 l_6 l_7) := by
  unfold gram_chart_row_J14
  repeat' with_reducible first | exact ChO.const _ | exact h_rc_gram_chart_row _ _ _ _ _ _ _ _ _ _ _ | exact h_r8 _ _ _ _ _ _ _ _ _ _ _ | apply ChO.ite | apply ChO.G | apply ChO.both | (apply ChO.bind; intro _) | (apply ChO.bind2 (h_rc_gram_chart_row _ _ _ _ _ _ _ _ _ _ _); intro _)
theorem gram_chart_row_J13_ch (rc_gram_chart_row : Nat → (List Int) → Int → Int → Int → Int → Tp6 → (List Int) → Tp7 → (List Int) → Tp7 → Tp6 → Option Tp1) (rc_gram_chart_row' : (List Int) → Int → Int → Int → Int → Tp6 → (List Int) → Tp7 → (List Int) → Tp7 → Tp6 → Option Tp1) (h_rc_gram_chart_row : ∀ a0 a1 a2 a3 a4 a5 a6 a7 a8 a9 a10, ChO (fun κ => rc_gram_chart_row κ a0 a1 a2 a3 a4 a5 a6 a7 a8 a9 a10) (rc_gram_chart_row' a0 a1 a2 a3 a4 a5 a6 a7 a8 a9 a10)) (r8 : Nat → Int → Int → Int → Int → Tp6 → (List Int) → Tp7 → (List Int) → Tp7 → Tp6 → (List Int) → Option Tp1) (r8' : Int → Int → Int → Int → Tp6 → (List Int) → Tp7 → (List Int) → Tp7 → Tp6 → (List Int) → Option Tp1) (h_r8 : ∀ a0 a1 a2 a3 a4 a5 a6 a7 a8 a9 a10, ChO (fun κ => r8 κ a0 a1 a2 a3 a4 a5 a6 a7 a8 a9 a10) (r8' a0 a1 a2 a3 a4 a5 a6 a7 a8 a9 a10)) (signs : (List Int)) (j : Int) (best : Int) (k : Int) (c_8 : Int) (c_9 : Int) (c_10 : Tp6) (c_11 : (List Int)) (l : Tp7) (l_1 : (List Int)) (l_2 : Tp7) (l_3 : Tp6) (ends : (List Int)) (t : Bool) : ChO (fun κ => gram_chart_row_J13 (rc_gram_chart_row κ) signs j best k c_8 c_9 c_10 c_11 l l_1 l_2 l_3 ends (r8 κ) t) (gram_chart_row_J13 rc_gram_chart_row' signs j best k c_8 c_9 c_10 c_11 l l_1 l_2 l_3 ends r8' t) := by
  unfold gram_chart_row_J13
  repeat' with_reducible first | exact ChO.const _ | exact h_rc_gram_chart_row _ _ _ _ _ _ _ _ _ _ _ | exact h_r8 _ _ _ _ _ _ _ _ _ _ _ | (apply gram_chart_row_J14_ch <;> assumption) | apply ChO.ite | apply ChO.G | apply ChO.both | (apply ChO.bind; intro _) | (apply ChO.bind2 (h_rc_gram_chart_row _ _ _ _ _ _ _ _ _ _ _); intro _)
theorem gram_chart_row_L8_B_ch (rc_gram_chart_row : Nat → (List Int) → Int → Int → Int → Int → Tp6 → (List Int) → Tp7 → (List Int) → Tp7 → Tp6 → Option Tp1) (rc_gram_chart_row' : (List Int) → Int → Int → Int → Int → Tp6 → (List Int) → Tp7 → (List Int) → Tp7 → Tp6 → Option Tp1) (h_rc_gram_chart_row : ∀ a0 a1 a2 a3 a4 a5 a6 a7 a8 a9 a10, ChO (fun κ => rc_gram_chart_row κ a0 a1 a2 a3 a4 a5 a6 a7 a8 a9 a10) (rc_gram_chart_row' a0 a1 a2 a3 a4 a5 a6 a7 a8 a9 a10)) (r8 : Nat → Int → Int → Int → Int → Tp6 → (List Int) → Tp7 → (List Int) → Tp7 → Tp6 → (List Int) → Option Tp1) (r8' : Int → Int → Int → Int → Tp6 → (List Int) → Tp7 → (List Int) → Tp7 → Tp6 → (List Int) → Option Tp1) (h_r8 : ∀ a0 a1 a2 a3 a4 a5 a6 a7 a8 a9 a10, ChO (fun κ => r8 κ a0 a1 a2 a3 a4 a5 a6 a7 a8 a9 a10) (r8' a0 a1 a2 a3 a4 a5 a6 a7 a8 a9 a10)) (signs : (List Int)) (i : Int) (j : Int) (best : Int) (k : Int) (c_8 : Int) (c_9 : Int) (c_10 : Tp6) (c_11 : (List Int)) (l : Tp7) (l_1 : (List Int)) (l_2 : Tp7) (l_3 : Tp6) (ends : (List Int)) : ChO (fun κ => gram_chart_row_L8_B (rc_gram_chart_row κ) signs i j (r8 κ) best k c_8 c_9 c_10 c_11 l l_1 l_2 l_3 ends) (gram_chart_row_L8_B rc_gram_chart_row' signs i j r8' best k c_8 c_9 c_10 c_11 l l_1 l_2 l_3 ends) := by
  unfold gram_chart_row_L8_B
  repeat' with_reducible first | exact ChO.const _ | exact h_rc_gram_chart_row _ _ _ _ _ _ _ _ _ _ _ | exact h_r8 _ _ _ _ _ _ _ _ _ _ _ | (apply gram_chart_row_J14_ch <;> assumption) | (apply gram_chart_row_J13_ch <;> assumption) | apply ChO.ite | apply ChO.G | apply ChO.both | (apply ChO.bind; intro _) | (apply ChO.bind2 (h_rc_gram_chart_row _ _ _ _ _ _ _ _ _ _ _); intro _)
theorem gram_chart_row_L8_cn (rc_gram_chart_row : (List Int) → Int → Int → Int → Int → Tp6 → (List Int) → Tp7 → (List Int) → Tp7 → Tp6 → Option Tp1) (signs : (List Int)) (i : Int) (j : Int) : Cn (gram_chart_row_L8_F rc_gram_chart_row signs i j) := fun g h hg x => gram_chart_row_L8_B_ch (fun _ => rc_gram_chart_row) rc_gram_chart_row (fun _ _ _ _ _ _ _ _ _ _ _ => ChO.const _) (fun κ best k c_8 c_9 c_10 c_11 l l_1 l_2 l_3 ends => g κ (best, k, c_8, c_9, c_10, c_11, l, l_1, l_2, l_3, ends)) (fun best k c_8 c_9 c_10 c_11 l l_1 l_2 l_3 ends => h (best, k, c_8, c_9, c_10, c_11, l, l_1, l_2, l_3, ends)) (fun best k c_8 c_9 c_10 c_11 l l_1 l_2 l_3 ends => hg (best, k, c_8, c_9, c_10, c_11, l, l_1, l_2, l_3, ends)) signs i j x.1 x.2.1 x.2.2.1 x.2.2.2.1 x.2.2.2.2.1 x.2.2.2.2.2.1 x.2.2.2.2.2.2.1 x.2.2.2.2.2.2.2.1 x.2.2.2.2.2.2.2.2.1 x.2.2.2.2.2.2.2.2.2.1 x.2.2.2.2.2.2.2.2.2.2
theorem gram_chart_row_L8_eq (rc_gram_chart_row : (List Int) → Int → Int → Int → Int → Tp6 → (List Int) → Tp7 → (List Int) → Tp7 → Tp6 → Option Tp1) (signs : (List Int)) (i : Int) (j : Int) (best : Int) (k : Int) (c_8 : Int) (c_9 : Int) (c_10 : Tp6) (c_11 : (List Int)) (l : Tp7) (l_1 : (List Int)) (l_2 : Tp7) (l_3 : Tp6) (ends : (List Int)) : gram_chart_row_L8 rc_gram_chart_row signs i j best k c_8 c_9 c_10 c_11 l l_1 l_2 l_3 ends = gram_chart_row_L8_B rc_gram_chart_row signs i j (gram_chart_row_L8 rc_gram_chart_row signs i j) best k c_8 c_9 c_10 c_11 l l_1 l_2 l_3 ends := LFix_eq (gram_chart_row_L8_cn rc_gram_chart_row signs i j) (best, k, c_8, c_9, c_10, c_11, l, l_1, l_2, l_3, ends)
theorem gram_chart_row_L8_ch (rc_gram_chart_row : Nat → (List Int) → Int → Int → Int → Int → Tp6 → (List Int) → Tp7 → (List Int) → Tp7 → Tp6 → Option Tp1) (rc_gram_chart_row' : (List Int) → Int → Int → Int → Int → Tp6 → (List Int) → Tp7 → (List Int) → Tp7 → Tp6 → Option Tp1) (h_rc_gram_chart_row : ∀ a0 a1 a2 a3 a4 a5 a6 a7 a8 a9 a10, ChO (fun κ => rc_gram_chart_row κ a0 a1 a2 a3 a4 a5 a6 a7 a8 a9 a10) (rc_gram_chart_row' a0 a1 a2 a3 a4 a5 a6 a7 a8 a9 a10)) (signs : (List Int)) (i : Int) (j : Int) (best : Int) (k : Int) (c_8 : Int) (c_9 : Int) (c_10 : Tp6) (c_11 : (List Int)) (l : Tp7) (l_1 : (List Int)) (l_2 : Tp7) (l_3 : Tp6) (ends : (List Int)) : ChO (fun κ => gram_chart_row_L8 (rc_gram_chart_row κ) signs i j best k c_8 c_9 c_10 c_11 l l_1 l_2 l_3 ends) (gram_chart_row_L8 rc_gram_chart_row' signs i j best k c_8 c_9 c_10 c_11 l l_1 l_2 l_3 ends) := by
  unfold gram_chart_row_L8
  exact LFix_ch (fun κ => (gram_chart_row_L8_cn (rc_gram_chart_row κ) signs i j).mono) (gram_chart_row_L8_cn rc_gram_chart_row' signs i j).mono (fun g h hg x => gram_chart_row_L8_B_ch rc_gram_chart_row rc_gram_chart_row' h_rc_gram_chart_row (fun κ best k c_8 c_9 c_10 c_11 l l_1 l_2 l_3 ends => g κ (best, k, c_8, c_9, c_10, c_11, l, l_1, l_2, l_3, ends)) (fun best k c_8 c_9 c_10 c_11 l l_1 l_2 l_3 ends => h (best, k, c_8, c_9, c_10, c_11, l, l_1, l_2, l_3, ends)) (fun best k c_8 c_9 c_10 c_11 l l_1 l_2 l_3 ends => hg (best, k, c_8, c_9, c_10, c_11, l, l_1, l_2, l_3, ends)) signs i j x.1 x.2.1 x.2.2.1 x.2.2.2.1 x.2.2.2.2.1 x.2.2.2.2.2.1 x.2.2.2.2.2.2.1 x.2.2.2.2.2.2.2.1 x.2.2.2.2.2.2.2.2.1 x.2.2.2.2.2.2.2.2.2.1 x.2.2.2.2.2.2.2.2.2.2) _
theorem gram_chart_row_B_ch (rc_gram_chart_row : Nat → (List Int) → Int → Int → Int → Int → Tp6 → (List Int) → Tp7 → (List Int) → Tp7 → Tp6 → Option Tp1) (rc_gram_chart_row' : (List Int) → Int → Int → Int → Int → Tp6 → (List Int) → Tp7 → (List Int) → Tp7 → Tp6 → Option Tp1) (h_rc_gram_chart_row : ∀ a0 a1 a2 a3 a4 a5 a6 a7 a8 a9 a10, ChO (fun κ => rc_gram_chart_row κ a0 a1 a2 a3 a4 a5 a6 a7 a8 a9 a10) (rc_gram_chart_row' a0 a1 a2 a3 a4 a5 a6 a7 a8 a9 a10)) (signs : (List Int)) (i : Int) (j : Int) (c : Int) (c_1 : Int) (c_2 : Tp6) (c_3 : (List Int)) (c_4 : Tp7) (c_5 : (List Int)) (c_6 : Tp7) (c_7 : Tp6) : ChO (fun κ => gram_chart_row_B (rc_gram_chart_row κ) signs i j c c_1 c_2 c_3 c_4 c_5 c_6 c_7) (gram_chart_row_B rc_gram_chart_row' signs i j c c_1 c_2 c_3 c_4 c_5 c_6 c_7) := by
  unfold gram_chart_row_B
  repeat' with_reducible first | exact ChO.const _ | exact h_rc_gram_chart_row _ _ _ _ _ _ _ _ _ _ _ | (apply gram_chart_row_J14_ch <;> assumption) | (apply gram_chart_row_J13_ch <;> assumption) | (apply gram_chart_row_L8_ch <;> assumption) | apply ChO.ite | apply ChO.G | apply ChO.both | (apply ChO.bind; intro _) | (apply ChO.bind2 (h_rc_gram_chart_row _ _ _ _ _ _ _ _ _ _ _); intro _)
noncomputable def gram_chart_row_F : ((List Int) × Int × Int × Int × Int × Tp6 × (List Int) × Tp7 × (List Int) × Tp7 × Tp6 → Option Tp1) → (List Int) × Int × Int × Int × Int × Tp6 × (List Int) × Tp7 × (List Int) × Tp7 × Tp6 → Option Tp1 :=
  fun rec X => gram_chart_row_B (fun signs i j c c_1 c_2 c_3 c_4 c_5 c_6 c_7 => rec (signs, i, j, c, c_1, c_2, c_3, c_4, c_5, c_6, c_7)) X.1 X.2.1 X.2.2.1 X.2.2.2.1 X.2.2.2.2.1 X.2.2.2.2.2.1 X.2.2.2.2.2.2.1 X.2.2.2.2.2.2.2.1 X.2.2.2.2.2.2.2.2.1 X.2.2.2.2.2.2.2.2.2.1 X.2.2.2.2.2.2.2.2.2.2
noncomputable def gram_chart_row (signs : (List Int)) (i : Int) (j : Int) (c : Int) (c_1 : Int) (c_2 : Tp6) (c_3 : (List Int)) (c_4 : Tp7) (c_5 : (List Int)) (c_6 : Tp7) (c_7 : Tp6) : Option Tp1 := LFix gram_chart_row_F (signs, i, j, c, c_1, c_2, c_3, c_4, c_5, c_6, c_7)
theorem gram_chart_row_cn : Cn gram_chart_row_F := fun g h hg X => gram_chart_row_B_ch _ _ (fun signs i j c c_1 c_2 c_3 c_4 c_5 c_6 c_7 => hg (signs, i, j, c, c_1, c_2, c_3, c_4, c_5, c_6, c_7)) X.1 X.2.1 X.2.2.1 X.2.2.2.1 X.2.2.2.2.1 X.2.2.2.2.2.1 X.2.2.2.2.2.2.1 X.2.2.2.2.2.2.2.1 X.2.2.2.2.2.2.2.2.1 X.2.2.2.2.2.2.2.2.2.1 X.2.2.2.2.2.2.2.2.2.2
theorem gram_chart_row_eq (signs : (List Int)) (i : Int) (j : Int) (c : Int) (c_1 : Int) (c_2 : Tp6) (c_3 : (List Int)) (c_4 : Tp7) (c_5 : (List Int)) (c_6 : Tp7) (c_7 : Tp6) : gram_chart_row signs i j c c_1 c_2 c_3 c_4 c_5 c_6 c_7 = gram_chart_row_B gram_chart_row signs i j c c_1 c_2 c_3 c_4 c_5 c_6 c_7 := LFix_eq gram_chart_row_cn (signs, i, j, c, c_1, c_2, c_3, c_4, c_5, c_6, c_7)

noncomputable def gram_charted_J17 (t : Int) (r12 : (Bool → Int → Int → Int → Tp6 → (List Int) → Tp7 → (List Int) → Tp7 → Tp6 → Option Tp3)) (c_20 : Int) (c_21 : Int) (c_22 : Tp6) (c_23 : (List Int)) (l_20 : Tp7) (l_21 : (List Int)) (l_22 : Tp7) (l_23 : Tp6) : Option Tp3 :=
  G (fits (t + (1 : Int))) (
  r12 true (t + (1 : Int)) c_20 c_21 c_22 c_23 l_20 l_21 l_22 l_23)
noncomputable def gram_charted_J16 (g' : Tp4) (size : Int) (i : Int) (again_2 : Bool) (t : Int) (r12 : (Bool → Int → Int → Int → Tp6 → (List Int) → Tp7 → (List Int) → Tp7 → Tp6 → Option Tp3)) (y' : Int) (y'_1 : (List Int)) (t_1 : Bool) (c_16 : Int) (c_17 : Int) (c_18 : Tp6) (c_19 : (List Int)) (l_16 : Tp7) (l_17 : (List Int)) (l_18 : Tp7) (l_19 : Tp6) : Option Tp3 :=
  if t_1 = true then
  G (fits (y' + (1 : Int))) (
  both [(.int .i64), (.int .i64), (.list (.pair (.int .i64) (.pair (.list (.int .i64)) .unit))), (.list (.int .i64)), (.list (.pair (.int .i64) (.pair (.int .i64) (.pair (.int .i64) .unit)))), (.list (.int .i64)), (.list (.pair (.int .i64) (.pair (.int .i64) (.pair (.int .i64) .unit)))), (.list (.pair (.int .i64) (.pair (.list (.int .i64)) .unit)))] (
  both [(.int .i64), (.int .i64), (.list (.pair (.int .i64) (.pair (.list (.int .i64)) .unit))), (.list (.int .i64)), (.list (.pair (.int .i64) (.pair (.int .i64) (.pair (.int .i64) .unit)))), (.list (.int .i64)), (.list (.pair (.int .i64) (.pair (.int .i64) (.pair (.int .i64) .unit)))), (.list (.pair (.int .i64) (.pair (.list (.int .i64)) .unit)))] (
  G (0 ≤ mpos l_16 ((ix g'.2.2.1 t).1, (i, (i + size, ()))) ∧ mpos l_16 ((ix g'.2.2.1 t).1, (i, (i + size, ()))) < ((mputZ l_16 l_17 ((ix g'.2.2.1 t).1, (i, (i + size, ()))) (0 : Int)).length : Int)) (
  G (0 ≤ mpos l_18 ((ix g'.2.2.1 t).1, (i, (i + size, ()))) ∧ mpos l_18 ((ix g'.2.2.1 t).1, (i, (i + size, ()))) < ((mputZ l_18 l_19 ((ix g'.2.2.1 t).1, (i, (i + size, ()))) ((0, ([], ())) : Int × (List Int) × Unit)).length : Int)) (
  gram_charted_J17 t r12 c_16 c_17 c_18 c_19 (mputK l_16 ((ix g'.2.2.1 t).1, (i, (i + size, ())))) ((mputZ l_16 l_17 ((ix g'.2.2.1 t).1, (i, (i + size, ()))) (0 : Int)).set (mpos l_16 ((ix g'.2.2.1 t).1, (i, (i + size, ())))).toNat (imin (y' + (1 : Int)) (1099511627775 : Int))) (mputK l_18 ((ix g'.2.2.1 t).1, (i, (i + size, ())))) ((mputZ l_18 l_19 ((ix g'.2.2.1 t).1, (i, (i + size, ()))) ((0, ([], ())) : Int × (List Int) × Unit)).set (mpos l_18 ((ix g'.2.2.1 t).1, (i, (i + size, ())))).toNat (t, (y'_1, ())))))) (
  G (0 ≤ mpos l_16 ((ix g'.2.2.1 t).1, (i, (i + size, ()))) ∧ mpos l_16 ((ix g'.2.2.1 t).1, (i, (i + size, ()))) < ((mputZ l_16 l_17 ((ix g'.2.2.1 t).1, (i, (i + size, ()))) (0 : Int)).length : Int)) (
  G (0 ≤ mpos l_18 ((ix g'.2.2.1 t).1, (i, (i + size, ()))) ∧ mpos l_18 ((ix g'.2.2.1 t).1, (i, (i + size, ()))) < ((mputZ l_18 l_19 ((ix g'.2.2.1 t).1, (i, (i + size, ()))) ((0, ([], ())) : Int × (List Int) × Unit)).length : Int)) (
  gram_charted_J17 t r12 c_16 c_17 c_18 c_19 (mputK l_16 ((ix g'.2.2.1 t).1, (i, (i + size, ())))) ((mputZ l_16 l_17 ((ix g'.2.2.1 t).1, (i, (i + size, ()))) (0 : Int)).set (mpos l_16 ((ix g'.2.2.1 t).1, (i, (i + size, ())))).toNat (imin (y' + (1 : Int)) (1099511627775 : Int))) (mputK l_18 ((ix g'.2.2.1 t).1, (i, (i + size, ())))) ((mputZ l_18 l_19 ((ix g'.2.2.1 t).1, (i, (i + size, ()))) ((0, ([], ())) : Int × (List Int) × Unit)).set (mpos l_18 ((ix g'.2.2.1 t).1, (i, (i + size, ())))).toNat (t, (y'_1, ()))))))) (
  both [(.int .i64), (.int .i64), (.list (.pair (.int .i64) (.pair (.list (.int .i64)) .unit))), (.list (.int .i64)), (.list (.pair (.int .i64) (.pair (.int .i64) (.pair (.int .i64) .unit)))), (.list (.int .i64)), (.list (.pair (.int .i64) (.pair (.int .i64) (.pair (.int .i64) .unit)))), (.list (.pair (.int .i64) (.pair (.list (.int .i64)) .unit)))] (
  both [(.int .i64), (.int .i64), (.list (.pair (.int .i64) (.pair (.list (.int .i64)) .unit))), (.list (.int .i64)), (.list (.pair (.int .i64) (.pair (.int .i64) (.pair (.int .i64) .unit)))), (.list (.int .i64)), (.list (.pair (.int .i64) (.pair (.int .i64) (.pair (.int .i64) .unit)))), (.list (.pair (.int .i64) (.pair (.list (.int .i64)) .unit)))] (
  G (0 ≤ mpos l_16 ((ix g'.2.2.1 t).1, (i, (i + size, ()))) ∧ mpos l_16 ((ix g'.2.2.1 t).1, (i, (i + size, ()))) < ((mputZ l_16 l_17 ((ix g'.2.2.1 t).1, (i, (i + size, ()))) (0 : Int)).length : Int)) (
  G (0 ≤ mpos l_18 ((ix g'.2.2.1 t).1, (i, (i + size, ()))) ∧ mpos l_18 ((ix g'.2.2.1 t).1, (i, (i + size, ()))) < ((mputZ l_18 l_19 ((ix g'.2.2.1 t).1, (i, (i + size, ()))) ((0, ([], ())) : Int × (List Int) × Unit)).length : Int)) (
  gram_charted_J17 t r12 c_16 c_17 c_18 c_19 (mputK l_16 ((ix g'.2.2.1 t).1, (i, (i + size, ())))) ((mputZ l_16 l_17 ((ix g'.2.2.1 t).1, (i, (i + size, ()))) (0 : Int)).set (mpos l_16 ((ix g'.2.2.1 t).1, (i, (i + size, ())))).toNat (imin (y' + (1 : Int)) (1099511627775 : Int))) (mputK l_18 ((ix g'.2.2.1 t).1, (i, (i + size, ())))) ((mputZ l_18 l_19 ((ix g'.2.2.1 t).1, (i, (i + size, ()))) ((0, ([], ())) : Int × (List Int) × Unit)).set (mpos l_18 ((ix g'.2.2.1 t).1, (i, (i + size, ())))).toNat (t, (y'_1, ())))))) (
  both [(.int .i64), (.int .i64), (.list (.pair (.int .i64) (.pair (.list (.int .i64)) .unit))), (.list (.int .i64)), (.list (.pair (.int .i64) (.pair (.int .i64) (.pair (.int .i64) .unit)))), (.list (.int .i64)), (.list (.pair (.int .i64) (.pair (.int .i64) (.pair (.int .i64) .unit)))), (.list (.pair (.int .i64) (.pair (.list (.int .i64)) .unit)))] (
  G (0 ≤ mpos l_16 ((ix g'.2.2.1 t).1, (i, (i + size, ()))) ∧ mpos l_16 ((ix g'.2.2.1 t).1, (i, (i + size, ()))) < ((mputZ l_16 l_17 ((ix g'.2.2.1 t).1, (i, (i + size, ()))) (0 : Int)).length : Int)) (
  G (0 ≤ mpos l_18 ((ix g'.2.2.1 t).1, (i, (i + size, ()))) ∧ mpos l_18 ((ix g'.2.2.1 t).1, (i, (i + size, ()))) < ((mputZ l_18 l_19 ((ix g'.2.2.1 t).1, (i, (i + size, ()))) ((0, ([], ())) : Int × (List Int) × Unit)).length : Int)) (
  gram_charted_J17 t r12 c_16 c_17 c_18 c_19 (mputK l_16 ((ix g'.2.2.1 t).1, (i, (i + size, ())))) ((mputZ l_16 l_17 ((ix g'.2.2.1 t).1, (i, (i + size, ()))) (0 : Int)).set (mpos l_16 ((ix g'.2.2.1 t).1, (i, (i + size, ())))).toNat (imin (y' + (1 : Int)) (1099511627775 : Int))) (mputK l_18 ((ix g'.2.2.1 t).1, (i, (i + size, ())))) ((mputZ l_18 l_19 ((ix g'.2.2.1 t).1, (i, (i + size, ()))) ((0, ([], ())) : Int × (List Int) × Unit)).set (mpos l_18 ((ix g'.2.2.1 t).1, (i, (i + size, ())))).toNat (t, (y'_1, ())))))) (
  G (0 ≤ mpos l_16 ((ix g'.2.2.1 t).1, (i, (i + size, ()))) ∧ mpos l_16 ((ix g'.2.2.1 t).1, (i, (i + size, ()))) < ((mputZ l_16 l_17 ((ix g'.2.2.1 t).1, (i, (i + size, ()))) (0 : Int)).length : Int)) (
  G (0 ≤ mpos l_18 ((ix g'.2.2.1 t).1, (i, (i + size, ()))) ∧ mpos l_18 ((ix g'.2.2.1 t).1, (i, (i + size, ()))) < ((mputZ l_18 l_19 ((ix g'.2.2.1 t).1, (i, (i + size, ()))) ((0, ([], ())) : Int × (List Int) × Unit)).length : Int)) (
  gram_charted_J17 t r12 c_16 c_17 c_18 c_19 (mputK l_16 ((ix g'.2.2.1 t).1, (i, (i + size, ())))) ((mputZ l_16 l_17 ((ix g'.2.2.1 t).1, (i, (i + size, ()))) (0 : Int)).set (mpos l_16 ((ix g'.2.2.1 t).1, (i, (i + size, ())))).toNat (imin (y' + (1 : Int)) (1099511627775 : Int))) (mputK l_18 ((ix g'.2.2.1 t).1, (i, (i + size, ())))) ((mputZ l_18 l_19 ((ix g'.2.2.1 t).1, (i, (i + size, ()))) ((0, ([], ())) : Int × (List Int) × Unit)).set (mpos l_18 ((ix g'.2.2.1 t).1, (i, (i + size, ())))).toNat (t, (y'_1, ())))))))) (
  both [(.int .i64), (.int .i64), (.list (.pair (.int .i64) (.pair (.list (.int .i64)) .unit))), (.list (.int .i64)), (.list (.pair (.int .i64) (.pair (.int .i64) (.pair (.int .i64) .unit)))), (.list (.int .i64)), (.list (.pair (.int .i64) (.pair (.int .i64) (.pair (.int .i64) .unit)))), (.list (.pair (.int .i64) (.pair (.list (.int .i64)) .unit)))] (
  G (0 ≤ mpos l_16 ((ix g'.2.2.1 t).1, (i, (i + size, ()))) ∧ mpos l_16 ((ix g'.2.2.1 t).1, (i, (i + size, ()))) < ((mputZ l_16 l_17 ((ix g'.2.2.1 t).1, (i, (i + size, ()))) (0 : Int)).length : Int)) (
  G (0 ≤ mpos l_18 ((ix g'.2.2.1 t).1, (i, (i + size, ()))) ∧ mpos l_18 ((ix g'.2.2.1 t).1, (i, (i + size, ()))) < ((mputZ l_18 l_19 ((ix g'.2.2.1 t).1, (i, (i + size, ()))) ((0, ([], ())) : Int × (List Int) × Unit)).length : Int)) (
  gram_charted_J17 t r12 c_16 c_17 c_18 c_19 (mputK l_16 ((ix g'.2.2.1 t).1, (i, (i + size, ())))) ((mputZ l_16 l_17 ((ix g'.2.2.1 t).1, (i, (i + size, ()))) (0 : Int)).set (mpos l_16 ((ix g'.2.2.1 t).1, (i, (i + size, ())))).toNat (imin (y' + (1 : Int)) (1099511627775 : Int))) (mputK l_18 ((ix g'.2.2.1 t).1, (i, (i + size, ())))) ((mputZ l_18 l_19 ((ix g'.2.2.1 t).1, (i, (i + size, ()))) ((0, ([], ())) : Int × (List Int) × Unit)).set (mpos l_18 ((ix g'.2.2.1 t).1, (i, (i + size, ())))).toNat (t, (y'_1, ())))))) (
  G (0 ≤ mpos l_16 ((ix g'.2.2.1 t).1, (i, (i + size, ()))) ∧ mpos l_16 ((ix g'.2.2.1 t).1, (i, (i + size, ()))) < ((mputZ l_16 l_17 ((ix g'.2.2.1 t).1, (i, (i + size, ()))) (0 : Int)).length : Int)) (
  G (0 ≤ mpos l_18 ((ix g'.2.2.1 t).1, (i, (i + size, ()))) ∧ mpos l_18 ((ix g'.2.2.1 t).1, (i, (i + size, ()))) < ((mputZ l_18 l_19 ((ix g'.2.2.1 t).1, (i, (i + size, ()))) ((0, ([], ())) : Int × (List Int) × Unit)).length : Int)) (
  gram_charted_J17 t r12 c_16 c_17 c_18 c_19 (mputK l_16 ((ix g'.2.2.1 t).1, (i, (i + size, ())))) ((mputZ l_16 l_17 ((ix g'.2.2.1 t).1, (i, (i + size, ()))) (0 : Int)).set (mpos l_16 ((ix g'.2.2.1 t).1, (i, (i + size, ())))).toNat (imin (y' + (1 : Int)) (1099511627775 : Int))) (mputK l_18 ((ix g'.2.2.1 t).1, (i, (i + size, ())))) ((mputZ l_18 l_19 ((ix g'.2.2.1 t).1, (i, (i + size, ()))) ((0, ([], ())) : Int × (List Int) × Unit)).set (mpos l_18 ((ix g'.2.2.1 t).1, (i, (i + size, ())))).toNat (t, (y'_1, ()))))))))) else
  G (fits (t + (1 : Int))) (
  r12 again_2 (t + (1 : Int)) c_16 c_17 c_18 c_19 l_16 l_17 l_18 l_19)
noncomputable def gram_charted_L12_B (g' : Tp4) (size : Int) (i : Int) (r9 : (Bool → Int → Int → Int → Tp6 → (List Int) → Tp7 → (List Int) → Tp7 → Tp6 → Option Tp3)) (r12 : Bool → Int → Int → Int → Tp6 → (List Int) → Tp7 → (List Int) → Tp7 → Tp6 → Option Tp3) (again_2 : Bool) (t : Int) (c_12 : Int) (c_13 : Int) (c_14 : Tp6) (c_15 : (List Int)) (l_12 : Tp7) (l_13 : (List Int)) (l_14 : Tp7) (l_15 : Tp6) : Option Tp3 :=
  if (decide (t < (g'.2.2.1.length : Int))) = true then
  G (0 ≤ t ∧ t < (g'.2.2.1.length : Int)) (
  G (fits (i + size)) (
  (gram_chart_row (((ix g'.2.2.1 t).2).1) i (i + size) c_12 c_13 c_14 c_15 l_12 l_13 l_14 l_15).bind (fun y'_22 =>
  G (fits (i + size)) (
  if (decide (y'_22.1 < (1099511627776 : Int))) = true then
  G (fits (y'_22.1 + (1 : Int))) (
  G (fits (i + size)) (
  (gram_chart_of ((ix g'.2.2.1 t).1) i (i + size) y'_22.2.2.1 y'_22.2.2.2.1 y'_22.2.2.2.2.1 y'_22.2.2.2.2.2.1 y'_22.2.2.2.2.2.2.1 y'_22.2.2.2.2.2.2.2.1 y'_22.2.2.2.2.2.2.2.2.1 y'_22.2.2.2.2.2.2.2.2.2).bind (fun y'_21 =>
  gram_charted_J16 g' size i again_2 t r12 y'_22.1 y'_22.2.1 (decide ((y'_22.1 + (1 : Int)) < y'_21.1)) y'_21.2.1 y'_21.2.2.1 y'_21.2.2.2.1 y'_21.2.2.2.2.1 y'_21.2.2.2.2.2.1 y'_21.2.2.2.2.2.2.1 y'_21.2.2.2.2.2.2.2.1 y'_21.2.2.2.2.2.2.2.2))) else
  gram_charted_J16 g' size i again_2 t r12 y'_22.1 y'_22.2.1 false y'_22.2.2.1 y'_22.2.2.2.1 y'_22.2.2.2.2.1 y'_22.2.2.2.2.2.1 y'_22.2.2.2.2.2.2.1 y'_22.2.2.2.2.2.2.2.1 y'_22.2.2.2.2.2.2.2.2.1 y'_22.2.2.2.2.2.2.2.2.2)))) else
  G (fits (i + (1 : Int))) (
  r9 again_2 (i + (1 : Int)) c_12 c_13 c_14 c_15 l_12 l_13 l_14 l_15)
noncomputable def gram_charted_L12_F (g' : Tp4) (size : Int) (i : Int) (r9 : (Bool → Int → Int → Int → Tp6 → (List Int) → Tp7 → (List Int) → Tp7 → Tp6 → Option Tp3)) : (Bool × Int × Int × Int × Tp6 × (List Int) × Tp7 × (List Int) × Tp7 × Tp6 → Option Tp3) → Bool × Int × Int × Int × Tp6 × (List Int) × Tp7 × (List Int) × Tp7 × Tp6 → Option Tp3 :=
  fun rec x => gram_charted_L12_B g' size i r9 (fun again_2 t c_12 c_13 c_14 c_15 l_12 l_13 l_14 l_15 => rec (again_2, t, c_12, c_13, c_14, c_15, l_12, l_13, l_14, l_15)) x.1 x.2.1 x.2.2.1 x.2.2.2.1 x.2.2.2.2.1 x.2.2.2.2.2.1 x.2.2.2.2.2.2.1 x.2.2.2.2.2.2.2.1 x.2.2.2.2.2.2.2.2.1 x.2.2.2.2.2.2.2.2.2
noncomputable def gram_charted_L12 (g' : Tp4) (size : Int) (i : Int) (r9 : (Bool → Int → Int → Int → Tp6 → (List Int) → Tp7 → (List Int) → Tp7 → Tp6 → Option Tp3)) (again_2 : Bool) (t : Int) (c_12 : Int) (c_13 : Int) (c_14 : Tp6) (c_15 : (List Int)) (l_12 : Tp7) (l_13 : (List Int)) (l_14 : Tp7) (l_15 : Tp6) : Option Tp3 := LFix (gram_charted_L12_F g' size i r9 ) (again_2, t, c_12, c_13, c_14, c_15, l_12, l_13, l_14, l_15)
noncomputable def gram_charted_L9_B (g' : Tp4) (w : (List Int)) (size : Int) (r6 : (Bool → Int → Int → Tp6 → (List Int) → Tp7 → (List Int) → Tp7 → Tp6 → Option Tp3)) (r9 : Bool → Int → Int → Int → Tp6 → (List Int) → Tp7 → (List Int) → Tp7 → Tp6 → Option Tp3) (again_1 : Bool) (i : Int) (c_8 : Int) (c_9 : Int) (c_10 : Tp6) (c_11 : (List Int)) (l_8 : Tp7) (l_9 : (List Int)) (l_10 : Tp7) (l_11 : Tp6) : Option Tp3 :=
  G (fits (i + size)) (
  if (decide ((i + size) ≤ (w.length : Int))) = true then
  gram_charted_L12 g' size i r9 again_1 (0 : Int) c_8 c_9 c_10 c_11 l_8 l_9 l_10 l_11 else
  r6 again_1 c_8 c_9 c_10 c_11 l_8 l_9 l_10 l_11)
noncomputable def gram_charted_L9_F (g' : Tp4) (w : (List Int)) (size : Int) (r6 : (Bool → Int → Int → Tp6 → (List Int) → Tp7 → (List Int) → Tp7 → Tp6 → Option Tp3)) : (Bool × Int × Int × Int × Tp6 × (List Int) × Tp7 × (List Int) × Tp7 × Tp6 → Option Tp3) → Bool × Int × Int × Int × Tp6 × (List Int) × Tp7 × (List Int) × Tp7 × Tp6 → Option Tp3 :=
  fun rec x => gram_charted_L9_B g' w size r6 (fun again_1 i c_8 c_9 c_10 c_11 l_8 l_9 l_10 l_11 => rec (again_1, i, c_8, c_9, c_10, c_11, l_8, l_9, l_10, l_11)) x.1 x.2.1 x.2.2.1 x.2.2.2.1 x.2.2.2.2.1 x.2.2.2.2.2.1 x.2.2.2.2.2.2.1 x.2.2.2.2.2.2.2.1 x.2.2.2.2.2.2.2.2.1 x.2.2.2.2.2.2.2.2.2
noncomputable def gram_charted_L9 (g' : Tp4) (w : (List Int)) (size : Int) (r6 : (Bool → Int → Int → Tp6 → (List Int) → Tp7 → (List Int) → Tp7 → Tp6 → Option Tp3)) (again_1 : Bool) (i : Int) (c_8 : Int) (c_9 : Int) (c_10 : Tp6) (c_11 : (List Int)) (l_8 : Tp7) (l_9 : (List Int)) (l_10 : Tp7) (l_11 : Tp6) : Option Tp3 := LFix (gram_charted_L9_F g' w size r6 ) (again_1, i, c_8, c_9, c_10, c_11, l_8, l_9, l_10, l_11)
noncomputable def gram_charted_L6_B (g' : Tp4) (w : (List Int)) (size : Int) (r3 : (Int → Int → Int → Tp6 → (List Int) → Tp7 → (List Int) → Tp7 → Tp6 → Option Tp3)) (r6 : Bool → Int → Int → Tp6 → (List Int) → Tp7 → (List Int) → Tp7 → Tp6 → Option Tp3) (again : Bool) (c_4 : Int) (c_5 : Int) (c_6 : Tp6) (c_7 : (List Int)) (l_4 : Tp7) (l_5 : (List Int)) (l_6 : Tp7) (l_7 : Tp6) : Option Tp3 :=
  if again = true then
  gram_charted_L9 g' w size r6 false (0 : Int) c_4 c_5 c_6 c_7 l_4 l_5 l_6 l_7 else
  G (fits (size + (1 : Int))) (
  r3 (size + (1 : Int)) c_4 c_5 c_6 c_7 l_4 l_5 l_6 l_7)
noncomputable def gram_charted_L6_F (g' : Tp4) (w : (List Int)) (size : Int) (r3 : (Int → Int → Int → Tp6 → (List Int) → Tp7 → (List Int) → Tp7 → Tp6 → Option Tp3)) : (Bool × Int × Int × Tp6 × (List Int) × Tp7 × (List Int) × Tp7 × Tp6 → Option Tp3) → Bool × Int × Int × Tp6 × (List Int) × Tp7 × (List Int) × Tp7 × Tp6 → Option Tp3 :=
  fun rec x => gram_charted_L6_B g' w size r3 (fun again c_4 c_5 c_6 c_7 l_4 l_5 l_6 l_7 => rec (again, c_4, c_5, c_6, c_7, l_4, l_5, l_6, l_7)) x.1 x.2.1 x.2.2.1 x.2.2.2.1 x.2.2.2.2.1 x.2.2.2.2.2.1 x.2.2.2.2.2.2.1 x.2.2.2.2.2.2.2.1 x.2.2.2.2.2.2.2.2
noncomputable def gram_charted_L6 (g' : Tp4) (w : (List Int)) (size : Int) (r3 : (Int → Int → Int → Tp6 → (List Int) → Tp7 → (List Int) → Tp7 → Tp6 → Option Tp3)) (again : Bool) (c_4 : Int) (c_5 : Int) (c_6 : Tp6) (c_7 : (List Int)) (l_4 : Tp7) (l_5 : (List Int)) (l_6 : Tp7) (l_7 : Tp6) : Option Tp3 := LFix (gram_charted_L6_F g' w size r3 ) (again, c_4, c_5, c_6, c_7, l_4, l_5, l_6, l_7)
noncomputable def gram_charted_L3_B (g' : Tp4) (w : (List Int)) (r3 : Int → Int → Int → Tp6 → (List Int) → Tp7 → (List Int) → Tp7 → Tp6 → Option Tp3) (size : Int) (c : Int) (c_1 : Int) (c_2 : Tp6) (c_3 : (List Int)) (l : Tp7) (l_1 : (List Int)) (l_2 : Tp7) (l_3 : Tp6) : Option Tp3 :=
  if (decide (size ≤ (w.length : Int))) = true then
  gram_charted_L6 g' w size r3 true c c_1 c_2 c_3 l l_1 l_2 l_3 else
  some (c, c_1, c_2, c_3, l, l_1, l_2, l_3)
noncomputable def gram_charted_L3_F (g' : Tp4) (w : (List Int)) : (Int × Int × Int × Tp6 × (List Int) × Tp7 × (List Int) × Tp7 × Tp6 → Option Tp3) → Int × Int × Int × Tp6 × (List Int) × Tp7 × (List Int) × Tp7 × Tp6 → Option Tp3 :=
  fun rec x => gram_charted_L3_B g' w (fun size c c_1 c_2 c_3 l l_1 l_2 l_3 => rec (size, c, c_1, c_2, c_3, l, l_1, l_2, l_3)) x.1 x.2.1 x.2.2.1 x.2.2.2.1 x.2.2.2.2.1 x.2.2.2.2.2.1 x.2.2.2.2.2.2.1 x.2.2.2.2.2.2.2.1 x.2.2.2.2.2.2.2.2
noncomputable def gram_charted_L3 (g' : Tp4) (w : (List Int)) (size : Int) (c : Int) (c_1 : Int) (c_2 : Tp6) (c_3 : (List Int)) (l : Tp7) (l_1 : (List Int)) (l_2 : Tp7) (l_3 : Tp6) : Option Tp3 := LFix (gram_charted_L3_F g' w ) (size, c, c_1, c_2, c_3, l, l_1, l_2, l_3)
noncomputable def gram_charted (g' : Tp4) (w : (List Int)) : Option Tp3 :=
  gram_charted_L3 g' w (0 : Int) g'.1 g'.2.1 g'.2.2.1 w ([] : List Tp9) ([] : List Int) ([] : List Tp9) ([] : List Tp8)
theorem gram_charted_J17_ch (r12 : Nat → Bool → Int → Int → Int → Tp6 → (List Int) → Tp7 → (List Int) → Tp7 → Tp6 → Option Tp3) (r12' : Bool → Int → Int → Int → Tp6 → (List Int) → Tp7 → (List Int) → Tp7 → Tp6 → Option Tp3) (h_r12 : ∀ a0 a1 a2 a3 a4 a5 a6 a7 a8 a9, ChO (fun κ => r12 κ a0 a1 a2 a3 a4 a5 a6 a7 a8 a9) (r12' a0 a1 a2 a3 a4 a5 a6 a7 a8 a9)) (t : Int) (c_20 : Int) (c_21 : Int) (c_22 : Tp6) (c_23 : (List Int)) (l_20 : Tp7) (l_21 : (List Int)) (l_22 : Tp7) (l_23 : Tp6) : ChO (fun κ => gram_charted_J17 t (r12 κ) c_20 c_21 c_22 c_23 l_20 l_21 l_22 l_23) (gram_charted_J17 t r12' c_20 c_21 c_22 c_23 l_20 l_21 l_22 l_23) := by
  unfold gram_charted_J17
  repeat' with_reducible first | exact ChO.const _ | exact h_r12 _ _ _ _ _ _ _ _ _ _ | apply ChO.ite | apply ChO.G | apply ChO.both | (apply ChO.bind; intro _)
theorem gram_charted_J16_ch (r12 : Nat → Bool → Int → Int → Int → Tp6 → (List Int) → Tp7 → (List Int) → Tp7 → Tp6 → Option Tp3) (r12' : Bool → Int → Int → Int → Tp6 → (List Int) → Tp7 → (List Int) → Tp7 → Tp6 → Option Tp3) (h_r12 : ∀ a0 a1 a2 a3 a4 a5 a6 a7 a8 a9, ChO (fun κ => r12 κ a0 a1 a2 a3 a4 a5 a6 a7 a8 a9) (r12' a0 a1 a2 a3 a4 a5 a6 a7 a8 a9)) (g' : Tp4) (size : Int) (i : Int) (again_2 : Bool) (t : Int) (y' : Int) (y'_1 : (List Int)) (t_1 : Bool) (c_16 : Int) (c_17 : Int) (c_18 : Tp6) (c_19 : (List Int)) (l_16 : Tp7) (l_17 : (List Int)) (l_18 : Tp7) (l_19 : Tp6) : ChO (fun κ => gram_charted_J16 g' size i again_2 t (r12 κ) y' y'_1 t_1 c_16 c_17 c_18 c_19 l_16 l_17 l_18 l_19) (gram_charted_J16 g' size i again_2 t r12' y' y'_1 t_1 c_16 c_17 c_18 c_19 l_16 l_17 l_18 l_19) := by
  unfold gram_charted_J16
  repeat' with_reducible first | exact ChO.const _ | exact h_r12 _ _ _ _ _ _ _ _ _ _ | (apply gram_charted_J17_ch <;> assumption) | apply ChO.ite | apply ChO.G | apply ChO.both | (apply ChO.bind; intro _)
theorem gram_charted_L12_B_ch (r9 : Nat → Bool → Int → Int → Int → Tp6 → (List Int) → Tp7 → (List Int) → Tp7 → Tp6 → Option Tp3) (r9' : Bool → Int → Int → Int → Tp6 → (List Int) → Tp7 → (List Int) → Tp7 → Tp6 → Option Tp3) (h_r9 : ∀ a0 a1 a2 a3 a4 a5 a6 a7 a8 a9, ChO (fun κ => r9 κ a0 a1 a2 a3 a4 a5 a6 a7 a8 a9) (r9' a0 a1 a2 a3 a4 a5 a6 a7 a8 a9)) (r12 : Nat → Bool → Int → Int → Int → Tp6 → (List Int) → Tp7 → (List Int) → Tp7 → Tp6 → Option Tp3) (r12' : Bool → Int → Int → Int → Tp6 → (List Int) → Tp7 → (List Int) → Tp7 → Tp6 → Option Tp3) (h_r12 : ∀ a0 a1 a2 a3 a4 a5 a6 a7 a8 a9, ChO (fun κ => r12 κ a0 a1 a2 a3 a4 a5 a6 a7 a8 a9) (r12' a0 a1 a2 a3 a4 a5 a6 a7 a8 a9)) (g' : Tp4) (size : Int) (i : Int) (again_2 : Bool) (t : Int) (c_12 : Int) (c_13 : Int) (c_14 : Tp6) (c_15 : (List Int)) (l_12 : Tp7) (l_13 : (List Int)) (l_14 : Tp7) (l_15 : Tp6) : ChO (fun κ => gram_charted_L12_B g' size i (r9 κ) (r12 κ) again_2 t c_12 c_13 c_14 c_15 l_12 l_13 l_14 l_15) (gram_charted_L12_B g' size i r9' r12' again_2 t c_12 c_13 c_14 c_15 l_12 l_13 l_14 l_15) := by
  unfold gram_charted_L12_B
  repeat' with_reducible first | exact ChO.const _ | exact h_r9 _ _ _ _ _ _ _ _ _ _ | exact h_r12 _ _ _ _ _ _ _ _ _ _ | (apply gram_charted_J17_ch <;> assumption) | (apply gram_charted_J16_ch <;> assumption) | apply ChO.ite | apply ChO.G | apply ChO.both | (apply ChO.bind; intro _)
theorem gram_charted_L12_cn (r9 : Bool → Int → Int → Int → Tp6 → (List Int) → Tp7 → (List Int) → Tp7 → Tp6 → Option Tp3) (g' : Tp4) (size : Int) (i : Int) : Cn (gram_charted_L12_F g' size i r9) := fun g h hg x => gram_charted_L12_B_ch (fun _ => r9) r9 (fun _ _ _ _ _ _ _ _ _ _ => ChO.const _) (fun κ again_2 t c_12 c_13 c_14 c_15 l_12 l_13 l_14 l_15 => g κ (again_2, t, c_12, c_13, c_14, c_15, l_12, l_13, l_14, l_15)) (fun again_2 t c_12 c_13 c_14 c_15 l_12 l_13 l_14 l_15 => h (again_2, t, c_12, c_13, c_14, c_15, l_12, l_13, l_14, l_15)) (fun again_2 t c_12 c_13 c_14 c_15 l_12 l_13 l_14 l_15 => hg (again_2, t, c_12, c_13, c_14, c_15, l_12, l_13, l_14, l_15)) g' size i x.1 x.2.1 x.2.2.1 x.2.2.2.1 x.2.2.2.2.1 x.2.2.2.2.2.1 x.2.2.2.2.2.2.1 x.2.2.2.2.2.2.2.1 x.2.2.2.2.2.2.2.2.1 x.2.2.2.2.2.2.2.2.2
theorem gram_charted_L12_eq (r9 : Bool → Int → Int → Int → Tp6 → (List Int) → Tp7 → (List Int) → Tp7 → Tp6 → Option Tp3) (g' : Tp4) (size : Int) (i : Int) (again_2 : Bool) (t : Int) (c_12 : Int) (c_13 : Int) (c_14 : Tp6) (c_15 : (List Int)) (l_12 : Tp7) (l_13 : (List Int)) (l_14 : Tp7) (l_15 : Tp6) : gram_charted_L12 g' size i r9 again_2 t c_12 c_13 c_14 c_15 l_12 l_13 l_14 l_15 = gram_charted_L12_B g' size i r9 (gram_charted_L12 g' size i r9) again_2 t c_12 c_13 c_14 c_15 l_12 l_13 l_14 l_15 := LFix_eq (gram_charted_L12_cn r9 g' size i) (again_2, t, c_12, c_13, c_14, c_15, l_12, l_13, l_14, l_15)
theorem gram_charted_L12_ch (r9 : Nat → Bool → Int → Int → Int → Tp6 → (List Int) → Tp7 → (List Int) → Tp7 → Tp6 → Option Tp3) (r9' : Bool → Int → Int → Int → Tp6 → (List Int) → Tp7 → (List Int) → Tp7 → Tp6 → Option Tp3) (h_r9 : ∀ a0 a1 a2 a3 a4 a5 a6 a7 a8 a9, ChO (fun κ => r9 κ a0 a1 a2 a3 a4 a5 a6 a7 a8 a9) (r9' a0 a1 a2 a3 a4 a5 a6 a7 a8 a9)) (g' : Tp4) (size : Int) (i : Int) (again_2 : Bool) (t : Int) (c_12 : Int) (c_13 : Int) (c_14 : Tp6) (c_15 : (List Int)) (l_12 : Tp7) (l_13 : (List Int)) (l_14 : Tp7) (l_15 : Tp6) : ChO (fun κ => gram_charted_L12 g' size i (r9 κ) again_2 t c_12 c_13 c_14 c_15 l_12 l_13 l_14 l_15) (gram_charted_L12 g' size i r9' again_2 t c_12 c_13 c_14 c_15 l_12 l_13 l_14 l_15) := by
  unfold gram_charted_L12
  exact LFix_ch (fun κ => (gram_charted_L12_cn (r9 κ) g' size i).mono) (gram_charted_L12_cn r9' g' size i).mono (fun g h hg x => gram_charted_L12_B_ch r9 r9' h_r9 (fun κ again_2 t c_12 c_13 c_14 c_15 l_12 l_13 l_14 l_15 => g κ (again_2, t, c_12, c_13, c_14, c_15, l_12, l_13, l_14, l_15)) (fun again_2 t c_12 c_13 c_14 c_15 l_12 l_13 l_14 l_15 => h (again_2, t, c_12, c_13, c_14, c_15, l_12, l_13, l_14, l_15)) (fun again_2 t c_12 c_13 c_14 c_15 l_12 l_13 l_14 l_15 => hg (again_2, t, c_12, c_13, c_14, c_15, l_12, l_13, l_14, l_15)) g' size i x.1 x.2.1 x.2.2.1 x.2.2.2.1 x.2.2.2.2.1 x.2.2.2.2.2.1 x.2.2.2.2.2.2.1 x.2.2.2.2.2.2.2.1 x.2.2.2.2.2.2.2.2.1 x.2.2.2.2.2.2.2.2.2) _
theorem gram_charted_L9_B_ch (r6 : Nat → Bool → Int → Int → Tp6 → (List Int) → Tp7 → (List Int) → Tp7 → Tp6 → Option Tp3) (r6' : Bool → Int → Int → Tp6 → (List Int) → Tp7 → (List Int) → Tp7 → Tp6 → Option Tp3) (h_r6 : ∀ a0 a1 a2 a3 a4 a5 a6 a7 a8, ChO (fun κ => r6 κ a0 a1 a2 a3 a4 a5 a6 a7 a8) (r6' a0 a1 a2 a3 a4 a5 a6 a7 a8)) (r9 : Nat → Bool → Int → Int → Int → Tp6 → (List Int) → Tp7 → (List Int) → Tp7 → Tp6 → Option Tp3) (r9' : Bool → Int → Int → Int → Tp6 → (List Int) → Tp7 → (List Int) → Tp7 → Tp6 → Option Tp3) (h_r9 : ∀ a0 a1 a2 a3 a4 a5 a6 a7 a8 a9, ChO (fun κ => r9 κ a0 a1 a2 a3 a4 a5 a6 a7 a8 a9) (r9' a0 a1 a2 a3 a4 a5 a6 a7 a8 a9)) (g' : Tp4) (w : (List Int)) (size : Int) (again_1 : Bool) (i : Int) (c_8 : Int) (c_9 : Int) (c_10 : Tp6) (c_11 : (List Int)) (l_8 : Tp7) (l_9 : (List Int)) (l_10 : Tp7) (l_11 : Tp6) : ChO (fun κ => gram_charted_L9_B g' w size (r6 κ) (r9 κ) again_1 i c_8 c_9 c_10 c_11 l_8 l_9 l_10 l_11) (gram_charted_L9_B g' w size r6' r9' again_1 i c_8 c_9 c_10 c_11 l_8 l_9 l_10 l_11) := by
  unfold gram_charted_L9_B
  repeat' with_reducible first | exact ChO.const _ | exact h_r6 _ _ _ _ _ _ _ _ _ | exact h_r9 _ _ _ _ _ _ _ _ _ _ | (apply gram_charted_J17_ch <;> assumption) | (apply gram_charted_J16_ch <;> assumption) | (apply gram_charted_L12_ch <;> assumption) | apply ChO.ite | apply ChO.G | apply ChO.both | (apply ChO.bind; intro _)
theorem gram_charted_L9_cn (r6 : Bool → Int → Int → Tp6 → (List Int) → Tp7 → (List Int) → Tp7 → Tp6 → Option Tp3) (g' : Tp4) (w : (List Int)) (size : Int) : Cn (gram_charted_L9_F g' w size r6) := fun g h hg x => gram_charted_L9_B_ch (fun _ => r6) r6 (fun _ _ _ _ _ _ _ _ _ => ChO.const _) (fun κ again_1 i c_8 c_9 c_10 c_11 l_8 l_9 l_10 l_11 => g κ (again_1, i, c_8, c_9, c_10, c_11, l_8, l_9, l_10, l_11)) (fun again_1 i c_8 c_9 c_10 c_11 l_8 l_9 l_10 l_11 => h (again_1, i, c_8, c_9, c_10, c_11, l_8, l_9, l_10, l_11)) (fun again_1 i c_8 c_9 c_10 c_11 l_8 l_9 l_10 l_11 => hg (again_1, i, c_8, c_9, c_10, c_11, l_8, l_9, l_10, l_11)) g' w size x.1 x.2.1 x.2.2.1 x.2.2.2.1 x.2.2.2.2.1 x.2.2.2.2.2.1 x.2.2.2.2.2.2.1 x.2.2.2.2.2.2.2.1 x.2.2.2.2.2.2.2.2.1 x.2.2.2.2.2.2.2.2.2
theorem gram_charted_L9_eq (r6 : Bool → Int → Int → Tp6 → (List Int) → Tp7 → (List Int) → Tp7 → Tp6 → Option Tp3) (g' : Tp4) (w : (List Int)) (size : Int) (again_1 : Bool) (i : Int) (c_8 : Int) (c_9 : Int) (c_10 : Tp6) (c_11 : (List Int)) (l_8 : Tp7) (l_9 : (List Int)) (l_10 : Tp7) (l_11 : Tp6) : gram_charted_L9 g' w size r6 again_1 i c_8 c_9 c_10 c_11 l_8 l_9 l_10 l_11 = gram_charted_L9_B g' w size r6 (gram_charted_L9 g' w size r6) again_1 i c_8 c_9 c_10 c_11 l_8 l_9 l_10 l_11 := LFix_eq (gram_charted_L9_cn r6 g' w size) (again_1, i, c_8, c_9, c_10, c_11, l_8, l_9, l_10, l_11)
theorem gram_charted_L9_ch (r6 : Nat → Bool → Int → Int → Tp6 → (List Int) → Tp7 → (List Int) → Tp7 → Tp6 → Option Tp3) (r6' : Bool → Int → Int → Tp6 → (List Int) → Tp7 → (List Int) → Tp7 → Tp6 → Option Tp3) (h_r6 : ∀ a0 a1 a2 a3 a4 a5 a6 a7 a8, ChO (fun κ => r6 κ a0 a1 a2 a3 a4 a5 a6 a7 a8) (r6' a0 a1 a2 a3 a4 a5 a6 a7 a8)) (g' : Tp4) (w : (List Int)) (size : Int) (again_1 : Bool) (i : Int) (c_8 : Int) (c_9 : Int) (c_10 : Tp6) (c_11 : (List Int)) (l_8 : Tp7) (l_9 : (List Int)) (l_10 : Tp7) (l_11 : Tp6) : ChO (fun κ => gram_charted_L9 g' w size (r6 κ) again_1 i c_8 c_9 c_10 c_11 l_8 l_9 l_10 l_11) (gram_charted_L9 g' w size r6' again_1 i c_8 c_9 c_10 c_11 l_8 l_9 l_10 l_11) := by
  unfold gram_charted_L9
  exact LFix_ch (fun κ => (gram_charted_L9_cn (r6 κ) g' w size).mono) (gram_charted_L9_cn r6' g' w size).mono (fun g h hg x => gram_charted_L9_B_ch r6 r6' h_r6 (fun κ again_1 i c_8 c_9 c_10 c_11 l_8 l_9 l_10 l_11 => g κ (again_1, i, c_8, c_9, c_10, c_11, l_8, l_9, l_10, l_11)) (fun again_1 i c_8 c_9 c_10 c_11 l_8 l_9 l_10 l_11 => h (again_1, i, c_8, c_9, c_10, c_11, l_8, l_9, l_10, l_11)) (fun again_1 i c_8 c_9 c_10 c_11 l_8 l_9 l_10 l_11 => hg (again_1, i, c_8, c_9, c_10, c_11, l_8, l_9, l_10, l_11)) g' w size x.1 x.2.1 x.2.2.1 x.2.2.2.1 x.2.2.2.2.1 x.2.2.2.2.2.1 x.2.2.2.2.2.2.1 x.2.2.2.2.2.2.2.1 x.2.2.2.2.2.2.2.2.1 x.2.2.2.2.2.2.2.2.2) _
theorem gram_charted_L6_B_ch (r3 : Nat → Int → Int → Int → Tp6 → (List Int) → Tp7 → (List Int) → Tp7 → Tp6 → Option Tp3) (r3' : Int → Int → Int → Tp6 → (List Int) → Tp7 → (List Int) → Tp7 → Tp6 → Option Tp3) (h_r3 : ∀ a0 a1 a2 a3 a4 a5 a6 a7 a8, ChO (fun κ => r3 κ a0 a1 a2 a3 a4 a5 a6 a7 a8) (r3' a0 a1 a2 a3 a4 a5 a6 a7 a8)) (r6 : Nat → Bool → Int → Int → Tp6 → (List Int) → Tp7 → (List Int) → Tp7 → Tp6 → Option Tp3) (r6' : Bool → Int → Int → Tp6 → (List Int) → Tp7 → (List Int) → Tp7 → Tp6 → Option Tp3) (h_r6 : ∀ a0 a1 a2 a3 a4 a5 a6 a7 a8, ChO (fun κ => r6 κ a0 a1 a2 a3 a4 a5 a6 a7 a8) (r6' a0 a1 a2 a3 a4 a5 a6 a7 a8)) (g' : Tp4) (w : (List Int)) (size : Int) (again : Bool) (c_4 : Int) (c_5 : Int) (c_6 : Tp6) (c_7 : (List Int)) (l_4 : Tp7) (l_5 : (List Int)) (l_6 : Tp7) (l_7 : Tp6) : ChO (fun κ => gram_charted_L6_B g' w size (r3 κ) (r6 κ) again c_4 c_5 c_6 c_7 l_4 l_5 l_6 l_7) (gram_charted_L6_B g' w size r3' r6' again c_4 c_5 c_6 c_7 l_4 l_5 l_6 l_7) := by
  unfold gram_charted_L6_B
  repeat' with_reducible first | exact ChO.const _ | exact h_r3 _ _ _ _ _ _ _ _ _ | exact h_r6 _ _ _ _ _ _ _ _ _ | (apply gram_charted_J17_ch <;> assumption) | (apply gram_charted_J16_ch <;> assumption) | (apply gram_charted_L12_ch <;> assumption) | (apply gram_charted_L9_ch <;> assumption) | apply ChO.ite | apply ChO.G | apply ChO.both | (apply ChO.bind; intro _)
theorem gram_charted_L6_cn (r3 : Int → Int → Int → Tp6 → (List Int) → Tp7 → (List Int) → Tp7 → Tp6 → Option Tp3) (g' : Tp4) (w : (List Int)) (size : Int) : Cn (gram_charted_L6_F g' w size r3) := fun g h hg x => gram_charted_L6_B_ch (fun _ => r3) r3 (fun _ _ _ _ _ _ _ _ _ => ChO.const _) (fun κ again c_4 c_5 c_6 c_7 l_4 l_5 l_6 l_7 => g κ (again, c_4, c_5, c_6, c_7, l_4, l_5, l_6, l_7)) (fun again c_4 c_5 c_6 c_7 l_4 l_5 l_6 l_7 => h (again, c_4, c_5, c_6, c_7, l_4, l_5, l_6, l_7)) (fun again c_4 c_5 c_6 c_7 l_4 l_5 l_6 l_7 => hg (again, c_4, c_5, c_6, c_7, l_4, l_5, l_6, l_7)) g' w size x.1 x.2.1 x.2.2.1 x.2.2.2.1 x.2.2.2.2.1 x.2.2.2.2.2.1 x.2.2.2.2.2.2.1 x.2.2.2.2.2.2.2.1 x.2.2.2.2.2.2.2.2
theorem gram_charted_L6_eq (r3 : Int → Int → Int → Tp6 → (List Int) → Tp7 → (List Int) → Tp7 → Tp6 → Option Tp3) (g' : Tp4) (w : (List Int)) (size : Int) (again : Bool) (c_4 : Int) (c_5 : Int) (c_6 : Tp6) (c_7 : (List Int)) (l_4 : Tp7) (l_5 : (List Int)) (l_6 : Tp7) (l_7 : Tp6) : gram_charted_L6 g' w size r3 again c_4 c_5 c_6 c_7 l_4 l_5 l_6 l_7 = gram_charted_L6_B g' w size r3 (gram_charted_L6 g' w size r3) again c_4 c_5 c_6 c_7 l_4 l_5 l_6 l_7 := LFix_eq (gram_charted_L6_cn r3 g' w size) (again, c_4, c_5, c_6, c_7, l_4, l_5, l_6, l_7)
theorem gram_charted_L6_ch (r3 : Nat → Int → Int → Int → Tp6 → (List Int) → Tp7 → (List Int) → Tp7 → Tp6 → Option Tp3) (r3' : Int → Int → Int → Tp6 → (List Int) → Tp7 → (List Int) → Tp7 → Tp6 → Option Tp3) (h_r3 : ∀ a0 a1 a2 a3 a4 a5 a6 a7 a8, ChO (fun κ => r3 κ a0 a1 a2 a3 a4 a5 a6 a7 a8) (r3' a0 a1 a2 a3 a4 a5 a6 a7 a8)) (g' : Tp4) (w : (List Int)) (size : Int) (again : Bool) (c_4 : Int) (c_5 : Int) (c_6 : Tp6) (c_7 : (List Int)) (l_4 : Tp7) (l_5 : (List Int)) (l_6 : Tp7) (l_7 : Tp6) : ChO (fun κ => gram_charted_L6 g' w size (r3 κ) again c_4 c_5 c_6 c_7 l_4 l_5 l_6 l_7) (gram_charted_L6 g' w size r3' again c_4 c_5 c_6 c_7 l_4 l_5 l_6 l_7) := by
  unfold gram_charted_L6
  exact LFix_ch (fun κ => (gram_charted_L6_cn (r3 κ) g' w size).mono) (gram_charted_L6_cn r3' g' w size).mono (fun g h hg x => gram_charted_L6_B_ch r3 r3' h_r3 (fun κ again c_4 c_5 c_6 c_7 l_4 l_5 l_6 l_7 => g κ (again, c_4, c_5, c_6, c_7, l_4, l_5, l_6, l_7)) (fun again c_4 c_5 c_6 c_7 l_4 l_5 l_6 l_7 => h (again, c_4, c_5, c_6, c_7, l_4, l_5, l_6, l_7)) (fun again c_4 c_5 c_6 c_7 l_4 l_5 l_6 l_7 => hg (again, c_4, c_5, c_6, c_7, l_4, l_5, l_6, l_7)) g' w size x.1 x.2.1 x.2.2.1 x.2.2.2.1 x.2.2.2.2.1 x.2.2.2.2.2.1 x.2.2.2.2.2.2.1 x.2.2.2.2.2.2.2.1 x.2.2.2.2.2.2.2.2) _
theorem gram_charted_L3_B_ch (r3 : Nat → Int → Int → Int → Tp6 → (List Int) → Tp7 → (List Int) → Tp7 → Tp6 → Option Tp3) (r3' : Int → Int → Int → Tp6 → (List Int) → Tp7 → (List Int) → Tp7 → Tp6 → Option Tp3) (h_r3 : ∀ a0 a1 a2 a3 a4 a5 a6 a7 a8, ChO (fun κ => r3 κ a0 a1 a2 a3 a4 a5 a6 a7 a8) (r3' a0 a1 a2 a3 a4 a5 a6 a7 a8)) (g' : Tp4) (w : (List Int)) (size : Int) (c : Int) (c_1 : Int) (c_2 : Tp6) (c_3 : (List Int)) (l : Tp7) (l_1 : (List Int)) (l_2 : Tp7) (l_3 : Tp6) : ChO (fun κ => gram_charted_L3_B g' w (r3 κ) size c c_1 c_2 c_3 l l_1 l_2 l_3) (gram_charted_L3_B g' w r3' size c c_1 c_2 c_3 l l_1 l_2 l_3) := by
  unfold gram_charted_L3_B
  repeat' with_reducible first | exact ChO.const _ | exact h_r3 _ _ _ _ _ _ _ _ _ | (apply gram_charted_J17_ch <;> assumption) | (apply gram_charted_J16_ch <;> assumption) | (apply gram_charted_L12_ch <;> assumption) | (apply gram_charted_L9_ch <;> assumption) | (apply gram_charted_L6_ch <;> assumption) | apply ChO.ite | apply ChO.G | apply ChO.both | (apply ChO.bind; intro _)
theorem gram_charted_L3_cn  (g' : Tp4) (w : (List Int)) : Cn (gram_charted_L3_F g' w) := fun g h hg x => gram_charted_L3_B_ch  (fun κ size c c_1 c_2 c_3 l l_1 l_2 l_3 => g κ (size, c, c_1, c_2, c_3, l, l_1, l_2, l_3)) (fun size c c_1 c_2 c_3 l l_1 l_2 l_3 => h (size, c, c_1, c_2, c_3, l, l_1, l_2, l_3)) (fun size c c_1 c_2 c_3 l l_1 l_2 l_3 => hg (size, c, c_1, c_2, c_3, l, l_1, l_2, l_3)) g' w x.1 x.2.1 x.2.2.1 x.2.2.2.1 x.2.2.2.2.1 x.2.2.2.2.2.1 x.2.2.2.2.2.2.1 x.2.2.2.2.2.2.2.1 x.2.2.2.2.2.2.2.2
theorem gram_charted_L3_eq  (g' : Tp4) (w : (List Int)) (size : Int) (c : Int) (c_1 : Int) (c_2 : Tp6) (c_3 : (List Int)) (l : Tp7) (l_1 : (List Int)) (l_2 : Tp7) (l_3 : Tp6) : gram_charted_L3 g' w size c c_1 c_2 c_3 l l_1 l_2 l_3 = gram_charted_L3_B g' w (gram_charted_L3 g' w) size c c_1 c_2 c_3 l l_1 l_2 l_3 := LFix_eq (gram_charted_L3_cn g' w) (size, c, c_1, c_2, c_3, l, l_1, l_2, l_3)

noncomputable def gram_chart_makes_1_J7 (name : Int) (i : Int) (j : Int) (c_6 : Tp7) (c_7 : Tp6) (t : Int) (r4 : (Int → Int → Int → Int → Tp6 → (List Int) → (List Int) → Tp7 → (List Int) → Tp7 → Tp6 → Option Tp2)) (c_12 : Int) (c_13 : Int) (c_14 : Tp6) (c_15 : (List Int)) (out_2 : (List Int)) (l_4 : Tp7) (l_5 : (List Int)) (l_6 : Tp7) (l_7 : Tp6) : Option Tp2 :=
  G (0 ≤ t ∧ t < ((((mget c_6 c_7 (name, (i, (j, ()))) ((0, ([], ())) : Int × (List Int) × Unit)).2).1).length : Int)) (
  G (fits (t + (1 : Int))) (
  r4 (ix (((mget c_6 c_7 (name, (i, (j, ()))) ((0, ([], ())) : Int × (List Int) × Unit)).2).1) t) (t + (1 : Int)) c_12 c_13 c_14 c_15 out_2 l_4 l_5 l_6 l_7))
noncomputable def gram_chart_makes_1_L4_B (rc_gram_chart_makes_1 : Int → Int → Int → Int → Int → Tp6 → (List Int) → (List Int) → Tp7 → (List Int) → Tp7 → Tp6 → Option Tp2) (name : Int) (i : Int) (j : Int) (c_2 : Tp6) (c_6 : Tp7) (c_7 : Tp6) (r4 : Int → Int → Int → Int → Tp6 → (List Int) → (List Int) → Tp7 → (List Int) → Tp7 → Tp6 → Option Tp2) (i_1 : Int) (t : Int) (c_8 : Int) (c_9 : Int) (c_10 : Tp6) (c_11 : (List Int)) (out_1 : (List Int)) (l : Tp7) (l_1 : (List Int)) (l_2 : Tp7) (l_3 : Tp6) : Option Tp2 :=
  if (decide (t < ((((ix c_2 ((mget c_6 c_7 (name, (i, (j, ()))) ((0, ([], ())) : Int × (List Int) × Unit)).1)).2).1).length : Int))) = true then
  G (0 ≤ t ∧ t < ((((ix c_2 ((mget c_6 c_7 (name, (i, (j, ()))) ((0, ([], ())) : Int × (List Int) × Unit)).1)).2).1).length : Int)) (
  if (decide (c_8 ≤ (ix (((ix c_2 ((mget c_6 c_7 (name, (i, (j, ()))) ((0, ([], ())) : Int × (List Int) × Unit)).1)).2).1) t))) = true then
  G (fits ((ix (((ix c_2 ((mget c_6 c_7 (name, (i, (j, ()))) ((0, ([], ())) : Int × (List Int) × Unit)).1)).2).1) t) - c_8)) (
  G (0 ≤ t ∧ t < ((((mget c_6 c_7 (name, (i, (j, ()))) ((0, ([], ())) : Int × (List Int) × Unit)).2).1).length : Int)) (
  (rc_gram_chart_makes_1 ((ix (((ix c_2 ((mget c_6 c_7 (name, (i, (j, ()))) ((0, ([], ())) : Int × (List Int) × Unit)).1)).2).1) t) - c_8) i_1 (ix (((mget c_6 c_7 (name, (i, (j, ()))) ((0, ([], ())) : Int × (List Int) × Unit)).2).1) t) c_8 c_9 c_10 c_11 out_1 l l_1 l_2 l_3).bind (fun y'_10 =>
  gram_chart_makes_1_J7 name i j c_6 c_7 t r4 y'_10.2.1 y'_10.2.2.1 y'_10.2.2.2.1 y'_10.2.2.2.2.1 y'_10.1 y'_10.2.2.2.2.2.1 y'_10.2.2.2.2.2.2.1 y'_10.2.2.2.2.2.2.2.1 y'_10.2.2.2.2.2.2.2.2))) else
  gram_chart_makes_1_J7 name i j c_6 c_7 t r4 c_8 c_9 c_10 c_11 out_1 l l_1 l_2 l_3) else
  some (out_1, c_8, c_9, c_10, c_11, l, l_1, l_2, l_3)
noncomputable def gram_chart_makes_1_L4_F (rc_gram_chart_makes_1 : Int → Int → Int → Int → Int → Tp6 → (List Int) → (List Int) → Tp7 → (List Int) → Tp7 → Tp6 → Option Tp2) (name : Int) (i : Int) (j : Int) (c_2 : Tp6) (c_6 : Tp7) (c_7 : Tp6) : (Int × Int × Int × Int × Tp6 × (List Int) × (List Int) × Tp7 × (List Int) × Tp7 × Tp6 → Option Tp2) → Int × Int × Int × Int × Tp6 × (List Int) × (List Int) × Tp7 × (List Int) × Tp7 × Tp6 → Option Tp2 :=
  fun rec x => gram_chart_makes_1_L4_B rc_gram_chart_makes_1 name i j c_2 c_6 c_7 (fun i_1 t c_8 c_9 c_10 c_11 out_1 l l_1 l_2 l_3 => rec (i_1, t, c_8, c_9, c_10, c_11, out_1, l, l_1, l_2, l_3)) x.1 x.2.1 x.2.2.1 x.2.2.2.1 x.2.2.2.2.1 x.2.2.2.2.2.1 x.2.2.2.2.2.2.1 x.2.2.2.2.2.2.2.1 x.2.2.2.2.2.2.2.2.1 x.2.2.2.2.2.2.2.2.2.1 x.2.2.2.2.2.2.2.2.2.2
noncomputable def gram_chart_makes_1_L4 (rc_gram_chart_makes_1 : Int → Int → Int → Int → Int → Tp6 → (List Int) → (List Int) → Tp7 → (List Int) → Tp7 → Tp6 → Option Tp2) (name : Int) (i : Int) (j : Int) (c_2 : Tp6) (c_6 : Tp7) (c_7 : Tp6) (i_1 : Int) (t : Int) (c_8 : Int) (c_9 : Int) (c_10 : Tp6) (c_11 : (List Int)) (out_1 : (List Int)) (l : Tp7) (l_1 : (List Int)) (l_2 : Tp7) (l_3 : Tp6) : Option Tp2 := LFix (gram_chart_makes_1_L4_F rc_gram_chart_makes_1 name i j c_2 c_6 c_7 ) (i_1, t, c_8, c_9, c_10, c_11, out_1, l, l_1, l_2, l_3)
noncomputable def gram_chart_makes_1_B (rc_gram_chart_makes_1 : Int → Int → Int → Int → Int → Tp6 → (List Int) → (List Int) → Tp7 → (List Int) → Tp7 → Tp6 → Option Tp2) (name : Int) (i : Int) (j : Int) (c : Int) (c_1 : Int) (c_2 : Tp6) (c_3 : (List Int)) (out : (List Int)) (c_4 : Tp7) (c_5 : (List Int)) (c_6 : Tp7) (c_7 : Tp6) : Option Tp2 :=
  G (room out ([(mget c_6 c_7 (name, (i, (j, ()))) ((0, ([], ())) : Int × (List Int) × Unit)).1]) 8) (
  G (0 ≤ (mget c_6 c_7 (name, (i, (j, ()))) ((0, ([], ())) : Int × (List Int) × Unit)).1 ∧ (mget c_6 c_7 (name, (i, (j, ()))) ((0, ([], ())) : Int × (List Int) × Unit)).1 < (c_2.length : Int)) (
  gram_chart_makes_1_L4 rc_gram_chart_makes_1 name i j c_2 c_6 c_7 i (0 : Int) c c_1 c_2 c_3 (out ++ ([(mget c_6 c_7 (name, (i, (j, ()))) ((0, ([], ())) : Int × (List Int) × Unit)).1])) c_4 c_5 c_6 c_7))
theorem gram_chart_makes_1_J7_ch (r4 : Nat → Int → Int → Int → Int → Tp6 → (List Int) → (List Int) → Tp7 → (List Int) → Tp7 → Tp6 → Option Tp2) (r4' : Int → Int → Int → Int → Tp6 → (List Int) → (List Int) → Tp7 → (List Int) → Tp7 → Tp6 → Option Tp2) (h_r4 : ∀ a0 a1 a2 a3 a4 a5 a6 a7 a8 a9 a10, ChO (fun κ => r4 κ a0 a1 a2 a3 a4 a5 a6 a7 a8 a9 a10) (r4' a0 a1 a2 a3 a4 a5 a6 a7 a8 a9 a10)) (name : Int) (i : Int) (j : Int) (c_6 : Tp7) (c_7 : Tp6) (t : Int) (c_12 : Int) (c_13 : Int) (c_14 : Tp6) (c_15 : (List Int)) (out_2 : (List Int)) (l_4 : Tp7) (l_5 : (List Int)) (l_6 : Tp7) (l_7 : Tp6) : ChO (fun κ => gram_chart_makes_1_J7 name i j c_6 c_7 t (r4 κ) c_12 c_13 c_14 c_15 out_2 l_4 l_5 l_6 l_7) (gram_chart_makes_1_J7 name i j c_6 c_7 t r4' c_12 c_13 c_14 c_15 out_2 l_4 l_5 l_6 l_7) := by
  unfold gram_chart_makes_1_J7
  repeat' with_reducible first | exact ChO.const _ | exact h_r4 _ _ _ _ _ _ _ _ _ _ _ | apply ChO.ite | apply ChO.G | apply ChO.both | (apply ChO.bind; intro _)
theorem gram_chart_makes_1_L4_B_ch (rc_gram_chart_makes_1 : Nat → Int → Int → Int → Int → Int → Tp6 → (List Int) → (List Int) → Tp7 → (List Int) → Tp7 → Tp6 → Option Tp2) (rc_gram_chart_makes_1' : Int → Int → Int → Int → Int → Tp6 → (List Int) → (List Int) → Tp7 → (List Int) → Tp7 → Tp6 → Option Tp2) (h_rc_gram_chart_makes_1 : ∀ a0 a1 a2 a3 a4 a5 a6 a7 a8 a9 a10 a11, ChO (fun κ => rc_gram_chart_makes_1 κ a0 a1 a2 a3 a4 a5 a6 a7 a8 a9 a10 a11) (rc_gram_chart_makes_1' a0 a1 a2 a3 a4 a5 a6 a7 a8 a9 a10 a11)) (r4 : Nat → Int → Int → Int → Int → Tp6 → (List Int) → (List Int) → Tp7 → (List Int) → Tp7 → Tp6 → Option Tp2) (r4' : Int → Int → Int → Int → Tp6 → (List Int) → (List Int) → Tp7 → (List Int) → Tp7 → Tp6 → Option Tp2) (h_r4 : ∀ a0 a1 a2 a3 a4 a5 a6 a7 a8 a9 a10, ChO (fun κ => r4 κ a0 a1 a2 a3 a4 a5 a6 a7 a8 a9 a10) (r4' a0 a1 a2 a3 a4 a5 a6 a7 a8 a9 a10)) (name : Int) (i : Int) (j : Int) (c_2 : Tp6) (c_6 : Tp7) (c_7 : Tp6) (i_1 : Int) (t : Int) (c_8 : Int) (c_9 : Int) (c_10 : Tp6) (c_11 : (List Int)) (out_1 : (List Int)) (l : Tp7) (l_1 : (List Int)) (l_2 : Tp7) (l_3 : Tp6) : ChO (fun κ => gram_chart_makes_1_L4_B (rc_gram_chart_makes_1 κ) name i j c_2 c_6 c_7 (r4 κ) i_1 t c_8 c_9 c_10 c_11 out_1 l l_1 l_2 l_3) (gram_chart_makes_1_L4_B rc_gram_chart_makes_1' name i j c_2 c_6 c_7 r4' i_1 t c_8 c_9 c_10 c_11 out_1 l l_1 l_2 l_3) := by
  unfold gram_chart_makes_1_L4_B
  repeat' with_reducible first | exact ChO.const _ | exact h_rc_gram_chart_makes_1 _ _ _ _ _ _ _ _ _ _ _ _ | exact h_r4 _ _ _ _ _ _ _ _ _ _ _ | (apply gram_chart_makes_1_J7_ch <;> assumption) | apply ChO.ite | apply ChO.G | apply ChO.both | (apply ChO.bind; intro _) | (apply ChO.bind2 (h_rc_gram_chart_makes_1 _ _ _ _ _ _ _ _ _ _ _ _); intro _)
theorem gram_chart_makes_1_L4_cn (rc_gram_chart_makes_1 : Int → Int → Int → Int → Int → Tp6 → (List Int) → (List Int) → Tp7 → (List Int) → Tp7 → Tp6 → Option Tp2) (name : Int) (i : Int) (j : Int) (c_2 : Tp6) (c_6 : Tp7) (c_7 : Tp6) : Cn (gram_chart_makes_1_L4_F rc_gram_chart_makes_1 name i j c_2 c_6 c_7) := fun g h hg x => gram_chart_makes_1_L4_B_ch (fun _ => rc_gram_chart_makes_1) rc_gram_chart_makes_1 (fun _ _ _ _ _ _ _ _ _ _ _ _ => ChO.const _) (fun κ i_1 t c_8 c_9 c_10 c_11 out_1 l l_1 l_2 l_3 => g κ (i_1, t, c_8, c_9, c_10, c_11, out_1, l, l_1, l_2, l_3)) (fun i_1 t c_8 c_9 c_10 c_11 out_1 l l_1 l_2 l_3 => h (i_1, t, c_8, c_9, c_10, c_11, out_1, l, l_1, l_2, l_3)) (fun i_1 t c_8 c_9 c_10 c_11 out_1 l l_1 l_2 l_3 => hg (i_1, t, c_8, c_9, c_10, c_11, out_1, l, l_1, l_2, l_3)) name i j c_2 c_6 c_7 x.1 x.2.1 x.2.2.1 x.2.2.2.1 x.2.2.2.2.1 x.2.2.2.2.2.1 x.2.2.2.2.2.2.1 x.2.2.2.2.2.2.2.1 x.2.2.2.2.2.2.2.2.1 x.2.2.2.2.2.2.2.2.2.1 x.2.2.2.2.2.2.2.2.2.2
theorem gram_chart_makes_1_L4_eq (rc_gram_chart_makes_1 : Int → Int → Int → Int → Int → Tp6 → (List Int) → (List Int) → Tp7 → (List Int) → Tp7 → Tp6 → Option Tp2) (name : Int) (i : Int) (j : Int) (c_2 : Tp6) (c_6 : Tp7) (c_7 : Tp6) (i_1 : Int) (t : Int) (c_8 : Int) (c_9 : Int) (c_10 : Tp6) (c_11 : (List Int)) (out_1 : (List Int)) (l : Tp7) (l_1 : (List Int)) (l_2 : Tp7) (l_3 : Tp6) : gram_chart_makes_1_L4 rc_gram_chart_makes_1 name i j c_2 c_6 c_7 i_1 t c_8 c_9 c_10 c_11 out_1 l l_1 l_2 l_3 = gram_chart_makes_1_L4_B rc_gram_chart_makes_1 name i j c_2 c_6 c_7 (gram_chart_makes_1_L4 rc_gram_chart_makes_1 name i j c_2 c_6 c_7) i_1 t c_8 c_9 c_10 c_11 out_1 l l_1 l_2 l_3 := LFix_eq (gram_chart_makes_1_L4_cn rc_gram_chart_makes_1 name i j c_2 c_6 c_7) (i_1, t, c_8, c_9, c_10, c_11, out_1, l, l_1, l_2, l_3)
theorem gram_chart_makes_1_L4_ch (rc_gram_chart_makes_1 : Nat → Int → Int → Int → Int → Int → Tp6 → (List Int) → (List Int) → Tp7 → (List Int) → Tp7 → Tp6 → Option Tp2) (rc_gram_chart_makes_1' : Int → Int → Int → Int → Int → Tp6 → (List Int) → (List Int) → Tp7 → (List Int) → Tp7 → Tp6 → Option Tp2) (h_rc_gram_chart_makes_1 : ∀ a0 a1 a2 a3 a4 a5 a6 a7 a8 a9 a10 a11, ChO (fun κ => rc_gram_chart_makes_1 κ a0 a1 a2 a3 a4 a5 a6 a7 a8 a9 a10 a11) (rc_gram_chart_makes_1' a0 a1 a2 a3 a4 a5 a6 a7 a8 a9 a10 a11)) (name : Int) (i : Int) (j : Int) (c_2 : Tp6) (c_6 : Tp7) (c_7 : Tp6) (i_1 : Int) (t : Int) (c_8 : Int) (c_9 : Int) (c_10 : Tp6) (c_11 : (List Int)) (out_1 : (List Int)) (l : Tp7) (l_1 : (List Int)) (l_2 : Tp7) (l_3 : Tp6) : ChO (fun κ => gram_chart_makes_1_L4 (rc_gram_chart_makes_1 κ) name i j c_2 c_6 c_7 i_1 t c_8 c_9 c_10 c_11 out_1 l l_1 l_2 l_3) (gram_chart_makes_1_L4 rc_gram_chart_makes_1' name i j c_2 c_6 c_7 i_1 t c_8 c_9 c_10 c_11 out_1 l l_1 l_2 l_3) := by
  unfold gram_chart_makes_1_L4
  exact LFix_ch (fun κ => (gram_chart_makes_1_L4_cn (rc_gram_chart_makes_1 κ) name i j c_2 c_6 c_7).mono) (gram_chart_makes_1_L4_cn rc_gram_chart_makes_1' name i j c_2 c_6 c_7).mono (fun g h hg x => gram_chart_makes_1_L4_B_ch rc_gram_chart_makes_1 rc_gram_chart_makes_1' h_rc_gram_chart_makes_1 (fun κ i_1 t c_8 c_9 c_10 c_11 out_1 l l_1 l_2 l_3 => g κ (i_1, t, c_8, c_9, c_10, c_11, out_1, l, l_1, l_2, l_3)) (fun i_1 t c_8 c_9 c_10 c_11 out_1 l l_1 l_2 l_3 => h (i_1, t, c_8, c_9, c_10, c_11, out_1, l, l_1, l_2, l_3)) (fun i_1 t c_8 c_9 c_10 c_11 out_1 l l_1 l_2 l_3 => hg (i_1, t, c_8, c_9, c_10, c_11, out_1, l, l_1, l_2, l_3)) name i j c_2 c_6 c_7 x.1 x.2.1 x.2.2.1 x.2.2.2.1 x.2.2.2.2.1 x.2.2.2.2.2.1 x.2.2.2.2.2.2.1 x.2.2.2.2.2.2.2.1 x.2.2.2.2.2.2.2.2.1 x.2.2.2.2.2.2.2.2.2.1 x.2.2.2.2.2.2.2.2.2.2) _
theorem gram_chart_makes_1_B_ch (rc_gram_chart_makes_1 : Nat → Int → Int → Int → Int → Int → Tp6 → (List Int) → (List Int) → Tp7 → (List Int) → Tp7 → Tp6 → Option Tp2) (rc_gram_chart_makes_1' : Int → Int → Int → Int → Int → Tp6 → (List Int) → (List Int) → Tp7 → (List Int) → Tp7 → Tp6 → Option Tp2) (h_rc_gram_chart_makes_1 : ∀ a0 a1 a2 a3 a4 a5 a6 a7 a8 a9 a10 a11, ChO (fun κ => rc_gram_chart_makes_1 κ a0 a1 a2 a3 a4 a5 a6 a7 a8 a9 a10 a11) (rc_gram_chart_makes_1' a0 a1 a2 a3 a4 a5 a6 a7 a8 a9 a10 a11)) (name : Int) (i : Int) (j : Int) (c : Int) (c_1 : Int) (c_2 : Tp6) (c_3 : (List Int)) (out : (List Int)) (c_4 : Tp7) (c_5 : (List Int)) (c_6 : Tp7) (c_7 : Tp6) : ChO (fun κ => gram_chart_makes_1_B (rc_gram_chart_makes_1 κ) name i j c c_1 c_2 c_3 out c_4 c_5 c_6 c_7) (gram_chart_makes_1_B rc_gram_chart_makes_1' name i j c c_1 c_2 c_3 out c_4 c_5 c_6 c_7) := by
  unfold gram_chart_makes_1_B
  repeat' with_reducible first | exact ChO.const _ | exact h_rc_gram_chart_makes_1 _ _ _ _ _ _ _ _ _ _ _ _ | (apply gram_chart_makes_1_J7_ch <;> assumption) | (apply gram_chart_makes_1_L4_ch <;> assumption) | apply ChO.ite | apply ChO.G | apply ChO.both | (apply ChO.bind; intro _) | (apply ChO.bind2 (h_rc_gram_chart_makes_1 _ _ _ _ _ _ _ _ _ _ _ _); intro _)
noncomputable def gram_chart_makes_1_F : (Int × Int × Int × Int × Int × Tp6 × (List Int) × (List Int) × Tp7 × (List Int) × Tp7 × Tp6 → Option Tp2) → Int × Int × Int × Int × Int × Tp6 × (List Int) × (List Int) × Tp7 × (List Int) × Tp7 × Tp6 → Option Tp2 :=
  fun rec X => gram_chart_makes_1_B (fun name i j c c_1 c_2 c_3 out c_4 c_5 c_6 c_7 => rec (name, i, j, c, c_1, c_2, c_3, out, c_4, c_5, c_6, c_7)) X.1 X.2.1 X.2.2.1 X.2.2.2.1 X.2.2.2.2.1 X.2.2.2.2.2.1 X.2.2.2.2.2.2.1 X.2.2.2.2.2.2.2.1 X.2.2.2.2.2.2.2.2.1 X.2.2.2.2.2.2.2.2.2.1 X.2.2.2.2.2.2.2.2.2.2.1 X.2.2.2.2.2.2.2.2.2.2.2
noncomputable def gram_chart_makes_1 (name : Int) (i : Int) (j : Int) (c : Int) (c_1 : Int) (c_2 : Tp6) (c_3 : (List Int)) (out : (List Int)) (c_4 : Tp7) (c_5 : (List Int)) (c_6 : Tp7) (c_7 : Tp6) : Option Tp2 := LFix gram_chart_makes_1_F (name, i, j, c, c_1, c_2, c_3, out, c_4, c_5, c_6, c_7)
theorem gram_chart_makes_1_cn : Cn gram_chart_makes_1_F := fun g h hg X => gram_chart_makes_1_B_ch _ _ (fun name i j c c_1 c_2 c_3 out c_4 c_5 c_6 c_7 => hg (name, i, j, c, c_1, c_2, c_3, out, c_4, c_5, c_6, c_7)) X.1 X.2.1 X.2.2.1 X.2.2.2.1 X.2.2.2.2.1 X.2.2.2.2.2.1 X.2.2.2.2.2.2.1 X.2.2.2.2.2.2.2.1 X.2.2.2.2.2.2.2.2.1 X.2.2.2.2.2.2.2.2.2.1 X.2.2.2.2.2.2.2.2.2.2.1 X.2.2.2.2.2.2.2.2.2.2.2
theorem gram_chart_makes_1_eq (name : Int) (i : Int) (j : Int) (c : Int) (c_1 : Int) (c_2 : Tp6) (c_3 : (List Int)) (out : (List Int)) (c_4 : Tp7) (c_5 : (List Int)) (c_6 : Tp7) (c_7 : Tp6) : gram_chart_makes_1 name i j c c_1 c_2 c_3 out c_4 c_5 c_6 c_7 = gram_chart_makes_1_B gram_chart_makes_1 name i j c c_1 c_2 c_3 out c_4 c_5 c_6 c_7 := LFix_eq gram_chart_makes_1_cn (name, i, j, c, c_1, c_2, c_3, out, c_4, c_5, c_6, c_7)

noncomputable def gram_chart_makes_J7 (name : Int) (i : Int) (j : Int) (c_6 : Tp7) (c_7 : Tp6) (t : Int) (r4 : (Int → Int → Int → Int → Tp6 → (List Int) → (List Int) → Tp7 → (List Int) → Tp7 → Tp6 → Option Tp2)) (c_12 : Int) (c_13 : Int) (c_14 : Tp6) (c_15 : (List Int)) (out_1 : (List Int)) (l_4 : Tp7) (l_5 : (List Int)) (l_6 : Tp7) (l_7 : Tp6) : Option Tp2 :=
  G (0 ≤ t ∧ t < ((((mget c_6 c_7 (name, (i, (j, ()))) ((0, ([], ())) : Int × (List Int) × Unit)).2).1).length : Int)) (
  G (fits (t + (1 : Int))) (
  r4 (ix (((mget c_6 c_7 (name, (i, (j, ()))) ((0, ([], ())) : Int × (List Int) × Unit)).2).1) t) (t + (1 : Int)) c_12 c_13 c_14 c_15 out_1 l_4 l_5 l_6 l_7))
noncomputable def gram_chart_makes_L4_B (name : Int) (i : Int) (j : Int) (c_2 : Tp6) (c_6 : Tp7) (c_7 : Tp6) (r4 : Int → Int → Int → Int → Tp6 → (List Int) → (List Int) → Tp7 → (List Int) → Tp7 → Tp6 → Option Tp2) (i_1 : Int) (t : Int) (c_8 : Int) (c_9 : Int) (c_10 : Tp6) (c_11 : (List Int)) (out : (List Int)) (l : Tp7) (l_1 : (List Int)) (l_2 : Tp7) (l_3 : Tp6) : Option Tp2 :=
  if (decide (t < ((((ix c_2 ((mget c_6 c_7 (name, (i, (j, ()))) ((0, ([], ())) : Int × (List Int) × Unit)).1)).2).1).length : Int))) = true then
  G (0 ≤ t ∧ t < ((((ix c_2 ((mget c_6 c_7 (name, (i, (j, ()))) ((0, ([], ())) : Int × (List Int) × Unit)).1)).2).1).length : Int)) (
  if (decide (c_8 ≤ (ix (((ix c_2 ((mget c_6 c_7 (name, (i, (j, ()))) ((0, ([], ())) : Int × (List Int) × Unit)).1)).2).1) t))) = true then
  G (fits ((ix (((ix c_2 ((mget c_6 c_7 (name, (i, (j, ()))) ((0, ([], ())) : Int × (List Int) × Unit)).1)).2).1) t) - c_8)) (
  G (0 ≤ t ∧ t < ((((mget c_6 c_7 (name, (i, (j, ()))) ((0, ([], ())) : Int × (List Int) × Unit)).2).1).length : Int)) (
  (gram_chart_makes_1 ((ix (((ix c_2 ((mget c_6 c_7 (name, (i, (j, ()))) ((0, ([], ())) : Int × (List Int) × Unit)).1)).2).1) t) - c_8) i_1 (ix (((mget c_6 c_7 (name, (i, (j, ()))) ((0, ([], ())) : Int × (List Int) × Unit)).2).1) t) c_8 c_9 c_10 c_11 out l l_1 l_2 l_3).bind (fun y'_10 =>
  gram_chart_makes_J7 name i j c_6 c_7 t r4 y'_10.2.1 y'_10.2.2.1 y'_10.2.2.2.1 y'_10.2.2.2.2.1 y'_10.1 y'_10.2.2.2.2.2.1 y'_10.2.2.2.2.2.2.1 y'_10.2.2.2.2.2.2.2.1 y'_10.2.2.2.2.2.2.2.2))) else
  gram_chart_makes_J7 name i j c_6 c_7 t r4 c_8 c_9 c_10 c_11 out l l_1 l_2 l_3) else
  some (out, c_8, c_9, c_10, c_11, l, l_1, l_2, l_3)
noncomputable def gram_chart_makes_L4_F (name : Int) (i : Int) (j : Int) (c_2 : Tp6) (c_6 : Tp7) (c_7 : Tp6) : (Int × Int × Int × Int × Tp6 × (List Int) × (List Int) × Tp7 × (List Int) × Tp7 × Tp6 → Option Tp2) → Int × Int × Int × Int × Tp6 × (List Int) × (List Int) × Tp7 × (List Int) × Tp7 × Tp6 → Option Tp2 :=
  fun rec x => gram_chart_makes_L4_B name i j c_2 c_6 c_7 (fun i_1 t c_8 c_9 c_10 c_11 out l l_1 l_2 l_3 => rec (i_1, t, c_8, c_9, c_10, c_11, out, l, l_1, l_2, l_3)) x.1 x.2.1 x.2.2.1 x.2.2.2.1 x.2.2.2.2.1 x.2.2.2.2.2.1 x.2.2.2.2.2.2.1 x.2.2.2.2.2.2.2.1 x.2.2.2.2.2.2.2.2.1 x.2.2.2.2.2.2.2.2.2.1 x.2.2.2.2.2.2.2.2.2.2
noncomputable def gram_chart_makes_L4 (name : Int) (i : Int) (j : Int) (c_2 : Tp6) (c_6 : Tp7) (c_7 : Tp6) (i_1 : Int) (t : Int) (c_8 : Int) (c_9 : Int) (c_10 : Tp6) (c_11 : (List Int)) (out : (List Int)) (l : Tp7) (l_1 : (List Int)) (l_2 : Tp7) (l_3 : Tp6) : Option Tp2 := LFix (gram_chart_makes_L4_F name i j c_2 c_6 c_7 ) (i_1, t, c_8, c_9, c_10, c_11, out, l, l_1, l_2, l_3)
noncomputable def gram_chart_makes (name : Int) (i : Int) (j : Int) (c : Int) (c_1 : Int) (c_2 : Tp6) (c_3 : (List Int)) (c_4 : Tp7) (c_5 : (List Int)) (c_6 : Tp7) (c_7 : Tp6) : Option Tp2 :=
  G (room ([] : List Int) ([(mget c_6 c_7 (name, (i, (j, ()))) ((0, ([], ())) : Int × (List Int) × Unit)).1]) 8) (
  G (0 ≤ (mget c_6 c_7 (name, (i, (j, ()))) ((0, ([], ())) : Int × (List Int) × Unit)).1 ∧ (mget c_6 c_7 (name, (i, (j, ()))) ((0, ([], ())) : Int × (List Int) × Unit)).1 < (c_2.length : Int)) (
  gram_chart_makes_L4 name i j c_2 c_6 c_7 i (0 : Int) c c_1 c_2 c_3 ([(mget c_6 c_7 (name, (i, (j, ()))) ((0, ([], ())) : Int × (List Int) × Unit)).1]) c_4 c_5 c_6 c_7))
theorem gram_chart_makes_J7_ch (r4 : Nat → Int → Int → Int → Int → Tp6 → (List Int) → (List Int) → Tp7 → (List Int) → Tp7 → Tp6 → Option Tp2) (r4' : Int → Int → Int → Int → Tp6 → (List Int) → (List Int) → Tp7 → (List Int) → Tp7 → Tp6 → Option Tp2) (h_r4 : ∀ a0 a1 a2 a3 a4 a5 a6 a7 a8 a9 a10, ChO (fun κ => r4 κ a0 a1 a2 a3 a4 a5 a6 a7 a8 a9 a10) (r4' a0 a1 a2 a3 a4 a5 a6 a7 a8 a9 a10)) (name : Int) (i : Int) (j : Int) (c_6 : Tp7) (c_7 : Tp6) (t : Int) (c_12 : Int) (c_13 : Int) (c_14 : Tp6) (c_15 : (List Int)) (out_1 : (List Int)) (l_4 : Tp7) (l_5 : (List Int)) (l_6 : Tp7) (l_7 : Tp6) : ChO (fun κ => gram_chart_makes_J7 name i j c_6 c_7 t (r4 κ) c_12 c_13 c_14 c_15 out_1 l_4 l_5 l_6 l_7) (gram_chart_makes_J7 name i j c_6 c_7 t r4' c_12 c_13 c_14 c_15 out_1 l_4 l_5 l_6 l_7) := by
  unfold gram_chart_makes_J7
  repeat' with_reducible first | exact ChO.const _ | exact h_r4 _ _ _ _ _ _ _ _ _ _ _ | apply ChO.ite | apply ChO.G | apply ChO.both | (apply ChO.bind; intro _)
theorem gram_chart_makes_L4_B_ch (r4 : Nat → Int → Int → Int → Int → Tp6 → (List Int) → (List Int) → Tp7 → (List Int) → Tp7 → Tp6 → Option Tp2) (r4' : Int → Int → Int → Int → Tp6 → (List Int) → (List Int) → Tp7 → (List Int) → Tp7 → Tp6 → Option Tp2) (h_r4 : ∀ a0 a1 a2 a3 a4 a5 a6 a7 a8 a9 a10, ChO (fun κ => r4 κ a0 a1 a2 a3 a4 a5 a6 a7 a8 a9 a10) (r4' a0 a1 a2 a3 a4 a5 a6 a7 a8 a9 a10)) (name : Int) (i : Int) (j : Int) (c_2 : Tp6) (c_6 : Tp7) (c_7 : Tp6) (i_1 : Int) (t : Int) (c_8 : Int) (c_9 : Int) (c_10 : Tp6) (c_11 : (List Int)) (out : (List Int)) (l : Tp7) (l_1 : (List Int)) (l_2 : Tp7) (l_3 : Tp6) : ChO (fun κ => gram_chart_makes_L4_B name i j c_2 c_6 c_7 (r4 κ) i_1 t c_8 c_9 c_10 c_11 out l l_1 l_2 l_3) (gram_chart_makes_L4_B name i j c_2 c_6 c_7 r4' i_1 t c_8 c_9 c_10 c_11 out l l_1 l_2 l_3) := by
  unfold gram_chart_makes_L4_B
  repeat' with_reducible first | exact ChO.const _ | exact h_r4 _ _ _ _ _ _ _ _ _ _ _ | (apply gram_chart_makes_J7_ch <;> assumption) | apply ChO.ite | apply ChO.G | apply ChO.both | (apply ChO.bind; intro _)
theorem gram_chart_makes_L4_cn  (name : Int) (i : Int) (j : Int) (c_2 : Tp6) (c_6 : Tp7) (c_7 : Tp6) : Cn (gram_chart_makes_L4_F name i j c_2 c_6 c_7) := fun g h hg x => gram_chart_makes_L4_B_ch  (fun κ i_1 t c_8 c_9 c_10 c_11 out l l_1 l_2 l_3 => g κ (i_1, t, c_8, c_9, c_10, c_11, out, l, l_1, l_2, l_3)) (fun i_1 t c_8 c_9 c_10 c_11 out l l_1 l_2 l_3 => h (i_1, t, c_8, c_9, c_10, c_11, out, l, l_1, l_2, l_3)) (fun i_1 t c_8 c_9 c_10 c_11 out l l_1 l_2 l_3 => hg (i_1, t, c_8, c_9, c_10, c_11, out, l, l_1, l_2, l_3)) name i j c_2 c_6 c_7 x.1 x.2.1 x.2.2.1 x.2.2.2.1 x.2.2.2.2.1 x.2.2.2.2.2.1 x.2.2.2.2.2.2.1 x.2.2.2.2.2.2.2.1 x.2.2.2.2.2.2.2.2.1 x.2.2.2.2.2.2.2.2.2.1 x.2.2.2.2.2.2.2.2.2.2
theorem gram_chart_makes_L4_eq  (name : Int) (i : Int) (j : Int) (c_2 : Tp6) (c_6 : Tp7) (c_7 : Tp6) (i_1 : Int) (t : Int) (c_8 : Int) (c_9 : Int) (c_10 : Tp6) (c_11 : (List Int)) (out : (List Int)) (l : Tp7) (l_1 : (List Int)) (l_2 : Tp7) (l_3 : Tp6) : gram_chart_makes_L4 name i j c_2 c_6 c_7 i_1 t c_8 c_9 c_10 c_11 out l l_1 l_2 l_3 = gram_chart_makes_L4_B name i j c_2 c_6 c_7 (gram_chart_makes_L4 name i j c_2 c_6 c_7) i_1 t c_8 c_9 c_10 c_11 out l l_1 l_2 l_3 := LFix_eq (gram_chart_makes_L4_cn name i j c_2 c_6 c_7) (i_1, t, c_8, c_9, c_10, c_11, out, l, l_1, l_2, l_3)

noncomputable def gram_Tells (g' : Tp4) (w : (List Int)) : Option (Bool × Int × (List Int)) :=
  (gram_Check (g'.1, (g'.2.1, (g'.2.2.1, ())))).bind (fun y' =>
  if (decide (¬ y' = (0 : Int))) = true then
  some (false, y', []) else
  (word_May g'.1 w).bind (fun y'_1 =>
  if (decide (¬ y'_1 = (0 : Int))) = true then
  some (false, y'_1, []) else
  if (decide ((12 : Int) < (w.length : Int))) = true then
  some (false, (1 : Int), []) else
  (gram_charted (g'.1, (g'.2.1, (g'.2.2.1, ()))) w).bind (fun y'_33 =>
  (gram_chart_of (0 : Int) (0 : Int) (w.length : Int) y'_33.1 y'_33.2.1 y'_33.2.2.1 y'_33.2.2.2.1 y'_33.2.2.2.2.1 y'_33.2.2.2.2.2.1 y'_33.2.2.2.2.2.2.1 y'_33.2.2.2.2.2.2.2).bind (fun y'_32 =>
  if (decide (y'_32.1 = (1099511627776 : Int))) = true then
  some (false, (0 : Int), []) else
  if (decide ((2000 : Int) < y'_32.1)) = true then
  some (false, (7 : Int), []) else
  (gram_chart_makes (0 : Int) (0 : Int) (w.length : Int) y'_32.2.1 y'_32.2.2.1 y'_32.2.2.2.1 y'_32.2.2.2.2.1 y'_32.2.2.2.2.2.1 y'_32.2.2.2.2.2.2.1 y'_32.2.2.2.2.2.2.2.1 y'_32.2.2.2.2.2.2.2.2).bind (fun y'_31 =>
  some (true, (0 : Int), y'_31.1))))))

noncomputable def top_TopRules_L13_B (d : Tp5) (q : Int) (r9 : (Int → Int → Int → Tp6 → Option (Bool))) (y'_6 : Int) (r13 : Int → Int → Int → Tp6 → Option (Bool)) (a : Int) (g'_3 : Int) (g'_4 : Int) (l : Tp6) : Option (Bool) :=
  if (decide (a < d.1)) = true then
  G (0 ≤ q ∧ q < (d.2.2.1.length : Int)) (
  G (0 ≤ a ∧ a < ((ix d.2.2.1 q).length : Int)) (
  (top_named (d.1, (d.2.1, (d.2.2.1, (d.2.2.2.1, ())))) (ix (ix d.2.2.1 q) a)).bind (fun y'_7 =>
  G (room l ([(y'_6 - d.1, ([a, y'_7], ()))]) 32) (
  G (fits (a + (1 : Int))) (
  r13 (a + (1 : Int)) g'_3 g'_4 (l ++ ([(y'_6 - d.1, ([a, y'_7], ()))]))))))) else
  G (0 ≤ q ∧ q < (d.2.2.2.1.length : Int)) (
  if (decide ((ix d.2.2.2.1 q) = (1 : Int))) = true then
  G (room l ([(y'_6 - d.1, ([], ()))]) 32) (
  G (fits (q + (1 : Int))) (
  r9 (q + (1 : Int)) g'_3 g'_4 (l ++ ([(y'_6 - d.1, ([], ()))])))) else
  G (fits (q + (1 : Int))) (
  r9 (q + (1 : Int)) g'_3 g'_4 l))
noncomputable def top_TopRules_L13_F (d : Tp5) (q : Int) (r9 : (Int → Int → Int → Tp6 → Option (Bool))) (y'_6 : Int) : (Int × Int × Int × Tp6 → Option (Bool)) → Int × Int × Int × Tp6 → Option (Bool) :=
  fun rec x => top_TopRules_L13_B d q r9 y'_6 (fun a g'_3 g'_4 l => rec (a, g'_3, g'_4, l)) x.1 x.2.1 x.2.2.1 x.2.2.2
noncomputable def top_TopRules_L13 (d : Tp5) (q : Int) (r9 : (Int → Int → Int → Tp6 → Option (Bool))) (y'_6 : Int) (a : Int) (g'_3 : Int) (g'_4 : Int) (l : Tp6) : Option (Bool) := LFix (top_TopRules_L13_F d q r9 y'_6 ) (a, g'_3, g'_4, l)
noncomputable def top_TopRules_L9_B (d : Tp5) (w : (List Int)) (y'_3 : Bool) (r9 : Int → Int → Int → Tp6 → Option (Bool)) (q : Int) (g' : Int) (g'_1 : Int) (g'_2 : Tp6) : Option (Bool) :=
  if (decide (q < (d.2.2.1.length : Int))) = true then
  (top_named (d.1, (d.2.1, (d.2.2.1, (d.2.2.2.1, ())))) q).bind (fun y'_6 =>
  G (fits (y'_6 - d.1)) (
  top_TopRules_L13 d q r9 y'_6 (0 : Int) g' g'_1 g'_2)) else
  (gram_Tells (g', (g'_1, (g'_2, ()))) w).bind (fun y'_12 =>
  if (decide (¬ y'_12.2.1 = (0 : Int))) = true then
  some false else
  if (decide (¬ y'_12.1 = y'_3)) = true then
  some false else
  if (!y'_3) = true then
  some true else
  G (fits ((w.length : Int) + (1 : Int))) (
  some (decide ((y'_12.2.2.length : Int) = ((w.length : Int) + (1 : Int))))))
noncomputable def top_TopRules_L9_F (d : Tp5) (w : (List Int)) (y'_3 : Bool) : (Int × Int × Int × Tp6 → Option (Bool)) → Int × Int × Int × Tp6 → Option (Bool) :=
  fun rec x => top_TopRules_L9_B d w y'_3 (fun q g' g'_1 g'_2 => rec (q, g', g'_1, g'_2)) x.1 x.2.1 x.2.2.1 x.2.2.2
noncomputable def top_TopRules_L9 (d : Tp5) (w : (List Int)) (y'_3 : Bool) (q : Int) (g' : Int) (g'_1 : Int) (g'_2 : Tp6) : Option (Bool) := LFix (top_TopRules_L9_F d w y'_3 ) (q, g', g'_1, g'_2)
noncomputable def top_TopRules (d : Tp5) (w : (List Int)) : Option (Bool) :=
  (det_Accepts ((1 : Int), ((0 : Int), ([[(0 : Int)]], ([(1 : Int)], ())))) ([])).bind (fun y'_14 =>
  if (decide (¬ y'_14.2 = (0 : Int))) = true then
  some false else
  if (!y'_14.1) = true then
  some false else
  (det_Accepts (d.1, (d.2.1, (d.2.2.1, (d.2.2.2.1, ())))) w).bind (fun y'_13 =>
  if (decide (¬ y'_13.2 = (0 : Int))) = true then
  some true else
  if (decide ((4 : Int) < (d.2.2.1.length : Int))) = true then
  some true else
  if (decide ((12 : Int) < (w.length : Int))) = true then
  some true else
  top_TopRules_L9 d w y'_13.1 (0 : Int) d.1 (d.2.2.1.length : Int) ([] : List Tp8)))
theorem top_TopRules_L13_B_ch (r9 : Nat → Int → Int → Int → Tp6 → Option (Bool)) (r9' : Int → Int → Int → Tp6 → Option (Bool)) (h_r9 : ∀ a0 a1 a2 a3, ChO (fun κ => r9 κ a0 a1 a2 a3) (r9' a0 a1 a2 a3)) (r13 : Nat → Int → Int → Int → Tp6 → Option (Bool)) (r13' : Int → Int → Int → Tp6 → Option (Bool)) (h_r13 : ∀ a0 a1 a2 a3, ChO (fun κ => r13 κ a0 a1 a2 a3) (r13' a0 a1 a2 a3)) (d : Tp5) (q : Int) (y'_6 : Int) (a : Int) (g'_3 : Int) (g'_4 : Int) (l : Tp6) : ChO (fun κ => top_TopRules_L13_B d q (r9 κ) y'_6 (r13 κ) a g'_3 g'_4 l) (top_TopRules_L13_B d q r9' y'_6 r13' a g'_3 g'_4 l) := by
  unfold top_TopRules_L13_B
  repeat' with_reducible first | exact ChO.const _ | exact h_r9 _ _ _ _ | exact h_r13 _ _ _ _ | apply ChO.ite | apply ChO.G | apply ChO.both | (apply ChO.bind; intro _)
theorem top_TopRules_L13_cn (r9 : Int → Int → Int → Tp6 → Option (Bool)) (d : Tp5) (q : Int) (y'_6 : Int) : Cn (top_TopRules_L13_F d q r9 y'_6) := fun g h hg x => top_TopRules_L13_B_ch (fun _ => r9) r9 (fun _ _ _ _ => ChO.const _) (fun κ a g'_3 g'_4 l => g κ (a, g'_3, g'_4, l)) (fun a g'_3 g'_4 l => h (a, g'_3, g'_4, l)) (fun a g'_3 g'_4 l => hg (a, g'_3, g'_4, l)) d q y'_6 x.1 x.2.1 x.2.2.1 x.2.2.2
theorem top_TopRules_L13_eq (r9 : Int → Int → Int → Tp6 → Option (Bool)) (d : Tp5) (q : Int) (y'_6 : Int) (a : Int) (g'_3 : Int) (g'_4 : Int) (l : Tp6) : top_TopRules_L13 d q r9 y'_6 a g'_3 g'_4 l = top_TopRules_L13_B d q r9 y'_6 (top_TopRules_L13 d q r9 y'_6) a g'_3 g'_4 l := LFix_eq (top_TopRules_L13_cn r9 d q y'_6) (a, g'_3, g'_4, l)
theorem top_TopRules_L13_ch (r9 : Nat → Int → Int → Int → Tp6 → Option (Bool)) (r9' : Int → Int → Int → Tp6 → Option (Bool)) (h_r9 : ∀ a0 a1 a2 a3, ChO (fun κ => r9 κ a0 a1 a2 a3) (r9' a0 a1 a2 a3)) (d : Tp5) (q : Int) (y'_6 : Int) (a : Int) (g'_3 : Int) (g'_4 : Int) (l : Tp6) : ChO (fun κ => top_TopRules_L13 d q (r9 κ) y'_6 a g'_3 g'_4 l) (top_TopRules_L13 d q r9' y'_6 a g'_3 g'_4 l) := by
  unfold top_TopRules_L13
  exact LFix_ch (fun κ => (top_TopRules_L13_cn (r9 κ) d q y'_6).mono) (top_TopRules_L13_cn r9' d q y'_6).mono (fun g h hg x => top_TopRules_L13_B_ch r9 r9' h_r9 (fun κ a g'_3 g'_4 l => g κ (a, g'_3, g'_4, l)) (fun a g'_3 g'_4 l => h (a, g'_3, g'_4, l)) (fun a g'_3 g'_4 l => hg (a, g'_3, g'_4, l)) d q y'_6 x.1 x.2.1 x.2.2.1 x.2.2.2) _
theorem top_TopRules_L9_B_ch (r9 : Nat → Int → Int → Int → Tp6 → Option (Bool)) (r9' : Int → Int → Int → Tp6 → Option (Bool)) (h_r9 : ∀ a0 a1 a2 a3, ChO (fun κ => r9 κ a0 a1 a2 a3) (r9' a0 a1 a2 a3)) (d : Tp5) (w : (List Int)) (y'_3 : Bool) (q : Int) (g' : Int) (g'_1 : Int) (g'_2 : Tp6) : ChO (fun κ => top_TopRules_L9_B d w y'_3 (r9 κ) q g' g'_1 g'_2) (top_TopRules_L9_B d w y'_3 r9' q g' g'_1 g'_2) := by
  unfold top_TopRules_L9_B
  repeat' with_reducible first | exact ChO.const _ | exact h_r9 _ _ _ _ | (apply top_TopRules_L13_ch <;> assumption) | apply ChO.ite | apply ChO.G | apply ChO.both | (apply ChO.bind; intro _)
theorem top_TopRules_L9_cn  (d : Tp5) (w : (List Int)) (y'_3 : Bool) : Cn (top_TopRules_L9_F d w y'_3) := fun g h hg x => top_TopRules_L9_B_ch  (fun κ q g' g'_1 g'_2 => g κ (q, g', g'_1, g'_2)) (fun q g' g'_1 g'_2 => h (q, g', g'_1, g'_2)) (fun q g' g'_1 g'_2 => hg (q, g', g'_1, g'_2)) d w y'_3 x.1 x.2.1 x.2.2.1 x.2.2.2
theorem top_TopRules_L9_eq  (d : Tp5) (w : (List Int)) (y'_3 : Bool) (q : Int) (g' : Int) (g'_1 : Int) (g'_2 : Tp6) : top_TopRules_L9 d w y'_3 q g' g'_1 g'_2 = top_TopRules_L9_B d w y'_3 (top_TopRules_L9 d w y'_3) q g' g'_1 g'_2 := LFix_eq (top_TopRules_L9_cn d w y'_3) (q, g', g'_1, g'_2)

end Go.Proofs.Ytiaioemmmpdjfaa.topRulesW
