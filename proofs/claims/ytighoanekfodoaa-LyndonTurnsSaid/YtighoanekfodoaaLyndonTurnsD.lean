/- What the functions that 'LyndonTurns' reaches compute: plain functions. -/
import Derived.Test.YtighoanekfodoaaEv31n21
set_option maxHeartbeats 1000000
set_option maxRecDepth 20000
set_option linter.unusedSimpArgs false
set_option linter.unusedVariables false
set_option linter.unusedSectionVars false
namespace Go.Proofs.Ytighoanekfodoaa.lyndonTurnsW
open Go Go.Ab
abbrev Tp3 := (List Int)
abbrev Tp2 := (List Tp3)
abbrev Tp1 := (Int × Bool × Tp3)
abbrev Tf1 := Int → Int → Int → Bool → Bool → Tp3 → Option Tp3
abbrev Tf2 := Int → Int → Int → Tp3 → Tp3 → Option Tp3
abbrev Tf3 := Int → (List Bool) → Option (Bool)
noncomputable def word_May_L6_B (letters : Int) (w : Tp3) (r6 : Int → Option (Int)) (t : Int) : Option (Int) :=
  if (decide (t < (w.length : Int))) = true then
  G (0 ≤ t ∧ t < (w.length : Int)) (
  if (decide ((ix w t) < (0 : Int))) = true then
  some (2 : Int) else
  if (decide (letters ≤ (ix w t))) = true then
  some (2 : Int) else
  G (fits (t + (1 : Int))) (
  r6 (t + (1 : Int)))) else
  some (0 : Int)
noncomputable def word_May_L6_F (letters : Int) (w : Tp3) : (Int → Option (Int)) → Int → Option (Int) :=
  fun rec x => word_May_L6_B letters w (fun t => rec t) x
noncomputable def word_May_L6 (letters : Int) (w : Tp3) (t : Int) : Option (Int) := LFix (word_May_L6_F letters w ) t
noncomputable def word_May (letters : Int) (w : Tp3) : Option (Int) :=
  if (decide (letters < (1 : Int))) = true then
  some (2 : Int) else
  if (decide ((4 : Int) < letters)) = true then
  some (2 : Int) else
  if (decide ((60 : Int) < (w.length : Int))) = true then
  some (1 : Int) else
  word_May_L6 letters w (0 : Int)
theorem word_May_L6_B_ch (r6 : Nat → Int → Option (Int)) (r6' : Int → Option (Int)) (h_r6 : ∀ a0, ChO (fun κ => r6 κ a0) (r6' a0)) (letters : Int) (w : Tp3) (t : Int) : ChO (fun κ => word_May_L6_B letters w (r6 κ) t) (word_May_L6_B letters w r6' t) := by
  unfold word_May_L6_B
  repeat' with_reducible first | exact ChO.const _ | exact h_r6 _ | apply ChO.ite | apply ChO.G | apply ChO.both | (apply ChO.bind; intro _)
theorem word_May_L6_cn  (letters : Int) (w : Tp3) : Cn (word_May_L6_F letters w) := fun g h hg x => word_May_L6_B_ch  (fun κ t => g κ t) (fun t => h t) (fun t => hg t) letters w x
theorem word_May_L6_eq  (letters : Int) (w : Tp3) (t : Int) : word_May_L6 letters w t = word_May_L6_B letters w (word_May_L6 letters w) t := LFix_eq (word_May_L6_cn letters w) t

noncomputable def lyndon_may_L2_B (l : Tp2) (r2 : Int → Option (Int)) (t : Int) : Option (Int) :=
  if (decide (t < (l.length : Int))) = true then
  G (0 ≤ t ∧ t < (l.length : Int)) (
  (word_May (4 : Int) (ix l t)).bind (fun y' =>
  if (decide (¬ y' = (0 : Int))) = true then
  some y' else
  G (fits (t + (1 : Int))) (
  r2 (t + (1 : Int))))) else
  some (0 : Int)
noncomputable def lyndon_may_L2_F (l : Tp2) : (Int → Option (Int)) → Int → Option (Int) :=
  fun rec x => lyndon_may_L2_B l (fun t => rec t) x
noncomputable def lyndon_may_L2 (l : Tp2) (t : Int) : Option (Int) := LFix (lyndon_may_L2_F l ) t
noncomputable def lyndon_may (l : Tp2) : Option (Int) :=
  lyndon_may_L2 l (0 : Int)
theorem lyndon_may_L2_B_ch (r2 : Nat → Int → Option (Int)) (r2' : Int → Option (Int)) (h_r2 : ∀ a0, ChO (fun κ => r2 κ a0) (r2' a0)) (l : Tp2) (t : Int) : ChO (fun κ => lyndon_may_L2_B l (r2 κ) t) (lyndon_may_L2_B l r2' t) := by
  unfold lyndon_may_L2_B
  repeat' with_reducible first | exact ChO.const _ | exact h_r2 _ | apply ChO.ite | apply ChO.G | apply ChO.both | (apply ChO.bind; intro _)
theorem lyndon_may_L2_cn  (l : Tp2) : Cn (lyndon_may_L2_F l) := fun g h hg x => lyndon_may_L2_B_ch  (fun κ t => g κ t) (fun t => h t) (fun t => hg t) l x
theorem lyndon_may_L2_eq  (l : Tp2) (t : Int) : lyndon_may_L2 l t = lyndon_may_L2_B l (lyndon_may_L2 l) t := LFix_eq (lyndon_may_L2_cn l) t

noncomputable def slices_Grow (n : Int) : Option Tp3 :=
  if (decide (n < (0 : Int))) = true then
  none else
  G (fits ((0 : Int) - (0 : Int))) (
  G (fits (n - ((0 : Int) - (0 : Int)))) (
  if (decide ((0 : Int) < (n - ((0 : Int) - (0 : Int))))) = true then
  G ((0 : Int) = (0 : Int)) (
  G (0 < n - ((0 : Int) - (0 : Int)) ∧ (n - ((0 : Int) - (0 : Int))) * 8 ≤ 140737488355328) (
  G (0 ≤ (0 : Int) ∧ (0 : Int) ≤ ((List.replicate (n - ((0 : Int) - (0 : Int))).toNat (0 : Int)).length : Int)) (
  some ((List.replicate (n - ((0 : Int) - (0 : Int))).toNat (0 : Int)).take ((0 : Int)).toNat)))) else
  some ([])))

noncomputable def slices_Concat_L11_B (slices : Tp2) (r11 : Int → Tp3 → Option Tp3) (t_1 : Int) (newslice : Tp3) : Option Tp3 :=
  if (decide (t_1 < (slices.length : Int))) = true then
  G (0 ≤ t_1 ∧ t_1 < (slices.length : Int)) (
  G (room newslice (ix slices t_1) 8) (
  G (fits (t_1 + (1 : Int))) (
  r11 (t_1 + (1 : Int)) (newslice ++ (ix slices t_1))))) else
  some newslice
noncomputable def slices_Concat_L11_F (slices : Tp2) : (Int × Tp3 → Option Tp3) → Int × Tp3 → Option Tp3 :=
  fun rec x => slices_Concat_L11_B slices (fun t_1 newslice => rec (t_1, newslice)) x.1 x.2
noncomputable def slices_Concat_L11 (slices : Tp2) (t_1 : Int) (newslice : Tp3) : Option Tp3 := LFix (slices_Concat_L11_F slices ) (t_1, newslice)
noncomputable def slices_Concat_L3_B (slices : Tp2) (r3 : Int → Int → Option Tp3) (size : Int) (t : Int) : Option Tp3 :=
  if (decide (t < (slices.length : Int))) = true then
  G (0 ≤ t ∧ t < (slices.length : Int)) (
  G (fits (size + ((ix slices t).length : Int))) (
  if (decide ((size + ((ix slices t).length : Int)) < (0 : Int))) = true then
  none else
  G (fits (t + (1 : Int))) (
  r3 (size + ((ix slices t).length : Int)) (t + (1 : Int))))) else
  (slices_Grow size).bind (fun y' =>
  slices_Concat_L11 slices (0 : Int) y')
noncomputable def slices_Concat_L3_F (slices : Tp2) : (Int × Int → Option Tp3) → Int × Int → Option Tp3 :=
  fun rec x => slices_Concat_L3_B slices (fun size t => rec (size, t)) x.1 x.2
noncomputable def slices_Concat_L3 (slices : Tp2) (size : Int) (t : Int) : Option Tp3 := LFix (slices_Concat_L3_F slices ) (size, t)
noncomputable def slices_Concat (slices : Tp2) : Option Tp3 :=
  slices_Concat_L3 slices (0 : Int) (0 : Int)
theorem slices_Concat_L11_B_ch (r11 : Nat → Int → Tp3 → Option Tp3) (r11' : Int → Tp3 → Option Tp3) (h_r11 : ∀ a0 a1, ChO (fun κ => r11 κ a0 a1) (r11' a0 a1)) (slices : Tp2) (t_1 : Int) (newslice : Tp3) : ChO (fun κ => slices_Concat_L11_B slices (r11 κ) t_1 newslice) (slices_Concat_L11_B slices r11' t_1 newslice) := by
  unfold slices_Concat_L11_B
  repeat' with_reducible first | exact ChO.const _ | exact h_r11 _ _ | apply ChO.ite | apply ChO.G | apply ChO.both | (apply ChO.bind; intro _)
theorem slices_Concat_L11_cn  (slices : Tp2) : Cn (slices_Concat_L11_F slices) := fun g h hg x => slices_Concat_L11_B_ch  (fun κ t_1 newslice => g κ (t_1, newslice)) (fun t_1 newslice => h (t_1, newslice)) (fun t_1 newslice => hg (t_1, newslice)) slices x.1 x.2
theorem slices_Concat_L11_eq  (slices : Tp2) (t_1 : Int) (newslice : Tp3) : slices_Concat_L11 slices t_1 newslice = slices_Concat_L11_B slices (slices_Concat_L11 slices) t_1 newslice := LFix_eq (slices_Concat_L11_cn slices) (t_1, newslice)
theorem slices_Concat_L3_B_ch (r3 : Nat → Int → Int → Option Tp3) (r3' : Int → Int → Option Tp3) (h_r3 : ∀ a0 a1, ChO (fun κ => r3 κ a0 a1) (r3' a0 a1)) (slices : Tp2) (size : Int) (t : Int) : ChO (fun κ => slices_Concat_L3_B slices (r3 κ) size t) (slices_Concat_L3_B slices r3' size t) := by
  unfold slices_Concat_L3_B
  repeat' with_reducible first | exact ChO.const _ | exact h_r3 _ _ | apply ChO.ite | apply ChO.G | apply ChO.both | (apply ChO.bind; intro _)
theorem slices_Concat_L3_cn  (slices : Tp2) : Cn (slices_Concat_L3_F slices) := fun g h hg x => slices_Concat_L3_B_ch  (fun κ size t => g κ (size, t)) (fun size t => h (size, t)) (fun size t => hg (size, t)) slices x.1 x.2
theorem slices_Concat_L3_eq  (slices : Tp2) (size : Int) (t : Int) : slices_Concat_L3 slices size t = slices_Concat_L3_B slices (slices_Concat_L3 slices) size t := LFix_eq (slices_Concat_L3_cn slices) (size, t)

noncomputable def cmp_isNaN (x' : Int) : Option (Bool) :=
  some (decide (¬ x' = x'))

noncomputable def cmp_Compare (x' : Int) (y' : Int) : Option (Int) :=
  (cmp_isNaN x').bind (fun y'_1 =>
  (cmp_isNaN y').bind (fun y'_2 =>
  if y'_1 = true then
  if y'_2 = true then
  some (0 : Int) else
  some (-1 : Int) else
  if y'_2 = true then
  some (1 : Int) else
  if (decide (x' < y')) = true then
  some (-1 : Int) else
  if (decide (y' < x')) = true then
  some (1 : Int) else
  some (0 : Int)))

noncomputable def slices_Compare_L2_B (s1 : Tp3) (s2 : Tp3) (r2 : Int → Option (Int)) (t : Int) : Option (Int) :=
  if (decide (t < (s1.length : Int))) = true then
  G (0 ≤ t ∧ t < (s1.length : Int)) (
  if (decide ((s2.length : Int) ≤ t)) = true then
  some (1 : Int) else
  G (0 ≤ t ∧ t < (s2.length : Int)) (
  (cmp_Compare (ix s1 t) (ix s2 t)).bind (fun y' =>
  if (decide (¬ y' = (0 : Int))) = true then
  some y' else
  G (fits (t + (1 : Int))) (
  r2 (t + (1 : Int)))))) else
  if (decide ((s1.length : Int) < (s2.length : Int))) = true then
  some (-1 : Int) else
  some (0 : Int)
noncomputable def slices_Compare_L2_F (s1 : Tp3) (s2 : Tp3) : (Int → Option (Int)) → Int → Option (Int) :=
  fun rec x => slices_Compare_L2_B s1 s2 (fun t => rec t) x
noncomputable def slices_Compare_L2 (s1 : Tp3) (s2 : Tp3) (t : Int) : Option (Int) := LFix (slices_Compare_L2_F s1 s2 ) t
noncomputable def slices_Compare (s1 : Tp3) (s2 : Tp3) : Option (Int) :=
  slices_Compare_L2 s1 s2 (0 : Int)
theorem slices_Compare_L2_B_ch (r2 : Nat → Int → Option (Int)) (r2' : Int → Option (Int)) (h_r2 : ∀ a0, ChO (fun κ => r2 κ a0) (r2' a0)) (s1 : Tp3) (s2 : Tp3) (t : Int) : ChO (fun κ => slices_Compare_L2_B s1 s2 (r2 κ) t) (slices_Compare_L2_B s1 s2 r2' t) := by
  unfold slices_Compare_L2_B
  repeat' with_reducible first | exact ChO.const _ | exact h_r2 _ | apply ChO.ite | apply ChO.G | apply ChO.both | (apply ChO.bind; intro _)
theorem slices_Compare_L2_cn  (s1 : Tp3) (s2 : Tp3) : Cn (slices_Compare_L2_F s1 s2) := fun g h hg x => slices_Compare_L2_B_ch  (fun κ t => g κ t) (fun t => h t) (fun t => hg t) s1 s2 x
theorem slices_Compare_L2_eq  (s1 : Tp3) (s2 : Tp3) (t : Int) : slices_Compare_L2 s1 s2 t = slices_Compare_L2_B s1 s2 (slices_Compare_L2 s1 s2) t := LFix_eq (slices_Compare_L2_cn s1 s2) t

noncomputable def lyndon_Turn_J8 (best : Int) (t : Int) (r6 : (Int → Int → Option (Int × Int))) (t_1 : Bool) : Option (Int × Int) :=
  if t_1 = true then
  G (fits (t + (1 : Int))) (
  r6 t (t + (1 : Int))) else
  G (fits (t + (1 : Int))) (
  r6 best (t + (1 : Int)))
noncomputable def lyndon_Turn_L6_B (w : Tp3) (r6 : Int → Int → Option (Int × Int)) (best : Int) (t : Int) : Option (Int × Int) :=
  if (decide (t < (w.length : Int))) = true then
  G (0 ≤ t ∧ t ≤ (w.length : Int) ∧ (w.length : Int) ≤ (w.length : Int)) (
  G (0 ≤ (0 : Int) ∧ (0 : Int) ≤ t ∧ t ≤ (w.length : Int)) (
  G (0 ≤ best ∧ best ≤ (w.length : Int) ∧ (w.length : Int) ≤ (w.length : Int)) (
  G (0 ≤ (0 : Int) ∧ (0 : Int) ≤ best ∧ best ≤ (w.length : Int)) (
  both [(.int .i64), (.int .i64)] (
  both [(.int .i64), (.int .i64)] (
  (slices_Concat ([cut w t (w.length : Int), cut w (0 : Int) t])).bind (fun y'_1 =>
  (slices_Concat ([cut w best (w.length : Int), cut w (0 : Int) best])).bind (fun y'_2 =>
  (slices_Compare y'_1 y'_2).bind (fun y'_3 =>
  lyndon_Turn_J8 best t r6 (decide (y'_3 < (0 : Int))))))) (
  (slices_Concat ([cut w t (w.length : Int), cut w (0 : Int) t])).bind (fun y'_4 =>
  (slices_Concat ([cut w best (w.length : Int), cut w (0 : Int) best])).bind (fun y'_5 =>
  (slices_Compare y'_4 y'_5).bind (fun y'_6 =>
  lyndon_Turn_J8 best t r6 (decide (y'_6 < (0 : Int)))))))) (
  (slices_Concat ([cut w t (w.length : Int), cut w (0 : Int) t])).bind (fun y'_7 =>
  (slices_Concat ([cut w best (w.length : Int), cut w (0 : Int) best])).bind (fun y'_8 =>
  (slices_Compare y'_7 y'_8).bind (fun y'_9 =>
  lyndon_Turn_J8 best t r6 (decide (y'_9 < (0 : Int))))))))))) else
  some (best, (0 : Int))
noncomputable def lyndon_Turn_L6_F (w : Tp3) : (Int × Int → Option (Int × Int)) → Int × Int → Option (Int × Int) :=
  fun rec x => lyndon_Turn_L6_B w (fun best t => rec (best, t)) x.1 x.2
noncomputable def lyndon_Turn_L6 (w : Tp3) (best : Int) (t : Int) : Option (Int × Int) := LFix (lyndon_Turn_L6_F w ) (best, t)
noncomputable def lyndon_Turn (w : Tp3) : Option (Int × Int) :=
  (lyndon_may ([w])).bind (fun y' =>
  if (decide (¬ y' = (0 : Int))) = true then
  some ((0 : Int), y') else
  lyndon_Turn_L6 w (0 : Int) (0 : Int))
theorem lyndon_Turn_J8_ch (r6 : Nat → Int → Int → Option (Int × Int)) (r6' : Int → Int → Option (Int × Int)) (h_r6 : ∀ a0 a1, ChO (fun κ => r6 κ a0 a1) (r6' a0 a1)) (best : Int) (t : Int) (t_1 : Bool) : ChO (fun κ => lyndon_Turn_J8 best t (r6 κ) t_1) (lyndon_Turn_J8 best t r6' t_1) := by
  unfold lyndon_Turn_J8
  repeat' with_reducible first | exact ChO.const _ | exact h_r6 _ _ | apply ChO.ite | apply ChO.G | apply ChO.both | (apply ChO.bind; intro _)
theorem lyndon_Turn_L6_B_ch (r6 : Nat → Int → Int → Option (Int × Int)) (r6' : Int → Int → Option (Int × Int)) (h_r6 : ∀ a0 a1, ChO (fun κ => r6 κ a0 a1) (r6' a0 a1)) (w : Tp3) (best : Int) (t : Int) : ChO (fun κ => lyndon_Turn_L6_B w (r6 κ) best t) (lyndon_Turn_L6_B w r6' best t) := by
  unfold lyndon_Turn_L6_B
  repeat' with_reducible first | exact ChO.const _ | exact h_r6 _ _ | (apply lyndon_Turn_J8_ch <;> assumption) | apply ChO.ite | apply ChO.G | apply ChO.both | (apply ChO.bind; intro _)
theorem lyndon_Turn_L6_cn  (w : Tp3) : Cn (lyndon_Turn_L6_F w) := fun g h hg x => lyndon_Turn_L6_B_ch  (fun κ best t => g κ (best, t)) (fun best t => h (best, t)) (fun best t => hg (best, t)) w x.1 x.2
theorem lyndon_Turn_L6_eq  (w : Tp3) (best : Int) (t : Int) : lyndon_Turn_L6 w best t = lyndon_Turn_L6_B w (lyndon_Turn_L6 w) best t := LFix_eq (lyndon_Turn_L6_cn w) (best, t)

noncomputable def bits_Len64_J9 (x'_3 : Int) (n_2 : Int) : Option (Int) :=
  G (0 ≤ IntKind.wrap .u8 x'_3 ∧ IntKind.wrap .u8 x'_3 < (([0, 1, 2, 2, 3, 3, 3, 3, 4, 4, 4, 4, 4, 4, 4, 4, 5, 5, 5, 5, 5, 5, 5, 5, 5, 5, 5, 5, 5, 5, 5, 5, 6, 6, 6, 6, 6, 6, 6, 6, 6, 6, 6, 6, 6, 6, 6, 6, 6, 6, 6, 6, 6, 6, 6, 6, 6, 6, 6, 6, 6, 6, 6, 6, 7, 7, 7, 7, 7, 7, 7, 7, 7, 7, 7, 7, 7, 7, 7, 7, 7, 7, 7, 7, 7, 7, 7, 7, 7, 7, 7, 7, 7, 7, 7, 7, 7, 7, 7, 7, 7, 7, 7, 7, 7, 7, 7, 7, 7, 7, 7, 7, 7, 7, 7, 7, 7, 7, 7, 7, 7, 7, 7, 7, 7, 7, 7, 7, 8, 8, 8, 8, 8, 8, 8, 8, 8, 8, 8, 8, 8, 8, 8, 8, 8, 8, 8, 8, 8, 8, 8, 8, 8, 8, 8, 8, 8, 8, 8, 8, 8, 8, 8, 8, 8, 8, 8, 8, 8, 8, 8, 8, 8, 8, 8, 8, 8, 8, 8, 8, 8, 8, 8, 8, 8, 8, 8, 8, 8, 8, 8, 8, 8, 8, 8, 8, 8, 8, 8, 8, 8, 8, 8, 8, 8, 8, 8, 8, 8, 8, 8, 8, 8, 8, 8, 8, 8, 8, 8, 8, 8, 8, 8, 8, 8, 8, 8, 8, 8, 8, 8, 8, 8, 8, 8, 8, 8, 8, 8, 8, 8, 8, 8, 8, 8, 8, 8, 8, 8, 8, 8, 8, 8, 8, 8, 8]).length : Int)) (
  G (fits (n_2 + (IntKind.wrap .i64 (bAt ([0, 1, 2, 2, 3, 3, 3, 3, 4, 4, 4, 4, 4, 4, 4, 4, 5, 5, 5, 5, 5, 5, 5, 5, 5, 5, 5, 5, 5, 5, 5, 5, 6, 6, 6, 6, 6, 6, 6, 6, 6, 6, 6, 6, 6, 6, 6, 6, 6, 6, 6, 6, 6, 6, 6, 6, 6, 6, 6, 6, 6, 6, 6, 6, 7, 7, 7, 7, 7, 7, 7, 7, 7, 7, 7, 7, 7, 7, 7, 7, 7, 7, 7, 7, 7, 7, 7, 7, 7, 7, 7, 7, 7, 7, 7, 7, 7, 7, 7, 7, 7, 7, 7, 7, 7, 7, 7, 7, 7, 7, 7, 7, 7, 7, 7, 7, 7, 7, 7, 7, 7, 7, 7, 7, 7, 7, 7, 7, 8, 8, 8, 8, 8, 8, 8, 8, 8, 8, 8, 8, 8, 8, 8, 8, 8, 8, 8, 8, 8, 8, 8, 8, 8, 8, 8, 8, 8, 8, 8, 8, 8, 8, 8, 8, 8, 8, 8, 8, 8, 8, 8, 8, 8, 8, 8, 8, 8, 8, 8, 8, 8, 8, 8, 8, 8, 8, 8, 8, 8, 8, 8, 8, 8, 8, 8, 8, 8, 8, 8, 8, 8, 8, 8, 8, 8, 8, 8, 8, 8, 8, 8, 8, 8, 8, 8, 8, 8, 8, 8, 8, 8, 8, 8, 8, 8, 8, 8, 8, 8, 8, 8, 8, 8, 8, 8, 8, 8, 8, 8, 8, 8, 8, 8, 8, 8, 8, 8, 8, 8, 8, 8, 8, 8, 8, 8, 8]) (IntKind.wrap .u8 x'_3))))) (
  some (n_2 + (IntKind.wrap .i64 (bAt ([0, 1, 2, 2, 3, 3, 3, 3, 4, 4, 4, 4, 4, 4, 4, 4, 5, 5, 5, 5, 5, 5, 5, 5, 5, 5, 5, 5, 5, 5, 5, 5, 6, 6, 6, 6, 6, 6, 6, 6, 6, 6, 6, 6, 6, 6, 6, 6, 6, 6, 6, 6, 6, 6, 6, 6, 6, 6, 6, 6, 6, 6, 6, 6, 7, 7, 7, 7, 7, 7, 7, 7, 7, 7, 7, 7, 7, 7, 7, 7, 7, 7, 7, 7, 7, 7, 7, 7, 7, 7, 7, 7, 7, 7, 7, 7, 7, 7, 7, 7, 7, 7, 7, 7, 7, 7, 7, 7, 7, 7, 7, 7, 7, 7, 7, 7, 7, 7, 7, 7, 7, 7, 7, 7, 7, 7, 7, 7, 8, 8, 8, 8, 8, 8, 8, 8, 8, 8, 8, 8, 8, 8, 8, 8, 8, 8, 8, 8, 8, 8, 8, 8, 8, 8, 8, 8, 8, 8, 8, 8, 8, 8, 8, 8, 8, 8, 8, 8, 8, 8, 8, 8, 8, 8, 8, 8, 8, 8, 8, 8, 8, 8, 8, 8, 8, 8, 8, 8, 8, 8, 8, 8, 8, 8, 8, 8, 8, 8, 8, 8, 8, 8, 8, 8, 8, 8, 8, 8, 8, 8, 8, 8, 8, 8, 8, 8, 8, 8, 8, 8, 8, 8, 8, 8, 8, 8, 8, 8, 8, 8, 8, 8, 8, 8, 8, 8, 8, 8, 8, 8, 8, 8, 8, 8, 8, 8, 8, 8, 8, 8, 8, 8, 8, 8, 8, 8]) (IntKind.wrap .u8 x'_3))))))
noncomputable def bits_Len64_J6 (x'_2 : Int) (n_1 : Int) : Option (Int) :=
  if (decide ((256 : Int) ≤ x'_2)) = true then
  G (0 ≤ (8 : Int)) (
  G (fits (n_1 + (8 : Int))) (
  bits_Len64_J9 (ishr .u64 x'_2 (8 : Int)) (n_1 + (8 : Int)))) else
  bits_Len64_J9 x'_2 n_1
noncomputable def bits_Len64_J3 (x'_1 : Int) (n : Int) : Option (Int) :=
  if (decide ((65536 : Int) ≤ x'_1)) = true then
  G (0 ≤ (16 : Int)) (
  G (fits (n + (16 : Int))) (
  bits_Len64_J6 (ishr .u64 x'_1 (16 : Int)) (n + (16 : Int)))) else
  bits_Len64_J6 x'_1 n
noncomputable def bits_Len64 (x' : Int) : Option (Int) :=
  if (decide ((4294967296 : Int) ≤ x')) = true then
  G (0 ≤ (32 : Int)) (
  bits_Len64_J3 (ishr .u64 x' (32 : Int)) (32 : Int)) else
  bits_Len64_J3 x' (0 : Int)

noncomputable def bits_Len (x' : Int) : Option (Int) :=
  (bits_Len64 x').bind (fun y' =>
  some y')

noncomputable def lyndon_Ends_1 (i : Int) (k : Int) (t : Tp3) : Option (Int) :=
  G (0 ≤ i ∧ i ≤ (t.length : Int) ∧ (t.length : Int) ≤ (t.length : Int)) (
  G (0 ≤ k ∧ k ≤ (t.length : Int) ∧ (t.length : Int) ≤ (t.length : Int)) (
  (slices_Compare (cut t i (t.length : Int)) (cut t k (t.length : Int))).bind (fun y' =>
  some y')))

noncomputable def slices_insertionSortCmpFunc_L4_B (a : Int) (c : Tp3) (i : Int) (r1 : (Int → Tp3 → Option Tp3)) (r4 : Int → Tp3 → Option Tp3) (j : Int) (data_2 : Tp3) : Option Tp3 :=
  if (decide (a < j)) = true then
  G (0 ≤ j ∧ j < (data_2.length : Int)) (
  G ((j).toNat < data_2.length) (
  G (fits (j - (1 : Int))) (
  G (0 ≤ j - (1 : Int) ∧ j - (1 : Int) < (data_2.length : Int)) (
  G ((j - (1 : Int)).toNat < data_2.length) (
  (lyndon_Ends_1 (ix data_2 j) (ix data_2 (j - (1 : Int))) c).bind (fun y' =>
  if (decide (y' < (0 : Int))) = true then
  G (fits (j - (1 : Int))) (
  G (fits (j - (1 : Int))) (
  G (0 ≤ j - (1 : Int) ∧ j - (1 : Int) < (data_2.length : Int)) (
  G ((j - (1 : Int)).toNat < data_2.length) (
  G (0 ≤ j ∧ j < (data_2.length : Int)) (
  G ((j).toNat < data_2.length) (
  G (0 ≤ j ∧ j < (data_2.length : Int)) (
  G ((j).toNat < data_2.length) (
  G (0 ≤ j - (1 : Int) ∧ j - (1 : Int) < ((data_2.set (j).toNat (ix data_2 (j - (1 : Int)))).length : Int)) (
  G ((j - (1 : Int)).toNat < (data_2.set (j).toNat (ix data_2 (j - (1 : Int)))).length) (
  G (fits (j - (1 : Int))) (
  r4 (j - (1 : Int)) ((data_2.set (j).toNat (ix data_2 (j - (1 : Int)))).set (j - (1 : Int)).toNat (ix data_2 j))))))))))))) else
  G (fits (i + (1 : Int))) (
  r1 (i + (1 : Int)) data_2))))))) else
  G (fits (i + (1 : Int))) (
  r1 (i + (1 : Int)) data_2)
noncomputable def slices_insertionSortCmpFunc_L4_F (a : Int) (c : Tp3) (i : Int) (r1 : (Int → Tp3 → Option Tp3)) : (Int × Tp3 → Option Tp3) → Int × Tp3 → Option Tp3 :=
  fun rec x => slices_insertionSortCmpFunc_L4_B a c i r1 (fun j data_2 => rec (j, data_2)) x.1 x.2
noncomputable def slices_insertionSortCmpFunc_L4 (a : Int) (c : Tp3) (i : Int) (r1 : (Int → Tp3 → Option Tp3)) (j : Int) (data_2 : Tp3) : Option Tp3 := LFix (slices_insertionSortCmpFunc_L4_F a c i r1 ) (j, data_2)
noncomputable def slices_insertionSortCmpFunc_L1_B (a : Int) (b : Int) (c : Tp3) (r1 : Int → Tp3 → Option Tp3) (i : Int) (data_1 : Tp3) : Option Tp3 :=
  if (decide (i < b)) = true then
  slices_insertionSortCmpFunc_L4 a c i r1 i data_1 else
  some data_1
noncomputable def slices_insertionSortCmpFunc_L1_F (a : Int) (b : Int) (c : Tp3) : (Int × Tp3 → Option Tp3) → Int × Tp3 → Option Tp3 :=
  fun rec x => slices_insertionSortCmpFunc_L1_B a b c (fun i data_1 => rec (i, data_1)) x.1 x.2
noncomputable def slices_insertionSortCmpFunc_L1 (a : Int) (b : Int) (c : Tp3) (i : Int) (data_1 : Tp3) : Option Tp3 := LFix (slices_insertionSortCmpFunc_L1_F a b c ) (i, data_1)
noncomputable def slices_insertionSortCmpFunc (a : Int) (b : Int) (c : Tp3) (data : Tp3) : Option Tp3 :=
  G (fits (a + (1 : Int))) (
  slices_insertionSortCmpFunc_L1 a b c (a + (1 : Int)) data)
theorem slices_insertionSortCmpFunc_L4_B_ch (r1 : Nat → Int → Tp3 → Option Tp3) (r1' : Int → Tp3 → Option Tp3) (h_r1 : ∀ a0 a1, ChO (fun κ => r1 κ a0 a1) (r1' a0 a1)) (r4 : Nat → Int → Tp3 → Option Tp3) (r4' : Int → Tp3 → Option Tp3) (h_r4 : ∀ a0 a1, ChO (fun κ => r4 κ a0 a1) (r4' a0 a1)) (a : Int) (c : Tp3) (i : Int) (j : Int) (data_2 : Tp3) : ChO (fun κ => slices_insertionSortCmpFunc_L4_B a c i (r1 κ) (r4 κ) j data_2) (slices_insertionSortCmpFunc_L4_B a c i r1' r4' j data_2) := by
  unfold slices_insertionSortCmpFunc_L4_B
  repeat' with_reducible first | exact ChO.const _ | exact h_r1 _ _ | exact h_r4 _ _ | apply ChO.ite | apply ChO.G | apply ChO.both | (apply ChO.bind; intro _)
theorem slices_insertionSortCmpFunc_L4_cn (r1 : Int → Tp3 → Option Tp3) (a : Int) (c : Tp3) (i : Int) : Cn (slices_insertionSortCmpFunc_L4_F a c i r1) := fun g h hg x => slices_insertionSortCmpFunc_L4_B_ch (fun _ => r1) r1 (fun _ _ => ChO.const _) (fun κ j data_2 => g κ (j, data_2)) (fun j data_2 => h (j, data_2)) (fun j data_2 => hg (j, data_2)) a c i x.1 x.2
theorem slices_insertionSortCmpFunc_L4_eq (r1 : Int → Tp3 → Option Tp3) (a : Int) (c : Tp3) (i : Int) (j : Int) (data_2 : Tp3) : slices_insertionSortCmpFunc_L4 a c i r1 j data_2 = slices_insertionSortCmpFunc_L4_B a c i r1 (slices_insertionSortCmpFunc_L4 a c i r1) j data_2 := LFix_eq (slices_insertionSortCmpFunc_L4_cn r1 a c i) (j, data_2)
theorem slices_insertionSortCmpFunc_L4_ch (r1 : Nat → Int → Tp3 → Option Tp3) (r1' : Int → Tp3 → Option Tp3) (h_r1 : ∀ a0 a1, ChO (fun κ => r1 κ a0 a1) (r1' a0 a1)) (a : Int) (c : Tp3) (i : Int) (j : Int) (data_2 : Tp3) : ChO (fun κ => slices_insertionSortCmpFunc_L4 a c i (r1 κ) j data_2) (slices_insertionSortCmpFunc_L4 a c i r1' j data_2) := by
  unfold slices_insertionSortCmpFunc_L4
  exact LFix_ch (fun κ => (slices_insertionSortCmpFunc_L4_cn (r1 κ) a c i).mono) (slices_insertionSortCmpFunc_L4_cn r1' a c i).mono (fun g h hg x => slices_insertionSortCmpFunc_L4_B_ch r1 r1' h_r1 (fun κ j data_2 => g κ (j, data_2)) (fun j data_2 => h (j, data_2)) (fun j data_2 => hg (j, data_2)) a c i x.1 x.2) _
theorem slices_insertionSortCmpFunc_L1_B_ch (r1 : Nat → Int → Tp3 → Option Tp3) (r1' : Int → Tp3 → Option Tp3) (h_r1 : ∀ a0 a1, ChO (fun κ => r1 κ a0 a1) (r1' a0 a1)) (a : Int) (b : Int) (c : Tp3) (i : Int) (data_1 : Tp3) : ChO (fun κ => slices_insertionSortCmpFunc_L1_B a b c (r1 κ) i data_1) (slices_insertionSortCmpFunc_L1_B a b c r1' i data_1) := by
  unfold slices_insertionSortCmpFunc_L1_B
  repeat' with_reducible first | exact ChO.const _ | exact h_r1 _ _ | (apply slices_insertionSortCmpFunc_L4_ch <;> assumption) | apply ChO.ite | apply ChO.G | apply ChO.both | (apply ChO.bind; intro _)
theorem slices_insertionSortCmpFunc_L1_cn  (a : Int) (b : Int) (c : Tp3) : Cn (slices_insertionSortCmpFunc_L1_F a b c) := fun g h hg x => slices_insertionSortCmpFunc_L1_B_ch  (fun κ i data_1 => g κ (i, data_1)) (fun i data_1 => h (i, data_1)) (fun i data_1 => hg (i, data_1)) a b c x.1 x.2
theorem slices_insertionSortCmpFunc_L1_eq  (a : Int) (b : Int) (c : Tp3) (i : Int) (data_1 : Tp3) : slices_insertionSortCmpFunc_L1 a b c i data_1 = slices_insertionSortCmpFunc_L1_B a b c (slices_insertionSortCmpFunc_L1 a b c) i data_1 := LFix_eq (slices_insertionSortCmpFunc_L1_cn a b c) (i, data_1)

noncomputable def slices_siftDownCmpFunc_J4 (first : Int) (c : Tp3) (root : Int) (data_1 : Tp3) (r1 : (Int → Tp3 → Option Tp3)) (child : Int) : Option Tp3 :=
  G (fits (first + root)) (
  G (0 ≤ first + root ∧ first + root < (data_1.length : Int)) (
  G ((first + root).toNat < data_1.length) (
  G (fits (first + child)) (
  G (0 ≤ first + child ∧ first + child < (data_1.length : Int)) (
  G ((first + child).toNat < data_1.length) (
  (lyndon_Ends_1 (ix data_1 (first + root)) (ix data_1 (first + child)) c).bind (fun y'_1 =>
  if (!(decide (y'_1 < (0 : Int)))) = true then
  some data_1 else
  G (fits (first + root)) (
  G (fits (first + child)) (
  G (fits (first + child)) (
  G (0 ≤ first + child ∧ first + child < (data_1.length : Int)) (
  G ((first + child).toNat < data_1.length) (
  G (fits (first + root)) (
  G (0 ≤ first + root ∧ first + root < (data_1.length : Int)) (
  G ((first + root).toNat < data_1.length) (
  G (0 ≤ first + root ∧ first + root < (data_1.length : Int)) (
  G ((first + root).toNat < data_1.length) (
  G (0 ≤ first + child ∧ first + child < ((data_1.set (first + root).toNat (ix data_1 (first + child))).length : Int)) (
  G ((first + child).toNat < (data_1.set (first + root).toNat (ix data_1 (first + child))).length) (
  r1 child ((data_1.set (first + root).toNat (ix data_1 (first + child))).set (first + child).toNat (ix data_1 (first + root))))))))))))))))))))))
noncomputable def slices_siftDownCmpFunc_J3 (first : Int) (c : Tp3) (root : Int) (data_1 : Tp3) (r1 : (Int → Tp3 → Option Tp3)) (t : Bool) : Option Tp3 :=
  if t = true then
  G (fits ((((2 : Int) * root) + (1 : Int)) + (1 : Int))) (
  slices_siftDownCmpFunc_J4 first c root data_1 r1 ((((2 : Int) * root) + (1 : Int)) + (1 : Int))) else
  slices_siftDownCmpFunc_J4 first c root data_1 r1 (((2 : Int) * root) + (1 : Int))
noncomputable def slices_siftDownCmpFunc_L1_B (hi : Int) (first : Int) (c : Tp3) (r1 : Int → Tp3 → Option Tp3) (root : Int) (data_1 : Tp3) : Option Tp3 :=
  G (fits ((2 : Int) * root)) (
  G (fits (((2 : Int) * root) + (1 : Int))) (
  if (decide (hi ≤ (((2 : Int) * root) + (1 : Int)))) = true then
  some data_1 else
  G (fits ((((2 : Int) * root) + (1 : Int)) + (1 : Int))) (
  if (decide (((((2 : Int) * root) + (1 : Int)) + (1 : Int)) < hi)) = true then
  G (fits (first + (((2 : Int) * root) + (1 : Int)))) (
  G (0 ≤ first + (((2 : Int) * root) + (1 : Int)) ∧ first + (((2 : Int) * root) + (1 : Int)) < (data_1.length : Int)) (
  G ((first + (((2 : Int) * root) + (1 : Int))).toNat < data_1.length) (
  G (fits (first + (((2 : Int) * root) + (1 : Int)))) (
  G (fits ((first + (((2 : Int) * root) + (1 : Int))) + (1 : Int))) (
  G (0 ≤ (first + (((2 : Int) * root) + (1 : Int))) + (1 : Int) ∧ (first + (((2 : Int) * root) + (1 : Int))) + (1 : Int) < (data_1.length : Int)) (
  G (((first + (((2 : Int) * root) + (1 : Int))) + (1 : Int)).toNat < data_1.length) (
  (lyndon_Ends_1 (ix data_1 (first + (((2 : Int) * root) + (1 : Int)))) (ix data_1 ((first + (((2 : Int) * root) + (1 : Int))) + (1 : Int))) c).bind (fun y' =>
  slices_siftDownCmpFunc_J3 first c root data_1 r1 (decide (y' < (0 : Int))))))))))) else
  slices_siftDownCmpFunc_J3 first c root data_1 r1 false)))
noncomputable def slices_siftDownCmpFunc_L1_F (hi : Int) (first : Int) (c : Tp3) : (Int × Tp3 → Option Tp3) → Int × Tp3 → Option Tp3 :=
  fun rec x => slices_siftDownCmpFunc_L1_B hi first c (fun root data_1 => rec (root, data_1)) x.1 x.2
noncomputable def slices_siftDownCmpFunc_L1 (hi : Int) (first : Int) (c : Tp3) (root : Int) (data_1 : Tp3) : Option Tp3 := LFix (slices_siftDownCmpFunc_L1_F hi first c ) (root, data_1)
noncomputable def slices_siftDownCmpFunc (lo : Int) (hi : Int) (first : Int) (c : Tp3) (data : Tp3) : Option Tp3 :=
  slices_siftDownCmpFunc_L1 hi first c lo data
theorem slices_siftDownCmpFunc_J4_ch (r1 : Nat → Int → Tp3 → Option Tp3) (r1' : Int → Tp3 → Option Tp3) (h_r1 : ∀ a0 a1, ChO (fun κ => r1 κ a0 a1) (r1' a0 a1)) (first : Int) (c : Tp3) (root : Int) (data_1 : Tp3) (child : Int) : ChO (fun κ => slices_siftDownCmpFunc_J4 first c root data_1 (r1 κ) child) (slices_siftDownCmpFunc_J4 first c root data_1 r1' child) := by
  unfold slices_siftDownCmpFunc_J4
  repeat' with_reducible first | exact ChO.const _ | exact h_r1 _ _ | apply ChO.ite | apply ChO.G | apply ChO.both | (apply ChO.bind; intro _)
theorem slices_siftDownCmpFunc_J3_ch (r1 : Nat → Int → Tp3 → Option Tp3) (r1' : Int → Tp3 → Option Tp3) (h_r1 : ∀ a0 a1, ChO (fun κ => r1 κ a0 a1) (r1' a0 a1)) (first : Int) (c : Tp3) (root : Int) (data_1 : Tp3) (t : Bool) : ChO (fun κ => slices_siftDownCmpFunc_J3 first c root data_1 (r1 κ) t) (slices_siftDownCmpFunc_J3 first c root data_1 r1' t) := by
  unfold slices_siftDownCmpFunc_J3
  repeat' with_reducible first | exact ChO.const _ | exact h_r1 _ _ | (apply slices_siftDownCmpFunc_J4_ch <;> assumption) | apply ChO.ite | apply ChO.G | apply ChO.both | (apply ChO.bind; intro _)
theorem slices_siftDownCmpFunc_L1_B_ch (r1 : Nat → Int → Tp3 → Option Tp3) (r1' : Int → Tp3 → Option Tp3) (h_r1 : ∀ a0 a1, ChO (fun κ => r1 κ a0 a1) (r1' a0 a1)) (hi : Int) (first : Int) (c : Tp3) (root : Int) (data_1 : Tp3) : ChO (fun κ => slices_siftDownCmpFunc_L1_B hi first c (r1 κ) root data_1) (slices_siftDownCmpFunc_L1_B hi first c r1' root data_1) := by
  unfold slices_siftDownCmpFunc_L1_B
  repeat' with_reducible first | exact ChO.const _ | exact h_r1 _ _ | (apply slices_siftDownCmpFunc_J4_ch <;> assumption) | (apply slices_siftDownCmpFunc_J3_ch <;> assumption) | apply ChO.ite | apply ChO.G | apply ChO.both | (apply ChO.bind; intro _)
theorem slices_siftDownCmpFunc_L1_cn  (hi : Int) (first : Int) (c : Tp3) : Cn (slices_siftDownCmpFunc_L1_F hi first c) := fun g h hg x => slices_siftDownCmpFunc_L1_B_ch  (fun κ root data_1 => g κ (root, data_1)) (fun root data_1 => h (root, data_1)) (fun root data_1 => hg (root, data_1)) hi first c x.1 x.2
theorem slices_siftDownCmpFunc_L1_eq  (hi : Int) (first : Int) (c : Tp3) (root : Int) (data_1 : Tp3) : slices_siftDownCmpFunc_L1 hi first c root data_1 = slices_siftDownCmpFunc_L1_B hi first c (slices_siftDownCmpFunc_L1 hi first c) root data_1 := LFix_eq (slices_siftDownCmpFunc_L1_cn hi first c) (root, data_1)

noncomputable def slices_heapSortCmpFunc_L8_B (a : Int) (c : Tp3) (r8 : Int → Tp3 → Option Tp3) (i_1 : Int) (data_2 : Tp3) : Option Tp3 :=
  if (decide ((0 : Int) ≤ i_1)) = true then
  G (fits (a + i_1)) (
  G (fits (a + i_1)) (
  G (0 ≤ a + i_1 ∧ a + i_1 < (data_2.length : Int)) (
  G ((a + i_1).toNat < data_2.length) (
  G (0 ≤ a ∧ a < (data_2.length : Int)) (
  G ((a).toNat < data_2.length) (
  G (0 ≤ a ∧ a < (data_2.length : Int)) (
  G ((a).toNat < data_2.length) (
  G (0 ≤ a + i_1 ∧ a + i_1 < ((data_2.set (a).toNat (ix data_2 (a + i_1))).length : Int)) (
  G ((a + i_1).toNat < (data_2.set (a).toNat (ix data_2 (a + i_1))).length) (
  (slices_siftDownCmpFunc (0 : Int) i_1 a c ((data_2.set (a).toNat (ix data_2 (a + i_1))).set (a + i_1).toNat (ix data_2 a))).bind (fun y'_1 =>
  G (fits (i_1 - (1 : Int))) (
  r8 (i_1 - (1 : Int)) y'_1)))))))))))) else
  some data_2
noncomputable def slices_heapSortCmpFunc_L8_F (a : Int) (c : Tp3) : (Int × Tp3 → Option Tp3) → Int × Tp3 → Option Tp3 :=
  fun rec x => slices_heapSortCmpFunc_L8_B a c (fun i_1 data_2 => rec (i_1, data_2)) x.1 x.2
noncomputable def slices_heapSortCmpFunc_L8 (a : Int) (c : Tp3) (i_1 : Int) (data_2 : Tp3) : Option Tp3 := LFix (slices_heapSortCmpFunc_L8_F a c ) (i_1, data_2)
noncomputable def slices_heapSortCmpFunc_L4_B (a : Int) (b : Int) (c : Tp3) (r4 : Int → Tp3 → Option Tp3) (i : Int) (data_1 : Tp3) : Option Tp3 :=
  if (decide ((0 : Int) ≤ i)) = true then
  (slices_siftDownCmpFunc i (b - a) a c data_1).bind (fun y' =>
  G (fits (i - (1 : Int))) (
  r4 (i - (1 : Int)) y')) else
  G (fits ((b - a) - (1 : Int))) (
  slices_heapSortCmpFunc_L8 a c ((b - a) - (1 : Int)) data_1)
noncomputable def slices_heapSortCmpFunc_L4_F (a : Int) (b : Int) (c : Tp3) : (Int × Tp3 → Option Tp3) → Int × Tp3 → Option Tp3 :=
  fun rec x => slices_heapSortCmpFunc_L4_B a b c (fun i data_1 => rec (i, data_1)) x.1 x.2
noncomputable def slices_heapSortCmpFunc_L4 (a : Int) (b : Int) (c : Tp3) (i : Int) (data_1 : Tp3) : Option Tp3 := LFix (slices_heapSortCmpFunc_L4_F a b c ) (i, data_1)
noncomputable def slices_heapSortCmpFunc (a : Int) (b : Int) (c : Tp3) (data : Tp3) : Option Tp3 :=
  G (fits (b - a)) (
  G (fits ((b - a) - (1 : Int))) (
  G ((2 : Int) ≠ 0) (
  G (fits (Int.tdiv ((b - a) - (1 : Int)) (2 : Int))) (
  slices_heapSortCmpFunc_L4 a b c (Int.tdiv ((b - a) - (1 : Int)) (2 : Int)) data))))
theorem slices_heapSortCmpFunc_L8_B_ch (r8 : Nat → Int → Tp3 → Option Tp3) (r8' : Int → Tp3 → Option Tp3) (h_r8 : ∀ a0 a1, ChO (fun κ => r8 κ a0 a1) (r8' a0 a1)) (a : Int) (c : Tp3) (i_1 : Int) (data_2 : Tp3) : ChO (fun κ => slices_heapSortCmpFunc_L8_B a c (r8 κ) i_1 data_2) (slices_heapSortCmpFunc_L8_B a c r8' i_1 data_2) := by
  unfold slices_heapSortCmpFunc_L8_B
  repeat' with_reducible first | exact ChO.const _ | exact h_r8 _ _ | apply ChO.ite | apply ChO.G | apply ChO.both | (apply ChO.bind; intro _)
theorem slices_heapSortCmpFunc_L8_cn  (a : Int) (c : Tp3) : Cn (slices_heapSortCmpFunc_L8_F a c) := fun g h hg x => slices_heapSortCmpFunc_L8_B_ch  (fun κ i_1 data_2 => g κ (i_1, data_2)) (fun i_1 data_2 => h (i_1, data_2)) (fun i_1 data_2 => hg (i_1, data_2)) a c x.1 x.2
theorem slices_heapSortCmpFunc_L8_eq  (a : Int) (c : Tp3) (i_1 : Int) (data_2 : Tp3) : slices_heapSortCmpFunc_L8 a c i_1 data_2 = slices_heapSortCmpFunc_L8_B a c (slices_heapSortCmpFunc_L8 a c) i_1 data_2 := LFix_eq (slices_heapSortCmpFunc_L8_cn a c) (i_1, data_2)
theorem slices_heapSortCmpFunc_L4_B_ch (r4 : Nat → Int → Tp3 → Option Tp3) (r4' : Int → Tp3 → Option Tp3) (h_r4 : ∀ a0 a1, ChO (fun κ => r4 κ a0 a1) (r4' a0 a1)) (a : Int) (b : Int) (c : Tp3) (i : Int) (data_1 : Tp3) : ChO (fun κ => slices_heapSortCmpFunc_L4_B a b c (r4 κ) i data_1) (slices_heapSortCmpFunc_L4_B a b c r4' i data_1) := by
  unfold slices_heapSortCmpFunc_L4_B
  repeat' with_reducible first | exact ChO.const _ | exact h_r4 _ _ | apply ChO.ite | apply ChO.G | apply ChO.both | (apply ChO.bind; intro _)
theorem slices_heapSortCmpFunc_L4_cn  (a : Int) (b : Int) (c : Tp3) : Cn (slices_heapSortCmpFunc_L4_F a b c) := fun g h hg x => slices_heapSortCmpFunc_L4_B_ch  (fun κ i data_1 => g κ (i, data_1)) (fun i data_1 => h (i, data_1)) (fun i data_1 => hg (i, data_1)) a b c x.1 x.2
theorem slices_heapSortCmpFunc_L4_eq  (a : Int) (b : Int) (c : Tp3) (i : Int) (data_1 : Tp3) : slices_heapSortCmpFunc_L4 a b c i data_1 = slices_heapSortCmpFunc_L4_B a b c (slices_heapSortCmpFunc_L4 a b c) i data_1 := LFix_eq (slices_heapSortCmpFunc_L4_cn a b c) (i, data_1)

noncomputable def slices_nextPowerOfTwo (length : Int) : Option (Int) :=
  (bits_Len (IntKind.wrap .u64 length)).bind (fun y' =>
  G (0 ≤ y') (
  some (ishl .u64 (1 : Int) y')))

noncomputable def slices_xorshift_Next (c : Int) : Option (Int × Int) :=
  G (0 ≤ (13 : Int)) (
  G (0 ≤ (7 : Int)) (
  G (0 ≤ (17 : Int)) (
  some (ixor .u64 (ixor .u64 (ixor .u64 c (ishl .u64 c (13 : Int))) (ishr .u64 (ixor .u64 c (ishl .u64 c (13 : Int))) (7 : Int))) (ishl .u64 (ixor .u64 (ixor .u64 c (ishl .u64 c (13 : Int))) (ishr .u64 (ixor .u64 c (ishl .u64 c (13 : Int))) (7 : Int))) (17 : Int)), ixor .u64 (ixor .u64 (ixor .u64 c (ishl .u64 c (13 : Int))) (ishr .u64 (ixor .u64 c (ishl .u64 c (13 : Int))) (7 : Int))) (ishl .u64 (ixor .u64 (ixor .u64 c (ishl .u64 c (13 : Int))) (ishr .u64 (ixor .u64 c (ishl .u64 c (13 : Int))) (7 : Int))) (17 : Int))))))

noncomputable def slices_breakPatternsCmpFunc_J9 (a : Int) (idx : Int) (data_1 : Tp3) (r5 : (Int → Tp3 → Int → Option Tp3)) (y'_2 : Int) (other : Int) : Option Tp3 :=
  G (fits (a + other)) (
  G (fits (a + other)) (
  G (0 ≤ a + other ∧ a + other < (data_1.length : Int)) (
  G ((a + other).toNat < data_1.length) (
  G (0 ≤ idx ∧ idx < (data_1.length : Int)) (
  G ((idx).toNat < data_1.length) (
  G (0 ≤ idx ∧ idx < (data_1.length : Int)) (
  G ((idx).toNat < data_1.length) (
  G (0 ≤ a + other ∧ a + other < ((data_1.set (idx).toNat (ix data_1 (a + other))).length : Int)) (
  G ((a + other).toNat < (data_1.set (idx).toNat (ix data_1 (a + other))).length) (
  G (fits (idx + (1 : Int))) (
  r5 (idx + (1 : Int)) ((data_1.set (idx).toNat (ix data_1 (a + other))).set (a + other).toNat (ix data_1 idx)) y'_2)))))))))))
noncomputable def slices_breakPatternsCmpFunc_L5_B (a : Int) (b : Int) (y' : Int) (r5 : Int → Tp3 → Int → Option Tp3) (idx : Int) (data_1 : Tp3) (random : Int) : Option Tp3 :=
  G ((4 : Int) ≠ 0) (
  G (fits (Int.tdiv (b - a) (4 : Int))) (
  G (fits ((Int.tdiv (b - a) (4 : Int)) * (2 : Int))) (
  G (fits (a + ((Int.tdiv (b - a) (4 : Int)) * (2 : Int)))) (
  G (fits ((a + ((Int.tdiv (b - a) (4 : Int)) * (2 : Int))) + (1 : Int))) (
  if (decide (idx ≤ ((a + ((Int.tdiv (b - a) (4 : Int)) * (2 : Int))) + (1 : Int)))) = true then
  (slices_xorshift_Next random).bind (fun y'_4 =>
  if (decide ((b - a) ≤ (IntKind.wrap .i64 (iand .u64 y'_4.1 (IntKind.wrap .u64 (y' - (1 : Int))))))) = true then
  G (fits ((IntKind.wrap .i64 (iand .u64 y'_4.1 (IntKind.wrap .u64 (y' - (1 : Int))))) - (b - a))) (
  slices_breakPatternsCmpFunc_J9 a idx data_1 r5 y'_4.2 ((IntKind.wrap .i64 (iand .u64 y'_4.1 (IntKind.wrap .u64 (y' - (1 : Int))))) - (b - a))) else
  slices_breakPatternsCmpFunc_J9 a idx data_1 r5 y'_4.2 (IntKind.wrap .i64 (iand .u64 y'_4.1 (IntKind.wrap .u64 (y' - (1 : Int)))))) else
  some data_1)))))
noncomputable def slices_breakPatternsCmpFunc_L5_F (a : Int) (b : Int) (y' : Int) : (Int × Tp3 × Int → Option Tp3) → Int × Tp3 × Int → Option Tp3 :=
  fun rec x => slices_breakPatternsCmpFunc_L5_B a b y' (fun idx data_1 random => rec (idx, data_1, random)) x.1 x.2.1 x.2.2
noncomputable def slices_breakPatternsCmpFunc_L5 (a : Int) (b : Int) (y' : Int) (idx : Int) (data_1 : Tp3) (random : Int) : Option Tp3 := LFix (slices_breakPatternsCmpFunc_L5_F a b y' ) (idx, data_1, random)
noncomputable def slices_breakPatternsCmpFunc (a : Int) (b : Int) (c : Tp3) (data : Tp3) : Option Tp3 :=
  G (fits (b - a)) (
  if (decide ((8 : Int) ≤ (b - a))) = true then
  (slices_nextPowerOfTwo (b - a)).bind (fun y' =>
  G ((4 : Int) ≠ 0) (
  G (fits (Int.tdiv (b - a) (4 : Int))) (
  G (fits ((Int.tdiv (b - a) (4 : Int)) * (2 : Int))) (
  G (fits (a + ((Int.tdiv (b - a) (4 : Int)) * (2 : Int)))) (
  G (fits ((a + ((Int.tdiv (b - a) (4 : Int)) * (2 : Int))) - (1 : Int))) (
  slices_breakPatternsCmpFunc_L5 a b y' ((a + ((Int.tdiv (b - a) (4 : Int)) * (2 : Int))) - (1 : Int)) data (IntKind.wrap .u64 (b - a)))))))) else
  some data)
theorem slices_breakPatternsCmpFunc_J9_ch (r5 : Nat → Int → Tp3 → Int → Option Tp3) (r5' : Int → Tp3 → Int → Option Tp3) (h_r5 : ∀ a0 a1 a2, ChO (fun κ => r5 κ a0 a1 a2) (r5' a0 a1 a2)) (a : Int) (idx : Int) (data_1 : Tp3) (y'_2 : Int) (other : Int) : ChO (fun κ => slices_breakPatternsCmpFunc_J9 a idx data_1 (r5 κ) y'_2 other) (slices_breakPatternsCmpFunc_J9 a idx data_1 r5' y'_2 other) := by
  unfold slices_breakPatternsCmpFunc_J9
  repeat' with_reducible first | exact ChO.const _ | exact h_r5 _ _ _ | apply ChO.ite | apply ChO.G | apply ChO.both | (apply ChO.bind; intro _)
theorem slices_breakPatternsCmpFunc_L5_B_ch (r5 : Nat → Int → Tp3 → Int → Option Tp3) (r5' : Int → Tp3 → Int → Option Tp3) (h_r5 : ∀ a0 a1 a2, ChO (fun κ => r5 κ a0 a1 a2) (r5' a0 a1 a2)) (a : Int) (b : Int) (y' : Int) (idx : Int) (data_1 : Tp3) (random : Int) : ChO (fun κ => slices_breakPatternsCmpFunc_L5_B a b y' (r5 κ) idx data_1 random) (slices_breakPatternsCmpFunc_L5_B a b y' r5' idx data_1 random) := by
  unfold slices_breakPatternsCmpFunc_L5_B
  repeat' with_reducible first | exact ChO.const _ | exact h_r5 _ _ _ | (apply slices_breakPatternsCmpFunc_J9_ch <;> assumption) | apply ChO.ite | apply ChO.G | apply ChO.both | (apply ChO.bind; intro _)
theorem slices_breakPatternsCmpFunc_L5_cn  (a : Int) (b : Int) (y' : Int) : Cn (slices_breakPatternsCmpFunc_L5_F a b y') := fun g h hg x => slices_breakPatternsCmpFunc_L5_B_ch  (fun κ idx data_1 random => g κ (idx, data_1, random)) (fun idx data_1 random => h (idx, data_1, random)) (fun idx data_1 random => hg (idx, data_1, random)) a b y' x.1 x.2.1 x.2.2
theorem slices_breakPatternsCmpFunc_L5_eq  (a : Int) (b : Int) (y' : Int) (idx : Int) (data_1 : Tp3) (random : Int) : slices_breakPatternsCmpFunc_L5 a b y' idx data_1 random = slices_breakPatternsCmpFunc_L5_B a b y' (slices_breakPatternsCmpFunc_L5 a b y') idx data_1 random := LFix_eq (slices_breakPatternsCmpFunc_L5_cn a b y') (idx, data_1, random)

noncomputable def slices_order2CmpFunc (data : Tp3) (a : Int) (b : Int) (c : Tp3) (c_1 : Int) : Option (Int × Int × Int) :=
  G (0 ≤ b ∧ b < (data.length : Int)) (
  G (0 ≤ a ∧ a < (data.length : Int)) (
  (lyndon_Ends_1 (ix data b) (ix data a) c).bind (fun y' =>
  if (decide (y' < (0 : Int))) = true then
  G (fits (c_1 + (1 : Int))) (
  some (b, a, c_1 + (1 : Int))) else
  some (a, b, c_1))))

noncomputable def slices_medianCmpFunc (data : Tp3) (a : Int) (b : Int) (c : Int) (c_1 : Tp3) (c_2 : Int) : Option (Int × Int) :=
  (slices_order2CmpFunc data a b c_1 c_2).bind (fun y'_14 =>
  (slices_order2CmpFunc data y'_14.2.1 c c_1 y'_14.2.2).bind (fun y'_13 =>
  (slices_order2CmpFunc data y'_14.1 y'_13.1 c_1 y'_13.2.2).bind (fun y'_12 =>
  some (y'_12.2.1, y'_12.2.2))))

noncomputable def slices_medianAdjacentCmpFunc (data : Tp3) (a : Int) (c : Tp3) (c_1 : Int) : Option (Int × Int) :=
  G (fits (a - (1 : Int))) (
  G (fits (a + (1 : Int))) (
  (slices_medianCmpFunc data (a - (1 : Int)) a (a + (1 : Int)) c c_1).bind (fun y'_3 =>
  some (y'_3.1, y'_3.2))))

noncomputable def slices_choosePivotCmpFunc_J11 (j_1 : Int) (swaps_1 : Int) : Option (Int × Int) :=
  if (decide (swaps_1 = (0 : Int))) = true then
  some (j_1, (1 : Int)) else
  if (decide (swaps_1 = (12 : Int))) = true then
  some (j_1, (2 : Int)) else
  some (j_1, (0 : Int))
noncomputable def slices_choosePivotCmpFunc_J10 (data : Tp3) (c : Tp3) (i : Int) (j : Int) (k : Int) (swaps : Int) : Option (Int × Int) :=
  (slices_medianCmpFunc data i j k c swaps).bind (fun y'_12 =>
  slices_choosePivotCmpFunc_J11 y'_12.1 y'_12.2)
noncomputable def slices_choosePivotCmpFunc (data : Tp3) (a : Int) (b : Int) (c : Tp3) : Option (Int × Int) :=
  G (fits (b - a)) (
  G ((4 : Int) ≠ 0) (
  G (fits (Int.tdiv (b - a) (4 : Int))) (
  G (fits ((Int.tdiv (b - a) (4 : Int)) * (1 : Int))) (
  G (fits (a + ((Int.tdiv (b - a) (4 : Int)) * (1 : Int)))) (
  G ((4 : Int) ≠ 0) (
  G (fits (Int.tdiv (b - a) (4 : Int))) (
  G (fits ((Int.tdiv (b - a) (4 : Int)) * (2 : Int))) (
  G (fits (a + ((Int.tdiv (b - a) (4 : Int)) * (2 : Int)))) (
  G ((4 : Int) ≠ 0) (
  G (fits (Int.tdiv (b - a) (4 : Int))) (
  G (fits ((Int.tdiv (b - a) (4 : Int)) * (3 : Int))) (
  G (fits (a + ((Int.tdiv (b - a) (4 : Int)) * (3 : Int)))) (
  if (decide ((8 : Int) ≤ (b - a))) = true then
  if (decide ((50 : Int) ≤ (b - a))) = true then
  (slices_medianAdjacentCmpFunc data (a + ((Int.tdiv (b - a) (4 : Int)) * (1 : Int))) c (0 : Int)).bind (fun y'_15 =>
  (slices_medianAdjacentCmpFunc data (a + ((Int.tdiv (b - a) (4 : Int)) * (2 : Int))) c y'_15.2).bind (fun y'_14 =>
  (slices_medianAdjacentCmpFunc data (a + ((Int.tdiv (b - a) (4 : Int)) * (3 : Int))) c y'_14.2).bind (fun y'_13 =>
  slices_choosePivotCmpFunc_J10 data c y'_15.1 y'_14.1 y'_13.1 y'_13.2))) else
  slices_choosePivotCmpFunc_J10 data c (a + ((Int.tdiv (b - a) (4 : Int)) * (1 : Int))) (a + ((Int.tdiv (b - a) (4 : Int)) * (2 : Int))) (a + ((Int.tdiv (b - a) (4 : Int)) * (3 : Int))) (0 : Int) else
  slices_choosePivotCmpFunc_J11 (a + ((Int.tdiv (b - a) (4 : Int)) * (2 : Int))) (0 : Int))))))))))))))

noncomputable def slices_reverseRangeCmpFunc_L2_B  (r2 : Int → Int → Tp3 → Option Tp3) (i : Int) (j : Int) (data_1 : Tp3) : Option Tp3 :=
  if (decide (i < j)) = true then
  G (0 ≤ j ∧ j < (data_1.length : Int)) (
  G ((j).toNat < data_1.length) (
  G (0 ≤ i ∧ i < (data_1.length : Int)) (
  G ((i).toNat < data_1.length) (
  G (0 ≤ i ∧ i < (data_1.length : Int)) (
  G ((i).toNat < data_1.length) (
  G (0 ≤ j ∧ j < ((data_1.set (i).toNat (ix data_1 j)).length : Int)) (
  G ((j).toNat < (data_1.set (i).toNat (ix data_1 j)).length) (
  G (fits (i + (1 : Int))) (
  G (fits (j - (1 : Int))) (
  r2 (i + (1 : Int)) (j - (1 : Int)) ((data_1.set (i).toNat (ix data_1 j)).set (j).toNat (ix data_1 i)))))))))))) else
  some data_1
noncomputable def slices_reverseRangeCmpFunc_L2_F  : (Int × Int × Tp3 → Option Tp3) → Int × Int × Tp3 → Option Tp3 :=
  fun rec x => slices_reverseRangeCmpFunc_L2_B (fun i j data_1 => rec (i, j, data_1)) x.1 x.2.1 x.2.2
noncomputable def slices_reverseRangeCmpFunc_L2  (i : Int) (j : Int) (data_1 : Tp3) : Option Tp3 := LFix (slices_reverseRangeCmpFunc_L2_F ) (i, j, data_1)
noncomputable def slices_reverseRangeCmpFunc (a : Int) (b : Int) (c : Tp3) (data : Tp3) : Option Tp3 :=
  G (fits (b - (1 : Int))) (
  slices_reverseRangeCmpFunc_L2 a (b - (1 : Int)) data)
theorem slices_reverseRangeCmpFunc_L2_B_ch (r2 : Nat → Int → Int → Tp3 → Option Tp3) (r2' : Int → Int → Tp3 → Option Tp3) (h_r2 : ∀ a0 a1 a2, ChO (fun κ => r2 κ a0 a1 a2) (r2' a0 a1 a2)) (i : Int) (j : Int) (data_1 : Tp3) : ChO (fun κ => slices_reverseRangeCmpFunc_L2_B (r2 κ) i j data_1) (slices_reverseRangeCmpFunc_L2_B r2' i j data_1) := by
  unfold slices_reverseRangeCmpFunc_L2_B
  repeat' with_reducible first | exact ChO.const _ | exact h_r2 _ _ _ | apply ChO.ite | apply ChO.G | apply ChO.both | (apply ChO.bind; intro _)
theorem slices_reverseRangeCmpFunc_L2_cn   : Cn (slices_reverseRangeCmpFunc_L2_F) := fun g h hg x => slices_reverseRangeCmpFunc_L2_B_ch  (fun κ i j data_1 => g κ (i, j, data_1)) (fun i j data_1 => h (i, j, data_1)) (fun i j data_1 => hg (i, j, data_1))  x.1 x.2.1 x.2.2
theorem slices_reverseRangeCmpFunc_L2_eq   (i : Int) (j : Int) (data_1 : Tp3) : slices_reverseRangeCmpFunc_L2 i j data_1 = slices_reverseRangeCmpFunc_L2_B (slices_reverseRangeCmpFunc_L2) i j data_1 := LFix_eq (slices_reverseRangeCmpFunc_L2_cn ) (i, j, data_1)

noncomputable def slices_partialInsertionSortCmpFunc_L20_B (b : Int) (c : Tp3) (j : Int) (r3 : (Int → Int → Tp3 → Option (Bool × Tp3))) (i_2 : Int) (r20 : Int → Tp3 → Option (Bool × Tp3)) (j_2 : Int) (data_4 : Tp3) : Option (Bool × Tp3) :=
  if (decide (j_2 < b)) = true then
  G (0 ≤ j_2 ∧ j_2 < (data_4.length : Int)) (
  G ((j_2).toNat < data_4.length) (
  G (fits (j_2 - (1 : Int))) (
  G (0 ≤ j_2 - (1 : Int) ∧ j_2 - (1 : Int) < (data_4.length : Int)) (
  G ((j_2 - (1 : Int)).toNat < data_4.length) (
  (lyndon_Ends_1 (ix data_4 j_2) (ix data_4 (j_2 - (1 : Int))) c).bind (fun y'_2 =>
  if (!(decide (y'_2 < (0 : Int)))) = true then
  G (fits (j + (1 : Int))) (
  r3 i_2 (j + (1 : Int)) data_4) else
  G (fits (j_2 - (1 : Int))) (
  G (fits (j_2 - (1 : Int))) (
  G (0 ≤ j_2 - (1 : Int) ∧ j_2 - (1 : Int) < (data_4.length : Int)) (
  G ((j_2 - (1 : Int)).toNat < data_4.length) (
  G (0 ≤ j_2 ∧ j_2 < (data_4.length : Int)) (
  G ((j_2).toNat < data_4.length) (
  G (0 ≤ j_2 ∧ j_2 < (data_4.length : Int)) (
  G ((j_2).toNat < data_4.length) (
  G (0 ≤ j_2 - (1 : Int) ∧ j_2 - (1 : Int) < ((data_4.set (j_2).toNat (ix data_4 (j_2 - (1 : Int)))).length : Int)) (
  G ((j_2 - (1 : Int)).toNat < (data_4.set (j_2).toNat (ix data_4 (j_2 - (1 : Int)))).length) (
  G (fits (j_2 + (1 : Int))) (
  r20 (j_2 + (1 : Int)) ((data_4.set (j_2).toNat (ix data_4 (j_2 - (1 : Int)))).set (j_2 - (1 : Int)).toNat (ix data_4 j_2))))))))))))))))))) else
  G (fits (j + (1 : Int))) (
  r3 i_2 (j + (1 : Int)) data_4)
noncomputable def slices_partialInsertionSortCmpFunc_L20_F (b : Int) (c : Tp3) (j : Int) (r3 : (Int → Int → Tp3 → Option (Bool × Tp3))) (i_2 : Int) : (Int × Tp3 → Option (Bool × Tp3)) → Int × Tp3 → Option (Bool × Tp3) :=
  fun rec x => slices_partialInsertionSortCmpFunc_L20_B b c j r3 i_2 (fun j_2 data_4 => rec (j_2, data_4)) x.1 x.2
noncomputable def slices_partialInsertionSortCmpFunc_L20 (b : Int) (c : Tp3) (j : Int) (r3 : (Int → Int → Tp3 → Option (Bool × Tp3))) (i_2 : Int) (j_2 : Int) (data_4 : Tp3) : Option (Bool × Tp3) := LFix (slices_partialInsertionSortCmpFunc_L20_F b c j r3 i_2 ) (j_2, data_4)
noncomputable def slices_partialInsertionSortCmpFunc_J15 (b : Int) (c : Tp3) (j : Int) (r3 : (Int → Int → Tp3 → Option (Bool × Tp3))) (i_2 : Int) (data_3 : Tp3) : Option (Bool × Tp3) :=
  G (fits (b - i_2)) (
  if (decide ((2 : Int) ≤ (b - i_2))) = true then
  G (fits (i_2 + (1 : Int))) (
  slices_partialInsertionSortCmpFunc_L20 b c j r3 i_2 (i_2 + (1 : Int)) data_3) else
  G (fits (j + (1 : Int))) (
  r3 i_2 (j + (1 : Int)) data_3))
noncomputable def slices_partialInsertionSortCmpFunc_L14_B (b : Int) (c : Tp3) (j : Int) (r3 : (Int → Int → Tp3 → Option (Bool × Tp3))) (i_2 : Int) (r14 : Int → Tp3 → Option (Bool × Tp3)) (j_1 : Int) (data_2 : Tp3) : Option (Bool × Tp3) :=
  if (decide ((1 : Int) ≤ j_1)) = true then
  G (0 ≤ j_1 ∧ j_1 < (data_2.length : Int)) (
  G ((j_1).toNat < data_2.length) (
  G (fits (j_1 - (1 : Int))) (
  G (0 ≤ j_1 - (1 : Int) ∧ j_1 - (1 : Int) < (data_2.length : Int)) (
  G ((j_1 - (1 : Int)).toNat < data_2.length) (
  (lyndon_Ends_1 (ix data_2 j_1) (ix data_2 (j_1 - (1 : Int))) c).bind (fun y'_1 =>
  if (!(decide (y'_1 < (0 : Int)))) = true then
  slices_partialInsertionSortCmpFunc_J15 b c j r3 i_2 data_2 else
  G (fits (j_1 - (1 : Int))) (
  G (fits (j_1 - (1 : Int))) (
  G (0 ≤ j_1 - (1 : Int) ∧ j_1 - (1 : Int) < (data_2.length : Int)) (
  G ((j_1 - (1 : Int)).toNat < data_2.length) (
  G (0 ≤ j_1 ∧ j_1 < (data_2.length : Int)) (
  G ((j_1).toNat < data_2.length) (
  G (0 ≤ j_1 ∧ j_1 < (data_2.length : Int)) (
  G ((j_1).toNat < data_2.length) (
  G (0 ≤ j_1 - (1 : Int) ∧ j_1 - (1 : Int) < ((data_2.set (j_1).toNat (ix data_2 (j_1 - (1 : Int)))).length : Int)) (
  G ((j_1 - (1 : Int)).toNat < (data_2.set (j_1).toNat (ix data_2 (j_1 - (1 : Int)))).length) (
  G (fits (j_1 - (1 : Int))) (
  r14 (j_1 - (1 : Int)) ((data_2.set (j_1).toNat (ix data_2 (j_1 - (1 : Int)))).set (j_1 - (1 : Int)).toNat (ix data_2 j_1))))))))))))))))))) else
  slices_partialInsertionSortCmpFunc_J15 b c j r3 i_2 data_2
noncomputable def slices_partialInsertionSortCmpFunc_L14_F (b : Int) (c : Tp3) (j : Int) (r3 : (Int → Int → Tp3 → Option (Bool × Tp3))) (i_2 : Int) : (Int × Tp3 → Option (Bool × Tp3)) → Int × Tp3 → Option (Bool × Tp3) :=
  fun rec x => slices_partialInsertionSortCmpFunc_L14_B b c j r3 i_2 (fun j_1 data_2 => rec (j_1, data_2)) x.1 x.2
noncomputable def slices_partialInsertionSortCmpFunc_L14 (b : Int) (c : Tp3) (j : Int) (r3 : (Int → Int → Tp3 → Option (Bool × Tp3))) (i_2 : Int) (j_1 : Int) (data_2 : Tp3) : Option (Bool × Tp3) := LFix (slices_partialInsertionSortCmpFunc_L14_F b c j r3 i_2 ) (j_1, data_2)
noncomputable def slices_partialInsertionSortCmpFunc_J6 (a : Int) (b : Int) (c : Tp3) (j : Int) (data_1 : Tp3) (r3 : (Int → Int → Tp3 → Option (Bool × Tp3))) (i_2 : Int) : Option (Bool × Tp3) :=
  if (decide (i_2 = b)) = true then
  some (true, data_1) else
  G (fits (b - a)) (
  if (decide ((b - a) < (50 : Int))) = true then
  some (false, data_1) else
  G (fits (i_2 - (1 : Int))) (
  G (fits (i_2 - (1 : Int))) (
  G (0 ≤ i_2 - (1 : Int) ∧ i_2 - (1 : Int) < (data_1.length : Int)) (
  G ((i_2 - (1 : Int)).toNat < data_1.length) (
  G (0 ≤ i_2 ∧ i_2 < (data_1.length : Int)) (
  G ((i_2).toNat < data_1.length) (
  G (0 ≤ i_2 ∧ i_2 < (data_1.length : Int)) (
  G ((i_2).toNat < data_1.length) (
  G (0 ≤ i_2 - (1 : Int) ∧ i_2 - (1 : Int) < ((data_1.set (i_2).toNat (ix data_1 (i_2 - (1 : Int)))).length : Int)) (
  G ((i_2 - (1 : Int)).toNat < (data_1.set (i_2).toNat (ix data_1 (i_2 - (1 : Int)))).length) (
  G (fits (i_2 - a)) (
  if (decide ((2 : Int) ≤ (i_2 - a))) = true then
  G (fits (i_2 - (1 : Int))) (
  slices_partialInsertionSortCmpFunc_L14 b c j r3 i_2 (i_2 - (1 : Int)) ((data_1.set (i_2).toNat (ix data_1 (i_2 - (1 : Int)))).set (i_2 - (1 : Int)).toNat (ix data_1 i_2))) else
  slices_partialInsertionSortCmpFunc_J15 b c j r3 i_2 ((data_1.set (i_2).toNat (ix data_1 (i_2 - (1 : Int)))).set (i_2 - (1 : Int)).toNat (ix data_1 i_2))))))))))))))
noncomputable def slices_partialInsertionSortCmpFunc_L5_B (a : Int) (b : Int) (c : Tp3) (j : Int) (data_1 : Tp3) (r3 : (Int → Int → Tp3 → Option (Bool × Tp3))) (r5 : Int → Option (Bool × Tp3)) (i_1 : Int) : Option (Bool × Tp3) :=
  if (decide (i_1 < b)) = true then
  G (0 ≤ i_1 ∧ i_1 < (data_1.length : Int)) (
  G ((i_1).toNat < data_1.length) (
  G (fits (i_1 - (1 : Int))) (
  G (0 ≤ i_1 - (1 : Int) ∧ i_1 - (1 : Int) < (data_1.length : Int)) (
  G ((i_1 - (1 : Int)).toNat < data_1.length) (
  (lyndon_Ends_1 (ix data_1 i_1) (ix data_1 (i_1 - (1 : Int))) c).bind (fun y' =>
  if (!(decide (y' < (0 : Int)))) = true then
  G (fits (i_1 + (1 : Int))) (
  r5 (i_1 + (1 : Int))) else
  slices_partialInsertionSortCmpFunc_J6 a b c j data_1 r3 i_1)))))) else
  slices_partialInsertionSortCmpFunc_J6 a b c j data_1 r3 i_1
noncomputable def slices_partialInsertionSortCmpFunc_L5_F (a : Int) (b : Int) (c : Tp3) (j : Int) (data_1 : Tp3) (r3 : (Int → Int → Tp3 → Option (Bool × Tp3))) : (Int → Option (Bool × Tp3)) → Int → Option (Bool × Tp3) :=
  fun rec x => slices_partialInsertionSortCmpFunc_L5_B a b c j data_1 r3 (fun i_1 => rec i_1) x
noncomputable def slices_partialInsertionSortCmpFunc_L5 (a : Int) (b : Int) (c : Tp3) (j : Int) (data_1 : Tp3) (r3 : (Int → Int → Tp3 → Option (Bool × Tp3))) (i_1 : Int) : Option (Bool × Tp3) := LFix (slices_partialInsertionSortCmpFunc_L5_F a b c j data_1 r3 ) i_1
noncomputable def slices_partialInsertionSortCmpFunc_L3_B (a : Int) (b : Int) (c : Tp3) (r3 : Int → Int → Tp3 → Option (Bool × Tp3)) (i : Int) (j : Int) (data_1 : Tp3) : Option (Bool × Tp3) :=
  if (decide (j < (5 : Int))) = true then
  slices_partialInsertionSortCmpFunc_L5 a b c j data_1 r3 i else
  some (false, data_1)
noncomputable def slices_partialInsertionSortCmpFunc_L3_F (a : Int) (b : Int) (c : Tp3) : (Int × Int × Tp3 → Option (Bool × Tp3)) → Int × Int × Tp3 → Option (Bool × Tp3) :=
  fun rec x => slices_partialInsertionSortCmpFunc_L3_B a b c (fun i j data_1 => rec (i, j, data_1)) x.1 x.2.1 x.2.2
noncomputable def slices_partialInsertionSortCmpFunc_L3 (a : Int) (b : Int) (c : Tp3) (i : Int) (j : Int) (data_1 : Tp3) : Option (Bool × Tp3) := LFix (slices_partialInsertionSortCmpFunc_L3_F a b c ) (i, j, data_1)
noncomputable def slices_partialInsertionSortCmpFunc (a : Int) (b : Int) (c : Tp3) (data : Tp3) : Option (Bool × Tp3) :=
  G (fits (a + (1 : Int))) (
  slices_partialInsertionSortCmpFunc_L3 a b c (a + (1 : Int)) (0 : Int) data)
theorem slices_partialInsertionSortCmpFunc_L20_B_ch (r3 : Nat → Int → Int → Tp3 → Option (Bool × Tp3)) (r3' : Int → Int → Tp3 → Option (Bool × Tp3)) (h_r3 : ∀ a0 a1 a2, ChO (fun κ => r3 κ a0 a1 a2) (r3' a0 a1 a2)) (r20 : Nat → Int → Tp3 → Option (Bool × Tp3)) (r20' : Int → Tp3 → Option (Bool × Tp3)) (h_r20 : ∀ a0 a1, ChO (fun κ => r20 κ a0 a1) (r20' a0 a1)) (b : Int) (c : Tp3) (j : Int) (i_2 : Int) (j_2 : Int) (data_4 : Tp3) : ChO (fun κ => slices_partialInsertionSortCmpFunc_L20_B b c j (r3 κ) i_2 (r20 κ) j_2 data_4) (slices_partialInsertionSortCmpFunc_L20_B b c j r3' i_2 r20' j_2 data_4) := by
  unfold slices_partialInsertionSortCmpFunc_L20_B
  repeat' with_reducible first | exact ChO.const _ | exact h_r3 _ _ _ | exact h_r20 _ _ | apply ChO.ite | apply ChO.G | apply ChO.both | (apply ChO.bind; intro _)
theorem slices_partialInsertionSortCmpFunc_L20_cn (r3 : Int → Int → Tp3 → Option (Bool × Tp3)) (b : Int) (c : Tp3) (j : Int) (i_2 : Int) : Cn (slices_partialInsertionSortCmpFunc_L20_F b c j r3 i_2) := fun g h hg x => slices_partialInsertionSortCmpFunc_L20_B_ch (fun _ => r3) r3 (fun _ _ _ => ChO.const _) (fun κ j_2 data_4 => g κ (j_2, data_4)) (fun j_2 data_4 => h (j_2, data_4)) (fun j_2 data_4 => hg (j_2, data_4)) b c j i_2 x.1 x.2
theorem slices_partialInsertionSortCmpFunc_L20_eq (r3 : Int → Int → Tp3 → Option (Bool × Tp3)) (b : Int) (c : Tp3) (j : Int) (i_2 : Int) (j_2 : Int) (data_4 : Tp3) : slices_partialInsertionSortCmpFunc_L20 b c j r3 i_2 j_2 data_4 = slices_partialInsertionSortCmpFunc_L20_B b c j r3 i_2 (slices_partialInsertionSortCmpFunc_L20 b c j r3 i_2) j_2 data_4 := LFix_eq (slices_partialInsertionSortCmpFunc_L20_cn r3 b c j i_2) (j_2, data_4)
theorem slices_partialInsertionSortCmpFunc_L20_ch (r3 : Nat → Int → Int → Tp3 → Option (Bool × Tp3)) (r3' : Int → Int → Tp3 → Option (Bool × Tp3)) (h_r3 : ∀ a0 a1 a2, ChO (fun κ => r3 κ a0 a1 a2) (r3' a0 a1 a2)) (b : Int) (c : Tp3) (j : Int) (i_2 : Int) (j_2 : Int) (data_4 : Tp3) : ChO (fun κ => slices_partialInsertionSortCmpFunc_L20 b c j (r3 κ) i_2 j_2 data_4) (slices_partialInsertionSortCmpFunc_L20 b c j r3' i_2 j_2 data_4) := by
  unfold slices_partialInsertionSortCmpFunc_L20
  exact LFix_ch (fun κ => (slices_partialInsertionSortCmpFunc_L20_cn (r3 κ) b c j i_2).mono) (slices_partialInsertionSortCmpFunc_L20_cn r3' b c j i_2).mono (fun g h hg x => slices_partialInsertionSortCmpFunc_L20_B_ch r3 r3' h_r3 (fun κ j_2 data_4 => g κ (j_2, data_4)) (fun j_2 data_4 => h (j_2, data_4)) (fun j_2 data_4 => hg (j_2, data_4)) b c j i_2 x.1 x.2) _
theorem slices_partialInsertionSortCmpFunc_J15_ch (r3 : Nat → Int → Int → Tp3 → Option (Bool × Tp3)) (r3' : Int → Int → Tp3 → Option (Bool × Tp3)) (h_r3 : ∀ a0 a1 a2, ChO (fun κ => r3 κ a0 a1 a2) (r3' a0 a1 a2)) (b : Int) (c : Tp3) (j : Int) (i_2 : Int) (data_3 : Tp3) : ChO (fun κ => slices_partialInsertionSortCmpFunc_J15 b c j (r3 κ) i_2 data_3) (slices_partialInsertionSortCmpFunc_J15 b c j r3' i_2 data_3) := by
  unfold slices_partialInsertionSortCmpFunc_J15
  repeat' with_reducible first | exact ChO.const _ | exact h_r3 _ _ _ | (apply slices_partialInsertionSortCmpFunc_L20_ch <;> assumption) | apply ChO.ite | apply ChO.G | apply ChO.both | (apply ChO.bind; intro _)
theorem slices_partialInsertionSortCmpFunc_L14_B_ch (r3 : Nat → Int → Int → Tp3 → Option (Bool × Tp3)) (r3' : Int → Int → Tp3 → Option (Bool × Tp3)) (h_r3 : ∀ a0 a1 a2, ChO (fun κ => r3 κ a0 a1 a2) (r3' a0 a1 a2)) (r14 : Nat → Int → Tp3 → Option (Bool × Tp3)) (r14' : Int → Tp3 → Option (Bool × Tp3)) (h_r14 : ∀ a0 a1, ChO (fun κ => r14 κ a0 a1) (r14' a0 a1)) (b : Int) (c : Tp3) (j : Int) (i_2 : Int) (j_1 : Int) (data_2 : Tp3) : ChO (fun κ => slices_partialInsertionSortCmpFunc_L14_B b c j (r3 κ) i_2 (r14 κ) j_1 data_2) (slices_partialInsertionSortCmpFunc_L14_B b c j r3' i_2 r14' j_1 data_2) := by
  unfold slices_partialInsertionSortCmpFunc_L14_B
  repeat' with_reducible first | exact ChO.const _ | exact h_r3 _ _ _ | exact h_r14 _ _ | (apply slices_partialInsertionSortCmpFunc_L20_ch <;> assumption) | (apply slices_partialInsertionSortCmpFunc_J15_ch <;> assumption) | apply ChO.ite | apply ChO.G | apply ChO.both | (apply ChO.bind; intro _)
theorem slices_partialInsertionSortCmpFunc_L14_cn (r3 : Int → Int → Tp3 → Option (Bool × Tp3)) (b : Int) (c : Tp3) (j : Int) (i_2 : Int) : Cn (slices_partialInsertionSortCmpFunc_L14_F b c j r3 i_2) := fun g h hg x => slices_partialInsertionSortCmpFunc_L14_B_ch (fun _ => r3) r3 (fun _ _ _ => ChO.const _) (fun κ j_1 data_2 => g κ (j_1, data_2)) (fun j_1 data_2 => h (j_1, data_2)) (fun j_1 data_2 => hg (j_1, data_2)) b c j i_2 x.1 x.2
theorem slices_partialInsertionSortCmpFunc_L14_eq (r3 : Int → Int → Tp3 → Option (Bool × Tp3)) (b : Int) (c : Tp3) (j : Int) (i_2 : Int) (j_1 : Int) (data_2 : Tp3) : slices_partialInsertionSortCmpFunc_L14 b c j r3 i_2 j_1 data_2 = slices_partialInsertionSortCmpFunc_L14_B b c j r3 i_2 (slices_partialInsertionSortCmpFunc_L14 b c j r3 i_2) j_1 data_2 := LFix_eq (slices_partialInsertionSortCmpFunc_L14_cn r3 b c j i_2) (j_1, data_2)
theorem slices_partialInsertionSortCmpFunc_L14_ch (r3 : Nat → Int → Int → Tp3 → Option (Bool × Tp3)) (r3' : Int → Int → Tp3 → Option (Bool × Tp3)) (h_r3 : ∀ a0 a1 a2, ChO (fun κ => r3 κ a0 a1 a2) (r3' a0 a1 a2)) (b : Int) (c : Tp3) (j : Int) (i_2 : Int) (j_1 : Int) (data_2 : Tp3) : ChO (fun κ => slices_partialInsertionSortCmpFunc_L14 b c j (r3 κ) i_2 j_1 data_2) (slices_partialInsertionSortCmpFunc_L14 b c j r3' i_2 j_1 data_2) := by
  unfold slices_partialInsertionSortCmpFunc_L14
  exact LFix_ch (fun κ => (slices_partialInsertionSortCmpFunc_L14_cn (r3 κ) b c j i_2).mono) (slices_partialInsertionSortCmpFunc_L14_cn r3' b c j i_2).mono (fun g h hg x => slices_partialInsertionSortCmpFunc_L14_B_ch r3 r3' h_r3 (fun κ j_1 data_2 => g κ (j_1, data_2)) (fun j_1 data_2 => h (j_1, data_2)) (fun j_1 data_2 => hg (j_1, data_2)) b c j i_2 x.1 x.2) _
theorem slices_partialInsertionSortCmpFunc_J6_ch (r3 : Nat → Int → Int → Tp3 → Option (Bool × Tp3)) (r3' : Int → Int → Tp3 → Option (Bool × Tp3)) (h_r3 : ∀ a0 a1 a2, ChO (fun κ => r3 κ a0 a1 a2) (r3' a0 a1 a2)) (a : Int) (b : Int) (c : Tp3) (j : Int) (data_1 : Tp3) (i_2 : Int) : ChO (fun κ => slices_partialInsertionSortCmpFunc_J6 a b c j data_1 (r3 κ) i_2) (slices_partialInsertionSortCmpFunc_J6 a b c j data_1 r3' i_2) := by
  unfold slices_partialInsertionSortCmpFunc_J6
  repeat' with_reducible first | exact ChO.const _ | exact h_r3 _ _ _ | (apply slices_partialInsertionSortCmpFunc_L20_ch <;> assumption) | (apply slices_partialInsertionSortCmpFunc_J15_ch <;> assumption) | (apply slices_partialInsertionSortCmpFunc_L14_ch <;> assumption) | apply ChO.ite | apply ChO.G | apply ChO.both | (apply ChO.bind; intro _)
theorem slices_partialInsertionSortCmpFunc_L5_B_ch (r3 : Nat → Int → Int → Tp3 → Option (Bool × Tp3)) (r3' : Int → Int → Tp3 → Option (Bool × Tp3)) (h_r3 : ∀ a0 a1 a2, ChO (fun κ => r3 κ a0 a1 a2) (r3' a0 a1 a2)) (r5 : Nat → Int → Option (Bool × Tp3)) (r5' : Int → Option (Bool × Tp3)) (h_r5 : ∀ a0, ChO (fun κ => r5 κ a0) (r5' a0)) (a : Int) (b : Int) (c : Tp3) (j : Int) (data_1 : Tp3) (i_1 : Int) : ChO (fun κ => slices_partialInsertionSortCmpFunc_L5_B a b c j data_1 (r3 κ) (r5 κ) i_1) (slices_partialInsertionSortCmpFunc_L5_B a b c j data_1 r3' r5' i_1) := by
  unfold slices_partialInsertionSortCmpFunc_L5_B
  repeat' with_reducible first | exact ChO.const _ | exact h_r3 _ _ _ | exact h_r5 _ | (apply slices_partialInsertionSortCmpFunc_L20_ch <;> assumption) | (apply slices_partialInsertionSortCmpFunc_J15_ch <;> assumption) | (apply slices_partialInsertionSortCmpFunc_L14_ch <;> assumption) | (apply slices_partialInsertionSortCmpFunc_J6_ch <;> assumption) | apply ChO.ite | apply ChO.G | apply ChO.both | (apply ChO.bind; intro _)
theorem slices_partialInsertionSortCmpFunc_L5_cn (r3 : Int → Int → Tp3 → Option (Bool × Tp3)) (a : Int) (b : Int) (c : Tp3) (j : Int) (data_1 : Tp3) : Cn (slices_partialInsertionSortCmpFunc_L5_F a b c j data_1 r3) := fun g h hg x => slices_partialInsertionSortCmpFunc_L5_B_ch (fun _ => r3) r3 (fun _ _ _ => ChO.const _) (fun κ i_1 => g κ i_1) (fun i_1 => h i_1) (fun i_1 => hg i_1) a b c j data_1 x
theorem slices_partialInsertionSortCmpFunc_L5_eq (r3 : Int → Int → Tp3 → Option (Bool × Tp3)) (a : Int) (b : Int) (c : Tp3) (j : Int) (data_1 : Tp3) (i_1 : Int) : slices_partialInsertionSortCmpFunc_L5 a b c j data_1 r3 i_1 = slices_partialInsertionSortCmpFunc_L5_B a b c j data_1 r3 (slices_partialInsertionSortCmpFunc_L5 a b c j data_1 r3) i_1 := LFix_eq (slices_partialInsertionSortCmpFunc_L5_cn r3 a b c j data_1) i_1
theorem slices_partialInsertionSortCmpFunc_L5_ch (r3 : Nat → Int → Int → Tp3 → Option (Bool × Tp3)) (r3' : Int → Int → Tp3 → Option (Bool × Tp3)) (h_r3 : ∀ a0 a1 a2, ChO (fun κ => r3 κ a0 a1 a2) (r3' a0 a1 a2)) (a : Int) (b : Int) (c : Tp3) (j : Int) (data_1 : Tp3) (i_1 : Int) : ChO (fun κ => slices_partialInsertionSortCmpFunc_L5 a b c j data_1 (r3 κ) i_1) (slices_partialInsertionSortCmpFunc_L5 a b c j data_1 r3' i_1) := by
  unfold slices_partialInsertionSortCmpFunc_L5
  exact LFix_ch (fun κ => (slices_partialInsertionSortCmpFunc_L5_cn (r3 κ) a b c j data_1).mono) (slices_partialInsertionSortCmpFunc_L5_cn r3' a b c j data_1).mono (fun g h hg x => slices_partialInsertionSortCmpFunc_L5_B_ch r3 r3' h_r3 (fun κ i_1 => g κ i_1) (fun i_1 => h i_1) (fun i_1 => hg i_1) a b c j data_1 x) _
theorem slices_partialInsertionSortCmpFunc_L3_B_ch (r3 : Nat → Int → Int → Tp3 → Option (Bool × Tp3)) (r3' : Int → Int → Tp3 → Option (Bool × Tp3)) (h_r3 : ∀ a0 a1 a2, ChO (fun κ => r3 κ a0 a1 a2) (r3' a0 a1 a2)) (a : Int) (b : Int) (c : Tp3) (i : Int) (j : Int) (data_1 : Tp3) : ChO (fun κ => slices_partialInsertionSortCmpFunc_L3_B a b c (r3 κ) i j data_1) (slices_partialInsertionSortCmpFunc_L3_B a b c r3' i j data_1) := by
  unfold slices_partialInsertionSortCmpFunc_L3_B
  repeat' with_reducible first | exact ChO.const _ | exact h_r3 _ _ _ | (apply slices_partialInsertionSortCmpFunc_L20_ch <;> assumption) | (apply slices_partialInsertionSortCmpFunc_J15_ch <;> assumption) | (apply slices_partialInsertionSortCmpFunc_L14_ch <;> assumption) | (apply slices_partialInsertionSortCmpFunc_J6_ch <;> assumption) | (apply slices_partialInsertionSortCmpFunc_L5_ch <;> assumption) | apply ChO.ite | apply ChO.G | apply ChO.both | (apply ChO.bind; intro _)
theorem slices_partialInsertionSortCmpFunc_L3_cn  (a : Int) (b : Int) (c : Tp3) : Cn (slices_partialInsertionSortCmpFunc_L3_F a b c) := fun g h hg x => slices_partialInsertionSortCmpFunc_L3_B_ch  (fun κ i j data_1 => g κ (i, j, data_1)) (fun i j data_1 => h (i, j, data_1)) (fun i j data_1 => hg (i, j, data_1)) a b c x.1 x.2.1 x.2.2
theorem slices_partialInsertionSortCmpFunc_L3_eq  (a : Int) (b : Int) (c : Tp3) (i : Int) (j : Int) (data_1 : Tp3) : slices_partialInsertionSortCmpFunc_L3 a b c i j data_1 = slices_partialInsertionSortCmpFunc_L3_B a b c (slices_partialInsertionSortCmpFunc_L3 a b c) i j data_1 := LFix_eq (slices_partialInsertionSortCmpFunc_L3_cn a b c) (i, j, data_1)

noncomputable def slices_partitionEqualCmpFunc_J6 (data_1 : Tp3) (r3o : (Int → Int → Tp3 → Option (Int × Tp3))) (i_2 : Int) (j_2 : Int) : Option (Int × Tp3) :=
  if (decide (j_2 < i_2)) = true then
  some (i_2, data_1) else
  G (0 ≤ j_2 ∧ j_2 < (data_1.length : Int)) (
  G ((j_2).toNat < data_1.length) (
  G (0 ≤ i_2 ∧ i_2 < (data_1.length : Int)) (
  G ((i_2).toNat < data_1.length) (
  G (0 ≤ i_2 ∧ i_2 < (data_1.length : Int)) (
  G ((i_2).toNat < data_1.length) (
  G (0 ≤ j_2 ∧ j_2 < ((data_1.set (i_2).toNat (ix data_1 j_2)).length : Int)) (
  G ((j_2).toNat < (data_1.set (i_2).toNat (ix data_1 j_2)).length) (
  G (fits (i_2 + (1 : Int))) (
  G (fits (j_2 - (1 : Int))) (
  r3o (i_2 + (1 : Int)) (j_2 - (1 : Int)) ((data_1.set (i_2).toNat (ix data_1 j_2)).set (j_2).toNat (ix data_1 i_2))))))))))))
noncomputable def slices_partitionEqualCmpFunc_L5_B (a : Int) (c : Tp3) (data_1 : Tp3) (r3o : (Int → Int → Tp3 → Option (Int × Tp3))) (i_2 : Int) (r5 : Int → Option (Int × Tp3)) (j_1 : Int) : Option (Int × Tp3) :=
  if (decide (i_2 ≤ j_1)) = true then
  G (0 ≤ a ∧ a < (data_1.length : Int)) (
  G ((a).toNat < data_1.length) (
  G (0 ≤ j_1 ∧ j_1 < (data_1.length : Int)) (
  G ((j_1).toNat < data_1.length) (
  (lyndon_Ends_1 (ix data_1 a) (ix data_1 j_1) c).bind (fun y'_1 =>
  if (decide (y'_1 < (0 : Int))) = true then
  G (fits (j_1 - (1 : Int))) (
  r5 (j_1 - (1 : Int))) else
  slices_partitionEqualCmpFunc_J6 data_1 r3o i_2 j_1))))) else
  slices_partitionEqualCmpFunc_J6 data_1 r3o i_2 j_1
noncomputable def slices_partitionEqualCmpFunc_L5_F (a : Int) (c : Tp3) (data_1 : Tp3) (r3o : (Int → Int → Tp3 → Option (Int × Tp3))) (i_2 : Int) : (Int → Option (Int × Tp3)) → Int → Option (Int × Tp3) :=
  fun rec x => slices_partitionEqualCmpFunc_L5_B a c data_1 r3o i_2 (fun j_1 => rec j_1) x
noncomputable def slices_partitionEqualCmpFunc_L5 (a : Int) (c : Tp3) (data_1 : Tp3) (r3o : (Int → Int → Tp3 → Option (Int × Tp3))) (i_2 : Int) (j_1 : Int) : Option (Int × Tp3) := LFix (slices_partitionEqualCmpFunc_L5_F a c data_1 r3o i_2 ) j_1
noncomputable def slices_partitionEqualCmpFunc_J4 (a : Int) (c : Tp3) (j : Int) (data_1 : Tp3) (r3o : (Int → Int → Tp3 → Option (Int × Tp3))) (i_2 : Int) : Option (Int × Tp3) :=
  slices_partitionEqualCmpFunc_L5 a c data_1 r3o i_2 j
noncomputable def slices_partitionEqualCmpFunc_L3_B (a : Int) (c : Tp3) (j : Int) (data_1 : Tp3) (r3o : (Int → Int → Tp3 → Option (Int × Tp3))) (r3 : Int → Option (Int × Tp3)) (i_1 : Int) : Option (Int × Tp3) :=
  if (decide (i_1 ≤ j)) = true then
  G (0 ≤ a ∧ a < (data_1.length : Int)) (
  G ((a).toNat < data_1.length) (
  G (0 ≤ i_1 ∧ i_1 < (data_1.length : Int)) (
  G ((i_1).toNat < data_1.length) (
  (lyndon_Ends_1 (ix data_1 a) (ix data_1 i_1) c).bind (fun y' =>
  if (!(decide (y' < (0 : Int)))) = true then
  G (fits (i_1 + (1 : Int))) (
  r3 (i_1 + (1 : Int))) else
  slices_partitionEqualCmpFunc_J4 a c j data_1 r3o i_1))))) else
  slices_partitionEqualCmpFunc_J4 a c j data_1 r3o i_1
noncomputable def slices_partitionEqualCmpFunc_L3_F (a : Int) (c : Tp3) (j : Int) (data_1 : Tp3) (r3o : (Int → Int → Tp3 → Option (Int × Tp3))) : (Int → Option (Int × Tp3)) → Int → Option (Int × Tp3) :=
  fun rec x => slices_partitionEqualCmpFunc_L3_B a c j data_1 r3o (fun i_1 => rec i_1) x
noncomputable def slices_partitionEqualCmpFunc_L3 (a : Int) (c : Tp3) (j : Int) (data_1 : Tp3) (r3o : (Int → Int → Tp3 → Option (Int × Tp3))) (i_1 : Int) : Option (Int × Tp3) := LFix (slices_partitionEqualCmpFunc_L3_F a c j data_1 r3o ) i_1
noncomputable def slices_partitionEqualCmpFunc_L3o_B (a : Int) (c : Tp3) (r3o : Int → Int → Tp3 → Option (Int × Tp3)) (i : Int) (j : Int) (data_1 : Tp3) : Option (Int × Tp3) :=
  slices_partitionEqualCmpFunc_L3 a c j data_1 r3o i
noncomputable def slices_partitionEqualCmpFunc_L3o_F (a : Int) (c : Tp3) : (Int × Int × Tp3 → Option (Int × Tp3)) → Int × Int × Tp3 → Option (Int × Tp3) :=
  fun rec x => slices_partitionEqualCmpFunc_L3o_B a c (fun i j data_1 => rec (i, j, data_1)) x.1 x.2.1 x.2.2
noncomputable def slices_partitionEqualCmpFunc_L3o (a : Int) (c : Tp3) (i : Int) (j : Int) (data_1 : Tp3) : Option (Int × Tp3) := LFix (slices_partitionEqualCmpFunc_L3o_F a c ) (i, j, data_1)
noncomputable def slices_partitionEqualCmpFunc (a : Int) (b : Int) (pivot : Int) (c : Tp3) (data : Tp3) : Option (Int × Tp3) :=
  G (0 ≤ pivot ∧ pivot < (data.length : Int)) (
  G ((pivot).toNat < data.length) (
  G (0 ≤ a ∧ a < (data.length : Int)) (
  G ((a).toNat < data.length) (
  G (0 ≤ a ∧ a < (data.length : Int)) (
  G ((a).toNat < data.length) (
  G (0 ≤ pivot ∧ pivot < ((data.set (a).toNat (ix data pivot)).length : Int)) (
  G ((pivot).toNat < (data.set (a).toNat (ix data pivot)).length) (
  G (fits (a + (1 : Int))) (
  G (fits (b - (1 : Int))) (
  slices_partitionEqualCmpFunc_L3o a c (a + (1 : Int)) (b - (1 : Int)) ((data.set (a).toNat (ix data pivot)).set (pivot).toNat (ix data a))))))))))))
theorem slices_partitionEqualCmpFunc_J6_ch (r3o : Nat → Int → Int → Tp3 → Option (Int × Tp3)) (r3o' : Int → Int → Tp3 → Option (Int × Tp3)) (h_r3o : ∀ a0 a1 a2, ChO (fun κ => r3o κ a0 a1 a2) (r3o' a0 a1 a2)) (data_1 : Tp3) (i_2 : Int) (j_2 : Int) : ChO (fun κ => slices_partitionEqualCmpFunc_J6 data_1 (r3o κ) i_2 j_2) (slices_partitionEqualCmpFunc_J6 data_1 r3o' i_2 j_2) := by
  unfold slices_partitionEqualCmpFunc_J6
  repeat' with_reducible first | exact ChO.const _ | exact h_r3o _ _ _ | apply ChO.ite | apply ChO.G | apply ChO.both | (apply ChO.bind; intro _)
theorem slices_partitionEqualCmpFunc_L5_B_ch (r3o : Nat → Int → Int → Tp3 → Option (Int × Tp3)) (r3o' : Int → Int → Tp3 → Option (Int × Tp3)) (h_r3o : ∀ a0 a1 a2, ChO (fun κ => r3o κ a0 a1 a2) (r3o' a0 a1 a2)) (r5 : Nat → Int → Option (Int × Tp3)) (r5' : Int → Option (Int × Tp3)) (h_r5 : ∀ a0, ChO (fun κ => r5 κ a0) (r5' a0)) (a : Int) (c : Tp3) (data_1 : Tp3) (i_2 : Int) (j_1 : Int) : ChO (fun κ => slices_partitionEqualCmpFunc_L5_B a c data_1 (r3o κ) i_2 (r5 κ) j_1) (slices_partitionEqualCmpFunc_L5_B a c data_1 r3o' i_2 r5' j_1) := by
  unfold slices_partitionEqualCmpFunc_L5_B
  repeat' with_reducible first | exact ChO.const _ | exact h_r3o _ _ _ | exact h_r5 _ | (apply slices_partitionEqualCmpFunc_J6_ch <;> assumption) | apply ChO.ite | apply ChO.G | apply ChO.both | (apply ChO.bind; intro _)
theorem slices_partitionEqualCmpFunc_L5_cn (r3o : Int → Int → Tp3 → Option (Int × Tp3)) (a : Int) (c : Tp3) (data_1 : Tp3) (i_2 : Int) : Cn (slices_partitionEqualCmpFunc_L5_F a c data_1 r3o i_2) := fun g h hg x => slices_partitionEqualCmpFunc_L5_B_ch (fun _ => r3o) r3o (fun _ _ _ => ChO.const _) (fun κ j_1 => g κ j_1) (fun j_1 => h j_1) (fun j_1 => hg j_1) a c data_1 i_2 x
theorem slices_partitionEqualCmpFunc_L5_eq (r3o : Int → Int → Tp3 → Option (Int × Tp3)) (a : Int) (c : Tp3) (data_1 : Tp3) (i_2 : Int) (j_1 : Int) : slices_partitionEqualCmpFunc_L5 a c data_1 r3o i_2 j_1 = slices_partitionEqualCmpFunc_L5_B a c data_1 r3o i_2 (slices_partitionEqualCmpFunc_L5 a c data_1 r3o i_2) j_1 := LFix_eq (slices_partitionEqualCmpFunc_L5_cn r3o a c data_1 i_2) j_1
theorem slices_partitionEqualCmpFunc_L5_ch (r3o : Nat → Int → Int → Tp3 → Option (Int × Tp3)) (r3o' : Int → Int → Tp3 → Option (Int × Tp3)) (h_r3o : ∀ a0 a1 a2, ChO (fun κ => r3o κ a0 a1 a2) (r3o' a0 a1 a2)) (a : Int) (c : Tp3) (data_1 : Tp3) (i_2 : Int) (j_1 : Int) : ChO (fun κ => slices_partitionEqualCmpFunc_L5 a c data_1 (r3o κ) i_2 j_1) (slices_partitionEqualCmpFunc_L5 a c data_1 r3o' i_2 j_1) := by
  unfold slices_partitionEqualCmpFunc_L5
  exact LFix_ch (fun κ => (slices_partitionEqualCmpFunc_L5_cn (r3o κ) a c data_1 i_2).mono) (slices_partitionEqualCmpFunc_L5_cn r3o' a c data_1 i_2).mono (fun g h hg x => slices_partitionEqualCmpFunc_L5_B_ch r3o r3o' h_r3o (fun κ j_1 => g κ j_1) (fun j_1 => h j_1) (fun j_1 => hg j_1) a c data_1 i_2 x) _
theorem slices_partitionEqualCmpFunc_J4_ch (r3o : Nat → Int → Int → Tp3 → Option (Int × Tp3)) (r3o' : Int → Int → Tp3 → Option (Int × Tp3)) (h_r3o : ∀ a0 a1 a2, ChO (fun κ => r3o κ a0 a1 a2) (r3o' a0 a1 a2)) (a : Int) (c : Tp3) (j : Int) (data_1 : Tp3) (i_2 : Int) : ChO (fun κ => slices_partitionEqualCmpFunc_J4 a c j data_1 (r3o κ) i_2) (slices_partitionEqualCmpFunc_J4 a c j data_1 r3o' i_2) := by
  unfold slices_partitionEqualCmpFunc_J4
  repeat' with_reducible first | exact ChO.const _ | exact h_r3o _ _ _ | (apply slices_partitionEqualCmpFunc_J6_ch <;> assumption) | (apply slices_partitionEqualCmpFunc_L5_ch <;> assumption) | apply ChO.ite | apply ChO.G | apply ChO.both | (apply ChO.bind; intro _)
theorem slices_partitionEqualCmpFunc_L3_B_ch (r3o : Nat → Int → Int → Tp3 → Option (Int × Tp3)) (r3o' : Int → Int → Tp3 → Option (Int × Tp3)) (h_r3o : ∀ a0 a1 a2, ChO (fun κ => r3o κ a0 a1 a2) (r3o' a0 a1 a2)) (r3 : Nat → Int → Option (Int × Tp3)) (r3' : Int → Option (Int × Tp3)) (h_r3 : ∀ a0, ChO (fun κ => r3 κ a0) (r3' a0)) (a : Int) (c : Tp3) (j : Int) (data_1 : Tp3) (i_1 : Int) : ChO (fun κ => slices_partitionEqualCmpFunc_L3_B a c j data_1 (r3o κ) (r3 κ) i_1) (slices_partitionEqualCmpFunc_L3_B a c j data_1 r3o' r3' i_1) := by
  unfold slices_partitionEqualCmpFunc_L3_B
  repeat' with_reducible first | exact ChO.const _ | exact h_r3o _ _ _ | exact h_r3 _ | (apply slices_partitionEqualCmpFunc_J6_ch <;> assumption) | (apply slices_partitionEqualCmpFunc_L5_ch <;> assumption) | (apply slices_partitionEqualCmpFunc_J4_ch <;> assumption) | apply ChO.ite | apply ChO.G | apply ChO.both | (apply ChO.bind; intro _)
theorem slices_partitionEqualCmpFunc_L3_cn (r3o : Int → Int → Tp3 → Option (Int × Tp3)) (a : Int) (c : Tp3) (j : Int) (data_1 : Tp3) : Cn (slices_partitionEqualCmpFunc_L3_F a c j data_1 r3o) := fun g h hg x => slices_partitionEqualCmpFunc_L3_B_ch (fun _ => r3o) r3o (fun _ _ _ => ChO.const _) (fun κ i_1 => g κ i_1) (fun i_1 => h i_1) (fun i_1 => hg i_1) a c j data_1 x
theorem slices_partitionEqualCmpFunc_L3_eq (r3o : Int → Int → Tp3 → Option (Int × Tp3)) (a : Int) (c : Tp3) (j : Int) (data_1 : Tp3) (i_1 : Int) : slices_partitionEqualCmpFunc_L3 a c j data_1 r3o i_1 = slices_partitionEqualCmpFunc_L3_B a c j data_1 r3o (slices_partitionEqualCmpFunc_L3 a c j data_1 r3o) i_1 := LFix_eq (slices_partitionEqualCmpFunc_L3_cn r3o a c j data_1) i_1
theorem slices_partitionEqualCmpFunc_L3_ch (r3o : Nat → Int → Int → Tp3 → Option (Int × Tp3)) (r3o' : Int → Int → Tp3 → Option (Int × Tp3)) (h_r3o : ∀ a0 a1 a2, ChO (fun κ => r3o κ a0 a1 a2) (r3o' a0 a1 a2)) (a : Int) (c : Tp3) (j : Int) (data_1 : Tp3) (i_1 : Int) : ChO (fun κ => slices_partitionEqualCmpFunc_L3 a c j data_1 (r3o κ) i_1) (slices_partitionEqualCmpFunc_L3 a c j data_1 r3o' i_1) := by
  unfold slices_partitionEqualCmpFunc_L3
  exact LFix_ch (fun κ => (slices_partitionEqualCmpFunc_L3_cn (r3o κ) a c j data_1).mono) (slices_partitionEqualCmpFunc_L3_cn r3o' a c j data_1).mono (fun g h hg x => slices_partitionEqualCmpFunc_L3_B_ch r3o r3o' h_r3o (fun κ i_1 => g κ i_1) (fun i_1 => h i_1) (fun i_1 => hg i_1) a c j data_1 x) _
theorem slices_partitionEqualCmpFunc_L3o_B_ch (r3o : Nat → Int → Int → Tp3 → Option (Int × Tp3)) (r3o' : Int → Int → Tp3 → Option (Int × Tp3)) (h_r3o : ∀ a0 a1 a2, ChO (fun κ => r3o κ a0 a1 a2) (r3o' a0 a1 a2)) (a : Int) (c : Tp3) (i : Int) (j : Int) (data_1 : Tp3) : ChO (fun κ => slices_partitionEqualCmpFunc_L3o_B a c (r3o κ) i j data_1) (slices_partitionEqualCmpFunc_L3o_B a c r3o' i j data_1) := by
  unfold slices_partitionEqualCmpFunc_L3o_B
  repeat' with_reducible first | exact ChO.const _ | exact h_r3o _ _ _ | (apply slices_partitionEqualCmpFunc_J6_ch <;> assumption) | (apply slices_partitionEqualCmpFunc_L5_ch <;> assumption) | (apply slices_partitionEqualCmpFunc_J4_ch <;> assumption) | (apply slices_partitionEqualCmpFunc_L3_ch <;> assumption) | apply ChO.ite | apply ChO.G | apply ChO.both | (apply ChO.bind; intro _)
theorem slices_partitionEqualCmpFunc_L3o_cn  (a : Int) (c : Tp3) : Cn (slices_partitionEqualCmpFunc_L3o_F a c) := fun g h hg x => slices_partitionEqualCmpFunc_L3o_B_ch  (fun κ i j data_1 => g κ (i, j, data_1)) (fun i j data_1 => h (i, j, data_1)) (fun i j data_1 => hg (i, j, data_1)) a c x.1 x.2.1 x.2.2
theorem slices_partitionEqualCmpFunc_L3o_eq  (a : Int) (c : Tp3) (i : Int) (j : Int) (data_1 : Tp3) : slices_partitionEqualCmpFunc_L3o a c i j data_1 = slices_partitionEqualCmpFunc_L3o_B a c (slices_partitionEqualCmpFunc_L3o a c) i j data_1 := LFix_eq (slices_partitionEqualCmpFunc_L3o_cn a c) (i, j, data_1)

noncomputable def slices_partitionCmpFunc_J16 (a : Int) (data_1 : Tp3) (r13o : (Int → Int → Tp3 → Option Tp1)) (i_4 : Int) (j_4 : Int) : Option Tp1 :=
  if (decide (j_4 < i_4)) = true then
  G (0 ≤ a ∧ a < (data_1.length : Int)) (
  G ((a).toNat < data_1.length) (
  G (0 ≤ j_4 ∧ j_4 < (data_1.length : Int)) (
  G ((j_4).toNat < data_1.length) (
  G (0 ≤ j_4 ∧ j_4 < (data_1.length : Int)) (
  G ((j_4).toNat < data_1.length) (
  G (0 ≤ a ∧ a < ((data_1.set (j_4).toNat (ix data_1 a)).length : Int)) (
  G ((a).toNat < (data_1.set (j_4).toNat (ix data_1 a)).length) (
  some (j_4, false, (data_1.set (j_4).toNat (ix data_1 a)).set (a).toNat (ix data_1 j_4)))))))))) else
  G (0 ≤ j_4 ∧ j_4 < (data_1.length : Int)) (
  G ((j_4).toNat < data_1.length) (
  G (0 ≤ i_4 ∧ i_4 < (data_1.length : Int)) (
  G ((i_4).toNat < data_1.length) (
  G (0 ≤ i_4 ∧ i_4 < (data_1.length : Int)) (
  G ((i_4).toNat < data_1.length) (
  G (0 ≤ j_4 ∧ j_4 < ((data_1.set (i_4).toNat (ix data_1 j_4)).length : Int)) (
  G ((j_4).toNat < (data_1.set (i_4).toNat (ix data_1 j_4)).length) (
  G (fits (i_4 + (1 : Int))) (
  G (fits (j_4 - (1 : Int))) (
  r13o (i_4 + (1 : Int)) (j_4 - (1 : Int)) ((data_1.set (i_4).toNat (ix data_1 j_4)).set (j_4).toNat (ix data_1 i_4))))))))))))
noncomputable def slices_partitionCmpFunc_L15_B (a : Int) (c : Tp3) (data_1 : Tp3) (r13o : (Int → Int → Tp3 → Option Tp1)) (i_4 : Int) (r15 : Int → Option Tp1) (j_3 : Int) : Option Tp1 :=
  if (decide (i_4 ≤ j_3)) = true then
  G (0 ≤ j_3 ∧ j_3 < (data_1.length : Int)) (
  G ((j_3).toNat < data_1.length) (
  G (0 ≤ a ∧ a < (data_1.length : Int)) (
  G ((a).toNat < data_1.length) (
  (lyndon_Ends_1 (ix data_1 j_3) (ix data_1 a) c).bind (fun y'_3 =>
  if (!(decide (y'_3 < (0 : Int)))) = true then
  G (fits (j_3 - (1 : Int))) (
  r15 (j_3 - (1 : Int))) else
  slices_partitionCmpFunc_J16 a data_1 r13o i_4 j_3))))) else
  slices_partitionCmpFunc_J16 a data_1 r13o i_4 j_3
noncomputable def slices_partitionCmpFunc_L15_F (a : Int) (c : Tp3) (data_1 : Tp3) (r13o : (Int → Int → Tp3 → Option Tp1)) (i_4 : Int) : (Int → Option Tp1) → Int → Option Tp1 :=
  fun rec x => slices_partitionCmpFunc_L15_B a c data_1 r13o i_4 (fun j_3 => rec j_3) x
noncomputable def slices_partitionCmpFunc_L15 (a : Int) (c : Tp3) (data_1 : Tp3) (r13o : (Int → Int → Tp3 → Option Tp1)) (i_4 : Int) (j_3 : Int) : Option Tp1 := LFix (slices_partitionCmpFunc_L15_F a c data_1 r13o i_4 ) j_3
noncomputable def slices_partitionCmpFunc_J14 (a : Int) (c : Tp3) (j_2 : Int) (data_1 : Tp3) (r13o : (Int → Int → Tp3 → Option Tp1)) (i_4 : Int) : Option Tp1 :=
  slices_partitionCmpFunc_L15 a c data_1 r13o i_4 j_2
noncomputable def slices_partitionCmpFunc_L13_B (a : Int) (c : Tp3) (j_2 : Int) (data_1 : Tp3) (r13o : (Int → Int → Tp3 → Option Tp1)) (r13 : Int → Option Tp1) (i_3 : Int) : Option Tp1 :=
  if (decide (i_3 ≤ j_2)) = true then
  G (0 ≤ i_3 ∧ i_3 < (data_1.length : Int)) (
  G ((i_3).toNat < data_1.length) (
  G (0 ≤ a ∧ a < (data_1.length : Int)) (
  G ((a).toNat < data_1.length) (
  (lyndon_Ends_1 (ix data_1 i_3) (ix data_1 a) c).bind (fun y'_2 =>
  if (decide (y'_2 < (0 : Int))) = true then
  G (fits (i_3 + (1 : Int))) (
  r13 (i_3 + (1 : Int))) else
  slices_partitionCmpFunc_J14 a c j_2 data_1 r13o i_3))))) else
  slices_partitionCmpFunc_J14 a c j_2 data_1 r13o i_3
noncomputable def slices_partitionCmpFunc_L13_F (a : Int) (c : Tp3) (j_2 : Int) (data_1 : Tp3) (r13o : (Int → Int → Tp3 → Option Tp1)) : (Int → Option Tp1) → Int → Option Tp1 :=
  fun rec x => slices_partitionCmpFunc_L13_B a c j_2 data_1 r13o (fun i_3 => rec i_3) x
noncomputable def slices_partitionCmpFunc_L13 (a : Int) (c : Tp3) (j_2 : Int) (data_1 : Tp3) (r13o : (Int → Int → Tp3 → Option Tp1)) (i_3 : Int) : Option Tp1 := LFix (slices_partitionCmpFunc_L13_F a c j_2 data_1 r13o ) i_3
noncomputable def slices_partitionCmpFunc_L13o_B (a : Int) (c : Tp3) (r13o : Int → Int → Tp3 → Option Tp1) (i_2 : Int) (j_2 : Int) (data_1 : Tp3) : Option Tp1 :=
  slices_partitionCmpFunc_L13 a c j_2 data_1 r13o i_2
noncomputable def slices_partitionCmpFunc_L13o_F (a : Int) (c : Tp3) : (Int × Int × Tp3 → Option Tp1) → Int × Int × Tp3 → Option Tp1 :=
  fun rec x => slices_partitionCmpFunc_L13o_B a c (fun i_2 j_2 data_1 => rec (i_2, j_2, data_1)) x.1 x.2.1 x.2.2
noncomputable def slices_partitionCmpFunc_L13o (a : Int) (c : Tp3) (i_2 : Int) (j_2 : Int) (data_1 : Tp3) : Option Tp1 := LFix (slices_partitionCmpFunc_L13o_F a c ) (i_2, j_2, data_1)
noncomputable def slices_partitionCmpFunc_J6 (a : Int) (pivot : Int) (c : Tp3) (data : Tp3) (i_1 : Int) (j_1 : Int) : Option Tp1 :=
  if (decide (j_1 < i_1)) = true then
  G (0 ≤ a ∧ a < (((data.set (a).toNat (ix data pivot)).set (pivot).toNat (ix data a)).length : Int)) (
  G ((a).toNat < ((data.set (a).toNat (ix data pivot)).set (pivot).toNat (ix data a)).length) (
  G (0 ≤ j_1 ∧ j_1 < (((data.set (a).toNat (ix data pivot)).set (pivot).toNat (ix data a)).length : Int)) (
  G ((j_1).toNat < ((data.set (a).toNat (ix data pivot)).set (pivot).toNat (ix data a)).length) (
  G (0 ≤ j_1 ∧ j_1 < (((data.set (a).toNat (ix data pivot)).set (pivot).toNat (ix data a)).length : Int)) (
  G ((j_1).toNat < ((data.set (a).toNat (ix data pivot)).set (pivot).toNat (ix data a)).length) (
  G (0 ≤ a ∧ a < ((((data.set (a).toNat (ix data pivot)).set (pivot).toNat (ix data a)).set (j_1).toNat (ix ((data.set (a).toNat (ix data pivot)).set (pivot).toNat (ix data a)) a)).length : Int)) (
  G ((a).toNat < (((data.set (a).toNat (ix data pivot)).set (pivot).toNat (ix data a)).set (j_1).toNat (ix ((data.set (a).toNat (ix data pivot)).set (pivot).toNat (ix data a)) a)).length) (
  some (j_1, true, (((data.set (a).toNat (ix data pivot)).set (pivot).toNat (ix data a)).set (j_1).toNat (ix ((data.set (a).toNat (ix data pivot)).set (pivot).toNat (ix data a)) a)).set (a).toNat (ix ((data.set (a).toNat (ix data pivot)).set (pivot).toNat (ix data a)) j_1)))))))))) else
  G (0 ≤ j_1 ∧ j_1 < (((data.set (a).toNat (ix data pivot)).set (pivot).toNat (ix data a)).length : Int)) (
  G ((j_1).toNat < ((data.set (a).toNat (ix data pivot)).set (pivot).toNat (ix data a)).length) (
  G (0 ≤ i_1 ∧ i_1 < (((data.set (a).toNat (ix data pivot)).set (pivot).toNat (ix data a)).length : Int)) (
  G ((i_1).toNat < ((data.set (a).toNat (ix data pivot)).set (pivot).toNat (ix data a)).length) (
  G (0 ≤ i_1 ∧ i_1 < (((data.set (a).toNat (ix data pivot)).set (pivot).toNat (ix data a)).length : Int)) (
  G ((i_1).toNat < ((data.set (a).toNat (ix data pivot)).set (pivot).toNat (ix data a)).length) (
  G (0 ≤ j_1 ∧ j_1 < ((((data.set (a).toNat (ix data pivot)).set (pivot).toNat (ix data a)).set (i_1).toNat (ix ((data.set (a).toNat (ix data pivot)).set (pivot).toNat (ix data a)) j_1)).length : Int)) (
  G ((j_1).toNat < (((data.set (a).toNat (ix data pivot)).set (pivot).toNat (ix data a)).set (i_1).toNat (ix ((data.set (a).toNat (ix data pivot)).set (pivot).toNat (ix data a)) j_1)).length) (
  G (fits (i_1 + (1 : Int))) (
  G (fits (j_1 - (1 : Int))) (
  slices_partitionCmpFunc_L13o a c (i_1 + (1 : Int)) (j_1 - (1 : Int)) ((((data.set (a).toNat (ix data pivot)).set (pivot).toNat (ix data a)).set (i_1).toNat (ix ((data.set (a).toNat (ix data pivot)).set (pivot).toNat (ix data a)) j_1)).set (j_1).toNat (ix ((data.set (a).toNat (ix data pivot)).set (pivot).toNat (ix data a)) i_1))))))))))))
noncomputable def slices_partitionCmpFunc_L5_B (a : Int) (pivot : Int) (c : Tp3) (data : Tp3) (i_1 : Int) (r5 : Int → Option Tp1) (j : Int) : Option Tp1 :=
  if (decide (i_1 ≤ j)) = true then
  G (0 ≤ j ∧ j < (((data.set (a).toNat (ix data pivot)).set (pivot).toNat (ix data a)).length : Int)) (
  G ((j).toNat < ((data.set (a).toNat (ix data pivot)).set (pivot).toNat (ix data a)).length) (
  G (0 ≤ a ∧ a < (((data.set (a).toNat (ix data pivot)).set (pivot).toNat (ix data a)).length : Int)) (
  G ((a).toNat < ((data.set (a).toNat (ix data pivot)).set (pivot).toNat (ix data a)).length) (
  (lyndon_Ends_1 (ix ((data.set (a).toNat (ix data pivot)).set (pivot).toNat (ix data a)) j) (ix ((data.set (a).toNat (ix data pivot)).set (pivot).toNat (ix data a)) a) c).bind (fun y'_1 =>
  if (!(decide (y'_1 < (0 : Int)))) = true then
  G (fits (j - (1 : Int))) (
  r5 (j - (1 : Int))) else
  slices_partitionCmpFunc_J6 a pivot c data i_1 j))))) else
  slices_partitionCmpFunc_J6 a pivot c data i_1 j
noncomputable def slices_partitionCmpFunc_L5_F (a : Int) (pivot : Int) (c : Tp3) (data : Tp3) (i_1 : Int) : (Int → Option Tp1) → Int → Option Tp1 :=
  fun rec x => slices_partitionCmpFunc_L5_B a pivot c data i_1 (fun j => rec j) x
noncomputable def slices_partitionCmpFunc_L5 (a : Int) (pivot : Int) (c : Tp3) (data : Tp3) (i_1 : Int) (j : Int) : Option Tp1 := LFix (slices_partitionCmpFunc_L5_F a pivot c data i_1 ) j
noncomputable def slices_partitionCmpFunc_J4 (a : Int) (b : Int) (pivot : Int) (c : Tp3) (data : Tp3) (i_1 : Int) : Option Tp1 :=
  slices_partitionCmpFunc_L5 a pivot c data i_1 (b - (1 : Int))
noncomputable def slices_partitionCmpFunc_L3_B (a : Int) (b : Int) (pivot : Int) (c : Tp3) (data : Tp3) (r3 : Int → Option Tp1) (i : Int) : Option Tp1 :=
  if (decide (i ≤ (b - (1 : Int)))) = true then
  G (0 ≤ i ∧ i < (((data.set (a).toNat (ix data pivot)).set (pivot).toNat (ix data a)).length : Int)) (
  G ((i).toNat < ((data.set (a).toNat (ix data pivot)).set (pivot).toNat (ix data a)).length) (
  G (0 ≤ a ∧ a < (((data.set (a).toNat (ix data pivot)).set (pivot).toNat (ix data a)).length : Int)) (
  G ((a).toNat < ((data.set (a).toNat (ix data pivot)).set (pivot).toNat (ix data a)).length) (
  (lyndon_Ends_1 (ix ((data.set (a).toNat (ix data pivot)).set (pivot).toNat (ix data a)) i) (ix ((data.set (a).toNat (ix data pivot)).set (pivot).toNat (ix data a)) a) c).bind (fun y' =>
  if (decide (y' < (0 : Int))) = true then
  G (fits (i + (1 : Int))) (
  r3 (i + (1 : Int))) else
  slices_partitionCmpFunc_J4 a b pivot c data i))))) else
  slices_partitionCmpFunc_J4 a b pivot c data i
noncomputable def slices_partitionCmpFunc_L3_F (a : Int) (b : Int) (pivot : Int) (c : Tp3) (data : Tp3) : (Int → Option Tp1) → Int → Option Tp1 :=
  fun rec x => slices_partitionCmpFunc_L3_B a b pivot c data (fun i => rec i) x
noncomputable def slices_partitionCmpFunc_L3 (a : Int) (b : Int) (pivot : Int) (c : Tp3) (data : Tp3) (i : Int) : Option Tp1 := LFix (slices_partitionCmpFunc_L3_F a b pivot c data ) i
noncomputable def slices_partitionCmpFunc (a : Int) (b : Int) (pivot : Int) (c : Tp3) (data : Tp3) : Option Tp1 :=
  G (0 ≤ pivot ∧ pivot < (data.length : Int)) (
  G ((pivot).toNat < data.length) (
  G (0 ≤ a ∧ a < (data.length : Int)) (
  G ((a).toNat < data.length) (
  G (0 ≤ a ∧ a < (data.length : Int)) (
  G ((a).toNat < data.length) (
  G (0 ≤ pivot ∧ pivot < ((data.set (a).toNat (ix data pivot)).length : Int)) (
  G ((pivot).toNat < (data.set (a).toNat (ix data pivot)).length) (
  G (fits (a + (1 : Int))) (
  G (fits (b - (1 : Int))) (
  slices_partitionCmpFunc_L3 a b pivot c data (a + (1 : Int))))))))))))
theorem slices_partitionCmpFunc_J16_ch (r13o : Nat → Int → Int → Tp3 → Option Tp1) (r13o' : Int → Int → Tp3 → Option Tp1) (h_r13o : ∀ a0 a1 a2, ChO (fun κ => r13o κ a0 a1 a2) (r13o' a0 a1 a2)) (a : Int) (data_1 : Tp3) (i_4 : Int) (j_4 : Int) : ChO (fun κ => slices_partitionCmpFunc_J16 a data_1 (r13o κ) i_4 j_4) (slices_partitionCmpFunc_J16 a data_1 r13o' i_4 j_4) := by
  unfold slices_partitionCmpFunc_J16
  repeat' with_reducible first | exact ChO.const _ | exact h_r13o _ _ _ | apply ChO.ite | apply ChO.G | apply ChO.both | (apply ChO.bind; intro _)
theorem slices_partitionCmpFunc_L15_B_ch (r13o : Nat → Int → Int → Tp3 → Option Tp1) (r13o' : Int → Int → Tp3 → Option Tp1) (h_r13o : ∀ a0 a1 a2, ChO (fun κ => r13o κ a0 a1 a2) (r13o' a0 a1 a2)) (r15 : Nat → Int → Option Tp1) (r15' : Int → Option Tp1) (h_r15 : ∀ a0, ChO (fun κ => r15 κ a0) (r15' a0)) (a : Int) (c : Tp3) (data_1 : Tp3) (i_4 : Int) (j_3 : Int) : ChO (fun κ => slices_partitionCmpFunc_L15_B a c data_1 (r13o κ) i_4 (r15 κ) j_3) (slices_partitionCmpFunc_L15_B a c data_1 r13o' i_4 r15' j_3) := by
  unfold slices_partitionCmpFunc_L15_B
  repeat' with_reducible first | exact ChO.const _ | exact h_r13o _ _ _ | exact h_r15 _ | (apply slices_partitionCmpFunc_J16_ch <;> assumption) | apply ChO.ite | apply ChO.G | apply ChO.both | (apply ChO.bind; intro _)
theorem slices_partitionCmpFunc_L15_cn (r13o : Int → Int → Tp3 → Option Tp1) (a : Int) (c : Tp3) (data_1 : Tp3) (i_4 : Int) : Cn (slices_partitionCmpFunc_L15_F a c data_1 r13o i_4) := fun g h hg x => slices_partitionCmpFunc_L15_B_ch (fun _ => r13o) r13o (fun _ _ _ => ChO.const _) (fun κ j_3 => g κ j_3) (fun j_3 => h j_3) (fun j_3 => hg j_3) a c data_1 i_4 x
theorem slices_partitionCmpFunc_L15_eq (r13o : Int → Int → Tp3 → Option Tp1) (a : Int) (c : Tp3) (data_1 : Tp3) (i_4 : Int) (j_3 : Int) : slices_partitionCmpFunc_L15 a c data_1 r13o i_4 j_3 = slices_partitionCmpFunc_L15_B a c data_1 r13o i_4 (slices_partitionCmpFunc_L15 a c data_1 r13o i_4) j_3 := LFix_eq (slices_partitionCmpFunc_L15_cn r13o a c data_1 i_4) j_3
theorem slices_partitionCmpFunc_L15_ch (r13o : Nat → Int → Int → Tp3 → Option Tp1) (r13o' : Int → Int → Tp3 → Option Tp1) (h_r13o : ∀ a0 a1 a2, ChO (fun κ => r13o κ a0 a1 a2) (r13o' a0 a1 a2)) (a : Int) (c : Tp3) (data_1 : Tp3) (i_4 : Int) (j_3 : Int) : ChO (fun κ => slices_partitionCmpFunc_L15 a c data_1 (r13o κ) i_4 j_3) (slices_partitionCmpFunc_L15 a c data_1 r13o' i_4 j_3) := by
  unfold slices_partitionCmpFunc_L15
  exact LFix_ch (fun κ => (slices_partitionCmpFunc_L15_cn (r13o κ) a c data_1 i_4).mono) (slices_partitionCmpFunc_L15_cn r13o' a c data_1 i_4).mono (fun g h hg x => slices_partitionCmpFunc_L15_B_ch r13o r13o' h_r13o (fun κ j_3 => g κ j_3) (fun j_3 => h j_3) (fun j_3 => hg j_3) a c data_1 i_4 x) _
theorem slices_partitionCmpFunc_J14_ch (r13o : Nat → Int → Int → Tp3 → Option Tp1) (r13o' : Int → Int → Tp3 → Option Tp1) (h_r13o : ∀ a0 a1 a2, ChO (fun κ => r13o κ a0 a1 a2) (r13o' a0 a1 a2)) (a : Int) (c : Tp3) (j_2 : Int) (data_1 : Tp3) (i_4 : Int) : ChO (fun κ => slices_partitionCmpFunc_J14 a c j_2 data_1 (r13o κ) i_4) (slices_partitionCmpFunc_J14 a c j_2 data_1 r13o' i_4) := by
  unfold slices_partitionCmpFunc_J14
  repeat' with_reducible first | exact ChO.const _ | exact h_r13o _ _ _ | (apply slices_partitionCmpFunc_J16_ch <;> assumption) | (apply slices_partitionCmpFunc_L15_ch <;> assumption) | apply ChO.ite | apply ChO.G | apply ChO.both | (apply ChO.bind; intro _)
theorem slices_partitionCmpFunc_L13_B_ch (r13o : Nat → Int → Int → Tp3 → Option Tp1) (r13o' : Int → Int → Tp3 → Option Tp1) (h_r13o : ∀ a0 a1 a2, ChO (fun κ => r13o κ a0 a1 a2) (r13o' a0 a1 a2)) (r13 : Nat → Int → Option Tp1) (r13' : Int → Option Tp1) (h_r13 : ∀ a0, ChO (fun κ => r13 κ a0) (r13' a0)) (a : Int) (c : Tp3) (j_2 : Int) (data_1 : Tp3) (i_3 : Int) : ChO (fun κ => slices_partitionCmpFunc_L13_B a c j_2 data_1 (r13o κ) (r13 κ) i_3) (slices_partitionCmpFunc_L13_B a c j_2 data_1 r13o' r13' i_3) := by
  unfold slices_partitionCmpFunc_L13_B
  repeat' with_reducible first | exact ChO.const _ | exact h_r13o _ _ _ | exact h_r13 _ | (apply slices_partitionCmpFunc_J16_ch <;> assumption) | (apply slices_partitionCmpFunc_L15_ch <;> assumption) | (apply slices_partitionCmpFunc_J14_ch <;> assumption) | apply ChO.ite | apply ChO.G | apply ChO.both | (apply ChO.bind; intro _)
theorem slices_partitionCmpFunc_L13_cn (r13o : Int → Int → Tp3 → Option Tp1) (a : Int) (c : Tp3) (j_2 : Int) (data_1 : Tp3) : Cn (slices_partitionCmpFunc_L13_F a c j_2 data_1 r13o) := fun g h hg x => slices_partitionCmpFunc_L13_B_ch (fun _ => r13o) r13o (fun _ _ _ => ChO.const _) (fun κ i_3 => g κ i_3) (fun i_3 => h i_3) (fun i_3 => hg i_3) a c j_2 data_1 x
theorem slices_partitionCmpFunc_L13_eq (r13o : Int → Int → Tp3 → Option Tp1) (a : Int) (c : Tp3) (j_2 : Int) (data_1 : Tp3) (i_3 : Int) : slices_partitionCmpFunc_L13 a c j_2 data_1 r13o i_3 = slices_partitionCmpFunc_L13_B a c j_2 data_1 r13o (slices_partitionCmpFunc_L13 a c j_2 data_1 r13o) i_3 := LFix_eq (slices_partitionCmpFunc_L13_cn r13o a c j_2 data_1) i_3
theorem slices_partitionCmpFunc_L13_ch (r13o : Nat → Int → Int → Tp3 → Option Tp1) (r13o' : Int → Int → Tp3 → Option Tp1) (h_r13o : ∀ a0 a1 a2, ChO (fun κ => r13o κ a0 a1 a2) (r13o' a0 a1 a2)) (a : Int) (c : Tp3) (j_2 : Int) (data_1 : Tp3) (i_3 : Int) : ChO (fun κ => slices_partitionCmpFunc_L13 a c j_2 data_1 (r13o κ) i_3) (slices_partitionCmpFunc_L13 a c j_2 data_1 r13o' i_3) := by
  unfold slices_partitionCmpFunc_L13
  exact LFix_ch (fun κ => (slices_partitionCmpFunc_L13_cn (r13o κ) a c j_2 data_1).mono) (slices_partitionCmpFunc_L13_cn r13o' a c j_2 data_1).mono (fun g h hg x => slices_partitionCmpFunc_L13_B_ch r13o r13o' h_r13o (fun κ i_3 => g κ i_3) (fun i_3 => h i_3) (fun i_3 => hg i_3) a c j_2 data_1 x) _
theorem slices_partitionCmpFunc_L13o_B_ch (r13o : Nat → Int → Int → Tp3 → Option Tp1) (r13o' : Int → Int → Tp3 → Option Tp1) (h_r13o : ∀ a0 a1 a2, ChO (fun κ => r13o κ a0 a1 a2) (r13o' a0 a1 a2)) (a : Int) (c : Tp3) (i_2 : Int) (j_2 : Int) (data_1 : Tp3) : ChO (fun κ => slices_partitionCmpFunc_L13o_B a c (r13o κ) i_2 j_2 data_1) (slices_partitionCmpFunc_L13o_B a c r13o' i_2 j_2 data_1) := by
  unfold slices_partitionCmpFunc_L13o_B
  repeat' with_reducible first | exact ChO.const _ | exact h_r13o _ _ _ | (apply slices_partitionCmpFunc_J16_ch <;> assumption) | (apply slices_partitionCmpFunc_L15_ch <;> assumption) | (apply slices_partitionCmpFunc_J14_ch <;> assumption) | (apply slices_partitionCmpFunc_L13_ch <;> assumption) | apply ChO.ite | apply ChO.G | apply ChO.both | (apply ChO.bind; intro _)
theorem slices_partitionCmpFunc_L13o_cn  (a : Int) (c : Tp3) : Cn (slices_partitionCmpFunc_L13o_F a c) := fun g h hg x => slices_partitionCmpFunc_L13o_B_ch  (fun κ i_2 j_2 data_1 => g κ (i_2, j_2, data_1)) (fun i_2 j_2 data_1 => h (i_2, j_2, data_1)) (fun i_2 j_2 data_1 => hg (i_2, j_2, data_1)) a c x.1 x.2.1 x.2.2
theorem slices_partitionCmpFunc_L13o_eq  (a : Int) (c : Tp3) (i_2 : Int) (j_2 : Int) (data_1 : Tp3) : slices_partitionCmpFunc_L13o a c i_2 j_2 data_1 = slices_partitionCmpFunc_L13o_B a c (slices_partitionCmpFunc_L13o a c) i_2 j_2 data_1 := LFix_eq (slices_partitionCmpFunc_L13o_cn a c) (i_2, j_2, data_1)
theorem slices_partitionCmpFunc_L5_B_ch (r5 : Nat → Int → Option Tp1) (r5' : Int → Option Tp1) (h_r5 : ∀ a0, ChO (fun κ => r5 κ a0) (r5' a0)) (a : Int) (pivot : Int) (c : Tp3) (data : Tp3) (i_1 : Int) (j : Int) : ChO (fun κ => slices_partitionCmpFunc_L5_B a pivot c data i_1 (r5 κ) j) (slices_partitionCmpFunc_L5_B a pivot c data i_1 r5' j) := by
  unfold slices_partitionCmpFunc_L5_B
  repeat' with_reducible first | exact ChO.const _ | exact h_r5 _ | (apply slices_partitionCmpFunc_J16_ch <;> assumption) | (apply slices_partitionCmpFunc_L15_ch <;> assumption) | (apply slices_partitionCmpFunc_J14_ch <;> assumption) | (apply slices_partitionCmpFunc_L13_ch <;> assumption) | apply ChO.ite | apply ChO.G | apply ChO.both | (apply ChO.bind; intro _)
theorem slices_partitionCmpFunc_L5_cn  (a : Int) (pivot : Int) (c : Tp3) (data : Tp3) (i_1 : Int) : Cn (slices_partitionCmpFunc_L5_F a pivot c data i_1) := fun g h hg x => slices_partitionCmpFunc_L5_B_ch  (fun κ j => g κ j) (fun j => h j) (fun j => hg j) a pivot c data i_1 x
theorem slices_partitionCmpFunc_L5_eq  (a : Int) (pivot : Int) (c : Tp3) (data : Tp3) (i_1 : Int) (j : Int) : slices_partitionCmpFunc_L5 a pivot c data i_1 j = slices_partitionCmpFunc_L5_B a pivot c data i_1 (slices_partitionCmpFunc_L5 a pivot c data i_1) j := LFix_eq (slices_partitionCmpFunc_L5_cn a pivot c data i_1) j
theorem slices_partitionCmpFunc_L3_B_ch (r3 : Nat → Int → Option Tp1) (r3' : Int → Option Tp1) (h_r3 : ∀ a0, ChO (fun κ => r3 κ a0) (r3' a0)) (a : Int) (b : Int) (pivot : Int) (c : Tp3) (data : Tp3) (i : Int) : ChO (fun κ => slices_partitionCmpFunc_L3_B a b pivot c data (r3 κ) i) (slices_partitionCmpFunc_L3_B a b pivot c data r3' i) := by
  unfold slices_partitionCmpFunc_L3_B
  repeat' with_reducible first | exact ChO.const _ | exact h_r3 _ | (apply slices_partitionCmpFunc_J16_ch <;> assumption) | (apply slices_partitionCmpFunc_L15_ch <;> assumption) | (apply slices_partitionCmpFunc_J14_ch <;> assumption) | (apply slices_partitionCmpFunc_L13_ch <;> assumption) | apply ChO.ite | apply ChO.G | apply ChO.both | (apply ChO.bind; intro _)
theorem slices_partitionCmpFunc_L3_cn  (a : Int) (b : Int) (pivot : Int) (c : Tp3) (data : Tp3) : Cn (slices_partitionCmpFunc_L3_F a b pivot c data) := fun g h hg x => slices_partitionCmpFunc_L3_B_ch  (fun κ i => g κ i) (fun i => h i) (fun i => hg i) a b pivot c data x
theorem slices_partitionCmpFunc_L3_eq  (a : Int) (b : Int) (pivot : Int) (c : Tp3) (data : Tp3) (i : Int) : slices_partitionCmpFunc_L3 a b pivot c data i = slices_partitionCmpFunc_L3_B a b pivot c data (slices_partitionCmpFunc_L3 a b pivot c data) i := LFix_eq (slices_partitionCmpFunc_L3_cn a b pivot c data) i

noncomputable def slices_pdqsortCmpFunc_J17 (rc_slices_pdqsortCmpFunc : Tf2) (c : Tp3) (a_1 : Int) (b_1 : Int) (wasBalanced : Bool) (wasPartitioned : Bool) (r2 : (Int → Int → Int → Bool → Bool → Tp3 → Option Tp3)) (limit_2 : Int) (pivot : Int) (data_4 : Tp3) (t_1 : Bool) : Option Tp3 :=
  if t_1 = true then
  (slices_partitionEqualCmpFunc a_1 b_1 pivot c data_4).bind (fun y'_14 =>
  r2 y'_14.1 b_1 limit_2 wasBalanced wasPartitioned y'_14.2) else
  (slices_partitionCmpFunc a_1 b_1 pivot c data_4).bind (fun y'_21 =>
  G (fits (y'_21.1 - a_1)) (
  G (fits (b_1 - y'_21.1)) (
  G ((8 : Int) ≠ 0) (
  G (fits (Int.tdiv (b_1 - a_1) (8 : Int))) (
  if (decide ((y'_21.1 - a_1) < (b_1 - y'_21.1))) = true then
  (rc_slices_pdqsortCmpFunc a_1 y'_21.1 limit_2 c y'_21.2.2).bind (fun y'_19 =>
  G (fits (y'_21.1 + (1 : Int))) (
  r2 (y'_21.1 + (1 : Int)) b_1 limit_2 (decide ((Int.tdiv (b_1 - a_1) (8 : Int)) ≤ (y'_21.1 - a_1))) y'_21.2.1 y'_19)) else
  G (fits (y'_21.1 + (1 : Int))) (
  (rc_slices_pdqsortCmpFunc (y'_21.1 + (1 : Int)) b_1 limit_2 c y'_21.2.2).bind (fun y'_20 =>
  r2 a_1 y'_21.1 limit_2 (decide ((Int.tdiv (b_1 - a_1) (8 : Int)) ≤ (b_1 - y'_21.1))) y'_21.2.1 y'_20)))))))
noncomputable def slices_pdqsortCmpFunc_J16 (rc_slices_pdqsortCmpFunc : Tf2) (c : Tp3) (a_1 : Int) (b_1 : Int) (wasBalanced : Bool) (wasPartitioned : Bool) (r2 : (Int → Int → Int → Bool → Bool → Tp3 → Option Tp3)) (limit_2 : Int) (pivot : Int) (data_4 : Tp3) : Option Tp3 :=
  if (decide ((0 : Int) < a_1)) = true then
  G (fits (a_1 - (1 : Int))) (
  G (0 ≤ a_1 - (1 : Int) ∧ a_1 - (1 : Int) < (data_4.length : Int)) (
  G ((a_1 - (1 : Int)).toNat < data_4.length) (
  G (0 ≤ pivot ∧ pivot < (data_4.length : Int)) (
  G ((pivot).toNat < data_4.length) (
  (lyndon_Ends_1 (ix data_4 (a_1 - (1 : Int))) (ix data_4 pivot) c).bind (fun y'_10 =>
  slices_pdqsortCmpFunc_J17 rc_slices_pdqsortCmpFunc c a_1 b_1 wasBalanced wasPartitioned r2 limit_2 pivot data_4 (!(decide (y'_10 < (0 : Int)))))))))) else
  slices_pdqsortCmpFunc_J17 rc_slices_pdqsortCmpFunc c a_1 b_1 wasBalanced wasPartitioned r2 limit_2 pivot data_4 false
noncomputable def slices_pdqsortCmpFunc_J15 (rc_slices_pdqsortCmpFunc : Tf2) (c : Tp3) (a_1 : Int) (b_1 : Int) (wasBalanced : Bool) (wasPartitioned : Bool) (r2 : (Int → Int → Int → Bool → Bool → Tp3 → Option Tp3)) (limit_2 : Int) (pivot : Int) (data_3 : Tp3) (t : Bool) : Option Tp3 :=
  if t = true then
  (slices_partialInsertionSortCmpFunc a_1 b_1 c data_3).bind (fun y'_22 =>
  if y'_22.1 = true then
  some y'_22.2 else
  slices_pdqsortCmpFunc_J16 rc_slices_pdqsortCmpFunc c a_1 b_1 wasBalanced wasPartitioned r2 limit_2 pivot y'_22.2) else
  slices_pdqsortCmpFunc_J16 rc_slices_pdqsortCmpFunc c a_1 b_1 wasBalanced wasPartitioned r2 limit_2 pivot data_3
noncomputable def slices_pdqsortCmpFunc_J14 (rc_slices_pdqsortCmpFunc : Tf2) (c : Tp3) (a_1 : Int) (b_1 : Int) (wasBalanced : Bool) (wasPartitioned : Bool) (r2 : (Int → Int → Int → Bool → Bool → Tp3 → Option Tp3)) (limit_2 : Int) (pivot : Int) (hint : Int) (data_3 : Tp3) : Option Tp3 :=
  if wasBalanced = true then
  if wasPartitioned = true then
  slices_pdqsortCmpFunc_J15 rc_slices_pdqsortCmpFunc c a_1 b_1 wasBalanced wasPartitioned r2 limit_2 pivot data_3 (decide (hint = (1 : Int))) else
  slices_pdqsortCmpFunc_J15 rc_slices_pdqsortCmpFunc c a_1 b_1 wasBalanced wasPartitioned r2 limit_2 pivot data_3 false else
  slices_pdqsortCmpFunc_J15 rc_slices_pdqsortCmpFunc c a_1 b_1 wasBalanced wasPartitioned r2 limit_2 pivot data_3 false
noncomputable def slices_pdqsortCmpFunc_J9 (rc_slices_pdqsortCmpFunc : Tf2) (c : Tp3) (a_1 : Int) (b_1 : Int) (wasBalanced : Bool) (wasPartitioned : Bool) (r2 : (Int → Int → Int → Bool → Bool → Tp3 → Option Tp3)) (limit_2 : Int) (data_2 : Tp3) : Option Tp3 :=
  (slices_choosePivotCmpFunc data_2 a_1 b_1 c).bind (fun y'_23 =>
  if (decide (y'_23.2 = (2 : Int))) = true then
  (slices_reverseRangeCmpFunc a_1 b_1 c data_2).bind (fun y'_6 =>
  G (fits (b_1 - (1 : Int))) (
  G (fits (y'_23.1 - a_1)) (
  G (fits ((b_1 - (1 : Int)) - (y'_23.1 - a_1))) (
  slices_pdqsortCmpFunc_J14 rc_slices_pdqsortCmpFunc c a_1 b_1 wasBalanced wasPartitioned r2 limit_2 ((b_1 - (1 : Int)) - (y'_23.1 - a_1)) (1 : Int) y'_6)))) else
  slices_pdqsortCmpFunc_J14 rc_slices_pdqsortCmpFunc c a_1 b_1 wasBalanced wasPartitioned r2 limit_2 y'_23.1 y'_23.2 data_2)
noncomputable def slices_pdqsortCmpFunc_L2_B (rc_slices_pdqsortCmpFunc : Tf2) (c : Tp3) (r2 : Tf1) (a_1 : Int) (b_1 : Int) (limit_1 : Int) (wasBalanced : Bool) (wasPartitioned : Bool) (data_1 : Tp3) : Option Tp3 :=
  G (fits (b_1 - a_1)) (
  if (decide ((b_1 - a_1) ≤ (12 : Int))) = true then
  (slices_insertionSortCmpFunc a_1 b_1 c data_1).bind (fun y' =>
  some y') else
  if (decide (limit_1 = (0 : Int))) = true then
  (slices_heapSortCmpFunc a_1 b_1 c data_1).bind (fun y'_1 =>
  some y'_1) else
  if (!wasBalanced) = true then
  (slices_breakPatternsCmpFunc a_1 b_1 c data_1).bind (fun y'_2 =>
  G (fits (limit_1 - (1 : Int))) (
  slices_pdqsortCmpFunc_J9 rc_slices_pdqsortCmpFunc c a_1 b_1 wasBalanced wasPartitioned r2 (limit_1 - (1 : Int)) y'_2)) else
  slices_pdqsortCmpFunc_J9 rc_slices_pdqsortCmpFunc c a_1 b_1 wasBalanced wasPartitioned r2 limit_1 data_1)
noncomputable def slices_pdqsortCmpFunc_L2_F (rc_slices_pdqsortCmpFunc : Tf2) (c : Tp3) : (Int × Int × Int × Bool × Bool × Tp3 → Option Tp3) → Int × Int × Int × Bool × Bool × Tp3 → Option Tp3 :=
  fun rec x => slices_pdqsortCmpFunc_L2_B rc_slices_pdqsortCmpFunc c (fun a_1 b_1 limit_1 wasBalanced wasPartitioned data_1 => rec (a_1, b_1, limit_1, wasBalanced, wasPartitioned, data_1)) x.1 x.2.1 x.2.2.1 x.2.2.2.1 x.2.2.2.2.1 x.2.2.2.2.2
noncomputable def slices_pdqsortCmpFunc_L2 (rc_slices_pdqsortCmpFunc : Tf2) (c : Tp3) (a_1 : Int) (b_1 : Int) (limit_1 : Int) (wasBalanced : Bool) (wasPartitioned : Bool) (data_1 : Tp3) : Option Tp3 := LFix (slices_pdqsortCmpFunc_L2_F rc_slices_pdqsortCmpFunc c ) (a_1, b_1, limit_1, wasBalanced, wasPartitioned, data_1)
noncomputable def slices_pdqsortCmpFunc_B (rc_slices_pdqsortCmpFunc : Tf2) (a : Int) (b : Int) (limit : Int) (c : Tp3) (data : Tp3) : Option Tp3 :=
  slices_pdqsortCmpFunc_L2 rc_slices_pdqsortCmpFunc c a b limit true true data
theorem slices_pdqsortCmpFunc_J17_ch (rc_slices_pdqsortCmpFunc : Nat → Tf2) (rc_slices_pdqsortCmpFunc' : Tf2) (h_rc_slices_pdqsortCmpFunc : ∀ a0 a1 a2 a3 a4, ChO (fun κ => rc_slices_pdqsortCmpFunc κ a0 a1 a2 a3 a4) (rc_slices_pdqsortCmpFunc' a0 a1 a2 a3 a4)) (r2 : Nat → Tf1) (r2' : Tf1) (h_r2 : ∀ a0 a1 a2 a3 a4 a5, ChO (fun κ => r2 κ a0 a1 a2 a3 a4 a5) (r2' a0 a1 a2 a3 a4 a5)) (c : Tp3) (a_1 : Int) (b_1 : Int) (wasBalanced : Bool) (wasPartitioned : Bool) (limit_2 : Int) (pivot : Int) (data_4 : Tp3) (t_1 : Bool) : ChO (fun κ => slices_pdqsortCmpFunc_J17 (rc_slices_pdqsortCmpFunc κ) c a_1 b_1 wasBalanced wasPartitioned (r2 κ) limit_2 pivot data_4 t_1) (slices_pdqsortCmpFunc_J17 rc_slices_pdqsortCmpFunc' c a_1 b_1 wasBalanced wasPartitioned r2' limit_2 pivot data_4 t_1) := by
  unfold slices_pdqsortCmpFunc_J17
  repeat' with_reducible first | exact ChO.const _ | exact h_rc_slices_pdqsortCmpFunc _ _ _ _ _ | exact h_r2 _ _ _ _ _ _ | apply ChO.ite | apply ChO.G | apply ChO.both | (apply ChO.bind; intro _) | (apply ChO.bind2 (h_rc_slices_pdqsortCmpFunc _ _ _ _ _); intro _)
theorem slices_pdqsortCmpFunc_J16_ch (rc_slices_pdqsortCmpFunc : Nat → Tf2) (rc_slices_pdqsortCmpFunc' : Tf2) (h_rc_slices_pdqsortCmpFunc : ∀ a0 a1 a2 a3 a4, ChO (fun κ => rc_slices_pdqsortCmpFunc κ a0 a1 a2 a3 a4) (rc_slices_pdqsortCmpFunc' a0 a1 a2 a3 a4)) (r2 : Nat → Tf1) (r2' : Tf1) (h_r2 : ∀ a0 a1 a2 a3 a4 a5, ChO (fun κ => r2 κ a0 a1 a2 a3 a4 a5) (r2' a0 a1 a2 a3 a4 a5)) (c : Tp3) (a_1 : Int) (b_1 : Int) (wasBalanced : Bool) (wasPartitioned : Bool) (limit_2 : Int) (pivot : Int) (data_4 : Tp3) : ChO (fun κ => slices_pdqsortCmpFunc_J16 (rc_slices_pdqsortCmpFunc κ) c a_1 b_1 wasBalanced wasPartitioned (r2 κ) limit_2 pivot data_4) (slices_pdqsortCmpFunc_J16 rc_slices_pdqsortCmpFunc' c a_1 b_1 wasBalanced wasPartitioned r2' limit_2 pivot data_4) := by
  unfold slices_pdqsortCmpFunc_J16
  repeat' with_reducible first | exact ChO.const _ | exact h_rc_slices_pdqsortCmpFunc _ _ _ _ _ | exact h_r2 _ _ _ _ _ _ | (apply slices_pdqsortCmpFunc_J17_ch <;> assumption) | apply ChO.ite | apply ChO.G | apply ChO.both | (apply ChO.bind; intro _) | (apply ChO.bind2 (h_rc_slices_pdqsortCmpFunc _ _ _ _ _); intro _)
theorem slices_pdqsortCmpFunc_J15_ch (rc_slices_pdqsortCmpFunc : Nat → Tf2) (rc_slices_pdqsortCmpFunc' : Tf2) (h_rc_slices_pdqsortCmpFunc : ∀ a0 a1 a2 a3 a4, ChO (fun κ => rc_slices_pdqsortCmpFunc κ a0 a1 a2 a3 a4) (rc_slices_pdqsortCmpFunc' a0 a1 a2 a3 a4)) (r2 : Nat → Tf1) (r2' : Tf1) (h_r2 : ∀ a0 a1 a2 a3 a4 a5, ChO (fun κ => r2 κ a0 a1 a2 a3 a4 a5) (r2' a0 a1 a2 a3 a4 a5)) (c : Tp3) (a_1 : Int) (b_1 : Int) (wasBalanced : Bool) (wasPartitioned : Bool) (limit_2 : Int) (pivot : Int) (data_3 : Tp3) (t : Bool) : ChO (fun κ => slices_pdqsortCmpFunc_J15 (rc_slices_pdqsortCmpFunc κ) c a_1 b_1 wasBalanced wasPartitioned (r2 κ) limit_2 pivot data_3 t) (slices_pdqsortCmpFunc_J15 rc_slices_pdqsortCmpFunc' c a_1 b_1 wasBalanced wasPartitioned r2' limit_2 pivot data_3 t) := by
  unfold slices_pdqsortCmpFunc_J15
  repeat' with_reducible first | exact ChO.const _ | exact h_rc_slices_pdqsortCmpFunc _ _ _ _ _ | exact h_r2 _ _ _ _ _ _ | (apply slices_pdqsortCmpFunc_J17_ch <;> assumption) | (apply slices_pdqsortCmpFunc_J16_ch <;> assumption) | apply ChO.ite | apply ChO.G | apply ChO.both | (apply ChO.bind; intro _) | (apply ChO.bind2 (h_rc_slices_pdqsortCmpFunc _ _ _ _ _); intro _)
theorem slices_pdqsortCmpFunc_J14_ch (rc_slices_pdqsortCmpFunc : Nat → Tf2) (rc_slices_pdqsortCmpFunc' : Tf2) (h_rc_slices_pdqsortCmpFunc : ∀ a0 a1 a2 a3 a4, ChO (fun κ => rc_slices_pdqsortCmpFunc κ a0 a1 a2 a3 a4) (rc_slices_pdqsortCmpFunc' a0 a1 a2 a3 a4)) (r2 : Nat → Tf1) (r2' : Tf1) (h_r2 : ∀ a0 a1 a2 a3 a4 a5, ChO (fun κ => r2 κ a0 a1 a2 a3 a4 a5) (r2' a0 a1 a2 a3 a4 a5)) (c : Tp3) (a_1 : Int) (b_1 : Int) (wasBalanced : Bool) (wasPartitioned : Bool) (limit_2 : Int) (pivot : Int) (hint : Int) (data_3 : Tp3) : ChO (fun κ => slices_pdqsortCmpFunc_J14 (rc_slices_pdqsortCmpFunc κ) c a_1 b_1 wasBalanced wasPartitioned (r2 κ) limit_2 pivot hint data_3) (slices_pdqsortCmpFunc_J14 rc_slices_pdqsortCmpFunc' c a_1 b_1 wasBalanced wasPartitioned r2' limit_2 pivot hint data_3) := by
  unfold slices_pdqsortCmpFunc_J14
  repeat' with_reducible first | exact ChO.const _ | exact h_rc_slices_pdqsortCmpFunc _ _ _ _ _ | exact h_r2 _ _ _ _ _ _ | (apply slices_pdqsortCmpFunc_J17_ch <;> assumption) | (apply slices_pdqsortCmpFunc_J16_ch <;> assumption) | (apply slices_pdqsortCmpFunc_J15_ch <;> assumption) | apply ChO.ite | apply ChO.G | apply ChO.both | (apply ChO.bind; intro _) | (apply ChO.bind2 (h_rc_slices_pdqsortCmpFunc _ _ _ _ _); intro _)
theorem slices_pdqsortCmpFunc_J9_ch (rc_slices_pdqsortCmpFunc : Nat → Tf2) (rc_slices_pdqsortCmpFunc' : Tf2) (h_rc_slices_pdqsortCmpFunc : ∀ a0 a1 a2 a3 a4, ChO (fun κ => rc_slices_pdqsortCmpFunc κ a0 a1 a2 a3 a4) (rc_slices_pdqsortCmpFunc' a0 a1 a2 a3 a4)) (r2 : Nat → Tf1) (r2' : Tf1) (h_r2 : ∀ a0 a1 a2 a3 a4 a5, ChO (fun κ => r2 κ a0 a1 a2 a3 a4 a5) (r2' a0 a1 a2 a3 a4 a5)) (c : Tp3) (a_1 : Int) (b_1 : Int) (wasBalanced : Bool) (wasPartitioned : Bool) (limit_2 : Int) (data_2 : Tp3) : ChO (fun κ => slices_pdqsortCmpFunc_J9 (rc_slices_pdqsortCmpFunc κ) c a_1 b_1 wasBalanced wasPartitioned (r2 κ) limit_2 data_2) (slices_pdqsortCmpFunc_J9 rc_slices_pdqsortCmpFunc' c a_1 b_1 wasBalanced wasPartitioned r2' limit_2 data_2) := by
  unfold slices_pdqsortCmpFunc_J9
  repeat' with_reducible first | exact ChO.const _ | exact h_rc_slices_pdqsortCmpFunc _ _ _ _ _ | exact h_r2 _ _ _ _ _ _ | (apply slices_pdqsortCmpFunc_J17_ch <;> assumption) | (apply slices_pdqsortCmpFunc_J16_ch <;> assumption) | (apply slices_pdqsortCmpFunc_J15_ch <;> assumption) | (apply slices_pdqsortCmpFunc_J14_ch <;> assumption) | apply ChO.ite | apply ChO.G | apply ChO.both | (apply ChO.bind; intro _) | (apply ChO.bind2 (h_rc_slices_pdqsortCmpFunc _ _ _ _ _); intro _)
theorem slices_pdqsortCmpFunc_L2_B_ch (rc_slices_pdqsortCmpFunc : Nat → Tf2) (rc_slices_pdqsortCmpFunc' : Tf2) (h_rc_slices_pdqsortCmpFunc : ∀ a0 a1 a2 a3 a4, ChO (fun κ => rc_slices_pdqsortCmpFunc κ a0 a1 a2 a3 a4) (rc_slices_pdqsortCmpFunc' a0 a1 a2 a3 a4)) (r2 : Nat → Tf1) (r2' : Tf1) (h_r2 : ∀ a0 a1 a2 a3 a4 a5, ChO (fun κ => r2 κ a0 a1 a2 a3 a4 a5) (r2' a0 a1 a2 a3 a4 a5)) (c : Tp3) (a_1 : Int) (b_1 : Int) (limit_1 : Int) (wasBalanced : Bool) (wasPartitioned : Bool) (data_1 : Tp3) : ChO (fun κ => slices_pdqsortCmpFunc_L2_B (rc_slices_pdqsortCmpFunc κ) c (r2 κ) a_1 b_1 limit_1 wasBalanced wasPartitioned data_1) (slices_pdqsortCmpFunc_L2_B rc_slices_pdqsortCmpFunc' c r2' a_1 b_1 limit_1 wasBalanced wasPartitioned data_1) := by
  unfold slices_pdqsortCmpFunc_L2_B
  repeat' with_reducible first | exact ChO.const _ | exact h_rc_slices_pdqsortCmpFunc _ _ _ _ _ | exact h_r2 _ _ _ _ _ _ | (apply slices_pdqsortCmpFunc_J17_ch <;> assumption) | (apply slices_pdqsortCmpFunc_J16_ch <;> assumption) | (apply slices_pdqsortCmpFunc_J15_ch <;> assumption) | (apply slices_pdqsortCmpFunc_J14_ch <;> assumption) | (apply slices_pdqsortCmpFunc_J9_ch <;> assumption) | apply ChO.ite | apply ChO.G | apply ChO.both | (apply ChO.bind; intro _) | (apply ChO.bind2 (h_rc_slices_pdqsortCmpFunc _ _ _ _ _); intro _)
theorem slices_pdqsortCmpFunc_L2_cn (rc_slices_pdqsortCmpFunc : Tf2) (c : Tp3) : Cn (slices_pdqsortCmpFunc_L2_F rc_slices_pdqsortCmpFunc c) := fun g h hg x => slices_pdqsortCmpFunc_L2_B_ch (fun _ => rc_slices_pdqsortCmpFunc) rc_slices_pdqsortCmpFunc (fun _ _ _ _ _ => ChO.const _) (fun κ a_1 b_1 limit_1 wasBalanced wasPartitioned data_1 => g κ (a_1, b_1, limit_1, wasBalanced, wasPartitioned, data_1)) (fun a_1 b_1 limit_1 wasBalanced wasPartitioned data_1 => h (a_1, b_1, limit_1, wasBalanced, wasPartitioned, data_1)) (fun a_1 b_1 limit_1 wasBalanced wasPartitioned data_1 => hg (a_1, b_1, limit_1, wasBalanced, wasPartitioned, data_1)) c x.1 x.2.1 x.2.2.1 x.2.2.2.1 x.2.2.2.2.1 x.2.2.2.2.2
theorem slices_pdqsortCmpFunc_L2_eq (rc_slices_pdqsortCmpFunc : Tf2) (c : Tp3) (a_1 : Int) (b_1 : Int) (limit_1 : Int) (wasBalanced : Bool) (wasPartitioned : Bool) (data_1 : Tp3) : slices_pdqsortCmpFunc_L2 rc_slices_pdqsortCmpFunc c a_1 b_1 limit_1 wasBalanced wasPartitioned data_1 = slices_pdqsortCmpFunc_L2_B rc_slices_pdqsortCmpFunc c (slices_pdqsortCmpFunc_L2 rc_slices_pdqsortCmpFunc c) a_1 b_1 limit_1 wasBalanced wasPartitioned data_1 := LFix_eq (slices_pdqsortCmpFunc_L2_cn rc_slices_pdqsortCmpFunc c) (a_1, b_1, limit_1, wasBalanced, wasPartitioned, data_1)
theorem slices_pdqsortCmpFunc_L2_ch (rc_slices_pdqsortCmpFunc : Nat → Tf2) (rc_slices_pdqsortCmpFunc' : Tf2) (h_rc_slices_pdqsortCmpFunc : ∀ a0 a1 a2 a3 a4, ChO (fun κ => rc_slices_pdqsortCmpFunc κ a0 a1 a2 a3 a4) (rc_slices_pdqsortCmpFunc' a0 a1 a2 a3 a4)) (c : Tp3) (a_1 : Int) (b_1 : Int) (limit_1 : Int) (wasBalanced : Bool) (wasPartitioned : Bool) (data_1 : Tp3) : ChO (fun κ => slices_pdqsortCmpFunc_L2 (rc_slices_pdqsortCmpFunc κ) c a_1 b_1 limit_1 wasBalanced wasPartitioned data_1) (slices_pdqsortCmpFunc_L2 rc_slices_pdqsortCmpFunc' c a_1 b_1 limit_1 wasBalanced wasPartitioned data_1) := by
  unfold slices_pdqsortCmpFunc_L2
  exact LFix_ch (fun κ => (slices_pdqsortCmpFunc_L2_cn (rc_slices_pdqsortCmpFunc κ) c).mono) (slices_pdqsortCmpFunc_L2_cn rc_slices_pdqsortCmpFunc' c).mono (fun g h hg x => slices_pdqsortCmpFunc_L2_B_ch rc_slices_pdqsortCmpFunc rc_slices_pdqsortCmpFunc' h_rc_slices_pdqsortCmpFunc (fun κ a_1 b_1 limit_1 wasBalanced wasPartitioned data_1 => g κ (a_1, b_1, limit_1, wasBalanced, wasPartitioned, data_1)) (fun a_1 b_1 limit_1 wasBalanced wasPartitioned data_1 => h (a_1, b_1, limit_1, wasBalanced, wasPartitioned, data_1)) (fun a_1 b_1 limit_1 wasBalanced wasPartitioned data_1 => hg (a_1, b_1, limit_1, wasBalanced, wasPartitioned, data_1)) c x.1 x.2.1 x.2.2.1 x.2.2.2.1 x.2.2.2.2.1 x.2.2.2.2.2) _
theorem slices_pdqsortCmpFunc_B_ch (rc_slices_pdqsortCmpFunc : Nat → Tf2) (rc_slices_pdqsortCmpFunc' : Tf2) (h_rc_slices_pdqsortCmpFunc : ∀ a0 a1 a2 a3 a4, ChO (fun κ => rc_slices_pdqsortCmpFunc κ a0 a1 a2 a3 a4) (rc_slices_pdqsortCmpFunc' a0 a1 a2 a3 a4)) (a : Int) (b : Int) (limit : Int) (c : Tp3) (data : Tp3) : ChO (fun κ => slices_pdqsortCmpFunc_B (rc_slices_pdqsortCmpFunc κ) a b limit c data) (slices_pdqsortCmpFunc_B rc_slices_pdqsortCmpFunc' a b limit c data) := by
  unfold slices_pdqsortCmpFunc_B
  repeat' with_reducible first | exact ChO.const _ | exact h_rc_slices_pdqsortCmpFunc _ _ _ _ _ | (apply slices_pdqsortCmpFunc_J17_ch <;> assumption) | (apply slices_pdqsortCmpFunc_J16_ch <;> assumption) | (apply slices_pdqsortCmpFunc_J15_ch <;> assumption) | (apply slices_pdqsortCmpFunc_J14_ch <;> assumption) | (apply slices_pdqsortCmpFunc_J9_ch <;> assumption) | (apply slices_pdqsortCmpFunc_L2_ch <;> assumption) | apply ChO.ite | apply ChO.G | apply ChO.both | (apply ChO.bind; intro _) | (apply ChO.bind2 (h_rc_slices_pdqsortCmpFunc _ _ _ _ _); intro _)
noncomputable def slices_pdqsortCmpFunc_F : (Int × Int × Int × Tp3 × Tp3 → Option Tp3) → Int × Int × Int × Tp3 × Tp3 → Option Tp3 :=
  fun rec X => slices_pdqsortCmpFunc_B (fun a b limit c data => rec (a, b, limit, c, data)) X.1 X.2.1 X.2.2.1 X.2.2.2.1 X.2.2.2.2
noncomputable def slices_pdqsortCmpFunc (a : Int) (b : Int) (limit : Int) (c : Tp3) (data : Tp3) : Option Tp3 := LFix slices_pdqsortCmpFunc_F (a, b, limit, c, data)
theorem slices_pdqsortCmpFunc_cn : Cn slices_pdqsortCmpFunc_F := fun g h hg X => slices_pdqsortCmpFunc_B_ch _ _ (fun a b limit c data => hg (a, b, limit, c, data)) X.1 X.2.1 X.2.2.1 X.2.2.2.1 X.2.2.2.2
theorem slices_pdqsortCmpFunc_eq (a : Int) (b : Int) (limit : Int) (c : Tp3) (data : Tp3) : slices_pdqsortCmpFunc a b limit c data = slices_pdqsortCmpFunc_B slices_pdqsortCmpFunc a b limit c data := LFix_eq slices_pdqsortCmpFunc_cn (a, b, limit, c, data)

noncomputable def slices_SortFunc (c : Tp3) (x' : Tp3) : Option Tp3 :=
  (bits_Len (IntKind.wrap .u64 (x'.length : Int))).bind (fun y' =>
  (slices_pdqsortCmpFunc (0 : Int) (x'.length : Int) y' c x').bind (fun y'_1 =>
  some y'_1))

noncomputable def lyndon_Ends_L6_B (w : Tp3) (r6 : Int → Tp3 → Option (Int × Tp3)) (t : Int) (out : Tp3) : Option (Int × Tp3) :=
  if (decide (t < (w.length : Int))) = true then
  G (room out ([t]) 8) (
  G (fits (t + (1 : Int))) (
  r6 (t + (1 : Int)) (out ++ ([t])))) else
  (slices_SortFunc w out).bind (fun y'_1 =>
  some ((0 : Int), y'_1))
noncomputable def lyndon_Ends_L6_F (w : Tp3) : (Int × Tp3 → Option (Int × Tp3)) → Int × Tp3 → Option (Int × Tp3) :=
  fun rec x => lyndon_Ends_L6_B w (fun t out => rec (t, out)) x.1 x.2
noncomputable def lyndon_Ends_L6 (w : Tp3) (t : Int) (out : Tp3) : Option (Int × Tp3) := LFix (lyndon_Ends_L6_F w ) (t, out)
noncomputable def lyndon_Ends (w : Tp3) : Option (Int × Tp3) :=
  (lyndon_may ([w])).bind (fun y' =>
  if (decide (¬ y' = (0 : Int))) = true then
  some (y', []) else
  lyndon_Ends_L6 w (0 : Int) ([]))
theorem lyndon_Ends_L6_B_ch (r6 : Nat → Int → Tp3 → Option (Int × Tp3)) (r6' : Int → Tp3 → Option (Int × Tp3)) (h_r6 : ∀ a0 a1, ChO (fun κ => r6 κ a0 a1) (r6' a0 a1)) (w : Tp3) (t : Int) (out : Tp3) : ChO (fun κ => lyndon_Ends_L6_B w (r6 κ) t out) (lyndon_Ends_L6_B w r6' t out) := by
  unfold lyndon_Ends_L6_B
  repeat' with_reducible first | exact ChO.const _ | exact h_r6 _ _ | apply ChO.ite | apply ChO.G | apply ChO.both | (apply ChO.bind; intro _)
theorem lyndon_Ends_L6_cn  (w : Tp3) : Cn (lyndon_Ends_L6_F w) := fun g h hg x => lyndon_Ends_L6_B_ch  (fun κ t out => g κ (t, out)) (fun t out => h (t, out)) (fun t out => hg (t, out)) w x.1 x.2
theorem lyndon_Ends_L6_eq  (w : Tp3) (t : Int) (out : Tp3) : lyndon_Ends_L6 w t out = lyndon_Ends_L6_B w (lyndon_Ends_L6 w) t out := LFix_eq (lyndon_Ends_L6_cn w) (t, out)

noncomputable def r1_May_L6_B (letters : Int) (w : Tp3) (r6 : Int → Option (Int)) (i : Int) : Option (Int) :=
  if (decide (i < (w.length : Int))) = true then
  G (0 ≤ i ∧ i < (w.length : Int)) (
  if (decide ((ix w i) < (0 : Int))) = true then
  some (2 : Int) else
  G (0 ≤ i ∧ i < (w.length : Int)) (
  if (decide (letters ≤ (ix w i))) = true then
  some (2 : Int) else
  G (fits (i + (1 : Int))) (
  r6 (i + (1 : Int))))) else
  some (0 : Int)
noncomputable def r1_May_L6_F (letters : Int) (w : Tp3) : (Int → Option (Int)) → Int → Option (Int) :=
  fun rec x => r1_May_L6_B letters w (fun i => rec i) x
noncomputable def r1_May_L6 (letters : Int) (w : Tp3) (i : Int) : Option (Int) := LFix (r1_May_L6_F letters w ) i
noncomputable def r1_May (letters : Int) (w : Tp3) : Option (Int) :=
  if (decide (letters < (1 : Int))) = true then
  some (2 : Int) else
  if (decide ((4 : Int) < letters)) = true then
  some (2 : Int) else
  if (decide ((60 : Int) < (w.length : Int))) = true then
  some (1 : Int) else
  r1_May_L6 letters w (0 : Int)
theorem r1_May_L6_B_ch (r6 : Nat → Int → Option (Int)) (r6' : Int → Option (Int)) (h_r6 : ∀ a0, ChO (fun κ => r6 κ a0) (r6' a0)) (letters : Int) (w : Tp3) (i : Int) : ChO (fun κ => r1_May_L6_B letters w (r6 κ) i) (r1_May_L6_B letters w r6' i) := by
  unfold r1_May_L6_B
  repeat' with_reducible first | exact ChO.const _ | exact h_r6 _ | apply ChO.ite | apply ChO.G | apply ChO.both | (apply ChO.bind; intro _)
theorem r1_May_L6_cn  (letters : Int) (w : Tp3) : Cn (r1_May_L6_F letters w) := fun g h hg x => r1_May_L6_B_ch  (fun κ i => g κ i) (fun i => h i) (fun i => hg i) letters w x
theorem r1_May_L6_eq  (letters : Int) (w : Tp3) (i : Int) : r1_May_L6 letters w i = r1_May_L6_B letters w (r1_May_L6 letters w) i := LFix_eq (r1_May_L6_cn letters w) i

noncomputable def r31_Turned (w : Tp3) (k : Int) : Option Tp3 :=
  G (0 ≤ k ∧ k ≤ (w.length : Int) ∧ (w.length : Int) ≤ (w.length : Int)) (
  G (room ([] : List Int) (cut w k (w.length : Int)) 8) (
  G (0 ≤ (0 : Int) ∧ (0 : Int) ≤ k ∧ k ≤ (w.length : Int)) (
  G (room (cut w k (w.length : Int)) (cut w (0 : Int) k) 8) (
  some ((cut w k (w.length : Int)) ++ (cut w (0 : Int) k))))))

noncomputable def r31_Ahead_L2_B (a : Tp3) (b : Tp3) (r2 : Int → Option (Bool)) (i : Int) : Option (Bool) :=
  if (decide (i < (a.length : Int))) = true then
  if (decide (i < (b.length : Int))) = true then
  G (0 ≤ i ∧ i < (a.length : Int)) (
  G (0 ≤ i ∧ i < (b.length : Int)) (
  if (decide (¬ (ix a i) = (ix b i))) = true then
  G (0 ≤ i ∧ i < (a.length : Int)) (
  G (0 ≤ i ∧ i < (b.length : Int)) (
  some (decide ((ix a i) < (ix b i))))) else
  G (fits (i + (1 : Int))) (
  r2 (i + (1 : Int))))) else
  some (decide ((a.length : Int) < (b.length : Int))) else
  some (decide ((a.length : Int) < (b.length : Int)))
noncomputable def r31_Ahead_L2_F (a : Tp3) (b : Tp3) : (Int → Option (Bool)) → Int → Option (Bool) :=
  fun rec x => r31_Ahead_L2_B a b (fun i => rec i) x
noncomputable def r31_Ahead_L2 (a : Tp3) (b : Tp3) (i : Int) : Option (Bool) := LFix (r31_Ahead_L2_F a b ) i
noncomputable def r31_Ahead (a : Tp3) (b : Tp3) : Option (Bool) :=
  r31_Ahead_L2 a b (0 : Int)
theorem r31_Ahead_L2_B_ch (r2 : Nat → Int → Option (Bool)) (r2' : Int → Option (Bool)) (h_r2 : ∀ a0, ChO (fun κ => r2 κ a0) (r2' a0)) (a : Tp3) (b : Tp3) (i : Int) : ChO (fun κ => r31_Ahead_L2_B a b (r2 κ) i) (r31_Ahead_L2_B a b r2' i) := by
  unfold r31_Ahead_L2_B
  repeat' with_reducible first | exact ChO.const _ | exact h_r2 _ | apply ChO.ite | apply ChO.G | apply ChO.both | (apply ChO.bind; intro _)
theorem r31_Ahead_L2_cn  (a : Tp3) (b : Tp3) : Cn (r31_Ahead_L2_F a b) := fun g h hg x => r31_Ahead_L2_B_ch  (fun κ i => g κ i) (fun i => h i) (fun i => hg i) a b x
theorem r31_Ahead_L2_eq  (a : Tp3) (b : Tp3) (i : Int) : r31_Ahead_L2 a b i = r31_Ahead_L2_B a b (r31_Ahead_L2 a b) i := LFix_eq (r31_Ahead_L2_cn a b) i

noncomputable def r1_Words_L4_B (a : Tp3) (b : Tp3) (r4 : Int → Option (Bool)) (i : Int) : Option (Bool) :=
  if (decide (i < (a.length : Int))) = true then
  G (0 ≤ i ∧ i < (a.length : Int)) (
  G (0 ≤ i ∧ i < (b.length : Int)) (
  if (decide (¬ (ix a i) = (ix b i))) = true then
  some false else
  G (fits (i + (1 : Int))) (
  r4 (i + (1 : Int))))) else
  some true
noncomputable def r1_Words_L4_F (a : Tp3) (b : Tp3) : (Int → Option (Bool)) → Int → Option (Bool) :=
  fun rec x => r1_Words_L4_B a b (fun i => rec i) x
noncomputable def r1_Words_L4 (a : Tp3) (b : Tp3) (i : Int) : Option (Bool) := LFix (r1_Words_L4_F a b ) i
noncomputable def r1_Words (a : Tp3) (b : Tp3) : Option (Bool) :=
  if (decide (¬ (a.length : Int) = (b.length : Int))) = true then
  some false else
  r1_Words_L4 a b (0 : Int)
theorem r1_Words_L4_B_ch (r4 : Nat → Int → Option (Bool)) (r4' : Int → Option (Bool)) (h_r4 : ∀ a0, ChO (fun κ => r4 κ a0) (r4' a0)) (a : Tp3) (b : Tp3) (i : Int) : ChO (fun κ => r1_Words_L4_B a b (r4 κ) i) (r1_Words_L4_B a b r4' i) := by
  unfold r1_Words_L4_B
  repeat' with_reducible first | exact ChO.const _ | exact h_r4 _ | apply ChO.ite | apply ChO.G | apply ChO.both | (apply ChO.bind; intro _)
theorem r1_Words_L4_cn  (a : Tp3) (b : Tp3) : Cn (r1_Words_L4_F a b) := fun g h hg x => r1_Words_L4_B_ch  (fun κ i => g κ i) (fun i => h i) (fun i => hg i) a b x
theorem r1_Words_L4_eq  (a : Tp3) (b : Tp3) (i : Int) : r1_Words_L4 a b i = r1_Words_L4_B a b (r1_Words_L4 a b) i := LFix_eq (r1_Words_L4_cn a b) i

noncomputable def law_LyndonTurns_L19_B (w : Tp3) (y'_4 : Tp3) (r19 : Tf3) (i_1 : Int) (seen : (List Bool)) : Option (Bool) :=
  if (decide (i_1 < (y'_4.length : Int))) = true then
  G (0 ≤ i_1 ∧ i_1 < (y'_4.length : Int)) (
  G ((i_1).toNat < y'_4.length) (
  if (decide ((ix y'_4 i_1) < (0 : Int))) = true then
  some false else
  G (0 ≤ i_1 ∧ i_1 < (y'_4.length : Int)) (
  G ((i_1).toNat < y'_4.length) (
  if (decide ((w.length : Int) ≤ (ix y'_4 i_1))) = true then
  some false else
  G (0 ≤ i_1 ∧ i_1 < (y'_4.length : Int)) (
  G ((i_1).toNat < y'_4.length) (
  G (0 ≤ ix y'_4 i_1 ∧ ix y'_4 i_1 < (seen.length : Int)) (
  G ((ix y'_4 i_1).toNat < seen.length) (
  if (ix seen (ix y'_4 i_1)) = true then
  some false else
  G (0 ≤ i_1 ∧ i_1 < (y'_4.length : Int)) (
  G ((i_1).toNat < y'_4.length) (
  G (0 ≤ ix y'_4 i_1 ∧ ix y'_4 i_1 < (seen.length : Int)) (
  G ((ix y'_4 i_1).toNat < seen.length) (
  if (decide (i_1 = (0 : Int))) = true then
  if (!true) = true then
  some false else
  G (fits (i_1 + (1 : Int))) (
  r19 (i_1 + (1 : Int)) (seen.set (ix y'_4 i_1).toNat true)) else
  G (fits (i_1 - (1 : Int))) (
  G (0 ≤ i_1 - (1 : Int) ∧ i_1 - (1 : Int) < (y'_4.length : Int)) (
  G ((i_1 - (1 : Int)).toNat < y'_4.length) (
  G (0 ≤ ix y'_4 (i_1 - (1 : Int)) ∧ ix y'_4 (i_1 - (1 : Int)) ≤ (w.length : Int) ∧ (w.length : Int) ≤ (w.length : Int)) (
  G (0 ≤ i_1 ∧ i_1 < (y'_4.length : Int)) (
  G ((i_1).toNat < y'_4.length) (
  G (0 ≤ ix y'_4 i_1 ∧ ix y'_4 i_1 ≤ (w.length : Int) ∧ (w.length : Int) ≤ (w.length : Int)) (
  (r31_Ahead (cut w (ix y'_4 (i_1 - (1 : Int))) (w.length : Int)) (cut w (ix y'_4 i_1) (w.length : Int))).bind (fun y'_11 =>
  if (!y'_11) = true then
  some false else
  G (fits (i_1 + (1 : Int))) (
  r19 (i_1 + (1 : Int)) (seen.set (ix y'_4 i_1).toNat true)))))))))))))))))))))) else
  some true
noncomputable def law_LyndonTurns_L19_F (w : Tp3) (y'_4 : Tp3) : (Int × (List Bool) → Option (Bool)) → Int × (List Bool) → Option (Bool) :=
  fun rec x => law_LyndonTurns_L19_B w y'_4 (fun i_1 seen => rec (i_1, seen)) x.1 x.2
noncomputable def law_LyndonTurns_L19 (w : Tp3) (y'_4 : Tp3) (i_1 : Int) (seen : (List Bool)) : Option (Bool) := LFix (law_LyndonTurns_L19_F w y'_4 ) (i_1, seen)
noncomputable def law_LyndonTurns_L10_B (w : Tp3) (y' : Int) (y'_4 : Tp3) (y'_7 : Tp3) (r10 : Int → Option (Bool)) (i : Int) : Option (Bool) :=
  if (decide (i < (w.length : Int))) = true then
  (r31_Turned w i).bind (fun y'_8 =>
  (r31_Ahead y'_8 y'_7).bind (fun y'_9 =>
  (r1_Words y'_8 y'_7).bind (fun y'_10 =>
  if y'_9 = true then
  some false else
  if y'_10 = true then
  if (decide (i < y')) = true then
  some false else
  G (fits (i + (1 : Int))) (
  r10 (i + (1 : Int))) else
  G (fits (i + (1 : Int))) (
  r10 (i + (1 : Int)))))) else
  G (mkOK (w.length : Int) (w.length : Int) 1) (
  law_LyndonTurns_L19 w y'_4 (0 : Int) (List.replicate ((w.length : Int)).toNat (false : Bool)))
noncomputable def law_LyndonTurns_L10_F (w : Tp3) (y' : Int) (y'_4 : Tp3) (y'_7 : Tp3) : (Int → Option (Bool)) → Int → Option (Bool) :=
  fun rec x => law_LyndonTurns_L10_B w y' y'_4 y'_7 (fun i => rec i) x
noncomputable def law_LyndonTurns_L10 (w : Tp3) (y' : Int) (y'_4 : Tp3) (y'_7 : Tp3) (i : Int) : Option (Bool) := LFix (law_LyndonTurns_L10_F w y' y'_4 y'_7 ) i
noncomputable def law_LyndonTurns_J7 (w : Tp3) (y' : Int) (y'_4 : Tp3) : Option (Bool) :=
  (r31_Turned w y').bind (fun y'_7 =>
  law_LyndonTurns_L10 w y' y'_4 y'_7 (0 : Int))
noncomputable def law_LyndonTurns (w : Tp3) : Option (Bool) :=
  (lyndon_Turn w).bind (fun y'_13 =>
  (lyndon_Ends w).bind (fun y'_12 =>
  (r1_May (4 : Int) w).bind (fun y'_6 =>
  if (decide (¬ y'_6 = (0 : Int))) = true then
  if (decide (y'_13.2 = y'_6)) = true then
  if (decide (y'_12.1 = y'_6)) = true then
  if (decide (y'_13.1 = (0 : Int))) = true then
  some (decide ((y'_12.2.length : Int) = (0 : Int))) else
  some false else
  some false else
  some false else
  if (decide (¬ y'_13.2 = (0 : Int))) = true then
  some false else
  if (decide (¬ y'_12.1 = (0 : Int))) = true then
  some false else
  if (decide (¬ (y'_12.2.length : Int) = (w.length : Int))) = true then
  some false else
  if (decide (y'_13.1 < (0 : Int))) = true then
  some false else
  if (decide ((w.length : Int) < y'_13.1)) = true then
  some false else
  if (decide (y'_13.1 = (w.length : Int))) = true then
  if (decide ((0 : Int) < y'_13.1)) = true then
  some false else
  law_LyndonTurns_J7 w y'_13.1 y'_12.2 else
  law_LyndonTurns_J7 w y'_13.1 y'_12.2)))
theorem law_LyndonTurns_L19_B_ch (r19 : Nat → Tf3) (r19' : Tf3) (h_r19 : ∀ a0 a1, ChO (fun κ => r19 κ a0 a1) (r19' a0 a1)) (w : Tp3) (y'_4 : Tp3) (i_1 : Int) (seen : (List Bool)) : ChO (fun κ => law_LyndonTurns_L19_B w y'_4 (r19 κ) i_1 seen) (law_LyndonTurns_L19_B w y'_4 r19' i_1 seen) := by
  unfold law_LyndonTurns_L19_B
  repeat' with_reducible first | exact ChO.const _ | exact h_r19 _ _ | apply ChO.ite | apply ChO.G | apply ChO.both | (apply ChO.bind; intro _)
theorem law_LyndonTurns_L19_cn  (w : Tp3) (y'_4 : Tp3) : Cn (law_LyndonTurns_L19_F w y'_4) := fun g h hg x => law_LyndonTurns_L19_B_ch  (fun κ i_1 seen => g κ (i_1, seen)) (fun i_1 seen => h (i_1, seen)) (fun i_1 seen => hg (i_1, seen)) w y'_4 x.1 x.2
theorem law_LyndonTurns_L19_eq  (w : Tp3) (y'_4 : Tp3) (i_1 : Int) (seen : (List Bool)) : law_LyndonTurns_L19 w y'_4 i_1 seen = law_LyndonTurns_L19_B w y'_4 (law_LyndonTurns_L19 w y'_4) i_1 seen := LFix_eq (law_LyndonTurns_L19_cn w y'_4) (i_1, seen)
theorem law_LyndonTurns_L10_B_ch (r10 : Nat → Int → Option (Bool)) (r10' : Int → Option (Bool)) (h_r10 : ∀ a0, ChO (fun κ => r10 κ a0) (r10' a0)) (w : Tp3) (y' : Int) (y'_4 : Tp3) (y'_7 : Tp3) (i : Int) : ChO (fun κ => law_LyndonTurns_L10_B w y' y'_4 y'_7 (r10 κ) i) (law_LyndonTurns_L10_B w y' y'_4 y'_7 r10' i) := by
  unfold law_LyndonTurns_L10_B
  repeat' with_reducible first | exact ChO.const _ | exact h_r10 _ | apply ChO.ite | apply ChO.G | apply ChO.both | (apply ChO.bind; intro _)
theorem law_LyndonTurns_L10_cn  (w : Tp3) (y' : Int) (y'_4 : Tp3) (y'_7 : Tp3) : Cn (law_LyndonTurns_L10_F w y' y'_4 y'_7) := fun g h hg x => law_LyndonTurns_L10_B_ch  (fun κ i => g κ i) (fun i => h i) (fun i => hg i) w y' y'_4 y'_7 x
theorem law_LyndonTurns_L10_eq  (w : Tp3) (y' : Int) (y'_4 : Tp3) (y'_7 : Tp3) (i : Int) : law_LyndonTurns_L10 w y' y'_4 y'_7 i = law_LyndonTurns_L10_B w y' y'_4 y'_7 (law_LyndonTurns_L10 w y' y'_4 y'_7) i := LFix_eq (law_LyndonTurns_L10_cn w y' y'_4 y'_7) i

end Go.Proofs.Ytighoanekfodoaa.lyndonTurnsW
