/- What the functions that 'GramUseful' reaches compute: plain functions. -/
import Derived.Test.YtmekpjgicmgmfaaEv30n21
set_option maxHeartbeats 1000000
set_option maxRecDepth 20000
set_option linter.unusedSimpArgs false
set_option linter.unusedVariables false
set_option linter.unusedSectionVars false
namespace Go.Proofs.Ytmekpjgicmgmfaa.gramUsefulW
open Go Go.Ab
abbrev Tp7 := (List Int)
abbrev Tp6 := (List Bool)
abbrev Tp5 := (List Tp7)
abbrev Tp4 := (Int × Tp7 × Unit)
abbrev Tp3 := (List Tp4)
abbrev Tp2 := (Tp3 × Tp7)
abbrev Tp1 := (Int × Int × Tp3 × Unit)
abbrev Tf1 := Bool → Int → Tp6 → Tp6 → Option (Bool)
abbrev Tf2 := Bool → Tp6 → Tp6 → Option (Bool)
abbrev Tf3 := Bool → Int → Tp6 → Option (Bool)
noncomputable def gram_Check_1 (s : Int) (t : Tp1) : Option (Bool) :=
  if (decide (s < (0 : Int))) = true then
  some true else
  G (fits (t.1 + t.2.1)) (
  some (decide ((t.1 + t.2.1) ≤ s)))

noncomputable def slices_IndexFunc_L2_B (s : Tp7) (c : Tp1) (r2 : Int → Option (Int)) (t : Int) : Option (Int) :=
  if (decide (t < (s.length : Int))) = true then
  G (0 ≤ t ∧ t < (s.length : Int)) (
  (gram_Check_1 (ix s t) c).bind (fun y' =>
  if y' = true then
  some t else
  G (fits (t + (1 : Int))) (
  r2 (t + (1 : Int))))) else
  some (-1 : Int)
noncomputable def slices_IndexFunc_L2_F (s : Tp7) (c : Tp1) : (Int → Option (Int)) → Int → Option (Int) :=
  fun rec x => slices_IndexFunc_L2_B s c (fun t => rec t) x
noncomputable def slices_IndexFunc_L2 (s : Tp7) (c : Tp1) (t : Int) : Option (Int) := LFix (slices_IndexFunc_L2_F s c ) t
noncomputable def slices_IndexFunc (s : Tp7) (c : Tp1) : Option (Int) :=
  slices_IndexFunc_L2 s c (0 : Int)
theorem slices_IndexFunc_L2_B_ch (r2 : Nat → Int → Option (Int)) (r2' : Int → Option (Int)) (h_r2 : ∀ a0, ChO (fun κ => r2 κ a0) (r2' a0)) (s : Tp7) (c : Tp1) (t : Int) : ChO (fun κ => slices_IndexFunc_L2_B s c (r2 κ) t) (slices_IndexFunc_L2_B s c r2' t) := by
  unfold slices_IndexFunc_L2_B
  repeat' with_reducible first | exact ChO.const _ | exact h_r2 _ | apply ChO.ite | apply ChO.G | apply ChO.both | (apply ChO.bind; intro _)
theorem slices_IndexFunc_L2_cn  (s : Tp7) (c : Tp1) : Cn (slices_IndexFunc_L2_F s c) := fun g h hg x => slices_IndexFunc_L2_B_ch  (fun κ t => g κ t) (fun t => h t) (fun t => hg t) s c x
theorem slices_IndexFunc_L2_eq  (s : Tp7) (c : Tp1) (t : Int) : slices_IndexFunc_L2 s c t = slices_IndexFunc_L2_B s c (slices_IndexFunc_L2 s c) t := LFix_eq (slices_IndexFunc_L2_cn s c) t

noncomputable def slices_ContainsFunc (s : Tp7) (c : Tp1) : Option (Bool) :=
  (slices_IndexFunc s c).bind (fun y' =>
  some (decide ((0 : Int) ≤ y')))

noncomputable def gram_Check_L6_B (g' : Tp1) (r6 : Int → Option (Int)) (t : Int) : Option (Int) :=
  if (decide (t < (g'.2.2.1.length : Int))) = true then
  G (0 ≤ t ∧ t < (g'.2.2.1.length : Int)) (
  if (decide (((ix g'.2.2.1 t).1) < (0 : Int))) = true then
  some (2 : Int) else
  if (decide (g'.2.1 ≤ ((ix g'.2.2.1 t).1))) = true then
  some (2 : Int) else
  if (decide ((3 : Int) < ((((ix g'.2.2.1 t).2).1).length : Int))) = true then
  some (1 : Int) else
  (slices_ContainsFunc (((ix g'.2.2.1 t).2).1) (g'.1, (g'.2.1, (g'.2.2.1, ())))).bind (fun y' =>
  if y' = true then
  some (2 : Int) else
  G (fits (t + (1 : Int))) (
  r6 (t + (1 : Int))))) else
  some (0 : Int)
noncomputable def gram_Check_L6_F (g' : Tp1) : (Int → Option (Int)) → Int → Option (Int) :=
  fun rec x => gram_Check_L6_B g' (fun t => rec t) x
noncomputable def gram_Check_L6 (g' : Tp1) (t : Int) : Option (Int) := LFix (gram_Check_L6_F g' ) t
noncomputable def gram_Check (g' : Tp1) : Option (Int) :=
  if (decide (g'.1 < (1 : Int))) = true then
  some (2 : Int) else
  if (decide ((4 : Int) < g'.1)) = true then
  some (2 : Int) else
  if (decide (g'.2.1 < (1 : Int))) = true then
  some (1 : Int) else
  if (decide ((6 : Int) < g'.2.1)) = true then
  some (1 : Int) else
  if (decide ((20 : Int) < (g'.2.2.1.length : Int))) = true then
  some (1 : Int) else
  gram_Check_L6 g' (0 : Int)
theorem gram_Check_L6_B_ch (r6 : Nat → Int → Option (Int)) (r6' : Int → Option (Int)) (h_r6 : ∀ a0, ChO (fun κ => r6 κ a0) (r6' a0)) (g' : Tp1) (t : Int) : ChO (fun κ => gram_Check_L6_B g' (r6 κ) t) (gram_Check_L6_B g' r6' t) := by
  unfold gram_Check_L6_B
  repeat' with_reducible first | exact ChO.const _ | exact h_r6 _ | apply ChO.ite | apply ChO.G | apply ChO.both | (apply ChO.bind; intro _)
theorem gram_Check_L6_cn  (g' : Tp1) : Cn (gram_Check_L6_F g') := fun g h hg x => gram_Check_L6_B_ch  (fun κ t => g κ t) (fun t => h t) (fun t => hg t) g' x
theorem gram_Check_L6_eq  (g' : Tp1) (t : Int) : gram_Check_L6 g' t = gram_Check_L6_B g' (gram_Check_L6 g') t := LFix_eq (gram_Check_L6_cn g') t

noncomputable def gram_ending_1 (s : Int) (t : Tp1) (t_1 : Tp7) : Option (Bool) :=
  if (decide (t.1 ≤ s)) = true then
  G (fits (s - t.1)) (
  G (0 ≤ s - t.1 ∧ s - t.1 < (t_1.length : Int)) (
  some (decide ((ix t_1 (s - t.1)) = (0 : Int))))) else
  some false

noncomputable def slices_IndexFunc_1_L2_B (s : Tp7) (c : Tp1) (c_1 : Tp7) (r2 : Int → Option (Int)) (t : Int) : Option (Int) :=
  if (decide (t < (s.length : Int))) = true then
  G (0 ≤ t ∧ t < (s.length : Int)) (
  (gram_ending_1 (ix s t) c c_1).bind (fun y' =>
  if y' = true then
  some t else
  G (fits (t + (1 : Int))) (
  r2 (t + (1 : Int))))) else
  some (-1 : Int)
noncomputable def slices_IndexFunc_1_L2_F (s : Tp7) (c : Tp1) (c_1 : Tp7) : (Int → Option (Int)) → Int → Option (Int) :=
  fun rec x => slices_IndexFunc_1_L2_B s c c_1 (fun t => rec t) x
noncomputable def slices_IndexFunc_1_L2 (s : Tp7) (c : Tp1) (c_1 : Tp7) (t : Int) : Option (Int) := LFix (slices_IndexFunc_1_L2_F s c c_1 ) t
noncomputable def slices_IndexFunc_1 (s : Tp7) (c : Tp1) (c_1 : Tp7) : Option (Int) :=
  slices_IndexFunc_1_L2 s c c_1 (0 : Int)
theorem slices_IndexFunc_1_L2_B_ch (r2 : Nat → Int → Option (Int)) (r2' : Int → Option (Int)) (h_r2 : ∀ a0, ChO (fun κ => r2 κ a0) (r2' a0)) (s : Tp7) (c : Tp1) (c_1 : Tp7) (t : Int) : ChO (fun κ => slices_IndexFunc_1_L2_B s c c_1 (r2 κ) t) (slices_IndexFunc_1_L2_B s c c_1 r2' t) := by
  unfold slices_IndexFunc_1_L2_B
  repeat' with_reducible first | exact ChO.const _ | exact h_r2 _ | apply ChO.ite | apply ChO.G | apply ChO.both | (apply ChO.bind; intro _)
theorem slices_IndexFunc_1_L2_cn  (s : Tp7) (c : Tp1) (c_1 : Tp7) : Cn (slices_IndexFunc_1_L2_F s c c_1) := fun g h hg x => slices_IndexFunc_1_L2_B_ch  (fun κ t => g κ t) (fun t => h t) (fun t => hg t) s c c_1 x
theorem slices_IndexFunc_1_L2_eq  (s : Tp7) (c : Tp1) (c_1 : Tp7) (t : Int) : slices_IndexFunc_1_L2 s c c_1 t = slices_IndexFunc_1_L2_B s c c_1 (slices_IndexFunc_1_L2 s c c_1) t := LFix_eq (slices_IndexFunc_1_L2_cn s c c_1) t

noncomputable def slices_ContainsFunc_1 (s : Tp7) (c : Tp1) (c_1 : Tp7) : Option (Bool) :=
  (slices_IndexFunc_1 s c c_1).bind (fun y' =>
  some (decide ((0 : Int) ≤ y')))

noncomputable def gram_ending_J8 (g' : Tp1) (again_1 : Bool) (t : Int) (l_1 : Tp7) (r6 : (Bool → Int → Tp7 → Option Tp7)) (t_1 : Bool) : Option Tp7 :=
  if t_1 = true then
  G (0 ≤ (ix g'.2.2.1 t).1 ∧ (ix g'.2.2.1 t).1 < (l_1.length : Int)) (
  G (((ix g'.2.2.1 t).1).toNat < l_1.length) (
  G (fits (t + (1 : Int))) (
  r6 true (t + (1 : Int)) (l_1.set ((ix g'.2.2.1 t).1).toNat (1 : Int))))) else
  G (fits (t + (1 : Int))) (
  r6 again_1 (t + (1 : Int)) l_1)
noncomputable def gram_ending_L6_B (g' : Tp1) (r3 : (Bool → Tp7 → Option Tp7)) (r6 : Bool → Int → Tp7 → Option Tp7) (again_1 : Bool) (t : Int) (l_1 : Tp7) : Option Tp7 :=
  if (decide (t < (g'.2.2.1.length : Int))) = true then
  G (0 ≤ t ∧ t < (g'.2.2.1.length : Int)) (
  G (0 ≤ (ix g'.2.2.1 t).1 ∧ (ix g'.2.2.1 t).1 < (l_1.length : Int)) (
  G (((ix g'.2.2.1 t).1).toNat < l_1.length) (
  if (decide ((ix l_1 ((ix g'.2.2.1 t).1)) = (0 : Int))) = true then
  (slices_ContainsFunc_1 (((ix g'.2.2.1 t).2).1) (g'.1, (g'.2.1, (g'.2.2.1, ()))) l_1).bind (fun y' =>
  gram_ending_J8 g' again_1 t l_1 r6 (!y')) else
  gram_ending_J8 g' again_1 t l_1 r6 false))) else
  r3 again_1 l_1
noncomputable def gram_ending_L6_F (g' : Tp1) (r3 : (Bool → Tp7 → Option Tp7)) : (Bool × Int × Tp7 → Option Tp7) → Bool × Int × Tp7 → Option Tp7 :=
  fun rec x => gram_ending_L6_B g' r3 (fun again_1 t l_1 => rec (again_1, t, l_1)) x.1 x.2.1 x.2.2
noncomputable def gram_ending_L6 (g' : Tp1) (r3 : (Bool → Tp7 → Option Tp7)) (again_1 : Bool) (t : Int) (l_1 : Tp7) : Option Tp7 := LFix (gram_ending_L6_F g' r3 ) (again_1, t, l_1)
noncomputable def gram_ending_L3_B (g' : Tp1) (r3 : Bool → Tp7 → Option Tp7) (again : Bool) (l : Tp7) : Option Tp7 :=
  if again = true then
  gram_ending_L6 g' r3 false (0 : Int) l else
  some l
noncomputable def gram_ending_L3_F (g' : Tp1) : (Bool × Tp7 → Option Tp7) → Bool × Tp7 → Option Tp7 :=
  fun rec x => gram_ending_L3_B g' (fun again l => rec (again, l)) x.1 x.2
noncomputable def gram_ending_L3 (g' : Tp1) (again : Bool) (l : Tp7) : Option Tp7 := LFix (gram_ending_L3_F g' ) (again, l)
noncomputable def gram_ending (g' : Tp1) : Option Tp7 :=
  G (mkOK g'.2.1 g'.2.1 8) (
  gram_ending_L3 g' true (List.replicate (g'.2.1).toNat (0 : Int)))
theorem gram_ending_J8_ch (r6 : Nat → Bool → Int → Tp7 → Option Tp7) (r6' : Bool → Int → Tp7 → Option Tp7) (h_r6 : ∀ a0 a1 a2, ChO (fun κ => r6 κ a0 a1 a2) (r6' a0 a1 a2)) (g' : Tp1) (again_1 : Bool) (t : Int) (l_1 : Tp7) (t_1 : Bool) : ChO (fun κ => gram_ending_J8 g' again_1 t l_1 (r6 κ) t_1) (gram_ending_J8 g' again_1 t l_1 r6' t_1) := by
  unfold gram_ending_J8
  repeat' with_reducible first | exact ChO.const _ | exact h_r6 _ _ _ | apply ChO.ite | apply ChO.G | apply ChO.both | (apply ChO.bind; intro _)
theorem gram_ending_L6_B_ch (r3 : Nat → Bool → Tp7 → Option Tp7) (r3' : Bool → Tp7 → Option Tp7) (h_r3 : ∀ a0 a1, ChO (fun κ => r3 κ a0 a1) (r3' a0 a1)) (r6 : Nat → Bool → Int → Tp7 → Option Tp7) (r6' : Bool → Int → Tp7 → Option Tp7) (h_r6 : ∀ a0 a1 a2, ChO (fun κ => r6 κ a0 a1 a2) (r6' a0 a1 a2)) (g' : Tp1) (again_1 : Bool) (t : Int) (l_1 : Tp7) : ChO (fun κ => gram_ending_L6_B g' (r3 κ) (r6 κ) again_1 t l_1) (gram_ending_L6_B g' r3' r6' again_1 t l_1) := by
  unfold gram_ending_L6_B
  repeat' with_reducible first | exact ChO.const _ | exact h_r3 _ _ | exact h_r6 _ _ _ | (apply gram_ending_J8_ch <;> assumption) | apply ChO.ite | apply ChO.G | apply ChO.both | (apply ChO.bind; intro _)
theorem gram_ending_L6_cn (r3 : Bool → Tp7 → Option Tp7) (g' : Tp1) : Cn (gram_ending_L6_F g' r3) := fun g h hg x => gram_ending_L6_B_ch (fun _ => r3) r3 (fun _ _ => ChO.const _) (fun κ again_1 t l_1 => g κ (again_1, t, l_1)) (fun again_1 t l_1 => h (again_1, t, l_1)) (fun again_1 t l_1 => hg (again_1, t, l_1)) g' x.1 x.2.1 x.2.2
theorem gram_ending_L6_eq (r3 : Bool → Tp7 → Option Tp7) (g' : Tp1) (again_1 : Bool) (t : Int) (l_1 : Tp7) : gram_ending_L6 g' r3 again_1 t l_1 = gram_ending_L6_B g' r3 (gram_ending_L6 g' r3) again_1 t l_1 := LFix_eq (gram_ending_L6_cn r3 g') (again_1, t, l_1)
theorem gram_ending_L6_ch (r3 : Nat → Bool → Tp7 → Option Tp7) (r3' : Bool → Tp7 → Option Tp7) (h_r3 : ∀ a0 a1, ChO (fun κ => r3 κ a0 a1) (r3' a0 a1)) (g' : Tp1) (again_1 : Bool) (t : Int) (l_1 : Tp7) : ChO (fun κ => gram_ending_L6 g' (r3 κ) again_1 t l_1) (gram_ending_L6 g' r3' again_1 t l_1) := by
  unfold gram_ending_L6
  exact LFix_ch (fun κ => (gram_ending_L6_cn (r3 κ) g').mono) (gram_ending_L6_cn r3' g').mono (fun g h hg x => gram_ending_L6_B_ch r3 r3' h_r3 (fun κ again_1 t l_1 => g κ (again_1, t, l_1)) (fun again_1 t l_1 => h (again_1, t, l_1)) (fun again_1 t l_1 => hg (again_1, t, l_1)) g' x.1 x.2.1 x.2.2) _
theorem gram_ending_L3_B_ch (r3 : Nat → Bool → Tp7 → Option Tp7) (r3' : Bool → Tp7 → Option Tp7) (h_r3 : ∀ a0 a1, ChO (fun κ => r3 κ a0 a1) (r3' a0 a1)) (g' : Tp1) (again : Bool) (l : Tp7) : ChO (fun κ => gram_ending_L3_B g' (r3 κ) again l) (gram_ending_L3_B g' r3' again l) := by
  unfold gram_ending_L3_B
  repeat' with_reducible first | exact ChO.const _ | exact h_r3 _ _ | (apply gram_ending_J8_ch <;> assumption) | (apply gram_ending_L6_ch <;> assumption) | apply ChO.ite | apply ChO.G | apply ChO.both | (apply ChO.bind; intro _)
theorem gram_ending_L3_cn  (g' : Tp1) : Cn (gram_ending_L3_F g') := fun g h hg x => gram_ending_L3_B_ch  (fun κ again l => g κ (again, l)) (fun again l => h (again, l)) (fun again l => hg (again, l)) g' x.1 x.2
theorem gram_ending_L3_eq  (g' : Tp1) (again : Bool) (l : Tp7) : gram_ending_L3 g' again l = gram_ending_L3_B g' (gram_ending_L3 g') again l := LFix_eq (gram_ending_L3_cn g') (again, l)

noncomputable def gram_useful_1 (s : Int) (t : Tp1) (t_1 : Tp7) : Option (Bool) :=
  if (decide (t.1 ≤ s)) = true then
  G (fits (s - t.1)) (
  G (0 ≤ s - t.1 ∧ s - t.1 < (t_1.length : Int)) (
  some (decide ((ix t_1 (s - t.1)) = (0 : Int))))) else
  some false

noncomputable def slices_IndexFunc_2_L2_B (s : Tp7) (c : Tp1) (c_1 : Tp7) (r2 : Int → Option (Int)) (t : Int) : Option (Int) :=
  if (decide (t < (s.length : Int))) = true then
  G (0 ≤ t ∧ t < (s.length : Int)) (
  (gram_useful_1 (ix s t) c c_1).bind (fun y' =>
  if y' = true then
  some t else
  G (fits (t + (1 : Int))) (
  r2 (t + (1 : Int))))) else
  some (-1 : Int)
noncomputable def slices_IndexFunc_2_L2_F (s : Tp7) (c : Tp1) (c_1 : Tp7) : (Int → Option (Int)) → Int → Option (Int) :=
  fun rec x => slices_IndexFunc_2_L2_B s c c_1 (fun t => rec t) x
noncomputable def slices_IndexFunc_2_L2 (s : Tp7) (c : Tp1) (c_1 : Tp7) (t : Int) : Option (Int) := LFix (slices_IndexFunc_2_L2_F s c c_1 ) t
noncomputable def slices_IndexFunc_2 (s : Tp7) (c : Tp1) (c_1 : Tp7) : Option (Int) :=
  slices_IndexFunc_2_L2 s c c_1 (0 : Int)
theorem slices_IndexFunc_2_L2_B_ch (r2 : Nat → Int → Option (Int)) (r2' : Int → Option (Int)) (h_r2 : ∀ a0, ChO (fun κ => r2 κ a0) (r2' a0)) (s : Tp7) (c : Tp1) (c_1 : Tp7) (t : Int) : ChO (fun κ => slices_IndexFunc_2_L2_B s c c_1 (r2 κ) t) (slices_IndexFunc_2_L2_B s c c_1 r2' t) := by
  unfold slices_IndexFunc_2_L2_B
  repeat' with_reducible first | exact ChO.const _ | exact h_r2 _ | apply ChO.ite | apply ChO.G | apply ChO.both | (apply ChO.bind; intro _)
theorem slices_IndexFunc_2_L2_cn  (s : Tp7) (c : Tp1) (c_1 : Tp7) : Cn (slices_IndexFunc_2_L2_F s c c_1) := fun g h hg x => slices_IndexFunc_2_L2_B_ch  (fun κ t => g κ t) (fun t => h t) (fun t => hg t) s c c_1 x
theorem slices_IndexFunc_2_L2_eq  (s : Tp7) (c : Tp1) (c_1 : Tp7) (t : Int) : slices_IndexFunc_2_L2 s c c_1 t = slices_IndexFunc_2_L2_B s c c_1 (slices_IndexFunc_2_L2 s c c_1) t := LFix_eq (slices_IndexFunc_2_L2_cn s c c_1) t

noncomputable def slices_ContainsFunc_2 (s : Tp7) (c : Tp1) (c_1 : Tp7) : Option (Bool) :=
  (slices_IndexFunc_2 s c c_1).bind (fun y' =>
  some (decide ((0 : Int) ≤ y')))

noncomputable def gram_useful_2 (m : Tp4) (t : Tp7) : Option (Bool) :=
  G (0 ≤ m.1 ∧ m.1 < (t.length : Int)) (
  some (decide ((ix t m.1) = (0 : Int))))

noncomputable def slices_IndexFunc_3_L2_B (s : Tp3) (c : Tp7) (r2 : Int → Option (Int)) (t : Int) : Option (Int) :=
  if (decide (t < (s.length : Int))) = true then
  G (0 ≤ t ∧ t < (s.length : Int)) (
  (gram_useful_2 (ix s t) c).bind (fun y' =>
  if y' = true then
  some t else
  G (fits (t + (1 : Int))) (
  r2 (t + (1 : Int))))) else
  some (-1 : Int)
noncomputable def slices_IndexFunc_3_L2_F (s : Tp3) (c : Tp7) : (Int → Option (Int)) → Int → Option (Int) :=
  fun rec x => slices_IndexFunc_3_L2_B s c (fun t => rec t) x
noncomputable def slices_IndexFunc_3_L2 (s : Tp3) (c : Tp7) (t : Int) : Option (Int) := LFix (slices_IndexFunc_3_L2_F s c ) t
noncomputable def slices_IndexFunc_3 (s : Tp3) (c : Tp7) : Option (Int) :=
  slices_IndexFunc_3_L2 s c (0 : Int)
theorem slices_IndexFunc_3_L2_B_ch (r2 : Nat → Int → Option (Int)) (r2' : Int → Option (Int)) (h_r2 : ∀ a0, ChO (fun κ => r2 κ a0) (r2' a0)) (s : Tp3) (c : Tp7) (t : Int) : ChO (fun κ => slices_IndexFunc_3_L2_B s c (r2 κ) t) (slices_IndexFunc_3_L2_B s c r2' t) := by
  unfold slices_IndexFunc_3_L2_B
  repeat' with_reducible first | exact ChO.const _ | exact h_r2 _ | apply ChO.ite | apply ChO.G | apply ChO.both | (apply ChO.bind; intro _)
theorem slices_IndexFunc_3_L2_cn  (s : Tp3) (c : Tp7) : Cn (slices_IndexFunc_3_L2_F s c) := fun g h hg x => slices_IndexFunc_3_L2_B_ch  (fun κ t => g κ t) (fun t => h t) (fun t => hg t) s c x
theorem slices_IndexFunc_3_L2_eq  (s : Tp3) (c : Tp7) (t : Int) : slices_IndexFunc_3_L2 s c t = slices_IndexFunc_3_L2_B s c (slices_IndexFunc_3_L2 s c) t := LFix_eq (slices_IndexFunc_3_L2_cn s c) t

noncomputable def slices_DeleteFunc_L5_B (c : Tp7) (r5 : Int → Int → Tp3 → Option Tp3) (i : Int) (j : Int) (s_1 : Tp3) : Option Tp3 :=
  if (decide (j < (s_1.length : Int))) = true then
  G (0 ≤ j ∧ j < (s_1.length : Int)) (
  G ((j).toNat < s_1.length) (
  (gram_useful_2 ((ix s_1 j).1, (((ix s_1 j).2).1, ())) c).bind (fun y'_1 =>
  if (!y'_1) = true then
  G (0 ≤ i ∧ i < (s_1.length : Int)) (
  G ((i).toNat < s_1.length) (
  G (fits (i + (1 : Int))) (
  G (fits (j + (1 : Int))) (
  r5 (i + (1 : Int)) (j + (1 : Int)) (s_1.set (i).toNat ((ix s_1 j).1, (((ix s_1 j).2).1, ()))))))) else
  G (fits (j + (1 : Int))) (
  r5 i (j + (1 : Int)) s_1)))) else
  G (0 ≤ i ∧ i ≤ (s_1.length : Int)) (
  G (((i).toNat) + (s_1.length - (i).toNat) ≤ s_1.length) (
  G (0 ≤ i ∧ i ≤ ((s_1.take ((i).toNat) ++ List.replicate (s_1.length - (i).toNat) ((0, ([], ())) : Int × Tp7 × Unit) ++ s_1.drop (((i).toNat) + (s_1.length - (i).toNat))).length : Int)) (
  some ((s_1.take ((i).toNat) ++ List.replicate (s_1.length - (i).toNat) ((0, ([], ())) : Int × Tp7 × Unit) ++ s_1.drop (((i).toNat) + (s_1.length - (i).toNat))).take (i).toNat))))
noncomputable def slices_DeleteFunc_L5_F (c : Tp7) : (Int × Int × Tp3 → Option Tp3) → Int × Int × Tp3 → Option Tp3 :=
  fun rec x => slices_DeleteFunc_L5_B c (fun i j s_1 => rec (i, j, s_1)) x.1 x.2.1 x.2.2
noncomputable def slices_DeleteFunc_L5 (c : Tp7) (i : Int) (j : Int) (s_1 : Tp3) : Option Tp3 := LFix (slices_DeleteFunc_L5_F c ) (i, j, s_1)
noncomputable def slices_DeleteFunc (c : Tp7) (s : Tp3) : Option Tp3 :=
  (slices_IndexFunc_3 s c).bind (fun y' =>
  if (decide (y' = (-1 : Int))) = true then
  some s else
  G (fits (y' + (1 : Int))) (
  slices_DeleteFunc_L5 c y' (y' + (1 : Int)) s))
theorem slices_DeleteFunc_L5_B_ch (r5 : Nat → Int → Int → Tp3 → Option Tp3) (r5' : Int → Int → Tp3 → Option Tp3) (h_r5 : ∀ a0 a1 a2, ChO (fun κ => r5 κ a0 a1 a2) (r5' a0 a1 a2)) (c : Tp7) (i : Int) (j : Int) (s_1 : Tp3) : ChO (fun κ => slices_DeleteFunc_L5_B c (r5 κ) i j s_1) (slices_DeleteFunc_L5_B c r5' i j s_1) := by
  unfold slices_DeleteFunc_L5_B
  repeat' with_reducible first | exact ChO.const _ | exact h_r5 _ _ _ | apply ChO.ite | apply ChO.G | apply ChO.both | (apply ChO.bind; intro _)
theorem slices_DeleteFunc_L5_cn  (c : Tp7) : Cn (slices_DeleteFunc_L5_F c) := fun g h hg x => slices_DeleteFunc_L5_B_ch  (fun κ i j s_1 => g κ (i, j, s_1)) (fun i j s_1 => h (i, j, s_1)) (fun i j s_1 => hg (i, j, s_1)) c x.1 x.2.1 x.2.2
theorem slices_DeleteFunc_L5_eq  (c : Tp7) (i : Int) (j : Int) (s_1 : Tp3) : slices_DeleteFunc_L5 c i j s_1 = slices_DeleteFunc_L5_B c (slices_DeleteFunc_L5 c) i j s_1 := LFix_eq (slices_DeleteFunc_L5_cn c) (i, j, s_1)

noncomputable def slices_DeleteFunc_1_L5_B (l : Tp7) (r5 : Int → Int → Tp3 → Option Tp2) (i : Int) (j : Int) (s_1 : Tp3) : Option Tp2 :=
  if (decide (j < (s_1.length : Int))) = true then
  G (0 ≤ j ∧ j < (s_1.length : Int)) (
  G ((j).toNat < s_1.length) (
  (gram_useful_2 ((ix s_1 j).1, (((ix s_1 j).2).1, ())) l).bind (fun y'_1 =>
  if (!y'_1) = true then
  G (0 ≤ i ∧ i < (s_1.length : Int)) (
  G ((i).toNat < s_1.length) (
  G (fits (i + (1 : Int))) (
  G (fits (j + (1 : Int))) (
  r5 (i + (1 : Int)) (j + (1 : Int)) (s_1.set (i).toNat ((ix s_1 j).1, (((ix s_1 j).2).1, ()))))))) else
  G (fits (j + (1 : Int))) (
  r5 i (j + (1 : Int)) s_1)))) else
  G (0 ≤ i ∧ i ≤ (s_1.length : Int)) (
  G (((i).toNat) + (s_1.length - (i).toNat) ≤ s_1.length) (
  G (0 ≤ i ∧ i ≤ ((s_1.take ((i).toNat) ++ List.replicate (s_1.length - (i).toNat) ((0, ([], ())) : Int × Tp7 × Unit) ++ s_1.drop (((i).toNat) + (s_1.length - (i).toNat))).length : Int)) (
  some ((s_1.take ((i).toNat) ++ List.replicate (s_1.length - (i).toNat) ((0, ([], ())) : Int × Tp7 × Unit) ++ s_1.drop (((i).toNat) + (s_1.length - (i).toNat))).take (i).toNat, l))))
noncomputable def slices_DeleteFunc_1_L5_F (l : Tp7) : (Int × Int × Tp3 → Option Tp2) → Int × Int × Tp3 → Option Tp2 :=
  fun rec x => slices_DeleteFunc_1_L5_B l (fun i j s_1 => rec (i, j, s_1)) x.1 x.2.1 x.2.2
noncomputable def slices_DeleteFunc_1_L5 (l : Tp7) (i : Int) (j : Int) (s_1 : Tp3) : Option Tp2 := LFix (slices_DeleteFunc_1_L5_F l ) (i, j, s_1)
noncomputable def slices_DeleteFunc_1 (s : Tp3) (l : Tp7) : Option Tp2 :=
  (slices_IndexFunc_3 s l).bind (fun y' =>
  if (decide (y' = (-1 : Int))) = true then
  some (s, l) else
  G (fits (y' + (1 : Int))) (
  slices_DeleteFunc_1_L5 l y' (y' + (1 : Int)) s))
theorem slices_DeleteFunc_1_L5_B_ch (r5 : Nat → Int → Int → Tp3 → Option Tp2) (r5' : Int → Int → Tp3 → Option Tp2) (h_r5 : ∀ a0 a1 a2, ChO (fun κ => r5 κ a0 a1 a2) (r5' a0 a1 a2)) (l : Tp7) (i : Int) (j : Int) (s_1 : Tp3) : ChO (fun κ => slices_DeleteFunc_1_L5_B l (r5 κ) i j s_1) (slices_DeleteFunc_1_L5_B l r5' i j s_1) := by
  unfold slices_DeleteFunc_1_L5_B
  repeat' with_reducible first | exact ChO.const _ | exact h_r5 _ _ _ | apply ChO.ite | apply ChO.G | apply ChO.both | (apply ChO.bind; intro _)
theorem slices_DeleteFunc_1_L5_cn  (l : Tp7) : Cn (slices_DeleteFunc_1_L5_F l) := fun g h hg x => slices_DeleteFunc_1_L5_B_ch  (fun κ i j s_1 => g κ (i, j, s_1)) (fun i j s_1 => h (i, j, s_1)) (fun i j s_1 => hg (i, j, s_1)) l x.1 x.2.1 x.2.2
theorem slices_DeleteFunc_1_L5_eq  (l : Tp7) (i : Int) (j : Int) (s_1 : Tp3) : slices_DeleteFunc_1_L5 l i j s_1 = slices_DeleteFunc_1_L5_B l (slices_DeleteFunc_1_L5 l) i j s_1 := LFix_eq (slices_DeleteFunc_1_L5_cn l) (i, j, s_1)

noncomputable def gram_useful_J20 (g' : Tp1) (l : Tp3) (t_1 : Int) (again_2 : Bool) (t_2 : Int) (l_3 : Tp7) (r18 : (Bool → Int → Tp7 → Option Tp2)) (t_3 : Bool) : Option Tp2 :=
  if t_3 = true then
  G (fits ((ix (((ix l t_1).2).1) t_2) - g'.1)) (
  G (0 ≤ (ix (((ix l t_1).2).1) t_2) - g'.1 ∧ (ix (((ix l t_1).2).1) t_2) - g'.1 < (l_3.length : Int)) (
  G (((ix (((ix l t_1).2).1) t_2) - g'.1).toNat < l_3.length) (
  G (fits (t_2 + (1 : Int))) (
  r18 true (t_2 + (1 : Int)) (l_3.set ((ix (((ix l t_1).2).1) t_2) - g'.1).toNat (1 : Int)))))) else
  G (fits (t_2 + (1 : Int))) (
  r18 again_2 (t_2 + (1 : Int)) l_3)
noncomputable def gram_useful_L18_B (g' : Tp1) (l : Tp3) (t_1 : Int) (r15 : (Bool → Int → Tp7 → Option Tp2)) (r18 : Bool → Int → Tp7 → Option Tp2) (again_2 : Bool) (t_2 : Int) (l_3 : Tp7) : Option Tp2 :=
  if (decide (t_2 < ((((ix l t_1).2).1).length : Int))) = true then
  G (0 ≤ t_2 ∧ t_2 < ((((ix l t_1).2).1).length : Int)) (
  if (decide (g'.1 ≤ (ix (((ix l t_1).2).1) t_2))) = true then
  G (0 ≤ (ix l t_1).1 ∧ (ix l t_1).1 < (l_3.length : Int)) (
  G (((ix l t_1).1).toNat < l_3.length) (
  if (decide ((ix l_3 ((ix l t_1).1)) = (1 : Int))) = true then
  G (fits ((ix (((ix l t_1).2).1) t_2) - g'.1)) (
  G (0 ≤ (ix (((ix l t_1).2).1) t_2) - g'.1 ∧ (ix (((ix l t_1).2).1) t_2) - g'.1 < (l_3.length : Int)) (
  G (((ix (((ix l t_1).2).1) t_2) - g'.1).toNat < l_3.length) (
  gram_useful_J20 g' l t_1 again_2 t_2 l_3 r18 (decide ((ix l_3 ((ix (((ix l t_1).2).1) t_2) - g'.1)) = (0 : Int)))))) else
  gram_useful_J20 g' l t_1 again_2 t_2 l_3 r18 false)) else
  gram_useful_J20 g' l t_1 again_2 t_2 l_3 r18 false) else
  G (fits (t_1 + (1 : Int))) (
  r15 again_2 (t_1 + (1 : Int)) l_3)
noncomputable def gram_useful_L18_F (g' : Tp1) (l : Tp3) (t_1 : Int) (r15 : (Bool → Int → Tp7 → Option Tp2)) : (Bool × Int × Tp7 → Option Tp2) → Bool × Int × Tp7 → Option Tp2 :=
  fun rec x => gram_useful_L18_B g' l t_1 r15 (fun again_2 t_2 l_3 => rec (again_2, t_2, l_3)) x.1 x.2.1 x.2.2
noncomputable def gram_useful_L18 (g' : Tp1) (l : Tp3) (t_1 : Int) (r15 : (Bool → Int → Tp7 → Option Tp2)) (again_2 : Bool) (t_2 : Int) (l_3 : Tp7) : Option Tp2 := LFix (gram_useful_L18_F g' l t_1 r15 ) (again_2, t_2, l_3)
noncomputable def gram_useful_L15_B (g' : Tp1) (l : Tp3) (r12 : (Bool → Tp7 → Option Tp2)) (r15 : Bool → Int → Tp7 → Option Tp2) (again_1 : Bool) (t_1 : Int) (l_2 : Tp7) : Option Tp2 :=
  if (decide (t_1 < (l.length : Int))) = true then
  G (0 ≤ t_1 ∧ t_1 < (l.length : Int)) (
  G ((t_1).toNat < l.length) (
  gram_useful_L18 g' l t_1 r15 again_1 (0 : Int) l_2)) else
  r12 again_1 l_2
noncomputable def gram_useful_L15_F (g' : Tp1) (l : Tp3) (r12 : (Bool → Tp7 → Option Tp2)) : (Bool × Int × Tp7 → Option Tp2) → Bool × Int × Tp7 → Option Tp2 :=
  fun rec x => gram_useful_L15_B g' l r12 (fun again_1 t_1 l_2 => rec (again_1, t_1, l_2)) x.1 x.2.1 x.2.2
noncomputable def gram_useful_L15 (g' : Tp1) (l : Tp3) (r12 : (Bool → Tp7 → Option Tp2)) (again_1 : Bool) (t_1 : Int) (l_2 : Tp7) : Option Tp2 := LFix (gram_useful_L15_F g' l r12 ) (again_1, t_1, l_2)
noncomputable def gram_useful_L12_B (g' : Tp1) (l : Tp3) (r12 : Bool → Tp7 → Option Tp2) (again : Bool) (l_1 : Tp7) : Option Tp2 :=
  if again = true then
  gram_useful_L15 g' l r12 false (0 : Int) l_1 else
  both [(.list (.pair (.int .i64) (.pair (.list (.int .i64)) .unit))), (.list (.int .i64))] (
  (slices_DeleteFunc_1 l l_1).bind (fun y'_5 =>
  some (y'_5.1, y'_5.2))) (
  (slices_DeleteFunc_1 l l_1).bind (fun y'_9 =>
  some (y'_9.1, y'_9.2)))
noncomputable def gram_useful_L12_F (g' : Tp1) (l : Tp3) : (Bool × Tp7 → Option Tp2) → Bool × Tp7 → Option Tp2 :=
  fun rec x => gram_useful_L12_B g' l (fun again l_1 => rec (again, l_1)) x.1 x.2
noncomputable def gram_useful_L12 (g' : Tp1) (l : Tp3) (again : Bool) (l_1 : Tp7) : Option Tp2 := LFix (gram_useful_L12_F g' l ) (again, l_1)
noncomputable def gram_useful_L4_B (g' : Tp1) (y' : Tp7) (r4 : Int → Tp3 → Option Tp2) (t : Int) (l : Tp3) : Option Tp2 :=
  if (decide (t < (g'.2.2.1.length : Int))) = true then
  G (0 ≤ t ∧ t < (g'.2.2.1.length : Int)) (
  (slices_ContainsFunc_2 (((ix g'.2.2.1 t).2).1) (g'.1, (g'.2.1, (g'.2.2.1, ()))) y').bind (fun y'_1 =>
  if (!y'_1) = true then
  G (room l ([((ix g'.2.2.1 t).1, (((ix g'.2.2.1 t).2).1, ()))]) 32) (
  G (fits (t + (1 : Int))) (
  r4 (t + (1 : Int)) (l ++ ([((ix g'.2.2.1 t).1, (((ix g'.2.2.1 t).2).1, ()))])))) else
  G (fits (t + (1 : Int))) (
  r4 (t + (1 : Int)) l))) else
  G (mkOK g'.2.1 g'.2.1 8) (
  G (0 ≤ (0 : Int) ∧ (0 : Int) < (y'.length : Int)) (
  G (((0 : Int)).toNat < y'.length) (
  G (0 ≤ (0 : Int) ∧ (0 : Int) < ((List.replicate (g'.2.1).toNat (0 : Int)).length : Int)) (
  G (((0 : Int)).toNat < (List.replicate (g'.2.1).toNat (0 : Int)).length) (
  gram_useful_L12 g' l true ((List.replicate (g'.2.1).toNat (0 : Int)).set ((0 : Int)).toNat (ix y' (0 : Int))))))))
noncomputable def gram_useful_L4_F (g' : Tp1) (y' : Tp7) : (Int × Tp3 → Option Tp2) → Int × Tp3 → Option Tp2 :=
  fun rec x => gram_useful_L4_B g' y' (fun t l => rec (t, l)) x.1 x.2
noncomputable def gram_useful_L4 (g' : Tp1) (y' : Tp7) (t : Int) (l : Tp3) : Option Tp2 := LFix (gram_useful_L4_F g' y' ) (t, l)
noncomputable def gram_useful (g' : Tp1) : Option Tp2 :=
  (gram_ending (g'.1, (g'.2.1, (g'.2.2.1, ())))).bind (fun y' =>
  gram_useful_L4 g' y' (0 : Int) ([]))
theorem gram_useful_J20_ch (r18 : Nat → Bool → Int → Tp7 → Option Tp2) (r18' : Bool → Int → Tp7 → Option Tp2) (h_r18 : ∀ a0 a1 a2, ChO (fun κ => r18 κ a0 a1 a2) (r18' a0 a1 a2)) (g' : Tp1) (l : Tp3) (t_1 : Int) (again_2 : Bool) (t_2 : Int) (l_3 : Tp7) (t_3 : Bool) : ChO (fun κ => gram_useful_J20 g' l t_1 again_2 t_2 l_3 (r18 κ) t_3) (gram_useful_J20 g' l t_1 again_2 t_2 l_3 r18' t_3) := by
  unfold gram_useful_J20
  repeat' with_reducible first | exact ChO.const _ | exact h_r18 _ _ _ | apply ChO.ite | apply ChO.G | apply ChO.both | (apply ChO.bind; intro _)
theorem gram_useful_L18_B_ch (r15 : Nat → Bool → Int → Tp7 → Option Tp2) (r15' : Bool → Int → Tp7 → Option Tp2) (h_r15 : ∀ a0 a1 a2, ChO (fun κ => r15 κ a0 a1 a2) (r15' a0 a1 a2)) (r18 : Nat → Bool → Int → Tp7 → Option Tp2) (r18' : Bool → Int → Tp7 → Option Tp2) (h_r18 : ∀ a0 a1 a2, ChO (fun κ => r18 κ a0 a1 a2) (r18' a0 a1 a2)) (g' : Tp1) (l : Tp3) (t_1 : Int) (again_2 : Bool) (t_2 : Int) (l_3 : Tp7) : ChO (fun κ => gram_useful_L18_B g' l t_1 (r15 κ) (r18 κ) again_2 t_2 l_3) (gram_useful_L18_B g' l t_1 r15' r18' again_2 t_2 l_3) := by
  unfold gram_useful_L18_B
  repeat' with_reducible first | exact ChO.const _ | exact h_r15 _ _ _ | exact h_r18 _ _ _ | (apply gram_useful_J20_ch <;> assumption) | apply ChO.ite | apply ChO.G | apply ChO.both | (apply ChO.bind; intro _)
theorem gram_useful_L18_cn (r15 : Bool → Int → Tp7 → Option Tp2) (g' : Tp1) (l : Tp3) (t_1 : Int) : Cn (gram_useful_L18_F g' l t_1 r15) := fun g h hg x => gram_useful_L18_B_ch (fun _ => r15) r15 (fun _ _ _ => ChO.const _) (fun κ again_2 t_2 l_3 => g κ (again_2, t_2, l_3)) (fun again_2 t_2 l_3 => h (again_2, t_2, l_3)) (fun again_2 t_2 l_3 => hg (again_2, t_2, l_3)) g' l t_1 x.1 x.2.1 x.2.2
theorem gram_useful_L18_eq (r15 : Bool → Int → Tp7 → Option Tp2) (g' : Tp1) (l : Tp3) (t_1 : Int) (again_2 : Bool) (t_2 : Int) (l_3 : Tp7) : gram_useful_L18 g' l t_1 r15 again_2 t_2 l_3 = gram_useful_L18_B g' l t_1 r15 (gram_useful_L18 g' l t_1 r15) again_2 t_2 l_3 := LFix_eq (gram_useful_L18_cn r15 g' l t_1) (again_2, t_2, l_3)
theorem gram_useful_L18_ch (r15 : Nat → Bool → Int → Tp7 → Option Tp2) (r15' : Bool → Int → Tp7 → Option Tp2) (h_r15 : ∀ a0 a1 a2, ChO (fun κ => r15 κ a0 a1 a2) (r15' a0 a1 a2)) (g' : Tp1) (l : Tp3) (t_1 : Int) (again_2 : Bool) (t_2 : Int) (l_3 : Tp7) : ChO (fun κ => gram_useful_L18 g' l t_1 (r15 κ) again_2 t_2 l_3) (gram_useful_L18 g' l t_1 r15' again_2 t_2 l_3) := by
  unfold gram_useful_L18
  exact LFix_ch (fun κ => (gram_useful_L18_cn (r15 κ) g' l t_1).mono) (gram_useful_L18_cn r15' g' l t_1).mono (fun g h hg x => gram_useful_L18_B_ch r15 r15' h_r15 (fun κ again_2 t_2 l_3 => g κ (again_2, t_2, l_3)) (fun again_2 t_2 l_3 => h (again_2, t_2, l_3)) (fun again_2 t_2 l_3 => hg (again_2, t_2, l_3)) g' l t_1 x.1 x.2.1 x.2.2) _
theorem gram_useful_L15_B_ch (r12 : Nat → Bool → Tp7 → Option Tp2) (r12' : Bool → Tp7 → Option Tp2) (h_r12 : ∀ a0 a1, ChO (fun κ => r12 κ a0 a1) (r12' a0 a1)) (r15 : Nat → Bool → Int → Tp7 → Option Tp2) (r15' : Bool → Int → Tp7 → Option Tp2) (h_r15 : ∀ a0 a1 a2, ChO (fun κ => r15 κ a0 a1 a2) (r15' a0 a1 a2)) (g' : Tp1) (l : Tp3) (again_1 : Bool) (t_1 : Int) (l_2 : Tp7) : ChO (fun κ => gram_useful_L15_B g' l (r12 κ) (r15 κ) again_1 t_1 l_2) (gram_useful_L15_B g' l r12' r15' again_1 t_1 l_2) := by
  unfold gram_useful_L15_B
  repeat' with_reducible first | exact ChO.const _ | exact h_r12 _ _ | exact h_r15 _ _ _ | (apply gram_useful_J20_ch <;> assumption) | (apply gram_useful_L18_ch <;> assumption) | apply ChO.ite | apply ChO.G | apply ChO.both | (apply ChO.bind; intro _)
theorem gram_useful_L15_cn (r12 : Bool → Tp7 → Option Tp2) (g' : Tp1) (l : Tp3) : Cn (gram_useful_L15_F g' l r12) := fun g h hg x => gram_useful_L15_B_ch (fun _ => r12) r12 (fun _ _ => ChO.const _) (fun κ again_1 t_1 l_2 => g κ (again_1, t_1, l_2)) (fun again_1 t_1 l_2 => h (again_1, t_1, l_2)) (fun again_1 t_1 l_2 => hg (again_1, t_1, l_2)) g' l x.1 x.2.1 x.2.2
theorem gram_useful_L15_eq (r12 : Bool → Tp7 → Option Tp2) (g' : Tp1) (l : Tp3) (again_1 : Bool) (t_1 : Int) (l_2 : Tp7) : gram_useful_L15 g' l r12 again_1 t_1 l_2 = gram_useful_L15_B g' l r12 (gram_useful_L15 g' l r12) again_1 t_1 l_2 := LFix_eq (gram_useful_L15_cn r12 g' l) (again_1, t_1, l_2)
theorem gram_useful_L15_ch (r12 : Nat → Bool → Tp7 → Option Tp2) (r12' : Bool → Tp7 → Option Tp2) (h_r12 : ∀ a0 a1, ChO (fun κ => r12 κ a0 a1) (r12' a0 a1)) (g' : Tp1) (l : Tp3) (again_1 : Bool) (t_1 : Int) (l_2 : Tp7) : ChO (fun κ => gram_useful_L15 g' l (r12 κ) again_1 t_1 l_2) (gram_useful_L15 g' l r12' again_1 t_1 l_2) := by
  unfold gram_useful_L15
  exact LFix_ch (fun κ => (gram_useful_L15_cn (r12 κ) g' l).mono) (gram_useful_L15_cn r12' g' l).mono (fun g h hg x => gram_useful_L15_B_ch r12 r12' h_r12 (fun κ again_1 t_1 l_2 => g κ (again_1, t_1, l_2)) (fun again_1 t_1 l_2 => h (again_1, t_1, l_2)) (fun again_1 t_1 l_2 => hg (again_1, t_1, l_2)) g' l x.1 x.2.1 x.2.2) _
theorem gram_useful_L12_B_ch (r12 : Nat → Bool → Tp7 → Option Tp2) (r12' : Bool → Tp7 → Option Tp2) (h_r12 : ∀ a0 a1, ChO (fun κ => r12 κ a0 a1) (r12' a0 a1)) (g' : Tp1) (l : Tp3) (again : Bool) (l_1 : Tp7) : ChO (fun κ => gram_useful_L12_B g' l (r12 κ) again l_1) (gram_useful_L12_B g' l r12' again l_1) := by
  unfold gram_useful_L12_B
  repeat' with_reducible first | exact ChO.const _ | exact h_r12 _ _ | (apply gram_useful_J20_ch <;> assumption) | (apply gram_useful_L18_ch <;> assumption) | (apply gram_useful_L15_ch <;> assumption) | apply ChO.ite | apply ChO.G | apply ChO.both | (apply ChO.bind; intro _)
theorem gram_useful_L12_cn  (g' : Tp1) (l : Tp3) : Cn (gram_useful_L12_F g' l) := fun g h hg x => gram_useful_L12_B_ch  (fun κ again l_1 => g κ (again, l_1)) (fun again l_1 => h (again, l_1)) (fun again l_1 => hg (again, l_1)) g' l x.1 x.2
theorem gram_useful_L12_eq  (g' : Tp1) (l : Tp3) (again : Bool) (l_1 : Tp7) : gram_useful_L12 g' l again l_1 = gram_useful_L12_B g' l (gram_useful_L12 g' l) again l_1 := LFix_eq (gram_useful_L12_cn g' l) (again, l_1)
theorem gram_useful_L4_B_ch (r4 : Nat → Int → Tp3 → Option Tp2) (r4' : Int → Tp3 → Option Tp2) (h_r4 : ∀ a0 a1, ChO (fun κ => r4 κ a0 a1) (r4' a0 a1)) (g' : Tp1) (y' : Tp7) (t : Int) (l : Tp3) : ChO (fun κ => gram_useful_L4_B g' y' (r4 κ) t l) (gram_useful_L4_B g' y' r4' t l) := by
  unfold gram_useful_L4_B
  repeat' with_reducible first | exact ChO.const _ | exact h_r4 _ _ | (apply gram_useful_J20_ch <;> assumption) | (apply gram_useful_L18_ch <;> assumption) | (apply gram_useful_L15_ch <;> assumption) | apply ChO.ite | apply ChO.G | apply ChO.both | (apply ChO.bind; intro _)
theorem gram_useful_L4_cn  (g' : Tp1) (y' : Tp7) : Cn (gram_useful_L4_F g' y') := fun g h hg x => gram_useful_L4_B_ch  (fun κ t l => g κ (t, l)) (fun t l => h (t, l)) (fun t l => hg (t, l)) g' y' x.1 x.2
theorem gram_useful_L4_eq  (g' : Tp1) (y' : Tp7) (t : Int) (l : Tp3) : gram_useful_L4 g' y' t l = gram_useful_L4_B g' y' (gram_useful_L4 g' y') t l := LFix_eq (gram_useful_L4_cn g' y') (t, l)

noncomputable def gram_Useful (g' : Tp1) : Option (Int × Tp7 × Tp7) :=
  (gram_Check (g'.1, (g'.2.1, (g'.2.2.1, ())))).bind (fun y' =>
  if (decide (¬ y' = (0 : Int))) = true then
  some (y', [], []) else
  (gram_useful (g'.1, (g'.2.1, (g'.2.2.1, ())))).bind (fun y'_5 =>
  (gram_ending (g'.1, (g'.2.1, (g'.2.2.1, ())))).bind (fun y'_4 =>
  some ((0 : Int), y'_4, y'_5.2))))

noncomputable def gram_Endless_1 (s : Int) (t : Tp1) (t_1 : Tp6) : Option (Bool) :=
  if (decide (s < t.1)) = true then
  some true else
  G (fits (s - t.1)) (
  G (0 ≤ s - t.1 ∧ s - t.1 < (t_1.length : Int)) (
  some (ix t_1 (s - t.1))))

noncomputable def slices_IndexFunc_4_L2_B (s : Tp7) (c : Tp1) (c_1 : Tp6) (r2 : Int → Option (Int)) (t : Int) : Option (Int) :=
  if (decide (t < (s.length : Int))) = true then
  G (0 ≤ t ∧ t < (s.length : Int)) (
  (gram_Endless_1 (ix s t) c c_1).bind (fun y' =>
  if y' = true then
  some t else
  G (fits (t + (1 : Int))) (
  r2 (t + (1 : Int))))) else
  some (-1 : Int)
noncomputable def slices_IndexFunc_4_L2_F (s : Tp7) (c : Tp1) (c_1 : Tp6) : (Int → Option (Int)) → Int → Option (Int) :=
  fun rec x => slices_IndexFunc_4_L2_B s c c_1 (fun t => rec t) x
noncomputable def slices_IndexFunc_4_L2 (s : Tp7) (c : Tp1) (c_1 : Tp6) (t : Int) : Option (Int) := LFix (slices_IndexFunc_4_L2_F s c c_1 ) t
noncomputable def slices_IndexFunc_4 (s : Tp7) (c : Tp1) (c_1 : Tp6) : Option (Int) :=
  slices_IndexFunc_4_L2 s c c_1 (0 : Int)
theorem slices_IndexFunc_4_L2_B_ch (r2 : Nat → Int → Option (Int)) (r2' : Int → Option (Int)) (h_r2 : ∀ a0, ChO (fun κ => r2 κ a0) (r2' a0)) (s : Tp7) (c : Tp1) (c_1 : Tp6) (t : Int) : ChO (fun κ => slices_IndexFunc_4_L2_B s c c_1 (r2 κ) t) (slices_IndexFunc_4_L2_B s c c_1 r2' t) := by
  unfold slices_IndexFunc_4_L2_B
  repeat' with_reducible first | exact ChO.const _ | exact h_r2 _ | apply ChO.ite | apply ChO.G | apply ChO.both | (apply ChO.bind; intro _)
theorem slices_IndexFunc_4_L2_cn  (s : Tp7) (c : Tp1) (c_1 : Tp6) : Cn (slices_IndexFunc_4_L2_F s c c_1) := fun g h hg x => slices_IndexFunc_4_L2_B_ch  (fun κ t => g κ t) (fun t => h t) (fun t => hg t) s c c_1 x
theorem slices_IndexFunc_4_L2_eq  (s : Tp7) (c : Tp1) (c_1 : Tp6) (t : Int) : slices_IndexFunc_4_L2 s c c_1 t = slices_IndexFunc_4_L2_B s c c_1 (slices_IndexFunc_4_L2 s c c_1) t := LFix_eq (slices_IndexFunc_4_L2_cn s c c_1) t

noncomputable def slices_ContainsFunc_3 (s : Tp7) (c : Tp1) (c_1 : Tp6) : Option (Bool) :=
  (slices_IndexFunc_4 s c c_1).bind (fun y' =>
  some (decide ((0 : Int) ≤ y')))

noncomputable def slices_Grow (n : Int) : Option Tp7 :=
  if (decide (n < (0 : Int))) = true then
  none else
  G (fits ((0 : Int) - (0 : Int))) (
  G (fits (n - ((0 : Int) - (0 : Int)))) (
  if (decide ((0 : Int) < (n - ((0 : Int) - (0 : Int))))) = true then
  G ((0 : Int) = (0 : Int)) (
  G (0 < n - ((0 : Int) - (0 : Int)) ∧ (n - ((0 : Int) - (0 : Int))) * 8 ≤ 140737488355328) (
  G (0 ≤ (0 : Int) ∧ (0 : Int) ≤ ((List.replicate (n - ((0 : Int) - (0 : Int))).toNat (0 : Int)).length : Int)) (
  some ((List.replicate (n - ((0 : Int) - (0 : Int))).toNat (0 : Int)).take ((0 : Int)).toNat)))) else
  some ([])))

noncomputable def slices_Concat_L11_B (slices : Tp5) (r11 : Int → Tp7 → Option Tp7) (t_1 : Int) (newslice : Tp7) : Option Tp7 :=
  if (decide (t_1 < (slices.length : Int))) = true then
  G (0 ≤ t_1 ∧ t_1 < (slices.length : Int)) (
  G (room newslice (ix slices t_1) 8) (
  G (fits (t_1 + (1 : Int))) (
  r11 (t_1 + (1 : Int)) (newslice ++ (ix slices t_1))))) else
  some newslice
noncomputable def slices_Concat_L11_F (slices : Tp5) : (Int × Tp7 → Option Tp7) → Int × Tp7 → Option Tp7 :=
  fun rec x => slices_Concat_L11_B slices (fun t_1 newslice => rec (t_1, newslice)) x.1 x.2
noncomputable def slices_Concat_L11 (slices : Tp5) (t_1 : Int) (newslice : Tp7) : Option Tp7 := LFix (slices_Concat_L11_F slices ) (t_1, newslice)
noncomputable def slices_Concat_L3_B (slices : Tp5) (r3 : Int → Int → Option Tp7) (size : Int) (t : Int) : Option Tp7 :=
  if (decide (t < (slices.length : Int))) = true then
  G (0 ≤ t ∧ t < (slices.length : Int)) (
  G (fits (size + ((ix slices t).length : Int))) (
  if (decide ((size + ((ix slices t).length : Int)) < (0 : Int))) = true then
  none else
  G (fits (t + (1 : Int))) (
  r3 (size + ((ix slices t).length : Int)) (t + (1 : Int))))) else
  (slices_Grow size).bind (fun y' =>
  slices_Concat_L11 slices (0 : Int) y')
noncomputable def slices_Concat_L3_F (slices : Tp5) : (Int × Int → Option Tp7) → Int × Int → Option Tp7 :=
  fun rec x => slices_Concat_L3_B slices (fun size t => rec (size, t)) x.1 x.2
noncomputable def slices_Concat_L3 (slices : Tp5) (size : Int) (t : Int) : Option Tp7 := LFix (slices_Concat_L3_F slices ) (size, t)
noncomputable def slices_Concat (slices : Tp5) : Option Tp7 :=
  slices_Concat_L3 slices (0 : Int) (0 : Int)
theorem slices_Concat_L11_B_ch (r11 : Nat → Int → Tp7 → Option Tp7) (r11' : Int → Tp7 → Option Tp7) (h_r11 : ∀ a0 a1, ChO (fun κ => r11 κ a0 a1) (r11' a0 a1)) (slices : Tp5) (t_1 : Int) (newslice : Tp7) : ChO (fun κ => slices_Concat_L11_B slices (r11 κ) t_1 newslice) (slices_Concat_L11_B slices r11' t_1 newslice) := by
  unfold slices_Concat_L11_B
  repeat' with_reducible first | exact ChO.const _ | exact h_r11 _ _ | apply ChO.ite | apply ChO.G | apply ChO.both | (apply ChO.bind; intro _)
theorem slices_Concat_L11_cn  (slices : Tp5) : Cn (slices_Concat_L11_F slices) := fun g h hg x => slices_Concat_L11_B_ch  (fun κ t_1 newslice => g κ (t_1, newslice)) (fun t_1 newslice => h (t_1, newslice)) (fun t_1 newslice => hg (t_1, newslice)) slices x.1 x.2
theorem slices_Concat_L11_eq  (slices : Tp5) (t_1 : Int) (newslice : Tp7) : slices_Concat_L11 slices t_1 newslice = slices_Concat_L11_B slices (slices_Concat_L11 slices) t_1 newslice := LFix_eq (slices_Concat_L11_cn slices) (t_1, newslice)
theorem slices_Concat_L3_B_ch (r3 : Nat → Int → Int → Option Tp7) (r3' : Int → Int → Option Tp7) (h_r3 : ∀ a0 a1, ChO (fun κ => r3 κ a0 a1) (r3' a0 a1)) (slices : Tp5) (size : Int) (t : Int) : ChO (fun κ => slices_Concat_L3_B slices (r3 κ) size t) (slices_Concat_L3_B slices r3' size t) := by
  unfold slices_Concat_L3_B
  repeat' with_reducible first | exact ChO.const _ | exact h_r3 _ _ | apply ChO.ite | apply ChO.G | apply ChO.both | (apply ChO.bind; intro _)
theorem slices_Concat_L3_cn  (slices : Tp5) : Cn (slices_Concat_L3_F slices) := fun g h hg x => slices_Concat_L3_B_ch  (fun κ size t => g κ (size, t)) (fun size t => h (size, t)) (fun size t => hg (size, t)) slices x.1 x.2
theorem slices_Concat_L3_eq  (slices : Tp5) (size : Int) (t : Int) : slices_Concat_L3 slices size t = slices_Concat_L3_B slices (slices_Concat_L3 slices) size t := LFix_eq (slices_Concat_L3_cn slices) (size, t)

noncomputable def gram_Endless_J13 (y'_1 : Tp3) (again_1 : Bool) (t : Int) (g'_4 : Int) (g'_5 : Int) (g'_6 : Tp3) (l_1 : Tp6) (r11 : (Bool → Int → Int → Int → Tp3 → Tp6 → Option (Bool × Int))) (t_1 : Bool) : Option (Bool × Int) :=
  if t_1 = true then
  G (0 ≤ (ix y'_1 t).1 ∧ (ix y'_1 t).1 < (l_1.length : Int)) (
  G (((ix y'_1 t).1).toNat < l_1.length) (
  G (fits (t + (1 : Int))) (
  r11 true (t + (1 : Int)) g'_4 g'_5 g'_6 (l_1.set ((ix y'_1 t).1).toNat true)))) else
  G (fits (t + (1 : Int))) (
  r11 again_1 (t + (1 : Int)) g'_4 g'_5 g'_6 l_1)
noncomputable def gram_Endless_L11_B (y'_1 : Tp3) (r8 : (Bool → Int → Int → Tp3 → Tp6 → Option (Bool × Int))) (r11 : Bool → Int → Int → Int → Tp3 → Tp6 → Option (Bool × Int)) (again_1 : Bool) (t : Int) (g'_4 : Int) (g'_5 : Int) (g'_6 : Tp3) (l_1 : Tp6) : Option (Bool × Int) :=
  if (decide (t < (y'_1.length : Int))) = true then
  G (0 ≤ t ∧ t < (y'_1.length : Int)) (
  G ((t).toNat < y'_1.length) (
  G (0 ≤ (ix y'_1 t).1 ∧ (ix y'_1 t).1 < (l_1.length : Int)) (
  G (((ix y'_1 t).1).toNat < l_1.length) (
  if (!(ix l_1 ((ix y'_1 t).1))) = true then
  (slices_ContainsFunc_3 (((ix y'_1 t).2).1) (g'_4, (g'_5, (g'_6, ()))) l_1).bind (fun y'_4 =>
  gram_Endless_J13 y'_1 again_1 t g'_4 g'_5 g'_6 l_1 r11 y'_4) else
  gram_Endless_J13 y'_1 again_1 t g'_4 g'_5 g'_6 l_1 r11 false)))) else
  r8 again_1 g'_4 g'_5 g'_6 l_1
noncomputable def gram_Endless_L11_F (y'_1 : Tp3) (r8 : (Bool → Int → Int → Tp3 → Tp6 → Option (Bool × Int))) : (Bool × Int × Int × Int × Tp3 × Tp6 → Option (Bool × Int)) → Bool × Int × Int × Int × Tp3 × Tp6 → Option (Bool × Int) :=
  fun rec x => gram_Endless_L11_B y'_1 r8 (fun again_1 t g'_4 g'_5 g'_6 l_1 => rec (again_1, t, g'_4, g'_5, g'_6, l_1)) x.1 x.2.1 x.2.2.1 x.2.2.2.1 x.2.2.2.2.1 x.2.2.2.2.2
noncomputable def gram_Endless_L11 (y'_1 : Tp3) (r8 : (Bool → Int → Int → Tp3 → Tp6 → Option (Bool × Int))) (again_1 : Bool) (t : Int) (g'_4 : Int) (g'_5 : Int) (g'_6 : Tp3) (l_1 : Tp6) : Option (Bool × Int) := LFix (gram_Endless_L11_F y'_1 r8 ) (again_1, t, g'_4, g'_5, g'_6, l_1)
noncomputable def gram_Endless_J31 (y'_1 : Tp3) (g'_1 : Int) (t_3 : Int) (t_4 : Int) (leads_2 : Tp5) (r26 : (Int → Tp5 → Option (Bool × Int))) (k : Int) : Option (Bool × Int) :=
  G (0 ≤ (ix y'_1 t_3).1 ∧ (ix y'_1 t_3).1 < (leads_2.length : Int)) (
  G (((ix y'_1 t_3).1).toNat < leads_2.length) (
  G (fits ((ix (((ix y'_1 t_3).2).1) t_4) - g'_1)) (
  G (0 ≤ (ix y'_1 t_3).1 ∧ (ix y'_1 t_3).1 < (leads_2.length : Int)) (
  G (((ix y'_1 t_3).1).toNat < leads_2.length) (
  G (fits ((ix (((ix y'_1 t_3).2).1) t_4) - g'_1)) (
  G (0 ≤ (ix (((ix y'_1 t_3).2).1) t_4) - g'_1 ∧ (ix (((ix y'_1 t_3).2).1) t_4) - g'_1 < ((ix leads_2 ((ix y'_1 t_3).1)).length : Int)) (
  G (((ix (((ix y'_1 t_3).2).1) t_4) - g'_1).toNat < (ix leads_2 ((ix y'_1 t_3).1)).length) (
  G (0 ≤ (ix (((ix y'_1 t_3).2).1) t_4) - g'_1 ∧ (ix (((ix y'_1 t_3).2).1) t_4) - g'_1 < ((ix leads_2 ((ix y'_1 t_3).1)).length : Int)) (
  G (((ix (((ix y'_1 t_3).2).1) t_4) - g'_1).toNat < (ix leads_2 ((ix y'_1 t_3).1)).length) (
  G (fits (t_4 + (1 : Int))) (
  r26 (t_4 + (1 : Int)) (leads_2.set ((ix y'_1 t_3).1).toNat ((ix leads_2 ((ix y'_1 t_3).1)).set ((ix (((ix y'_1 t_3).2).1) t_4) - g'_1).toNat (imax (ix (ix leads_2 ((ix y'_1 t_3).1)) ((ix (((ix y'_1 t_3).2).1) t_4) - g'_1)) k))))))))))))))
noncomputable def gram_Endless_L26_B (y'_1 : Tp3) (g'_1 : Int) (g'_2 : Int) (g'_3 : Tp3) (l : Tp6) (t_3 : Int) (r23 : (Int → Tp5 → Option (Bool × Int))) (r26 : Int → Tp5 → Option (Bool × Int)) (t_4 : Int) (leads_2 : Tp5) : Option (Bool × Int) :=
  if (decide (t_4 < ((((ix y'_1 t_3).2).1).length : Int))) = true then
  G (0 ≤ t_4 ∧ t_4 < ((((ix y'_1 t_3).2).1).length : Int)) (
  if (decide ((ix (((ix y'_1 t_3).2).1) t_4) < g'_1)) = true then
  G (fits (t_4 + (1 : Int))) (
  r26 (t_4 + (1 : Int)) leads_2) else
  G (0 ≤ (0 : Int) ∧ (0 : Int) ≤ t_4 ∧ t_4 ≤ ((((ix y'_1 t_3).2).1).length : Int)) (
  G (fits (t_4 + (1 : Int))) (
  G (0 ≤ t_4 + (1 : Int) ∧ t_4 + (1 : Int) ≤ ((((ix y'_1 t_3).2).1).length : Int) ∧ ((((ix y'_1 t_3).2).1).length : Int) ≤ ((((ix y'_1 t_3).2).1).length : Int)) (
  (slices_Concat ([cut (((ix y'_1 t_3).2).1) (0 : Int) t_4, cut (((ix y'_1 t_3).2).1) (t_4 + (1 : Int)) ((((ix y'_1 t_3).2).1).length : Int)])).bind (fun y'_5 =>
  (slices_ContainsFunc_3 y'_5 (g'_1, (g'_2, (g'_3, ()))) l).bind (fun y'_6 =>
  if y'_6 = true then
  gram_Endless_J31 y'_1 g'_1 t_3 t_4 leads_2 r26 (2 : Int) else
  gram_Endless_J31 y'_1 g'_1 t_3 t_4 leads_2 r26 (1 : Int))))))) else
  G (fits (t_3 + (1 : Int))) (
  r23 (t_3 + (1 : Int)) leads_2)
noncomputable def gram_Endless_L26_F (y'_1 : Tp3) (g'_1 : Int) (g'_2 : Int) (g'_3 : Tp3) (l : Tp6) (t_3 : Int) (r23 : (Int → Tp5 → Option (Bool × Int))) : (Int × Tp5 → Option (Bool × Int)) → Int × Tp5 → Option (Bool × Int) :=
  fun rec x => gram_Endless_L26_B y'_1 g'_1 g'_2 g'_3 l t_3 r23 (fun t_4 leads_2 => rec (t_4, leads_2)) x.1 x.2
noncomputable def gram_Endless_L26 (y'_1 : Tp3) (g'_1 : Int) (g'_2 : Int) (g'_3 : Tp3) (l : Tp6) (t_3 : Int) (r23 : (Int → Tp5 → Option (Bool × Int))) (t_4 : Int) (leads_2 : Tp5) : Option (Bool × Int) := LFix (gram_Endless_L26_F y'_1 g'_1 g'_2 g'_3 l t_3 r23 ) (t_4, leads_2)
noncomputable def gram_Endless_J46 (t_7 : Int) (r42 : (Int → Tp5 → Option (Bool × Int))) (leads_6 : Tp5) : Option (Bool × Int) :=
  G (fits (t_7 + (1 : Int))) (
  r42 (t_7 + (1 : Int)) leads_6)
noncomputable def gram_Endless_J45 (t_5 : Int) (t_6 : Int) (t_7 : Int) (leads_5 : Tp5) (r42 : (Int → Tp5 → Option (Bool × Int))) (t_8 : Bool) : Option (Bool × Int) :=
  if t_8 = true then
  G (0 ≤ t_6 ∧ t_6 < (leads_5.length : Int)) (
  G ((t_6).toNat < leads_5.length) (
  G (0 ≤ t_6 ∧ t_6 < (leads_5.length : Int)) (
  G ((t_6).toNat < leads_5.length) (
  G (0 ≤ t_7 ∧ t_7 < ((ix leads_5 t_6).length : Int)) (
  G ((t_7).toNat < (ix leads_5 t_6).length) (
  G (0 ≤ t_7 ∧ t_7 < ((ix leads_5 t_6).length : Int)) (
  G ((t_7).toNat < (ix leads_5 t_6).length) (
  gram_Endless_J46 t_7 r42 (leads_5.set (t_6).toNat ((ix leads_5 t_6).set (t_7).toNat (imax (imax (ix (ix leads_5 t_6) t_7) (ix (ix leads_5 t_6) t_5)) (ix (ix leads_5 t_5) t_7)))))))))))) else
  gram_Endless_J46 t_7 r42 leads_5
noncomputable def gram_Endless_L42_B (t_5 : Int) (t_6 : Int) (leads_4 : Tp5) (r39 : (Int → Tp5 → Option (Bool × Int))) (r42 : Int → Tp5 → Option (Bool × Int)) (t_7 : Int) (leads_5 : Tp5) : Option (Bool × Int) :=
  if (decide (t_7 < (leads_4.length : Int))) = true then
  G (0 ≤ t_6 ∧ t_6 < (leads_5.length : Int)) (
  G ((t_6).toNat < leads_5.length) (
  G (0 ≤ t_5 ∧ t_5 < ((ix leads_5 t_6).length : Int)) (
  G ((t_5).toNat < (ix leads_5 t_6).length) (
  G (0 ≤ t_5 ∧ t_5 < (leads_5.length : Int)) (
  G ((t_5).toNat < leads_5.length) (
  G (0 ≤ t_7 ∧ t_7 < ((ix leads_5 t_5).length : Int)) (
  G ((t_7).toNat < (ix leads_5 t_5).length) (
  if (decide ((0 : Int) < (ix (ix leads_5 t_6) t_5))) = true then
  gram_Endless_J45 t_5 t_6 t_7 leads_5 r42 (decide ((0 : Int) < (ix (ix leads_5 t_5) t_7))) else
  gram_Endless_J45 t_5 t_6 t_7 leads_5 r42 false)))))))) else
  G (fits (t_6 + (1 : Int))) (
  r39 (t_6 + (1 : Int)) leads_5)
noncomputable def gram_Endless_L42_F (t_5 : Int) (t_6 : Int) (leads_4 : Tp5) (r39 : (Int → Tp5 → Option (Bool × Int))) : (Int × Tp5 → Option (Bool × Int)) → Int × Tp5 → Option (Bool × Int) :=
  fun rec x => gram_Endless_L42_B t_5 t_6 leads_4 r39 (fun t_7 leads_5 => rec (t_7, leads_5)) x.1 x.2
noncomputable def gram_Endless_L42 (t_5 : Int) (t_6 : Int) (leads_4 : Tp5) (r39 : (Int → Tp5 → Option (Bool × Int))) (t_7 : Int) (leads_5 : Tp5) : Option (Bool × Int) := LFix (gram_Endless_L42_F t_5 t_6 leads_4 r39 ) (t_7, leads_5)
noncomputable def gram_Endless_L39_B (t_5 : Int) (leads_3 : Tp5) (r36 : (Int → Tp5 → Option (Bool × Int))) (r39 : Int → Tp5 → Option (Bool × Int)) (t_6 : Int) (leads_4 : Tp5) : Option (Bool × Int) :=
  if (decide (t_6 < (leads_3.length : Int))) = true then
  gram_Endless_L42 t_5 t_6 leads_4 r39 (0 : Int) leads_4 else
  G (fits (t_5 + (1 : Int))) (
  r36 (t_5 + (1 : Int)) leads_4)
noncomputable def gram_Endless_L39_F (t_5 : Int) (leads_3 : Tp5) (r36 : (Int → Tp5 → Option (Bool × Int))) : (Int × Tp5 → Option (Bool × Int)) → Int × Tp5 → Option (Bool × Int) :=
  fun rec x => gram_Endless_L39_B t_5 leads_3 r36 (fun t_6 leads_4 => rec (t_6, leads_4)) x.1 x.2
noncomputable def gram_Endless_L39 (t_5 : Int) (leads_3 : Tp5) (r36 : (Int → Tp5 → Option (Bool × Int))) (t_6 : Int) (leads_4 : Tp5) : Option (Bool × Int) := LFix (gram_Endless_L39_F t_5 leads_3 r36 ) (t_6, leads_4)
noncomputable def gram_Endless_L51_B (leads_3 : Tp5) (r51 : Int → Option (Bool × Int)) (t_9 : Int) : Option (Bool × Int) :=
  if (decide (t_9 < (leads_3.length : Int))) = true then
  G (0 ≤ t_9 ∧ t_9 < (leads_3.length : Int)) (
  G ((t_9).toNat < leads_3.length) (
  G (0 ≤ t_9 ∧ t_9 < ((ix leads_3 t_9).length : Int)) (
  G ((t_9).toNat < (ix leads_3 t_9).length) (
  if (decide ((ix (ix leads_3 t_9) t_9) = (2 : Int))) = true then
  some (true, (0 : Int)) else
  G (fits (t_9 + (1 : Int))) (
  r51 (t_9 + (1 : Int))))))) else
  some (false, (0 : Int))
noncomputable def gram_Endless_L51_F (leads_3 : Tp5) : (Int → Option (Bool × Int)) → Int → Option (Bool × Int) :=
  fun rec x => gram_Endless_L51_B leads_3 (fun t_9 => rec t_9) x
noncomputable def gram_Endless_L51 (leads_3 : Tp5) (t_9 : Int) : Option (Bool × Int) := LFix (gram_Endless_L51_F leads_3 ) t_9
noncomputable def gram_Endless_L36_B (leads_1 : Tp5) (r36 : Int → Tp5 → Option (Bool × Int)) (t_5 : Int) (leads_3 : Tp5) : Option (Bool × Int) :=
  if (decide (t_5 < (leads_1.length : Int))) = true then
  gram_Endless_L39 t_5 leads_3 r36 (0 : Int) leads_3 else
  gram_Endless_L51 leads_3 (0 : Int)
noncomputable def gram_Endless_L36_F (leads_1 : Tp5) : (Int × Tp5 → Option (Bool × Int)) → Int × Tp5 → Option (Bool × Int) :=
  fun rec x => gram_Endless_L36_B leads_1 (fun t_5 leads_3 => rec (t_5, leads_3)) x.1 x.2
noncomputable def gram_Endless_L36 (leads_1 : Tp5) (t_5 : Int) (leads_3 : Tp5) : Option (Bool × Int) := LFix (gram_Endless_L36_F leads_1 ) (t_5, leads_3)
noncomputable def gram_Endless_L23_B (y'_1 : Tp3) (g'_1 : Int) (g'_2 : Int) (g'_3 : Tp3) (l : Tp6) (r23 : Int → Tp5 → Option (Bool × Int)) (t_3 : Int) (leads_1 : Tp5) : Option (Bool × Int) :=
  if (decide (t_3 < (y'_1.length : Int))) = true then
  G (0 ≤ t_3 ∧ t_3 < (y'_1.length : Int)) (
  G ((t_3).toNat < y'_1.length) (
  gram_Endless_L26 y'_1 g'_1 g'_2 g'_3 l t_3 r23 (0 : Int) leads_1)) else
  gram_Endless_L36 leads_1 (0 : Int) leads_1
noncomputable def gram_Endless_L23_F (y'_1 : Tp3) (g'_1 : Int) (g'_2 : Int) (g'_3 : Tp3) (l : Tp6) : (Int × Tp5 → Option (Bool × Int)) → Int × Tp5 → Option (Bool × Int) :=
  fun rec x => gram_Endless_L23_B y'_1 g'_1 g'_2 g'_3 l (fun t_3 leads_1 => rec (t_3, leads_1)) x.1 x.2
noncomputable def gram_Endless_L23 (y'_1 : Tp3) (g'_1 : Int) (g'_2 : Int) (g'_3 : Tp3) (l : Tp6) (t_3 : Int) (leads_1 : Tp5) : Option (Bool × Int) := LFix (gram_Endless_L23_F y'_1 g'_1 g'_2 g'_3 l ) (t_3, leads_1)
noncomputable def gram_Endless_L18_B (y'_1 : Tp3) (g'_1 : Int) (g'_2 : Int) (g'_3 : Tp3) (l : Tp6) (r18 : Int → Tp5 → Option (Bool × Int)) (t_2 : Int) (leads : Tp5) : Option (Bool × Int) :=
  if (decide (t_2 < ((List.replicate (g'_2).toNat ([] : List Int)).length : Int))) = true then
  G (mkOK g'_2 g'_2 8) (
  G (0 ≤ t_2 ∧ t_2 < (leads.length : Int)) (
  G (fits (t_2 + (1 : Int))) (
  r18 (t_2 + (1 : Int)) (leads.set (t_2).toNat (List.replicate (g'_2).toNat (0 : Int)))))) else
  gram_Endless_L23 y'_1 g'_1 g'_2 g'_3 l (0 : Int) leads
noncomputable def gram_Endless_L18_F (y'_1 : Tp3) (g'_1 : Int) (g'_2 : Int) (g'_3 : Tp3) (l : Tp6) : (Int × Tp5 → Option (Bool × Int)) → Int × Tp5 → Option (Bool × Int) :=
  fun rec x => gram_Endless_L18_B y'_1 g'_1 g'_2 g'_3 l (fun t_2 leads => rec (t_2, leads)) x.1 x.2
noncomputable def gram_Endless_L18 (y'_1 : Tp3) (g'_1 : Int) (g'_2 : Int) (g'_3 : Tp3) (l : Tp6) (t_2 : Int) (leads : Tp5) : Option (Bool × Int) := LFix (gram_Endless_L18_F y'_1 g'_1 g'_2 g'_3 l ) (t_2, leads)
noncomputable def gram_Endless_L8_B (y'_1 : Tp3) (r8 : Bool → Int → Int → Tp3 → Tp6 → Option (Bool × Int)) (again : Bool) (g'_1 : Int) (g'_2 : Int) (g'_3 : Tp3) (l : Tp6) : Option (Bool × Int) :=
  if again = true then
  gram_Endless_L11 y'_1 r8 false (0 : Int) g'_1 g'_2 g'_3 l else
  G (mkOK g'_2 g'_2 24) (
  gram_Endless_L18 y'_1 g'_1 g'_2 g'_3 l (0 : Int) (List.replicate (g'_2).toNat ([] : List Int)))
noncomputable def gram_Endless_L8_F (y'_1 : Tp3) : (Bool × Int × Int × Tp3 × Tp6 → Option (Bool × Int)) → Bool × Int × Int × Tp3 × Tp6 → Option (Bool × Int) :=
  fun rec x => gram_Endless_L8_B y'_1 (fun again g'_1 g'_2 g'_3 l => rec (again, g'_1, g'_2, g'_3, l)) x.1 x.2.1 x.2.2.1 x.2.2.2.1 x.2.2.2.2
noncomputable def gram_Endless_L8 (y'_1 : Tp3) (again : Bool) (g'_1 : Int) (g'_2 : Int) (g'_3 : Tp3) (l : Tp6) : Option (Bool × Int) := LFix (gram_Endless_L8_F y'_1 ) (again, g'_1, g'_2, g'_3, l)
noncomputable def gram_Endless (g' : Tp1) : Option (Bool × Int) :=
  (gram_Check (g'.1, (g'.2.1, (g'.2.2.1, ())))).bind (fun y' =>
  if (decide (¬ y' = (0 : Int))) = true then
  some (false, y') else
  (gram_useful (g'.1, (g'.2.1, (g'.2.2.1, ())))).bind (fun y'_7 =>
  G (mkOK g'.2.1 g'.2.1 1) (
  gram_Endless_L8 y'_7.1 true g'.1 g'.2.1 g'.2.2.1 (List.replicate (g'.2.1).toNat (false : Bool)))))
theorem gram_Endless_J13_ch (r11 : Nat → Bool → Int → Int → Int → Tp3 → Tp6 → Option (Bool × Int)) (r11' : Bool → Int → Int → Int → Tp3 → Tp6 → Option (Bool × Int)) (h_r11 : ∀ a0 a1 a2 a3 a4 a5, ChO (fun κ => r11 κ a0 a1 a2 a3 a4 a5) (r11' a0 a1 a2 a3 a4 a5)) (y'_1 : Tp3) (again_1 : Bool) (t : Int) (g'_4 : Int) (g'_5 : Int) (g'_6 : Tp3) (l_1 : Tp6) (t_1 : Bool) : ChO (fun κ => gram_Endless_J13 y'_1 again_1 t g'_4 g'_5 g'_6 l_1 (r11 κ) t_1) (gram_Endless_J13 y'_1 again_1 t g'_4 g'_5 g'_6 l_1 r11' t_1) := by
  unfold gram_Endless_J13
  repeat' with_reducible first | exact ChO.const _ | exact h_r11 _ _ _ _ _ _ | apply ChO.ite | apply ChO.G | apply ChO.both | (apply ChO.bind; intro _)
theorem gram_Endless_L11_B_ch (r8 : Nat → Bool → Int → Int → Tp3 → Tp6 → Option (Bool × Int)) (r8' : Bool → Int → Int → Tp3 → Tp6 → Option (Bool × Int)) (h_r8 : ∀ a0 a1 a2 a3 a4, ChO (fun κ => r8 κ a0 a1 a2 a3 a4) (r8' a0 a1 a2 a3 a4)) (r11 : Nat → Bool → Int → Int → Int → Tp3 → Tp6 → Option (Bool × Int)) (r11' : Bool → Int → Int → Int → Tp3 → Tp6 → Option (Bool × Int)) (h_r11 : ∀ a0 a1 a2 a3 a4 a5, ChO (fun κ => r11 κ a0 a1 a2 a3 a4 a5) (r11' a0 a1 a2 a3 a4 a5)) (y'_1 : Tp3) (again_1 : Bool) (t : Int) (g'_4 : Int) (g'_5 : Int) (g'_6 : Tp3) (l_1 : Tp6) : ChO (fun κ => gram_Endless_L11_B y'_1 (r8 κ) (r11 κ) again_1 t g'_4 g'_5 g'_6 l_1) (gram_Endless_L11_B y'_1 r8' r11' again_1 t g'_4 g'_5 g'_6 l_1) := by
  unfold gram_Endless_L11_B
  repeat' with_reducible first | exact ChO.const _ | exact h_r8 _ _ _ _ _ | exact h_r11 _ _ _ _ _ _ | (apply gram_Endless_J13_ch <;> assumption) | apply ChO.ite | apply ChO.G | apply ChO.both | (apply ChO.bind; intro _)
theorem gram_Endless_L11_cn (r8 : Bool → Int → Int → Tp3 → Tp6 → Option (Bool × Int)) (y'_1 : Tp3) : Cn (gram_Endless_L11_F y'_1 r8) := fun g h hg x => gram_Endless_L11_B_ch (fun _ => r8) r8 (fun _ _ _ _ _ => ChO.const _) (fun κ again_1 t g'_4 g'_5 g'_6 l_1 => g κ (again_1, t, g'_4, g'_5, g'_6, l_1)) (fun again_1 t g'_4 g'_5 g'_6 l_1 => h (again_1, t, g'_4, g'_5, g'_6, l_1)) (fun again_1 t g'_4 g'_5 g'_6 l_1 => hg (again_1, t, g'_4, g'_5, g'_6, l_1)) y'_1 x.1 x.2.1 x.2.2.1 x.2.2.2.1 x.2.2.2.2.1 x.2.2.2.2.2
theorem gram_Endless_L11_eq (r8 : Bool → Int → Int → Tp3 → Tp6 → Option (Bool × Int)) (y'_1 : Tp3) (again_1 : Bool) (t : Int) (g'_4 : Int) (g'_5 : Int) (g'_6 : Tp3) (l_1 : Tp6) : gram_Endless_L11 y'_1 r8 again_1 t g'_4 g'_5 g'_6 l_1 = gram_Endless_L11_B y'_1 r8 (gram_Endless_L11 y'_1 r8) again_1 t g'_4 g'_5 g'_6 l_1 := LFix_eq (gram_Endless_L11_cn r8 y'_1) (again_1, t, g'_4, g'_5, g'_6, l_1)
theorem gram_Endless_L11_ch (r8 : Nat → Bool → Int → Int → Tp3 → Tp6 → Option (Bool × Int)) (r8' : Bool → Int → Int → Tp3 → Tp6 → Option (Bool × Int)) (h_r8 : ∀ a0 a1 a2 a3 a4, ChO (fun κ => r8 κ a0 a1 a2 a3 a4) (r8' a0 a1 a2 a3 a4)) (y'_1 : Tp3) (again_1 : Bool) (t : Int) (g'_4 : Int) (g'_5 : Int) (g'_6 : Tp3) (l_1 : Tp6) : ChO (fun κ => gram_Endless_L11 y'_1 (r8 κ) again_1 t g'_4 g'_5 g'_6 l_1) (gram_Endless_L11 y'_1 r8' again_1 t g'_4 g'_5 g'_6 l_1) := by
  unfold gram_Endless_L11
  exact LFix_ch (fun κ => (gram_Endless_L11_cn (r8 κ) y'_1).mono) (gram_Endless_L11_cn r8' y'_1).mono (fun g h hg x => gram_Endless_L11_B_ch r8 r8' h_r8 (fun κ again_1 t g'_4 g'_5 g'_6 l_1 => g κ (again_1, t, g'_4, g'_5, g'_6, l_1)) (fun again_1 t g'_4 g'_5 g'_6 l_1 => h (again_1, t, g'_4, g'_5, g'_6, l_1)) (fun again_1 t g'_4 g'_5 g'_6 l_1 => hg (again_1, t, g'_4, g'_5, g'_6, l_1)) y'_1 x.1 x.2.1 x.2.2.1 x.2.2.2.1 x.2.2.2.2.1 x.2.2.2.2.2) _
theorem gram_Endless_J31_ch (r26 : Nat → Int → Tp5 → Option (Bool × Int)) (r26' : Int → Tp5 → Option (Bool × Int)) (h_r26 : ∀ a0 a1, ChO (fun κ => r26 κ a0 a1) (r26' a0 a1)) (y'_1 : Tp3) (g'_1 : Int) (t_3 : Int) (t_4 : Int) (leads_2 : Tp5) (k : Int) : ChO (fun κ => gram_Endless_J31 y'_1 g'_1 t_3 t_4 leads_2 (r26 κ) k) (gram_Endless_J31 y'_1 g'_1 t_3 t_4 leads_2 r26' k) := by
  unfold gram_Endless_J31
  repeat' with_reducible first | exact ChO.const _ | exact h_r26 _ _ | (apply gram_Endless_J13_ch <;> assumption) | (apply gram_Endless_L11_ch <;> assumption) | apply ChO.ite | apply ChO.G | apply ChO.both | (apply ChO.bind; intro _)
theorem gram_Endless_L26_B_ch (r23 : Nat → Int → Tp5 → Option (Bool × Int)) (r23' : Int → Tp5 → Option (Bool × Int)) (h_r23 : ∀ a0 a1, ChO (fun κ => r23 κ a0 a1) (r23' a0 a1)) (r26 : Nat → Int → Tp5 → Option (Bool × Int)) (r26' : Int → Tp5 → Option (Bool × Int)) (h_r26 : ∀ a0 a1, ChO (fun κ => r26 κ a0 a1) (r26' a0 a1)) (y'_1 : Tp3) (g'_1 : Int) (g'_2 : Int) (g'_3 : Tp3) (l : Tp6) (t_3 : Int) (t_4 : Int) (leads_2 : Tp5) : ChO (fun κ => gram_Endless_L26_B y'_1 g'_1 g'_2 g'_3 l t_3 (r23 κ) (r26 κ) t_4 leads_2) (gram_Endless_L26_B y'_1 g'_1 g'_2 g'_3 l t_3 r23' r26' t_4 leads_2) := by
  unfold gram_Endless_L26_B
  repeat' with_reducible first | exact ChO.const _ | exact h_r23 _ _ | exact h_r26 _ _ | (apply gram_Endless_J13_ch <;> assumption) | (apply gram_Endless_L11_ch <;> assumption) | (apply gram_Endless_J31_ch <;> assumption) | apply ChO.ite | apply ChO.G | apply ChO.both | (apply ChO.bind; intro _)
theorem gram_Endless_L26_cn (r23 : Int → Tp5 → Option (Bool × Int)) (y'_1 : Tp3) (g'_1 : Int) (g'_2 : Int) (g'_3 : Tp3) (l : Tp6) (t_3 : Int) : Cn (gram_Endless_L26_F y'_1 g'_1 g'_2 g'_3 l t_3 r23) := fun g h hg x => gram_Endless_L26_B_ch (fun _ => r23) r23 (fun _ _ => ChO.const _) (fun κ t_4 leads_2 => g κ (t_4, leads_2)) (fun t_4 leads_2 => h (t_4, leads_2)) (fun t_4 leads_2 => hg (t_4, leads_2)) y'_1 g'_1 g'_2 g'_3 l t_3 x.1 x.2
theorem gram_Endless_L26_eq (r23 : Int → Tp5 → Option (Bool × Int)) (y'_1 : Tp3) (g'_1 : Int) (g'_2 : Int) (g'_3 : Tp3) (l : Tp6) (t_3 : Int) (t_4 : Int) (leads_2 : Tp5) : gram_Endless_L26 y'_1 g'_1 g'_2 g'_3 l t_3 r23 t_4 leads_2 = gram_Endless_L26_B y'_1 g'_1 g'_2 g'_3 l t_3 r23 (gram_Endless_L26 y'_1 g'_1 g'_2 g'_3 l t_3 r23) t_4 leads_2 := LFix_eq (gram_Endless_L26_cn r23 y'_1 g'_1 g'_2 g'_3 l t_3) (t_4, leads_2)
theorem gram_Endless_L26_ch (r23 : Nat → Int → Tp5 → Option (Bool × Int)) (r23' : Int → Tp5 → Option (Bool × Int)) (h_r23 : ∀ a0 a1, ChO (fun κ => r23 κ a0 a1) (r23' a0 a1)) (y'_1 : Tp3) (g'_1 : Int) (g'_2 : Int) (g'_3 : Tp3) (l : Tp6) (t_3 : Int) (t_4 : Int) (leads_2 : Tp5) : ChO (fun κ => gram_Endless_L26 y'_1 g'_1 g'_2 g'_3 l t_3 (r23 κ) t_4 leads_2) (gram_Endless_L26 y'_1 g'_1 g'_2 g'_3 l t_3 r23' t_4 leads_2) := by
  unfold gram_Endless_L26
  exact LFix_ch (fun κ => (gram_Endless_L26_cn (r23 κ) y'_1 g'_1 g'_2 g'_3 l t_3).mono) (gram_Endless_L26_cn r23' y'_1 g'_1 g'_2 g'_3 l t_3).mono (fun g h hg x => gram_Endless_L26_B_ch r23 r23' h_r23 (fun κ t_4 leads_2 => g κ (t_4, leads_2)) (fun t_4 leads_2 => h (t_4, leads_2)) (fun t_4 leads_2 => hg (t_4, leads_2)) y'_1 g'_1 g'_2 g'_3 l t_3 x.1 x.2) _
theorem gram_Endless_J46_ch (r42 : Nat → Int → Tp5 → Option (Bool × Int)) (r42' : Int → Tp5 → Option (Bool × Int)) (h_r42 : ∀ a0 a1, ChO (fun κ => r42 κ a0 a1) (r42' a0 a1)) (t_7 : Int) (leads_6 : Tp5) : ChO (fun κ => gram_Endless_J46 t_7 (r42 κ) leads_6) (gram_Endless_J46 t_7 r42' leads_6) := by
  unfold gram_Endless_J46
  repeat' with_reducible first | exact ChO.const _ | exact h_r42 _ _ | (apply gram_Endless_J13_ch <;> assumption) | (apply gram_Endless_L11_ch <;> assumption) | (apply gram_Endless_J31_ch <;> assumption) | (apply gram_Endless_L26_ch <;> assumption) | apply ChO.ite | apply ChO.G | apply ChO.both | (apply ChO.bind; intro _)
theorem gram_Endless_J45_ch (r42 : Nat → Int → Tp5 → Option (Bool × Int)) (r42' : Int → Tp5 → Option (Bool × Int)) (h_r42 : ∀ a0 a1, ChO (fun κ => r42 κ a0 a1) (r42' a0 a1)) (t_5 : Int) (t_6 : Int) (t_7 : Int) (leads_5 : Tp5) (t_8 : Bool) : ChO (fun κ => gram_Endless_J45 t_5 t_6 t_7 leads_5 (r42 κ) t_8) (gram_Endless_J45 t_5 t_6 t_7 leads_5 r42' t_8) := by
  unfold gram_Endless_J45
  repeat' with_reducible first | exact ChO.const _ | exact h_r42 _ _ | (apply gram_Endless_J13_ch <;> assumption) | (apply gram_Endless_L11_ch <;> assumption) | (apply gram_Endless_J31_ch <;> assumption) | (apply gram_Endless_L26_ch <;> assumption) | (apply gram_Endless_J46_ch <;> assumption) | apply ChO.ite | apply ChO.G | apply ChO.both | (apply ChO.bind; intro _)
theorem gram_Endless_L42_B_ch (r39 : Nat → Int → Tp5 → Option (Bool × Int)) (r39' : Int → Tp5 → Option (Bool × Int)) (h_r39 : ∀ a0 a1, ChO (fun κ => r39 κ a0 a1) (r39' a0 a1)) (r42 : Nat → Int → Tp5 → Option (Bool × Int)) (r42' : Int → Tp5 → Option (Bool × Int)) (h_r42 : ∀ a0 a1, ChO (fun κ => r42 κ a0 a1) (r42' a0 a1)) (t_5 : Int) (t_6 : Int) (leads_4 : Tp5) (t_7 : Int) (leads_5 : Tp5) : ChO (fun κ => gram_Endless_L42_B t_5 t_6 leads_4 (r39 κ) (r42 κ) t_7 leads_5) (gram_Endless_L42_B t_5 t_6 leads_4 r39' r42' t_7 leads_5) := by
  unfold gram_Endless_L42_B
  repeat' with_reducible first | exact ChO.const _ | exact h_r39 _ _ | exact h_r42 _ _ | (apply gram_Endless_J13_ch <;> assumption) | (apply gram_Endless_L11_ch <;> assumption) | (apply gram_Endless_J31_ch <;> assumption) | (apply gram_Endless_L26_ch <;> assumption) | (apply gram_Endless_J46_ch <;> assumption) | (apply gram_Endless_J45_ch <;> assumption) | apply ChO.ite | apply ChO.G | apply ChO.both | (apply ChO.bind; intro _)
theorem gram_Endless_L42_cn (r39 : Int → Tp5 → Option (Bool × Int)) (t_5 : Int) (t_6 : Int) (leads_4 : Tp5) : Cn (gram_Endless_L42_F t_5 t_6 leads_4 r39) := fun g h hg x => gram_Endless_L42_B_ch (fun _ => r39) r39 (fun _ _ => ChO.const _) (fun κ t_7 leads_5 => g κ (t_7, leads_5)) (fun t_7 leads_5 => h (t_7, leads_5)) (fun t_7 leads_5 => hg (t_7, leads_5)) t_5 t_6 leads_4 x.1 x.2
theorem gram_Endless_L42_eq (r39 : Int → Tp5 → Option (Bool × Int)) (t_5 : Int) (t_6 : Int) (leads_4 : Tp5) (t_7 : Int) (leads_5 : Tp5) : gram_Endless_L42 t_5 t_6 leads_4 r39 t_7 leads_5 = gram_Endless_L42_B t_5 t_6 leads_4 r39 (gram_Endless_L42 t_5 t_6 leads_4 r39) t_7 leads_5 := LFix_eq (gram_Endless_L42_cn r39 t_5 t_6 leads_4) (t_7, leads_5)
theorem gram_Endless_L42_ch (r39 : Nat → Int → Tp5 → Option (Bool × Int)) (r39' : Int → Tp5 → Option (Bool × Int)) (h_r39 : ∀ a0 a1, ChO (fun κ => r39 κ a0 a1) (r39' a0 a1)) (t_5 : Int) (t_6 : Int) (leads_4 : Tp5) (t_7 : Int) (leads_5 : Tp5) : ChO (fun κ => gram_Endless_L42 t_5 t_6 leads_4 (r39 κ) t_7 leads_5) (gram_Endless_L42 t_5 t_6 leads_4 r39' t_7 leads_5) := by
  unfold gram_Endless_L42
  exact LFix_ch (fun κ => (gram_Endless_L42_cn (r39 κ) t_5 t_6 leads_4).mono) (gram_Endless_L42_cn r39' t_5 t_6 leads_4).mono (fun g h hg x => gram_Endless_L42_B_ch r39 r39' h_r39 (fun κ t_7 leads_5 => g κ (t_7, leads_5)) (fun t_7 leads_5 => h (t_7, leads_5)) (fun t_7 leads_5 => hg (t_7, leads_5)) t_5 t_6 leads_4 x.1 x.2) _
theorem gram_Endless_L39_B_ch (r36 : Nat → Int → Tp5 → Option (Bool × Int)) (r36' : Int → Tp5 → Option (Bool × Int)) (h_r36 : ∀ a0 a1, ChO (fun κ => r36 κ a0 a1) (r36' a0 a1)) (r39 : Nat → Int → Tp5 → Option (Bool × Int)) (r39' : Int → Tp5 → Option (Bool × Int)) (h_r39 : ∀ a0 a1, ChO (fun κ => r39 κ a0 a1) (r39' a0 a1)) (t_5 : Int) (leads_3 : Tp5) (t_6 : Int) (leads_4 : Tp5) : ChO (fun κ => gram_Endless_L39_B t_5 leads_3 (r36 κ) (r39 κ) t_6 leads_4) (gram_Endless_L39_B t_5 leads_3 r36' r39' t_6 leads_4) := by
  unfold gram_Endless_L39_B
  repeat' with_reducible first | exact ChO.const _ | exact h_r36 _ _ | exact h_r39 _ _ | (apply gram_Endless_J13_ch <;> assumption) | (apply gram_Endless_L11_ch <;> assumption) | (apply gram_Endless_J31_ch <;> assumption) | (apply gram_Endless_L26_ch <;> assumption) | (apply gram_Endless_J46_ch <;> assumption) | (apply gram_Endless_J45_ch <;> assumption) | (apply gram_Endless_L42_ch <;> assumption) | apply ChO.ite | apply ChO.G | apply ChO.both | (apply ChO.bind; intro _)
theorem gram_Endless_L39_cn (r36 : Int → Tp5 → Option (Bool × Int)) (t_5 : Int) (leads_3 : Tp5) : Cn (gram_Endless_L39_F t_5 leads_3 r36) := fun g h hg x => gram_Endless_L39_B_ch (fun _ => r36) r36 (fun _ _ => ChO.const _) (fun κ t_6 leads_4 => g κ (t_6, leads_4)) (fun t_6 leads_4 => h (t_6, leads_4)) (fun t_6 leads_4 => hg (t_6, leads_4)) t_5 leads_3 x.1 x.2
theorem gram_Endless_L39_eq (r36 : Int → Tp5 → Option (Bool × Int)) (t_5 : Int) (leads_3 : Tp5) (t_6 : Int) (leads_4 : Tp5) : gram_Endless_L39 t_5 leads_3 r36 t_6 leads_4 = gram_Endless_L39_B t_5 leads_3 r36 (gram_Endless_L39 t_5 leads_3 r36) t_6 leads_4 := LFix_eq (gram_Endless_L39_cn r36 t_5 leads_3) (t_6, leads_4)
theorem gram_Endless_L39_ch (r36 : Nat → Int → Tp5 → Option (Bool × Int)) (r36' : Int → Tp5 → Option (Bool × Int)) (h_r36 : ∀ a0 a1, ChO (fun κ => r36 κ a0 a1) (r36' a0 a1)) (t_5 : Int) (leads_3 : Tp5) (t_6 : Int) (leads_4 : Tp5) : ChO (fun κ => gram_Endless_L39 t_5 leads_3 (r36 κ) t_6 leads_4) (gram_Endless_L39 t_5 leads_3 r36' t_6 leads_4) := by
  unfold gram_Endless_L39
  exact LFix_ch (fun κ => (gram_Endless_L39_cn (r36 κ) t_5 leads_3).mono) (gram_Endless_L39_cn r36' t_5 leads_3).mono (fun g h hg x => gram_Endless_L39_B_ch r36 r36' h_r36 (fun κ t_6 leads_4 => g κ (t_6, leads_4)) (fun t_6 leads_4 => h (t_6, leads_4)) (fun t_6 leads_4 => hg (t_6, leads_4)) t_5 leads_3 x.1 x.2) _
theorem gram_Endless_L51_B_ch (r51 : Nat → Int → Option (Bool × Int)) (r51' : Int → Option (Bool × Int)) (h_r51 : ∀ a0, ChO (fun κ => r51 κ a0) (r51' a0)) (leads_3 : Tp5) (t_9 : Int) : ChO (fun κ => gram_Endless_L51_B leads_3 (r51 κ) t_9) (gram_Endless_L51_B leads_3 r51' t_9) := by
  unfold gram_Endless_L51_B
  repeat' with_reducible first | exact ChO.const _ | exact h_r51 _ | (apply gram_Endless_J13_ch <;> assumption) | (apply gram_Endless_L11_ch <;> assumption) | (apply gram_Endless_J31_ch <;> assumption) | (apply gram_Endless_L26_ch <;> assumption) | (apply gram_Endless_J46_ch <;> assumption) | (apply gram_Endless_J45_ch <;> assumption) | (apply gram_Endless_L42_ch <;> assumption) | (apply gram_Endless_L39_ch <;> assumption) | apply ChO.ite | apply ChO.G | apply ChO.both | (apply ChO.bind; intro _)
theorem gram_Endless_L51_cn  (leads_3 : Tp5) : Cn (gram_Endless_L51_F leads_3) := fun g h hg x => gram_Endless_L51_B_ch  (fun κ t_9 => g κ t_9) (fun t_9 => h t_9) (fun t_9 => hg t_9) leads_3 x
theorem gram_Endless_L51_eq  (leads_3 : Tp5) (t_9 : Int) : gram_Endless_L51 leads_3 t_9 = gram_Endless_L51_B leads_3 (gram_Endless_L51 leads_3) t_9 := LFix_eq (gram_Endless_L51_cn leads_3) t_9
theorem gram_Endless_L36_B_ch (r36 : Nat → Int → Tp5 → Option (Bool × Int)) (r36' : Int → Tp5 → Option (Bool × Int)) (h_r36 : ∀ a0 a1, ChO (fun κ => r36 κ a0 a1) (r36' a0 a1)) (leads_1 : Tp5) (t_5 : Int) (leads_3 : Tp5) : ChO (fun κ => gram_Endless_L36_B leads_1 (r36 κ) t_5 leads_3) (gram_Endless_L36_B leads_1 r36' t_5 leads_3) := by
  unfold gram_Endless_L36_B
  repeat' with_reducible first | exact ChO.const _ | exact h_r36 _ _ | (apply gram_Endless_J13_ch <;> assumption) | (apply gram_Endless_L11_ch <;> assumption) | (apply gram_Endless_J31_ch <;> assumption) | (apply gram_Endless_L26_ch <;> assumption) | (apply gram_Endless_J46_ch <;> assumption) | (apply gram_Endless_J45_ch <;> assumption) | (apply gram_Endless_L42_ch <;> assumption) | (apply gram_Endless_L39_ch <;> assumption) | apply ChO.ite | apply ChO.G | apply ChO.both | (apply ChO.bind; intro _)
theorem gram_Endless_L36_cn  (leads_1 : Tp5) : Cn (gram_Endless_L36_F leads_1) := fun g h hg x => gram_Endless_L36_B_ch  (fun κ t_5 leads_3 => g κ (t_5, leads_3)) (fun t_5 leads_3 => h (t_5, leads_3)) (fun t_5 leads_3 => hg (t_5, leads_3)) leads_1 x.1 x.2
theorem gram_Endless_L36_eq  (leads_1 : Tp5) (t_5 : Int) (leads_3 : Tp5) : gram_Endless_L36 leads_1 t_5 leads_3 = gram_Endless_L36_B leads_1 (gram_Endless_L36 leads_1) t_5 leads_3 := LFix_eq (gram_Endless_L36_cn leads_1) (t_5, leads_3)
theorem gram_Endless_L23_B_ch (r23 : Nat → Int → Tp5 → Option (Bool × Int)) (r23' : Int → Tp5 → Option (Bool × Int)) (h_r23 : ∀ a0 a1, ChO (fun κ => r23 κ a0 a1) (r23' a0 a1)) (y'_1 : Tp3) (g'_1 : Int) (g'_2 : Int) (g'_3 : Tp3) (l : Tp6) (t_3 : Int) (leads_1 : Tp5) : ChO (fun κ => gram_Endless_L23_B y'_1 g'_1 g'_2 g'_3 l (r23 κ) t_3 leads_1) (gram_Endless_L23_B y'_1 g'_1 g'_2 g'_3 l r23' t_3 leads_1) := by
  unfold gram_Endless_L23_B
  repeat' with_reducible first | exact ChO.const _ | exact h_r23 _ _ | (apply gram_Endless_J13_ch <;> assumption) | (apply gram_Endless_L11_ch <;> assumption) | (apply gram_Endless_J31_ch <;> assumption) | (apply gram_Endless_L26_ch <;> assumption) | (apply gram_Endless_J46_ch <;> assumption) | (apply gram_Endless_J45_ch <;> assumption) | (apply gram_Endless_L42_ch <;> assumption) | (apply gram_Endless_L39_ch <;> assumption) | apply ChO.ite | apply ChO.G | apply ChO.both | (apply ChO.bind; intro _)
theorem gram_Endless_L23_cn  (y'_1 : Tp3) (g'_1 : Int) (g'_2 : Int) (g'_3 : Tp3) (l : Tp6) : Cn (gram_Endless_L23_F y'_1 g'_1 g'_2 g'_3 l) := fun g h hg x => gram_Endless_L23_B_ch  (fun κ t_3 leads_1 => g κ (t_3, leads_1)) (fun t_3 leads_1 => h (t_3, leads_1)) (fun t_3 leads_1 => hg (t_3, leads_1)) y'_1 g'_1 g'_2 g'_3 l x.1 x.2
theorem gram_Endless_L23_eq  (y'_1 : Tp3) (g'_1 : Int) (g'_2 : Int) (g'_3 : Tp3) (l : Tp6) (t_3 : Int) (leads_1 : Tp5) : gram_Endless_L23 y'_1 g'_1 g'_2 g'_3 l t_3 leads_1 = gram_Endless_L23_B y'_1 g'_1 g'_2 g'_3 l (gram_Endless_L23 y'_1 g'_1 g'_2 g'_3 l) t_3 leads_1 := LFix_eq (gram_Endless_L23_cn y'_1 g'_1 g'_2 g'_3 l) (t_3, leads_1)
theorem gram_Endless_L18_B_ch (r18 : Nat → Int → Tp5 → Option (Bool × Int)) (r18' : Int → Tp5 → Option (Bool × Int)) (h_r18 : ∀ a0 a1, ChO (fun κ => r18 κ a0 a1) (r18' a0 a1)) (y'_1 : Tp3) (g'_1 : Int) (g'_2 : Int) (g'_3 : Tp3) (l : Tp6) (t_2 : Int) (leads : Tp5) : ChO (fun κ => gram_Endless_L18_B y'_1 g'_1 g'_2 g'_3 l (r18 κ) t_2 leads) (gram_Endless_L18_B y'_1 g'_1 g'_2 g'_3 l r18' t_2 leads) := by
  unfold gram_Endless_L18_B
  repeat' with_reducible first | exact ChO.const _ | exact h_r18 _ _ | (apply gram_Endless_J13_ch <;> assumption) | (apply gram_Endless_L11_ch <;> assumption) | (apply gram_Endless_J31_ch <;> assumption) | (apply gram_Endless_L26_ch <;> assumption) | (apply gram_Endless_J46_ch <;> assumption) | (apply gram_Endless_J45_ch <;> assumption) | (apply gram_Endless_L42_ch <;> assumption) | (apply gram_Endless_L39_ch <;> assumption) | apply ChO.ite | apply ChO.G | apply ChO.both | (apply ChO.bind; intro _)
theorem gram_Endless_L18_cn  (y'_1 : Tp3) (g'_1 : Int) (g'_2 : Int) (g'_3 : Tp3) (l : Tp6) : Cn (gram_Endless_L18_F y'_1 g'_1 g'_2 g'_3 l) := fun g h hg x => gram_Endless_L18_B_ch  (fun κ t_2 leads => g κ (t_2, leads)) (fun t_2 leads => h (t_2, leads)) (fun t_2 leads => hg (t_2, leads)) y'_1 g'_1 g'_2 g'_3 l x.1 x.2
theorem gram_Endless_L18_eq  (y'_1 : Tp3) (g'_1 : Int) (g'_2 : Int) (g'_3 : Tp3) (l : Tp6) (t_2 : Int) (leads : Tp5) : gram_Endless_L18 y'_1 g'_1 g'_2 g'_3 l t_2 leads = gram_Endless_L18_B y'_1 g'_1 g'_2 g'_3 l (gram_Endless_L18 y'_1 g'_1 g'_2 g'_3 l) t_2 leads := LFix_eq (gram_Endless_L18_cn y'_1 g'_1 g'_2 g'_3 l) (t_2, leads)
theorem gram_Endless_L8_B_ch (r8 : Nat → Bool → Int → Int → Tp3 → Tp6 → Option (Bool × Int)) (r8' : Bool → Int → Int → Tp3 → Tp6 → Option (Bool × Int)) (h_r8 : ∀ a0 a1 a2 a3 a4, ChO (fun κ => r8 κ a0 a1 a2 a3 a4) (r8' a0 a1 a2 a3 a4)) (y'_1 : Tp3) (again : Bool) (g'_1 : Int) (g'_2 : Int) (g'_3 : Tp3) (l : Tp6) : ChO (fun κ => gram_Endless_L8_B y'_1 (r8 κ) again g'_1 g'_2 g'_3 l) (gram_Endless_L8_B y'_1 r8' again g'_1 g'_2 g'_3 l) := by
  unfold gram_Endless_L8_B
  repeat' with_reducible first | exact ChO.const _ | exact h_r8 _ _ _ _ _ | (apply gram_Endless_J13_ch <;> assumption) | (apply gram_Endless_L11_ch <;> assumption) | (apply gram_Endless_J31_ch <;> assumption) | (apply gram_Endless_L26_ch <;> assumption) | (apply gram_Endless_J46_ch <;> assumption) | (apply gram_Endless_J45_ch <;> assumption) | (apply gram_Endless_L42_ch <;> assumption) | (apply gram_Endless_L39_ch <;> assumption) | apply ChO.ite | apply ChO.G | apply ChO.both | (apply ChO.bind; intro _)
theorem gram_Endless_L8_cn  (y'_1 : Tp3) : Cn (gram_Endless_L8_F y'_1) := fun g h hg x => gram_Endless_L8_B_ch  (fun κ again g'_1 g'_2 g'_3 l => g κ (again, g'_1, g'_2, g'_3, l)) (fun again g'_1 g'_2 g'_3 l => h (again, g'_1, g'_2, g'_3, l)) (fun again g'_1 g'_2 g'_3 l => hg (again, g'_1, g'_2, g'_3, l)) y'_1 x.1 x.2.1 x.2.2.1 x.2.2.2.1 x.2.2.2.2
theorem gram_Endless_L8_eq  (y'_1 : Tp3) (again : Bool) (g'_1 : Int) (g'_2 : Int) (g'_3 : Tp3) (l : Tp6) : gram_Endless_L8 y'_1 again g'_1 g'_2 g'_3 l = gram_Endless_L8_B y'_1 (gram_Endless_L8 y'_1) again g'_1 g'_2 g'_3 l := LFix_eq (gram_Endless_L8_cn y'_1) (again, g'_1, g'_2, g'_3, l)

noncomputable def r17_Check_L14_B (g' : Tp1) (i : Int) (r6 : (Int → Option (Int))) (r14 : Int → Option (Int)) (k : Int) : Option (Int) :=
  if (decide (k < ((((ix g'.2.2.1 i).2).1).length : Int))) = true then
  G (0 ≤ k ∧ k < ((((ix g'.2.2.1 i).2).1).length : Int)) (
  if (decide ((ix (((ix g'.2.2.1 i).2).1) k) < (0 : Int))) = true then
  some (2 : Int) else
  G (0 ≤ k ∧ k < ((((ix g'.2.2.1 i).2).1).length : Int)) (
  G (fits (g'.1 + g'.2.1)) (
  if (decide ((g'.1 + g'.2.1) ≤ (ix (((ix g'.2.2.1 i).2).1) k))) = true then
  some (2 : Int) else
  G (fits (k + (1 : Int))) (
  r14 (k + (1 : Int)))))) else
  G (fits (i + (1 : Int))) (
  r6 (i + (1 : Int)))
noncomputable def r17_Check_L14_F (g' : Tp1) (i : Int) (r6 : (Int → Option (Int))) : (Int → Option (Int)) → Int → Option (Int) :=
  fun rec x => r17_Check_L14_B g' i r6 (fun k => rec k) x
noncomputable def r17_Check_L14 (g' : Tp1) (i : Int) (r6 : (Int → Option (Int))) (k : Int) : Option (Int) := LFix (r17_Check_L14_F g' i r6 ) k
noncomputable def r17_Check_L6_B (g' : Tp1) (r6 : Int → Option (Int)) (i : Int) : Option (Int) :=
  if (decide (i < (g'.2.2.1.length : Int))) = true then
  G (0 ≤ i ∧ i < (g'.2.2.1.length : Int)) (
  if (decide (((ix g'.2.2.1 i).1) < (0 : Int))) = true then
  some (2 : Int) else
  if (decide (g'.2.1 ≤ ((ix g'.2.2.1 i).1))) = true then
  some (2 : Int) else
  if (decide ((3 : Int) < ((((ix g'.2.2.1 i).2).1).length : Int))) = true then
  some (1 : Int) else
  r17_Check_L14 g' i r6 (0 : Int)) else
  some (0 : Int)
noncomputable def r17_Check_L6_F (g' : Tp1) : (Int → Option (Int)) → Int → Option (Int) :=
  fun rec x => r17_Check_L6_B g' (fun i => rec i) x
noncomputable def r17_Check_L6 (g' : Tp1) (i : Int) : Option (Int) := LFix (r17_Check_L6_F g' ) i
noncomputable def r17_Check (g' : Tp1) : Option (Int) :=
  if (decide (g'.1 < (1 : Int))) = true then
  some (2 : Int) else
  if (decide ((4 : Int) < g'.1)) = true then
  some (2 : Int) else
  if (decide (g'.2.1 < (1 : Int))) = true then
  some (1 : Int) else
  if (decide ((6 : Int) < g'.2.1)) = true then
  some (1 : Int) else
  if (decide ((20 : Int) < (g'.2.2.1.length : Int))) = true then
  some (1 : Int) else
  r17_Check_L6 g' (0 : Int)
theorem r17_Check_L14_B_ch (r6 : Nat → Int → Option (Int)) (r6' : Int → Option (Int)) (h_r6 : ∀ a0, ChO (fun κ => r6 κ a0) (r6' a0)) (r14 : Nat → Int → Option (Int)) (r14' : Int → Option (Int)) (h_r14 : ∀ a0, ChO (fun κ => r14 κ a0) (r14' a0)) (g' : Tp1) (i : Int) (k : Int) : ChO (fun κ => r17_Check_L14_B g' i (r6 κ) (r14 κ) k) (r17_Check_L14_B g' i r6' r14' k) := by
  unfold r17_Check_L14_B
  repeat' with_reducible first | exact ChO.const _ | exact h_r6 _ | exact h_r14 _ | apply ChO.ite | apply ChO.G | apply ChO.both | (apply ChO.bind; intro _)
theorem r17_Check_L14_cn (r6 : Int → Option (Int)) (g' : Tp1) (i : Int) : Cn (r17_Check_L14_F g' i r6) := fun g h hg x => r17_Check_L14_B_ch (fun _ => r6) r6 (fun _ => ChO.const _) (fun κ k => g κ k) (fun k => h k) (fun k => hg k) g' i x
theorem r17_Check_L14_eq (r6 : Int → Option (Int)) (g' : Tp1) (i : Int) (k : Int) : r17_Check_L14 g' i r6 k = r17_Check_L14_B g' i r6 (r17_Check_L14 g' i r6) k := LFix_eq (r17_Check_L14_cn r6 g' i) k
theorem r17_Check_L14_ch (r6 : Nat → Int → Option (Int)) (r6' : Int → Option (Int)) (h_r6 : ∀ a0, ChO (fun κ => r6 κ a0) (r6' a0)) (g' : Tp1) (i : Int) (k : Int) : ChO (fun κ => r17_Check_L14 g' i (r6 κ) k) (r17_Check_L14 g' i r6' k) := by
  unfold r17_Check_L14
  exact LFix_ch (fun κ => (r17_Check_L14_cn (r6 κ) g' i).mono) (r17_Check_L14_cn r6' g' i).mono (fun g h hg x => r17_Check_L14_B_ch r6 r6' h_r6 (fun κ k => g κ k) (fun k => h k) (fun k => hg k) g' i x) _
theorem r17_Check_L6_B_ch (r6 : Nat → Int → Option (Int)) (r6' : Int → Option (Int)) (h_r6 : ∀ a0, ChO (fun κ => r6 κ a0) (r6' a0)) (g' : Tp1) (i : Int) : ChO (fun κ => r17_Check_L6_B g' (r6 κ) i) (r17_Check_L6_B g' r6' i) := by
  unfold r17_Check_L6_B
  repeat' with_reducible first | exact ChO.const _ | exact h_r6 _ | (apply r17_Check_L14_ch <;> assumption) | apply ChO.ite | apply ChO.G | apply ChO.both | (apply ChO.bind; intro _)
theorem r17_Check_L6_cn  (g' : Tp1) : Cn (r17_Check_L6_F g') := fun g h hg x => r17_Check_L6_B_ch  (fun κ i => g κ i) (fun i => h i) (fun i => hg i) g' x
theorem r17_Check_L6_eq  (g' : Tp1) (i : Int) : r17_Check_L6 g' i = r17_Check_L6_B g' (r17_Check_L6 g') i := LFix_eq (r17_Check_L6_cn g') i

noncomputable def r17_Whole_L2_B (g' : Tp1) (ends : Tp7) (m : Tp4) (r2 : Int → Option (Bool)) (i : Int) : Option (Bool) :=
  if (decide (i < (m.2.1.length : Int))) = true then
  G (0 ≤ i ∧ i < (m.2.1.length : Int)) (
  if (decide (g'.1 ≤ (ix m.2.1 i))) = true then
  G (0 ≤ i ∧ i < (m.2.1.length : Int)) (
  G (fits ((ix m.2.1 i) - g'.1)) (
  G (0 ≤ (ix m.2.1 i) - g'.1 ∧ (ix m.2.1 i) - g'.1 < (ends.length : Int)) (
  if (decide ((ix ends ((ix m.2.1 i) - g'.1)) = (0 : Int))) = true then
  some false else
  G (fits (i + (1 : Int))) (
  r2 (i + (1 : Int)))))) else
  G (fits (i + (1 : Int))) (
  r2 (i + (1 : Int)))) else
  some true
noncomputable def r17_Whole_L2_F (g' : Tp1) (ends : Tp7) (m : Tp4) : (Int → Option (Bool)) → Int → Option (Bool) :=
  fun rec x => r17_Whole_L2_B g' ends m (fun i => rec i) x
noncomputable def r17_Whole_L2 (g' : Tp1) (ends : Tp7) (m : Tp4) (i : Int) : Option (Bool) := LFix (r17_Whole_L2_F g' ends m ) i
noncomputable def r17_Whole (g' : Tp1) (ends : Tp7) (m : Tp4) : Option (Bool) :=
  r17_Whole_L2 g' ends m (0 : Int)
theorem r17_Whole_L2_B_ch (r2 : Nat → Int → Option (Bool)) (r2' : Int → Option (Bool)) (h_r2 : ∀ a0, ChO (fun κ => r2 κ a0) (r2' a0)) (g' : Tp1) (ends : Tp7) (m : Tp4) (i : Int) : ChO (fun κ => r17_Whole_L2_B g' ends m (r2 κ) i) (r17_Whole_L2_B g' ends m r2' i) := by
  unfold r17_Whole_L2_B
  repeat' with_reducible first | exact ChO.const _ | exact h_r2 _ | apply ChO.ite | apply ChO.G | apply ChO.both | (apply ChO.bind; intro _)
theorem r17_Whole_L2_cn  (g' : Tp1) (ends : Tp7) (m : Tp4) : Cn (r17_Whole_L2_F g' ends m) := fun g h hg x => r17_Whole_L2_B_ch  (fun κ i => g κ i) (fun i => h i) (fun i => hg i) g' ends m x
theorem r17_Whole_L2_eq  (g' : Tp1) (ends : Tp7) (m : Tp4) (i : Int) : r17_Whole_L2 g' ends m i = r17_Whole_L2_B g' ends m (r17_Whole_L2 g' ends m) i := LFix_eq (r17_Whole_L2_cn g' ends m) i

noncomputable def r17_Ends_J9 (g' : Tp1) (again_1 : Bool) (k : Int) (out_1 : Tp7) (r6 : (Bool → Int → Tp7 → Option Tp7)) (t : Bool) : Option Tp7 :=
  if t = true then
  G (0 ≤ k ∧ k < (g'.2.2.1.length : Int)) (
  G (0 ≤ (ix g'.2.2.1 k).1 ∧ (ix g'.2.2.1 k).1 < (out_1.length : Int)) (
  G (((ix g'.2.2.1 k).1).toNat < out_1.length) (
  G (fits (k + (1 : Int))) (
  r6 true (k + (1 : Int)) (out_1.set ((ix g'.2.2.1 k).1).toNat (1 : Int)))))) else
  G (fits (k + (1 : Int))) (
  r6 again_1 (k + (1 : Int)) out_1)
noncomputable def r17_Ends_L6_B (g' : Tp1) (r3 : (Bool → Tp7 → Option Tp7)) (r6 : Bool → Int → Tp7 → Option Tp7) (again_1 : Bool) (k : Int) (out_1 : Tp7) : Option Tp7 :=
  if (decide (k < (g'.2.2.1.length : Int))) = true then
  G (0 ≤ k ∧ k < (g'.2.2.1.length : Int)) (
  (r17_Whole (g'.1, (g'.2.1, (g'.2.2.1, ()))) out_1 (ix g'.2.2.1 k)).bind (fun y' =>
  if y' = true then
  G (0 ≤ k ∧ k < (g'.2.2.1.length : Int)) (
  G (0 ≤ (ix g'.2.2.1 k).1 ∧ (ix g'.2.2.1 k).1 < (out_1.length : Int)) (
  G (((ix g'.2.2.1 k).1).toNat < out_1.length) (
  r17_Ends_J9 g' again_1 k out_1 r6 (decide ((ix out_1 ((ix g'.2.2.1 k).1)) = (0 : Int)))))) else
  r17_Ends_J9 g' again_1 k out_1 r6 false)) else
  r3 again_1 out_1
noncomputable def r17_Ends_L6_F (g' : Tp1) (r3 : (Bool → Tp7 → Option Tp7)) : (Bool × Int × Tp7 → Option Tp7) → Bool × Int × Tp7 → Option Tp7 :=
  fun rec x => r17_Ends_L6_B g' r3 (fun again_1 k out_1 => rec (again_1, k, out_1)) x.1 x.2.1 x.2.2
noncomputable def r17_Ends_L6 (g' : Tp1) (r3 : (Bool → Tp7 → Option Tp7)) (again_1 : Bool) (k : Int) (out_1 : Tp7) : Option Tp7 := LFix (r17_Ends_L6_F g' r3 ) (again_1, k, out_1)
noncomputable def r17_Ends_L3_B (g' : Tp1) (r3 : Bool → Tp7 → Option Tp7) (again : Bool) (out : Tp7) : Option Tp7 :=
  if again = true then
  r17_Ends_L6 g' r3 false (0 : Int) out else
  some out
noncomputable def r17_Ends_L3_F (g' : Tp1) : (Bool × Tp7 → Option Tp7) → Bool × Tp7 → Option Tp7 :=
  fun rec x => r17_Ends_L3_B g' (fun again out => rec (again, out)) x.1 x.2
noncomputable def r17_Ends_L3 (g' : Tp1) (again : Bool) (out : Tp7) : Option Tp7 := LFix (r17_Ends_L3_F g' ) (again, out)
noncomputable def r17_Ends (g' : Tp1) : Option Tp7 :=
  G (mkOK g'.2.1 g'.2.1 8) (
  r17_Ends_L3 g' true (List.replicate (g'.2.1).toNat (0 : Int)))
theorem r17_Ends_J9_ch (r6 : Nat → Bool → Int → Tp7 → Option Tp7) (r6' : Bool → Int → Tp7 → Option Tp7) (h_r6 : ∀ a0 a1 a2, ChO (fun κ => r6 κ a0 a1 a2) (r6' a0 a1 a2)) (g' : Tp1) (again_1 : Bool) (k : Int) (out_1 : Tp7) (t : Bool) : ChO (fun κ => r17_Ends_J9 g' again_1 k out_1 (r6 κ) t) (r17_Ends_J9 g' again_1 k out_1 r6' t) := by
  unfold r17_Ends_J9
  repeat' with_reducible first | exact ChO.const _ | exact h_r6 _ _ _ | apply ChO.ite | apply ChO.G | apply ChO.both | (apply ChO.bind; intro _)
theorem r17_Ends_L6_B_ch (r3 : Nat → Bool → Tp7 → Option Tp7) (r3' : Bool → Tp7 → Option Tp7) (h_r3 : ∀ a0 a1, ChO (fun κ => r3 κ a0 a1) (r3' a0 a1)) (r6 : Nat → Bool → Int → Tp7 → Option Tp7) (r6' : Bool → Int → Tp7 → Option Tp7) (h_r6 : ∀ a0 a1 a2, ChO (fun κ => r6 κ a0 a1 a2) (r6' a0 a1 a2)) (g' : Tp1) (again_1 : Bool) (k : Int) (out_1 : Tp7) : ChO (fun κ => r17_Ends_L6_B g' (r3 κ) (r6 κ) again_1 k out_1) (r17_Ends_L6_B g' r3' r6' again_1 k out_1) := by
  unfold r17_Ends_L6_B
  repeat' with_reducible first | exact ChO.const _ | exact h_r3 _ _ | exact h_r6 _ _ _ | (apply r17_Ends_J9_ch <;> assumption) | apply ChO.ite | apply ChO.G | apply ChO.both | (apply ChO.bind; intro _)
theorem r17_Ends_L6_cn (r3 : Bool → Tp7 → Option Tp7) (g' : Tp1) : Cn (r17_Ends_L6_F g' r3) := fun g h hg x => r17_Ends_L6_B_ch (fun _ => r3) r3 (fun _ _ => ChO.const _) (fun κ again_1 k out_1 => g κ (again_1, k, out_1)) (fun again_1 k out_1 => h (again_1, k, out_1)) (fun again_1 k out_1 => hg (again_1, k, out_1)) g' x.1 x.2.1 x.2.2
theorem r17_Ends_L6_eq (r3 : Bool → Tp7 → Option Tp7) (g' : Tp1) (again_1 : Bool) (k : Int) (out_1 : Tp7) : r17_Ends_L6 g' r3 again_1 k out_1 = r17_Ends_L6_B g' r3 (r17_Ends_L6 g' r3) again_1 k out_1 := LFix_eq (r17_Ends_L6_cn r3 g') (again_1, k, out_1)
theorem r17_Ends_L6_ch (r3 : Nat → Bool → Tp7 → Option Tp7) (r3' : Bool → Tp7 → Option Tp7) (h_r3 : ∀ a0 a1, ChO (fun κ => r3 κ a0 a1) (r3' a0 a1)) (g' : Tp1) (again_1 : Bool) (k : Int) (out_1 : Tp7) : ChO (fun κ => r17_Ends_L6 g' (r3 κ) again_1 k out_1) (r17_Ends_L6 g' r3' again_1 k out_1) := by
  unfold r17_Ends_L6
  exact LFix_ch (fun κ => (r17_Ends_L6_cn (r3 κ) g').mono) (r17_Ends_L6_cn r3' g').mono (fun g h hg x => r17_Ends_L6_B_ch r3 r3' h_r3 (fun κ again_1 k out_1 => g κ (again_1, k, out_1)) (fun again_1 k out_1 => h (again_1, k, out_1)) (fun again_1 k out_1 => hg (again_1, k, out_1)) g' x.1 x.2.1 x.2.2) _
theorem r17_Ends_L3_B_ch (r3 : Nat → Bool → Tp7 → Option Tp7) (r3' : Bool → Tp7 → Option Tp7) (h_r3 : ∀ a0 a1, ChO (fun κ => r3 κ a0 a1) (r3' a0 a1)) (g' : Tp1) (again : Bool) (out : Tp7) : ChO (fun κ => r17_Ends_L3_B g' (r3 κ) again out) (r17_Ends_L3_B g' r3' again out) := by
  unfold r17_Ends_L3_B
  repeat' with_reducible first | exact ChO.const _ | exact h_r3 _ _ | (apply r17_Ends_J9_ch <;> assumption) | (apply r17_Ends_L6_ch <;> assumption) | apply ChO.ite | apply ChO.G | apply ChO.both | (apply ChO.bind; intro _)
theorem r17_Ends_L3_cn  (g' : Tp1) : Cn (r17_Ends_L3_F g') := fun g h hg x => r17_Ends_L3_B_ch  (fun κ again out => g κ (again, out)) (fun again out => h (again, out)) (fun again out => hg (again, out)) g' x.1 x.2
theorem r17_Ends_L3_eq  (g' : Tp1) (again : Bool) (out : Tp7) : r17_Ends_L3 g' again out = r17_Ends_L3_B g' (r17_Ends_L3 g') again out := LFix_eq (r17_Ends_L3_cn g') (again, out)

noncomputable def r17_Met_J15 (g' : Tp1) (k : Int) (again_2 : Bool) (i : Int) (out_2 : Tp7) (r13 : (Bool → Int → Tp7 → Option Tp7)) (t : Bool) : Option Tp7 :=
  if t = true then
  G (0 ≤ i ∧ i < ((((ix g'.2.2.1 k).2).1).length : Int)) (
  G (fits ((ix (((ix g'.2.2.1 k).2).1) i) - g'.1)) (
  G (0 ≤ (ix (((ix g'.2.2.1 k).2).1) i) - g'.1 ∧ (ix (((ix g'.2.2.1 k).2).1) i) - g'.1 < (out_2.length : Int)) (
  G (((ix (((ix g'.2.2.1 k).2).1) i) - g'.1).toNat < out_2.length) (
  G (fits (i + (1 : Int))) (
  r13 true (i + (1 : Int)) (out_2.set ((ix (((ix g'.2.2.1 k).2).1) i) - g'.1).toNat (1 : Int))))))) else
  G (fits (i + (1 : Int))) (
  r13 again_2 (i + (1 : Int)) out_2)
noncomputable def r17_Met_L13_B (g' : Tp1) (k : Int) (r8 : (Bool → Int → Tp7 → Option Tp7)) (y'_1 : Bool) (r13 : Bool → Int → Tp7 → Option Tp7) (again_2 : Bool) (i : Int) (out_2 : Tp7) : Option Tp7 :=
  if (decide (i < ((((ix g'.2.2.1 k).2).1).length : Int))) = true then
  if y'_1 = true then
  G (0 ≤ (ix g'.2.2.1 k).1 ∧ (ix g'.2.2.1 k).1 < (out_2.length : Int)) (
  G (((ix g'.2.2.1 k).1).toNat < out_2.length) (
  if (decide ((ix out_2 ((ix g'.2.2.1 k).1)) = (1 : Int))) = true then
  G (0 ≤ i ∧ i < ((((ix g'.2.2.1 k).2).1).length : Int)) (
  if (decide (g'.1 ≤ (ix (((ix g'.2.2.1 k).2).1) i))) = true then
  G (0 ≤ i ∧ i < ((((ix g'.2.2.1 k).2).1).length : Int)) (
  G (fits ((ix (((ix g'.2.2.1 k).2).1) i) - g'.1)) (
  G (0 ≤ (ix (((ix g'.2.2.1 k).2).1) i) - g'.1 ∧ (ix (((ix g'.2.2.1 k).2).1) i) - g'.1 < (out_2.length : Int)) (
  G (((ix (((ix g'.2.2.1 k).2).1) i) - g'.1).toNat < out_2.length) (
  r17_Met_J15 g' k again_2 i out_2 r13 (decide ((ix out_2 ((ix (((ix g'.2.2.1 k).2).1) i) - g'.1)) = (0 : Int))))))) else
  r17_Met_J15 g' k again_2 i out_2 r13 false) else
  G (fits (k + (1 : Int))) (
  r8 again_2 (k + (1 : Int)) out_2))) else
  G (fits (k + (1 : Int))) (
  r8 again_2 (k + (1 : Int)) out_2) else
  G (fits (k + (1 : Int))) (
  r8 again_2 (k + (1 : Int)) out_2)
noncomputable def r17_Met_L13_F (g' : Tp1) (k : Int) (r8 : (Bool → Int → Tp7 → Option Tp7)) (y'_1 : Bool) : (Bool × Int × Tp7 → Option Tp7) → Bool × Int × Tp7 → Option Tp7 :=
  fun rec x => r17_Met_L13_B g' k r8 y'_1 (fun again_2 i out_2 => rec (again_2, i, out_2)) x.1 x.2.1 x.2.2
noncomputable def r17_Met_L13 (g' : Tp1) (k : Int) (r8 : (Bool → Int → Tp7 → Option Tp7)) (y'_1 : Bool) (again_2 : Bool) (i : Int) (out_2 : Tp7) : Option Tp7 := LFix (r17_Met_L13_F g' k r8 y'_1 ) (again_2, i, out_2)
noncomputable def r17_Met_L8_B (g' : Tp1) (y' : Tp7) (r5 : (Bool → Tp7 → Option Tp7)) (r8 : Bool → Int → Tp7 → Option Tp7) (again_1 : Bool) (k : Int) (out_1 : Tp7) : Option Tp7 :=
  if (decide (k < (g'.2.2.1.length : Int))) = true then
  G (0 ≤ k ∧ k < (g'.2.2.1.length : Int)) (
  (r17_Whole (g'.1, (g'.2.1, (g'.2.2.1, ()))) y' ((ix g'.2.2.1 k).1, (((ix g'.2.2.1 k).2).1, ()))).bind (fun y'_1 =>
  r17_Met_L13 g' k r8 y'_1 again_1 (0 : Int) out_1)) else
  r5 again_1 out_1
noncomputable def r17_Met_L8_F (g' : Tp1) (y' : Tp7) (r5 : (Bool → Tp7 → Option Tp7)) : (Bool × Int × Tp7 → Option Tp7) → Bool × Int × Tp7 → Option Tp7 :=
  fun rec x => r17_Met_L8_B g' y' r5 (fun again_1 k out_1 => rec (again_1, k, out_1)) x.1 x.2.1 x.2.2
noncomputable def r17_Met_L8 (g' : Tp1) (y' : Tp7) (r5 : (Bool → Tp7 → Option Tp7)) (again_1 : Bool) (k : Int) (out_1 : Tp7) : Option Tp7 := LFix (r17_Met_L8_F g' y' r5 ) (again_1, k, out_1)
noncomputable def r17_Met_L5_B (g' : Tp1) (y' : Tp7) (r5 : Bool → Tp7 → Option Tp7) (again : Bool) (out : Tp7) : Option Tp7 :=
  if again = true then
  r17_Met_L8 g' y' r5 false (0 : Int) out else
  some out
noncomputable def r17_Met_L5_F (g' : Tp1) (y' : Tp7) : (Bool × Tp7 → Option Tp7) → Bool × Tp7 → Option Tp7 :=
  fun rec x => r17_Met_L5_B g' y' (fun again out => rec (again, out)) x.1 x.2
noncomputable def r17_Met_L5 (g' : Tp1) (y' : Tp7) (again : Bool) (out : Tp7) : Option Tp7 := LFix (r17_Met_L5_F g' y' ) (again, out)
noncomputable def r17_Met (g' : Tp1) : Option Tp7 :=
  (r17_Ends (g'.1, (g'.2.1, (g'.2.2.1, ())))).bind (fun y' =>
  G (mkOK g'.2.1 g'.2.1 8) (
  G (0 ≤ (0 : Int) ∧ (0 : Int) < (y'.length : Int)) (
  G (((0 : Int)).toNat < y'.length) (
  G (0 ≤ (0 : Int) ∧ (0 : Int) < ((List.replicate (g'.2.1).toNat (0 : Int)).length : Int)) (
  G (((0 : Int)).toNat < (List.replicate (g'.2.1).toNat (0 : Int)).length) (
  r17_Met_L5 g' y' true ((List.replicate (g'.2.1).toNat (0 : Int)).set ((0 : Int)).toNat (ix y' (0 : Int)))))))))
theorem r17_Met_J15_ch (r13 : Nat → Bool → Int → Tp7 → Option Tp7) (r13' : Bool → Int → Tp7 → Option Tp7) (h_r13 : ∀ a0 a1 a2, ChO (fun κ => r13 κ a0 a1 a2) (r13' a0 a1 a2)) (g' : Tp1) (k : Int) (again_2 : Bool) (i : Int) (out_2 : Tp7) (t : Bool) : ChO (fun κ => r17_Met_J15 g' k again_2 i out_2 (r13 κ) t) (r17_Met_J15 g' k again_2 i out_2 r13' t) := by
  unfold r17_Met_J15
  repeat' with_reducible first | exact ChO.const _ | exact h_r13 _ _ _ | apply ChO.ite | apply ChO.G | apply ChO.both | (apply ChO.bind; intro _)
theorem r17_Met_L13_B_ch (r8 : Nat → Bool → Int → Tp7 → Option Tp7) (r8' : Bool → Int → Tp7 → Option Tp7) (h_r8 : ∀ a0 a1 a2, ChO (fun κ => r8 κ a0 a1 a2) (r8' a0 a1 a2)) (r13 : Nat → Bool → Int → Tp7 → Option Tp7) (r13' : Bool → Int → Tp7 → Option Tp7) (h_r13 : ∀ a0 a1 a2, ChO (fun κ => r13 κ a0 a1 a2) (r13' a0 a1 a2)) (g' : Tp1) (k : Int) (y'_1 : Bool) (again_2 : Bool) (i : Int) (out_2 : Tp7) : ChO (fun κ => r17_Met_L13_B g' k (r8 κ) y'_1 (r13 κ) again_2 i out_2) (r17_Met_L13_B g' k r8' y'_1 r13' again_2 i out_2) := by
  unfold r17_Met_L13_B
  repeat' with_reducible first | exact ChO.const _ | exact h_r8 _ _ _ | exact h_r13 _ _ _ | (apply r17_Met_J15_ch <;> assumption) | apply ChO.ite | apply ChO.G | apply ChO.both | (apply ChO.bind; intro _)
theorem r17_Met_L13_cn (r8 : Bool → Int → Tp7 → Option Tp7) (g' : Tp1) (k : Int) (y'_1 : Bool) : Cn (r17_Met_L13_F g' k r8 y'_1) := fun g h hg x => r17_Met_L13_B_ch (fun _ => r8) r8 (fun _ _ _ => ChO.const _) (fun κ again_2 i out_2 => g κ (again_2, i, out_2)) (fun again_2 i out_2 => h (again_2, i, out_2)) (fun again_2 i out_2 => hg (again_2, i, out_2)) g' k y'_1 x.1 x.2.1 x.2.2
theorem r17_Met_L13_eq (r8 : Bool → Int → Tp7 → Option Tp7) (g' : Tp1) (k : Int) (y'_1 : Bool) (again_2 : Bool) (i : Int) (out_2 : Tp7) : r17_Met_L13 g' k r8 y'_1 again_2 i out_2 = r17_Met_L13_B g' k r8 y'_1 (r17_Met_L13 g' k r8 y'_1) again_2 i out_2 := LFix_eq (r17_Met_L13_cn r8 g' k y'_1) (again_2, i, out_2)
theorem r17_Met_L13_ch (r8 : Nat → Bool → Int → Tp7 → Option Tp7) (r8' : Bool → Int → Tp7 → Option Tp7) (h_r8 : ∀ a0 a1 a2, ChO (fun κ => r8 κ a0 a1 a2) (r8' a0 a1 a2)) (g' : Tp1) (k : Int) (y'_1 : Bool) (again_2 : Bool) (i : Int) (out_2 : Tp7) : ChO (fun κ => r17_Met_L13 g' k (r8 κ) y'_1 again_2 i out_2) (r17_Met_L13 g' k r8' y'_1 again_2 i out_2) := by
  unfold r17_Met_L13
  exact LFix_ch (fun κ => (r17_Met_L13_cn (r8 κ) g' k y'_1).mono) (r17_Met_L13_cn r8' g' k y'_1).mono (fun g h hg x => r17_Met_L13_B_ch r8 r8' h_r8 (fun κ again_2 i out_2 => g κ (again_2, i, out_2)) (fun again_2 i out_2 => h (again_2, i, out_2)) (fun again_2 i out_2 => hg (again_2, i, out_2)) g' k y'_1 x.1 x.2.1 x.2.2) _
theorem r17_Met_L8_B_ch (r5 : Nat → Bool → Tp7 → Option Tp7) (r5' : Bool → Tp7 → Option Tp7) (h_r5 : ∀ a0 a1, ChO (fun κ => r5 κ a0 a1) (r5' a0 a1)) (r8 : Nat → Bool → Int → Tp7 → Option Tp7) (r8' : Bool → Int → Tp7 → Option Tp7) (h_r8 : ∀ a0 a1 a2, ChO (fun κ => r8 κ a0 a1 a2) (r8' a0 a1 a2)) (g' : Tp1) (y' : Tp7) (again_1 : Bool) (k : Int) (out_1 : Tp7) : ChO (fun κ => r17_Met_L8_B g' y' (r5 κ) (r8 κ) again_1 k out_1) (r17_Met_L8_B g' y' r5' r8' again_1 k out_1) := by
  unfold r17_Met_L8_B
  repeat' with_reducible first | exact ChO.const _ | exact h_r5 _ _ | exact h_r8 _ _ _ | (apply r17_Met_J15_ch <;> assumption) | (apply r17_Met_L13_ch <;> assumption) | apply ChO.ite | apply ChO.G | apply ChO.both | (apply ChO.bind; intro _)
theorem r17_Met_L8_cn (r5 : Bool → Tp7 → Option Tp7) (g' : Tp1) (y' : Tp7) : Cn (r17_Met_L8_F g' y' r5) := fun g h hg x => r17_Met_L8_B_ch (fun _ => r5) r5 (fun _ _ => ChO.const _) (fun κ again_1 k out_1 => g κ (again_1, k, out_1)) (fun again_1 k out_1 => h (again_1, k, out_1)) (fun again_1 k out_1 => hg (again_1, k, out_1)) g' y' x.1 x.2.1 x.2.2
theorem r17_Met_L8_eq (r5 : Bool → Tp7 → Option Tp7) (g' : Tp1) (y' : Tp7) (again_1 : Bool) (k : Int) (out_1 : Tp7) : r17_Met_L8 g' y' r5 again_1 k out_1 = r17_Met_L8_B g' y' r5 (r17_Met_L8 g' y' r5) again_1 k out_1 := LFix_eq (r17_Met_L8_cn r5 g' y') (again_1, k, out_1)
theorem r17_Met_L8_ch (r5 : Nat → Bool → Tp7 → Option Tp7) (r5' : Bool → Tp7 → Option Tp7) (h_r5 : ∀ a0 a1, ChO (fun κ => r5 κ a0 a1) (r5' a0 a1)) (g' : Tp1) (y' : Tp7) (again_1 : Bool) (k : Int) (out_1 : Tp7) : ChO (fun κ => r17_Met_L8 g' y' (r5 κ) again_1 k out_1) (r17_Met_L8 g' y' r5' again_1 k out_1) := by
  unfold r17_Met_L8
  exact LFix_ch (fun κ => (r17_Met_L8_cn (r5 κ) g' y').mono) (r17_Met_L8_cn r5' g' y').mono (fun g h hg x => r17_Met_L8_B_ch r5 r5' h_r5 (fun κ again_1 k out_1 => g κ (again_1, k, out_1)) (fun again_1 k out_1 => h (again_1, k, out_1)) (fun again_1 k out_1 => hg (again_1, k, out_1)) g' y' x.1 x.2.1 x.2.2) _
theorem r17_Met_L5_B_ch (r5 : Nat → Bool → Tp7 → Option Tp7) (r5' : Bool → Tp7 → Option Tp7) (h_r5 : ∀ a0 a1, ChO (fun κ => r5 κ a0 a1) (r5' a0 a1)) (g' : Tp1) (y' : Tp7) (again : Bool) (out : Tp7) : ChO (fun κ => r17_Met_L5_B g' y' (r5 κ) again out) (r17_Met_L5_B g' y' r5' again out) := by
  unfold r17_Met_L5_B
  repeat' with_reducible first | exact ChO.const _ | exact h_r5 _ _ | (apply r17_Met_J15_ch <;> assumption) | (apply r17_Met_L13_ch <;> assumption) | (apply r17_Met_L8_ch <;> assumption) | apply ChO.ite | apply ChO.G | apply ChO.both | (apply ChO.bind; intro _)
theorem r17_Met_L5_cn  (g' : Tp1) (y' : Tp7) : Cn (r17_Met_L5_F g' y') := fun g h hg x => r17_Met_L5_B_ch  (fun κ again out => g κ (again, out)) (fun again out => h (again, out)) (fun again out => hg (again, out)) g' y' x.1 x.2
theorem r17_Met_L5_eq  (g' : Tp1) (y' : Tp7) (again : Bool) (out : Tp7) : r17_Met_L5 g' y' again out = r17_Met_L5_B g' y' (r17_Met_L5 g' y') again out := LFix_eq (r17_Met_L5_cn g' y') (again, out)

noncomputable def r17_Again_J26 (g' : Tp1) (k : Int) (i : Int) (good_2 : Tp6) (r13 : (Bool → Int → Tp6 → Tp6 → Option (Bool))) (again_3 : Bool) (plain_3 : Tp6) (t_1 : Bool) : Option (Bool) :=
  if t_1 = true then
  G (0 ≤ (ix (((ix g'.2.2.1 k).2).1) i) - g'.1 ∧ (ix (((ix g'.2.2.1 k).2).1) i) - g'.1 < (good_2.length : Int)) (
  G (((ix (((ix g'.2.2.1 k).2).1) i) - g'.1).toNat < good_2.length) (
  G (fits (i + (1 : Int))) (
  r13 true (i + (1 : Int)) plain_3 (good_2.set ((ix (((ix g'.2.2.1 k).2).1) i) - g'.1).toNat true)))) else
  G (fits (i + (1 : Int))) (
  r13 again_3 (i + (1 : Int)) plain_3 good_2)
noncomputable def r17_Again_J25 (g' : Tp1) (k : Int) (i : Int) (good_2 : Tp6) (r13 : (Bool → Int → Tp6 → Tp6 → Option (Bool))) (more : Bool) (again_3 : Bool) (plain_3 : Tp6) : Option (Bool) :=
  G (0 ≤ (ix g'.2.2.1 k).1 ∧ (ix g'.2.2.1 k).1 < (good_2.length : Int)) (
  G (((ix g'.2.2.1 k).1).toNat < good_2.length) (
  if (ix good_2 ((ix g'.2.2.1 k).1)) = true then
  G (0 ≤ (ix (((ix g'.2.2.1 k).2).1) i) - g'.1 ∧ (ix (((ix g'.2.2.1 k).2).1) i) - g'.1 < (good_2.length : Int)) (
  G (((ix (((ix g'.2.2.1 k).2).1) i) - g'.1).toNat < good_2.length) (
  r17_Again_J26 g' k i good_2 r13 again_3 plain_3 (!(ix good_2 ((ix (((ix g'.2.2.1 k).2).1) i) - g'.1))))) else
  G (0 ≤ (ix g'.2.2.1 k).1 ∧ (ix g'.2.2.1 k).1 < (plain_3.length : Int)) (
  G (((ix g'.2.2.1 k).1).toNat < plain_3.length) (
  if (ix plain_3 ((ix g'.2.2.1 k).1)) = true then
  if more = true then
  G (0 ≤ (ix (((ix g'.2.2.1 k).2).1) i) - g'.1 ∧ (ix (((ix g'.2.2.1 k).2).1) i) - g'.1 < (good_2.length : Int)) (
  G (((ix (((ix g'.2.2.1 k).2).1) i) - g'.1).toNat < good_2.length) (
  r17_Again_J26 g' k i good_2 r13 again_3 plain_3 (!(ix good_2 ((ix (((ix g'.2.2.1 k).2).1) i) - g'.1))))) else
  r17_Again_J26 g' k i good_2 r13 again_3 plain_3 false else
  r17_Again_J26 g' k i good_2 r13 again_3 plain_3 false))))
noncomputable def r17_Again_J23 (g' : Tp1) (k : Int) (again_2 : Bool) (i : Int) (plain_2 : Tp6) (good_2 : Tp6) (r13 : (Bool → Int → Tp6 → Tp6 → Option (Bool))) (more : Bool) (t : Bool) : Option (Bool) :=
  if t = true then
  G (0 ≤ (ix (((ix g'.2.2.1 k).2).1) i) - g'.1 ∧ (ix (((ix g'.2.2.1 k).2).1) i) - g'.1 < (plain_2.length : Int)) (
  G (((ix (((ix g'.2.2.1 k).2).1) i) - g'.1).toNat < plain_2.length) (
  r17_Again_J25 g' k i good_2 r13 more true (plain_2.set ((ix (((ix g'.2.2.1 k).2).1) i) - g'.1).toNat true))) else
  r17_Again_J25 g' k i good_2 r13 more again_2 plain_2
noncomputable def r17_Again_L18_B (g' : Tp1) (full : Tp6) (k : Int) (again_2 : Bool) (i : Int) (plain_2 : Tp6) (good_2 : Tp6) (r13 : (Bool → Int → Tp6 → Tp6 → Option (Bool))) (r18 : Bool → Int → Option (Bool)) (more : Bool) (j : Int) : Option (Bool) :=
  if (decide (j < ((((ix g'.2.2.1 k).2).1).length : Int))) = true then
  if (decide (¬ j = i)) = true then
  G (0 ≤ j ∧ j < ((((ix g'.2.2.1 k).2).1).length : Int)) (
  if (decide ((ix (((ix g'.2.2.1 k).2).1) j) < g'.1)) = true then
  G (fits (j + (1 : Int))) (
  r18 true (j + (1 : Int))) else
  G (0 ≤ j ∧ j < ((((ix g'.2.2.1 k).2).1).length : Int)) (
  G (fits ((ix (((ix g'.2.2.1 k).2).1) j) - g'.1)) (
  G (0 ≤ (ix (((ix g'.2.2.1 k).2).1) j) - g'.1 ∧ (ix (((ix g'.2.2.1 k).2).1) j) - g'.1 < (full.length : Int)) (
  if (ix full ((ix (((ix g'.2.2.1 k).2).1) j) - g'.1)) = true then
  G (fits (j + (1 : Int))) (
  r18 true (j + (1 : Int))) else
  G (fits (j + (1 : Int))) (
  r18 more (j + (1 : Int))))))) else
  G (fits (j + (1 : Int))) (
  r18 more (j + (1 : Int))) else
  G (0 ≤ i ∧ i < ((((ix g'.2.2.1 k).2).1).length : Int)) (
  G (fits ((ix (((ix g'.2.2.1 k).2).1) i) - g'.1)) (
  G (0 ≤ (ix g'.2.2.1 k).1 ∧ (ix g'.2.2.1 k).1 < (plain_2.length : Int)) (
  G (((ix g'.2.2.1 k).1).toNat < plain_2.length) (
  if (ix plain_2 ((ix g'.2.2.1 k).1)) = true then
  G (0 ≤ (ix (((ix g'.2.2.1 k).2).1) i) - g'.1 ∧ (ix (((ix g'.2.2.1 k).2).1) i) - g'.1 < (plain_2.length : Int)) (
  G (((ix (((ix g'.2.2.1 k).2).1) i) - g'.1).toNat < plain_2.length) (
  r17_Again_J23 g' k again_2 i plain_2 good_2 r13 more (!(ix plain_2 ((ix (((ix g'.2.2.1 k).2).1) i) - g'.1))))) else
  r17_Again_J23 g' k again_2 i plain_2 good_2 r13 more false))))
noncomputable def r17_Again_L18_F (g' : Tp1) (full : Tp6) (k : Int) (again_2 : Bool) (i : Int) (plain_2 : Tp6) (good_2 : Tp6) (r13 : (Bool → Int → Tp6 → Tp6 → Option (Bool))) : (Bool × Int → Option (Bool)) → Bool × Int → Option (Bool) :=
  fun rec x => r17_Again_L18_B g' full k again_2 i plain_2 good_2 r13 (fun more j => rec (more, j)) x.1 x.2
noncomputable def r17_Again_L18 (g' : Tp1) (full : Tp6) (k : Int) (again_2 : Bool) (i : Int) (plain_2 : Tp6) (good_2 : Tp6) (r13 : (Bool → Int → Tp6 → Tp6 → Option (Bool))) (more : Bool) (j : Int) : Option (Bool) := LFix (r17_Again_L18_F g' full k again_2 i plain_2 good_2 r13 ) (more, j)
noncomputable def r17_Again_L13_B (g' : Tp1) (full : Tp6) (k : Int) (r8 : (Bool → Int → Tp6 → Tp6 → Option (Bool))) (y' : Bool) (r13 : Tf1) (again_2 : Bool) (i : Int) (plain_2 : Tp6) (good_2 : Tp6) : Option (Bool) :=
  if (decide (i < ((((ix g'.2.2.1 k).2).1).length : Int))) = true then
  if y' = true then
  G (0 ≤ i ∧ i < ((((ix g'.2.2.1 k).2).1).length : Int)) (
  if (decide ((ix (((ix g'.2.2.1 k).2).1) i) < g'.1)) = true then
  G (fits (i + (1 : Int))) (
  r13 again_2 (i + (1 : Int)) plain_2 good_2) else
  r17_Again_L18 g' full k again_2 i plain_2 good_2 r13 false (0 : Int)) else
  G (fits (k + (1 : Int))) (
  r8 again_2 (k + (1 : Int)) plain_2 good_2) else
  G (fits (k + (1 : Int))) (
  r8 again_2 (k + (1 : Int)) plain_2 good_2)
noncomputable def r17_Again_L13_F (g' : Tp1) (full : Tp6) (k : Int) (r8 : (Bool → Int → Tp6 → Tp6 → Option (Bool))) (y' : Bool) : (Bool × Int × Tp6 × Tp6 → Option (Bool)) → Bool × Int × Tp6 × Tp6 → Option (Bool) :=
  fun rec x => r17_Again_L13_B g' full k r8 y' (fun again_2 i plain_2 good_2 => rec (again_2, i, plain_2, good_2)) x.1 x.2.1 x.2.2.1 x.2.2.2
noncomputable def r17_Again_L13 (g' : Tp1) (full : Tp6) (k : Int) (r8 : (Bool → Int → Tp6 → Tp6 → Option (Bool))) (y' : Bool) (again_2 : Bool) (i : Int) (plain_2 : Tp6) (good_2 : Tp6) : Option (Bool) := LFix (r17_Again_L13_F g' full k r8 y' ) (again_2, i, plain_2, good_2)
noncomputable def r17_Again_L8_B (g' : Tp1) (ends : Tp7) (full : Tp6) (r5 : (Bool → Tp6 → Tp6 → Option (Bool))) (r8 : Tf1) (again_1 : Bool) (k : Int) (plain_1 : Tp6) (good_1 : Tp6) : Option (Bool) :=
  if (decide (k < (g'.2.2.1.length : Int))) = true then
  G (0 ≤ k ∧ k < (g'.2.2.1.length : Int)) (
  (r17_Whole (g'.1, (g'.2.1, (g'.2.2.1, ()))) ends ((ix g'.2.2.1 k).1, (((ix g'.2.2.1 k).2).1, ()))).bind (fun y' =>
  r17_Again_L13 g' full k r8 y' again_1 (0 : Int) plain_1 good_1)) else
  r5 again_1 plain_1 good_1
noncomputable def r17_Again_L8_F (g' : Tp1) (ends : Tp7) (full : Tp6) (r5 : (Bool → Tp6 → Tp6 → Option (Bool))) : (Bool × Int × Tp6 × Tp6 → Option (Bool)) → Bool × Int × Tp6 × Tp6 → Option (Bool) :=
  fun rec x => r17_Again_L8_B g' ends full r5 (fun again_1 k plain_1 good_1 => rec (again_1, k, plain_1, good_1)) x.1 x.2.1 x.2.2.1 x.2.2.2
noncomputable def r17_Again_L8 (g' : Tp1) (ends : Tp7) (full : Tp6) (r5 : (Bool → Tp6 → Tp6 → Option (Bool))) (again_1 : Bool) (k : Int) (plain_1 : Tp6) (good_1 : Tp6) : Option (Bool) := LFix (r17_Again_L8_F g' ends full r5 ) (again_1, k, plain_1, good_1)
noncomputable def r17_Again_L5_B (g' : Tp1) (ends : Tp7) (full : Tp6) (a : Int) (r5 : Tf2) (again : Bool) (plain : Tp6) (good : Tp6) : Option (Bool) :=
  if again = true then
  r17_Again_L8 g' ends full r5 false (0 : Int) plain good else
  G (0 ≤ a ∧ a < (good.length : Int)) (
  G ((a).toNat < good.length) (
  some (ix good a)))
noncomputable def r17_Again_L5_F (g' : Tp1) (ends : Tp7) (full : Tp6) (a : Int) : (Bool × Tp6 × Tp6 → Option (Bool)) → Bool × Tp6 × Tp6 → Option (Bool) :=
  fun rec x => r17_Again_L5_B g' ends full a (fun again plain good => rec (again, plain, good)) x.1 x.2.1 x.2.2
noncomputable def r17_Again_L5 (g' : Tp1) (ends : Tp7) (full : Tp6) (a : Int) (again : Bool) (plain : Tp6) (good : Tp6) : Option (Bool) := LFix (r17_Again_L5_F g' ends full a ) (again, plain, good)
noncomputable def r17_Again (g' : Tp1) (ends : Tp7) (full : Tp6) (a : Int) : Option (Bool) :=
  G (mkOK g'.2.1 g'.2.1 1) (
  G (mkOK g'.2.1 g'.2.1 1) (
  G (0 ≤ a ∧ a < ((List.replicate (g'.2.1).toNat (false : Bool)).length : Int)) (
  G ((a).toNat < (List.replicate (g'.2.1).toNat (false : Bool)).length) (
  r17_Again_L5 g' ends full a true ((List.replicate (g'.2.1).toNat (false : Bool)).set (a).toNat true) (List.replicate (g'.2.1).toNat (false : Bool))))))
theorem r17_Again_J26_ch (r13 : Nat → Tf1) (r13' : Tf1) (h_r13 : ∀ a0 a1 a2 a3, ChO (fun κ => r13 κ a0 a1 a2 a3) (r13' a0 a1 a2 a3)) (g' : Tp1) (k : Int) (i : Int) (good_2 : Tp6) (again_3 : Bool) (plain_3 : Tp6) (t_1 : Bool) : ChO (fun κ => r17_Again_J26 g' k i good_2 (r13 κ) again_3 plain_3 t_1) (r17_Again_J26 g' k i good_2 r13' again_3 plain_3 t_1) := by
  unfold r17_Again_J26
  repeat' with_reducible first | exact ChO.const _ | exact h_r13 _ _ _ _ | apply ChO.ite | apply ChO.G | apply ChO.both | (apply ChO.bind; intro _)
theorem r17_Again_J25_ch (r13 : Nat → Tf1) (r13' : Tf1) (h_r13 : ∀ a0 a1 a2 a3, ChO (fun κ => r13 κ a0 a1 a2 a3) (r13' a0 a1 a2 a3)) (g' : Tp1) (k : Int) (i : Int) (good_2 : Tp6) (more : Bool) (again_3 : Bool) (plain_3 : Tp6) : ChO (fun κ => r17_Again_J25 g' k i good_2 (r13 κ) more again_3 plain_3) (r17_Again_J25 g' k i good_2 r13' more again_3 plain_3) := by
  unfold r17_Again_J25
  repeat' with_reducible first | exact ChO.const _ | exact h_r13 _ _ _ _ | (apply r17_Again_J26_ch <;> assumption) | apply ChO.ite | apply ChO.G | apply ChO.both | (apply ChO.bind; intro _)
theorem r17_Again_J23_ch (r13 : Nat → Tf1) (r13' : Tf1) (h_r13 : ∀ a0 a1 a2 a3, ChO (fun κ => r13 κ a0 a1 a2 a3) (r13' a0 a1 a2 a3)) (g' : Tp1) (k : Int) (again_2 : Bool) (i : Int) (plain_2 : Tp6) (good_2 : Tp6) (more : Bool) (t : Bool) : ChO (fun κ => r17_Again_J23 g' k again_2 i plain_2 good_2 (r13 κ) more t) (r17_Again_J23 g' k again_2 i plain_2 good_2 r13' more t) := by
  unfold r17_Again_J23
  repeat' with_reducible first | exact ChO.const _ | exact h_r13 _ _ _ _ | (apply r17_Again_J26_ch <;> assumption) | (apply r17_Again_J25_ch <;> assumption) | apply ChO.ite | apply ChO.G | apply ChO.both | (apply ChO.bind; intro _)
theorem r17_Again_L18_B_ch (r13 : Nat → Tf1) (r13' : Tf1) (h_r13 : ∀ a0 a1 a2 a3, ChO (fun κ => r13 κ a0 a1 a2 a3) (r13' a0 a1 a2 a3)) (r18 : Nat → Bool → Int → Option (Bool)) (r18' : Bool → Int → Option (Bool)) (h_r18 : ∀ a0 a1, ChO (fun κ => r18 κ a0 a1) (r18' a0 a1)) (g' : Tp1) (full : Tp6) (k : Int) (again_2 : Bool) (i : Int) (plain_2 : Tp6) (good_2 : Tp6) (more : Bool) (j : Int) : ChO (fun κ => r17_Again_L18_B g' full k again_2 i plain_2 good_2 (r13 κ) (r18 κ) more j) (r17_Again_L18_B g' full k again_2 i plain_2 good_2 r13' r18' more j) := by
  unfold r17_Again_L18_B
  repeat' with_reducible first | exact ChO.const _ | exact h_r13 _ _ _ _ | exact h_r18 _ _ | (apply r17_Again_J26_ch <;> assumption) | (apply r17_Again_J25_ch <;> assumption) | (apply r17_Again_J23_ch <;> assumption) | apply ChO.ite | apply ChO.G | apply ChO.both | (apply ChO.bind; intro _)
theorem r17_Again_L18_cn (r13 : Tf1) (g' : Tp1) (full : Tp6) (k : Int) (again_2 : Bool) (i : Int) (plain_2 : Tp6) (good_2 : Tp6) : Cn (r17_Again_L18_F g' full k again_2 i plain_2 good_2 r13) := fun g h hg x => r17_Again_L18_B_ch (fun _ => r13) r13 (fun _ _ _ _ => ChO.const _) (fun κ more j => g κ (more, j)) (fun more j => h (more, j)) (fun more j => hg (more, j)) g' full k again_2 i plain_2 good_2 x.1 x.2
theorem r17_Again_L18_eq (r13 : Tf1) (g' : Tp1) (full : Tp6) (k : Int) (again_2 : Bool) (i : Int) (plain_2 : Tp6) (good_2 : Tp6) (more : Bool) (j : Int) : r17_Again_L18 g' full k again_2 i plain_2 good_2 r13 more j = r17_Again_L18_B g' full k again_2 i plain_2 good_2 r13 (r17_Again_L18 g' full k again_2 i plain_2 good_2 r13) more j := LFix_eq (r17_Again_L18_cn r13 g' full k again_2 i plain_2 good_2) (more, j)
theorem r17_Again_L18_ch (r13 : Nat → Tf1) (r13' : Tf1) (h_r13 : ∀ a0 a1 a2 a3, ChO (fun κ => r13 κ a0 a1 a2 a3) (r13' a0 a1 a2 a3)) (g' : Tp1) (full : Tp6) (k : Int) (again_2 : Bool) (i : Int) (plain_2 : Tp6) (good_2 : Tp6) (more : Bool) (j : Int) : ChO (fun κ => r17_Again_L18 g' full k again_2 i plain_2 good_2 (r13 κ) more j) (r17_Again_L18 g' full k again_2 i plain_2 good_2 r13' more j) := by
  unfold r17_Again_L18
  exact LFix_ch (fun κ => (r17_Again_L18_cn (r13 κ) g' full k again_2 i plain_2 good_2).mono) (r17_Again_L18_cn r13' g' full k again_2 i plain_2 good_2).mono (fun g h hg x => r17_Again_L18_B_ch r13 r13' h_r13 (fun κ more j => g κ (more, j)) (fun more j => h (more, j)) (fun more j => hg (more, j)) g' full k again_2 i plain_2 good_2 x.1 x.2) _
theorem r17_Again_L13_B_ch (r8 : Nat → Tf1) (r8' : Tf1) (h_r8 : ∀ a0 a1 a2 a3, ChO (fun κ => r8 κ a0 a1 a2 a3) (r8' a0 a1 a2 a3)) (r13 : Nat → Tf1) (r13' : Tf1) (h_r13 : ∀ a0 a1 a2 a3, ChO (fun κ => r13 κ a0 a1 a2 a3) (r13' a0 a1 a2 a3)) (g' : Tp1) (full : Tp6) (k : Int) (y' : Bool) (again_2 : Bool) (i : Int) (plain_2 : Tp6) (good_2 : Tp6) : ChO (fun κ => r17_Again_L13_B g' full k (r8 κ) y' (r13 κ) again_2 i plain_2 good_2) (r17_Again_L13_B g' full k r8' y' r13' again_2 i plain_2 good_2) := by
  unfold r17_Again_L13_B
  repeat' with_reducible first | exact ChO.const _ | exact h_r8 _ _ _ _ | exact h_r13 _ _ _ _ | (apply r17_Again_J26_ch <;> assumption) | (apply r17_Again_J25_ch <;> assumption) | (apply r17_Again_J23_ch <;> assumption) | (apply r17_Again_L18_ch <;> assumption) | apply ChO.ite | apply ChO.G | apply ChO.both | (apply ChO.bind; intro _)
theorem r17_Again_L13_cn (r8 : Tf1) (g' : Tp1) (full : Tp6) (k : Int) (y' : Bool) : Cn (r17_Again_L13_F g' full k r8 y') := fun g h hg x => r17_Again_L13_B_ch (fun _ => r8) r8 (fun _ _ _ _ => ChO.const _) (fun κ again_2 i plain_2 good_2 => g κ (again_2, i, plain_2, good_2)) (fun again_2 i plain_2 good_2 => h (again_2, i, plain_2, good_2)) (fun again_2 i plain_2 good_2 => hg (again_2, i, plain_2, good_2)) g' full k y' x.1 x.2.1 x.2.2.1 x.2.2.2
theorem r17_Again_L13_eq (r8 : Tf1) (g' : Tp1) (full : Tp6) (k : Int) (y' : Bool) (again_2 : Bool) (i : Int) (plain_2 : Tp6) (good_2 : Tp6) : r17_Again_L13 g' full k r8 y' again_2 i plain_2 good_2 = r17_Again_L13_B g' full k r8 y' (r17_Again_L13 g' full k r8 y') again_2 i plain_2 good_2 := LFix_eq (r17_Again_L13_cn r8 g' full k y') (again_2, i, plain_2, good_2)
theorem r17_Again_L13_ch (r8 : Nat → Tf1) (r8' : Tf1) (h_r8 : ∀ a0 a1 a2 a3, ChO (fun κ => r8 κ a0 a1 a2 a3) (r8' a0 a1 a2 a3)) (g' : Tp1) (full : Tp6) (k : Int) (y' : Bool) (again_2 : Bool) (i : Int) (plain_2 : Tp6) (good_2 : Tp6) : ChO (fun κ => r17_Again_L13 g' full k (r8 κ) y' again_2 i plain_2 good_2) (r17_Again_L13 g' full k r8' y' again_2 i plain_2 good_2) := by
  unfold r17_Again_L13
  exact LFix_ch (fun κ => (r17_Again_L13_cn (r8 κ) g' full k y').mono) (r17_Again_L13_cn r8' g' full k y').mono (fun g h hg x => r17_Again_L13_B_ch r8 r8' h_r8 (fun κ again_2 i plain_2 good_2 => g κ (again_2, i, plain_2, good_2)) (fun again_2 i plain_2 good_2 => h (again_2, i, plain_2, good_2)) (fun again_2 i plain_2 good_2 => hg (again_2, i, plain_2, good_2)) g' full k y' x.1 x.2.1 x.2.2.1 x.2.2.2) _
theorem r17_Again_L8_B_ch (r5 : Nat → Tf2) (r5' : Tf2) (h_r5 : ∀ a0 a1 a2, ChO (fun κ => r5 κ a0 a1 a2) (r5' a0 a1 a2)) (r8 : Nat → Tf1) (r8' : Tf1) (h_r8 : ∀ a0 a1 a2 a3, ChO (fun κ => r8 κ a0 a1 a2 a3) (r8' a0 a1 a2 a3)) (g' : Tp1) (ends : Tp7) (full : Tp6) (again_1 : Bool) (k : Int) (plain_1 : Tp6) (good_1 : Tp6) : ChO (fun κ => r17_Again_L8_B g' ends full (r5 κ) (r8 κ) again_1 k plain_1 good_1) (r17_Again_L8_B g' ends full r5' r8' again_1 k plain_1 good_1) := by
  unfold r17_Again_L8_B
  repeat' with_reducible first | exact ChO.const _ | exact h_r5 _ _ _ | exact h_r8 _ _ _ _ | (apply r17_Again_J26_ch <;> assumption) | (apply r17_Again_J25_ch <;> assumption) | (apply r17_Again_J23_ch <;> assumption) | (apply r17_Again_L18_ch <;> assumption) | (apply r17_Again_L13_ch <;> assumption) | apply ChO.ite | apply ChO.G | apply ChO.both | (apply ChO.bind; intro _)
theorem r17_Again_L8_cn (r5 : Tf2) (g' : Tp1) (ends : Tp7) (full : Tp6) : Cn (r17_Again_L8_F g' ends full r5) := fun g h hg x => r17_Again_L8_B_ch (fun _ => r5) r5 (fun _ _ _ => ChO.const _) (fun κ again_1 k plain_1 good_1 => g κ (again_1, k, plain_1, good_1)) (fun again_1 k plain_1 good_1 => h (again_1, k, plain_1, good_1)) (fun again_1 k plain_1 good_1 => hg (again_1, k, plain_1, good_1)) g' ends full x.1 x.2.1 x.2.2.1 x.2.2.2
theorem r17_Again_L8_eq (r5 : Tf2) (g' : Tp1) (ends : Tp7) (full : Tp6) (again_1 : Bool) (k : Int) (plain_1 : Tp6) (good_1 : Tp6) : r17_Again_L8 g' ends full r5 again_1 k plain_1 good_1 = r17_Again_L8_B g' ends full r5 (r17_Again_L8 g' ends full r5) again_1 k plain_1 good_1 := LFix_eq (r17_Again_L8_cn r5 g' ends full) (again_1, k, plain_1, good_1)
theorem r17_Again_L8_ch (r5 : Nat → Tf2) (r5' : Tf2) (h_r5 : ∀ a0 a1 a2, ChO (fun κ => r5 κ a0 a1 a2) (r5' a0 a1 a2)) (g' : Tp1) (ends : Tp7) (full : Tp6) (again_1 : Bool) (k : Int) (plain_1 : Tp6) (good_1 : Tp6) : ChO (fun κ => r17_Again_L8 g' ends full (r5 κ) again_1 k plain_1 good_1) (r17_Again_L8 g' ends full r5' again_1 k plain_1 good_1) := by
  unfold r17_Again_L8
  exact LFix_ch (fun κ => (r17_Again_L8_cn (r5 κ) g' ends full).mono) (r17_Again_L8_cn r5' g' ends full).mono (fun g h hg x => r17_Again_L8_B_ch r5 r5' h_r5 (fun κ again_1 k plain_1 good_1 => g κ (again_1, k, plain_1, good_1)) (fun again_1 k plain_1 good_1 => h (again_1, k, plain_1, good_1)) (fun again_1 k plain_1 good_1 => hg (again_1, k, plain_1, good_1)) g' ends full x.1 x.2.1 x.2.2.1 x.2.2.2) _
theorem r17_Again_L5_B_ch (r5 : Nat → Tf2) (r5' : Tf2) (h_r5 : ∀ a0 a1 a2, ChO (fun κ => r5 κ a0 a1 a2) (r5' a0 a1 a2)) (g' : Tp1) (ends : Tp7) (full : Tp6) (a : Int) (again : Bool) (plain : Tp6) (good : Tp6) : ChO (fun κ => r17_Again_L5_B g' ends full a (r5 κ) again plain good) (r17_Again_L5_B g' ends full a r5' again plain good) := by
  unfold r17_Again_L5_B
  repeat' with_reducible first | exact ChO.const _ | exact h_r5 _ _ _ | (apply r17_Again_J26_ch <;> assumption) | (apply r17_Again_J25_ch <;> assumption) | (apply r17_Again_J23_ch <;> assumption) | (apply r17_Again_L18_ch <;> assumption) | (apply r17_Again_L13_ch <;> assumption) | (apply r17_Again_L8_ch <;> assumption) | apply ChO.ite | apply ChO.G | apply ChO.both | (apply ChO.bind; intro _)
theorem r17_Again_L5_cn  (g' : Tp1) (ends : Tp7) (full : Tp6) (a : Int) : Cn (r17_Again_L5_F g' ends full a) := fun g h hg x => r17_Again_L5_B_ch  (fun κ again plain good => g κ (again, plain, good)) (fun again plain good => h (again, plain, good)) (fun again plain good => hg (again, plain, good)) g' ends full a x.1 x.2.1 x.2.2
theorem r17_Again_L5_eq  (g' : Tp1) (ends : Tp7) (full : Tp6) (a : Int) (again : Bool) (plain : Tp6) (good : Tp6) : r17_Again_L5 g' ends full a again plain good = r17_Again_L5_B g' ends full a (r17_Again_L5 g' ends full a) again plain good := LFix_eq (r17_Again_L5_cn g' ends full a) (again, plain, good)

noncomputable def r17_Endless_J15 (g' : Tp1) (k : Int) (again_2 : Bool) (i : Int) (full_2 : Tp6) (r13 : (Bool → Int → Tp6 → Option (Bool))) (t : Bool) : Option (Bool) :=
  if t = true then
  G (0 ≤ (ix g'.2.2.1 k).1 ∧ (ix g'.2.2.1 k).1 < (full_2.length : Int)) (
  G (((ix g'.2.2.1 k).1).toNat < full_2.length) (
  G (fits (i + (1 : Int))) (
  r13 true (i + (1 : Int)) (full_2.set ((ix g'.2.2.1 k).1).toNat true)))) else
  G (fits (i + (1 : Int))) (
  r13 again_2 (i + (1 : Int)) full_2)
noncomputable def r17_Endless_L13_B (g' : Tp1) (k : Int) (r8 : (Bool → Int → Tp6 → Option (Bool))) (y'_2 : Bool) (r13 : Tf3) (again_2 : Bool) (i : Int) (full_2 : Tp6) : Option (Bool) :=
  if (decide (i < ((((ix g'.2.2.1 k).2).1).length : Int))) = true then
  if y'_2 = true then
  G (0 ≤ i ∧ i < ((((ix g'.2.2.1 k).2).1).length : Int)) (
  if (decide ((ix (((ix g'.2.2.1 k).2).1) i) < g'.1)) = true then
  G (0 ≤ (ix g'.2.2.1 k).1 ∧ (ix g'.2.2.1 k).1 < (full_2.length : Int)) (
  G (((ix g'.2.2.1 k).1).toNat < full_2.length) (
  r17_Endless_J15 g' k again_2 i full_2 r13 (!(ix full_2 ((ix g'.2.2.1 k).1))))) else
  G (0 ≤ i ∧ i < ((((ix g'.2.2.1 k).2).1).length : Int)) (
  G (fits ((ix (((ix g'.2.2.1 k).2).1) i) - g'.1)) (
  G (0 ≤ (ix (((ix g'.2.2.1 k).2).1) i) - g'.1 ∧ (ix (((ix g'.2.2.1 k).2).1) i) - g'.1 < (full_2.length : Int)) (
  G (((ix (((ix g'.2.2.1 k).2).1) i) - g'.1).toNat < full_2.length) (
  if (ix full_2 ((ix (((ix g'.2.2.1 k).2).1) i) - g'.1)) = true then
  G (0 ≤ (ix g'.2.2.1 k).1 ∧ (ix g'.2.2.1 k).1 < (full_2.length : Int)) (
  G (((ix g'.2.2.1 k).1).toNat < full_2.length) (
  r17_Endless_J15 g' k again_2 i full_2 r13 (!(ix full_2 ((ix g'.2.2.1 k).1))))) else
  r17_Endless_J15 g' k again_2 i full_2 r13 false))))) else
  G (fits (k + (1 : Int))) (
  r8 again_2 (k + (1 : Int)) full_2) else
  G (fits (k + (1 : Int))) (
  r8 again_2 (k + (1 : Int)) full_2)
noncomputable def r17_Endless_L13_F (g' : Tp1) (k : Int) (r8 : (Bool → Int → Tp6 → Option (Bool))) (y'_2 : Bool) : (Bool × Int × Tp6 → Option (Bool)) → Bool × Int × Tp6 → Option (Bool) :=
  fun rec x => r17_Endless_L13_B g' k r8 y'_2 (fun again_2 i full_2 => rec (again_2, i, full_2)) x.1 x.2.1 x.2.2
noncomputable def r17_Endless_L13 (g' : Tp1) (k : Int) (r8 : (Bool → Int → Tp6 → Option (Bool))) (y'_2 : Bool) (again_2 : Bool) (i : Int) (full_2 : Tp6) : Option (Bool) := LFix (r17_Endless_L13_F g' k r8 y'_2 ) (again_2, i, full_2)
noncomputable def r17_Endless_L8_B (g' : Tp1) (y' : Tp7) (r5 : (Bool → Tp6 → Option (Bool))) (r8 : Tf3) (again_1 : Bool) (k : Int) (full_1 : Tp6) : Option (Bool) :=
  if (decide (k < (g'.2.2.1.length : Int))) = true then
  G (0 ≤ k ∧ k < (g'.2.2.1.length : Int)) (
  (r17_Whole (g'.1, (g'.2.1, (g'.2.2.1, ()))) y' ((ix g'.2.2.1 k).1, (((ix g'.2.2.1 k).2).1, ()))).bind (fun y'_2 =>
  r17_Endless_L13 g' k r8 y'_2 again_1 (0 : Int) full_1)) else
  r5 again_1 full_1
noncomputable def r17_Endless_L8_F (g' : Tp1) (y' : Tp7) (r5 : (Bool → Tp6 → Option (Bool))) : (Bool × Int × Tp6 → Option (Bool)) → Bool × Int × Tp6 → Option (Bool) :=
  fun rec x => r17_Endless_L8_B g' y' r5 (fun again_1 k full_1 => rec (again_1, k, full_1)) x.1 x.2.1 x.2.2
noncomputable def r17_Endless_L8 (g' : Tp1) (y' : Tp7) (r5 : (Bool → Tp6 → Option (Bool))) (again_1 : Bool) (k : Int) (full_1 : Tp6) : Option (Bool) := LFix (r17_Endless_L8_F g' y' r5 ) (again_1, k, full_1)
noncomputable def r17_Endless_L19_B (g' : Tp1) (y' : Tp7) (y'_1 : Tp7) (full : Tp6) (r19 : Int → Option (Bool)) (a : Int) : Option (Bool) :=
  if (decide (a < g'.2.1)) = true then
  G (0 ≤ a ∧ a < (y'_1.length : Int)) (
  G ((a).toNat < y'_1.length) (
  if (decide ((ix y'_1 a) = (1 : Int))) = true then
  (r17_Again (g'.1, (g'.2.1, (g'.2.2.1, ()))) y' full a).bind (fun y'_3 =>
  if y'_3 = true then
  some true else
  G (fits (a + (1 : Int))) (
  r19 (a + (1 : Int)))) else
  G (fits (a + (1 : Int))) (
  r19 (a + (1 : Int))))) else
  some false
noncomputable def r17_Endless_L19_F (g' : Tp1) (y' : Tp7) (y'_1 : Tp7) (full : Tp6) : (Int → Option (Bool)) → Int → Option (Bool) :=
  fun rec x => r17_Endless_L19_B g' y' y'_1 full (fun a => rec a) x
noncomputable def r17_Endless_L19 (g' : Tp1) (y' : Tp7) (y'_1 : Tp7) (full : Tp6) (a : Int) : Option (Bool) := LFix (r17_Endless_L19_F g' y' y'_1 full ) a
noncomputable def r17_Endless_L5_B (g' : Tp1) (y' : Tp7) (y'_1 : Tp7) (r5 : Bool → Tp6 → Option (Bool)) (again : Bool) (full : Tp6) : Option (Bool) :=
  if again = true then
  r17_Endless_L8 g' y' r5 false (0 : Int) full else
  r17_Endless_L19 g' y' y'_1 full (0 : Int)
noncomputable def r17_Endless_L5_F (g' : Tp1) (y' : Tp7) (y'_1 : Tp7) : (Bool × Tp6 → Option (Bool)) → Bool × Tp6 → Option (Bool) :=
  fun rec x => r17_Endless_L5_B g' y' y'_1 (fun again full => rec (again, full)) x.1 x.2
noncomputable def r17_Endless_L5 (g' : Tp1) (y' : Tp7) (y'_1 : Tp7) (again : Bool) (full : Tp6) : Option (Bool) := LFix (r17_Endless_L5_F g' y' y'_1 ) (again, full)
noncomputable def r17_Endless (g' : Tp1) : Option (Bool) :=
  (r17_Ends (g'.1, (g'.2.1, (g'.2.2.1, ())))).bind (fun y' =>
  (r17_Met (g'.1, (g'.2.1, (g'.2.2.1, ())))).bind (fun y'_1 =>
  G (mkOK g'.2.1 g'.2.1 1) (
  r17_Endless_L5 g' y' y'_1 true (List.replicate (g'.2.1).toNat (false : Bool)))))
theorem r17_Endless_J15_ch (r13 : Nat → Tf3) (r13' : Tf3) (h_r13 : ∀ a0 a1 a2, ChO (fun κ => r13 κ a0 a1 a2) (r13' a0 a1 a2)) (g' : Tp1) (k : Int) (again_2 : Bool) (i : Int) (full_2 : Tp6) (t : Bool) : ChO (fun κ => r17_Endless_J15 g' k again_2 i full_2 (r13 κ) t) (r17_Endless_J15 g' k again_2 i full_2 r13' t) := by
  unfold r17_Endless_J15
  repeat' with_reducible first | exact ChO.const _ | exact h_r13 _ _ _ | apply ChO.ite | apply ChO.G | apply ChO.both | (apply ChO.bind; intro _)
theorem r17_Endless_L13_B_ch (r8 : Nat → Tf3) (r8' : Tf3) (h_r8 : ∀ a0 a1 a2, ChO (fun κ => r8 κ a0 a1 a2) (r8' a0 a1 a2)) (r13 : Nat → Tf3) (r13' : Tf3) (h_r13 : ∀ a0 a1 a2, ChO (fun κ => r13 κ a0 a1 a2) (r13' a0 a1 a2)) (g' : Tp1) (k : Int) (y'_2 : Bool) (again_2 : Bool) (i : Int) (full_2 : Tp6) : ChO (fun κ => r17_Endless_L13_B g' k (r8 κ) y'_2 (r13 κ) again_2 i full_2) (r17_Endless_L13_B g' k r8' y'_2 r13' again_2 i full_2) := by
  unfold r17_Endless_L13_B
  repeat' with_reducible first | exact ChO.const _ | exact h_r8 _ _ _ | exact h_r13 _ _ _ | (apply r17_Endless_J15_ch <;> assumption) | apply ChO.ite | apply ChO.G | apply ChO.both | (apply ChO.bind; intro _)
theorem r17_Endless_L13_cn (r8 : Tf3) (g' : Tp1) (k : Int) (y'_2 : Bool) : Cn (r17_Endless_L13_F g' k r8 y'_2) := fun g h hg x => r17_Endless_L13_B_ch (fun _ => r8) r8 (fun _ _ _ => ChO.const _) (fun κ again_2 i full_2 => g κ (again_2, i, full_2)) (fun again_2 i full_2 => h (again_2, i, full_2)) (fun again_2 i full_2 => hg (again_2, i, full_2)) g' k y'_2 x.1 x.2.1 x.2.2
theorem r17_Endless_L13_eq (r8 : Tf3) (g' : Tp1) (k : Int) (y'_2 : Bool) (again_2 : Bool) (i : Int) (full_2 : Tp6) : r17_Endless_L13 g' k r8 y'_2 again_2 i full_2 = r17_Endless_L13_B g' k r8 y'_2 (r17_Endless_L13 g' k r8 y'_2) again_2 i full_2 := LFix_eq (r17_Endless_L13_cn r8 g' k y'_2) (again_2, i, full_2)
theorem r17_Endless_L13_ch (r8 : Nat → Tf3) (r8' : Tf3) (h_r8 : ∀ a0 a1 a2, ChO (fun κ => r8 κ a0 a1 a2) (r8' a0 a1 a2)) (g' : Tp1) (k : Int) (y'_2 : Bool) (again_2 : Bool) (i : Int) (full_2 : Tp6) : ChO (fun κ => r17_Endless_L13 g' k (r8 κ) y'_2 again_2 i full_2) (r17_Endless_L13 g' k r8' y'_2 again_2 i full_2) := by
  unfold r17_Endless_L13
  exact LFix_ch (fun κ => (r17_Endless_L13_cn (r8 κ) g' k y'_2).mono) (r17_Endless_L13_cn r8' g' k y'_2).mono (fun g h hg x => r17_Endless_L13_B_ch r8 r8' h_r8 (fun κ again_2 i full_2 => g κ (again_2, i, full_2)) (fun again_2 i full_2 => h (again_2, i, full_2)) (fun again_2 i full_2 => hg (again_2, i, full_2)) g' k y'_2 x.1 x.2.1 x.2.2) _
theorem r17_Endless_L8_B_ch (r5 : Nat → Bool → Tp6 → Option (Bool)) (r5' : Bool → Tp6 → Option (Bool)) (h_r5 : ∀ a0 a1, ChO (fun κ => r5 κ a0 a1) (r5' a0 a1)) (r8 : Nat → Tf3) (r8' : Tf3) (h_r8 : ∀ a0 a1 a2, ChO (fun κ => r8 κ a0 a1 a2) (r8' a0 a1 a2)) (g' : Tp1) (y' : Tp7) (again_1 : Bool) (k : Int) (full_1 : Tp6) : ChO (fun κ => r17_Endless_L8_B g' y' (r5 κ) (r8 κ) again_1 k full_1) (r17_Endless_L8_B g' y' r5' r8' again_1 k full_1) := by
  unfold r17_Endless_L8_B
  repeat' with_reducible first | exact ChO.const _ | exact h_r5 _ _ | exact h_r8 _ _ _ | (apply r17_Endless_J15_ch <;> assumption) | (apply r17_Endless_L13_ch <;> assumption) | apply ChO.ite | apply ChO.G | apply ChO.both | (apply ChO.bind; intro _)
theorem r17_Endless_L8_cn (r5 : Bool → Tp6 → Option (Bool)) (g' : Tp1) (y' : Tp7) : Cn (r17_Endless_L8_F g' y' r5) := fun g h hg x => r17_Endless_L8_B_ch (fun _ => r5) r5 (fun _ _ => ChO.const _) (fun κ again_1 k full_1 => g κ (again_1, k, full_1)) (fun again_1 k full_1 => h (again_1, k, full_1)) (fun again_1 k full_1 => hg (again_1, k, full_1)) g' y' x.1 x.2.1 x.2.2
theorem r17_Endless_L8_eq (r5 : Bool → Tp6 → Option (Bool)) (g' : Tp1) (y' : Tp7) (again_1 : Bool) (k : Int) (full_1 : Tp6) : r17_Endless_L8 g' y' r5 again_1 k full_1 = r17_Endless_L8_B g' y' r5 (r17_Endless_L8 g' y' r5) again_1 k full_1 := LFix_eq (r17_Endless_L8_cn r5 g' y') (again_1, k, full_1)
theorem r17_Endless_L8_ch (r5 : Nat → Bool → Tp6 → Option (Bool)) (r5' : Bool → Tp6 → Option (Bool)) (h_r5 : ∀ a0 a1, ChO (fun κ => r5 κ a0 a1) (r5' a0 a1)) (g' : Tp1) (y' : Tp7) (again_1 : Bool) (k : Int) (full_1 : Tp6) : ChO (fun κ => r17_Endless_L8 g' y' (r5 κ) again_1 k full_1) (r17_Endless_L8 g' y' r5' again_1 k full_1) := by
  unfold r17_Endless_L8
  exact LFix_ch (fun κ => (r17_Endless_L8_cn (r5 κ) g' y').mono) (r17_Endless_L8_cn r5' g' y').mono (fun g h hg x => r17_Endless_L8_B_ch r5 r5' h_r5 (fun κ again_1 k full_1 => g κ (again_1, k, full_1)) (fun again_1 k full_1 => h (again_1, k, full_1)) (fun again_1 k full_1 => hg (again_1, k, full_1)) g' y' x.1 x.2.1 x.2.2) _
theorem r17_Endless_L19_B_ch (r19 : Nat → Int → Option (Bool)) (r19' : Int → Option (Bool)) (h_r19 : ∀ a0, ChO (fun κ => r19 κ a0) (r19' a0)) (g' : Tp1) (y' : Tp7) (y'_1 : Tp7) (full : Tp6) (a : Int) : ChO (fun κ => r17_Endless_L19_B g' y' y'_1 full (r19 κ) a) (r17_Endless_L19_B g' y' y'_1 full r19' a) := by
  unfold r17_Endless_L19_B
  repeat' with_reducible first | exact ChO.const _ | exact h_r19 _ | (apply r17_Endless_J15_ch <;> assumption) | (apply r17_Endless_L13_ch <;> assumption) | (apply r17_Endless_L8_ch <;> assumption) | apply ChO.ite | apply ChO.G | apply ChO.both | (apply ChO.bind; intro _)
theorem r17_Endless_L19_cn  (g' : Tp1) (y' : Tp7) (y'_1 : Tp7) (full : Tp6) : Cn (r17_Endless_L19_F g' y' y'_1 full) := fun g h hg x => r17_Endless_L19_B_ch  (fun κ a => g κ a) (fun a => h a) (fun a => hg a) g' y' y'_1 full x
theorem r17_Endless_L19_eq  (g' : Tp1) (y' : Tp7) (y'_1 : Tp7) (full : Tp6) (a : Int) : r17_Endless_L19 g' y' y'_1 full a = r17_Endless_L19_B g' y' y'_1 full (r17_Endless_L19 g' y' y'_1 full) a := LFix_eq (r17_Endless_L19_cn g' y' y'_1 full) a
theorem r17_Endless_L5_B_ch (r5 : Nat → Bool → Tp6 → Option (Bool)) (r5' : Bool → Tp6 → Option (Bool)) (h_r5 : ∀ a0 a1, ChO (fun κ => r5 κ a0 a1) (r5' a0 a1)) (g' : Tp1) (y' : Tp7) (y'_1 : Tp7) (again : Bool) (full : Tp6) : ChO (fun κ => r17_Endless_L5_B g' y' y'_1 (r5 κ) again full) (r17_Endless_L5_B g' y' y'_1 r5' again full) := by
  unfold r17_Endless_L5_B
  repeat' with_reducible first | exact ChO.const _ | exact h_r5 _ _ | (apply r17_Endless_J15_ch <;> assumption) | (apply r17_Endless_L13_ch <;> assumption) | (apply r17_Endless_L8_ch <;> assumption) | apply ChO.ite | apply ChO.G | apply ChO.both | (apply ChO.bind; intro _)
theorem r17_Endless_L5_cn  (g' : Tp1) (y' : Tp7) (y'_1 : Tp7) : Cn (r17_Endless_L5_F g' y' y'_1) := fun g h hg x => r17_Endless_L5_B_ch  (fun κ again full => g κ (again, full)) (fun again full => h (again, full)) (fun again full => hg (again, full)) g' y' y'_1 x.1 x.2
theorem r17_Endless_L5_eq  (g' : Tp1) (y' : Tp7) (y'_1 : Tp7) (again : Bool) (full : Tp6) : r17_Endless_L5 g' y' y'_1 again full = r17_Endless_L5_B g' y' y'_1 (r17_Endless_L5 g' y' y'_1) again full := LFix_eq (r17_Endless_L5_cn g' y' y'_1) (again, full)

noncomputable def r1_Words_L4_B (a : Tp7) (b : Tp7) (r4 : Int → Option (Bool)) (i : Int) : Option (Bool) :=
  if (decide (i < (a.length : Int))) = true then
  G (0 ≤ i ∧ i < (a.length : Int)) (
  G (0 ≤ i ∧ i < (b.length : Int)) (
  if (decide (¬ (ix a i) = (ix b i))) = true then
  some false else
  G (fits (i + (1 : Int))) (
  r4 (i + (1 : Int))))) else
  some true
noncomputable def r1_Words_L4_F (a : Tp7) (b : Tp7) : (Int → Option (Bool)) → Int → Option (Bool) :=
  fun rec x => r1_Words_L4_B a b (fun i => rec i) x
noncomputable def r1_Words_L4 (a : Tp7) (b : Tp7) (i : Int) : Option (Bool) := LFix (r1_Words_L4_F a b ) i
noncomputable def r1_Words (a : Tp7) (b : Tp7) : Option (Bool) :=
  if (decide (¬ (a.length : Int) = (b.length : Int))) = true then
  some false else
  r1_Words_L4 a b (0 : Int)
theorem r1_Words_L4_B_ch (r4 : Nat → Int → Option (Bool)) (r4' : Int → Option (Bool)) (h_r4 : ∀ a0, ChO (fun κ => r4 κ a0) (r4' a0)) (a : Tp7) (b : Tp7) (i : Int) : ChO (fun κ => r1_Words_L4_B a b (r4 κ) i) (r1_Words_L4_B a b r4' i) := by
  unfold r1_Words_L4_B
  repeat' with_reducible first | exact ChO.const _ | exact h_r4 _ | apply ChO.ite | apply ChO.G | apply ChO.both | (apply ChO.bind; intro _)
theorem r1_Words_L4_cn  (a : Tp7) (b : Tp7) : Cn (r1_Words_L4_F a b) := fun g h hg x => r1_Words_L4_B_ch  (fun κ i => g κ i) (fun i => h i) (fun i => hg i) a b x
theorem r1_Words_L4_eq  (a : Tp7) (b : Tp7) (i : Int) : r1_Words_L4 a b i = r1_Words_L4_B a b (r1_Words_L4 a b) i := LFix_eq (r1_Words_L4_cn a b) i

noncomputable def law_GramUseful (g' : Tp1) : Option (Bool) :=
  (gram_Useful (g'.1, (g'.2.1, (g'.2.2.1, ())))).bind (fun y'_14 =>
  (gram_Endless (g'.1, (g'.2.1, (g'.2.2.1, ())))).bind (fun y'_13 =>
  (r17_Check (g'.1, (g'.2.1, (g'.2.2.1, ())))).bind (fun y'_7 =>
  if (decide (¬ y'_7 = (0 : Int))) = true then
  if (decide (y'_14.1 = y'_7)) = true then
  if (decide (y'_13.2 = y'_7)) = true then
  if (!y'_13.1) = true then
  G (fits ((y'_14.2.1.length : Int) + (y'_14.2.2.length : Int))) (
  some (decide (((y'_14.2.1.length : Int) + (y'_14.2.2.length : Int)) = (0 : Int)))) else
  some false else
  some false else
  some false else
  (r17_Ends (g'.1, (g'.2.1, (g'.2.2.1, ())))).bind (fun y'_8 =>
  (r17_Met (g'.1, (g'.2.1, (g'.2.2.1, ())))).bind (fun y'_9 =>
  (r17_Endless (g'.1, (g'.2.1, (g'.2.2.1, ())))).bind (fun y'_10 =>
  (r1_Words y'_14.2.1 y'_8).bind (fun y'_11 =>
  (r1_Words y'_14.2.2 y'_9).bind (fun y'_12 =>
  if (decide (y'_14.1 = (0 : Int))) = true then
  if (decide (y'_13.2 = (0 : Int))) = true then
  if y'_11 = true then
  if y'_12 = true then
  some (decide (y'_13.1 = y'_10)) else
  some false else
  some false else
  some false else
  some false))))))))

end Go.Proofs.Ytmekpjgicmgmfaa.gramUsefulW
