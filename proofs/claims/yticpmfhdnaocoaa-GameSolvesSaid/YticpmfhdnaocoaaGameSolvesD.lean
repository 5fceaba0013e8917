/- What the functions that 'GameSolves' reaches compute: plain functions. -/
import Derived.Test.YticpmfhdnaocoaaEv20n21
set_option maxHeartbeats 1000000
set_option maxRecDepth 20000
set_option linter.unusedSimpArgs false
set_option linter.unusedVariables false
set_option linter.unusedSectionVars false
namespace Go.Proofs.Yticpmfhdnaocoaa.gameSolvesW
open Go Go.Ab
abbrev Tp4 := ((List Int) × (List Int) × Unit)
abbrev Tp3 := ((List Int) × (List Int) × (List (List Int)) × Unit)
abbrev Tp2 := ((List Int) × (List Int) × (List (List Int)) × (List (List Int)) × (List Int) × (List Int) × (List Bool))
abbrev Tp1 := ((List Bool) × (List Int) × (List Int) × (List (List Int)) × (List (List Int)) × (List Int) × (List Int) × (List Int) × (List Bool))
noncomputable def law_list (l : (List Int)) : Option (List Int) :=
  G (fits ((l.length : Int) + (3 : Int))) (
  G (mkOK (l.length : Int) ((l.length : Int) + (3 : Int)) 8) (
  some (l.take (List.replicate ((l.length : Int)).toNat (0 : Int)).length ++ (List.replicate ((l.length : Int)).toNat (0 : Int)).drop l.length)))

noncomputable def law_lists_L3_B (l : (List (List Int))) (r3 : Int → (List (List Int)) → Option (List (List Int))) (i : Int) (out : (List (List Int))) : Option (List (List Int)) :=
  if (decide (i < (l.length : Int))) = true then
  G (0 ≤ i ∧ i < (l.length : Int)) (
  (law_list (ix l i)).bind (fun y' =>
  G (room out ([y']) 24) (
  G (fits (i + (1 : Int))) (
  r3 (i + (1 : Int)) (out ++ ([y'])))))) else
  some out
noncomputable def law_lists_L3_F (l : (List (List Int))) : (Int × (List (List Int)) → Option (List (List Int))) → Int × (List (List Int)) → Option (List (List Int)) :=
  fun rec x => law_lists_L3_B l (fun i out => rec (i, out)) x.1 x.2
noncomputable def law_lists_L3 (l : (List (List Int))) (i : Int) (out : (List (List Int))) : Option (List (List Int)) := LFix (law_lists_L3_F l ) (i, out)
noncomputable def law_lists (l : (List (List Int))) : Option (List (List Int)) :=
  law_lists_L3 l (0 : Int) ([])
theorem law_lists_L3_B_ch (r3 : Nat → Int → (List (List Int)) → Option (List (List Int))) (r3' : Int → (List (List Int)) → Option (List (List Int))) (h_r3 : ∀ a0 a1, ChO (fun κ => r3 κ a0 a1) (r3' a0 a1)) (l : (List (List Int))) (i : Int) (out : (List (List Int))) : ChO (fun κ => law_lists_L3_B l (r3 κ) i out) (law_lists_L3_B l r3' i out) := by
  unfold law_lists_L3_B
  repeat' with_reducible first | exact ChO.const _ | exact h_r3 _ _ | apply ChO.ite | apply ChO.G | apply ChO.both | (apply ChO.bind; intro _)
theorem law_lists_L3_cn  (l : (List (List Int))) : Cn (law_lists_L3_F l) := fun g h hg x => law_lists_L3_B_ch  (fun κ i out => g κ (i, out)) (fun i out => h (i, out)) (fun i out => hg (i, out)) l x.1 x.2
theorem law_lists_L3_eq  (l : (List (List Int))) (i : Int) (out : (List (List Int))) : law_lists_L3 l i out = law_lists_L3_B l (law_lists_L3 l) i out := LFix_eq (law_lists_L3_cn l) (i, out)

noncomputable def game_Check_L24_B (g' : Tp3) (t_1 : Int) (r13 : (Int → Option (Int))) (r24 : Int → Option (Int)) (k : Int) : Option (Int) :=
  if (decide (k < ((ix g'.2.2.1 t_1).length : Int))) = true then
  G (fits (k - (1 : Int))) (
  G (0 ≤ k - (1 : Int) ∧ k - (1 : Int) < ((ix g'.2.2.1 t_1).length : Int)) (
  G (0 ≤ k ∧ k < ((ix g'.2.2.1 t_1).length : Int)) (
  if (decide ((ix (ix g'.2.2.1 t_1) k) ≤ (ix (ix g'.2.2.1 t_1) (k - (1 : Int))))) = true then
  some (3 : Int) else
  G (fits (k + (1 : Int))) (
  r24 (k + (1 : Int)))))) else
  G (fits (t_1 + (1 : Int))) (
  r13 (t_1 + (1 : Int)))
noncomputable def game_Check_L24_F (g' : Tp3) (t_1 : Int) (r13 : (Int → Option (Int))) : (Int → Option (Int)) → Int → Option (Int) :=
  fun rec x => game_Check_L24_B g' t_1 r13 (fun k => rec k) x
noncomputable def game_Check_L24 (g' : Tp3) (t_1 : Int) (r13 : (Int → Option (Int))) (k : Int) : Option (Int) := LFix (game_Check_L24_F g' t_1 r13 ) k
noncomputable def game_Check_L18_B (g' : Tp3) (t_1 : Int) (r13 : (Int → Option (Int))) (r18 : Int → Option (Int)) (t_2 : Int) : Option (Int) :=
  if (decide (t_2 < ((ix g'.2.2.1 t_1).length : Int))) = true then
  G (0 ≤ t_2 ∧ t_2 < ((ix g'.2.2.1 t_1).length : Int)) (
  if (decide ((ix (ix g'.2.2.1 t_1) t_2) < (0 : Int))) = true then
  some (2 : Int) else
  if (decide ((g'.1.length : Int) ≤ (ix (ix g'.2.2.1 t_1) t_2))) = true then
  some (2 : Int) else
  G (fits (t_2 + (1 : Int))) (
  r18 (t_2 + (1 : Int)))) else
  game_Check_L24 g' t_1 r13 (1 : Int)
noncomputable def game_Check_L18_F (g' : Tp3) (t_1 : Int) (r13 : (Int → Option (Int))) : (Int → Option (Int)) → Int → Option (Int) :=
  fun rec x => game_Check_L18_B g' t_1 r13 (fun t_2 => rec t_2) x
noncomputable def game_Check_L18 (g' : Tp3) (t_1 : Int) (r13 : (Int → Option (Int))) (t_2 : Int) : Option (Int) := LFix (game_Check_L18_F g' t_1 r13 ) t_2
noncomputable def game_Check_L13_B (g' : Tp3) (r13 : Int → Option (Int)) (t_1 : Int) : Option (Int) :=
  if (decide (t_1 < (g'.2.2.1.length : Int))) = true then
  G (0 ≤ t_1 ∧ t_1 < (g'.2.2.1.length : Int)) (
  if (decide (((ix g'.2.2.1 t_1).length : Int) = (0 : Int))) = true then
  some (6 : Int) else
  game_Check_L18 g' t_1 r13 (0 : Int)) else
  some (0 : Int)
noncomputable def game_Check_L13_F (g' : Tp3) : (Int → Option (Int)) → Int → Option (Int) :=
  fun rec x => game_Check_L13_B g' (fun t_1 => rec t_1) x
noncomputable def game_Check_L13 (g' : Tp3) (t_1 : Int) : Option (Int) := LFix (game_Check_L13_F g' ) t_1
noncomputable def game_Check_L7_B (g' : Tp3) (r7 : Int → Option (Int)) (t : Int) : Option (Int) :=
  if (decide (t < (g'.1.length : Int))) = true then
  G (0 ≤ t ∧ t < (g'.1.length : Int)) (
  if (decide ((ix g'.1 t) < (0 : Int))) = true then
  some (2 : Int) else
  G (0 ≤ t ∧ t < (g'.1.length : Int)) (
  if (decide ((1 : Int) < (ix g'.1 t))) = true then
  some (2 : Int) else
  G (0 ≤ t ∧ t < (g'.2.1.length : Int)) (
  if (decide ((ix g'.2.1 t) < (0 : Int))) = true then
  some (2 : Int) else
  G (0 ≤ t ∧ t < (g'.2.1.length : Int)) (
  if (decide ((9 : Int) < (ix g'.2.1 t))) = true then
  some (2 : Int) else
  G (fits (t + (1 : Int))) (
  r7 (t + (1 : Int))))))) else
  game_Check_L13 g' (0 : Int)
noncomputable def game_Check_L7_F (g' : Tp3) : (Int → Option (Int)) → Int → Option (Int) :=
  fun rec x => game_Check_L7_B g' (fun t => rec t) x
noncomputable def game_Check_L7 (g' : Tp3) (t : Int) : Option (Int) := LFix (game_Check_L7_F g' ) t
noncomputable def game_Check (g' : Tp3) : Option (Int) :=
  if (decide ((g'.1.length : Int) < (1 : Int))) = true then
  some (1 : Int) else
  if (decide ((60 : Int) < (g'.1.length : Int))) = true then
  some (1 : Int) else
  if (decide (¬ (g'.2.1.length : Int) = (g'.1.length : Int))) = true then
  some (3 : Int) else
  if (decide (¬ (g'.2.2.1.length : Int) = (g'.1.length : Int))) = true then
  some (3 : Int) else
  game_Check_L7 g' (0 : Int)
theorem game_Check_L24_B_ch (r13 : Nat → Int → Option (Int)) (r13' : Int → Option (Int)) (h_r13 : ∀ a0, ChO (fun κ => r13 κ a0) (r13' a0)) (r24 : Nat → Int → Option (Int)) (r24' : Int → Option (Int)) (h_r24 : ∀ a0, ChO (fun κ => r24 κ a0) (r24' a0)) (g' : Tp3) (t_1 : Int) (k : Int) : ChO (fun κ => game_Check_L24_B g' t_1 (r13 κ) (r24 κ) k) (game_Check_L24_B g' t_1 r13' r24' k) := by
  unfold game_Check_L24_B
  repeat' with_reducible first | exact ChO.const _ | exact h_r13 _ | exact h_r24 _ | apply ChO.ite | apply ChO.G | apply ChO.both | (apply ChO.bind; intro _)
theorem game_Check_L24_cn (r13 : Int → Option (Int)) (g' : Tp3) (t_1 : Int) : Cn (game_Check_L24_F g' t_1 r13) := fun g h hg x => game_Check_L24_B_ch (fun _ => r13) r13 (fun _ => ChO.const _) (fun κ k => g κ k) (fun k => h k) (fun k => hg k) g' t_1 x
theorem game_Check_L24_eq (r13 : Int → Option (Int)) (g' : Tp3) (t_1 : Int) (k : Int) : game_Check_L24 g' t_1 r13 k = game_Check_L24_B g' t_1 r13 (game_Check_L24 g' t_1 r13) k := LFix_eq (game_Check_L24_cn r13 g' t_1) k
theorem game_Check_L24_ch (r13 : Nat → Int → Option (Int)) (r13' : Int → Option (Int)) (h_r13 : ∀ a0, ChO (fun κ => r13 κ a0) (r13' a0)) (g' : Tp3) (t_1 : Int) (k : Int) : ChO (fun κ => game_Check_L24 g' t_1 (r13 κ) k) (game_Check_L24 g' t_1 r13' k) := by
  unfold game_Check_L24
  exact LFix_ch (fun κ => (game_Check_L24_cn (r13 κ) g' t_1).mono) (game_Check_L24_cn r13' g' t_1).mono (fun g h hg x => game_Check_L24_B_ch r13 r13' h_r13 (fun κ k => g κ k) (fun k => h k) (fun k => hg k) g' t_1 x) _
theorem game_Check_L18_B_ch (r13 : Nat → Int → Option (Int)) (r13' : Int → Option (Int)) (h_r13 : ∀ a0, ChO (fun κ => r13 κ a0) (r13' a0)) (r18 : Nat → Int → Option (Int)) (r18' : Int → Option (Int)) (h_r18 : ∀ a0, ChO (fun κ => r18 κ a0) (r18' a0)) (g' : Tp3) (t_1 : Int) (t_2 : Int) : ChO (fun κ => game_Check_L18_B g' t_1 (r13 κ) (r18 κ) t_2) (game_Check_L18_B g' t_1 r13' r18' t_2) := by
  unfold game_Check_L18_B
  repeat' with_reducible first | exact ChO.const _ | exact h_r13 _ | exact h_r18 _ | (apply game_Check_L24_ch <;> assumption) | apply ChO.ite | apply ChO.G | apply ChO.both | (apply ChO.bind; intro _)
theorem game_Check_L18_cn (r13 : Int → Option (Int)) (g' : Tp3) (t_1 : Int) : Cn (game_Check_L18_F g' t_1 r13) := fun g h hg x => game_Check_L18_B_ch (fun _ => r13) r13 (fun _ => ChO.const _) (fun κ t_2 => g κ t_2) (fun t_2 => h t_2) (fun t_2 => hg t_2) g' t_1 x
theorem game_Check_L18_eq (r13 : Int → Option (Int)) (g' : Tp3) (t_1 : Int) (t_2 : Int) : game_Check_L18 g' t_1 r13 t_2 = game_Check_L18_B g' t_1 r13 (game_Check_L18 g' t_1 r13) t_2 := LFix_eq (game_Check_L18_cn r13 g' t_1) t_2
theorem game_Check_L18_ch (r13 : Nat → Int → Option (Int)) (r13' : Int → Option (Int)) (h_r13 : ∀ a0, ChO (fun κ => r13 κ a0) (r13' a0)) (g' : Tp3) (t_1 : Int) (t_2 : Int) : ChO (fun κ => game_Check_L18 g' t_1 (r13 κ) t_2) (game_Check_L18 g' t_1 r13' t_2) := by
  unfold game_Check_L18
  exact LFix_ch (fun κ => (game_Check_L18_cn (r13 κ) g' t_1).mono) (game_Check_L18_cn r13' g' t_1).mono (fun g h hg x => game_Check_L18_B_ch r13 r13' h_r13 (fun κ t_2 => g κ t_2) (fun t_2 => h t_2) (fun t_2 => hg t_2) g' t_1 x) _
theorem game_Check_L13_B_ch (r13 : Nat → Int → Option (Int)) (r13' : Int → Option (Int)) (h_r13 : ∀ a0, ChO (fun κ => r13 κ a0) (r13' a0)) (g' : Tp3) (t_1 : Int) : ChO (fun κ => game_Check_L13_B g' (r13 κ) t_1) (game_Check_L13_B g' r13' t_1) := by
  unfold game_Check_L13_B
  repeat' with_reducible first | exact ChO.const _ | exact h_r13 _ | (apply game_Check_L24_ch <;> assumption) | (apply game_Check_L18_ch <;> assumption) | apply ChO.ite | apply ChO.G | apply ChO.both | (apply ChO.bind; intro _)
theorem game_Check_L13_cn  (g' : Tp3) : Cn (game_Check_L13_F g') := fun g h hg x => game_Check_L13_B_ch  (fun κ t_1 => g κ t_1) (fun t_1 => h t_1) (fun t_1 => hg t_1) g' x
theorem game_Check_L13_eq  (g' : Tp3) (t_1 : Int) : game_Check_L13 g' t_1 = game_Check_L13_B g' (game_Check_L13 g') t_1 := LFix_eq (game_Check_L13_cn g') t_1
theorem game_Check_L7_B_ch (r7 : Nat → Int → Option (Int)) (r7' : Int → Option (Int)) (h_r7 : ∀ a0, ChO (fun κ => r7 κ a0) (r7' a0)) (g' : Tp3) (t : Int) : ChO (fun κ => game_Check_L7_B g' (r7 κ) t) (game_Check_L7_B g' r7' t) := by
  unfold game_Check_L7_B
  repeat' with_reducible first | exact ChO.const _ | exact h_r7 _ | (apply game_Check_L24_ch <;> assumption) | (apply game_Check_L18_ch <;> assumption) | apply ChO.ite | apply ChO.G | apply ChO.both | (apply ChO.bind; intro _)
theorem game_Check_L7_cn  (g' : Tp3) : Cn (game_Check_L7_F g') := fun g h hg x => game_Check_L7_B_ch  (fun κ t => g κ t) (fun t => h t) (fun t => hg t) g' x
theorem game_Check_L7_eq  (g' : Tp3) (t : Int) : game_Check_L7 g' t = game_Check_L7_B g' (game_Check_L7 g') t := LFix_eq (game_Check_L7_cn g') t

noncomputable def slices_Clone (s : (List Int)) : Option (List Int) :=
  if s.length = 0 then both [(.list (.int .i64))] (
  some ([])) (
  G (room ([] : List Int) s 8) (
  some (([] : List Int) ++ s))) else
  G (room ([] : List Int) s 8) (
  some (([] : List Int) ++ s))

noncomputable def game_solver_attracted_L7_B (c_2 : (List (List Int))) (within : (List Bool)) (t : Int) (r4 : (Int → (List Int) → Option Tp1)) (r7 : Int → (List Int) → Option Tp1) (t_1 : Int) (left_1 : (List Int)) : Option Tp1 :=
  if (decide (t_1 < ((ix c_2 t).length : Int))) = true then
  G (0 ≤ t_1 ∧ t_1 < ((ix c_2 t).length : Int)) (
  G (0 ≤ ix (ix c_2 t) t_1 ∧ ix (ix c_2 t) t_1 < (within.length : Int)) (
  G ((ix (ix c_2 t) t_1).toNat < within.length) (
  if (ix within (ix (ix c_2 t) t_1)) = true then
  G (0 ≤ t ∧ t < (left_1.length : Int)) (
  G ((t).toNat < left_1.length) (
  G (fits ((ix left_1 t) + (1 : Int))) (
  G (0 ≤ t ∧ t < (left_1.length : Int)) (
  G ((t).toNat < left_1.length) (
  G (fits (t_1 + (1 : Int))) (
  r7 (t_1 + (1 : Int)) (left_1.set (t).toNat ((ix left_1 t) + (1 : Int))))))))) else
  G (fits (t_1 + (1 : Int))) (
  r7 (t_1 + (1 : Int)) left_1)))) else
  G (fits (t + (1 : Int))) (
  r4 (t + (1 : Int)) left_1)
noncomputable def game_solver_attracted_L7_F (c_2 : (List (List Int))) (within : (List Bool)) (t : Int) (r4 : (Int → (List Int) → Option Tp1)) : (Int × (List Int) → Option Tp1) → Int × (List Int) → Option Tp1 :=
  fun rec x => game_solver_attracted_L7_B c_2 within t r4 (fun t_1 left_1 => rec (t_1, left_1)) x.1 x.2
noncomputable def game_solver_attracted_L7 (c_2 : (List (List Int))) (within : (List Bool)) (t : Int) (r4 : (Int → (List Int) → Option Tp1)) (t_1 : Int) (left_1 : (List Int)) : Option Tp1 := LFix (game_solver_attracted_L7_F c_2 within t r4 ) (t_1, left_1)
noncomputable def game_solver_attracted_J28 (s_3 : (List (List Int))) (row : (List Int)) (t_3 : Int) (in'_2 : (List Bool)) (left_3 : (List Int)) (row_1 : (List Int)) (r22 : (Int → (List Int) → (List Int) → (List (List Int)) → (List (List Int)) → (List Bool) → (List Int) → (List Int) → (List Int) → (List Int) → Option Tp1)) (s_8 : (List Int)) (s_9 : (List Int)) (s_10 : (List (List Int))) (s_11 : (List (List Int))) (l_6 : (List Int)) (l_7 : (List Int)) : Option Tp1 :=
  G (0 ≤ ix (ix s_3 (ix row (0 : Int))) t_3 ∧ ix (ix s_3 (ix row (0 : Int))) t_3 < (in'_2.length : Int)) (
  G ((ix (ix s_3 (ix row (0 : Int))) t_3).toNat < in'_2.length) (
  G (room row_1 ([ix (ix s_3 (ix row (0 : Int))) t_3]) 8) (
  G (fits (t_3 + (1 : Int))) (
  r22 (t_3 + (1 : Int)) s_8 s_9 s_10 s_11 (in'_2.set (ix (ix s_3 (ix row (0 : Int))) t_3).toNat true) (left_3.set (ix (ix s_3 (ix row (0 : Int))) t_3).toNat ((ix left_3 (ix (ix s_3 (ix row (0 : Int))) t_3)) - (1 : Int))) (row_1 ++ ([ix (ix s_3 (ix row (0 : Int))) t_3])) l_6 l_7))))
noncomputable def game_solver_attracted_L22_B (player : Int) (within : (List Bool)) (s_3 : (List (List Int))) (row : (List Int)) (r19 : ((List Int) → (List Int) → (List (List Int)) → (List (List Int)) → (List Bool) → (List Int) → (List Int) → (List Int) → (List Int) → Option Tp1)) (r22 : Int → (List Int) → (List Int) → (List (List Int)) → (List (List Int)) → (List Bool) → (List Int) → (List Int) → (List Int) → (List Int) → Option Tp1) (t_3 : Int) (s_4 : (List Int)) (s_5 : (List Int)) (s_6 : (List (List Int))) (s_7 : (List (List Int))) (in'_2 : (List Bool)) (left_3 : (List Int)) (row_1 : (List Int)) (l_4 : (List Int)) (l_5 : (List Int)) : Option Tp1 :=
  if (decide (t_3 < ((ix s_3 (ix row (0 : Int))).length : Int))) = true then
  G (0 ≤ t_3 ∧ t_3 < ((ix s_3 (ix row (0 : Int))).length : Int)) (
  G (0 ≤ ix (ix s_3 (ix row (0 : Int))) t_3 ∧ ix (ix s_3 (ix row (0 : Int))) t_3 < (within.length : Int)) (
  G ((ix (ix s_3 (ix row (0 : Int))) t_3).toNat < within.length) (
  if (!(ix within (ix (ix s_3 (ix row (0 : Int))) t_3))) = true then
  G (fits (t_3 + (1 : Int))) (
  r22 (t_3 + (1 : Int)) s_4 s_5 s_6 s_7 in'_2 left_3 row_1 l_4 l_5) else
  G (0 ≤ ix (ix s_3 (ix row (0 : Int))) t_3 ∧ ix (ix s_3 (ix row (0 : Int))) t_3 < (in'_2.length : Int)) (
  G ((ix (ix s_3 (ix row (0 : Int))) t_3).toNat < in'_2.length) (
  if (ix in'_2 (ix (ix s_3 (ix row (0 : Int))) t_3)) = true then
  G (fits (t_3 + (1 : Int))) (
  r22 (t_3 + (1 : Int)) s_4 s_5 s_6 s_7 in'_2 left_3 row_1 l_4 l_5) else
  G (0 ≤ ix (ix s_3 (ix row (0 : Int))) t_3 ∧ ix (ix s_3 (ix row (0 : Int))) t_3 < (left_3.length : Int)) (
  G ((ix (ix s_3 (ix row (0 : Int))) t_3).toNat < left_3.length) (
  G (fits ((ix left_3 (ix (ix s_3 (ix row (0 : Int))) t_3)) - (1 : Int))) (
  G (0 ≤ ix (ix s_3 (ix row (0 : Int))) t_3 ∧ ix (ix s_3 (ix row (0 : Int))) t_3 < (left_3.length : Int)) (
  G ((ix (ix s_3 (ix row (0 : Int))) t_3).toNat < left_3.length) (
  G (0 ≤ ix (ix s_3 (ix row (0 : Int))) t_3 ∧ ix (ix s_3 (ix row (0 : Int))) t_3 < (s_4.length : Int)) (
  if (decide ((ix s_4 (ix (ix s_3 (ix row (0 : Int))) t_3)) = player)) = true then
  G (0 ≤ (0 : Int) ∧ (0 : Int) < (row_1.length : Int)) (
  G (((0 : Int)).toNat < row_1.length) (
  G (0 ≤ ix (ix s_3 (ix row (0 : Int))) t_3 ∧ ix (ix s_3 (ix row (0 : Int))) t_3 < (l_5.length : Int)) (
  G ((ix (ix s_3 (ix row (0 : Int))) t_3).toNat < l_5.length) (
  game_solver_attracted_J28 s_3 row t_3 in'_2 left_3 row_1 r22 s_4 s_5 s_6 s_7 l_4 (l_5.set (ix (ix s_3 (ix row (0 : Int))) t_3).toNat (ix row_1 (0 : Int))))))) else
  G (0 ≤ ix (ix s_3 (ix row (0 : Int))) t_3 ∧ ix (ix s_3 (ix row (0 : Int))) t_3 < ((left_3.set (ix (ix s_3 (ix row (0 : Int))) t_3).toNat ((ix left_3 (ix (ix s_3 (ix row (0 : Int))) t_3)) - (1 : Int))).length : Int)) (
  G ((ix (ix s_3 (ix row (0 : Int))) t_3).toNat < (left_3.set (ix (ix s_3 (ix row (0 : Int))) t_3).toNat ((ix left_3 (ix (ix s_3 (ix row (0 : Int))) t_3)) - (1 : Int))).length) (
  if (decide ((0 : Int) < (ix (left_3.set (ix (ix s_3 (ix row (0 : Int))) t_3).toNat ((ix left_3 (ix (ix s_3 (ix row (0 : Int))) t_3)) - (1 : Int))) (ix (ix s_3 (ix row (0 : Int))) t_3)))) = true then
  G (fits (t_3 + (1 : Int))) (
  r22 (t_3 + (1 : Int)) s_4 s_5 s_6 s_7 in'_2 (left_3.set (ix (ix s_3 (ix row (0 : Int))) t_3).toNat ((ix left_3 (ix (ix s_3 (ix row (0 : Int))) t_3)) - (1 : Int))) row_1 l_4 l_5) else
  game_solver_attracted_J28 s_3 row t_3 in'_2 left_3 row_1 r22 s_4 s_5 s_6 s_7 l_4 l_5))))))))))))) else
  G (0 ≤ (1 : Int) ∧ (1 : Int) ≤ (row_1.length : Int)) (
  r19 s_4 s_5 s_6 s_7 in'_2 left_3 (row_1.drop ((1 : Int)).toNat) l_4 l_5)
noncomputable def game_solver_attracted_L22_F (player : Int) (within : (List Bool)) (s_3 : (List (List Int))) (row : (List Int)) (r19 : ((List Int) → (List Int) → (List (List Int)) → (List (List Int)) → (List Bool) → (List Int) → (List Int) → (List Int) → (List Int) → Option Tp1)) : (Int × (List Int) × (List Int) × (List (List Int)) × (List (List Int)) × (List Bool) × (List Int) × (List Int) × (List Int) × (List Int) → Option Tp1) → Int × (List Int) × (List Int) × (List (List Int)) × (List (List Int)) × (List Bool) × (List Int) × (List Int) × (List Int) × (List Int) → Option Tp1 :=
  fun rec x => game_solver_attracted_L22_B player within s_3 row r19 (fun t_3 s_4 s_5 s_6 s_7 in'_2 left_3 row_1 l_4 l_5 => rec (t_3, s_4, s_5, s_6, s_7, in'_2, left_3, row_1, l_4, l_5)) x.1 x.2.1 x.2.2.1 x.2.2.2.1 x.2.2.2.2.1 x.2.2.2.2.2.1 x.2.2.2.2.2.2.1 x.2.2.2.2.2.2.2.1 x.2.2.2.2.2.2.2.2.1 x.2.2.2.2.2.2.2.2.2
noncomputable def game_solver_attracted_L22 (player : Int) (within : (List Bool)) (s_3 : (List (List Int))) (row : (List Int)) (r19 : ((List Int) → (List Int) → (List (List Int)) → (List (List Int)) → (List Bool) → (List Int) → (List Int) → (List Int) → (List Int) → Option Tp1)) (t_3 : Int) (s_4 : (List Int)) (s_5 : (List Int)) (s_6 : (List (List Int))) (s_7 : (List (List Int))) (in'_2 : (List Bool)) (left_3 : (List Int)) (row_1 : (List Int)) (l_4 : (List Int)) (l_5 : (List Int)) : Option Tp1 := LFix (game_solver_attracted_L22_F player within s_3 row r19 ) (t_3, s_4, s_5, s_6, s_7, in'_2, left_3, row_1, l_4, l_5)
noncomputable def game_solver_attracted_L19_B (player : Int) (to : (List Int)) (within : (List Bool)) (r19 : (List Int) → (List Int) → (List (List Int)) → (List (List Int)) → (List Bool) → (List Int) → (List Int) → (List Int) → (List Int) → Option Tp1) (s : (List Int)) (s_1 : (List Int)) (s_2 : (List (List Int))) (s_3 : (List (List Int))) (in'_1 : (List Bool)) (left_2 : (List Int)) (row : (List Int)) (l_2 : (List Int)) (l_3 : (List Int)) : Option Tp1 :=
  if (decide ((0 : Int) < (row.length : Int))) = true then
  G (0 ≤ (0 : Int) ∧ (0 : Int) < (row.length : Int)) (
  G (((0 : Int)).toNat < row.length) (
  G (0 ≤ ix row (0 : Int) ∧ ix row (0 : Int) < (s_3.length : Int)) (
  game_solver_attracted_L22 player within s_3 row r19 (0 : Int) s s_1 s_2 s_3 in'_1 left_2 row l_2 l_3))) else
  some (in'_1, s, s_1, s_2, s_3, l_2, l_3, to, within)
noncomputable def game_solver_attracted_L19_F (player : Int) (to : (List Int)) (within : (List Bool)) : ((List Int) × (List Int) × (List (List Int)) × (List (List Int)) × (List Bool) × (List Int) × (List Int) × (List Int) × (List Int) → Option Tp1) → (List Int) × (List Int) × (List (List Int)) × (List (List Int)) × (List Bool) × (List Int) × (List Int) × (List Int) × (List Int) → Option Tp1 :=
  fun rec x => game_solver_attracted_L19_B player to within (fun s s_1 s_2 s_3 in'_1 left_2 row l_2 l_3 => rec (s, s_1, s_2, s_3, in'_1, left_2, row, l_2, l_3)) x.1 x.2.1 x.2.2.1 x.2.2.2.1 x.2.2.2.2.1 x.2.2.2.2.2.1 x.2.2.2.2.2.2.1 x.2.2.2.2.2.2.2.1 x.2.2.2.2.2.2.2.2
noncomputable def game_solver_attracted_L19 (player : Int) (to : (List Int)) (within : (List Bool)) (s : (List Int)) (s_1 : (List Int)) (s_2 : (List (List Int))) (s_3 : (List (List Int))) (in'_1 : (List Bool)) (left_2 : (List Int)) (row : (List Int)) (l_2 : (List Int)) (l_3 : (List Int)) : Option Tp1 := LFix (game_solver_attracted_L19_F player to within ) (s, s_1, s_2, s_3, in'_1, left_2, row, l_2, l_3)
noncomputable def game_solver_attracted_L14_B (player : Int) (c : (List Int)) (c_1 : (List Int)) (c_2 : (List (List Int))) (c_3 : (List (List Int))) (to : (List Int)) (within : (List Bool)) (l : (List Int)) (l_1 : (List Int)) (left : (List Int)) (r14 : Int → (List Bool) → Option Tp1) (t_2 : Int) (in' : (List Bool)) : Option Tp1 :=
  if (decide (t_2 < (to.length : Int))) = true then
  G (0 ≤ t_2 ∧ t_2 < (to.length : Int)) (
  G ((t_2).toNat < to.length) (
  G (0 ≤ ix to t_2 ∧ ix to t_2 < (in'.length : Int)) (
  G ((ix to t_2).toNat < in'.length) (
  G (fits (t_2 + (1 : Int))) (
  r14 (t_2 + (1 : Int)) (in'.set (ix to t_2).toNat true)))))) else
  (slices_Clone to).bind (fun y' =>
  game_solver_attracted_L19 player to within c c_1 c_2 c_3 in' left y' l l_1)
noncomputable def game_solver_attracted_L14_F (player : Int) (c : (List Int)) (c_1 : (List Int)) (c_2 : (List (List Int))) (c_3 : (List (List Int))) (to : (List Int)) (within : (List Bool)) (l : (List Int)) (l_1 : (List Int)) (left : (List Int)) : (Int × (List Bool) → Option Tp1) → Int × (List Bool) → Option Tp1 :=
  fun rec x => game_solver_attracted_L14_B player c c_1 c_2 c_3 to within l l_1 left (fun t_2 in' => rec (t_2, in')) x.1 x.2
noncomputable def game_solver_attracted_L14 (player : Int) (c : (List Int)) (c_1 : (List Int)) (c_2 : (List (List Int))) (c_3 : (List (List Int))) (to : (List Int)) (within : (List Bool)) (l : (List Int)) (l_1 : (List Int)) (left : (List Int)) (t_2 : Int) (in' : (List Bool)) : Option Tp1 := LFix (game_solver_attracted_L14_F player c c_1 c_2 c_3 to within l l_1 left ) (t_2, in')
noncomputable def game_solver_attracted_L4_B (player : Int) (c : (List Int)) (c_1 : (List Int)) (c_2 : (List (List Int))) (c_3 : (List (List Int))) (to : (List Int)) (within : (List Bool)) (l : (List Int)) (l_1 : (List Int)) (r4 : Int → (List Int) → Option Tp1) (t : Int) (left : (List Int)) : Option Tp1 :=
  if (decide (t < (c_2.length : Int))) = true then
  G (0 ≤ t ∧ t < (c_2.length : Int)) (
  game_solver_attracted_L7 c_2 within t r4 (0 : Int) left) else
  game_solver_attracted_L14 player c c_1 c_2 c_3 to within l l_1 left (0 : Int) (List.replicate ((c.length : Int)).toNat (false : Bool))
noncomputable def game_solver_attracted_L4_F (player : Int) (c : (List Int)) (c_1 : (List Int)) (c_2 : (List (List Int))) (c_3 : (List (List Int))) (to : (List Int)) (within : (List Bool)) (l : (List Int)) (l_1 : (List Int)) : (Int × (List Int) → Option Tp1) → Int × (List Int) → Option Tp1 :=
  fun rec x => game_solver_attracted_L4_B player c c_1 c_2 c_3 to within l l_1 (fun t left => rec (t, left)) x.1 x.2
noncomputable def game_solver_attracted_L4 (player : Int) (c : (List Int)) (c_1 : (List Int)) (c_2 : (List (List Int))) (c_3 : (List (List Int))) (to : (List Int)) (within : (List Bool)) (l : (List Int)) (l_1 : (List Int)) (t : Int) (left : (List Int)) : Option Tp1 := LFix (game_solver_attracted_L4_F player c c_1 c_2 c_3 to within l l_1 ) (t, left)
noncomputable def game_solver_attracted (player : Int) (c : (List Int)) (c_1 : (List Int)) (c_2 : (List (List Int))) (c_3 : (List (List Int))) (to : (List Int)) (within : (List Bool)) (l : (List Int)) (l_1 : (List Int)) : Option Tp1 :=
  G (mkOK (c.length : Int) (c.length : Int) 1) (
  G (mkOK (c.length : Int) (c.length : Int) 8) (
  game_solver_attracted_L4 player c c_1 c_2 c_3 to within l l_1 (0 : Int) (List.replicate ((c.length : Int)).toNat (0 : Int))))
theorem game_solver_attracted_L7_B_ch (r4 : Nat → Int → (List Int) → Option Tp1) (r4' : Int → (List Int) → Option Tp1) (h_r4 : ∀ a0 a1, ChO (fun κ => r4 κ a0 a1) (r4' a0 a1)) (r7 : Nat → Int → (List Int) → Option Tp1) (r7' : Int → (List Int) → Option Tp1) (h_r7 : ∀ a0 a1, ChO (fun κ => r7 κ a0 a1) (r7' a0 a1)) (c_2 : (List (List Int))) (within : (List Bool)) (t : Int) (t_1 : Int) (left_1 : (List Int)) : ChO (fun κ => game_solver_attracted_L7_B c_2 within t (r4 κ) (r7 κ) t_1 left_1) (game_solver_attracted_L7_B c_2 within t r4' r7' t_1 left_1) := by
  unfold game_solver_attracted_L7_B
  repeat' with_reducible first | exact ChO.const _ | exact h_r4 _ _ | exact h_r7 _ _ | apply ChO.ite | apply ChO.G | apply ChO.both | (apply ChO.bind; intro _)
theorem game_solver_attracted_L7_cn (r4 : Int → (List Int) → Option Tp1) (c_2 : (List (List Int))) (within : (List Bool)) (t : Int) : Cn (game_solver_attracted_L7_F c_2 within t r4) := fun g h hg x => game_solver_attracted_L7_B_ch (fun _ => r4) r4 (fun _ _ => ChO.const _) (fun κ t_1 left_1 => g κ (t_1, left_1)) (fun t_1 left_1 => h (t_1, left_1)) (fun t_1 left_1 => hg (t_1, left_1)) c_2 within t x.1 x.2
theorem game_solver_attracted_L7_eq (r4 : Int → (List Int) → Option Tp1) (c_2 : (List (List Int))) (within : (List Bool)) (t : Int) (t_1 : Int) (left_1 : (List Int)) : game_solver_attracted_L7 c_2 within t r4 t_1 left_1 = game_solver_attracted_L7_B c_2 within t r4 (game_solver_attracted_L7 c_2 within t r4) t_1 left_1 := LFix_eq (game_solver_attracted_L7_cn r4 c_2 within t) (t_1, left_1)
theorem game_solver_attracted_L7_ch (r4 : Nat → Int → (List Int) → Option Tp1) (r4' : Int → (List Int) → Option Tp1) (h_r4 : ∀ a0 a1, ChO (fun κ => r4 κ a0 a1) (r4' a0 a1)) (c_2 : (List (List Int))) (within : (List Bool)) (t : Int) (t_1 : Int) (left_1 : (List Int)) : ChO (fun κ => game_solver_attracted_L7 c_2 within t (r4 κ) t_1 left_1) (game_solver_attracted_L7 c_2 within t r4' t_1 left_1) := by
  unfold game_solver_attracted_L7
  exact LFix_ch (fun κ => (game_solver_attracted_L7_cn (r4 κ) c_2 within t).mono) (game_solver_attracted_L7_cn r4' c_2 within t).mono (fun g h hg x => game_solver_attracted_L7_B_ch r4 r4' h_r4 (fun κ t_1 left_1 => g κ (t_1, left_1)) (fun t_1 left_1 => h (t_1, left_1)) (fun t_1 left_1 => hg (t_1, left_1)) c_2 within t x.1 x.2) _
theorem game_solver_attracted_J28_ch (r22 : Nat → Int → (List Int) → (List Int) → (List (List Int)) → (List (List Int)) → (List Bool) → (List Int) → (List Int) → (List Int) → (List Int) → Option Tp1) (r22' : Int → (List Int) → (List Int) → (List (List Int)) → (List (List Int)) → (List Bool) → (List Int) → (List Int) → (List Int) → (List Int) → Option Tp1) (h_r22 : ∀ a0 a1 a2 a3 a4 a5 a6 a7 a8 a9, ChO (fun κ => r22 κ a0 a1 a2 a3 a4 a5 a6 a7 a8 a9) (r22' a0 a1 a2 a3 a4 a5 a6 a7 a8 a9)) (s_3 : (List (List Int))) (row : (List Int)) (t_3 : Int) (in'_2 : (List Bool)) (left_3 : (List Int)) (row_1 : (List Int)) (s_8 : (List Int)) (s_9 : (List Int)) (s_10 : (List (List Int))) (s_11 : (List (List Int))) (l_6 : (List Int)) (l_7 : (List Int)) : ChO (fun κ => game_solver_attracted_J28 s_3 row t_3 in'_2 left_3 row_1 (r22 κ) s_8 s_9 s_10 s_11 l_6 l_7) (game_solver_attracted_J28 s_3 row t_3 in'_2 left_3 row_1 r22' s_8 s_9 s_10 s_11 l_6 l_7) := by
  unfold game_solver_attracted_J28
  repeat' with_reducible first | exact ChO.const _ | exact h_r22 _ _ _ _ _ _ _ _ _ _ | (apply game_solver_attracted_L7_ch <;> assumption) | apply ChO.ite | apply ChO.G | apply ChO.both | (apply ChO.bind; intro _)
theorem game_solver_attracted_L22_B_ch (r19 : Nat → (List Int) → (List Int) → (List (List Int)) → (List (List Int)) → (List Bool) → (List Int) → (List Int) → (List Int) → (List Int) → Option Tp1) (r19' : (List Int) → (List Int) → (List (List Int)) → (List (List Int)) → (List Bool) → (List Int) → (List Int) → (List Int) → (List Int) → Option Tp1) (h_r19 : ∀ a0 a1 a2 a3 a4 a5 a6 a7 a8, ChO (fun κ => r19 κ a0 a1 a2 a3 a4 a5 a6 a7 a8) (r19' a0 a1 a2 a3 a4 a5 a6 a7 a8)) (r22 : Nat → Int → (List Int) → (List Int) → (List (List Int)) → (List (List Int)) → (List Bool) → (List Int) → (List Int) → (List Int) → (List Int) → Option Tp1) (r22' : Int → (List Int) → (List Int) → (List (List Int)) → (List (List Int)) → (List Bool) → (List Int) → (List Int) → (List Int) → (List Int) → Option Tp1) (h_r22 : ∀ a0 a1 a2 a3 a4 a5 a6 a7 a8 a9, ChO (fun κ => r22 κ a0 a1 a2 a3 a4 a5 a6 a7 a8 a9) (r22' a0 a1 a2 a3 a4 a5 a6 a7 a8 a9)) (player : Int) (within : (List Bool)) (s_3 : (List (List Int))) (row : (List Int)) (t_3 : Int) (s_4 : (List Int)) (s_5 : (List Int)) (s_6 : (List (List Int))) (s_7 : (List (List Int))) (in'_2 : (List Bool)) (left_3 : (List Int)) (row_1 : (List Int)) (l_4 : (List Int)) (l_5 : (List Int)) : ChO (fun κ => game_solver_attracted_L22_B player within s_3 row (r19 κ) (r22 κ) t_3 s_4 s_5 s_6 s_7 in'_2 left_3 row_1 l_4 l_5) (game_solver_attracted_L22_B player within s_3 row r19' r22' t_3 s_4 s_5 s_6 s_7 in'_2 left_3 row_1 l_4 l_5) := by
  unfold game_solver_attracted_L22_B
  repeat' with_reducible first | exact ChO.const _ | exact h_r19 _ _ _ _ _ _ _ _ _ | exact h_r22 _ _ _ _ _ _ _ _ _ _ | (apply game_solver_attracted_L7_ch <;> assumption) | (apply game_solver_attracted_J28_ch <;> assumption) | apply ChO.ite | apply ChO.G | apply ChO.both | (apply ChO.bind; intro _)
theorem game_solver_attracted_L22_cn (r19 : (List Int) → (List Int) → (List (List Int)) → (List (List Int)) → (List Bool) → (List Int) → (List Int) → (List Int) → (List Int) → Option Tp1) (player : Int) (within : (List Bool)) (s_3 : (List (List Int))) (row : (List Int)) : Cn (game_solver_attracted_L22_F player within s_3 row r19) := fun g h hg x => game_solver_attracted_L22_B_ch (fun _ => r19) r19 (fun _ _ _ _ _ _ _ _ _ => ChO.const _) (fun κ t_3 s_4 s_5 s_6 s_7 in'_2 left_3 row_1 l_4 l_5 => g κ (t_3, s_4, s_5, s_6, s_7, in'_2, left_3, row_1, l_4, l_5)) (fun t_3 s_4 s_5 s_6 s_7 in'_2 left_3 row_1 l_4 l_5 => h (t_3, s_4, s_5, s_6, s_7, in'_2, left_3, row_1, l_4, l_5)) (fun t_3 s_4 s_5 s_6 s_7 in'_2 left_3 row_1 l_4 l_5 => hg (t_3, s_4, s_5, s_6, s_7, in'_2, left_3, row_1, l_4, l_5)) player within s_3 row x.1 x.2.1 x.2.2.1 x.2.2.2.1 x.2.2.2.2.1 x.2.2.2.2.2.1 x.2.2.2.2.2.2.1 x.2.2.2.2.2.2.2.1 x.2.2.2.2.2.2.2.2.1 x.2.2.2.2.2.2.2.2.2
theorem game_solver_attracted_L22_eq (r19 : (List Int) → (List Int) → (List (List Int)) → (List (List Int)) → (List Bool) → (List Int) → (List Int) → (List Int) → (List Int) → Option Tp1) (player : Int) (within : (List Bool)) (s_3 : (List (List Int))) (row : (List Int)) (t_3 : Int) (s_4 : (List Int)) (s_5 : (List Int)) (s_6 : (List (List Int))) (s_7 : (List (List Int))) (in'_2 : (List Bool)) (left_3 : (List Int)) (row_1 : (List Int)) (l_4 : (List Int)) (l_5 : (List Int)) : game_solver_attracted_L22 player within s_3 row r19 t_3 s_4 s_5 s_6 s_7 in'_2 left_3 row_1 l_4 l_5 = game_solver_attracted_L22_B player within s_3 row r19 (game_solver_attracted_L22 player within s_3 row r19) t_3 s_4 s_5 s_6 s_7 in'_2 left_3 row_1 l_4 l_5 := LFix_eq (game_solver_attracted_L22_cn r19 player within s_3 row) (t_3, s_4, s_5, s_6, s_7, in'_2, left_3, row_1, l_4, l_5)
theorem game_solver_attracted_L22_ch (r19 : Nat → (List Int) → (List Int) → (List (List Int)) → (List (List Int)) → (List Bool) → (List Int) → (List Int) → (List Int) → (List Int) → Option Tp1) (r19' : (List Int) → (List Int) → (List (List Int)) → (List (List Int)) → (List Bool) → (List Int) → (List Int) → (List Int) → (List Int) → Option Tp1) (h_r19 : ∀ a0 a1 a2 a3 a4 a5 a6 a7 a8, ChO (fun κ => r19 κ a0 a1 a2 a3 a4 a5 a6 a7 a8) (r19' a0 a1 a2 a3 a4 a5 a6 a7 a8)) (player : Int) (within : (List Bool)) (s_3 : (List (List Int))) (row : (List Int)) (t_3 : Int) (s_4 : (List Int)) (s_5 : (List Int)) (s_6 : (List (List Int))) (s_7 : (List (List Int))) (in'_2 : (List Bool)) (left_3 : (List Int)) (row_1 : (List Int)) (l_4 : (List Int)) (l_5 : (List Int)) : ChO (fun κ => game_solver_attracted_L22 player within s_3 row (r19 κ) t_3 s_4 s_5 s_6 s_7 in'_2 left_3 row_1 l_4 l_5) (game_solver_attracted_L22 player within s_3 row r19' t_3 s_4 s_5 s_6 s_7 in'_2 left_3 row_1 l_4 l_5) := by
  unfold game_solver_attracted_L22
  exact LFix_ch (fun κ => (game_solver_attracted_L22_cn (r19 κ) player within s_3 row).mono) (game_solver_attracted_L22_cn r19' player within s_3 row).mono (fun g h hg x => game_solver_attracted_L22_B_ch r19 r19' h_r19 (fun κ t_3 s_4 s_5 s_6 s_7 in'_2 left_3 row_1 l_4 l_5 => g κ (t_3, s_4, s_5, s_6, s_7, in'_2, left_3, row_1, l_4, l_5)) (fun t_3 s_4 s_5 s_6 s_7 in'_2 left_3 row_1 l_4 l_5 => h (t_3, s_4, s_5, s_6, s_7, in'_2, left_3, row_1, l_4, l_5)) (fun t_3 s_4 s_5 s_6 s_7 in'_2 left_3 row_1 l_4 l_5 => hg (t_3, s_4, s_5, s_6, s_7, in'_2, left_3, row_1, l_4, l_5)) player within s_3 row x.1 x.2.1 x.2.2.1 x.2.2.2.1 x.2.2.2.2.1 x.2.2.2.2.2.1 x.2.2.2.2.2.2.1 x.2.2.2.2.2.2.2.1 x.2.2.2.2.2.2.2.2.1 x.2.2.2.2.2.2.2.2.2) _
theorem game_solver_attracted_L19_B_ch (r19 : Nat → (List Int) → (List Int) → (List (List Int)) → (List (List Int)) → (List Bool) → (List Int) → (List Int) → (List Int) → (List Int) → Option Tp1) (r19' : (List Int) → (List Int) → (List (List Int)) → (List (List Int)) → (List Bool) → (List Int) → (List Int) → (List Int) → (List Int) → Option Tp1) (h_r19 : ∀ a0 a1 a2 a3 a4 a5 a6 a7 a8, ChO (fun κ => r19 κ a0 a1 a2 a3 a4 a5 a6 a7 a8) (r19' a0 a1 a2 a3 a4 a5 a6 a7 a8)) (player : Int) (to : (List Int)) (within : (List Bool)) (s : (List Int)) (s_1 : (List Int)) (s_2 : (List (List Int))) (s_3 : (List (List Int))) (in'_1 : (List Bool)) (left_2 : (List Int)) (row : (List Int)) (l_2 : (List Int)) (l_3 : (List Int)) : ChO (fun κ => game_solver_attracted_L19_B player to within (r19 κ) s s_1 s_2 s_3 in'_1 left_2 row l_2 l_3) (game_solver_attracted_L19_B player to within r19' s s_1 s_2 s_3 in'_1 left_2 row l_2 l_3) := by
  unfold game_solver_attracted_L19_B
  repeat' with_reducible first | exact ChO.const _ | exact h_r19 _ _ _ _ _ _ _ _ _ | (apply game_solver_attracted_L7_ch <;> assumption) | (apply game_solver_attracted_J28_ch <;> assumption) | (apply game_solver_attracted_L22_ch <;> assumption) | apply ChO.ite | apply ChO.G | apply ChO.both | (apply ChO.bind; intro _)
theorem game_solver_attracted_L19_cn  (player : Int) (to : (List Int)) (within : (List Bool)) : Cn (game_solver_attracted_L19_F player to within) := fun g h hg x => game_solver_attracted_L19_B_ch  (fun κ s s_1 s_2 s_3 in'_1 left_2 row l_2 l_3 => g κ (s, s_1, s_2, s_3, in'_1, left_2, row, l_2, l_3)) (fun s s_1 s_2 s_3 in'_1 left_2 row l_2 l_3 => h (s, s_1, s_2, s_3, in'_1, left_2, row, l_2, l_3)) (fun s s_1 s_2 s_3 in'_1 left_2 row l_2 l_3 => hg (s, s_1, s_2, s_3, in'_1, left_2, row, l_2, l_3)) player to within x.1 x.2.1 x.2.2.1 x.2.2.2.1 x.2.2.2.2.1 x.2.2.2.2.2.1 x.2.2.2.2.2.2.1 x.2.2.2.2.2.2.2.1 x.2.2.2.2.2.2.2.2
theorem game_solver_attracted_L19_eq  (player : Int) (to : (List Int)) (within : (List Bool)) (s : (List Int)) (s_1 : (List Int)) (s_2 : (List (List Int))) (s_3 : (List (List Int))) (in'_1 : (List Bool)) (left_2 : (List Int)) (row : (List Int)) (l_2 : (List Int)) (l_3 : (List Int)) : game_solver_attracted_L19 player to within s s_1 s_2 s_3 in'_1 left_2 row l_2 l_3 = game_solver_attracted_L19_B player to within (game_solver_attracted_L19 player to within) s s_1 s_2 s_3 in'_1 left_2 row l_2 l_3 := LFix_eq (game_solver_attracted_L19_cn player to within) (s, s_1, s_2, s_3, in'_1, left_2, row, l_2, l_3)
theorem game_solver_attracted_L14_B_ch (r14 : Nat → Int → (List Bool) → Option Tp1) (r14' : Int → (List Bool) → Option Tp1) (h_r14 : ∀ a0 a1, ChO (fun κ => r14 κ a0 a1) (r14' a0 a1)) (player : Int) (c : (List Int)) (c_1 : (List Int)) (c_2 : (List (List Int))) (c_3 : (List (List Int))) (to : (List Int)) (within : (List Bool)) (l : (List Int)) (l_1 : (List Int)) (left : (List Int)) (t_2 : Int) (in' : (List Bool)) : ChO (fun κ => game_solver_attracted_L14_B player c c_1 c_2 c_3 to within l l_1 left (r14 κ) t_2 in') (game_solver_attracted_L14_B player c c_1 c_2 c_3 to within l l_1 left r14' t_2 in') := by
  unfold game_solver_attracted_L14_B
  repeat' with_reducible first | exact ChO.const _ | exact h_r14 _ _ | (apply game_solver_attracted_L7_ch <;> assumption) | (apply game_solver_attracted_J28_ch <;> assumption) | (apply game_solver_attracted_L22_ch <;> assumption) | apply ChO.ite | apply ChO.G | apply ChO.both | (apply ChO.bind; intro _)
theorem game_solver_attracted_L14_cn  (player : Int) (c : (List Int)) (c_1 : (List Int)) (c_2 : (List (List Int))) (c_3 : (List (List Int))) (to : (List Int)) (within : (List Bool)) (l : (List Int)) (l_1 : (List Int)) (left : (List Int)) : Cn (game_solver_attracted_L14_F player c c_1 c_2 c_3 to within l l_1 left) := fun g h hg x => game_solver_attracted_L14_B_ch  (fun κ t_2 in' => g κ (t_2, in')) (fun t_2 in' => h (t_2, in')) (fun t_2 in' => hg (t_2, in')) player c c_1 c_2 c_3 to within l l_1 left x.1 x.2
theorem game_solver_attracted_L14_eq  (player : Int) (c : (List Int)) (c_1 : (List Int)) (c_2 : (List (List Int))) (c_3 : (List (List Int))) (to : (List Int)) (within : (List Bool)) (l : (List Int)) (l_1 : (List Int)) (left : (List Int)) (t_2 : Int) (in' : (List Bool)) : game_solver_attracted_L14 player c c_1 c_2 c_3 to within l l_1 left t_2 in' = game_solver_attracted_L14_B player c c_1 c_2 c_3 to within l l_1 left (game_solver_attracted_L14 player c c_1 c_2 c_3 to within l l_1 left) t_2 in' := LFix_eq (game_solver_attracted_L14_cn player c c_1 c_2 c_3 to within l l_1 left) (t_2, in')
theorem game_solver_attracted_L4_B_ch (r4 : Nat → Int → (List Int) → Option Tp1) (r4' : Int → (List Int) → Option Tp1) (h_r4 : ∀ a0 a1, ChO (fun κ => r4 κ a0 a1) (r4' a0 a1)) (player : Int) (c : (List Int)) (c_1 : (List Int)) (c_2 : (List (List Int))) (c_3 : (List (List Int))) (to : (List Int)) (within : (List Bool)) (l : (List Int)) (l_1 : (List Int)) (t : Int) (left : (List Int)) : ChO (fun κ => game_solver_attracted_L4_B player c c_1 c_2 c_3 to within l l_1 (r4 κ) t left) (game_solver_attracted_L4_B player c c_1 c_2 c_3 to within l l_1 r4' t left) := by
  unfold game_solver_attracted_L4_B
  repeat' with_reducible first | exact ChO.const _ | exact h_r4 _ _ | (apply game_solver_attracted_L7_ch <;> assumption) | (apply game_solver_attracted_J28_ch <;> assumption) | (apply game_solver_attracted_L22_ch <;> assumption) | apply ChO.ite | apply ChO.G | apply ChO.both | (apply ChO.bind; intro _)
theorem game_solver_attracted_L4_cn  (player : Int) (c : (List Int)) (c_1 : (List Int)) (c_2 : (List (List Int))) (c_3 : (List (List Int))) (to : (List Int)) (within : (List Bool)) (l : (List Int)) (l_1 : (List Int)) : Cn (game_solver_attracted_L4_F player c c_1 c_2 c_3 to within l l_1) := fun g h hg x => game_solver_attracted_L4_B_ch  (fun κ t left => g κ (t, left)) (fun t left => h (t, left)) (fun t left => hg (t, left)) player c c_1 c_2 c_3 to within l l_1 x.1 x.2
theorem game_solver_attracted_L4_eq  (player : Int) (c : (List Int)) (c_1 : (List Int)) (c_2 : (List (List Int))) (c_3 : (List (List Int))) (to : (List Int)) (within : (List Bool)) (l : (List Int)) (l_1 : (List Int)) (t : Int) (left : (List Int)) : game_solver_attracted_L4 player c c_1 c_2 c_3 to within l l_1 t left = game_solver_attracted_L4_B player c c_1 c_2 c_3 to within l l_1 (game_solver_attracted_L4 player c c_1 c_2 c_3 to within l l_1) t left := LFix_eq (game_solver_attracted_L4_cn player c c_1 c_2 c_3 to within l l_1) (t, left)

noncomputable def slices_Clone_1 (s : (List Bool)) : Option (List Bool) :=
  if s.length = 0 then both [(.list .bool)] (
  some ([])) (
  G (room ([] : List Bool) s 1) (
  some (([] : List Bool) ++ s))) else
  G (room ([] : List Bool) s 1) (
  some (([] : List Bool) ++ s))

noncomputable def game_without_L3_B (a : (List Bool)) (b : (List Bool)) (r3 : Int → (List Bool) → Option (List Bool)) (t : Int) (out : (List Bool)) : Option (List Bool) :=
  if (decide (t < (b.length : Int))) = true then
  G (0 ≤ t ∧ t < (a.length : Int)) (
  if (ix a t) = true then
  G (0 ≤ t ∧ t < (b.length : Int)) (
  G (0 ≤ t ∧ t < (out.length : Int)) (
  G ((t).toNat < out.length) (
  G (fits (t + (1 : Int))) (
  r3 (t + (1 : Int)) (out.set (t).toNat (!(ix b t))))))) else
  G (0 ≤ t ∧ t < (out.length : Int)) (
  G ((t).toNat < out.length) (
  G (fits (t + (1 : Int))) (
  r3 (t + (1 : Int)) (out.set (t).toNat false))))) else
  some out
noncomputable def game_without_L3_F (a : (List Bool)) (b : (List Bool)) : (Int × (List Bool) → Option (List Bool)) → Int × (List Bool) → Option (List Bool) :=
  fun rec x => game_without_L3_B a b (fun t out => rec (t, out)) x.1 x.2
noncomputable def game_without_L3 (a : (List Bool)) (b : (List Bool)) (t : Int) (out : (List Bool)) : Option (List Bool) := LFix (game_without_L3_F a b ) (t, out)
noncomputable def game_without (a : (List Bool)) (b : (List Bool)) : Option (List Bool) :=
  (slices_Clone_1 a).bind (fun y' =>
  game_without_L3 a b (0 : Int) y')
theorem game_without_L3_B_ch (r3 : Nat → Int → (List Bool) → Option (List Bool)) (r3' : Int → (List Bool) → Option (List Bool)) (h_r3 : ∀ a0 a1, ChO (fun κ => r3 κ a0 a1) (r3' a0 a1)) (a : (List Bool)) (b : (List Bool)) (t : Int) (out : (List Bool)) : ChO (fun κ => game_without_L3_B a b (r3 κ) t out) (game_without_L3_B a b r3' t out) := by
  unfold game_without_L3_B
  repeat' with_reducible first | exact ChO.const _ | exact h_r3 _ _ | apply ChO.ite | apply ChO.G | apply ChO.both | (apply ChO.bind; intro _)
theorem game_without_L3_cn  (a : (List Bool)) (b : (List Bool)) : Cn (game_without_L3_F a b) := fun g h hg x => game_without_L3_B_ch  (fun κ t out => g κ (t, out)) (fun t out => h (t, out)) (fun t out => hg (t, out)) a b x.1 x.2
theorem game_without_L3_eq  (a : (List Bool)) (b : (List Bool)) (t : Int) (out : (List Bool)) : game_without_L3 a b t out = game_without_L3_B a b (game_without_L3 a b) t out := LFix_eq (game_without_L3_cn a b) (t, out)

noncomputable def game_solver_solve_1 (q : Int) (t : (List Bool)) : Option (Bool) :=
  G (0 ≤ q ∧ q < (t.length : Int)) (
  some (ix t q))

noncomputable def slices_IndexFunc_L2_B (s : (List Int)) (c : (List Bool)) (r2 : Int → Option (Int)) (t : Int) : Option (Int) :=
  if (decide (t < (s.length : Int))) = true then
  G (0 ≤ t ∧ t < (s.length : Int)) (
  (game_solver_solve_1 (ix s t) c).bind (fun y' =>
  if y' = true then
  some t else
  G (fits (t + (1 : Int))) (
  r2 (t + (1 : Int))))) else
  some (-1 : Int)
noncomputable def slices_IndexFunc_L2_F (s : (List Int)) (c : (List Bool)) : (Int → Option (Int)) → Int → Option (Int) :=
  fun rec x => slices_IndexFunc_L2_B s c (fun t => rec t) x
noncomputable def slices_IndexFunc_L2 (s : (List Int)) (c : (List Bool)) (t : Int) : Option (Int) := LFix (slices_IndexFunc_L2_F s c ) t
noncomputable def slices_IndexFunc (s : (List Int)) (c : (List Bool)) : Option (Int) :=
  slices_IndexFunc_L2 s c (0 : Int)
theorem slices_IndexFunc_L2_B_ch (r2 : Nat → Int → Option (Int)) (r2' : Int → Option (Int)) (h_r2 : ∀ a0, ChO (fun κ => r2 κ a0) (r2' a0)) (s : (List Int)) (c : (List Bool)) (t : Int) : ChO (fun κ => slices_IndexFunc_L2_B s c (r2 κ) t) (slices_IndexFunc_L2_B s c r2' t) := by
  unfold slices_IndexFunc_L2_B
  repeat' with_reducible first | exact ChO.const _ | exact h_r2 _ | apply ChO.ite | apply ChO.G | apply ChO.both | (apply ChO.bind; intro _)
theorem slices_IndexFunc_L2_cn  (s : (List Int)) (c : (List Bool)) : Cn (slices_IndexFunc_L2_F s c) := fun g h hg x => slices_IndexFunc_L2_B_ch  (fun κ t => g κ t) (fun t => h t) (fun t => hg t) s c x
theorem slices_IndexFunc_L2_eq  (s : (List Int)) (c : (List Bool)) (t : Int) : slices_IndexFunc_L2 s c t = slices_IndexFunc_L2_B s c (slices_IndexFunc_L2 s c) t := LFix_eq (slices_IndexFunc_L2_cn s c) t

noncomputable def game_solver_solve_J14 (t_1 : Int) (best : (List Int)) (r12 : (Int → (List Int) → Option Tp2)) (t_2 : Bool) : Option Tp2 :=
  if t_2 = true then
  G (room best ([t_1]) 8) (
  G (fits (t_1 + (1 : Int))) (
  r12 (t_1 + (1 : Int)) (best ++ ([t_1])))) else
  G (fits (t_1 + (1 : Int))) (
  r12 (t_1 + (1 : Int)) best)
noncomputable def game_solver_solve_J24 (t_3 : Int) (lost : (List Int)) (r22 : (Int → (List Int) → Option Tp2)) (t_4 : Bool) : Option Tp2 :=
  if t_4 = true then
  G (room lost ([t_3]) 8) (
  G (fits (t_3 + (1 : Int))) (
  r22 (t_3 + (1 : Int)) (lost ++ ([t_3])))) else
  G (fits (t_3 + (1 : Int))) (
  r22 (t_3 + (1 : Int)) lost)
noncomputable def game_solver_solve_L35_B (least : Int) (y'_7 : (List Int)) (y'_8 : (List Bool)) (r35 : Int → (List Int) → (List Int) → (List (List Int)) → (List (List Int)) → (List Int) → (List Int) → Option Tp2) (t_6 : Int) (s_4 : (List Int)) (s_5 : (List Int)) (s_6 : (List (List Int))) (s_7 : (List (List Int))) (l_4 : (List Int)) (l_5 : (List Int)) : Option Tp2 :=
  if (decide (t_6 < (y'_7.length : Int))) = true then
  G (0 ≤ t_6 ∧ t_6 < (y'_7.length : Int)) (
  G ((t_6).toNat < y'_7.length) (
  G (0 ≤ ix y'_7 t_6 ∧ ix y'_7 t_6 < (s_4.length : Int)) (
  if (decide ((ix s_4 (ix y'_7 t_6)) = (Int.tmod least (2 : Int)))) = true then
  G (0 ≤ ix y'_7 t_6 ∧ ix y'_7 t_6 < (s_6.length : Int)) (
  G (0 ≤ ix y'_7 t_6 ∧ ix y'_7 t_6 < (s_6.length : Int)) (
  (slices_IndexFunc (ix s_6 (ix y'_7 t_6)) y'_8).bind (fun y'_19 =>
  G (0 ≤ y'_19 ∧ y'_19 < ((ix s_6 (ix y'_7 t_6)).length : Int)) (
  G (0 ≤ ix y'_7 t_6 ∧ ix y'_7 t_6 < (l_5.length : Int)) (
  G ((ix y'_7 t_6).toNat < l_5.length) (
  G (fits (t_6 + (1 : Int))) (
  r35 (t_6 + (1 : Int)) s_4 s_5 s_6 s_7 l_4 (l_5.set (ix y'_7 t_6).toNat (ix (ix s_6 (ix y'_7 t_6)) y'_19))))))))) else
  G (fits (t_6 + (1 : Int))) (
  r35 (t_6 + (1 : Int)) s_4 s_5 s_6 s_7 l_4 l_5)))) else
  some (s_4, s_5, s_6, s_7, l_4, l_5, y'_8)
noncomputable def game_solver_solve_L35_F (least : Int) (y'_7 : (List Int)) (y'_8 : (List Bool)) : (Int × (List Int) × (List Int) × (List (List Int)) × (List (List Int)) × (List Int) × (List Int) → Option Tp2) → Int × (List Int) × (List Int) × (List (List Int)) × (List (List Int)) × (List Int) × (List Int) → Option Tp2 :=
  fun rec x => game_solver_solve_L35_B least y'_7 y'_8 (fun t_6 s_4 s_5 s_6 s_7 l_4 l_5 => rec (t_6, s_4, s_5, s_6, s_7, l_4, l_5)) x.1 x.2.1 x.2.2.1 x.2.2.2.1 x.2.2.2.2.1 x.2.2.2.2.2.1 x.2.2.2.2.2.2
noncomputable def game_solver_solve_L35 (least : Int) (y'_7 : (List Int)) (y'_8 : (List Bool)) (t_6 : Int) (s_4 : (List Int)) (s_5 : (List Int)) (s_6 : (List (List Int))) (s_7 : (List (List Int))) (l_4 : (List Int)) (l_5 : (List Int)) : Option Tp2 := LFix (game_solver_solve_L35_F least y'_7 y'_8 ) (t_6, s_4, s_5, s_6, s_7, l_4, l_5)
noncomputable def game_solver_solve_L29_B (least : Int) (y'_7 : (List Int)) (y'_8 : (List Bool)) (r29 : Int → (List Int) → (List Int) → (List (List Int)) → (List (List Int)) → (List Int) → (List Int) → Option Tp2) (t_5 : Int) (s : (List Int)) (s_1 : (List Int)) (s_2 : (List (List Int))) (s_3 : (List (List Int))) (l_2 : (List Int)) (l_3 : (List Int)) : Option Tp2 :=
  if (decide (t_5 < (y'_8.length : Int))) = true then
  G (0 ≤ t_5 ∧ t_5 < (y'_8.length : Int)) (
  G ((t_5).toNat < y'_8.length) (
  if (ix y'_8 t_5) = true then
  G (0 ≤ t_5 ∧ t_5 < (l_2.length : Int)) (
  G ((t_5).toNat < l_2.length) (
  G (fits (t_5 + (1 : Int))) (
  r29 (t_5 + (1 : Int)) s s_1 s_2 s_3 (l_2.set (t_5).toNat (Int.tmod least (2 : Int))) l_3))) else
  G (fits (t_5 + (1 : Int))) (
  r29 (t_5 + (1 : Int)) s s_1 s_2 s_3 l_2 l_3))) else
  game_solver_solve_L35 least y'_7 y'_8 (0 : Int) s s_1 s_2 s_3 l_2 l_3
noncomputable def game_solver_solve_L29_F (least : Int) (y'_7 : (List Int)) (y'_8 : (List Bool)) : (Int × (List Int) × (List Int) × (List (List Int)) × (List (List Int)) × (List Int) × (List Int) → Option Tp2) → Int × (List Int) × (List Int) × (List (List Int)) × (List (List Int)) × (List Int) × (List Int) → Option Tp2 :=
  fun rec x => game_solver_solve_L29_B least y'_7 y'_8 (fun t_5 s s_1 s_2 s_3 l_2 l_3 => rec (t_5, s, s_1, s_2, s_3, l_2, l_3)) x.1 x.2.1 x.2.2.1 x.2.2.2.1 x.2.2.2.2.1 x.2.2.2.2.2.1 x.2.2.2.2.2.2
noncomputable def game_solver_solve_L29 (least : Int) (y'_7 : (List Int)) (y'_8 : (List Bool)) (t_5 : Int) (s : (List Int)) (s_1 : (List Int)) (s_2 : (List (List Int))) (s_3 : (List (List Int))) (l_2 : (List Int)) (l_3 : (List Int)) : Option Tp2 := LFix (game_solver_solve_L29_F least y'_7 y'_8 ) (t_5, s, s_1, s_2, s_3, l_2, l_3)
noncomputable def game_solver_solve_L42_B (rc_game_solver_solve : (List Int) → (List Int) → (List (List Int)) → (List (List Int)) → (List Bool) → (List Int) → (List Int) → Option Tp2) (least : Int) (y'_20 : (List Bool)) (y'_28 : (List Bool)) (r42 : Int → (List Int) → (List Int) → (List (List Int)) → (List (List Int)) → (List Int) → (List Int) → Option Tp2) (t_7 : Int) (s_8 : (List Int)) (s_9 : (List Int)) (s_10 : (List (List Int))) (s_11 : (List (List Int))) (l_6 : (List Int)) (l_7 : (List Int)) : Option Tp2 :=
  if (decide (t_7 < (y'_20.length : Int))) = true then
  G (0 ≤ t_7 ∧ t_7 < (y'_20.length : Int)) (
  G ((t_7).toNat < y'_20.length) (
  if (ix y'_20 t_7) = true then
  G (fits ((1 : Int) - (Int.tmod least (2 : Int)))) (
  G (0 ≤ t_7 ∧ t_7 < (l_6.length : Int)) (
  G ((t_7).toNat < l_6.length) (
  G (fits (t_7 + (1 : Int))) (
  r42 (t_7 + (1 : Int)) s_8 s_9 s_10 s_11 (l_6.set (t_7).toNat ((1 : Int) - (Int.tmod least (2 : Int)))) l_7)))) else
  G (fits (t_7 + (1 : Int))) (
  r42 (t_7 + (1 : Int)) s_8 s_9 s_10 s_11 l_6 l_7))) else
  (game_without y'_28 y'_20).bind (fun y'_30 =>
  (rc_game_solver_solve s_8 s_9 s_10 s_11 y'_30 l_6 l_7).bind (fun y'_39 =>
  some (y'_39.1, y'_39.2.1, y'_39.2.2.1, y'_39.2.2.2.1, y'_39.2.2.2.2.1, y'_39.2.2.2.2.2.1, y'_28)))
noncomputable def game_solver_solve_L42_F (rc_game_solver_solve : (List Int) → (List Int) → (List (List Int)) → (List (List Int)) → (List Bool) → (List Int) → (List Int) → Option Tp2) (least : Int) (y'_20 : (List Bool)) (y'_28 : (List Bool)) : (Int × (List Int) × (List Int) × (List (List Int)) × (List (List Int)) × (List Int) × (List Int) → Option Tp2) → Int × (List Int) × (List Int) × (List (List Int)) × (List (List Int)) × (List Int) × (List Int) → Option Tp2 :=
  fun rec x => game_solver_solve_L42_B rc_game_solver_solve least y'_20 y'_28 (fun t_7 s_8 s_9 s_10 s_11 l_6 l_7 => rec (t_7, s_8, s_9, s_10, s_11, l_6, l_7)) x.1 x.2.1 x.2.2.1 x.2.2.2.1 x.2.2.2.2.1 x.2.2.2.2.2.1 x.2.2.2.2.2.2
noncomputable def game_solver_solve_L42 (rc_game_solver_solve : (List Int) → (List Int) → (List (List Int)) → (List (List Int)) → (List Bool) → (List Int) → (List Int) → Option Tp2) (least : Int) (y'_20 : (List Bool)) (y'_28 : (List Bool)) (t_7 : Int) (s_8 : (List Int)) (s_9 : (List Int)) (s_10 : (List (List Int))) (s_11 : (List (List Int))) (l_6 : (List Int)) (l_7 : (List Int)) : Option Tp2 := LFix (game_solver_solve_L42_F rc_game_solver_solve least y'_20 y'_28 ) (t_7, s_8, s_9, s_10, s_11, l_6, l_7)
noncomputable def game_solver_solve_L22_B (rc_game_solver_solve : (List Int) → (List Int) → (List (List Int)) → (List (List Int)) → (List Bool) → (List Int) → (List Int) → Option Tp2) (least : Int) (y'_7 : (List Int)) (y'_8 : (List Bool)) (y'_11 : (List Int)) (y'_12 : (List Int)) (y'_13 : (List (List Int))) (y'_14 : (List (List Int))) (y'_15 : (List Int)) (y'_16 : (List Int)) (y'_17 : (List Bool)) (r22 : Int → (List Int) → Option Tp2) (t_3 : Int) (lost : (List Int)) : Option Tp2 :=
  if (decide (t_3 < (y'_17.length : Int))) = true then
  G (0 ≤ t_3 ∧ t_3 < (y'_17.length : Int)) (
  G ((t_3).toNat < y'_17.length) (
  if (ix y'_17 t_3) = true then
  G (0 ≤ t_3 ∧ t_3 < (y'_15.length : Int)) (
  G ((t_3).toNat < y'_15.length) (
  game_solver_solve_J24 t_3 lost r22 (decide (¬ (ix y'_15 t_3) = (Int.tmod least (2 : Int)))))) else
  game_solver_solve_J24 t_3 lost r22 false)) else
  if (decide ((lost.length : Int) = (0 : Int))) = true then
  game_solver_solve_L29 least y'_7 y'_8 (0 : Int) y'_11 y'_12 y'_13 y'_14 y'_15 y'_16 else
  G (fits ((1 : Int) - (Int.tmod least (2 : Int)))) (
  (game_solver_attracted ((1 : Int) - (Int.tmod least (2 : Int))) y'_11 y'_12 y'_13 y'_14 lost y'_8 y'_15 y'_16).bind (fun y'_40 =>
  game_solver_solve_L42 rc_game_solver_solve least y'_40.1 y'_40.2.2.2.2.2.2.2.2 (0 : Int) y'_40.2.1 y'_40.2.2.1 y'_40.2.2.2.1 y'_40.2.2.2.2.1 y'_40.2.2.2.2.2.1 y'_40.2.2.2.2.2.2.1))
noncomputable def game_solver_solve_L22_F (rc_game_solver_solve : (List Int) → (List Int) → (List (List Int)) → (List (List Int)) → (List Bool) → (List Int) → (List Int) → Option Tp2) (least : Int) (y'_7 : (List Int)) (y'_8 : (List Bool)) (y'_11 : (List Int)) (y'_12 : (List Int)) (y'_13 : (List (List Int))) (y'_14 : (List (List Int))) (y'_15 : (List Int)) (y'_16 : (List Int)) (y'_17 : (List Bool)) : (Int × (List Int) → Option Tp2) → Int × (List Int) → Option Tp2 :=
  fun rec x => game_solver_solve_L22_B rc_game_solver_solve least y'_7 y'_8 y'_11 y'_12 y'_13 y'_14 y'_15 y'_16 y'_17 (fun t_3 lost => rec (t_3, lost)) x.1 x.2
noncomputable def game_solver_solve_L22 (rc_game_solver_solve : (List Int) → (List Int) → (List (List Int)) → (List (List Int)) → (List Bool) → (List Int) → (List Int) → Option Tp2) (least : Int) (y'_7 : (List Int)) (y'_8 : (List Bool)) (y'_11 : (List Int)) (y'_12 : (List Int)) (y'_13 : (List (List Int))) (y'_14 : (List (List Int))) (y'_15 : (List Int)) (y'_16 : (List Int)) (y'_17 : (List Bool)) (t_3 : Int) (lost : (List Int)) : Option Tp2 := LFix (game_solver_solve_L22_F rc_game_solver_solve least y'_7 y'_8 y'_11 y'_12 y'_13 y'_14 y'_15 y'_16 y'_17 ) (t_3, lost)
noncomputable def game_solver_solve_L12_B (rc_game_solver_solve : (List Int) → (List Int) → (List (List Int)) → (List (List Int)) → (List Bool) → (List Int) → (List Int) → Option Tp2) (c : (List Int)) (c_1 : (List Int)) (c_2 : (List (List Int))) (c_3 : (List (List Int))) (within : (List Bool)) (l : (List Int)) (l_1 : (List Int)) (least : Int) (r12 : Int → (List Int) → Option Tp2) (t_1 : Int) (best : (List Int)) : Option Tp2 :=
  if (decide (t_1 < (within.length : Int))) = true then
  G (0 ≤ t_1 ∧ t_1 < (within.length : Int)) (
  G ((t_1).toNat < within.length) (
  if (ix within t_1) = true then
  G (0 ≤ t_1 ∧ t_1 < (c_1.length : Int)) (
  game_solver_solve_J14 t_1 best r12 (decide ((ix c_1 t_1) = least))) else
  game_solver_solve_J14 t_1 best r12 false)) else
  (game_solver_attracted (Int.tmod least (2 : Int)) c c_1 c_2 c_3 best within l l_1).bind (fun y'_42 =>
  (game_without y'_42.2.2.2.2.2.2.2.2 y'_42.1).bind (fun y'_10 =>
  (rc_game_solver_solve y'_42.2.1 y'_42.2.2.1 y'_42.2.2.2.1 y'_42.2.2.2.2.1 y'_10 y'_42.2.2.2.2.2.1 y'_42.2.2.2.2.2.2.1).bind (fun y'_41 =>
  game_solver_solve_L22 rc_game_solver_solve least y'_42.2.2.2.2.2.2.2.1 y'_42.2.2.2.2.2.2.2.2 y'_41.1 y'_41.2.1 y'_41.2.2.1 y'_41.2.2.2.1 y'_41.2.2.2.2.1 y'_41.2.2.2.2.2.1 y'_41.2.2.2.2.2.2 (0 : Int) ([]))))
noncomputable def game_solver_solve_L12_F (rc_game_solver_solve : (List Int) → (List Int) → (List (List Int)) → (List (List Int)) → (List Bool) → (List Int) → (List Int) → Option Tp2) (c : (List Int)) (c_1 : (List Int)) (c_2 : (List (List Int))) (c_3 : (List (List Int))) (within : (List Bool)) (l : (List Int)) (l_1 : (List Int)) (least : Int) : (Int × (List Int) → Option Tp2) → Int × (List Int) → Option Tp2 :=
  fun rec x => game_solver_solve_L12_B rc_game_solver_solve c c_1 c_2 c_3 within l l_1 least (fun t_1 best => rec (t_1, best)) x.1 x.2
noncomputable def game_solver_solve_L12 (rc_game_solver_solve : (List Int) → (List Int) → (List (List Int)) → (List (List Int)) → (List Bool) → (List Int) → (List Int) → Option Tp2) (c : (List Int)) (c_1 : (List Int)) (c_2 : (List (List Int))) (c_3 : (List (List Int))) (within : (List Bool)) (l : (List Int)) (l_1 : (List Int)) (least : Int) (t_1 : Int) (best : (List Int)) : Option Tp2 := LFix (game_solver_solve_L12_F rc_game_solver_solve c c_1 c_2 c_3 within l l_1 least ) (t_1, best)
noncomputable def game_solver_solve_L3_B (rc_game_solver_solve : (List Int) → (List Int) → (List (List Int)) → (List (List Int)) → (List Bool) → (List Int) → (List Int) → Option Tp2) (c : (List Int)) (c_1 : (List Int)) (c_2 : (List (List Int))) (c_3 : (List (List Int))) (within : (List Bool)) (l : (List Int)) (l_1 : (List Int)) (r3 : Int → Int → Option Tp2) (least : Int) (t : Int) : Option Tp2 :=
  if (decide (t < (within.length : Int))) = true then
  G (0 ≤ t ∧ t < (within.length : Int)) (
  G ((t).toNat < within.length) (
  if (ix within t) = true then
  if (decide (least < (0 : Int))) = true then
  G (0 ≤ t ∧ t < (c_1.length : Int)) (
  G (fits (t + (1 : Int))) (
  r3 (ix c_1 t) (t + (1 : Int)))) else
  G (0 ≤ t ∧ t < (c_1.length : Int)) (
  if (decide ((ix c_1 t) < least)) = true then
  G (0 ≤ t ∧ t < (c_1.length : Int)) (
  G (fits (t + (1 : Int))) (
  r3 (ix c_1 t) (t + (1 : Int)))) else
  G (fits (t + (1 : Int))) (
  r3 least (t + (1 : Int)))) else
  G (fits (t + (1 : Int))) (
  r3 least (t + (1 : Int))))) else
  if (decide (least < (0 : Int))) = true then
  some (c, c_1, c_2, c_3, l, l_1, within) else
  G ((2 : Int) ≠ 0) (
  game_solver_solve_L12 rc_game_solver_solve c c_1 c_2 c_3 within l l_1 least (0 : Int) ([]))
noncomputable def game_solver_solve_L3_F (rc_game_solver_solve : (List Int) → (List Int) → (List (List Int)) → (List (List Int)) → (List Bool) → (List Int) → (List Int) → Option Tp2) (c : (List Int)) (c_1 : (List Int)) (c_2 : (List (List Int))) (c_3 : (List (List Int))) (within : (List Bool)) (l : (List Int)) (l_1 : (List Int)) : (Int × Int → Option Tp2) → Int × Int → Option Tp2 :=
  fun rec x => game_solver_solve_L3_B rc_game_solver_solve c c_1 c_2 c_3 within l l_1 (fun least t => rec (least, t)) x.1 x.2
noncomputable def game_solver_solve_L3 (rc_game_solver_solve : (List Int) → (List Int) → (List (List Int)) → (List (List Int)) → (List Bool) → (List Int) → (List Int) → Option Tp2) (c : (List Int)) (c_1 : (List Int)) (c_2 : (List (List Int))) (c_3 : (List (List Int))) (within : (List Bool)) (l : (List Int)) (l_1 : (List Int)) (least : Int) (t : Int) : Option Tp2 := LFix (game_solver_solve_L3_F rc_game_solver_solve c c_1 c_2 c_3 within l l_1 ) (least, t)
noncomputable def game_solver_solve_B (rc_game_solver_solve : (List Int) → (List Int) → (List (List Int)) → (List (List Int)) → (List Bool) → (List Int) → (List Int) → Option Tp2) (c : (List Int)) (c_1 : (List Int)) (c_2 : (List (List Int))) (c_3 : (List (List Int))) (within : (List Bool)) (l : (List Int)) (l_1 : (List Int)) : Option Tp2 :=
  game_solver_solve_L3 rc_game_solver_solve c c_1 c_2 c_3 within l l_1 (-1 : Int) (0 : Int)
theorem game_solver_solve_J14_ch (r12 : Nat → Int → (List Int) → Option Tp2) (r12' : Int → (List Int) → Option Tp2) (h_r12 : ∀ a0 a1, ChO (fun κ => r12 κ a0 a1) (r12' a0 a1)) (t_1 : Int) (best : (List Int)) (t_2 : Bool) : ChO (fun κ => game_solver_solve_J14 t_1 best (r12 κ) t_2) (game_solver_solve_J14 t_1 best r12' t_2) := by
  unfold game_solver_solve_J14
  repeat' with_reducible first | exact ChO.const _ | exact h_r12 _ _ | apply ChO.ite | apply ChO.G | apply ChO.both | (apply ChO.bind; intro _)
theorem game_solver_solve_J24_ch (r22 : Nat → Int → (List Int) → Option Tp2) (r22' : Int → (List Int) → Option Tp2) (h_r22 : ∀ a0 a1, ChO (fun κ => r22 κ a0 a1) (r22' a0 a1)) (t_3 : Int) (lost : (List Int)) (t_4 : Bool) : ChO (fun κ => game_solver_solve_J24 t_3 lost (r22 κ) t_4) (game_solver_solve_J24 t_3 lost r22' t_4) := by
  unfold game_solver_solve_J24
  repeat' with_reducible first | exact ChO.const _ | exact h_r22 _ _ | (apply game_solver_solve_J14_ch <;> assumption) | apply ChO.ite | apply ChO.G | apply ChO.both | (apply ChO.bind; intro _)
theorem game_solver_solve_L35_B_ch (r35 : Nat → Int → (List Int) → (List Int) → (List (List Int)) → (List (List Int)) → (List Int) → (List Int) → Option Tp2) (r35' : Int → (List Int) → (List Int) → (List (List Int)) → (List (List Int)) → (List Int) → (List Int) → Option Tp2) (h_r35 : ∀ a0 a1 a2 a3 a4 a5 a6, ChO (fun κ => r35 κ a0 a1 a2 a3 a4 a5 a6) (r35' a0 a1 a2 a3 a4 a5 a6)) (least : Int) (y'_7 : (List Int)) (y'_8 : (List Bool)) (t_6 : Int) (s_4 : (List Int)) (s_5 : (List Int)) (s_6 : (List (List Int))) (s_7 : (List (List Int))) (l_4 : (List Int)) (l_5 : (List Int)) : ChO (fun κ => game_solver_solve_L35_B least y'_7 y'_8 (r35 κ) t_6 s_4 s_5 s_6 s_7 l_4 l_5) (game_solver_solve_L35_B least y'_7 y'_8 r35' t_6 s_4 s_5 s_6 s_7 l_4 l_5) := by
  unfold game_solver_solve_L35_B
  repeat' with_reducible first | exact ChO.const _ | exact h_r35 _ _ _ _ _ _ _ | (apply game_solver_solve_J14_ch <;> assumption) | (apply game_solver_solve_J24_ch <;> assumption) | apply ChO.ite | apply ChO.G | apply ChO.both | (apply ChO.bind; intro _)
theorem game_solver_solve_L35_cn  (least : Int) (y'_7 : (List Int)) (y'_8 : (List Bool)) : Cn (game_solver_solve_L35_F least y'_7 y'_8) := fun g h hg x => game_solver_solve_L35_B_ch  (fun κ t_6 s_4 s_5 s_6 s_7 l_4 l_5 => g κ (t_6, s_4, s_5, s_6, s_7, l_4, l_5)) (fun t_6 s_4 s_5 s_6 s_7 l_4 l_5 => h (t_6, s_4, s_5, s_6, s_7, l_4, l_5)) (fun t_6 s_4 s_5 s_6 s_7 l_4 l_5 => hg (t_6, s_4, s_5, s_6, s_7, l_4, l_5)) least y'_7 y'_8 x.1 x.2.1 x.2.2.1 x.2.2.2.1 x.2.2.2.2.1 x.2.2.2.2.2.1 x.2.2.2.2.2.2
theorem game_solver_solve_L35_eq  (least : Int) (y'_7 : (List Int)) (y'_8 : (List Bool)) (t_6 : Int) (s_4 : (List Int)) (s_5 : (List Int)) (s_6 : (List (List Int))) (s_7 : (List (List Int))) (l_4 : (List Int)) (l_5 : (List Int)) : game_solver_solve_L35 least y'_7 y'_8 t_6 s_4 s_5 s_6 s_7 l_4 l_5 = game_solver_solve_L35_B least y'_7 y'_8 (game_solver_solve_L35 least y'_7 y'_8) t_6 s_4 s_5 s_6 s_7 l_4 l_5 := LFix_eq (game_solver_solve_L35_cn least y'_7 y'_8) (t_6, s_4, s_5, s_6, s_7, l_4, l_5)
theorem game_solver_solve_L29_B_ch (r29 : Nat → Int → (List Int) → (List Int) → (List (List Int)) → (List (List Int)) → (List Int) → (List Int) → Option Tp2) (r29' : Int → (List Int) → (List Int) → (List (List Int)) → (List (List Int)) → (List Int) → (List Int) → Option Tp2) (h_r29 : ∀ a0 a1 a2 a3 a4 a5 a6, ChO (fun κ => r29 κ a0 a1 a2 a3 a4 a5 a6) (r29' a0 a1 a2 a3 a4 a5 a6)) (least : Int) (y'_7 : (List Int)) (y'_8 : (List Bool)) (t_5 : Int) (s : (List Int)) (s_1 : (List Int)) (s_2 : (List (List Int))) (s_3 : (List (List Int))) (l_2 : (List Int)) (l_3 : (List Int)) : ChO (fun κ => game_solver_solve_L29_B least y'_7 y'_8 (r29 κ) t_5 s s_1 s_2 s_3 l_2 l_3) (game_solver_solve_L29_B least y'_7 y'_8 r29' t_5 s s_1 s_2 s_3 l_2 l_3) := by
  unfold game_solver_solve_L29_B
  repeat' with_reducible first | exact ChO.const _ | exact h_r29 _ _ _ _ _ _ _ | (apply game_solver_solve_J14_ch <;> assumption) | (apply game_solver_solve_J24_ch <;> assumption) | apply ChO.ite | apply ChO.G | apply ChO.both | (apply ChO.bind; intro _)
theorem game_solver_solve_L29_cn  (least : Int) (y'_7 : (List Int)) (y'_8 : (List Bool)) : Cn (game_solver_solve_L29_F least y'_7 y'_8) := fun g h hg x => game_solver_solve_L29_B_ch  (fun κ t_5 s s_1 s_2 s_3 l_2 l_3 => g κ (t_5, s, s_1, s_2, s_3, l_2, l_3)) (fun t_5 s s_1 s_2 s_3 l_2 l_3 => h (t_5, s, s_1, s_2, s_3, l_2, l_3)) (fun t_5 s s_1 s_2 s_3 l_2 l_3 => hg (t_5, s, s_1, s_2, s_3, l_2, l_3)) least y'_7 y'_8 x.1 x.2.1 x.2.2.1 x.2.2.2.1 x.2.2.2.2.1 x.2.2.2.2.2.1 x.2.2.2.2.2.2
theorem game_solver_solve_L29_eq  (least : Int) (y'_7 : (List Int)) (y'_8 : (List Bool)) (t_5 : Int) (s : (List Int)) (s_1 : (List Int)) (s_2 : (List (List Int))) (s_3 : (List (List Int))) (l_2 : (List Int)) (l_3 : (List Int)) : game_solver_solve_L29 least y'_7 y'_8 t_5 s s_1 s_2 s_3 l_2 l_3 = game_solver_solve_L29_B least y'_7 y'_8 (game_solver_solve_L29 least y'_7 y'_8) t_5 s s_1 s_2 s_3 l_2 l_3 := LFix_eq (game_solver_solve_L29_cn least y'_7 y'_8) (t_5, s, s_1, s_2, s_3, l_2, l_3)
theorem game_solver_solve_L42_B_ch (rc_game_solver_solve : Nat → (List Int) → (List Int) → (List (List Int)) → (List (List Int)) → (List Bool) → (List Int) → (List Int) → Option Tp2) (rc_game_solver_solve' : (List Int) → (List Int) → (List (List Int)) → (List (List Int)) → (List Bool) → (List Int) → (List Int) → Option Tp2) (h_rc_game_solver_solve : ∀ a0 a1 a2 a3 a4 a5 a6, ChO (fun κ => rc_game_solver_solve κ a0 a1 a2 a3 a4 a5 a6) (rc_game_solver_solve' a0 a1 a2 a3 a4 a5 a6)) (r42 : Nat → Int → (List Int) → (List Int) → (List (List Int)) → (List (List Int)) → (List Int) → (List Int) → Option Tp2) (r42' : Int → (List Int) → (List Int) → (List (List Int)) → (List (List Int)) → (List Int) → (List Int) → Option Tp2) (h_r42 : ∀ a0 a1 a2 a3 a4 a5 a6, ChO (fun κ => r42 κ a0 a1 a2 a3 a4 a5 a6) (r42' a0 a1 a2 a3 a4 a5 a6)) (least : Int) (y'_20 : (List Bool)) (y'_28 : (List Bool)) (t_7 : Int) (s_8 : (List Int)) (s_9 : (List Int)) (s_10 : (List (List Int))) (s_11 : (List (List Int))) (l_6 : (List Int)) (l_7 : (List Int)) : ChO (fun κ => game_solver_solve_L42_B (rc_game_solver_solve κ) least y'_20 y'_28 (r42 κ) t_7 s_8 s_9 s_10 s_11 l_6 l_7) (game_solver_solve_L42_B rc_game_solver_solve' least y'_20 y'_28 r42' t_7 s_8 s_9 s_10 s_11 l_6 l_7) := by
  unfold game_solver_solve_L42_B
  repeat' with_reducible first | exact ChO.const _ | exact h_rc_game_solver_solve _ _ _ _ _ _ _ | exact h_r42 _ _ _ _ _ _ _ | (apply game_solver_solve_J14_ch <;> assumption) | (apply game_solver_solve_J24_ch <;> assumption) | apply ChO.ite | apply ChO.G | apply ChO.both | (apply ChO.bind; intro _) | (apply ChO.bind2 (h_rc_game_solver_solve _ _ _ _ _ _ _); intro _)
theorem game_solver_solve_L42_cn (rc_game_solver_solve : (List Int) → (List Int) → (List (List Int)) → (List (List Int)) → (List Bool) → (List Int) → (List Int) → Option Tp2) (least : Int) (y'_20 : (List Bool)) (y'_28 : (List Bool)) : Cn (game_solver_solve_L42_F rc_game_solver_solve least y'_20 y'_28) := fun g h hg x => game_solver_solve_L42_B_ch (fun _ => rc_game_solver_solve) rc_game_solver_solve (fun _ _ _ _ _ _ _ => ChO.const _) (fun κ t_7 s_8 s_9 s_10 s_11 l_6 l_7 => g κ (t_7, s_8, s_9, s_10, s_11, l_6, l_7)) (fun t_7 s_8 s_9 s_10 s_11 l_6 l_7 => h (t_7, s_8, s_9, s_10, s_11, l_6, l_7)) (fun t_7 s_8 s_9 s_10 s_11 l_6 l_7 => hg (t_7, s_8, s_9, s_10, s_11, l_6, l_7)) least y'_20 y'_28 x.1 x.2.1 x.2.2.1 x.2.2.2.1 x.2.2.2.2.1 x.2.2.2.2.2.1 x.2.2.2.2.2.2
theorem game_solver_solve_L42_eq (rc_game_solver_solve : (List Int) → (List Int) → (List (List Int)) → (List (List Int)) → (List Bool) → (List Int) → (List Int) → Option Tp2) (least : Int) (y'_20 : (List Bool)) (y'_28 : (List Bool)) (t_7 : Int) (s_8 : (List Int)) (s_9 : (List Int)) (s_10 : (List (List Int))) (s_11 : (List (List Int))) (l_6 : (List Int)) (l_7 : (List Int)) : game_solver_solve_L42 rc_game_solver_solve least y'_20 y'_28 t_7 s_8 s_9 s_10 s_11 l_6 l_7 = game_solver_solve_L42_B rc_game_solver_solve least y'_20 y'_28 (game_solver_solve_L42 rc_game_solver_solve least y'_20 y'_28) t_7 s_8 s_9 s_10 s_11 l_6 l_7 := LFix_eq (game_solver_solve_L42_cn rc_game_solver_solve least y'_20 y'_28) (t_7, s_8, s_9, s_10, s_11, l_6, l_7)
theorem game_solver_solve_L42_ch (rc_game_solver_solve : Nat → (List Int) → (List Int) → (List (List Int)) → (List (List Int)) → (List Bool) → (List Int) → (List Int) → Option Tp2) (rc_game_solver_solve' : (List Int) → (List Int) → (List (List Int)) → (List (List Int)) → (List Bool) → (List Int) → (List Int) → Option Tp2) (h_rc_game_solver_solve : ∀ a0 a1 a2 a3 a4 a5 a6, ChO (fun κ => rc_game_solver_solve κ a0 a1 a2 a3 a4 a5 a6) (rc_game_solver_solve' a0 a1 a2 a3 a4 a5 a6)) (least : Int) (y'_20 : (List Bool)) (y'_28 : (List Bool)) (t_7 : Int) (s_8 : (List Int)) (s_9 : (List Int)) (s_10 : (List (List Int))) (s_11 : (List (List Int))) (l_6 : (List Int)) (l_7 : (List Int)) : ChO (fun κ => game_solver_solve_L42 (rc_game_solver_solve κ) least y'_20 y'_28 t_7 s_8 s_9 s_10 s_11 l_6 l_7) (game_solver_solve_L42 rc_game_solver_solve' least y'_20 y'_28 t_7 s_8 s_9 s_10 s_11 l_6 l_7) := by
  unfold game_solver_solve_L42
  exact LFix_ch (fun κ => (game_solver_solve_L42_cn (rc_game_solver_solve κ) least y'_20 y'_28).mono) (game_solver_solve_L42_cn rc_game_solver_solve' least y'_20 y'_28).mono (fun g h hg x => game_solver_solve_L42_B_ch rc_game_solver_solve rc_game_solver_solve' h_rc_game_solver_solve (fun κ t_7 s_8 s_9 s_10 s_11 l_6 l_7 => g κ (t_7, s_8, s_9, s_10, s_11, l_6, l_7)) (fun t_7 s_8 s_9 s_10 s_11 l_6 l_7 => h (t_7, s_8, s_9, s_10, s_11, l_6, l_7)) (fun t_7 s_8 s_9 s_10 s_11 l_6 l_7 => hg (t_7, s_8, s_9, s_10, s_11, l_6, l_7)) least y'_20 y'_28 x.1 x.2.1 x.2.2.1 x.2.2.2.1 x.2.2.2.2.1 x.2.2.2.2.2.1 x.2.2.2.2.2.2) _
theorem game_solver_solve_L22_B_ch (rc_game_solver_solve : Nat → (List Int) → (List Int) → (List (List Int)) → (List (List Int)) → (List Bool) → (List Int) → (List Int) → Option Tp2) (rc_game_solver_solve' : (List Int) → (List Int) → (List (List Int)) → (List (List Int)) → (List Bool) → (List Int) → (List Int) → Option Tp2) (h_rc_game_solver_solve : ∀ a0 a1 a2 a3 a4 a5 a6, ChO (fun κ => rc_game_solver_solve κ a0 a1 a2 a3 a4 a5 a6) (rc_game_solver_solve' a0 a1 a2 a3 a4 a5 a6)) (r22 : Nat → Int → (List Int) → Option Tp2) (r22' : Int → (List Int) → Option Tp2) (h_r22 : ∀ a0 a1, ChO (fun κ => r22 κ a0 a1) (r22' a0 a1)) (least : Int) (y'_7 : (List Int)) (y'_8 : (List Bool)) (y'_11 : (List Int)) (y'_12 : (List Int)) (y'_13 : (List (List Int))) (y'_14 : (List (List Int))) (y'_15 : (List Int)) (y'_16 : (List Int)) (y'_17 : (List Bool)) (t_3 : Int) (lost : (List Int)) : ChO (fun κ => game_solver_solve_L22_B (rc_game_solver_solve κ) least y'_7 y'_8 y'_11 y'_12 y'_13 y'_14 y'_15 y'_16 y'_17 (r22 κ) t_3 lost) (game_solver_solve_L22_B rc_game_solver_solve' least y'_7 y'_8 y'_11 y'_12 y'_13 y'_14 y'_15 y'_16 y'_17 r22' t_3 lost) := by
  unfold game_solver_solve_L22_B
  repeat' with_reducible first | exact ChO.const _ | exact h_rc_game_solver_solve _ _ _ _ _ _ _ | exact h_r22 _ _ | (apply game_solver_solve_J14_ch <;> assumption) | (apply game_solver_solve_J24_ch <;> assumption) | (apply game_solver_solve_L42_ch <;> assumption) | apply ChO.ite | apply ChO.G | apply ChO.both | (apply ChO.bind; intro _) | (apply ChO.bind2 (h_rc_game_solver_solve _ _ _ _ _ _ _); intro _)
theorem game_solver_solve_L22_cn (rc_game_solver_solve : (List Int) → (List Int) → (List (List Int)) → (List (List Int)) → (List Bool) → (List Int) → (List Int) → Option Tp2) (least : Int) (y'_7 : (List Int)) (y'_8 : (List Bool)) (y'_11 : (List Int)) (y'_12 : (List Int)) (y'_13 : (List (List Int))) (y'_14 : (List (List Int))) (y'_15 : (List Int)) (y'_16 : (List Int)) (y'_17 : (List Bool)) : Cn (game_solver_solve_L22_F rc_game_solver_solve least y'_7 y'_8 y'_11 y'_12 y'_13 y'_14 y'_15 y'_16 y'_17) := fun g h hg x => game_solver_solve_L22_B_ch (fun _ => rc_game_solver_solve) rc_game_solver_solve (fun _ _ _ _ _ _ _ => ChO.const _) (fun κ t_3 lost => g κ (t_3, lost)) (fun t_3 lost => h (t_3, lost)) (fun t_3 lost => hg (t_3, lost)) least y'_7 y'_8 y'_11 y'_12 y'_13 y'_14 y'_15 y'_16 y'_17 x.1 x.2
theorem game_solver_solve_L22_eq (rc_game_solver_solve : (List Int) → (List Int) → (List (List Int)) → (List (List Int)) → (List Bool) → (List Int) → (List Int) → Option Tp2) (least : Int) (y'_7 : (List Int)) (y'_8 : (List Bool)) (y'_11 : (List Int)) (y'_12 : (List Int)) (y'_13 : (List (List Int))) (y'_14 : (List (List Int))) (y'_15 : (List Int)) (y'_16 : (List Int)) (y'_17 : (List Bool)) (t_3 : Int) (lost : (List Int)) : game_solver_solve_L22 rc_game_solver_solve least y'_7 y'_8 y'_11 y'_12 y'_13 y'_14 y'_15 y'_16 y'_17 t_3 lost = game_solver_solve_L22_B rc_game_solver_solve least y'_7 y'_8 y'_11 y'_12 y'_13 y'_14 y'_15 y'_16 y'_17 (game_solver_solve_L22 rc_game_solver_solve least y'_7 y'_8 y'_11 y'_12 y'_13 y'_14 y'_15 y'_16 y'_17) t_3 lost := LFix_eq (game_solver_solve_L22_cn rc_game_solver_solve least y'_7 y'_8 y'_11 y'_12 y'_13 y'_14 y'_15 y'_16 y'_17) (t_3, lost)
theorem game_solver_solve_L22_ch (rc_game_solver_solve : Nat → (List Int) → (List Int) → (List (List Int)) → (List (List Int)) → (List Bool) → (List Int) → (List Int) → Option Tp2) (rc_game_solver_solve' : (List Int) → (List Int) → (List (List Int)) → (List (List Int)) → (List Bool) → (List Int) → (List Int) → Option Tp2) (h_rc_game_solver_solve : ∀ a0 a1 a2 a3 a4 a5 a6, ChO (fun κ => rc_game_solver_solve κ a0 a1 a2 a3 a4 a5 a6) (rc_game_solver_solve' a0 a1 a2 a3 a4 a5 a6)) (least : Int) (y'_7 : (List Int)) (y'_8 : (List Bool)) (y'_11 : (List Int)) (y'_12 : (List Int)) (y'_13 : (List (List Int))) (y'_14 : (List (List Int))) (y'_15 : (List Int)) (y'_16 : (List Int)) (y'_17 : (List Bool)) (t_3 : Int) (lost : (List Int)) : ChO (fun κ => game_solver_solve_L22 (rc_game_solver_solve κ) least y'_7 y'_8 y'_11 y'_12 y'_13 y'_14 y'_15 y'_16 y'_17 t_3 lost) (game_solver_solve_L22 rc_game_solver_solve' least y'_7 y'_8 y'_11 y'_12 y'_13 y'_14 y'_15 y'_16 y'_17 t_3 lost) := by
  unfold game_solver_solve_L22
  exact LFix_ch (fun κ => (game_solver_solve_L22_cn (rc_game_solver_solve κ) least y'_7 y'_8 y'_11 y'_12 y'_13 y'_14 y'_15 y'_16 y'_17).mono) (game_solver_solve_L22_cn rc_game_solver_solve' least y'_7 y'_8 y'_11 y'_12 y'_13 y'_14 y'_15 y'_16 y'_17).mono (fun g h hg x => game_solver_solve_L22_B_ch rc_game_solver_solve rc_game_solver_solve' h_rc_game_solver_solve (fun κ t_3 lost => g κ (t_3, lost)) (fun t_3 lost => h (t_3, lost)) (fun t_3 lost => hg (t_3, lost)) least y'_7 y'_8 y'_11 y'_12 y'_13 y'_14 y'_15 y'_16 y'_17 x.1 x.2) _
theorem game_solver_solve_L12_B_ch (rc_game_solver_solve : Nat → (List Int) → (List Int) → (List (List Int)) → (List (List Int)) → (List Bool) → (List Int) → (List Int) → Option Tp2) (rc_game_solver_solve' : (List Int) → (List Int) → (List (List Int)) → (List (List Int)) → (List Bool) → (List Int) → (List Int) → Option Tp2) (h_rc_game_solver_solve : ∀ a0 a1 a2 a3 a4 a5 a6, ChO (fun κ => rc_game_solver_solve κ a0 a1 a2 a3 a4 a5 a6) (rc_game_solver_solve' a0 a1 a2 a3 a4 a5 a6)) (r12 : Nat → Int → (List Int) → Option Tp2) (r12' : Int → (List Int) → Option Tp2) (h_r12 : ∀ a0 a1, ChO (fun κ => r12 κ a0 a1) (r12' a0 a1)) (c : (List Int)) (c_1 : (List Int)) (c_2 : (List (List Int))) (c_3 : (List (List Int))) (within : (List Bool)) (l : (List Int)) (l_1 : (List Int)) (least : Int) (t_1 : Int) (best : (List Int)) : ChO (fun κ => game_solver_solve_L12_B (rc_game_solver_solve κ) c c_1 c_2 c_3 within l l_1 least (r12 κ) t_1 best) (game_solver_solve_L12_B rc_game_solver_solve' c c_1 c_2 c_3 within l l_1 least r12' t_1 best) := by
  unfold game_solver_solve_L12_B
  repeat' with_reducible first | exact ChO.const _ | exact h_rc_game_solver_solve _ _ _ _ _ _ _ | exact h_r12 _ _ | (apply game_solver_solve_J14_ch <;> assumption) | (apply game_solver_solve_J24_ch <;> assumption) | (apply game_solver_solve_L42_ch <;> assumption) | (apply game_solver_solve_L22_ch <;> assumption) | apply ChO.ite | apply ChO.G | apply ChO.both | (apply ChO.bind; intro _) | (apply ChO.bind2 (h_rc_game_solver_solve _ _ _ _ _ _ _); intro _)
theorem game_solver_solve_L12_cn (rc_game_solver_solve : (List Int) → (List Int) → (List (List Int)) → (List (List Int)) → (List Bool) → (List Int) → (List Int) → Option Tp2) (c : (List Int)) (c_1 : (List Int)) (c_2 : (List (List Int))) (c_3 : (List (List Int))) (within : (List Bool)) (l : (List Int)) (l_1 : (List Int)) (least : Int) : Cn (game_solver_solve_L12_F rc_game_solver_solve c c_1 c_2 c_3 within l l_1 least) := fun g h hg x => game_solver_solve_L12_B_ch (fun _ => rc_game_solver_solve) rc_game_solver_solve (fun _ _ _ _ _ _ _ => ChO.const _) (fun κ t_1 best => g κ (t_1, best)) (fun t_1 best => h (t_1, best)) (fun t_1 best => hg (t_1, best)) c c_1 c_2 c_3 within l l_1 least x.1 x.2
theorem game_solver_solve_L12_eq (rc_game_solver_solve : (List Int) → (List Int) → (List (List Int)) → (List (List Int)) → (List Bool) → (List Int) → (List Int) → Option Tp2) (c : (List Int)) (c_1 : (List Int)) (c_2 : (List (List Int))) (c_3 : (List (List Int))) (within : (List Bool)) (l : (List Int)) (l_1 : (List Int)) (least : Int) (t_1 : Int) (best : (List Int)) : game_solver_solve_L12 rc_game_solver_solve c c_1 c_2 c_3 within l l_1 least t_1 best = game_solver_solve_L12_B rc_game_solver_solve c c_1 c_2 c_3 within l l_1 least (game_solver_solve_L12 rc_game_solver_solve c c_1 c_2 c_3 within l l_1 least) t_1 best := LFix_eq (game_solver_solve_L12_cn rc_game_solver_solve c c_1 c_2 c_3 within l l_1 least) (t_1, best)
theorem game_solver_solve_L12_ch (rc_game_solver_solve : Nat → (List Int) → (List Int) → (List (List Int)) → (List (List Int)) → (List Bool) → (List Int) → (List Int) → Option Tp2) (rc_game_solver_solve' : (List Int) → (List Int) → (List (List Int)) → (List (List Int)) → (List Bool) → (List Int) → (List Int) → Option Tp2) (h_rc_game_solver_solve : ∀ a0 a1 a2 a3 a4 a5 a6, ChO (fun κ => rc_game_solver_solve κ a0 a1 a2 a3 a4 a5 a6) (rc_game_solver_solve' a0 a1 a2 a3 a4 a5 a6)) (c : (List Int)) (c_1 : (List Int)) (c_2 : (List (List Int))) (c_3 : (List (List Int))) (within : (List Bool)) (l : (List Int)) (l_1 : (List Int)) (least : Int) (t_1 : Int) (best : (List Int)) : ChO (fun κ => game_solver_solve_L12 (rc_game_solver_solve κ) c c_1 c_2 c_3 within l l_1 least t_1 best) (game_solver_solve_L12 rc_game_solver_solve' c c_1 c_2 c_3 within l l_1 least t_1 best) := by
  unfold game_solver_solve_L12
  exact LFix_ch (fun κ => (game_solver_solve_L12_cn (rc_game_solver_solve κ) c c_1 c_2 c_3 within l l_1 least).mono) (game_solver_solve_L12_cn rc_game_solver_solve' c c_1 c_2 c_3 within l l_1 least).mono (fun g h hg x => game_solver_solve_L12_B_ch rc_game_solver_solve rc_game_solver_solve' h_rc_game_solver_solve (fun κ t_1 best => g κ (t_1, best)) (fun t_1 best => h (t_1, best)) (fun t_1 best => hg (t_1, best)) c c_1 c_2 c_3 within l l_1 least x.1 x.2) _
theorem game_solver_solve_L3_B_ch (rc_game_solver_solve : Nat → (List Int) → (List Int) → (List (List Int)) → (List (List Int)) → (List Bool) → (List Int) → (List Int) → Option Tp2) (rc_game_solver_solve' : (List Int) → (List Int) → (List (List Int)) → (List (List Int)) → (List Bool) → (List Int) → (List Int) → Option Tp2) (h_rc_game_solver_solve : ∀ a0 a1 a2 a3 a4 a5 a6, ChO (fun κ => rc_game_solver_solve κ a0 a1 a2 a3 a4 a5 a6) (rc_game_solver_solve' a0 a1 a2 a3 a4 a5 a6)) (r3 : Nat → Int → Int → Option Tp2) (r3' : Int → Int → Option Tp2) (h_r3 : ∀ a0 a1, ChO (fun κ => r3 κ a0 a1) (r3' a0 a1)) (c : (List Int)) (c_1 : (List Int)) (c_2 : (List (List Int))) (c_3 : (List (List Int))) (within : (List Bool)) (l : (List Int)) (l_1 : (List Int)) (least : Int) (t : Int) : ChO (fun κ => game_solver_solve_L3_B (rc_game_solver_solve κ) c c_1 c_2 c_3 within l l_1 (r3 κ) least t) (game_solver_solve_L3_B rc_game_solver_solve' c c_1 c_2 c_3 within l l_1 r3' least t) := by
  unfold game_solver_solve_L3_B
  repeat' with_reducible first | exact ChO.const _ | exact h_rc_game_solver_solve _ _ _ _ _ _ _ | exact h_r3 _ _ | (apply game_solver_solve_J14_ch <;> assumption) | (apply game_solver_solve_J24_ch <;> assumption) | (apply game_solver_solve_L42_ch <;> assumption) | (apply game_solver_solve_L22_ch <;> assumption) | (apply game_solver_solve_L12_ch <;> assumption) | apply ChO.ite | apply ChO.G | apply ChO.both | (apply ChO.bind; intro _) | (apply ChO.bind2 (h_rc_game_solver_solve _ _ _ _ _ _ _); intro _)
theorem game_solver_solve_L3_cn (rc_game_solver_solve : (List Int) → (List Int) → (List (List Int)) → (List (List Int)) → (List Bool) → (List Int) → (List Int) → Option Tp2) (c : (List Int)) (c_1 : (List Int)) (c_2 : (List (List Int))) (c_3 : (List (List Int))) (within : (List Bool)) (l : (List Int)) (l_1 : (List Int)) : Cn (game_solver_solve_L3_F rc_game_solver_solve c c_1 c_2 c_3 within l l_1) := fun g h hg x => game_solver_solve_L3_B_ch (fun _ => rc_game_solver_solve) rc_game_solver_solve (fun _ _ _ _ _ _ _ => ChO.const _) (fun κ least t => g κ (least, t)) (fun least t => h (least, t)) (fun least t => hg (least, t)) c c_1 c_2 c_3 within l l_1 x.1 x.2
theorem game_solver_solve_L3_eq (rc_game_solver_solve : (List Int) → (List Int) → (List (List Int)) → (List (List Int)) → (List Bool) → (List Int) → (List Int) → Option Tp2) (c : (List Int)) (c_1 : (List Int)) (c_2 : (List (List Int))) (c_3 : (List (List Int))) (within : (List Bool)) (l : (List Int)) (l_1 : (List Int)) (least : Int) (t : Int) : game_solver_solve_L3 rc_game_solver_solve c c_1 c_2 c_3 within l l_1 least t = game_solver_solve_L3_B rc_game_solver_solve c c_1 c_2 c_3 within l l_1 (game_solver_solve_L3 rc_game_solver_solve c c_1 c_2 c_3 within l l_1) least t := LFix_eq (game_solver_solve_L3_cn rc_game_solver_solve c c_1 c_2 c_3 within l l_1) (least, t)
theorem game_solver_solve_L3_ch (rc_game_solver_solve : Nat → (List Int) → (List Int) → (List (List Int)) → (List (List Int)) → (List Bool) → (List Int) → (List Int) → Option Tp2) (rc_game_solver_solve' : (List Int) → (List Int) → (List (List Int)) → (List (List Int)) → (List Bool) → (List Int) → (List Int) → Option Tp2) (h_rc_game_solver_solve : ∀ a0 a1 a2 a3 a4 a5 a6, ChO (fun κ => rc_game_solver_solve κ a0 a1 a2 a3 a4 a5 a6) (rc_game_solver_solve' a0 a1 a2 a3 a4 a5 a6)) (c : (List Int)) (c_1 : (List Int)) (c_2 : (List (List Int))) (c_3 : (List (List Int))) (within : (List Bool)) (l : (List Int)) (l_1 : (List Int)) (least : Int) (t : Int) : ChO (fun κ => game_solver_solve_L3 (rc_game_solver_solve κ) c c_1 c_2 c_3 within l l_1 least t) (game_solver_solve_L3 rc_game_solver_solve' c c_1 c_2 c_3 within l l_1 least t) := by
  unfold game_solver_solve_L3
  exact LFix_ch (fun κ => (game_solver_solve_L3_cn (rc_game_solver_solve κ) c c_1 c_2 c_3 within l l_1).mono) (game_solver_solve_L3_cn rc_game_solver_solve' c c_1 c_2 c_3 within l l_1).mono (fun g h hg x => game_solver_solve_L3_B_ch rc_game_solver_solve rc_game_solver_solve' h_rc_game_solver_solve (fun κ least t => g κ (least, t)) (fun least t => h (least, t)) (fun least t => hg (least, t)) c c_1 c_2 c_3 within l l_1 x.1 x.2) _
theorem game_solver_solve_B_ch (rc_game_solver_solve : Nat → (List Int) → (List Int) → (List (List Int)) → (List (List Int)) → (List Bool) → (List Int) → (List Int) → Option Tp2) (rc_game_solver_solve' : (List Int) → (List Int) → (List (List Int)) → (List (List Int)) → (List Bool) → (List Int) → (List Int) → Option Tp2) (h_rc_game_solver_solve : ∀ a0 a1 a2 a3 a4 a5 a6, ChO (fun κ => rc_game_solver_solve κ a0 a1 a2 a3 a4 a5 a6) (rc_game_solver_solve' a0 a1 a2 a3 a4 a5 a6)) (c : (List Int)) (c_1 : (List Int)) (c_2 : (List (List Int))) (c_3 : (List (List Int))) (within : (List Bool)) (l : (List Int)) (l_1 : (List Int)) : ChO (fun κ => game_solver_solve_B (rc_game_solver_solve κ) c c_1 c_2 c_3 within l l_1) (game_solver_solve_B rc_game_solver_solve' c c_1 c_2 c_3 within l l_1) := by
  unfold game_solver_solve_B
  repeat' with_reducible first | exact ChO.const _ | exact h_rc_game_solver_solve _ _ _ _ _ _ _ | (apply game_solver_solve_J14_ch <;> assumption) | (apply game_solver_solve_J24_ch <;> assumption) | (apply game_solver_solve_L42_ch <;> assumption) | (apply game_solver_solve_L22_ch <;> assumption) | (apply game_solver_solve_L12_ch <;> assumption) | (apply game_solver_solve_L3_ch <;> assumption) | apply ChO.ite | apply ChO.G | apply ChO.both | (apply ChO.bind; intro _) | (apply ChO.bind2 (h_rc_game_solver_solve _ _ _ _ _ _ _); intro _)
noncomputable def game_solver_solve_F : ((List Int) × (List Int) × (List (List Int)) × (List (List Int)) × (List Bool) × (List Int) × (List Int) → Option Tp2) → (List Int) × (List Int) × (List (List Int)) × (List (List Int)) × (List Bool) × (List Int) × (List Int) → Option Tp2 :=
  fun rec X => game_solver_solve_B (fun c c_1 c_2 c_3 within l l_1 => rec (c, c_1, c_2, c_3, within, l, l_1)) X.1 X.2.1 X.2.2.1 X.2.2.2.1 X.2.2.2.2.1 X.2.2.2.2.2.1 X.2.2.2.2.2.2
noncomputable def game_solver_solve (c : (List Int)) (c_1 : (List Int)) (c_2 : (List (List Int))) (c_3 : (List (List Int))) (within : (List Bool)) (l : (List Int)) (l_1 : (List Int)) : Option Tp2 := LFix game_solver_solve_F (c, c_1, c_2, c_3, within, l, l_1)
theorem game_solver_solve_cn : Cn game_solver_solve_F := fun g h hg X => game_solver_solve_B_ch _ _ (fun c c_1 c_2 c_3 within l l_1 => hg (c, c_1, c_2, c_3, within, l, l_1)) X.1 X.2.1 X.2.2.1 X.2.2.2.1 X.2.2.2.2.1 X.2.2.2.2.2.1 X.2.2.2.2.2.2
theorem game_solver_solve_eq (c : (List Int)) (c_1 : (List Int)) (c_2 : (List (List Int))) (c_3 : (List (List Int))) (within : (List Bool)) (l : (List Int)) (l_1 : (List Int)) : game_solver_solve c c_1 c_2 c_3 within l l_1 = game_solver_solve_B game_solver_solve c c_1 c_2 c_3 within l l_1 := LFix_eq game_solver_solve_cn (c, c_1, c_2, c_3, within, l, l_1)

noncomputable def game_Solved_J11 (t_1 : Int) (r9 : (Int → (List Int) → (List Int) → (List (List Int)) → (List (List Int)) → (List Int) → (List Int) → Option Tp4)) (s_9 : (List Int)) (s_10 : (List Int)) (s_11 : (List (List Int))) (l_9 : (List (List Int))) (l_10 : (List Int)) (l_11 : (List Int)) : Option Tp4 :=
  G (fits (t_1 + (1 : Int))) (
  r9 (t_1 + (1 : Int)) s_9 s_10 s_11 l_9 l_10 l_11)
noncomputable def game_Solved_L9_B (g' : Tp3) (t : Int) (all' : (List Bool)) (r5 : (Int → (List Int) → (List Int) → (List (List Int)) → (List Bool) → (List (List Int)) → (List Int) → (List Int) → Option Tp4)) (r9 : Int → (List Int) → (List Int) → (List (List Int)) → (List (List Int)) → (List Int) → (List Int) → Option Tp4) (t_1 : Int) (s_6 : (List Int)) (s_7 : (List Int)) (s_8 : (List (List Int))) (l_6 : (List (List Int))) (l_7 : (List Int)) (l_8 : (List Int)) : Option Tp4 :=
  if (decide (t_1 < ((ix g'.2.2.1 t).length : Int))) = true then
  G (0 ≤ t_1 ∧ t_1 < ((ix g'.2.2.1 t).length : Int)) (
  G (0 ≤ ix (ix g'.2.2.1 t) t_1 ∧ ix (ix g'.2.2.1 t) t_1 < (l_6.length : Int)) (
  G ((ix (ix g'.2.2.1 t) t_1).toNat < l_6.length) (
  both [(.pair (.list (.int .i64)) (.pair (.list (.int .i64)) .unit))] (
  G ((ix (ix g'.2.2.1 t) t_1).toNat < l_6.length) (
  G (room (ix l_6 (ix (ix g'.2.2.1 t) t_1)) ([t]) 8) (
  G (0 ≤ ix (ix g'.2.2.1 t) t_1 ∧ ix (ix g'.2.2.1 t) t_1 < (l_6.length : Int)) (
  G ((ix (ix g'.2.2.1 t) t_1).toNat = (ix (ix g'.2.2.1 t) t_1).toNat) (
  game_Solved_J11 t_1 r9 s_6 s_7 s_8 (l_6.set (ix (ix g'.2.2.1 t) t_1).toNat ((ix l_6 (ix (ix g'.2.2.1 t) t_1)) ++ ([t]))) l_7 l_8))))) (
  both [(.pair (.list (.int .i64)) (.pair (.list (.int .i64)) .unit))] (
  G ((ix (ix g'.2.2.1 t) t_1).toNat < l_6.length) (
  G (room (ix l_6 (ix (ix g'.2.2.1 t) t_1)) ([t]) 8) (
  G (0 ≤ ix (ix g'.2.2.1 t) t_1 ∧ ix (ix g'.2.2.1 t) t_1 < (l_6.length : Int)) (
  G ((ix (ix g'.2.2.1 t) t_1).toNat = (ix (ix g'.2.2.1 t) t_1).toNat) (
  game_Solved_J11 t_1 r9 s_6 s_7 s_8 (l_6.set (ix (ix g'.2.2.1 t) t_1).toNat ((ix l_6 (ix (ix g'.2.2.1 t) t_1)) ++ ([t]))) l_7 l_8))))) (
  G ((ix (ix g'.2.2.1 t) t_1).toNat < l_6.length) (
  G (room (ix l_6 (ix (ix g'.2.2.1 t) t_1)) ([t]) 8) (
  G (0 ≤ ix (ix g'.2.2.1 t) t_1 ∧ ix (ix g'.2.2.1 t) t_1 < (l_6.length : Int)) (
  G ((ix (ix g'.2.2.1 t) t_1).toNat = (ix (ix g'.2.2.1 t) t_1).toNat) (
  game_Solved_J11 t_1 r9 s_6 s_7 s_8 (l_6.set (ix (ix g'.2.2.1 t) t_1).toNat ((ix l_6 (ix (ix g'.2.2.1 t) t_1)) ++ ([t]))) l_7 l_8))))))))) else
  G (fits (t + (1 : Int))) (
  r5 (t + (1 : Int)) s_6 s_7 s_8 (all'.set (t).toNat true) l_6 l_7 l_8)
noncomputable def game_Solved_L9_F (g' : Tp3) (t : Int) (all' : (List Bool)) (r5 : (Int → (List Int) → (List Int) → (List (List Int)) → (List Bool) → (List (List Int)) → (List Int) → (List Int) → Option Tp4)) : (Int × (List Int) × (List Int) × (List (List Int)) × (List (List Int)) × (List Int) × (List Int) → Option Tp4) → Int × (List Int) × (List Int) × (List (List Int)) × (List (List Int)) × (List Int) × (List Int) → Option Tp4 :=
  fun rec x => game_Solved_L9_B g' t all' r5 (fun t_1 s_6 s_7 s_8 l_6 l_7 l_8 => rec (t_1, s_6, s_7, s_8, l_6, l_7, l_8)) x.1 x.2.1 x.2.2.1 x.2.2.2.1 x.2.2.2.2.1 x.2.2.2.2.2.1 x.2.2.2.2.2.2
noncomputable def game_Solved_L9 (g' : Tp3) (t : Int) (all' : (List Bool)) (r5 : (Int → (List Int) → (List Int) → (List (List Int)) → (List Bool) → (List (List Int)) → (List Int) → (List Int) → Option Tp4)) (t_1 : Int) (s_6 : (List Int)) (s_7 : (List Int)) (s_8 : (List (List Int))) (l_6 : (List (List Int))) (l_7 : (List Int)) (l_8 : (List Int)) : Option Tp4 := LFix (game_Solved_L9_F g' t all' r5 ) (t_1, s_6, s_7, s_8, l_6, l_7, l_8)
noncomputable def game_Solved_L16_B (g' : Tp3) (r16 : Int → (List Int) → (List Int) → (List (List Int)) → (List (List Int)) → (List Int) → (List Int) → Option Tp4) (t_2 : Int) (s_12 : (List Int)) (s_13 : (List Int)) (s_14 : (List (List Int))) (s_15 : (List (List Int))) (l_12 : (List Int)) (l_13 : (List Int)) : Option Tp4 :=
  if (decide (t_2 < (g'.1.length : Int))) = true then
  G (0 ≤ t_2 ∧ t_2 < (g'.1.length : Int)) (
  G (0 ≤ t_2 ∧ t_2 < (l_12.length : Int)) (
  G ((t_2).toNat < l_12.length) (
  if (decide (¬ (ix g'.1 t_2) = (ix l_12 t_2))) = true then
  G (0 ≤ t_2 ∧ t_2 < (l_13.length : Int)) (
  G ((t_2).toNat < l_13.length) (
  G (fits (t_2 + (1 : Int))) (
  r16 (t_2 + (1 : Int)) s_12 s_13 s_14 s_15 l_12 (l_13.set (t_2).toNat (-1 : Int))))) else
  G (fits (t_2 + (1 : Int))) (
  r16 (t_2 + (1 : Int)) s_12 s_13 s_14 s_15 l_12 l_13)))) else
  some (l_12, (l_13, ()))
noncomputable def game_Solved_L16_F (g' : Tp3) : (Int × (List Int) × (List Int) × (List (List Int)) × (List (List Int)) × (List Int) × (List Int) → Option Tp4) → Int × (List Int) × (List Int) × (List (List Int)) × (List (List Int)) × (List Int) × (List Int) → Option Tp4 :=
  fun rec x => game_Solved_L16_B g' (fun t_2 s_12 s_13 s_14 s_15 l_12 l_13 => rec (t_2, s_12, s_13, s_14, s_15, l_12, l_13)) x.1 x.2.1 x.2.2.1 x.2.2.2.1 x.2.2.2.2.1 x.2.2.2.2.2.1 x.2.2.2.2.2.2
noncomputable def game_Solved_L16 (g' : Tp3) (t_2 : Int) (s_12 : (List Int)) (s_13 : (List Int)) (s_14 : (List (List Int))) (s_15 : (List (List Int))) (l_12 : (List Int)) (l_13 : (List Int)) : Option Tp4 := LFix (game_Solved_L16_F g' ) (t_2, s_12, s_13, s_14, s_15, l_12, l_13)
noncomputable def game_Solved_L5_B (g' : Tp3) (r5 : Int → (List Int) → (List Int) → (List (List Int)) → (List Bool) → (List (List Int)) → (List Int) → (List Int) → Option Tp4) (t : Int) (s_3 : (List Int)) (s_4 : (List Int)) (s_5 : (List (List Int))) (all' : (List Bool)) (l_3 : (List (List Int))) (l_4 : (List Int)) (l_5 : (List Int)) : Option Tp4 :=
  if (decide (t < (g'.2.2.1.length : Int))) = true then
  G (0 ≤ t ∧ t < (g'.2.2.1.length : Int)) (
  G (0 ≤ t ∧ t < (all'.length : Int)) (
  G ((t).toNat < all'.length) (
  game_Solved_L9 g' t all' r5 (0 : Int) s_3 s_4 s_5 l_3 l_4 l_5))) else
  (game_solver_solve s_3 s_4 s_5 l_3 all' l_4 l_5).bind (fun y'_8 =>
  game_Solved_L16 g' (0 : Int) y'_8.1 y'_8.2.1 y'_8.2.2.1 y'_8.2.2.2.1 y'_8.2.2.2.2.1 y'_8.2.2.2.2.2.1)
noncomputable def game_Solved_L5_F (g' : Tp3) : (Int × (List Int) × (List Int) × (List (List Int)) × (List Bool) × (List (List Int)) × (List Int) × (List Int) → Option Tp4) → Int × (List Int) × (List Int) × (List (List Int)) × (List Bool) × (List (List Int)) × (List Int) × (List Int) → Option Tp4 :=
  fun rec x => game_Solved_L5_B g' (fun t s_3 s_4 s_5 all' l_3 l_4 l_5 => rec (t, s_3, s_4, s_5, all', l_3, l_4, l_5)) x.1 x.2.1 x.2.2.1 x.2.2.2.1 x.2.2.2.2.1 x.2.2.2.2.2.1 x.2.2.2.2.2.2.1 x.2.2.2.2.2.2.2
noncomputable def game_Solved_L5 (g' : Tp3) (t : Int) (s_3 : (List Int)) (s_4 : (List Int)) (s_5 : (List (List Int))) (all' : (List Bool)) (l_3 : (List (List Int))) (l_4 : (List Int)) (l_5 : (List Int)) : Option Tp4 := LFix (game_Solved_L5_F g' ) (t, s_3, s_4, s_5, all', l_3, l_4, l_5)
noncomputable def game_Solved_J2 (g' : Tp3) (s : (List Int)) (s_1 : (List Int)) (s_2 : (List (List Int))) (l : (List (List Int))) (l_1 : (List Int)) (l_2 : (List Int)) : Option Tp4 :=
  G (mkOK (g'.1.length : Int) (g'.1.length : Int) 1) (
  game_Solved_L5 g' (0 : Int) s s_1 s_2 (List.replicate ((g'.1.length : Int)).toNat (false : Bool)) l l_1 l_2)
noncomputable def game_Solved (g' : Tp3) : Option Tp4 :=
  both [(.pair (.list (.int .i64)) (.pair (.list (.int .i64)) .unit))] (
  both [(.pair (.list (.int .i64)) (.pair (.list (.int .i64)) .unit))] (
  G (mkOK (g'.1.length : Int) (g'.1.length : Int) 24) (
  both [(.pair (.list (.int .i64)) (.pair (.list (.int .i64)) .unit))] (
  G (mkOK (g'.1.length : Int) (g'.1.length : Int) 8) (
  G (mkOK (g'.1.length : Int) (g'.1.length : Int) 8) (
  game_Solved_J2 g' g'.1 g'.2.1 g'.2.2.1 (List.replicate ((g'.1.length : Int)).toNat ([] : List Int)) (List.replicate ((g'.1.length : Int)).toNat (0 : Int)) (List.replicate ((g'.1.length : Int)).toNat (0 : Int))))) (
  G (mkOK (g'.1.length : Int) (g'.1.length : Int) 8) (
  G (mkOK (g'.1.length : Int) (g'.1.length : Int) 8) (
  game_Solved_J2 g' g'.1 g'.2.1 g'.2.2.1 (List.replicate ((g'.1.length : Int)).toNat ([] : List Int)) (List.replicate ((g'.1.length : Int)).toNat (0 : Int)) (List.replicate ((g'.1.length : Int)).toNat (0 : Int))))))) (
  both [(.pair (.list (.int .i64)) (.pair (.list (.int .i64)) .unit))] (
  G (mkOK (g'.1.length : Int) (g'.1.length : Int) 8) (
  both [(.pair (.list (.int .i64)) (.pair (.list (.int .i64)) .unit))] (
  G (mkOK (g'.1.length : Int) (g'.1.length : Int) 24) (
  G (mkOK (g'.1.length : Int) (g'.1.length : Int) 8) (
  game_Solved_J2 g' g'.1 g'.2.1 g'.2.2.1 (List.replicate ((g'.1.length : Int)).toNat ([] : List Int)) (List.replicate ((g'.1.length : Int)).toNat (0 : Int)) (List.replicate ((g'.1.length : Int)).toNat (0 : Int))))) (
  G (mkOK (g'.1.length : Int) (g'.1.length : Int) 8) (
  both [(.pair (.list (.int .i64)) (.pair (.list (.int .i64)) .unit))] (
  G (mkOK (g'.1.length : Int) (g'.1.length : Int) 24) (
  game_Solved_J2 g' g'.1 g'.2.1 g'.2.2.1 (List.replicate ((g'.1.length : Int)).toNat ([] : List Int)) (List.replicate ((g'.1.length : Int)).toNat (0 : Int)) (List.replicate ((g'.1.length : Int)).toNat (0 : Int)))) (
  G (mkOK (g'.1.length : Int) (g'.1.length : Int) 24) (
  game_Solved_J2 g' g'.1 g'.2.1 g'.2.2.1 (List.replicate ((g'.1.length : Int)).toNat ([] : List Int)) (List.replicate ((g'.1.length : Int)).toNat (0 : Int)) (List.replicate ((g'.1.length : Int)).toNat (0 : Int)))))))) (
  G (mkOK (g'.1.length : Int) (g'.1.length : Int) 8) (
  both [(.pair (.list (.int .i64)) (.pair (.list (.int .i64)) .unit))] (
  G (mkOK (g'.1.length : Int) (g'.1.length : Int) 24) (
  G (mkOK (g'.1.length : Int) (g'.1.length : Int) 8) (
  game_Solved_J2 g' g'.1 g'.2.1 g'.2.2.1 (List.replicate ((g'.1.length : Int)).toNat ([] : List Int)) (List.replicate ((g'.1.length : Int)).toNat (0 : Int)) (List.replicate ((g'.1.length : Int)).toNat (0 : Int))))) (
  G (mkOK (g'.1.length : Int) (g'.1.length : Int) 8) (
  both [(.pair (.list (.int .i64)) (.pair (.list (.int .i64)) .unit))] (
  G (mkOK (g'.1.length : Int) (g'.1.length : Int) 24) (
  game_Solved_J2 g' g'.1 g'.2.1 g'.2.2.1 (List.replicate ((g'.1.length : Int)).toNat ([] : List Int)) (List.replicate ((g'.1.length : Int)).toNat (0 : Int)) (List.replicate ((g'.1.length : Int)).toNat (0 : Int)))) (
  G (mkOK (g'.1.length : Int) (g'.1.length : Int) 24) (
  game_Solved_J2 g' g'.1 g'.2.1 g'.2.2.1 (List.replicate ((g'.1.length : Int)).toNat ([] : List Int)) (List.replicate ((g'.1.length : Int)).toNat (0 : Int)) (List.replicate ((g'.1.length : Int)).toNat (0 : Int)))))))))) (
  both [(.pair (.list (.int .i64)) (.pair (.list (.int .i64)) .unit))] (
  G (mkOK (g'.1.length : Int) (g'.1.length : Int) 24) (
  both [(.pair (.list (.int .i64)) (.pair (.list (.int .i64)) .unit))] (
  G (mkOK (g'.1.length : Int) (g'.1.length : Int) 8) (
  G (mkOK (g'.1.length : Int) (g'.1.length : Int) 8) (
  game_Solved_J2 g' g'.1 g'.2.1 g'.2.2.1 (List.replicate ((g'.1.length : Int)).toNat ([] : List Int)) (List.replicate ((g'.1.length : Int)).toNat (0 : Int)) (List.replicate ((g'.1.length : Int)).toNat (0 : Int))))) (
  G (mkOK (g'.1.length : Int) (g'.1.length : Int) 8) (
  G (mkOK (g'.1.length : Int) (g'.1.length : Int) 8) (
  game_Solved_J2 g' g'.1 g'.2.1 g'.2.2.1 (List.replicate ((g'.1.length : Int)).toNat ([] : List Int)) (List.replicate ((g'.1.length : Int)).toNat (0 : Int)) (List.replicate ((g'.1.length : Int)).toNat (0 : Int))))))) (
  both [(.pair (.list (.int .i64)) (.pair (.list (.int .i64)) .unit))] (
  G (mkOK (g'.1.length : Int) (g'.1.length : Int) 8) (
  both [(.pair (.list (.int .i64)) (.pair (.list (.int .i64)) .unit))] (
  both [(.pair (.list (.int .i64)) (.pair (.list (.int .i64)) .unit))] (
  G (mkOK (g'.1.length : Int) (g'.1.length : Int) 24) (
  G (mkOK (g'.1.length : Int) (g'.1.length : Int) 8) (
  game_Solved_J2 g' g'.1 g'.2.1 g'.2.2.1 (List.replicate ((g'.1.length : Int)).toNat ([] : List Int)) (List.replicate ((g'.1.length : Int)).toNat (0 : Int)) (List.replicate ((g'.1.length : Int)).toNat (0 : Int))))) (
  G (mkOK (g'.1.length : Int) (g'.1.length : Int) 8) (
  both [(.pair (.list (.int .i64)) (.pair (.list (.int .i64)) .unit))] (
  G (mkOK (g'.1.length : Int) (g'.1.length : Int) 24) (
  game_Solved_J2 g' g'.1 g'.2.1 g'.2.2.1 (List.replicate ((g'.1.length : Int)).toNat ([] : List Int)) (List.replicate ((g'.1.length : Int)).toNat (0 : Int)) (List.replicate ((g'.1.length : Int)).toNat (0 : Int)))) (
  G (mkOK (g'.1.length : Int) (g'.1.length : Int) 24) (
  game_Solved_J2 g' g'.1 g'.2.1 g'.2.2.1 (List.replicate ((g'.1.length : Int)).toNat ([] : List Int)) (List.replicate ((g'.1.length : Int)).toNat (0 : Int)) (List.replicate ((g'.1.length : Int)).toNat (0 : Int))))))) (
  both [(.pair (.list (.int .i64)) (.pair (.list (.int .i64)) .unit))] (
  G (mkOK (g'.1.length : Int) (g'.1.length : Int) 24) (
  G (mkOK (g'.1.length : Int) (g'.1.length : Int) 8) (
  game_Solved_J2 g' g'.1 g'.2.1 g'.2.2.1 (List.replicate ((g'.1.length : Int)).toNat ([] : List Int)) (List.replicate ((g'.1.length : Int)).toNat (0 : Int)) (List.replicate ((g'.1.length : Int)).toNat (0 : Int))))) (
  G (mkOK (g'.1.length : Int) (g'.1.length : Int) 8) (
  both [(.pair (.list (.int .i64)) (.pair (.list (.int .i64)) .unit))] (
  both [(.pair (.list (.int .i64)) (.pair (.list (.int .i64)) .unit))] (
  G (mkOK (g'.1.length : Int) (g'.1.length : Int) 24) (
  game_Solved_J2 g' g'.1 g'.2.1 g'.2.2.1 (List.replicate ((g'.1.length : Int)).toNat ([] : List Int)) (List.replicate ((g'.1.length : Int)).toNat (0 : Int)) (List.replicate ((g'.1.length : Int)).toNat (0 : Int)))) (
  G (mkOK (g'.1.length : Int) (g'.1.length : Int) 24) (
  game_Solved_J2 g' g'.1 g'.2.1 g'.2.2.1 (List.replicate ((g'.1.length : Int)).toNat ([] : List Int)) (List.replicate ((g'.1.length : Int)).toNat (0 : Int)) (List.replicate ((g'.1.length : Int)).toNat (0 : Int))))) (
  both [(.pair (.list (.int .i64)) (.pair (.list (.int .i64)) .unit))] (
  G (mkOK (g'.1.length : Int) (g'.1.length : Int) 24) (
  game_Solved_J2 g' g'.1 g'.2.1 g'.2.2.1 (List.replicate ((g'.1.length : Int)).toNat ([] : List Int)) (List.replicate ((g'.1.length : Int)).toNat (0 : Int)) (List.replicate ((g'.1.length : Int)).toNat (0 : Int)))) (
  both [(.pair (.list (.int .i64)) (.pair (.list (.int .i64)) .unit))] (
  G (mkOK (g'.1.length : Int) (g'.1.length : Int) 24) (
  game_Solved_J2 g' g'.1 g'.2.1 g'.2.2.1 (List.replicate ((g'.1.length : Int)).toNat ([] : List Int)) (List.replicate ((g'.1.length : Int)).toNat (0 : Int)) (List.replicate ((g'.1.length : Int)).toNat (0 : Int)))) (
  G (mkOK (g'.1.length : Int) (g'.1.length : Int) 24) (
  game_Solved_J2 g' g'.1 g'.2.1 g'.2.2.1 (List.replicate ((g'.1.length : Int)).toNat ([] : List Int)) (List.replicate ((g'.1.length : Int)).toNat (0 : Int)) (List.replicate ((g'.1.length : Int)).toNat (0 : Int))))))))))) (
  G (mkOK (g'.1.length : Int) (g'.1.length : Int) 8) (
  both [(.pair (.list (.int .i64)) (.pair (.list (.int .i64)) .unit))] (
  both [(.pair (.list (.int .i64)) (.pair (.list (.int .i64)) .unit))] (
  G (mkOK (g'.1.length : Int) (g'.1.length : Int) 24) (
  G (mkOK (g'.1.length : Int) (g'.1.length : Int) 8) (
  game_Solved_J2 g' g'.1 g'.2.1 g'.2.2.1 (List.replicate ((g'.1.length : Int)).toNat ([] : List Int)) (List.replicate ((g'.1.length : Int)).toNat (0 : Int)) (List.replicate ((g'.1.length : Int)).toNat (0 : Int))))) (
  G (mkOK (g'.1.length : Int) (g'.1.length : Int) 8) (
  both [(.pair (.list (.int .i64)) (.pair (.list (.int .i64)) .unit))] (
  G (mkOK (g'.1.length : Int) (g'.1.length : Int) 24) (
  game_Solved_J2 g' g'.1 g'.2.1 g'.2.2.1 (List.replicate ((g'.1.length : Int)).toNat ([] : List Int)) (List.replicate ((g'.1.length : Int)).toNat (0 : Int)) (List.replicate ((g'.1.length : Int)).toNat (0 : Int)))) (
  G (mkOK (g'.1.length : Int) (g'.1.length : Int) 24) (
  game_Solved_J2 g' g'.1 g'.2.1 g'.2.2.1 (List.replicate ((g'.1.length : Int)).toNat ([] : List Int)) (List.replicate ((g'.1.length : Int)).toNat (0 : Int)) (List.replicate ((g'.1.length : Int)).toNat (0 : Int))))))) (
  both [(.pair (.list (.int .i64)) (.pair (.list (.int .i64)) .unit))] (
  G (mkOK (g'.1.length : Int) (g'.1.length : Int) 24) (
  G (mkOK (g'.1.length : Int) (g'.1.length : Int) 8) (
  game_Solved_J2 g' g'.1 g'.2.1 g'.2.2.1 (List.replicate ((g'.1.length : Int)).toNat ([] : List Int)) (List.replicate ((g'.1.length : Int)).toNat (0 : Int)) (List.replicate ((g'.1.length : Int)).toNat (0 : Int))))) (
  G (mkOK (g'.1.length : Int) (g'.1.length : Int) 8) (
  both [(.pair (.list (.int .i64)) (.pair (.list (.int .i64)) .unit))] (
  both [(.pair (.list (.int .i64)) (.pair (.list (.int .i64)) .unit))] (
  G (mkOK (g'.1.length : Int) (g'.1.length : Int) 24) (
  game_Solved_J2 g' g'.1 g'.2.1 g'.2.2.1 (List.replicate ((g'.1.length : Int)).toNat ([] : List Int)) (List.replicate ((g'.1.length : Int)).toNat (0 : Int)) (List.replicate ((g'.1.length : Int)).toNat (0 : Int)))) (
  G (mkOK (g'.1.length : Int) (g'.1.length : Int) 24) (
  game_Solved_J2 g' g'.1 g'.2.1 g'.2.2.1 (List.replicate ((g'.1.length : Int)).toNat ([] : List Int)) (List.replicate ((g'.1.length : Int)).toNat (0 : Int)) (List.replicate ((g'.1.length : Int)).toNat (0 : Int))))) (
  both [(.pair (.list (.int .i64)) (.pair (.list (.int .i64)) .unit))] (
  G (mkOK (g'.1.length : Int) (g'.1.length : Int) 24) (
  game_Solved_J2 g' g'.1 g'.2.1 g'.2.2.1 (List.replicate ((g'.1.length : Int)).toNat ([] : List Int)) (List.replicate ((g'.1.length : Int)).toNat (0 : Int)) (List.replicate ((g'.1.length : Int)).toNat (0 : Int)))) (
  both [(.pair (.list (.int .i64)) (.pair (.list (.int .i64)) .unit))] (
  G (mkOK (g'.1.length : Int) (g'.1.length : Int) 24) (
  game_Solved_J2 g' g'.1 g'.2.1 g'.2.2.1 (List.replicate ((g'.1.length : Int)).toNat ([] : List Int)) (List.replicate ((g'.1.length : Int)).toNat (0 : Int)) (List.replicate ((g'.1.length : Int)).toNat (0 : Int)))) (
  G (mkOK (g'.1.length : Int) (g'.1.length : Int) 24) (
  game_Solved_J2 g' g'.1 g'.2.1 g'.2.2.1 (List.replicate ((g'.1.length : Int)).toNat ([] : List Int)) (List.replicate ((g'.1.length : Int)).toNat (0 : Int)) (List.replicate ((g'.1.length : Int)).toNat (0 : Int)))))))))))))
theorem game_Solved_J11_ch (r9 : Nat → Int → (List Int) → (List Int) → (List (List Int)) → (List (List Int)) → (List Int) → (List Int) → Option Tp4) (r9' : Int → (List Int) → (List Int) → (List (List Int)) → (List (List Int)) → (List Int) → (List Int) → Option Tp4) (h_r9 : ∀ a0 a1 a2 a3 a4 a5 a6, ChO (fun κ => r9 κ a0 a1 a2 a3 a4 a5 a6) (r9' a0 a1 a2 a3 a4 a5 a6)) (t_1 : Int) (s_9 : (List Int)) (s_10 : (List Int)) (s_11 : (List (List Int))) (l_9 : (List (List Int))) (l_10 : (List Int)) (l_11 : (List Int)) : ChO (fun κ => game_Solved_J11 t_1 (r9 κ) s_9 s_10 s_11 l_9 l_10 l_11) (game_Solved_J11 t_1 r9' s_9 s_10 s_11 l_9 l_10 l_11) := by
  unfold game_Solved_J11
  repeat' with_reducible first | exact ChO.const _ | exact h_r9 _ _ _ _ _ _ _ | apply ChO.ite | apply ChO.G | apply ChO.both | (apply ChO.bind; intro _)
theorem game_Solved_L9_B_ch (r5 : Nat → Int → (List Int) → (List Int) → (List (List Int)) → (List Bool) → (List (List Int)) → (List Int) → (List Int) → Option Tp4) (r5' : Int → (List Int) → (List Int) → (List (List Int)) → (List Bool) → (List (List Int)) → (List Int) → (List Int) → Option Tp4) (h_r5 : ∀ a0 a1 a2 a3 a4 a5 a6 a7, ChO (fun κ => r5 κ a0 a1 a2 a3 a4 a5 a6 a7) (r5' a0 a1 a2 a3 a4 a5 a6 a7)) (r9 : Nat → Int → (List Int) → (List Int) → (List (List Int)) → (List (List Int)) → (List Int) → (List Int) → Option Tp4) (r9' : Int → (List Int) → (List Int) → (List (List Int)) → (List (List Int)) → (List Int) → (List Int) → Option Tp4) (h_r9 : ∀ a0 a1 a2 a3 a4 a5 a6, ChO (fun κ => r9 κ a0 a1 a2 a3 a4 a5 a6) (r9' a0 a1 a2 a3 a4 a5 a6)) (g' : Tp3) (t : Int) (all' : (List Bool)) (t_1 : Int) (s_6 : (List Int)) (s_7 : (List Int)) (s_8 : (List (List Int))) (l_6 : (List (List Int))) (l_7 : (List Int)) (l_8 : (List Int)) : ChO (fun κ => game_Solved_L9_B g' t all' (r5 κ) (r9 κ) t_1 s_6 s_7 s_8 l_6 l_7 l_8) (game_Solved_L9_B g' t all' r5' r9' t_1 s_6 s_7 s_8 l_6 l_7 l_8) := by
  unfold game_Solved_L9_B
  repeat' with_reducible first | exact ChO.const _ | exact h_r5 _ _ _ _ _ _ _ _ | exact h_r9 _ _ _ _ _ _ _ | (apply game_Solved_J11_ch <;> assumption) | apply ChO.ite | apply ChO.G | apply ChO.both | (apply ChO.bind; intro _)
theorem game_Solved_L9_cn (r5 : Int → (List Int) → (List Int) → (List (List Int)) → (List Bool) → (List (List Int)) → (List Int) → (List Int) → Option Tp4) (g' : Tp3) (t : Int) (all' : (List Bool)) : Cn (game_Solved_L9_F g' t all' r5) := fun g h hg x => game_Solved_L9_B_ch (fun _ => r5) r5 (fun _ _ _ _ _ _ _ _ => ChO.const _) (fun κ t_1 s_6 s_7 s_8 l_6 l_7 l_8 => g κ (t_1, s_6, s_7, s_8, l_6, l_7, l_8)) (fun t_1 s_6 s_7 s_8 l_6 l_7 l_8 => h (t_1, s_6, s_7, s_8, l_6, l_7, l_8)) (fun t_1 s_6 s_7 s_8 l_6 l_7 l_8 => hg (t_1, s_6, s_7, s_8, l_6, l_7, l_8)) g' t all' x.1 x.2.1 x.2.2.1 x.2.2.2.1 x.2.2.2.2.1 x.2.2.2.2.2.1 x.2.2.2.2.2.2
theorem game_Solved_L9_eq (r5 : Int → (List Int) → (List Int) → (List (List Int)) → (List Bool) → (List (List Int)) → (List Int) → (List Int) → Option Tp4) (g' : Tp3) (t : Int) (all' : (List Bool)) (t_1 : Int) (s_6 : (List Int)) (s_7 : (List Int)) (s_8 : (List (List Int))) (l_6 : (List (List Int))) (l_7 : (List Int)) (l_8 : (List Int)) : game_Solved_L9 g' t all' r5 t_1 s_6 s_7 s_8 l_6 l_7 l_8 = game_Solved_L9_B g' t all' r5 (game_Solved_L9 g' t all' r5) t_1 s_6 s_7 s_8 l_6 l_7 l_8 := LFix_eq (game_Solved_L9_cn r5 g' t all') (t_1, s_6, s_7, s_8, l_6, l_7, l_8)
theorem game_Solved_L9_ch (r5 : Nat → Int → (List Int) → (List Int) → (List (List Int)) → (List Bool) → (List (List Int)) → (List Int) → (List Int) → Option Tp4) (r5' : Int → (List Int) → (List Int) → (List (List Int)) → (List Bool) → (List (List Int)) → (List Int) → (List Int) → Option Tp4) (h_r5 : ∀ a0 a1 a2 a3 a4 a5 a6 a7, ChO (fun κ => r5 κ a0 a1 a2 a3 a4 a5 a6 a7) (r5' a0 a1 a2 a3 a4 a5 a6 a7)) (g' : Tp3) (t : Int) (all' : (List Bool)) (t_1 : Int) (s_6 : (List Int)) (s_7 : (List Int)) (s_8 : (List (List Int))) (l_6 : (List (List Int))) (l_7 : (List Int)) (l_8 : (List Int)) : ChO (fun κ => game_Solved_L9 g' t all' (r5 κ) t_1 s_6 s_7 s_8 l_6 l_7 l_8) (game_Solved_L9 g' t all' r5' t_1 s_6 s_7 s_8 l_6 l_7 l_8) := by
  unfold game_Solved_L9
  exact LFix_ch (fun κ => (game_Solved_L9_cn (r5 κ) g' t all').mono) (game_Solved_L9_cn r5' g' t all').mono (fun g h hg x => game_Solved_L9_B_ch r5 r5' h_r5 (fun κ t_1 s_6 s_7 s_8 l_6 l_7 l_8 => g κ (t_1, s_6, s_7, s_8, l_6, l_7, l_8)) (fun t_1 s_6 s_7 s_8 l_6 l_7 l_8 => h (t_1, s_6, s_7, s_8, l_6, l_7, l_8)) (fun t_1 s_6 s_7 s_8 l_6 l_7 l_8 => hg (t_1, s_6, s_7, s_8, l_6, l_7, l_8)) g' t all' x.1 x.2.1 x.2.2.1 x.2.2.2.1 x.2.2.2.2.1 x.2.2.2.2.2.1 x.2.2.2.2.2.2) _
theorem game_Solved_L16_B_ch (r16 : Nat → Int → (List Int) → (List Int) → (List (List Int)) → (List (List Int)) → (List Int) → (List Int) → Option Tp4) (r16' : Int → (List Int) → (List Int) → (List (List Int)) → (List (List Int)) → (List Int) → (List Int) → Option Tp4) (h_r16 : ∀ a0 a1 a2 a3 a4 a5 a6, ChO (fun κ => r16 κ a0 a1 a2 a3 a4 a5 a6) (r16' a0 a1 a2 a3 a4 a5 a6)) (g' : Tp3) (t_2 : Int) (s_12 : (List Int)) (s_13 : (List Int)) (s_14 : (List (List Int))) (s_15 : (List (List Int))) (l_12 : (List Int)) (l_13 : (List Int)) : ChO (fun κ => game_Solved_L16_B g' (r16 κ) t_2 s_12 s_13 s_14 s_15 l_12 l_13) (game_Solved_L16_B g' r16' t_2 s_12 s_13 s_14 s_15 l_12 l_13) := by
  unfold game_Solved_L16_B
  repeat' with_reducible first | exact ChO.const _ | exact h_r16 _ _ _ _ _ _ _ | (apply game_Solved_J11_ch <;> assumption) | (apply game_Solved_L9_ch <;> assumption) | apply ChO.ite | apply ChO.G | apply ChO.both | (apply ChO.bind; intro _)
theorem game_Solved_L16_cn  (g' : Tp3) : Cn (game_Solved_L16_F g') := fun g h hg x => game_Solved_L16_B_ch  (fun κ t_2 s_12 s_13 s_14 s_15 l_12 l_13 => g κ (t_2, s_12, s_13, s_14, s_15, l_12, l_13)) (fun t_2 s_12 s_13 s_14 s_15 l_12 l_13 => h (t_2, s_12, s_13, s_14, s_15, l_12, l_13)) (fun t_2 s_12 s_13 s_14 s_15 l_12 l_13 => hg (t_2, s_12, s_13, s_14, s_15, l_12, l_13)) g' x.1 x.2.1 x.2.2.1 x.2.2.2.1 x.2.2.2.2.1 x.2.2.2.2.2.1 x.2.2.2.2.2.2
theorem game_Solved_L16_eq  (g' : Tp3) (t_2 : Int) (s_12 : (List Int)) (s_13 : (List Int)) (s_14 : (List (List Int))) (s_15 : (List (List Int))) (l_12 : (List Int)) (l_13 : (List Int)) : game_Solved_L16 g' t_2 s_12 s_13 s_14 s_15 l_12 l_13 = game_Solved_L16_B g' (game_Solved_L16 g') t_2 s_12 s_13 s_14 s_15 l_12 l_13 := LFix_eq (game_Solved_L16_cn g') (t_2, s_12, s_13, s_14, s_15, l_12, l_13)
theorem game_Solved_L5_B_ch (r5 : Nat → Int → (List Int) → (List Int) → (List (List Int)) → (List Bool) → (List (List Int)) → (List Int) → (List Int) → Option Tp4) (r5' : Int → (List Int) → (List Int) → (List (List Int)) → (List Bool) → (List (List Int)) → (List Int) → (List Int) → Option Tp4) (h_r5 : ∀ a0 a1 a2 a3 a4 a5 a6 a7, ChO (fun κ => r5 κ a0 a1 a2 a3 a4 a5 a6 a7) (r5' a0 a1 a2 a3 a4 a5 a6 a7)) (g' : Tp3) (t : Int) (s_3 : (List Int)) (s_4 : (List Int)) (s_5 : (List (List Int))) (all' : (List Bool)) (l_3 : (List (List Int))) (l_4 : (List Int)) (l_5 : (List Int)) : ChO (fun κ => game_Solved_L5_B g' (r5 κ) t s_3 s_4 s_5 all' l_3 l_4 l_5) (game_Solved_L5_B g' r5' t s_3 s_4 s_5 all' l_3 l_4 l_5) := by
  unfold game_Solved_L5_B
  repeat' with_reducible first | exact ChO.const _ | exact h_r5 _ _ _ _ _ _ _ _ | (apply game_Solved_J11_ch <;> assumption) | (apply game_Solved_L9_ch <;> assumption) | apply ChO.ite | apply ChO.G | apply ChO.both | (apply ChO.bind; intro _)
theorem game_Solved_L5_cn  (g' : Tp3) : Cn (game_Solved_L5_F g') := fun g h hg x => game_Solved_L5_B_ch  (fun κ t s_3 s_4 s_5 all' l_3 l_4 l_5 => g κ (t, s_3, s_4, s_5, all', l_3, l_4, l_5)) (fun t s_3 s_4 s_5 all' l_3 l_4 l_5 => h (t, s_3, s_4, s_5, all', l_3, l_4, l_5)) (fun t s_3 s_4 s_5 all' l_3 l_4 l_5 => hg (t, s_3, s_4, s_5, all', l_3, l_4, l_5)) g' x.1 x.2.1 x.2.2.1 x.2.2.2.1 x.2.2.2.2.1 x.2.2.2.2.2.1 x.2.2.2.2.2.2.1 x.2.2.2.2.2.2.2
theorem game_Solved_L5_eq  (g' : Tp3) (t : Int) (s_3 : (List Int)) (s_4 : (List Int)) (s_5 : (List (List Int))) (all' : (List Bool)) (l_3 : (List (List Int))) (l_4 : (List Int)) (l_5 : (List Int)) : game_Solved_L5 g' t s_3 s_4 s_5 all' l_3 l_4 l_5 = game_Solved_L5_B g' (game_Solved_L5 g') t s_3 s_4 s_5 all' l_3 l_4 l_5 := LFix_eq (game_Solved_L5_cn g') (t, s_3, s_4, s_5, all', l_3, l_4, l_5)

noncomputable def game_Solve (g' : Tp3) : Option (Tp4 × Int) :=
  (game_Check (g'.1, (g'.2.1, (g'.2.2.1, ())))).bind (fun y' =>
  if (decide (¬ y' = (0 : Int))) = true then
  some (([], ([], ())), y') else
  (game_Solved (g'.1, (g'.2.1, (g'.2.2.1, ())))).bind (fun y'_1 =>
  some ((y'_1.1, (y'_1.2.1, ())), (0 : Int))))

noncomputable def r10_Check_L23_B (g' : Tp3) (i_1 : Int) (r12 : (Int → Option (Int))) (r23 : Int → Option (Int)) (k_1 : Int) : Option (Int) :=
  if (decide (k_1 < ((ix g'.2.2.1 i_1).length : Int))) = true then
  G (fits (k_1 - (1 : Int))) (
  G (0 ≤ k_1 - (1 : Int) ∧ k_1 - (1 : Int) < ((ix g'.2.2.1 i_1).length : Int)) (
  G (0 ≤ k_1 ∧ k_1 < ((ix g'.2.2.1 i_1).length : Int)) (
  if (decide ((ix (ix g'.2.2.1 i_1) k_1) ≤ (ix (ix g'.2.2.1 i_1) (k_1 - (1 : Int))))) = true then
  some (3 : Int) else
  G (fits (k_1 + (1 : Int))) (
  r23 (k_1 + (1 : Int)))))) else
  G (fits (i_1 + (1 : Int))) (
  r12 (i_1 + (1 : Int)))
noncomputable def r10_Check_L23_F (g' : Tp3) (i_1 : Int) (r12 : (Int → Option (Int))) : (Int → Option (Int)) → Int → Option (Int) :=
  fun rec x => r10_Check_L23_B g' i_1 r12 (fun k_1 => rec k_1) x
noncomputable def r10_Check_L23 (g' : Tp3) (i_1 : Int) (r12 : (Int → Option (Int))) (k_1 : Int) : Option (Int) := LFix (r10_Check_L23_F g' i_1 r12 ) k_1
noncomputable def r10_Check_L18_B (g' : Tp3) (i_1 : Int) (r12 : (Int → Option (Int))) (r18 : Int → Option (Int)) (k : Int) : Option (Int) :=
  if (decide (k < ((ix g'.2.2.1 i_1).length : Int))) = true then
  G (0 ≤ k ∧ k < ((ix g'.2.2.1 i_1).length : Int)) (
  if (decide ((ix (ix g'.2.2.1 i_1) k) < (0 : Int))) = true then
  some (2 : Int) else
  G (0 ≤ k ∧ k < ((ix g'.2.2.1 i_1).length : Int)) (
  if (decide ((g'.1.length : Int) ≤ (ix (ix g'.2.2.1 i_1) k))) = true then
  some (2 : Int) else
  G (fits (k + (1 : Int))) (
  r18 (k + (1 : Int))))) else
  r10_Check_L23 g' i_1 r12 (1 : Int)
noncomputable def r10_Check_L18_F (g' : Tp3) (i_1 : Int) (r12 : (Int → Option (Int))) : (Int → Option (Int)) → Int → Option (Int) :=
  fun rec x => r10_Check_L18_B g' i_1 r12 (fun k => rec k) x
noncomputable def r10_Check_L18 (g' : Tp3) (i_1 : Int) (r12 : (Int → Option (Int))) (k : Int) : Option (Int) := LFix (r10_Check_L18_F g' i_1 r12 ) k
noncomputable def r10_Check_L12_B (g' : Tp3) (r12 : Int → Option (Int)) (i_1 : Int) : Option (Int) :=
  if (decide (i_1 < (g'.1.length : Int))) = true then
  G (0 ≤ i_1 ∧ i_1 < (g'.2.2.1.length : Int)) (
  if (decide (((ix g'.2.2.1 i_1).length : Int) = (0 : Int))) = true then
  some (6 : Int) else
  r10_Check_L18 g' i_1 r12 (0 : Int)) else
  some (0 : Int)
noncomputable def r10_Check_L12_F (g' : Tp3) : (Int → Option (Int)) → Int → Option (Int) :=
  fun rec x => r10_Check_L12_B g' (fun i_1 => rec i_1) x
noncomputable def r10_Check_L12 (g' : Tp3) (i_1 : Int) : Option (Int) := LFix (r10_Check_L12_F g' ) i_1
noncomputable def r10_Check_L7_B (g' : Tp3) (r7 : Int → Option (Int)) (i : Int) : Option (Int) :=
  if (decide (i < (g'.1.length : Int))) = true then
  G (0 ≤ i ∧ i < (g'.1.length : Int)) (
  if (decide (¬ (ix g'.1 i) = (0 : Int))) = true then
  G (0 ≤ i ∧ i < (g'.1.length : Int)) (
  if (decide (¬ (ix g'.1 i) = (1 : Int))) = true then
  some (2 : Int) else
  G (0 ≤ i ∧ i < (g'.2.1.length : Int)) (
  if (decide ((ix g'.2.1 i) < (0 : Int))) = true then
  some (2 : Int) else
  G (0 ≤ i ∧ i < (g'.2.1.length : Int)) (
  if (decide ((9 : Int) < (ix g'.2.1 i))) = true then
  some (2 : Int) else
  G (fits (i + (1 : Int))) (
  r7 (i + (1 : Int)))))) else
  G (0 ≤ i ∧ i < (g'.2.1.length : Int)) (
  if (decide ((ix g'.2.1 i) < (0 : Int))) = true then
  some (2 : Int) else
  G (0 ≤ i ∧ i < (g'.2.1.length : Int)) (
  if (decide ((9 : Int) < (ix g'.2.1 i))) = true then
  some (2 : Int) else
  G (fits (i + (1 : Int))) (
  r7 (i + (1 : Int)))))) else
  r10_Check_L12 g' (0 : Int)
noncomputable def r10_Check_L7_F (g' : Tp3) : (Int → Option (Int)) → Int → Option (Int) :=
  fun rec x => r10_Check_L7_B g' (fun i => rec i) x
noncomputable def r10_Check_L7 (g' : Tp3) (i : Int) : Option (Int) := LFix (r10_Check_L7_F g' ) i
noncomputable def r10_Check (g' : Tp3) : Option (Int) :=
  if (decide ((g'.1.length : Int) < (1 : Int))) = true then
  some (1 : Int) else
  if (decide ((60 : Int) < (g'.1.length : Int))) = true then
  some (1 : Int) else
  if (decide (¬ (g'.2.1.length : Int) = (g'.1.length : Int))) = true then
  some (3 : Int) else
  if (decide (¬ (g'.2.2.1.length : Int) = (g'.1.length : Int))) = true then
  some (3 : Int) else
  r10_Check_L7 g' (0 : Int)
theorem r10_Check_L23_B_ch (r12 : Nat → Int → Option (Int)) (r12' : Int → Option (Int)) (h_r12 : ∀ a0, ChO (fun κ => r12 κ a0) (r12' a0)) (r23 : Nat → Int → Option (Int)) (r23' : Int → Option (Int)) (h_r23 : ∀ a0, ChO (fun κ => r23 κ a0) (r23' a0)) (g' : Tp3) (i_1 : Int) (k_1 : Int) : ChO (fun κ => r10_Check_L23_B g' i_1 (r12 κ) (r23 κ) k_1) (r10_Check_L23_B g' i_1 r12' r23' k_1) := by
  unfold r10_Check_L23_B
  repeat' with_reducible first | exact ChO.const _ | exact h_r12 _ | exact h_r23 _ | apply ChO.ite | apply ChO.G | apply ChO.both | (apply ChO.bind; intro _)
theorem r10_Check_L23_cn (r12 : Int → Option (Int)) (g' : Tp3) (i_1 : Int) : Cn (r10_Check_L23_F g' i_1 r12) := fun g h hg x => r10_Check_L23_B_ch (fun _ => r12) r12 (fun _ => ChO.const _) (fun κ k_1 => g κ k_1) (fun k_1 => h k_1) (fun k_1 => hg k_1) g' i_1 x
theorem r10_Check_L23_eq (r12 : Int → Option (Int)) (g' : Tp3) (i_1 : Int) (k_1 : Int) : r10_Check_L23 g' i_1 r12 k_1 = r10_Check_L23_B g' i_1 r12 (r10_Check_L23 g' i_1 r12) k_1 := LFix_eq (r10_Check_L23_cn r12 g' i_1) k_1
theorem r10_Check_L23_ch (r12 : Nat → Int → Option (Int)) (r12' : Int → Option (Int)) (h_r12 : ∀ a0, ChO (fun κ => r12 κ a0) (r12' a0)) (g' : Tp3) (i_1 : Int) (k_1 : Int) : ChO (fun κ => r10_Check_L23 g' i_1 (r12 κ) k_1) (r10_Check_L23 g' i_1 r12' k_1) := by
  unfold r10_Check_L23
  exact LFix_ch (fun κ => (r10_Check_L23_cn (r12 κ) g' i_1).mono) (r10_Check_L23_cn r12' g' i_1).mono (fun g h hg x => r10_Check_L23_B_ch r12 r12' h_r12 (fun κ k_1 => g κ k_1) (fun k_1 => h k_1) (fun k_1 => hg k_1) g' i_1 x) _
theorem r10_Check_L18_B_ch (r12 : Nat → Int → Option (Int)) (r12' : Int → Option (Int)) (h_r12 : ∀ a0, ChO (fun κ => r12 κ a0) (r12' a0)) (r18 : Nat → Int → Option (Int)) (r18' : Int → Option (Int)) (h_r18 : ∀ a0, ChO (fun κ => r18 κ a0) (r18' a0)) (g' : Tp3) (i_1 : Int) (k : Int) : ChO (fun κ => r10_Check_L18_B g' i_1 (r12 κ) (r18 κ) k) (r10_Check_L18_B g' i_1 r12' r18' k) := by
  unfold r10_Check_L18_B
  repeat' with_reducible first | exact ChO.const _ | exact h_r12 _ | exact h_r18 _ | (apply r10_Check_L23_ch <;> assumption) | apply ChO.ite | apply ChO.G | apply ChO.both | (apply ChO.bind; intro _)
theorem r10_Check_L18_cn (r12 : Int → Option (Int)) (g' : Tp3) (i_1 : Int) : Cn (r10_Check_L18_F g' i_1 r12) := fun g h hg x => r10_Check_L18_B_ch (fun _ => r12) r12 (fun _ => ChO.const _) (fun κ k => g κ k) (fun k => h k) (fun k => hg k) g' i_1 x
theorem r10_Check_L18_eq (r12 : Int → Option (Int)) (g' : Tp3) (i_1 : Int) (k : Int) : r10_Check_L18 g' i_1 r12 k = r10_Check_L18_B g' i_1 r12 (r10_Check_L18 g' i_1 r12) k := LFix_eq (r10_Check_L18_cn r12 g' i_1) k
theorem r10_Check_L18_ch (r12 : Nat → Int → Option (Int)) (r12' : Int → Option (Int)) (h_r12 : ∀ a0, ChO (fun κ => r12 κ a0) (r12' a0)) (g' : Tp3) (i_1 : Int) (k : Int) : ChO (fun κ => r10_Check_L18 g' i_1 (r12 κ) k) (r10_Check_L18 g' i_1 r12' k) := by
  unfold r10_Check_L18
  exact LFix_ch (fun κ => (r10_Check_L18_cn (r12 κ) g' i_1).mono) (r10_Check_L18_cn r12' g' i_1).mono (fun g h hg x => r10_Check_L18_B_ch r12 r12' h_r12 (fun κ k => g κ k) (fun k => h k) (fun k => hg k) g' i_1 x) _
theorem r10_Check_L12_B_ch (r12 : Nat → Int → Option (Int)) (r12' : Int → Option (Int)) (h_r12 : ∀ a0, ChO (fun κ => r12 κ a0) (r12' a0)) (g' : Tp3) (i_1 : Int) : ChO (fun κ => r10_Check_L12_B g' (r12 κ) i_1) (r10_Check_L12_B g' r12' i_1) := by
  unfold r10_Check_L12_B
  repeat' with_reducible first | exact ChO.const _ | exact h_r12 _ | (apply r10_Check_L23_ch <;> assumption) | (apply r10_Check_L18_ch <;> assumption) | apply ChO.ite | apply ChO.G | apply ChO.both | (apply ChO.bind; intro _)
theorem r10_Check_L12_cn  (g' : Tp3) : Cn (r10_Check_L12_F g') := fun g h hg x => r10_Check_L12_B_ch  (fun κ i_1 => g κ i_1) (fun i_1 => h i_1) (fun i_1 => hg i_1) g' x
theorem r10_Check_L12_eq  (g' : Tp3) (i_1 : Int) : r10_Check_L12 g' i_1 = r10_Check_L12_B g' (r10_Check_L12 g') i_1 := LFix_eq (r10_Check_L12_cn g') i_1
theorem r10_Check_L7_B_ch (r7 : Nat → Int → Option (Int)) (r7' : Int → Option (Int)) (h_r7 : ∀ a0, ChO (fun κ => r7 κ a0) (r7' a0)) (g' : Tp3) (i : Int) : ChO (fun κ => r10_Check_L7_B g' (r7 κ) i) (r10_Check_L7_B g' r7' i) := by
  unfold r10_Check_L7_B
  repeat' with_reducible first | exact ChO.const _ | exact h_r7 _ | (apply r10_Check_L23_ch <;> assumption) | (apply r10_Check_L18_ch <;> assumption) | apply ChO.ite | apply ChO.G | apply ChO.both | (apply ChO.bind; intro _)
theorem r10_Check_L7_cn  (g' : Tp3) : Cn (r10_Check_L7_F g') := fun g h hg x => r10_Check_L7_B_ch  (fun κ i => g κ i) (fun i => h i) (fun i => hg i) g' x
theorem r10_Check_L7_eq  (g' : Tp3) (i : Int) : r10_Check_L7 g' i = r10_Check_L7_B g' (r10_Check_L7 g') i := LFix_eq (r10_Check_L7_cn g') i

noncomputable def r1_Words_L4_B (a : (List Int)) (b : (List Int)) (r4 : Int → Option (Bool)) (i : Int) : Option (Bool) :=
  if (decide (i < (a.length : Int))) = true then
  G (0 ≤ i ∧ i < (a.length : Int)) (
  G (0 ≤ i ∧ i < (b.length : Int)) (
  if (decide (¬ (ix a i) = (ix b i))) = true then
  some false else
  G (fits (i + (1 : Int))) (
  r4 (i + (1 : Int))))) else
  some true
noncomputable def r1_Words_L4_F (a : (List Int)) (b : (List Int)) : (Int → Option (Bool)) → Int → Option (Bool) :=
  fun rec x => r1_Words_L4_B a b (fun i => rec i) x
noncomputable def r1_Words_L4 (a : (List Int)) (b : (List Int)) (i : Int) : Option (Bool) := LFix (r1_Words_L4_F a b ) i
noncomputable def r1_Words (a : (List Int)) (b : (List Int)) : Option (Bool) :=
  if (decide (¬ (a.length : Int) = (b.length : Int))) = true then
  some false else
  r1_Words_L4 a b (0 : Int)
theorem r1_Words_L4_B_ch (r4 : Nat → Int → Option (Bool)) (r4' : Int → Option (Bool)) (h_r4 : ∀ a0, ChO (fun κ => r4 κ a0) (r4' a0)) (a : (List Int)) (b : (List Int)) (i : Int) : ChO (fun κ => r1_Words_L4_B a b (r4 κ) i) (r1_Words_L4_B a b r4' i) := by
  unfold r1_Words_L4_B
  repeat' with_reducible first | exact ChO.const _ | exact h_r4 _ | apply ChO.ite | apply ChO.G | apply ChO.both | (apply ChO.bind; intro _)
theorem r1_Words_L4_cn  (a : (List Int)) (b : (List Int)) : Cn (r1_Words_L4_F a b) := fun g h hg x => r1_Words_L4_B_ch  (fun κ i => g κ i) (fun i => h i) (fun i => hg i) a b x
theorem r1_Words_L4_eq  (a : (List Int)) (b : (List Int)) (i : Int) : r1_Words_L4 a b i = r1_Words_L4_B a b (r1_Words_L4 a b) i := LFix_eq (r1_Words_L4_cn a b) i

noncomputable def law_sameLists_L4_B (a : (List (List Int))) (b : (List (List Int))) (r4 : Int → Option (Bool)) (i : Int) : Option (Bool) :=
  if (decide (i < (a.length : Int))) = true then
  G (0 ≤ i ∧ i < (a.length : Int)) (
  G (0 ≤ i ∧ i < (b.length : Int)) (
  (r1_Words (ix a i) (ix b i)).bind (fun y' =>
  if (!y') = true then
  some false else
  G (fits (i + (1 : Int))) (
  r4 (i + (1 : Int)))))) else
  some true
noncomputable def law_sameLists_L4_F (a : (List (List Int))) (b : (List (List Int))) : (Int → Option (Bool)) → Int → Option (Bool) :=
  fun rec x => law_sameLists_L4_B a b (fun i => rec i) x
noncomputable def law_sameLists_L4 (a : (List (List Int))) (b : (List (List Int))) (i : Int) : Option (Bool) := LFix (law_sameLists_L4_F a b ) i
noncomputable def law_sameLists (a : (List (List Int))) (b : (List (List Int))) : Option (Bool) :=
  if (decide (¬ (a.length : Int) = (b.length : Int))) = true then
  some false else
  law_sameLists_L4 a b (0 : Int)
theorem law_sameLists_L4_B_ch (r4 : Nat → Int → Option (Bool)) (r4' : Int → Option (Bool)) (h_r4 : ∀ a0, ChO (fun κ => r4 κ a0) (r4' a0)) (a : (List (List Int))) (b : (List (List Int))) (i : Int) : ChO (fun κ => law_sameLists_L4_B a b (r4 κ) i) (law_sameLists_L4_B a b r4' i) := by
  unfold law_sameLists_L4_B
  repeat' with_reducible first | exact ChO.const _ | exact h_r4 _ | apply ChO.ite | apply ChO.G | apply ChO.both | (apply ChO.bind; intro _)
theorem law_sameLists_L4_cn  (a : (List (List Int))) (b : (List (List Int))) : Cn (law_sameLists_L4_F a b) := fun g h hg x => law_sameLists_L4_B_ch  (fun κ i => g κ i) (fun i => h i) (fun i => hg i) a b x
theorem law_sameLists_L4_eq  (a : (List (List Int))) (b : (List (List Int))) (i : Int) : law_sameLists_L4 a b i = law_sameLists_L4_B a b (law_sameLists_L4 a b) i := LFix_eq (law_sameLists_L4_cn a b) i

noncomputable def r10_Odd_J17 (next' : (List (List Int))) (i : Int) (row : (List Int)) (k : Int) (seen_1 : (List Bool)) (row_1 : (List Int)) (r12 : (Int → (List Bool) → (List Int) → Option (Bool))) (t : Bool) : Option (Bool) :=
  if t = true then
  G (0 ≤ ix (ix next' (ix row i)) k ∧ ix (ix next' (ix row i)) k < (seen_1.length : Int)) (
  G ((ix (ix next' (ix row i)) k).toNat < seen_1.length) (
  G (room row_1 ([ix (ix next' (ix row i)) k]) 8) (
  G (fits (k + (1 : Int))) (
  r12 (k + (1 : Int)) (seen_1.set (ix (ix next' (ix row i)) k).toNat true) (row_1 ++ ([ix (ix next' (ix row i)) k])))))) else
  G (fits (k + (1 : Int))) (
  r12 (k + (1 : Int)) seen_1 row_1)
noncomputable def r10_Odd_L12_B (mark : (List Int)) (next' : (List (List Int))) (in' : (List Bool)) (p : Int) (i : Int) (row : (List Int)) (r8 : (Int → (List Bool) → (List Int) → Option (Bool))) (r12 : Int → (List Bool) → (List Int) → Option (Bool)) (k : Int) (seen_1 : (List Bool)) (row_1 : (List Int)) : Option (Bool) :=
  if (decide (k < ((ix next' (ix row i)).length : Int))) = true then
  G (0 ≤ k ∧ k < ((ix next' (ix row i)).length : Int)) (
  if (decide ((ix (ix next' (ix row i)) k) = p)) = true then
  some true else
  G (0 ≤ ix (ix next' (ix row i)) k ∧ ix (ix next' (ix row i)) k < (in'.length : Int)) (
  if (ix in' (ix (ix next' (ix row i)) k)) = true then
  G (0 ≤ ix (ix next' (ix row i)) k ∧ ix (ix next' (ix row i)) k < (mark.length : Int)) (
  G (0 ≤ p ∧ p < (mark.length : Int)) (
  if (decide ((ix mark p) ≤ (ix mark (ix (ix next' (ix row i)) k)))) = true then
  G (0 ≤ ix (ix next' (ix row i)) k ∧ ix (ix next' (ix row i)) k < (seen_1.length : Int)) (
  G ((ix (ix next' (ix row i)) k).toNat < seen_1.length) (
  r10_Odd_J17 next' i row k seen_1 row_1 r12 (!(ix seen_1 (ix (ix next' (ix row i)) k))))) else
  r10_Odd_J17 next' i row k seen_1 row_1 r12 false)) else
  r10_Odd_J17 next' i row k seen_1 row_1 r12 false)) else
  G (fits (i + (1 : Int))) (
  r8 (i + (1 : Int)) seen_1 row_1)
noncomputable def r10_Odd_L12_F (mark : (List Int)) (next' : (List (List Int))) (in' : (List Bool)) (p : Int) (i : Int) (row : (List Int)) (r8 : (Int → (List Bool) → (List Int) → Option (Bool))) : (Int × (List Bool) × (List Int) → Option (Bool)) → Int × (List Bool) × (List Int) → Option (Bool) :=
  fun rec x => r10_Odd_L12_B mark next' in' p i row r8 (fun k seen_1 row_1 => rec (k, seen_1, row_1)) x.1 x.2.1 x.2.2
noncomputable def r10_Odd_L12 (mark : (List Int)) (next' : (List (List Int))) (in' : (List Bool)) (p : Int) (i : Int) (row : (List Int)) (r8 : (Int → (List Bool) → (List Int) → Option (Bool))) (k : Int) (seen_1 : (List Bool)) (row_1 : (List Int)) : Option (Bool) := LFix (r10_Odd_L12_F mark next' in' p i row r8 ) (k, seen_1, row_1)
noncomputable def r10_Odd_L8_B (mark : (List Int)) (next' : (List (List Int))) (in' : (List Bool)) (p : Int) (r2 : (Int → Option (Bool))) (r8 : Int → (List Bool) → (List Int) → Option (Bool)) (i : Int) (seen : (List Bool)) (row : (List Int)) : Option (Bool) :=
  if (decide (i < (row.length : Int))) = true then
  G (0 ≤ i ∧ i < (row.length : Int)) (
  G ((i).toNat < row.length) (
  G (0 ≤ ix row i ∧ ix row i < (next'.length : Int)) (
  r10_Odd_L12 mark next' in' p i row r8 (0 : Int) seen row))) else
  G (fits (p + (1 : Int))) (
  r2 (p + (1 : Int)))
noncomputable def r10_Odd_L8_F (mark : (List Int)) (next' : (List (List Int))) (in' : (List Bool)) (p : Int) (r2 : (Int → Option (Bool))) : (Int × (List Bool) × (List Int) → Option (Bool)) → Int × (List Bool) × (List Int) → Option (Bool) :=
  fun rec x => r10_Odd_L8_B mark next' in' p r2 (fun i seen row => rec (i, seen, row)) x.1 x.2.1 x.2.2
noncomputable def r10_Odd_L8 (mark : (List Int)) (next' : (List (List Int))) (in' : (List Bool)) (p : Int) (r2 : (Int → Option (Bool))) (i : Int) (seen : (List Bool)) (row : (List Int)) : Option (Bool) := LFix (r10_Odd_L8_F mark next' in' p r2 ) (i, seen, row)
noncomputable def r10_Odd_L2_B (mark : (List Int)) (next' : (List (List Int))) (in' : (List Bool)) (player : Int) (r2 : Int → Option (Bool)) (p : Int) : Option (Bool) :=
  if (decide (p < (mark.length : Int))) = true then
  G (0 ≤ p ∧ p < (in'.length : Int)) (
  if (!(ix in' p)) = true then
  G (fits (p + (1 : Int))) (
  r2 (p + (1 : Int))) else
  G (0 ≤ p ∧ p < (mark.length : Int)) (
  G ((2 : Int) ≠ 0) (
  if (decide ((Int.tmod (ix mark p) (2 : Int)) = player)) = true then
  G (fits (p + (1 : Int))) (
  r2 (p + (1 : Int))) else
  G (mkOK (mark.length : Int) (mark.length : Int) 1) (
  r10_Odd_L8 mark next' in' p r2 (0 : Int) (List.replicate ((mark.length : Int)).toNat (false : Bool)) ([p]))))) else
  some false
noncomputable def r10_Odd_L2_F (mark : (List Int)) (next' : (List (List Int))) (in' : (List Bool)) (player : Int) : (Int → Option (Bool)) → Int → Option (Bool) :=
  fun rec x => r10_Odd_L2_B mark next' in' player (fun p => rec p) x
noncomputable def r10_Odd_L2 (mark : (List Int)) (next' : (List (List Int))) (in' : (List Bool)) (player : Int) (p : Int) : Option (Bool) := LFix (r10_Odd_L2_F mark next' in' player ) p
noncomputable def r10_Odd (mark : (List Int)) (next' : (List (List Int))) (in' : (List Bool)) (player : Int) : Option (Bool) :=
  r10_Odd_L2 mark next' in' player (0 : Int)
theorem r10_Odd_J17_ch (r12 : Nat → Int → (List Bool) → (List Int) → Option (Bool)) (r12' : Int → (List Bool) → (List Int) → Option (Bool)) (h_r12 : ∀ a0 a1 a2, ChO (fun κ => r12 κ a0 a1 a2) (r12' a0 a1 a2)) (next' : (List (List Int))) (i : Int) (row : (List Int)) (k : Int) (seen_1 : (List Bool)) (row_1 : (List Int)) (t : Bool) : ChO (fun κ => r10_Odd_J17 next' i row k seen_1 row_1 (r12 κ) t) (r10_Odd_J17 next' i row k seen_1 row_1 r12' t) := by
  unfold r10_Odd_J17
  repeat' with_reducible first | exact ChO.const _ | exact h_r12 _ _ _ | apply ChO.ite | apply ChO.G | apply ChO.both | (apply ChO.bind; intro _)
theorem r10_Odd_L12_B_ch (r8 : Nat → Int → (List Bool) → (List Int) → Option (Bool)) (r8' : Int → (List Bool) → (List Int) → Option (Bool)) (h_r8 : ∀ a0 a1 a2, ChO (fun κ => r8 κ a0 a1 a2) (r8' a0 a1 a2)) (r12 : Nat → Int → (List Bool) → (List Int) → Option (Bool)) (r12' : Int → (List Bool) → (List Int) → Option (Bool)) (h_r12 : ∀ a0 a1 a2, ChO (fun κ => r12 κ a0 a1 a2) (r12' a0 a1 a2)) (mark : (List Int)) (next' : (List (List Int))) (in' : (List Bool)) (p : Int) (i : Int) (row : (List Int)) (k : Int) (seen_1 : (List Bool)) (row_1 : (List Int)) : ChO (fun κ => r10_Odd_L12_B mark next' in' p i row (r8 κ) (r12 κ) k seen_1 row_1) (r10_Odd_L12_B mark next' in' p i row r8' r12' k seen_1 row_1) := by
  unfold r10_Odd_L12_B
  repeat' with_reducible first | exact ChO.const _ | exact h_r8 _ _ _ | exact h_r12 _ _ _ | (apply r10_Odd_J17_ch <;> assumption) | apply ChO.ite | apply ChO.G | apply ChO.both | (apply ChO.bind; intro _)
theorem r10_Odd_L12_cn (r8 : Int → (List Bool) → (List Int) → Option (Bool)) (mark : (List Int)) (next' : (List (List Int))) (in' : (List Bool)) (p : Int) (i : Int) (row : (List Int)) : Cn (r10_Odd_L12_F mark next' in' p i row r8) := fun g h hg x => r10_Odd_L12_B_ch (fun _ => r8) r8 (fun _ _ _ => ChO.const _) (fun κ k seen_1 row_1 => g κ (k, seen_1, row_1)) (fun k seen_1 row_1 => h (k, seen_1, row_1)) (fun k seen_1 row_1 => hg (k, seen_1, row_1)) mark next' in' p i row x.1 x.2.1 x.2.2
theorem r10_Odd_L12_eq (r8 : Int → (List Bool) → (List Int) → Option (Bool)) (mark : (List Int)) (next' : (List (List Int))) (in' : (List Bool)) (p : Int) (i : Int) (row : (List Int)) (k : Int) (seen_1 : (List Bool)) (row_1 : (List Int)) : r10_Odd_L12 mark next' in' p i row r8 k seen_1 row_1 = r10_Odd_L12_B mark next' in' p i row r8 (r10_Odd_L12 mark next' in' p i row r8) k seen_1 row_1 := LFix_eq (r10_Odd_L12_cn r8 mark next' in' p i row) (k, seen_1, row_1)
theorem r10_Odd_L12_ch (r8 : Nat → Int → (List Bool) → (List Int) → Option (Bool)) (r8' : Int → (List Bool) → (List Int) → Option (Bool)) (h_r8 : ∀ a0 a1 a2, ChO (fun κ => r8 κ a0 a1 a2) (r8' a0 a1 a2)) (mark : (List Int)) (next' : (List (List Int))) (in' : (List Bool)) (p : Int) (i : Int) (row : (List Int)) (k : Int) (seen_1 : (List Bool)) (row_1 : (List Int)) : ChO (fun κ => r10_Odd_L12 mark next' in' p i row (r8 κ) k seen_1 row_1) (r10_Odd_L12 mark next' in' p i row r8' k seen_1 row_1) := by
  unfold r10_Odd_L12
  exact LFix_ch (fun κ => (r10_Odd_L12_cn (r8 κ) mark next' in' p i row).mono) (r10_Odd_L12_cn r8' mark next' in' p i row).mono (fun g h hg x => r10_Odd_L12_B_ch r8 r8' h_r8 (fun κ k seen_1 row_1 => g κ (k, seen_1, row_1)) (fun k seen_1 row_1 => h (k, seen_1, row_1)) (fun k seen_1 row_1 => hg (k, seen_1, row_1)) mark next' in' p i row x.1 x.2.1 x.2.2) _
theorem r10_Odd_L8_B_ch (r2 : Nat → Int → Option (Bool)) (r2' : Int → Option (Bool)) (h_r2 : ∀ a0, ChO (fun κ => r2 κ a0) (r2' a0)) (r8 : Nat → Int → (List Bool) → (List Int) → Option (Bool)) (r8' : Int → (List Bool) → (List Int) → Option (Bool)) (h_r8 : ∀ a0 a1 a2, ChO (fun κ => r8 κ a0 a1 a2) (r8' a0 a1 a2)) (mark : (List Int)) (next' : (List (List Int))) (in' : (List Bool)) (p : Int) (i : Int) (seen : (List Bool)) (row : (List Int)) : ChO (fun κ => r10_Odd_L8_B mark next' in' p (r2 κ) (r8 κ) i seen row) (r10_Odd_L8_B mark next' in' p r2' r8' i seen row) := by
  unfold r10_Odd_L8_B
  repeat' with_reducible first | exact ChO.const _ | exact h_r2 _ | exact h_r8 _ _ _ | (apply r10_Odd_J17_ch <;> assumption) | (apply r10_Odd_L12_ch <;> assumption) | apply ChO.ite | apply ChO.G | apply ChO.both | (apply ChO.bind; intro _)
theorem r10_Odd_L8_cn (r2 : Int → Option (Bool)) (mark : (List Int)) (next' : (List (List Int))) (in' : (List Bool)) (p : Int) : Cn (r10_Odd_L8_F mark next' in' p r2) := fun g h hg x => r10_Odd_L8_B_ch (fun _ => r2) r2 (fun _ => ChO.const _) (fun κ i seen row => g κ (i, seen, row)) (fun i seen row => h (i, seen, row)) (fun i seen row => hg (i, seen, row)) mark next' in' p x.1 x.2.1 x.2.2
theorem r10_Odd_L8_eq (r2 : Int → Option (Bool)) (mark : (List Int)) (next' : (List (List Int))) (in' : (List Bool)) (p : Int) (i : Int) (seen : (List Bool)) (row : (List Int)) : r10_Odd_L8 mark next' in' p r2 i seen row = r10_Odd_L8_B mark next' in' p r2 (r10_Odd_L8 mark next' in' p r2) i seen row := LFix_eq (r10_Odd_L8_cn r2 mark next' in' p) (i, seen, row)
theorem r10_Odd_L8_ch (r2 : Nat → Int → Option (Bool)) (r2' : Int → Option (Bool)) (h_r2 : ∀ a0, ChO (fun κ => r2 κ a0) (r2' a0)) (mark : (List Int)) (next' : (List (List Int))) (in' : (List Bool)) (p : Int) (i : Int) (seen : (List Bool)) (row : (List Int)) : ChO (fun κ => r10_Odd_L8 mark next' in' p (r2 κ) i seen row) (r10_Odd_L8 mark next' in' p r2' i seen row) := by
  unfold r10_Odd_L8
  exact LFix_ch (fun κ => (r10_Odd_L8_cn (r2 κ) mark next' in' p).mono) (r10_Odd_L8_cn r2' mark next' in' p).mono (fun g h hg x => r10_Odd_L8_B_ch r2 r2' h_r2 (fun κ i seen row => g κ (i, seen, row)) (fun i seen row => h (i, seen, row)) (fun i seen row => hg (i, seen, row)) mark next' in' p x.1 x.2.1 x.2.2) _
theorem r10_Odd_L2_B_ch (r2 : Nat → Int → Option (Bool)) (r2' : Int → Option (Bool)) (h_r2 : ∀ a0, ChO (fun κ => r2 κ a0) (r2' a0)) (mark : (List Int)) (next' : (List (List Int))) (in' : (List Bool)) (player : Int) (p : Int) : ChO (fun κ => r10_Odd_L2_B mark next' in' player (r2 κ) p) (r10_Odd_L2_B mark next' in' player r2' p) := by
  unfold r10_Odd_L2_B
  repeat' with_reducible first | exact ChO.const _ | exact h_r2 _ | (apply r10_Odd_J17_ch <;> assumption) | (apply r10_Odd_L12_ch <;> assumption) | (apply r10_Odd_L8_ch <;> assumption) | apply ChO.ite | apply ChO.G | apply ChO.both | (apply ChO.bind; intro _)
theorem r10_Odd_L2_cn  (mark : (List Int)) (next' : (List (List Int))) (in' : (List Bool)) (player : Int) : Cn (r10_Odd_L2_F mark next' in' player) := fun g h hg x => r10_Odd_L2_B_ch  (fun κ p => g κ p) (fun p => h p) (fun p => hg p) mark next' in' player x
theorem r10_Odd_L2_eq  (mark : (List Int)) (next' : (List (List Int))) (in' : (List Bool)) (player : Int) (p : Int) : r10_Odd_L2 mark next' in' player p = r10_Odd_L2_B mark next' in' player (r10_Odd_L2 mark next' in' player) p := LFix_eq (r10_Odd_L2_cn mark next' in' player) p

noncomputable def r10_Wins_J17 (w : Tp4) (player : Int) (p : Int) (in' : (List Bool)) (next' : (List (List Int))) (r5 : (Int → (List Bool) → (List (List Int)) → Option (Bool))) (l : (List Int)) : Option (Bool) :=
  G (room next' ([l]) 24) (
  G (fits (p + (1 : Int))) (
  r5 (p + (1 : Int)) (in'.set (p).toNat (decide ((ix w.1 p) = player))) (next' ++ ([l]))))
noncomputable def r10_Wins_L12_B (g' : Tp3) (w : Tp4) (player : Int) (p : Int) (in' : (List Bool)) (next' : (List (List Int))) (r5 : (Int → (List Bool) → (List (List Int)) → Option (Bool))) (r12 : Bool → Int → Option (Bool)) (there : Bool) (k : Int) : Option (Bool) :=
  if (decide (k < ((ix g'.2.2.1 p).length : Int))) = true then
  if there = true then
  G (fits (k + (1 : Int))) (
  r12 true (k + (1 : Int))) else
  G (0 ≤ k ∧ k < ((ix g'.2.2.1 p).length : Int)) (
  G (0 ≤ p ∧ p < (w.2.1.length : Int)) (
  G (fits (k + (1 : Int))) (
  r12 (decide ((ix (ix g'.2.2.1 p) k) = (ix w.2.1 p))) (k + (1 : Int))))) else
  if (!there) = true then
  some false else
  G (0 ≤ p ∧ p < (w.2.1.length : Int)) (
  r10_Wins_J17 w player p in' next' r5 ([ix w.2.1 p]))
noncomputable def r10_Wins_L12_F (g' : Tp3) (w : Tp4) (player : Int) (p : Int) (in' : (List Bool)) (next' : (List (List Int))) (r5 : (Int → (List Bool) → (List (List Int)) → Option (Bool))) : (Bool × Int → Option (Bool)) → Bool × Int → Option (Bool) :=
  fun rec x => r10_Wins_L12_B g' w player p in' next' r5 (fun there k => rec (there, k)) x.1 x.2
noncomputable def r10_Wins_L12 (g' : Tp3) (w : Tp4) (player : Int) (p : Int) (in' : (List Bool)) (next' : (List (List Int))) (r5 : (Int → (List Bool) → (List (List Int)) → Option (Bool))) (there : Bool) (k : Int) : Option (Bool) := LFix (r10_Wins_L12_F g' w player p in' next' r5 ) (there, k)
noncomputable def r10_Wins_J9 (g' : Tp3) (w : Tp4) (player : Int) (p : Int) (in' : (List Bool)) (next' : (List (List Int))) (r5 : (Int → (List Bool) → (List (List Int)) → Option (Bool))) (t : Bool) : Option (Bool) :=
  if t = true then
  r10_Wins_L12 g' w player p in' next' r5 false (0 : Int) else
  r10_Wins_J17 w player p in' next' r5 (ix g'.2.2.1 p)
noncomputable def r10_Wins_L23_B (g' : Tp3) (w : Tp4) (player : Int) (in' : (List Bool)) (next' : (List (List Int))) (p_1 : Int) (r20 : (Int → Option (Bool))) (r23 : Int → Option (Bool)) (k_1 : Int) : Option (Bool) :=
  G (0 ≤ p_1 ∧ p_1 < (next'.length : Int)) (
  G ((p_1).toNat < next'.length) (
  if (decide (k_1 < ((ix next' p_1).length : Int))) = true then
  G (0 ≤ p_1 ∧ p_1 < (in'.length : Int)) (
  G ((p_1).toNat < in'.length) (
  if (ix in' p_1) = true then
  G (0 ≤ p_1 ∧ p_1 < (next'.length : Int)) (
  G ((p_1).toNat < next'.length) (
  G (0 ≤ k_1 ∧ k_1 < ((ix next' p_1).length : Int)) (
  G (0 ≤ ix (ix next' p_1) k_1 ∧ ix (ix next' p_1) k_1 < (w.1.length : Int)) (
  if (decide (¬ (ix w.1 (ix (ix next' p_1) k_1)) = player)) = true then
  some false else
  G (fits (k_1 + (1 : Int))) (
  r23 (k_1 + (1 : Int))))))) else
  G (fits (k_1 + (1 : Int))) (
  r23 (k_1 + (1 : Int))))) else
  G (0 ≤ p_1 ∧ p_1 < (g'.1.length : Int)) (
  if (decide (¬ (ix g'.1 p_1) = player)) = true then
  G (0 ≤ p_1 ∧ p_1 < (g'.1.length : Int)) (
  G (0 ≤ p_1 ∧ p_1 < (w.1.length : Int)) (
  if (decide (¬ (ix g'.1 p_1) = (ix w.1 p_1))) = true then
  G (0 ≤ p_1 ∧ p_1 < (w.2.1.length : Int)) (
  if (decide (¬ (ix w.2.1 p_1) = (-1 : Int))) = true then
  some false else
  G (fits (p_1 + (1 : Int))) (
  r20 (p_1 + (1 : Int)))) else
  G (fits (p_1 + (1 : Int))) (
  r20 (p_1 + (1 : Int))))) else
  G (0 ≤ p_1 ∧ p_1 < (in'.length : Int)) (
  G ((p_1).toNat < in'.length) (
  if (!(ix in' p_1)) = true then
  G (0 ≤ p_1 ∧ p_1 < (g'.1.length : Int)) (
  G (0 ≤ p_1 ∧ p_1 < (w.1.length : Int)) (
  if (decide (¬ (ix g'.1 p_1) = (ix w.1 p_1))) = true then
  G (0 ≤ p_1 ∧ p_1 < (w.2.1.length : Int)) (
  if (decide (¬ (ix w.2.1 p_1) = (-1 : Int))) = true then
  some false else
  G (fits (p_1 + (1 : Int))) (
  r20 (p_1 + (1 : Int)))) else
  G (fits (p_1 + (1 : Int))) (
  r20 (p_1 + (1 : Int))))) else
  G (fits (p_1 + (1 : Int))) (
  r20 (p_1 + (1 : Int))))))))
noncomputable def r10_Wins_L23_F (g' : Tp3) (w : Tp4) (player : Int) (in' : (List Bool)) (next' : (List (List Int))) (p_1 : Int) (r20 : (Int → Option (Bool))) : (Int → Option (Bool)) → Int → Option (Bool) :=
  fun rec x => r10_Wins_L23_B g' w player in' next' p_1 r20 (fun k_1 => rec k_1) x
noncomputable def r10_Wins_L23 (g' : Tp3) (w : Tp4) (player : Int) (in' : (List Bool)) (next' : (List (List Int))) (p_1 : Int) (r20 : (Int → Option (Bool))) (k_1 : Int) : Option (Bool) := LFix (r10_Wins_L23_F g' w player in' next' p_1 r20 ) k_1
noncomputable def r10_Wins_L20_B (g' : Tp3) (w : Tp4) (player : Int) (in' : (List Bool)) (next' : (List (List Int))) (r20 : Int → Option (Bool)) (p_1 : Int) : Option (Bool) :=
  if (decide (p_1 < (g'.1.length : Int))) = true then
  r10_Wins_L23 g' w player in' next' p_1 r20 (0 : Int) else
  (r10_Odd g'.2.1 next' in' player).bind (fun y' =>
  some (!y'))
noncomputable def r10_Wins_L20_F (g' : Tp3) (w : Tp4) (player : Int) (in' : (List Bool)) (next' : (List (List Int))) : (Int → Option (Bool)) → Int → Option (Bool) :=
  fun rec x => r10_Wins_L20_B g' w player in' next' (fun p_1 => rec p_1) x
noncomputable def r10_Wins_L20 (g' : Tp3) (w : Tp4) (player : Int) (in' : (List Bool)) (next' : (List (List Int))) (p_1 : Int) : Option (Bool) := LFix (r10_Wins_L20_F g' w player in' next' ) p_1
noncomputable def r10_Wins_L5_B (g' : Tp3) (w : Tp4) (player : Int) (r5 : Int → (List Bool) → (List (List Int)) → Option (Bool)) (p : Int) (in' : (List Bool)) (next' : (List (List Int))) : Option (Bool) :=
  if (decide (p < (g'.1.length : Int))) = true then
  G (0 ≤ p ∧ p < (w.1.length : Int)) (
  G (0 ≤ p ∧ p < (in'.length : Int)) (
  G ((p).toNat < in'.length) (
  G (0 ≤ p ∧ p < (g'.2.2.1.length : Int)) (
  G (0 ≤ p ∧ p < (g'.1.length : Int)) (
  if (decide ((ix g'.1 p) = player)) = true then
  G (0 ≤ p ∧ p < ((in'.set (p).toNat (decide ((ix w.1 p) = player))).length : Int)) (
  G ((p).toNat < (in'.set (p).toNat (decide ((ix w.1 p) = player))).length) (
  r10_Wins_J9 g' w player p in' next' r5 (ix (in'.set (p).toNat (decide ((ix w.1 p) = player))) p))) else
  r10_Wins_J9 g' w player p in' next' r5 false))))) else
  r10_Wins_L20 g' w player in' next' (0 : Int)
noncomputable def r10_Wins_L5_F (g' : Tp3) (w : Tp4) (player : Int) : (Int × (List Bool) × (List (List Int)) → Option (Bool)) → Int × (List Bool) × (List (List Int)) → Option (Bool) :=
  fun rec x => r10_Wins_L5_B g' w player (fun p in' next' => rec (p, in', next')) x.1 x.2.1 x.2.2
noncomputable def r10_Wins_L5 (g' : Tp3) (w : Tp4) (player : Int) (p : Int) (in' : (List Bool)) (next' : (List (List Int))) : Option (Bool) := LFix (r10_Wins_L5_F g' w player ) (p, in', next')
noncomputable def r10_Wins (g' : Tp3) (w : Tp4) (player : Int) : Option (Bool) :=
  G (mkOK (g'.1.length : Int) (g'.1.length : Int) 1) (
  r10_Wins_L5 g' w player (0 : Int) (List.replicate ((g'.1.length : Int)).toNat (false : Bool)) ([]))
theorem r10_Wins_J17_ch (r5 : Nat → Int → (List Bool) → (List (List Int)) → Option (Bool)) (r5' : Int → (List Bool) → (List (List Int)) → Option (Bool)) (h_r5 : ∀ a0 a1 a2, ChO (fun κ => r5 κ a0 a1 a2) (r5' a0 a1 a2)) (w : Tp4) (player : Int) (p : Int) (in' : (List Bool)) (next' : (List (List Int))) (l : (List Int)) : ChO (fun κ => r10_Wins_J17 w player p in' next' (r5 κ) l) (r10_Wins_J17 w player p in' next' r5' l) := by
  unfold r10_Wins_J17
  repeat' with_reducible first | exact ChO.const _ | exact h_r5 _ _ _ | apply ChO.ite | apply ChO.G | apply ChO.both | (apply ChO.bind; intro _)
theorem r10_Wins_L12_B_ch (r5 : Nat → Int → (List Bool) → (List (List Int)) → Option (Bool)) (r5' : Int → (List Bool) → (List (List Int)) → Option (Bool)) (h_r5 : ∀ a0 a1 a2, ChO (fun κ => r5 κ a0 a1 a2) (r5' a0 a1 a2)) (r12 : Nat → Bool → Int → Option (Bool)) (r12' : Bool → Int → Option (Bool)) (h_r12 : ∀ a0 a1, ChO (fun κ => r12 κ a0 a1) (r12' a0 a1)) (g' : Tp3) (w : Tp4) (player : Int) (p : Int) (in' : (List Bool)) (next' : (List (List Int))) (there : Bool) (k : Int) : ChO (fun κ => r10_Wins_L12_B g' w player p in' next' (r5 κ) (r12 κ) there k) (r10_Wins_L12_B g' w player p in' next' r5' r12' there k) := by
  unfold r10_Wins_L12_B
  repeat' with_reducible first | exact ChO.const _ | exact h_r5 _ _ _ | exact h_r12 _ _ | (apply r10_Wins_J17_ch <;> assumption) | apply ChO.ite | apply ChO.G | apply ChO.both | (apply ChO.bind; intro _)
theorem r10_Wins_L12_cn (r5 : Int → (List Bool) → (List (List Int)) → Option (Bool)) (g' : Tp3) (w : Tp4) (player : Int) (p : Int) (in' : (List Bool)) (next' : (List (List Int))) : Cn (r10_Wins_L12_F g' w player p in' next' r5) := fun g h hg x => r10_Wins_L12_B_ch (fun _ => r5) r5 (fun _ _ _ => ChO.const _) (fun κ there k => g κ (there, k)) (fun there k => h (there, k)) (fun there k => hg (there, k)) g' w player p in' next' x.1 x.2
theorem r10_Wins_L12_eq (r5 : Int → (List Bool) → (List (List Int)) → Option (Bool)) (g' : Tp3) (w : Tp4) (player : Int) (p : Int) (in' : (List Bool)) (next' : (List (List Int))) (there : Bool) (k : Int) : r10_Wins_L12 g' w player p in' next' r5 there k = r10_Wins_L12_B g' w player p in' next' r5 (r10_Wins_L12 g' w player p in' next' r5) there k := LFix_eq (r10_Wins_L12_cn r5 g' w player p in' next') (there, k)
theorem r10_Wins_L12_ch (r5 : Nat → Int → (List Bool) → (List (List Int)) → Option (Bool)) (r5' : Int → (List Bool) → (List (List Int)) → Option (Bool)) (h_r5 : ∀ a0 a1 a2, ChO (fun κ => r5 κ a0 a1 a2) (r5' a0 a1 a2)) (g' : Tp3) (w : Tp4) (player : Int) (p : Int) (in' : (List Bool)) (next' : (List (List Int))) (there : Bool) (k : Int) : ChO (fun κ => r10_Wins_L12 g' w player p in' next' (r5 κ) there k) (r10_Wins_L12 g' w player p in' next' r5' there k) := by
  unfold r10_Wins_L12
  exact LFix_ch (fun κ => (r10_Wins_L12_cn (r5 κ) g' w player p in' next').mono) (r10_Wins_L12_cn r5' g' w player p in' next').mono (fun g h hg x => r10_Wins_L12_B_ch r5 r5' h_r5 (fun κ there k => g κ (there, k)) (fun there k => h (there, k)) (fun there k => hg (there, k)) g' w player p in' next' x.1 x.2) _
theorem r10_Wins_J9_ch (r5 : Nat → Int → (List Bool) → (List (List Int)) → Option (Bool)) (r5' : Int → (List Bool) → (List (List Int)) → Option (Bool)) (h_r5 : ∀ a0 a1 a2, ChO (fun κ => r5 κ a0 a1 a2) (r5' a0 a1 a2)) (g' : Tp3) (w : Tp4) (player : Int) (p : Int) (in' : (List Bool)) (next' : (List (List Int))) (t : Bool) : ChO (fun κ => r10_Wins_J9 g' w player p in' next' (r5 κ) t) (r10_Wins_J9 g' w player p in' next' r5' t) := by
  unfold r10_Wins_J9
  repeat' with_reducible first | exact ChO.const _ | exact h_r5 _ _ _ | (apply r10_Wins_J17_ch <;> assumption) | (apply r10_Wins_L12_ch <;> assumption) | apply ChO.ite | apply ChO.G | apply ChO.both | (apply ChO.bind; intro _)
theorem r10_Wins_L23_B_ch (r20 : Nat → Int → Option (Bool)) (r20' : Int → Option (Bool)) (h_r20 : ∀ a0, ChO (fun κ => r20 κ a0) (r20' a0)) (r23 : Nat → Int → Option (Bool)) (r23' : Int → Option (Bool)) (h_r23 : ∀ a0, ChO (fun κ => r23 κ a0) (r23' a0)) (g' : Tp3) (w : Tp4) (player : Int) (in' : (List Bool)) (next' : (List (List Int))) (p_1 : Int) (k_1 : Int) : ChO (fun κ => r10_Wins_L23_B g' w player in' next' p_1 (r20 κ) (r23 κ) k_1) (r10_Wins_L23_B g' w player in' next' p_1 r20' r23' k_1) := by
  unfold r10_Wins_L23_B
  repeat' with_reducible first | exact ChO.const _ | exact h_r20 _ | exact h_r23 _ | (apply r10_Wins_J17_ch <;> assumption) | (apply r10_Wins_L12_ch <;> assumption) | (apply r10_Wins_J9_ch <;> assumption) | apply ChO.ite | apply ChO.G | apply ChO.both | (apply ChO.bind; intro _)
theorem r10_Wins_L23_cn (r20 : Int → Option (Bool)) (g' : Tp3) (w : Tp4) (player : Int) (in' : (List Bool)) (next' : (List (List Int))) (p_1 : Int) : Cn (r10_Wins_L23_F g' w player in' next' p_1 r20) := fun g h hg x => r10_Wins_L23_B_ch (fun _ => r20) r20 (fun _ => ChO.const _) (fun κ k_1 => g κ k_1) (fun k_1 => h k_1) (fun k_1 => hg k_1) g' w player in' next' p_1 x
theorem r10_Wins_L23_eq (r20 : Int → Option (Bool)) (g' : Tp3) (w : Tp4) (player : Int) (in' : (List Bool)) (next' : (List (List Int))) (p_1 : Int) (k_1 : Int) : r10_Wins_L23 g' w player in' next' p_1 r20 k_1 = r10_Wins_L23_B g' w player in' next' p_1 r20 (r10_Wins_L23 g' w player in' next' p_1 r20) k_1 := LFix_eq (r10_Wins_L23_cn r20 g' w player in' next' p_1) k_1
theorem r10_Wins_L23_ch (r20 : Nat → Int → Option (Bool)) (r20' : Int → Option (Bool)) (h_r20 : ∀ a0, ChO (fun κ => r20 κ a0) (r20' a0)) (g' : Tp3) (w : Tp4) (player : Int) (in' : (List Bool)) (next' : (List (List Int))) (p_1 : Int) (k_1 : Int) : ChO (fun κ => r10_Wins_L23 g' w player in' next' p_1 (r20 κ) k_1) (r10_Wins_L23 g' w player in' next' p_1 r20' k_1) := by
  unfold r10_Wins_L23
  exact LFix_ch (fun κ => (r10_Wins_L23_cn (r20 κ) g' w player in' next' p_1).mono) (r10_Wins_L23_cn r20' g' w player in' next' p_1).mono (fun g h hg x => r10_Wins_L23_B_ch r20 r20' h_r20 (fun κ k_1 => g κ k_1) (fun k_1 => h k_1) (fun k_1 => hg k_1) g' w player in' next' p_1 x) _
theorem r10_Wins_L20_B_ch (r20 : Nat → Int → Option (Bool)) (r20' : Int → Option (Bool)) (h_r20 : ∀ a0, ChO (fun κ => r20 κ a0) (r20' a0)) (g' : Tp3) (w : Tp4) (player : Int) (in' : (List Bool)) (next' : (List (List Int))) (p_1 : Int) : ChO (fun κ => r10_Wins_L20_B g' w player in' next' (r20 κ) p_1) (r10_Wins_L20_B g' w player in' next' r20' p_1) := by
  unfold r10_Wins_L20_B
  repeat' with_reducible first | exact ChO.const _ | exact h_r20 _ | (apply r10_Wins_J17_ch <;> assumption) | (apply r10_Wins_L12_ch <;> assumption) | (apply r10_Wins_J9_ch <;> assumption) | (apply r10_Wins_L23_ch <;> assumption) | apply ChO.ite | apply ChO.G | apply ChO.both | (apply ChO.bind; intro _)
theorem r10_Wins_L20_cn  (g' : Tp3) (w : Tp4) (player : Int) (in' : (List Bool)) (next' : (List (List Int))) : Cn (r10_Wins_L20_F g' w player in' next') := fun g h hg x => r10_Wins_L20_B_ch  (fun κ p_1 => g κ p_1) (fun p_1 => h p_1) (fun p_1 => hg p_1) g' w player in' next' x
theorem r10_Wins_L20_eq  (g' : Tp3) (w : Tp4) (player : Int) (in' : (List Bool)) (next' : (List (List Int))) (p_1 : Int) : r10_Wins_L20 g' w player in' next' p_1 = r10_Wins_L20_B g' w player in' next' (r10_Wins_L20 g' w player in' next') p_1 := LFix_eq (r10_Wins_L20_cn g' w player in' next') p_1
theorem r10_Wins_L5_B_ch (r5 : Nat → Int → (List Bool) → (List (List Int)) → Option (Bool)) (r5' : Int → (List Bool) → (List (List Int)) → Option (Bool)) (h_r5 : ∀ a0 a1 a2, ChO (fun κ => r5 κ a0 a1 a2) (r5' a0 a1 a2)) (g' : Tp3) (w : Tp4) (player : Int) (p : Int) (in' : (List Bool)) (next' : (List (List Int))) : ChO (fun κ => r10_Wins_L5_B g' w player (r5 κ) p in' next') (r10_Wins_L5_B g' w player r5' p in' next') := by
  unfold r10_Wins_L5_B
  repeat' with_reducible first | exact ChO.const _ | exact h_r5 _ _ _ | (apply r10_Wins_J17_ch <;> assumption) | (apply r10_Wins_L12_ch <;> assumption) | (apply r10_Wins_J9_ch <;> assumption) | (apply r10_Wins_L23_ch <;> assumption) | apply ChO.ite | apply ChO.G | apply ChO.both | (apply ChO.bind; intro _)
theorem r10_Wins_L5_cn  (g' : Tp3) (w : Tp4) (player : Int) : Cn (r10_Wins_L5_F g' w player) := fun g h hg x => r10_Wins_L5_B_ch  (fun κ p in' next' => g κ (p, in', next')) (fun p in' next' => h (p, in', next')) (fun p in' next' => hg (p, in', next')) g' w player x.1 x.2.1 x.2.2
theorem r10_Wins_L5_eq  (g' : Tp3) (w : Tp4) (player : Int) (p : Int) (in' : (List Bool)) (next' : (List (List Int))) : r10_Wins_L5 g' w player p in' next' = r10_Wins_L5_B g' w player (r10_Wins_L5 g' w player) p in' next' := LFix_eq (r10_Wins_L5_cn g' w player) (p, in', next')

noncomputable def law_GameSolves_L19_B (g' : Tp3) (y'_3 : Tp4) (r19 : Int → Option (Bool)) (p : Int) : Option (Bool) :=
  if (decide (p < (g'.1.length : Int))) = true then
  G (0 ≤ p ∧ p < (y'_3.1.length : Int)) (
  if (decide (¬ (ix y'_3.1 p) = (0 : Int))) = true then
  G (0 ≤ p ∧ p < (y'_3.1.length : Int)) (
  if (decide (¬ (ix y'_3.1 p) = (1 : Int))) = true then
  some false else
  G (fits (p + (1 : Int))) (
  r19 (p + (1 : Int)))) else
  G (fits (p + (1 : Int))) (
  r19 (p + (1 : Int)))) else
  (r10_Wins (g'.1, (g'.2.1, (g'.2.2.1, ()))) (y'_3.1, (y'_3.2.1, ())) (0 : Int)).bind (fun y'_11 =>
  (r10_Wins (g'.1, (g'.2.1, (g'.2.2.1, ()))) (y'_3.1, (y'_3.2.1, ())) (1 : Int)).bind (fun y'_12 =>
  if y'_11 = true then
  some y'_12 else
  some false))
noncomputable def law_GameSolves_L19_F (g' : Tp3) (y'_3 : Tp4) : (Int → Option (Bool)) → Int → Option (Bool) :=
  fun rec x => law_GameSolves_L19_B g' y'_3 (fun p => rec p) x
noncomputable def law_GameSolves_L19 (g' : Tp3) (y'_3 : Tp4) (p : Int) : Option (Bool) := LFix (law_GameSolves_L19_F g' y'_3 ) p
noncomputable def law_GameSolves (g' : Tp3) : Option (Bool) :=
  (law_list g'.1).bind (fun y' =>
  (law_list g'.2.1).bind (fun y'_1 =>
  (law_lists g'.2.2.1).bind (fun y'_2 =>
  (game_Solve (y', (y'_1, (y'_2, ())))).bind (fun y'_13 =>
  (game_Check (y', (y'_1, (y'_2, ())))).bind (fun y'_6 =>
  (r10_Check (g'.1, (g'.2.1, (g'.2.2.1, ())))).bind (fun y'_7 =>
  (r1_Words y' g'.1).bind (fun y'_8 =>
  (r1_Words y'_1 g'.2.1).bind (fun y'_9 =>
  (law_sameLists y'_2 g'.2.2.1).bind (fun y'_10 =>
  if (decide (¬ y'_6 = y'_7)) = true then
  some false else
  if (!y'_8) = true then
  some false else
  if (!y'_9) = true then
  some false else
  if (!y'_10) = true then
  some false else
  if (decide (¬ y'_7 = (0 : Int))) = true then
  if (decide (y'_13.2 = y'_7)) = true then
  G (fits ((y'_13.1.1.length : Int) + (y'_13.1.2.1.length : Int))) (
  some (decide (((y'_13.1.1.length : Int) + (y'_13.1.2.1.length : Int)) = (0 : Int)))) else
  some false else
  if (decide (¬ y'_13.2 = (0 : Int))) = true then
  some false else
  if (decide (¬ (y'_13.1.1.length : Int) = (g'.1.length : Int))) = true then
  some false else
  if (decide (¬ (y'_13.1.2.1.length : Int) = (g'.1.length : Int))) = true then
  some false else
  law_GameSolves_L19 g' y'_13.1 (0 : Int))))))))))
theorem law_GameSolves_L19_B_ch (r19 : Nat → Int → Option (Bool)) (r19' : Int → Option (Bool)) (h_r19 : ∀ a0, ChO (fun κ => r19 κ a0) (r19' a0)) (g' : Tp3) (y'_3 : Tp4) (p : Int) : ChO (fun κ => law_GameSolves_L19_B g' y'_3 (r19 κ) p) (law_GameSolves_L19_B g' y'_3 r19' p) := by
  unfold law_GameSolves_L19_B
  repeat' with_reducible first | exact ChO.const _ | exact h_r19 _ | apply ChO.ite | apply ChO.G | apply ChO.both | (apply ChO.bind; intro _)
theorem law_GameSolves_L19_cn  (g' : Tp3) (y'_3 : Tp4) : Cn (law_GameSolves_L19_F g' y'_3) := fun g h hg x => law_GameSolves_L19_B_ch  (fun κ p => g κ p) (fun p => h p) (fun p => hg p) g' y'_3 x
theorem law_GameSolves_L19_eq  (g' : Tp3) (y'_3 : Tp4) (p : Int) : law_GameSolves_L19 g' y'_3 p = law_GameSolves_L19_B g' y'_3 (law_GameSolves_L19 g' y'_3) p := LFix_eq (law_GameSolves_L19_cn g' y'_3) p

end Go.Proofs.Yticpmfhdnaocoaa.gameSolvesW
