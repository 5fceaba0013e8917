/- What the functions that 'StackSteps' reaches compute: plain functions. -/
import Derived.Test.YtgjpkfbaobanlaaEv4n21
set_option maxHeartbeats 1000000
set_option maxRecDepth 20000
set_option linter.unusedSimpArgs false
set_option linter.unusedVariables false
namespace Go.Proofs.Ytgjpkfbaobanlaa.stackStepsW
open Go Go.Ab
noncomputable def stack_Check_1 (r : (Int × Int × Int × (List Int) × Unit)) : Option (Bool) :=
  some (decide ((2 : Int) < (r.2.2.2.1.length : Int)))

noncomputable def slices_IndexFunc_L2_B (s : (List (Int × Int × Int × (List Int) × Unit))) (r2 : Int → Option (Int)) (t : Int) : Option (Int) :=
  if (decide (t < (s.length : Int))) = true then
  G (0 ≤ t ∧ t < (s.length : Int)) (
  (stack_Check_1 (ix s t)).bind (fun y' =>
  if y' = true then
  some t else
  G (fits (t + (1 : Int))) (
  r2 (t + (1 : Int))))) else
  some (-1 : Int)
noncomputable def slices_IndexFunc_L2_F (s : (List (Int × Int × Int × (List Int) × Unit))) : (Int → Option (Int)) → Int → Option (Int) :=
  fun rec x => slices_IndexFunc_L2_B s (fun t => rec t) x
noncomputable def slices_IndexFunc_L2 (s : (List (Int × Int × Int × (List Int) × Unit))) (t : Int) : Option (Int) := LFix (slices_IndexFunc_L2_F s ) t
noncomputable def slices_IndexFunc (s : (List (Int × Int × Int × (List Int) × Unit))) : Option (Int) :=
  slices_IndexFunc_L2 s (0 : Int)
theorem slices_IndexFunc_L2_B_ch (r2 : Nat → Int → Option (Int)) (r2' : Int → Option (Int)) (h_r2 : ∀ a0, ChO (fun κ => r2 κ a0) (r2' a0)) (s : (List (Int × Int × Int × (List Int) × Unit))) (t : Int) : ChO (fun κ => slices_IndexFunc_L2_B s (r2 κ) t) (slices_IndexFunc_L2_B s r2' t) := by
  unfold slices_IndexFunc_L2_B
  repeat' first | exact ChO.const _ | exact h_r2 _ | apply ChO.ite | apply ChO.G | apply ChO.both | (apply ChO.bind; intro _)
theorem slices_IndexFunc_L2_cn  (s : (List (Int × Int × Int × (List Int) × Unit))) : Cn (slices_IndexFunc_L2_F s) := fun g h hg x => slices_IndexFunc_L2_B_ch  (fun κ t => g κ t) (fun t => h t) (fun t => hg t) s x
theorem slices_IndexFunc_L2_eq  (s : (List (Int × Int × Int × (List Int) × Unit))) (t : Int) : slices_IndexFunc_L2 s t = slices_IndexFunc_L2_B s (slices_IndexFunc_L2 s) t := LFix_eq (slices_IndexFunc_L2_cn s) t

noncomputable def slices_ContainsFunc (s : (List (Int × Int × Int × (List Int) × Unit))) : Option (Bool) :=
  (slices_IndexFunc s).bind (fun y' =>
  some (decide ((0 : Int) ≤ y')))

noncomputable def stack_no (n : Int) : Option (Bool) :=
  if (decide (n < (0 : Int))) = true then
  some true else
  some (decide ((3 : Int) ≤ n))

noncomputable def slices_IndexFunc_2_L2_B (s : (List Int)) (r2 : Int → Option (Int)) (t : Int) : Option (Int) :=
  if (decide (t < (s.length : Int))) = true then
  G (0 ≤ t ∧ t < (s.length : Int)) (
  (stack_no (ix s t)).bind (fun y' =>
  if y' = true then
  some t else
  G (fits (t + (1 : Int))) (
  r2 (t + (1 : Int))))) else
  some (-1 : Int)
noncomputable def slices_IndexFunc_2_L2_F (s : (List Int)) : (Int → Option (Int)) → Int → Option (Int) :=
  fun rec x => slices_IndexFunc_2_L2_B s (fun t => rec t) x
noncomputable def slices_IndexFunc_2_L2 (s : (List Int)) (t : Int) : Option (Int) := LFix (slices_IndexFunc_2_L2_F s ) t
noncomputable def slices_IndexFunc_2 (s : (List Int)) : Option (Int) :=
  slices_IndexFunc_2_L2 s (0 : Int)
theorem slices_IndexFunc_2_L2_B_ch (r2 : Nat → Int → Option (Int)) (r2' : Int → Option (Int)) (h_r2 : ∀ a0, ChO (fun κ => r2 κ a0) (r2' a0)) (s : (List Int)) (t : Int) : ChO (fun κ => slices_IndexFunc_2_L2_B s (r2 κ) t) (slices_IndexFunc_2_L2_B s r2' t) := by
  unfold slices_IndexFunc_2_L2_B
  repeat' first | exact ChO.const _ | exact h_r2 _ | apply ChO.ite | apply ChO.G | apply ChO.both | (apply ChO.bind; intro _)
theorem slices_IndexFunc_2_L2_cn  (s : (List Int)) : Cn (slices_IndexFunc_2_L2_F s) := fun g h hg x => slices_IndexFunc_2_L2_B_ch  (fun κ t => g κ t) (fun t => h t) (fun t => hg t) s x
theorem slices_IndexFunc_2_L2_eq  (s : (List Int)) (t : Int) : slices_IndexFunc_2_L2 s t = slices_IndexFunc_2_L2_B s (slices_IndexFunc_2_L2 s) t := LFix_eq (slices_IndexFunc_2_L2_cn s) t

noncomputable def slices_ContainsFunc_2 (s : (List Int)) : Option (Bool) :=
  (slices_IndexFunc_2 s).bind (fun y' =>
  some (decide ((0 : Int) ≤ y')))

noncomputable def stack_Check_2 (r : (Int × Int × Int × (List Int) × Unit)) : Option (Bool) :=
  (stack_no r.1).bind (fun y' =>
  if y' = true then
  some true else
  (stack_no r.2.1).bind (fun y'_1 =>
  if y'_1 = true then
  some true else
  (stack_no r.2.2.1).bind (fun y'_2 =>
  if y'_2 = true then
  some true else
  (slices_ContainsFunc_2 r.2.2.2.1).bind (fun y'_3 =>
  some y'_3))))

noncomputable def slices_IndexFunc_1_L2_B (s : (List (Int × Int × Int × (List Int) × Unit))) (r2 : Int → Option (Int)) (t : Int) : Option (Int) :=
  if (decide (t < (s.length : Int))) = true then
  G (0 ≤ t ∧ t < (s.length : Int)) (
  (stack_Check_2 (ix s t)).bind (fun y' =>
  if y' = true then
  some t else
  G (fits (t + (1 : Int))) (
  r2 (t + (1 : Int))))) else
  some (-1 : Int)
noncomputable def slices_IndexFunc_1_L2_F (s : (List (Int × Int × Int × (List Int) × Unit))) : (Int → Option (Int)) → Int → Option (Int) :=
  fun rec x => slices_IndexFunc_1_L2_B s (fun t => rec t) x
noncomputable def slices_IndexFunc_1_L2 (s : (List (Int × Int × Int × (List Int) × Unit))) (t : Int) : Option (Int) := LFix (slices_IndexFunc_1_L2_F s ) t
noncomputable def slices_IndexFunc_1 (s : (List (Int × Int × Int × (List Int) × Unit))) : Option (Int) :=
  slices_IndexFunc_1_L2 s (0 : Int)
theorem slices_IndexFunc_1_L2_B_ch (r2 : Nat → Int → Option (Int)) (r2' : Int → Option (Int)) (h_r2 : ∀ a0, ChO (fun κ => r2 κ a0) (r2' a0)) (s : (List (Int × Int × Int × (List Int) × Unit))) (t : Int) : ChO (fun κ => slices_IndexFunc_1_L2_B s (r2 κ) t) (slices_IndexFunc_1_L2_B s r2' t) := by
  unfold slices_IndexFunc_1_L2_B
  repeat' first | exact ChO.const _ | exact h_r2 _ | apply ChO.ite | apply ChO.G | apply ChO.both | (apply ChO.bind; intro _)
theorem slices_IndexFunc_1_L2_cn  (s : (List (Int × Int × Int × (List Int) × Unit))) : Cn (slices_IndexFunc_1_L2_F s) := fun g h hg x => slices_IndexFunc_1_L2_B_ch  (fun κ t => g κ t) (fun t => h t) (fun t => hg t) s x
theorem slices_IndexFunc_1_L2_eq  (s : (List (Int × Int × Int × (List Int) × Unit))) (t : Int) : slices_IndexFunc_1_L2 s t = slices_IndexFunc_1_L2_B s (slices_IndexFunc_1_L2 s) t := LFix_eq (slices_IndexFunc_1_L2_cn s) t

noncomputable def slices_ContainsFunc_1 (s : (List (Int × Int × Int × (List Int) × Unit))) : Option (Bool) :=
  (slices_IndexFunc_1 s).bind (fun y' =>
  some (decide ((0 : Int) ≤ y')))

noncomputable def stack_Check (l : (List (Int × Int × Int × (List Int) × Unit))) : Option (Int) :=
  if (decide ((8 : Int) < (l.length : Int))) = true then
  some (1 : Int) else
  (slices_ContainsFunc l).bind (fun y' =>
  if y' = true then
  some (1 : Int) else
  (slices_ContainsFunc_1 l).bind (fun y'_1 =>
  if y'_1 = true then
  some (2 : Int) else
  some (0 : Int)))

noncomputable def r14_Check_L15_B (l : (List (Int × Int × Int × (List Int) × Unit))) (i_1 : Int) (r9 : (Int → Option (Int))) (r15 : Int → Option (Int)) (k : Int) : Option (Int) :=
  if (decide (k < ((((((ix l i_1).2).2).2).1).length : Int))) = true then
  G (0 ≤ k ∧ k < ((((((ix l i_1).2).2).2).1).length : Int)) (
  if (decide ((ix (((((ix l i_1).2).2).2).1) k) < (0 : Int))) = true then
  some (2 : Int) else
  G (0 ≤ k ∧ k < ((((((ix l i_1).2).2).2).1).length : Int)) (
  if (decide ((2 : Int) < (ix (((((ix l i_1).2).2).2).1) k))) = true then
  some (2 : Int) else
  G (fits (k + (1 : Int))) (
  r15 (k + (1 : Int))))) else
  G (fits (i_1 + (1 : Int))) (
  r9 (i_1 + (1 : Int)))
noncomputable def r14_Check_L15_F (l : (List (Int × Int × Int × (List Int) × Unit))) (i_1 : Int) (r9 : (Int → Option (Int))) : (Int → Option (Int)) → Int → Option (Int) :=
  fun rec x => r14_Check_L15_B l i_1 r9 (fun k => rec k) x
noncomputable def r14_Check_L15 (l : (List (Int × Int × Int × (List Int) × Unit))) (i_1 : Int) (r9 : (Int → Option (Int))) (k : Int) : Option (Int) := LFix (r14_Check_L15_F l i_1 r9 ) k
noncomputable def r14_Check_L9_B (l : (List (Int × Int × Int × (List Int) × Unit))) (r9 : Int → Option (Int)) (i_1 : Int) : Option (Int) :=
  if (decide (i_1 < (l.length : Int))) = true then
  G (0 ≤ i_1 ∧ i_1 < (l.length : Int)) (
  if (decide (((ix l i_1).1) < (0 : Int))) = true then
  some (2 : Int) else
  if (decide ((2 : Int) < ((ix l i_1).1))) = true then
  some (2 : Int) else
  if (decide ((((ix l i_1).2).1) < (0 : Int))) = true then
  some (2 : Int) else
  if (decide ((2 : Int) < (((ix l i_1).2).1))) = true then
  some (2 : Int) else
  if (decide (((((ix l i_1).2).2).1) < (0 : Int))) = true then
  some (2 : Int) else
  if (decide ((2 : Int) < ((((ix l i_1).2).2).1))) = true then
  some (2 : Int) else
  r14_Check_L15 l i_1 r9 (0 : Int)) else
  some (0 : Int)
noncomputable def r14_Check_L9_F (l : (List (Int × Int × Int × (List Int) × Unit))) : (Int → Option (Int)) → Int → Option (Int) :=
  fun rec x => r14_Check_L9_B l (fun i_1 => rec i_1) x
noncomputable def r14_Check_L9 (l : (List (Int × Int × Int × (List Int) × Unit))) (i_1 : Int) : Option (Int) := LFix (r14_Check_L9_F l ) i_1
noncomputable def r14_Check_L4_B (l : (List (Int × Int × Int × (List Int) × Unit))) (r4 : Int → Option (Int)) (i : Int) : Option (Int) :=
  if (decide (i < (l.length : Int))) = true then
  G (0 ≤ i ∧ i < (l.length : Int)) (
  if (decide ((2 : Int) < ((((((ix l i).2).2).2).1).length : Int))) = true then
  some (1 : Int) else
  G (fits (i + (1 : Int))) (
  r4 (i + (1 : Int)))) else
  r14_Check_L9 l (0 : Int)
noncomputable def r14_Check_L4_F (l : (List (Int × Int × Int × (List Int) × Unit))) : (Int → Option (Int)) → Int → Option (Int) :=
  fun rec x => r14_Check_L4_B l (fun i => rec i) x
noncomputable def r14_Check_L4 (l : (List (Int × Int × Int × (List Int) × Unit))) (i : Int) : Option (Int) := LFix (r14_Check_L4_F l ) i
noncomputable def r14_Check (l : (List (Int × Int × Int × (List Int) × Unit))) : Option (Int) :=
  if (decide ((8 : Int) < (l.length : Int))) = true then
  some (1 : Int) else
  r14_Check_L4 l (0 : Int)
theorem r14_Check_L15_B_ch (r9 : Nat → Int → Option (Int)) (r9' : Int → Option (Int)) (h_r9 : ∀ a0, ChO (fun κ => r9 κ a0) (r9' a0)) (r15 : Nat → Int → Option (Int)) (r15' : Int → Option (Int)) (h_r15 : ∀ a0, ChO (fun κ => r15 κ a0) (r15' a0)) (l : (List (Int × Int × Int × (List Int) × Unit))) (i_1 : Int) (k : Int) : ChO (fun κ => r14_Check_L15_B l i_1 (r9 κ) (r15 κ) k) (r14_Check_L15_B l i_1 r9' r15' k) := by
  unfold r14_Check_L15_B
  repeat' first | exact ChO.const _ | exact h_r9 _ | exact h_r15 _ | apply ChO.ite | apply ChO.G | apply ChO.both | (apply ChO.bind; intro _)
theorem r14_Check_L15_cn (r9 : Int → Option (Int)) (l : (List (Int × Int × Int × (List Int) × Unit))) (i_1 : Int) : Cn (r14_Check_L15_F l i_1 r9) := fun g h hg x => r14_Check_L15_B_ch (fun _ => r9) r9 (fun _ => ChO.const _) (fun κ k => g κ k) (fun k => h k) (fun k => hg k) l i_1 x
theorem r14_Check_L15_eq (r9 : Int → Option (Int)) (l : (List (Int × Int × Int × (List Int) × Unit))) (i_1 : Int) (k : Int) : r14_Check_L15 l i_1 r9 k = r14_Check_L15_B l i_1 r9 (r14_Check_L15 l i_1 r9) k := LFix_eq (r14_Check_L15_cn r9 l i_1) k
theorem r14_Check_L15_ch (r9 : Nat → Int → Option (Int)) (r9' : Int → Option (Int)) (h_r9 : ∀ a0, ChO (fun κ => r9 κ a0) (r9' a0)) (l : (List (Int × Int × Int × (List Int) × Unit))) (i_1 : Int) (k : Int) : ChO (fun κ => r14_Check_L15 l i_1 (r9 κ) k) (r14_Check_L15 l i_1 r9' k) := by
  unfold r14_Check_L15
  exact LFix_ch (fun κ => (r14_Check_L15_cn (r9 κ) l i_1).mono) (r14_Check_L15_cn r9' l i_1).mono (fun g h hg x => r14_Check_L15_B_ch r9 r9' h_r9 (fun κ k => g κ k) (fun k => h k) (fun k => hg k) l i_1 x) _
theorem r14_Check_L9_B_ch (r9 : Nat → Int → Option (Int)) (r9' : Int → Option (Int)) (h_r9 : ∀ a0, ChO (fun κ => r9 κ a0) (r9' a0)) (l : (List (Int × Int × Int × (List Int) × Unit))) (i_1 : Int) : ChO (fun κ => r14_Check_L9_B l (r9 κ) i_1) (r14_Check_L9_B l r9' i_1) := by
  unfold r14_Check_L9_B
  repeat' first | exact ChO.const _ | exact h_r9 _ | (apply r14_Check_L15_ch <;> assumption) | apply ChO.ite | apply ChO.G | apply ChO.both | (apply ChO.bind; intro _)
theorem r14_Check_L9_cn  (l : (List (Int × Int × Int × (List Int) × Unit))) : Cn (r14_Check_L9_F l) := fun g h hg x => r14_Check_L9_B_ch  (fun κ i_1 => g κ i_1) (fun i_1 => h i_1) (fun i_1 => hg i_1) l x
theorem r14_Check_L9_eq  (l : (List (Int × Int × Int × (List Int) × Unit))) (i_1 : Int) : r14_Check_L9 l i_1 = r14_Check_L9_B l (r14_Check_L9 l) i_1 := LFix_eq (r14_Check_L9_cn l) i_1
theorem r14_Check_L4_B_ch (r4 : Nat → Int → Option (Int)) (r4' : Int → Option (Int)) (h_r4 : ∀ a0, ChO (fun κ => r4 κ a0) (r4' a0)) (l : (List (Int × Int × Int × (List Int) × Unit))) (i : Int) : ChO (fun κ => r14_Check_L4_B l (r4 κ) i) (r14_Check_L4_B l r4' i) := by
  unfold r14_Check_L4_B
  repeat' first | exact ChO.const _ | exact h_r4 _ | (apply r14_Check_L15_ch <;> assumption) | apply ChO.ite | apply ChO.G | apply ChO.both | (apply ChO.bind; intro _)
theorem r14_Check_L4_cn  (l : (List (Int × Int × Int × (List Int) × Unit))) : Cn (r14_Check_L4_F l) := fun g h hg x => r14_Check_L4_B_ch  (fun κ i => g κ i) (fun i => h i) (fun i => hg i) l x
theorem r14_Check_L4_eq  (l : (List (Int × Int × Int × (List Int) × Unit))) (i : Int) : r14_Check_L4 l i = r14_Check_L4_B l (r14_Check_L4 l) i := LFix_eq (r14_Check_L4_cn l) i

noncomputable def stack_config (c : (Int × (List Int) × Unit)) : Option (Int) :=
  if (decide ((20 : Int) < (c.2.1.length : Int))) = true then
  some (1 : Int) else
  (stack_no c.1).bind (fun y' =>
  if y' = true then
  some (2 : Int) else
  (slices_ContainsFunc_2 c.2.1).bind (fun y'_1 =>
  if y'_1 = true then
  some (2 : Int) else
  some (0 : Int)))

noncomputable def stack_checked_L5_B (cs : (List (Int × (List Int) × Unit))) (r5 : Int → Option (Int)) (t : Int) : Option (Int) :=
  if (decide (t < (cs.length : Int))) = true then
  G (0 ≤ t ∧ t < (cs.length : Int)) (
  (stack_config ((ix cs t).1, (((ix cs t).2).1, ()))).bind (fun y'_1 =>
  if (decide (¬ y'_1 = (0 : Int))) = true then
  some y'_1 else
  G (fits (t + (1 : Int))) (
  r5 (t + (1 : Int))))) else
  some (0 : Int)
noncomputable def stack_checked_L5_F (cs : (List (Int × (List Int) × Unit))) : (Int → Option (Int)) → Int → Option (Int) :=
  fun rec x => stack_checked_L5_B cs (fun t => rec t) x
noncomputable def stack_checked_L5 (cs : (List (Int × (List Int) × Unit))) (t : Int) : Option (Int) := LFix (stack_checked_L5_F cs ) t
noncomputable def stack_checked (l : (List (Int × Int × Int × (List Int) × Unit))) (cs : (List (Int × (List Int) × Unit))) : Option (Int) :=
  (stack_Check l).bind (fun y' =>
  if (decide (¬ y' = (0 : Int))) = true then
  some y' else
  stack_checked_L5 cs (0 : Int))
theorem stack_checked_L5_B_ch (r5 : Nat → Int → Option (Int)) (r5' : Int → Option (Int)) (h_r5 : ∀ a0, ChO (fun κ => r5 κ a0) (r5' a0)) (cs : (List (Int × (List Int) × Unit))) (t : Int) : ChO (fun κ => stack_checked_L5_B cs (r5 κ) t) (stack_checked_L5_B cs r5' t) := by
  unfold stack_checked_L5_B
  repeat' first | exact ChO.const _ | exact h_r5 _ | apply ChO.ite | apply ChO.G | apply ChO.both | (apply ChO.bind; intro _)
theorem stack_checked_L5_cn  (cs : (List (Int × (List Int) × Unit))) : Cn (stack_checked_L5_F cs) := fun g h hg x => stack_checked_L5_B_ch  (fun κ t => g κ t) (fun t => h t) (fun t => hg t) cs x
theorem stack_checked_L5_eq  (cs : (List (Int × (List Int) × Unit))) (t : Int) : stack_checked_L5 cs t = stack_checked_L5_B cs (stack_checked_L5 cs) t := LFix_eq (stack_checked_L5_cn cs) t

noncomputable def slices_Clone (s : (List Int)) : Option (List Int) :=
  if s.length = 0 then both [(.list (.int .i64))] (
  some ([])) (
  G (room ([] : List Int) s 8) (
  some (([] : List Int) ++ s))) else
  G (room ([] : List Int) s 8) (
  some (([] : List Int) ++ s))

noncomputable def stack_Step_J9 (t : Int) (t_1 : Int) (t_2 : (List Int)) : Option ((Int × (List Int) × Unit) × Int) :=
  some ((t_1, (t_2, ())), t)
noncomputable def stack_Step (l : (List (Int × Int × Int × (List Int) × Unit))) (c : (Int × (List Int) × Unit)) (rule : Int) : Option ((Int × (List Int) × Unit) × Int) :=
  (stack_checked l ([(c.1, (c.2.1, ()))])).bind (fun y' =>
  if (decide (¬ y' = (0 : Int))) = true then
  some (((0 : Int), ([], ())), y') else
  if (decide (rule < (0 : Int))) = true then
  some (((0 : Int), ([], ())), (5 : Int)) else
  if (decide ((l.length : Int) ≤ rule)) = true then
  some (((0 : Int), ([], ())), (5 : Int)) else
  G (0 ≤ rule ∧ rule < (l.length : Int)) (
  if (decide (¬ c.1 = ((ix l rule).1))) = true then
  some (((0 : Int), ([], ())), (6 : Int)) else
  if (decide ((c.2.1.length : Int) = (0 : Int))) = true then
  some (((0 : Int), ([], ())), (6 : Int)) else
  G (0 ≤ (0 : Int) ∧ (0 : Int) < (c.2.1.length : Int)) (
  if (decide (¬ (ix c.2.1 (0 : Int)) = (((ix l rule).2).1))) = true then
  some (((0 : Int), ([], ())), (6 : Int)) else
  both [(.pair (.int .i64) (.pair (.list (.int .i64)) .unit)), (.int .i64)] (
  G (0 ≤ (1 : Int) ∧ (1 : Int) ≤ (c.2.1.length : Int) ∧ (c.2.1.length : Int) ≤ (c.2.1.length : Int)) (
  (slices_Clone (((((ix l rule).2).2).2).1)).bind (fun y'_1 =>
  G (room y'_1 (cut c.2.1 (1 : Int) (c.2.1.length : Int)) 8) (
  stack_Step_J9 (0 : Int) ((((ix l rule).2).2).1) (y'_1 ++ (cut c.2.1 (1 : Int) (c.2.1.length : Int))))))) (
  both [(.pair (.int .i64) (.pair (.list (.int .i64)) .unit)), (.int .i64)] (
  both [(.pair (.int .i64) (.pair (.list (.int .i64)) .unit)), (.int .i64)] (
  G (0 ≤ (1 : Int) ∧ (1 : Int) ≤ (c.2.1.length : Int) ∧ (c.2.1.length : Int) ≤ (c.2.1.length : Int)) (
  (slices_Clone (((((ix l rule).2).2).2).1)).bind (fun y'_2 =>
  G (room y'_2 (cut c.2.1 (1 : Int) (c.2.1.length : Int)) 8) (
  stack_Step_J9 (0 : Int) ((((ix l rule).2).2).1) (y'_2 ++ (cut c.2.1 (1 : Int) (c.2.1.length : Int))))))) (
  both [(.pair (.int .i64) (.pair (.list (.int .i64)) .unit)), (.int .i64)] (
  (slices_Clone (((((ix l rule).2).2).2).1)).bind (fun y'_3 =>
  both [(.pair (.int .i64) (.pair (.list (.int .i64)) .unit)), (.int .i64)] (
  G (0 ≤ (1 : Int) ∧ (1 : Int) ≤ (c.2.1.length : Int) ∧ (c.2.1.length : Int) ≤ (c.2.1.length : Int)) (
  G (room y'_3 (cut c.2.1 (1 : Int) (c.2.1.length : Int)) 8) (
  stack_Step_J9 (0 : Int) ((((ix l rule).2).2).1) (y'_3 ++ (cut c.2.1 (1 : Int) (c.2.1.length : Int)))))) (
  G (0 ≤ (1 : Int) ∧ (1 : Int) ≤ (c.2.1.length : Int) ∧ (c.2.1.length : Int) ≤ (c.2.1.length : Int)) (
  both [(.pair (.int .i64) (.pair (.list (.int .i64)) .unit)), (.int .i64)] (
  G (room y'_3 (cut c.2.1 (1 : Int) (c.2.1.length : Int)) 8) (
  stack_Step_J9 (0 : Int) ((((ix l rule).2).2).1) (y'_3 ++ (cut c.2.1 (1 : Int) (c.2.1.length : Int))))) (
  G (room y'_3 (cut c.2.1 (1 : Int) (c.2.1.length : Int)) 8) (
  stack_Step_J9 (0 : Int) ((((ix l rule).2).2).1) (y'_3 ++ (cut c.2.1 (1 : Int) (c.2.1.length : Int))))))))) (
  G (0 ≤ (1 : Int) ∧ (1 : Int) ≤ (c.2.1.length : Int) ∧ (c.2.1.length : Int) ≤ (c.2.1.length : Int)) (
  both [(.pair (.int .i64) (.pair (.list (.int .i64)) .unit)), (.int .i64)] (
  (slices_Clone (((((ix l rule).2).2).2).1)).bind (fun y'_4 =>
  G (room y'_4 (cut c.2.1 (1 : Int) (c.2.1.length : Int)) 8) (
  stack_Step_J9 (0 : Int) ((((ix l rule).2).2).1) (y'_4 ++ (cut c.2.1 (1 : Int) (c.2.1.length : Int)))))) (
  (slices_Clone (((((ix l rule).2).2).2).1)).bind (fun y'_5 =>
  both [(.pair (.int .i64) (.pair (.list (.int .i64)) .unit)), (.int .i64)] (
  G (room y'_5 (cut c.2.1 (1 : Int) (c.2.1.length : Int)) 8) (
  stack_Step_J9 (0 : Int) ((((ix l rule).2).2).1) (y'_5 ++ (cut c.2.1 (1 : Int) (c.2.1.length : Int))))) (
  G (room y'_5 (cut c.2.1 (1 : Int) (c.2.1.length : Int)) 8) (
  stack_Step_J9 (0 : Int) ((((ix l rule).2).2).1) (y'_5 ++ (cut c.2.1 (1 : Int) (c.2.1.length : Int))))))))))) (
  G (0 ≤ (1 : Int) ∧ (1 : Int) ≤ (c.2.1.length : Int) ∧ (c.2.1.length : Int) ≤ (c.2.1.length : Int)) (
  both [(.pair (.int .i64) (.pair (.list (.int .i64)) .unit)), (.int .i64)] (
  (slices_Clone (((((ix l rule).2).2).2).1)).bind (fun y'_6 =>
  G (room y'_6 (cut c.2.1 (1 : Int) (c.2.1.length : Int)) 8) (
  stack_Step_J9 (0 : Int) ((((ix l rule).2).2).1) (y'_6 ++ (cut c.2.1 (1 : Int) (c.2.1.length : Int)))))) (
  both [(.pair (.int .i64) (.pair (.list (.int .i64)) .unit)), (.int .i64)] (
  (slices_Clone (((((ix l rule).2).2).2).1)).bind (fun y'_7 =>
  G (room y'_7 (cut c.2.1 (1 : Int) (c.2.1.length : Int)) 8) (
  stack_Step_J9 (0 : Int) ((((ix l rule).2).2).1) (y'_7 ++ (cut c.2.1 (1 : Int) (c.2.1.length : Int)))))) (
  (slices_Clone (((((ix l rule).2).2).2).1)).bind (fun y'_8 =>
  both [(.pair (.int .i64) (.pair (.list (.int .i64)) .unit)), (.int .i64)] (
  G (room y'_8 (cut c.2.1 (1 : Int) (c.2.1.length : Int)) 8) (
  stack_Step_J9 (0 : Int) ((((ix l rule).2).2).1) (y'_8 ++ (cut c.2.1 (1 : Int) (c.2.1.length : Int))))) (
  G (room y'_8 (cut c.2.1 (1 : Int) (c.2.1.length : Int)) 8) (
  stack_Step_J9 (0 : Int) ((((ix l rule).2).2).1) (y'_8 ++ (cut c.2.1 (1 : Int) (c.2.1.length : Int))))))))))))))

noncomputable def r14_Config_L6_B (c : (Int × (List Int) × Unit)) (r6 : Int → Option (Int)) (i : Int) : Option (Int) :=
  if (decide (i < (c.2.1.length : Int))) = true then
  G (0 ≤ i ∧ i < (c.2.1.length : Int)) (
  if (decide ((ix c.2.1 i) < (0 : Int))) = true then
  some (2 : Int) else
  G (0 ≤ i ∧ i < (c.2.1.length : Int)) (
  if (decide ((2 : Int) < (ix c.2.1 i))) = true then
  some (2 : Int) else
  G (fits (i + (1 : Int))) (
  r6 (i + (1 : Int))))) else
  some (0 : Int)
noncomputable def r14_Config_L6_F (c : (Int × (List Int) × Unit)) : (Int → Option (Int)) → Int → Option (Int) :=
  fun rec x => r14_Config_L6_B c (fun i => rec i) x
noncomputable def r14_Config_L6 (c : (Int × (List Int) × Unit)) (i : Int) : Option (Int) := LFix (r14_Config_L6_F c ) i
noncomputable def r14_Config (c : (Int × (List Int) × Unit)) : Option (Int) :=
  if (decide ((20 : Int) < (c.2.1.length : Int))) = true then
  some (1 : Int) else
  if (decide (c.1 < (0 : Int))) = true then
  some (2 : Int) else
  if (decide ((2 : Int) < c.1)) = true then
  some (2 : Int) else
  r14_Config_L6 c (0 : Int)
theorem r14_Config_L6_B_ch (r6 : Nat → Int → Option (Int)) (r6' : Int → Option (Int)) (h_r6 : ∀ a0, ChO (fun κ => r6 κ a0) (r6' a0)) (c : (Int × (List Int) × Unit)) (i : Int) : ChO (fun κ => r14_Config_L6_B c (r6 κ) i) (r14_Config_L6_B c r6' i) := by
  unfold r14_Config_L6_B
  repeat' first | exact ChO.const _ | exact h_r6 _ | apply ChO.ite | apply ChO.G | apply ChO.both | (apply ChO.bind; intro _)
theorem r14_Config_L6_cn  (c : (Int × (List Int) × Unit)) : Cn (r14_Config_L6_F c) := fun g h hg x => r14_Config_L6_B_ch  (fun κ i => g κ i) (fun i => h i) (fun i => hg i) c x
theorem r14_Config_L6_eq  (c : (Int × (List Int) × Unit)) (i : Int) : r14_Config_L6 c i = r14_Config_L6_B c (r14_Config_L6 c) i := LFix_eq (r14_Config_L6_cn c) i

noncomputable def r14_Can (r : (Int × Int × Int × (List Int) × Unit)) (c : (Int × (List Int) × Unit)) : Option (Bool) :=
  if (decide (c.1 = r.1)) = true then
  if (decide ((0 : Int) < (c.2.1.length : Int))) = true then
  G (0 ≤ (0 : Int) ∧ (0 : Int) < (c.2.1.length : Int)) (
  some (decide ((ix c.2.1 (0 : Int)) = r.2.1))) else
  some false else
  some false

noncomputable def r14_Behind (r : (Int × Int × Int × (List Int) × Unit)) (c : (Int × (List Int) × Unit)) : Option (Int × (List Int) × Unit) :=
  G (room ([] : List Int) r.2.2.2.1 8) (
  G (0 ≤ (1 : Int) ∧ (1 : Int) ≤ (c.2.1.length : Int) ∧ (c.2.1.length : Int) ≤ (c.2.1.length : Int)) (
  G (room r.2.2.2.1 (cut c.2.1 (1 : Int) (c.2.1.length : Int)) 8) (
  some (r.2.2.1, (r.2.2.2.1 ++ (cut c.2.1 (1 : Int) (c.2.1.length : Int)), ())))))

noncomputable def r14_Same_L4_B (a : (Int × (List Int) × Unit)) (b : (Int × (List Int) × Unit)) (r4 : Int → Option (Bool)) (i : Int) : Option (Bool) :=
  if (decide (i < (a.2.1.length : Int))) = true then
  G (0 ≤ i ∧ i < (a.2.1.length : Int)) (
  G (0 ≤ i ∧ i < (b.2.1.length : Int)) (
  if (decide (¬ (ix a.2.1 i) = (ix b.2.1 i))) = true then
  some false else
  G (fits (i + (1 : Int))) (
  r4 (i + (1 : Int))))) else
  some true
noncomputable def r14_Same_L4_F (a : (Int × (List Int) × Unit)) (b : (Int × (List Int) × Unit)) : (Int → Option (Bool)) → Int → Option (Bool) :=
  fun rec x => r14_Same_L4_B a b (fun i => rec i) x
noncomputable def r14_Same_L4 (a : (Int × (List Int) × Unit)) (b : (Int × (List Int) × Unit)) (i : Int) : Option (Bool) := LFix (r14_Same_L4_F a b ) i
noncomputable def r14_Same (a : (Int × (List Int) × Unit)) (b : (Int × (List Int) × Unit)) : Option (Bool) :=
  if (decide (¬ a.1 = b.1)) = true then
  some false else
  if (decide (¬ (a.2.1.length : Int) = (b.2.1.length : Int))) = true then
  some false else
  r14_Same_L4 a b (0 : Int)
theorem r14_Same_L4_B_ch (r4 : Nat → Int → Option (Bool)) (r4' : Int → Option (Bool)) (h_r4 : ∀ a0, ChO (fun κ => r4 κ a0) (r4' a0)) (a : (Int × (List Int) × Unit)) (b : (Int × (List Int) × Unit)) (i : Int) : ChO (fun κ => r14_Same_L4_B a b (r4 κ) i) (r14_Same_L4_B a b r4' i) := by
  unfold r14_Same_L4_B
  repeat' first | exact ChO.const _ | exact h_r4 _ | apply ChO.ite | apply ChO.G | apply ChO.both | (apply ChO.bind; intro _)
theorem r14_Same_L4_cn  (a : (Int × (List Int) × Unit)) (b : (Int × (List Int) × Unit)) : Cn (r14_Same_L4_F a b) := fun g h hg x => r14_Same_L4_B_ch  (fun κ i => g κ i) (fun i => h i) (fun i => hg i) a b x
theorem r14_Same_L4_eq  (a : (Int × (List Int) × Unit)) (b : (Int × (List Int) × Unit)) (i : Int) : r14_Same_L4 a b i = r14_Same_L4_B a b (r14_Same_L4 a b) i := LFix_eq (r14_Same_L4_cn a b) i

noncomputable def law_StackSteps_J17 (y'_2 : (Int × (List Int) × Unit)) (y'_3 : Int) (y'_8 : Int) (y'_9 : (List Int)) : Option (Bool) :=
  (r14_Same (y'_2.1, (y'_2.2.1, ())) (y'_8, (y'_9, ()))).bind (fun y'_10 =>
  if (decide (y'_3 = (0 : Int))) = true then
  some y'_10 else
  some false)
noncomputable def law_StackSteps_J14 (l : (List (Int × Int × Int × (List Int) × Unit))) (c : (Int × (List Int) × Unit)) (rule : Int) (y'_2 : (Int × (List Int) × Unit)) (y'_3 : Int) (no_2 : Int) : Option (Bool) :=
  if (decide (¬ no_2 = (0 : Int))) = true then
  if (decide (y'_3 = no_2)) = true then
  if (decide (y'_2.1 = (0 : Int))) = true then
  some (decide ((y'_2.2.1.length : Int) = (0 : Int))) else
  some false else
  some false else
  G (0 ≤ rule ∧ rule < (l.length : Int)) (
  both [.bool] (
  both [.bool] (
  both [.bool] (
  (r14_Behind (ix l rule) (c.1, (c.2.1, ()))).bind (fun y'_7 =>
  law_StackSteps_J17 y'_2 y'_3 y'_7.1 y'_7.2.1)) (
  (r14_Behind (ix l rule) (c.1, (c.2.1, ()))).bind (fun y'_11 =>
  law_StackSteps_J17 y'_2 y'_3 y'_11.1 y'_11.2.1))) (
  (r14_Behind (ix l rule) (c.1, (c.2.1, ()))).bind (fun y'_12 =>
  law_StackSteps_J17 y'_2 y'_3 y'_12.1 y'_12.2.1))) (
  both [.bool] (
  both [.bool] (
  both [.bool] (
  (r14_Behind (ix l rule) (c.1, (c.2.1, ()))).bind (fun y'_13 =>
  law_StackSteps_J17 y'_2 y'_3 y'_13.1 y'_13.2.1)) (
  (r14_Behind (ix l rule) (c.1, (c.2.1, ()))).bind (fun y'_14 =>
  law_StackSteps_J17 y'_2 y'_3 y'_14.1 y'_14.2.1))) (
  (r14_Behind (ix l rule) (c.1, (c.2.1, ()))).bind (fun y'_15 =>
  law_StackSteps_J17 y'_2 y'_3 y'_15.1 y'_15.2.1))) (
  (r14_Behind (ix l rule) (c.1, (c.2.1, ()))).bind (fun y'_16 =>
  law_StackSteps_J17 y'_2 y'_3 y'_16.1 y'_16.2.1))))
noncomputable def law_StackSteps_J10 (l : (List (Int × Int × Int × (List Int) × Unit))) (c : (Int × (List Int) × Unit)) (rule : Int) (y'_2 : (Int × (List Int) × Unit)) (y'_3 : Int) (no_1 : Int) : Option (Bool) :=
  if (decide (no_1 = (0 : Int))) = true then
  G (0 ≤ rule ∧ rule < (l.length : Int)) (
  (r14_Can (ix l rule) (c.1, (c.2.1, ()))).bind (fun y'_6 =>
  if (!y'_6) = true then
  law_StackSteps_J14 l c rule y'_2 y'_3 (6 : Int) else
  law_StackSteps_J14 l c rule y'_2 y'_3 no_1)) else
  law_StackSteps_J14 l c rule y'_2 y'_3 no_1
noncomputable def law_StackSteps_J9 (l : (List (Int × Int × Int × (List Int) × Unit))) (c : (Int × (List Int) × Unit)) (rule : Int) (y'_2 : (Int × (List Int) × Unit)) (y'_3 : Int) (no : Int) (t : Bool) : Option (Bool) :=
  if t = true then
  law_StackSteps_J10 l c rule y'_2 y'_3 (5 : Int) else
  law_StackSteps_J10 l c rule y'_2 y'_3 no
noncomputable def law_StackSteps_J8 (l : (List (Int × Int × Int × (List Int) × Unit))) (c : (Int × (List Int) × Unit)) (rule : Int) (y'_2 : (Int × (List Int) × Unit)) (y'_3 : Int) (no : Int) : Option (Bool) :=
  if (decide (no = (0 : Int))) = true then
  if (decide (rule < (0 : Int))) = true then
  law_StackSteps_J9 l c rule y'_2 y'_3 no true else
  law_StackSteps_J9 l c rule y'_2 y'_3 no (decide ((l.length : Int) ≤ rule)) else
  law_StackSteps_J9 l c rule y'_2 y'_3 no false
noncomputable def law_StackSteps (l : (List (Int × Int × Int × (List Int) × Unit))) (c : (Int × (List Int) × Unit)) (rule : Int) : Option (Bool) :=
  (stack_Check l).bind (fun y' =>
  (r14_Check l).bind (fun y'_1 =>
  (stack_Step l (c.1, (c.2.1, ())) rule).bind (fun y'_17 =>
  if (decide (¬ y' = y'_1)) = true then
  some false else
  if (decide (y'_1 = (0 : Int))) = true then
  (r14_Config (c.1, (c.2.1, ()))).bind (fun y'_5 =>
  law_StackSteps_J8 l c rule y'_17.1 y'_17.2 y'_5) else
  law_StackSteps_J8 l c rule y'_17.1 y'_17.2 y'_1)))

end Go.Proofs.Ytgjpkfbaobanlaa.stackStepsW
