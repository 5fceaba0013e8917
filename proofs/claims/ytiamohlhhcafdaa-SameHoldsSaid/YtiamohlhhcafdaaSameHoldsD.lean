/- What the functions that 'SameHolds' reaches compute: plain functions. -/
import Derived.Test.YtiamohlhhcafdaaEv4n21
set_option maxHeartbeats 1000000
set_option maxRecDepth 20000
set_option linter.unusedSimpArgs false
set_option linter.unusedVariables false
namespace Go.Proofs.Ytiamohlhhcafdaa.sameHoldsW
open Go Go.Ab
noncomputable def same_Check_1 (p : Int) (t : (Int × Int × (List (Int × Int × Int × Unit)) × Unit)) : Option (Bool) :=
  if (decide (p < (0 : Int))) = true then
  some true else
  some (decide (t.2.1 ≤ p))

noncomputable def same_Check_2 (x' : (Int × Int × Int × Unit)) (t : (Int × Int × (List (Int × Int × Int × Unit)) × Unit)) (c : (Int × Int × (List (Int × Int × Int × Unit)) × Unit)) : Option (Bool × Int × Int × (List (Int × Int × Int × Unit)) × Unit) :=
  (same_Check_1 x'.1 c).bind (fun y' =>
  if y' = true then
  some (true, c) else
  (same_Check_1 x'.2.2.1 c).bind (fun y'_1 =>
  if y'_1 = true then
  some (true, c) else
  if (decide (x'.2.1 < (0 : Int))) = true then
  some (true, c) else
  some (decide (t.1 ≤ x'.2.1), c)))

noncomputable def slices_IndexFunc_L2_B (s : (List (Int × Int × Int × Unit))) (r2 : (Int × Int × (List (Int × Int × Int × Unit)) × Unit) → Int → (Int × Int × (List (Int × Int × Int × Unit)) × Unit) → Option (Int × Int × Int × (List (Int × Int × Int × Unit)) × Unit)) (f : (Int × Int × (List (Int × Int × Int × Unit)) × Unit)) (t : Int) (l : (Int × Int × (List (Int × Int × Int × Unit)) × Unit)) : Option (Int × Int × Int × (List (Int × Int × Int × Unit)) × Unit) :=
  if (decide (t < (s.length : Int))) = true then
  G (0 ≤ t ∧ t < (s.length : Int)) (
  (same_Check_2 (ix s t) f l).bind (fun y'_3 =>
  if y'_3.1 = true then
  some (t, y'_3.2) else
  G (fits (t + (1 : Int))) (
  r2 f (t + (1 : Int)) y'_3.2))) else
  some ((-1 : Int), l)
noncomputable def slices_IndexFunc_L2_F (s : (List (Int × Int × Int × Unit))) : ((Int × Int × (List (Int × Int × Int × Unit)) × Unit) × Int × Int × Int × (List (Int × Int × Int × Unit)) × Unit → Option (Int × Int × Int × (List (Int × Int × Int × Unit)) × Unit)) → (Int × Int × (List (Int × Int × Int × Unit)) × Unit) × Int × Int × Int × (List (Int × Int × Int × Unit)) × Unit → Option (Int × Int × Int × (List (Int × Int × Int × Unit)) × Unit) :=
  fun rec x => slices_IndexFunc_L2_B s (fun f t l => rec (f, t, l)) x.1 x.2.1 x.2.2
noncomputable def slices_IndexFunc_L2 (s : (List (Int × Int × Int × Unit))) (f : (Int × Int × (List (Int × Int × Int × Unit)) × Unit)) (t : Int) (l : (Int × Int × (List (Int × Int × Int × Unit)) × Unit)) : Option (Int × Int × Int × (List (Int × Int × Int × Unit)) × Unit) := LFix (slices_IndexFunc_L2_F s ) (f, t, l)
noncomputable def slices_IndexFunc (s : (List (Int × Int × Int × Unit))) (c : (Int × Int × (List (Int × Int × Int × Unit)) × Unit)) (c_1 : (Int × Int × (List (Int × Int × Int × Unit)) × Unit)) : Option (Int × Int × Int × (List (Int × Int × Int × Unit)) × Unit) :=
  slices_IndexFunc_L2 s c (0 : Int) c_1
theorem slices_IndexFunc_L2_B_ch (r2 : Nat → (Int × Int × (List (Int × Int × Int × Unit)) × Unit) → Int → (Int × Int × (List (Int × Int × Int × Unit)) × Unit) → Option (Int × Int × Int × (List (Int × Int × Int × Unit)) × Unit)) (r2' : (Int × Int × (List (Int × Int × Int × Unit)) × Unit) → Int → (Int × Int × (List (Int × Int × Int × Unit)) × Unit) → Option (Int × Int × Int × (List (Int × Int × Int × Unit)) × Unit)) (h_r2 : ∀ a0 a1 a2, ChO (fun κ => r2 κ a0 a1 a2) (r2' a0 a1 a2)) (s : (List (Int × Int × Int × Unit))) (f : (Int × Int × (List (Int × Int × Int × Unit)) × Unit)) (t : Int) (l : (Int × Int × (List (Int × Int × Int × Unit)) × Unit)) : ChO (fun κ => slices_IndexFunc_L2_B s (r2 κ) f t l) (slices_IndexFunc_L2_B s r2' f t l) := by
  unfold slices_IndexFunc_L2_B
  repeat' first | exact ChO.const _ | exact h_r2 _ _ _ | apply ChO.ite | apply ChO.G | apply ChO.both | (apply ChO.bind; intro _)
theorem slices_IndexFunc_L2_cn  (s : (List (Int × Int × Int × Unit))) : Cn (slices_IndexFunc_L2_F s) := fun g h hg x => slices_IndexFunc_L2_B_ch  (fun κ f t l => g κ (f, t, l)) (fun f t l => h (f, t, l)) (fun f t l => hg (f, t, l)) s x.1 x.2.1 x.2.2
theorem slices_IndexFunc_L2_eq  (s : (List (Int × Int × Int × Unit))) (f : (Int × Int × (List (Int × Int × Int × Unit)) × Unit)) (t : Int) (l : (Int × Int × (List (Int × Int × Int × Unit)) × Unit)) : slices_IndexFunc_L2 s f t l = slices_IndexFunc_L2_B s (slices_IndexFunc_L2 s) f t l := LFix_eq (slices_IndexFunc_L2_cn s) (f, t, l)

noncomputable def slices_ContainsFunc (s : (List (Int × Int × Int × Unit))) (c : (Int × Int × (List (Int × Int × Int × Unit)) × Unit)) (c_1 : (Int × Int × (List (Int × Int × Int × Unit)) × Unit)) : Option (Bool × Int × Int × (List (Int × Int × Int × Unit)) × Unit) :=
  (slices_IndexFunc s c c_1).bind (fun y'_3 =>
  some (decide ((0 : Int) ≤ y'_3.1), y'_3.2))

noncomputable def cmp_isNaN (x' : Int) : Option (Bool) :=
  some (decide (¬ x' = x'))

noncomputable def cmp_Compare (x' : Int) (y' : Int) : Option (Int) :=
  (cmp_isNaN x').bind (fun y'_1 =>
  (cmp_isNaN y').bind (fun y'_2 =>
  if y'_1 = true then
  if y'_2 = true then
  some (0 : Int) else
  some (-1 : Int) else
  if y'_2 = true then
  some (1 : Int) else
  if (decide (x' < y')) = true then
  some (-1 : Int) else
  if (decide (y' < x')) = true then
  some (1 : Int) else
  some (0 : Int)))

noncomputable def cmp_Or_L3_B (vals : (List Int)) (r3 : Int → Option (Int)) (t : Int) : Option (Int) :=
  if (decide (t < (vals.length : Int))) = true then
  G (0 ≤ t ∧ t < (vals.length : Int)) (
  if (decide (¬ (ix vals t) = (0 : Int))) = true then
  some (ix vals t) else
  G (fits (t + (1 : Int))) (
  r3 (t + (1 : Int)))) else
  some (0 : Int)
noncomputable def cmp_Or_L3_F (vals : (List Int)) : (Int → Option (Int)) → Int → Option (Int) :=
  fun rec x => cmp_Or_L3_B vals (fun t => rec t) x
noncomputable def cmp_Or_L3 (vals : (List Int)) (t : Int) : Option (Int) := LFix (cmp_Or_L3_F vals ) t
noncomputable def cmp_Or (vals : (List Int)) : Option (Int) :=
  cmp_Or_L3 vals (0 : Int)
theorem cmp_Or_L3_B_ch (r3 : Nat → Int → Option (Int)) (r3' : Int → Option (Int)) (h_r3 : ∀ a0, ChO (fun κ => r3 κ a0) (r3' a0)) (vals : (List Int)) (t : Int) : ChO (fun κ => cmp_Or_L3_B vals (r3 κ) t) (cmp_Or_L3_B vals r3' t) := by
  unfold cmp_Or_L3_B
  repeat' first | exact ChO.const _ | exact h_r3 _ | apply ChO.ite | apply ChO.G | apply ChO.both | (apply ChO.bind; intro _)
theorem cmp_Or_L3_cn  (vals : (List Int)) : Cn (cmp_Or_L3_F vals) := fun g h hg x => cmp_Or_L3_B_ch  (fun κ t => g κ t) (fun t => h t) (fun t => hg t) vals x
theorem cmp_Or_L3_eq  (vals : (List Int)) (t : Int) : cmp_Or_L3 vals t = cmp_Or_L3_B vals (cmp_Or_L3 vals) t := LFix_eq (cmp_Or_L3_cn vals) t

noncomputable def same_order (x' : (Int × Int × Int × Unit)) (y' : (Int × Int × Int × Unit)) : Option (Int) :=
  (cmp_Compare x'.1 y'.1).bind (fun y'_1 =>
  (cmp_Compare x'.2.1 y'.2.1).bind (fun y'_2 =>
  (cmp_Compare x'.2.2.1 y'.2.2.1).bind (fun y'_3 =>
  (cmp_Or ([y'_1, y'_2, y'_3])).bind (fun y'_4 =>
  some y'_4))))

noncomputable def same_Check_L9_B (g' : (Int × Int × (List (Int × Int × Int × Unit)) × Unit)) (r9 : Int → Option (Int)) (t : Int) : Option (Int) :=
  if (decide (t < (g'.2.2.1.length : Int))) = true then
  if (decide ((0 : Int) < t)) = true then
  G (fits (t - (1 : Int))) (
  G (0 ≤ t - (1 : Int) ∧ t - (1 : Int) < (g'.2.2.1.length : Int)) (
  G (0 ≤ t ∧ t < (g'.2.2.1.length : Int)) (
  (same_order (ix g'.2.2.1 (t - (1 : Int))) (ix g'.2.2.1 t)).bind (fun y'_3 =>
  if (decide ((0 : Int) ≤ y'_3)) = true then
  some (3 : Int) else
  G (fits (t + (1 : Int))) (
  r9 (t + (1 : Int))))))) else
  G (fits (t + (1 : Int))) (
  r9 (t + (1 : Int))) else
  some (0 : Int)
noncomputable def same_Check_L9_F (g' : (Int × Int × (List (Int × Int × Int × Unit)) × Unit)) : (Int → Option (Int)) → Int → Option (Int) :=
  fun rec x => same_Check_L9_B g' (fun t => rec t) x
noncomputable def same_Check_L9 (g' : (Int × Int × (List (Int × Int × Int × Unit)) × Unit)) (t : Int) : Option (Int) := LFix (same_Check_L9_F g' ) t
noncomputable def same_Check (g' : (Int × Int × (List (Int × Int × Int × Unit)) × Unit)) : Option (Int) :=
  if (decide (g'.1 < (1 : Int))) = true then
  some (2 : Int) else
  if (decide ((4 : Int) < g'.1)) = true then
  some (2 : Int) else
  if (decide (g'.2.1 < (1 : Int))) = true then
  some (1 : Int) else
  if (decide ((12 : Int) < g'.2.1)) = true then
  some (1 : Int) else
  if (decide ((60 : Int) < (g'.2.2.1.length : Int))) = true then
  some (1 : Int) else
  (slices_ContainsFunc g'.2.2.1 (g'.1, (g'.2.1, (g'.2.2.1, ()))) (g'.1, (g'.2.1, (g'.2.2.1, ())))).bind (fun y'_4 =>
  if y'_4.1 = true then
  some (2 : Int) else
  same_Check_L9 g' (0 : Int))
theorem same_Check_L9_B_ch (r9 : Nat → Int → Option (Int)) (r9' : Int → Option (Int)) (h_r9 : ∀ a0, ChO (fun κ => r9 κ a0) (r9' a0)) (g' : (Int × Int × (List (Int × Int × Int × Unit)) × Unit)) (t : Int) : ChO (fun κ => same_Check_L9_B g' (r9 κ) t) (same_Check_L9_B g' r9' t) := by
  unfold same_Check_L9_B
  repeat' first | exact ChO.const _ | exact h_r9 _ | apply ChO.ite | apply ChO.G | apply ChO.both | (apply ChO.bind; intro _)
theorem same_Check_L9_cn  (g' : (Int × Int × (List (Int × Int × Int × Unit)) × Unit)) : Cn (same_Check_L9_F g') := fun g h hg x => same_Check_L9_B_ch  (fun κ t => g κ t) (fun t => h t) (fun t => hg t) g' x
theorem same_Check_L9_eq  (g' : (Int × Int × (List (Int × Int × Int × Unit)) × Unit)) (t : Int) : same_Check_L9 g' t = same_Check_L9_B g' (same_Check_L9 g') t := LFix_eq (same_Check_L9_cn g') t

noncomputable def r20_Ahead (x' : (Int × Int × Int × Unit)) (y' : (Int × Int × Int × Unit)) : Option (Bool) :=
  if (decide (¬ x'.1 = y'.1)) = true then
  some (decide (x'.1 < y'.1)) else
  if (decide (¬ x'.2.1 = y'.2.1)) = true then
  some (decide (x'.2.1 < y'.2.1)) else
  some (decide (x'.2.2.1 < y'.2.2.1))

noncomputable def r20_Check_L12_B (g' : (Int × Int × (List (Int × Int × Int × Unit)) × Unit)) (r12 : Int → Option (Int)) (i_1 : Int) : Option (Int) :=
  if (decide (i_1 < (g'.2.2.1.length : Int))) = true then
  G (fits (i_1 - (1 : Int))) (
  G (0 ≤ i_1 - (1 : Int) ∧ i_1 - (1 : Int) < (g'.2.2.1.length : Int)) (
  G (0 ≤ i_1 ∧ i_1 < (g'.2.2.1.length : Int)) (
  (r20_Ahead (ix g'.2.2.1 (i_1 - (1 : Int))) (ix g'.2.2.1 i_1)).bind (fun y' =>
  if (!y') = true then
  some (3 : Int) else
  G (fits (i_1 + (1 : Int))) (
  r12 (i_1 + (1 : Int))))))) else
  some (0 : Int)
noncomputable def r20_Check_L12_F (g' : (Int × Int × (List (Int × Int × Int × Unit)) × Unit)) : (Int → Option (Int)) → Int → Option (Int) :=
  fun rec x => r20_Check_L12_B g' (fun i_1 => rec i_1) x
noncomputable def r20_Check_L12 (g' : (Int × Int × (List (Int × Int × Int × Unit)) × Unit)) (i_1 : Int) : Option (Int) := LFix (r20_Check_L12_F g' ) i_1
noncomputable def r20_Check_L6_B (g' : (Int × Int × (List (Int × Int × Int × Unit)) × Unit)) (r6 : Int → Option (Int)) (i : Int) : Option (Int) :=
  if (decide (i < (g'.2.2.1.length : Int))) = true then
  G (0 ≤ i ∧ i < (g'.2.2.1.length : Int)) (
  if (decide (((ix g'.2.2.1 i).1) < (0 : Int))) = true then
  some (2 : Int) else
  if (decide (g'.2.1 ≤ ((ix g'.2.2.1 i).1))) = true then
  some (2 : Int) else
  if (decide (((((ix g'.2.2.1 i).2).2).1) < (0 : Int))) = true then
  some (2 : Int) else
  if (decide (g'.2.1 ≤ ((((ix g'.2.2.1 i).2).2).1))) = true then
  some (2 : Int) else
  if (decide ((((ix g'.2.2.1 i).2).1) < (0 : Int))) = true then
  some (2 : Int) else
  if (decide (g'.1 ≤ (((ix g'.2.2.1 i).2).1))) = true then
  some (2 : Int) else
  G (fits (i + (1 : Int))) (
  r6 (i + (1 : Int)))) else
  r20_Check_L12 g' (1 : Int)
noncomputable def r20_Check_L6_F (g' : (Int × Int × (List (Int × Int × Int × Unit)) × Unit)) : (Int → Option (Int)) → Int → Option (Int) :=
  fun rec x => r20_Check_L6_B g' (fun i => rec i) x
noncomputable def r20_Check_L6 (g' : (Int × Int × (List (Int × Int × Int × Unit)) × Unit)) (i : Int) : Option (Int) := LFix (r20_Check_L6_F g' ) i
noncomputable def r20_Check (g' : (Int × Int × (List (Int × Int × Int × Unit)) × Unit)) : Option (Int) :=
  if (decide (g'.1 < (1 : Int))) = true then
  some (2 : Int) else
  if (decide ((4 : Int) < g'.1)) = true then
  some (2 : Int) else
  if (decide (g'.2.1 < (1 : Int))) = true then
  some (1 : Int) else
  if (decide ((12 : Int) < g'.2.1)) = true then
  some (1 : Int) else
  if (decide ((60 : Int) < (g'.2.2.1.length : Int))) = true then
  some (1 : Int) else
  r20_Check_L6 g' (0 : Int)
theorem r20_Check_L12_B_ch (r12 : Nat → Int → Option (Int)) (r12' : Int → Option (Int)) (h_r12 : ∀ a0, ChO (fun κ => r12 κ a0) (r12' a0)) (g' : (Int × Int × (List (Int × Int × Int × Unit)) × Unit)) (i_1 : Int) : ChO (fun κ => r20_Check_L12_B g' (r12 κ) i_1) (r20_Check_L12_B g' r12' i_1) := by
  unfold r20_Check_L12_B
  repeat' first | exact ChO.const _ | exact h_r12 _ | apply ChO.ite | apply ChO.G | apply ChO.both | (apply ChO.bind; intro _)
theorem r20_Check_L12_cn  (g' : (Int × Int × (List (Int × Int × Int × Unit)) × Unit)) : Cn (r20_Check_L12_F g') := fun g h hg x => r20_Check_L12_B_ch  (fun κ i_1 => g κ i_1) (fun i_1 => h i_1) (fun i_1 => hg i_1) g' x
theorem r20_Check_L12_eq  (g' : (Int × Int × (List (Int × Int × Int × Unit)) × Unit)) (i_1 : Int) : r20_Check_L12 g' i_1 = r20_Check_L12_B g' (r20_Check_L12 g') i_1 := LFix_eq (r20_Check_L12_cn g') i_1
theorem r20_Check_L6_B_ch (r6 : Nat → Int → Option (Int)) (r6' : Int → Option (Int)) (h_r6 : ∀ a0, ChO (fun κ => r6 κ a0) (r6' a0)) (g' : (Int × Int × (List (Int × Int × Int × Unit)) × Unit)) (i : Int) : ChO (fun κ => r20_Check_L6_B g' (r6 κ) i) (r20_Check_L6_B g' r6' i) := by
  unfold r20_Check_L6_B
  repeat' first | exact ChO.const _ | exact h_r6 _ | apply ChO.ite | apply ChO.G | apply ChO.both | (apply ChO.bind; intro _)
theorem r20_Check_L6_cn  (g' : (Int × Int × (List (Int × Int × Int × Unit)) × Unit)) : Cn (r20_Check_L6_F g') := fun g h hg x => r20_Check_L6_B_ch  (fun κ i => g κ i) (fun i => h i) (fun i => hg i) g' x
theorem r20_Check_L6_eq  (g' : (Int × Int × (List (Int × Int × Int × Unit)) × Unit)) (i : Int) : r20_Check_L6 g' i = r20_Check_L6_B g' (r20_Check_L6 g') i := LFix_eq (r20_Check_L6_cn g') i

noncomputable def same_Saying_1 (k : Int) (has : Bool) (t : Int) : Option (Bool) :=
  if has = true then
  if (decide ((0 : Int) ≤ k)) = true then
  if (decide (k < t)) = true then
  some true else
  if (!has) = true then
  some (decide (k = (0 : Int))) else
  some false else
  if (!has) = true then
  some (decide (k = (0 : Int))) else
  some false else
  if (!has) = true then
  some (decide (k = (0 : Int))) else
  some false

noncomputable def same_Saying_L4_B (l : (List (Int × Int × Int × Int × Unit))) (r4 : Int → Option (Int)) (t : Int) : Option (Int) :=
  if (decide (t < (l.length : Int))) = true then
  G (0 ≤ t ∧ t < (l.length : Int)) (
  if (decide (((ix l t).1) < (0 : Int))) = true then
  some (3 : Int) else
  if (decide ((3 : Int) < ((ix l t).1))) = true then
  some (3 : Int) else
  (same_Saying_1 ((((ix l t).2).2).1) (decide ((0 : Int) < ((ix l t).1))) t).bind (fun y' =>
  if (!y') = true then
  some (2 : Int) else
  (same_Saying_1 (((((ix l t).2).2).2).1) (decide (((ix l t).1) = (3 : Int))) t).bind (fun y'_1 =>
  if (!y'_1) = true then
  some (2 : Int) else
  if (decide (¬ ((ix l t).1) = (2 : Int))) = true then
  if (decide (¬ (((ix l t).2).1) = (0 : Int))) = true then
  some (2 : Int) else
  if (decide ((((ix l t).2).1) < (0 : Int))) = true then
  some (2 : Int) else
  if (decide ((4 : Int) ≤ (((ix l t).2).1))) = true then
  some (2 : Int) else
  G (fits (t + (1 : Int))) (
  r4 (t + (1 : Int))) else
  if (decide ((((ix l t).2).1) < (0 : Int))) = true then
  some (2 : Int) else
  if (decide ((4 : Int) ≤ (((ix l t).2).1))) = true then
  some (2 : Int) else
  G (fits (t + (1 : Int))) (
  r4 (t + (1 : Int)))))) else
  some (0 : Int)
noncomputable def same_Saying_L4_F (l : (List (Int × Int × Int × Int × Unit))) : (Int → Option (Int)) → Int → Option (Int) :=
  fun rec x => same_Saying_L4_B l (fun t => rec t) x
noncomputable def same_Saying_L4 (l : (List (Int × Int × Int × Int × Unit))) (t : Int) : Option (Int) := LFix (same_Saying_L4_F l ) t
noncomputable def same_Saying (l : (List (Int × Int × Int × Int × Unit))) : Option (Int) :=
  if (decide ((l.length : Int) < (1 : Int))) = true then
  some (1 : Int) else
  if (decide ((3000 : Int) < (l.length : Int))) = true then
  some (1 : Int) else
  same_Saying_L4 l (0 : Int)
theorem same_Saying_L4_B_ch (r4 : Nat → Int → Option (Int)) (r4' : Int → Option (Int)) (h_r4 : ∀ a0, ChO (fun κ => r4 κ a0) (r4' a0)) (l : (List (Int × Int × Int × Int × Unit))) (t : Int) : ChO (fun κ => same_Saying_L4_B l (r4 κ) t) (same_Saying_L4_B l r4' t) := by
  unfold same_Saying_L4_B
  repeat' first | exact ChO.const _ | exact h_r4 _ | apply ChO.ite | apply ChO.G | apply ChO.both | (apply ChO.bind; intro _)
theorem same_Saying_L4_cn  (l : (List (Int × Int × Int × Int × Unit))) : Cn (same_Saying_L4_F l) := fun g h hg x => same_Saying_L4_B_ch  (fun κ t => g κ t) (fun t => h t) (fun t => hg t) l x
theorem same_Saying_L4_eq  (l : (List (Int × Int × Int × Int × Unit))) (t : Int) : same_Saying_L4 l t = same_Saying_L4_B l (same_Saying_L4 l) t := LFix_eq (same_Saying_L4_cn l) t

noncomputable def r20_Saying_J17 (l : (List (Int × Int × Int × Int × Unit))) (i : Int) (r4 : (Int → Option (Int))) (a : Int) (b : Int) (c : Int) : Option (Int) :=
  if (decide (((((ix l i).2).2).1) < (0 : Int))) = true then
  some (2 : Int) else
  if (decide (a ≤ ((((ix l i).2).2).1))) = true then
  some (2 : Int) else
  if (decide ((((((ix l i).2).2).2).1) < (0 : Int))) = true then
  some (2 : Int) else
  if (decide (b ≤ (((((ix l i).2).2).2).1))) = true then
  some (2 : Int) else
  if (decide ((((ix l i).2).1) < (0 : Int))) = true then
  some (2 : Int) else
  if (decide (c ≤ (((ix l i).2).1))) = true then
  some (2 : Int) else
  G (fits (i + (1 : Int))) (
  r4 (i + (1 : Int)))
noncomputable def r20_Saying_J14 (l : (List (Int × Int × Int × Int × Unit))) (i : Int) (r4 : (Int → Option (Int))) (a : Int) (b : Int) : Option (Int) :=
  if (decide (((ix l i).1) = (2 : Int))) = true then
  r20_Saying_J17 l i r4 a b (4 : Int) else
  r20_Saying_J17 l i r4 a b (1 : Int)
noncomputable def r20_Saying_J11 (l : (List (Int × Int × Int × Int × Unit))) (i : Int) (r4 : (Int → Option (Int))) (a : Int) : Option (Int) :=
  if (decide (((ix l i).1) = (3 : Int))) = true then
  r20_Saying_J14 l i r4 a i else
  r20_Saying_J14 l i r4 a (1 : Int)
noncomputable def r20_Saying_L4_B (l : (List (Int × Int × Int × Int × Unit))) (r4 : Int → Option (Int)) (i : Int) : Option (Int) :=
  if (decide (i < (l.length : Int))) = true then
  G (0 ≤ i ∧ i < (l.length : Int)) (
  if (decide (((ix l i).1) < (0 : Int))) = true then
  some (3 : Int) else
  if (decide ((3 : Int) < ((ix l i).1))) = true then
  some (3 : Int) else
  if (decide ((0 : Int) < ((ix l i).1))) = true then
  r20_Saying_J11 l i r4 i else
  r20_Saying_J11 l i r4 (1 : Int)) else
  some (0 : Int)
noncomputable def r20_Saying_L4_F (l : (List (Int × Int × Int × Int × Unit))) : (Int → Option (Int)) → Int → Option (Int) :=
  fun rec x => r20_Saying_L4_B l (fun i => rec i) x
noncomputable def r20_Saying_L4 (l : (List (Int × Int × Int × Int × Unit))) (i : Int) : Option (Int) := LFix (r20_Saying_L4_F l ) i
noncomputable def r20_Saying (l : (List (Int × Int × Int × Int × Unit))) : Option (Int) :=
  if (decide ((l.length : Int) < (1 : Int))) = true then
  some (1 : Int) else
  if (decide ((3000 : Int) < (l.length : Int))) = true then
  some (1 : Int) else
  r20_Saying_L4 l (0 : Int)
theorem r20_Saying_J17_ch (r4 : Nat → Int → Option (Int)) (r4' : Int → Option (Int)) (h_r4 : ∀ a0, ChO (fun κ => r4 κ a0) (r4' a0)) (l : (List (Int × Int × Int × Int × Unit))) (i : Int) (a : Int) (b : Int) (c : Int) : ChO (fun κ => r20_Saying_J17 l i (r4 κ) a b c) (r20_Saying_J17 l i r4' a b c) := by
  unfold r20_Saying_J17
  repeat' first | exact ChO.const _ | exact h_r4 _ | apply ChO.ite | apply ChO.G | apply ChO.both | (apply ChO.bind; intro _)
theorem r20_Saying_J14_ch (r4 : Nat → Int → Option (Int)) (r4' : Int → Option (Int)) (h_r4 : ∀ a0, ChO (fun κ => r4 κ a0) (r4' a0)) (l : (List (Int × Int × Int × Int × Unit))) (i : Int) (a : Int) (b : Int) : ChO (fun κ => r20_Saying_J14 l i (r4 κ) a b) (r20_Saying_J14 l i r4' a b) := by
  unfold r20_Saying_J14
  repeat' first | exact ChO.const _ | exact h_r4 _ | (apply r20_Saying_J17_ch <;> assumption) | apply ChO.ite | apply ChO.G | apply ChO.both | (apply ChO.bind; intro _)
theorem r20_Saying_J11_ch (r4 : Nat → Int → Option (Int)) (r4' : Int → Option (Int)) (h_r4 : ∀ a0, ChO (fun κ => r4 κ a0) (r4' a0)) (l : (List (Int × Int × Int × Int × Unit))) (i : Int) (a : Int) : ChO (fun κ => r20_Saying_J11 l i (r4 κ) a) (r20_Saying_J11 l i r4' a) := by
  unfold r20_Saying_J11
  repeat' first | exact ChO.const _ | exact h_r4 _ | (apply r20_Saying_J17_ch <;> assumption) | (apply r20_Saying_J14_ch <;> assumption) | apply ChO.ite | apply ChO.G | apply ChO.both | (apply ChO.bind; intro _)
theorem r20_Saying_L4_B_ch (r4 : Nat → Int → Option (Int)) (r4' : Int → Option (Int)) (h_r4 : ∀ a0, ChO (fun κ => r4 κ a0) (r4' a0)) (l : (List (Int × Int × Int × Int × Unit))) (i : Int) : ChO (fun κ => r20_Saying_L4_B l (r4 κ) i) (r20_Saying_L4_B l r4' i) := by
  unfold r20_Saying_L4_B
  repeat' first | exact ChO.const _ | exact h_r4 _ | (apply r20_Saying_J17_ch <;> assumption) | (apply r20_Saying_J14_ch <;> assumption) | (apply r20_Saying_J11_ch <;> assumption) | apply ChO.ite | apply ChO.G | apply ChO.both | (apply ChO.bind; intro _)
theorem r20_Saying_L4_cn  (l : (List (Int × Int × Int × Int × Unit))) : Cn (r20_Saying_L4_F l) := fun g h hg x => r20_Saying_L4_B_ch  (fun κ i => g κ i) (fun i => h i) (fun i => hg i) l x
theorem r20_Saying_L4_eq  (l : (List (Int × Int × Int × Int × Unit))) (i : Int) : r20_Saying_L4 l i = r20_Saying_L4_B l (r20_Saying_L4 l) i := LFix_eq (r20_Saying_L4_cn l) i

noncomputable def same_Holds_1 (x' : (Int × Int × Int × Unit)) (t : Int) (t_1 : (Int × Int × Int × Int × Unit)) (t_2 : (List (List Bool))) : Option (Bool) :=
  if (decide (x'.1 = t)) = true then
  if (decide (x'.2.1 = t_1.2.1)) = true then
  G (0 ≤ t_1.2.2.1 ∧ t_1.2.2.1 < (t_2.length : Int)) (
  G (0 ≤ x'.2.2.1 ∧ x'.2.2.1 < ((ix t_2 t_1.2.2.1).length : Int)) (
  some (ix (ix t_2 t_1.2.2.1) x'.2.2.1))) else
  some false else
  some false

noncomputable def slices_IndexFunc_1_L2_B (s : (List (Int × Int × Int × Unit))) (c : Int) (c_1 : (Int × Int × Int × Int × Unit)) (c_2 : (List (List Bool))) (r2 : Int → Option (Int)) (t : Int) : Option (Int) :=
  if (decide (t < (s.length : Int))) = true then
  G (0 ≤ t ∧ t < (s.length : Int)) (
  (same_Holds_1 (ix s t) c c_1 c_2).bind (fun y' =>
  if y' = true then
  some t else
  G (fits (t + (1 : Int))) (
  r2 (t + (1 : Int))))) else
  some (-1 : Int)
noncomputable def slices_IndexFunc_1_L2_F (s : (List (Int × Int × Int × Unit))) (c : Int) (c_1 : (Int × Int × Int × Int × Unit)) (c_2 : (List (List Bool))) : (Int → Option (Int)) → Int → Option (Int) :=
  fun rec x => slices_IndexFunc_1_L2_B s c c_1 c_2 (fun t => rec t) x
noncomputable def slices_IndexFunc_1_L2 (s : (List (Int × Int × Int × Unit))) (c : Int) (c_1 : (Int × Int × Int × Int × Unit)) (c_2 : (List (List Bool))) (t : Int) : Option (Int) := LFix (slices_IndexFunc_1_L2_F s c c_1 c_2 ) t
noncomputable def slices_IndexFunc_1 (s : (List (Int × Int × Int × Unit))) (c : Int) (c_1 : (Int × Int × Int × Int × Unit)) (c_2 : (List (List Bool))) : Option (Int) :=
  slices_IndexFunc_1_L2 s c c_1 c_2 (0 : Int)
theorem slices_IndexFunc_1_L2_B_ch (r2 : Nat → Int → Option (Int)) (r2' : Int → Option (Int)) (h_r2 : ∀ a0, ChO (fun κ => r2 κ a0) (r2' a0)) (s : (List (Int × Int × Int × Unit))) (c : Int) (c_1 : (Int × Int × Int × Int × Unit)) (c_2 : (List (List Bool))) (t : Int) : ChO (fun κ => slices_IndexFunc_1_L2_B s c c_1 c_2 (r2 κ) t) (slices_IndexFunc_1_L2_B s c c_1 c_2 r2' t) := by
  unfold slices_IndexFunc_1_L2_B
  repeat' first | exact ChO.const _ | exact h_r2 _ | apply ChO.ite | apply ChO.G | apply ChO.both | (apply ChO.bind; intro _)
theorem slices_IndexFunc_1_L2_cn  (s : (List (Int × Int × Int × Unit))) (c : Int) (c_1 : (Int × Int × Int × Int × Unit)) (c_2 : (List (List Bool))) : Cn (slices_IndexFunc_1_L2_F s c c_1 c_2) := fun g h hg x => slices_IndexFunc_1_L2_B_ch  (fun κ t => g κ t) (fun t => h t) (fun t => hg t) s c c_1 c_2 x
theorem slices_IndexFunc_1_L2_eq  (s : (List (Int × Int × Int × Unit))) (c : Int) (c_1 : (Int × Int × Int × Int × Unit)) (c_2 : (List (List Bool))) (t : Int) : slices_IndexFunc_1_L2 s c c_1 c_2 t = slices_IndexFunc_1_L2_B s c c_1 c_2 (slices_IndexFunc_1_L2 s c c_1 c_2) t := LFix_eq (slices_IndexFunc_1_L2_cn s c c_1 c_2) t

noncomputable def slices_ContainsFunc_1 (s : (List (Int × Int × Int × Unit))) (c : Int) (c_1 : (Int × Int × Int × Int × Unit)) (c_2 : (List (List Bool))) : Option (Bool) :=
  (slices_IndexFunc_1 s c c_1 c_2).bind (fun y' =>
  some (decide ((0 : Int) ≤ y')))

noncomputable def same_Holds_L13_B (g' : (Int × Int × (List (Int × Int × Int × Unit)) × Unit)) (l : (List (Int × Int × Int × Int × Unit))) (t : Int) (all' : (List (List Bool))) (r9 : (Int → (List (List Bool)) → Option ((List Bool) × Int))) (r13 : Int → (List Bool) → Option ((List Bool) × Int)) (t_1 : Int) (is' : (List Bool)) : Option ((List Bool) × Int) :=
  if (decide (t_1 < ((List.replicate (g'.2.1).toNat (false : Bool)).length : Int))) = true then
  if (decide (((ix l t).1) = (0 : Int))) = true then
  G (0 ≤ t_1 ∧ t_1 < (is'.length : Int)) (
  G ((t_1).toNat < is'.length) (
  G (fits (t_1 + (1 : Int))) (
  r13 (t_1 + (1 : Int)) (is'.set (t_1).toNat true)))) else
  if (decide (((ix l t).1) = (1 : Int))) = true then
  G (0 ≤ (((ix l t).2).2).1 ∧ (((ix l t).2).2).1 < (all'.length : Int)) (
  G (((((ix l t).2).2).1).toNat < all'.length) (
  G (0 ≤ t_1 ∧ t_1 < ((ix all' ((((ix l t).2).2).1)).length : Int)) (
  G (0 ≤ t_1 ∧ t_1 < (is'.length : Int)) (
  G ((t_1).toNat < is'.length) (
  G (fits (t_1 + (1 : Int))) (
  r13 (t_1 + (1 : Int)) (is'.set (t_1).toNat (!(ix (ix all' ((((ix l t).2).2).1)) t_1))))))))) else
  if (decide (((ix l t).1) = (2 : Int))) = true then
  (slices_ContainsFunc_1 g'.2.2.1 t_1 ((ix l t).1, (((ix l t).2).1, ((((ix l t).2).2).1, (((((ix l t).2).2).2).1, ())))) all').bind (fun y'_2 =>
  G (0 ≤ t_1 ∧ t_1 < (is'.length : Int)) (
  G ((t_1).toNat < is'.length) (
  G (fits (t_1 + (1 : Int))) (
  r13 (t_1 + (1 : Int)) (is'.set (t_1).toNat y'_2))))) else
  G (0 ≤ (((ix l t).2).2).1 ∧ (((ix l t).2).2).1 < (all'.length : Int)) (
  G (((((ix l t).2).2).1).toNat < all'.length) (
  G (0 ≤ t_1 ∧ t_1 < ((ix all' ((((ix l t).2).2).1)).length : Int)) (
  if (ix (ix all' ((((ix l t).2).2).1)) t_1) = true then
  G (0 ≤ ((((ix l t).2).2).2).1 ∧ ((((ix l t).2).2).2).1 < (all'.length : Int)) (
  G ((((((ix l t).2).2).2).1).toNat < all'.length) (
  G (0 ≤ t_1 ∧ t_1 < ((ix all' (((((ix l t).2).2).2).1)).length : Int)) (
  G (0 ≤ t_1 ∧ t_1 < (is'.length : Int)) (
  G ((t_1).toNat < is'.length) (
  G (fits (t_1 + (1 : Int))) (
  r13 (t_1 + (1 : Int)) (is'.set (t_1).toNat (ix (ix all' (((((ix l t).2).2).2).1)) t_1)))))))) else
  G (0 ≤ t_1 ∧ t_1 < (is'.length : Int)) (
  G ((t_1).toNat < is'.length) (
  G (fits (t_1 + (1 : Int))) (
  r13 (t_1 + (1 : Int)) (is'.set (t_1).toNat false))))))) else
  G (room all' ([is']) 24) (
  G (fits (t + (1 : Int))) (
  r9 (t + (1 : Int)) (all' ++ ([is']))))
noncomputable def same_Holds_L13_F (g' : (Int × Int × (List (Int × Int × Int × Unit)) × Unit)) (l : (List (Int × Int × Int × Int × Unit))) (t : Int) (all' : (List (List Bool))) (r9 : (Int → (List (List Bool)) → Option ((List Bool) × Int))) : (Int × (List Bool) → Option ((List Bool) × Int)) → Int × (List Bool) → Option ((List Bool) × Int) :=
  fun rec x => same_Holds_L13_B g' l t all' r9 (fun t_1 is' => rec (t_1, is')) x.1 x.2
noncomputable def same_Holds_L13 (g' : (Int × Int × (List (Int × Int × Int × Unit)) × Unit)) (l : (List (Int × Int × Int × Int × Unit))) (t : Int) (all' : (List (List Bool))) (r9 : (Int → (List (List Bool)) → Option ((List Bool) × Int))) (t_1 : Int) (is' : (List Bool)) : Option ((List Bool) × Int) := LFix (same_Holds_L13_F g' l t all' r9 ) (t_1, is')
noncomputable def same_Holds_L9_B (g' : (Int × Int × (List (Int × Int × Int × Unit)) × Unit)) (l : (List (Int × Int × Int × Int × Unit))) (r9 : Int → (List (List Bool)) → Option ((List Bool) × Int)) (t : Int) (all' : (List (List Bool))) : Option ((List Bool) × Int) :=
  if (decide (t < (l.length : Int))) = true then
  G (0 ≤ t ∧ t < (l.length : Int)) (
  G (mkOK g'.2.1 g'.2.1 1) (
  same_Holds_L13 g' l t all' r9 (0 : Int) (List.replicate (g'.2.1).toNat (false : Bool)))) else
  G (fits ((all'.length : Int) - (1 : Int))) (
  G (0 ≤ (all'.length : Int) - (1 : Int) ∧ (all'.length : Int) - (1 : Int) < (all'.length : Int)) (
  G (((all'.length : Int) - (1 : Int)).toNat < all'.length) (
  some (ix all' ((all'.length : Int) - (1 : Int)), (0 : Int)))))
noncomputable def same_Holds_L9_F (g' : (Int × Int × (List (Int × Int × Int × Unit)) × Unit)) (l : (List (Int × Int × Int × Int × Unit))) : (Int × (List (List Bool)) → Option ((List Bool) × Int)) → Int × (List (List Bool)) → Option ((List Bool) × Int) :=
  fun rec x => same_Holds_L9_B g' l (fun t all' => rec (t, all')) x.1 x.2
noncomputable def same_Holds_L9 (g' : (Int × Int × (List (Int × Int × Int × Unit)) × Unit)) (l : (List (Int × Int × Int × Int × Unit))) (t : Int) (all' : (List (List Bool))) : Option ((List Bool) × Int) := LFix (same_Holds_L9_F g' l ) (t, all')
noncomputable def same_Holds (g' : (Int × Int × (List (Int × Int × Int × Unit)) × Unit)) (l : (List (Int × Int × Int × Int × Unit))) : Option ((List Bool) × Int) :=
  (same_Check (g'.1, (g'.2.1, (g'.2.2.1, ())))).bind (fun y' =>
  if (decide (¬ y' = (0 : Int))) = true then
  some ([], y') else
  (same_Saying l).bind (fun y'_1 =>
  if (decide (¬ y'_1 = (0 : Int))) = true then
  some ([], y'_1) else
  same_Holds_L9 g' l (0 : Int) ([] : List (List Bool))))
theorem same_Holds_L13_B_ch (r9 : Nat → Int → (List (List Bool)) → Option ((List Bool) × Int)) (r9' : Int → (List (List Bool)) → Option ((List Bool) × Int)) (h_r9 : ∀ a0 a1, ChO (fun κ => r9 κ a0 a1) (r9' a0 a1)) (r13 : Nat → Int → (List Bool) → Option ((List Bool) × Int)) (r13' : Int → (List Bool) → Option ((List Bool) × Int)) (h_r13 : ∀ a0 a1, ChO (fun κ => r13 κ a0 a1) (r13' a0 a1)) (g' : (Int × Int × (List (Int × Int × Int × Unit)) × Unit)) (l : (List (Int × Int × Int × Int × Unit))) (t : Int) (all' : (List (List Bool))) (t_1 : Int) (is' : (List Bool)) : ChO (fun κ => same_Holds_L13_B g' l t all' (r9 κ) (r13 κ) t_1 is') (same_Holds_L13_B g' l t all' r9' r13' t_1 is') := by
  unfold same_Holds_L13_B
  repeat' first | exact ChO.const _ | exact h_r9 _ _ | exact h_r13 _ _ | apply ChO.ite | apply ChO.G | apply ChO.both | (apply ChO.bind; intro _)
theorem same_Holds_L13_cn (r9 : Int → (List (List Bool)) → Option ((List Bool) × Int)) (g' : (Int × Int × (List (Int × Int × Int × Unit)) × Unit)) (l : (List (Int × Int × Int × Int × Unit))) (t : Int) (all' : (List (List Bool))) : Cn (same_Holds_L13_F g' l t all' r9) := fun g h hg x => same_Holds_L13_B_ch (fun _ => r9) r9 (fun _ _ => ChO.const _) (fun κ t_1 is' => g κ (t_1, is')) (fun t_1 is' => h (t_1, is')) (fun t_1 is' => hg (t_1, is')) g' l t all' x.1 x.2
theorem same_Holds_L13_eq (r9 : Int → (List (List Bool)) → Option ((List Bool) × Int)) (g' : (Int × Int × (List (Int × Int × Int × Unit)) × Unit)) (l : (List (Int × Int × Int × Int × Unit))) (t : Int) (all' : (List (List Bool))) (t_1 : Int) (is' : (List Bool)) : same_Holds_L13 g' l t all' r9 t_1 is' = same_Holds_L13_B g' l t all' r9 (same_Holds_L13 g' l t all' r9) t_1 is' := LFix_eq (same_Holds_L13_cn r9 g' l t all') (t_1, is')
theorem same_Holds_L13_ch (r9 : Nat → Int → (List (List Bool)) → Option ((List Bool) × Int)) (r9' : Int → (List (List Bool)) → Option ((List Bool) × Int)) (h_r9 : ∀ a0 a1, ChO (fun κ => r9 κ a0 a1) (r9' a0 a1)) (g' : (Int × Int × (List (Int × Int × Int × Unit)) × Unit)) (l : (List (Int × Int × Int × Int × Unit))) (t : Int) (all' : (List (List Bool))) (t_1 : Int) (is' : (List Bool)) : ChO (fun κ => same_Holds_L13 g' l t all' (r9 κ) t_1 is') (same_Holds_L13 g' l t all' r9' t_1 is') := by
  unfold same_Holds_L13
  exact LFix_ch (fun κ => (same_Holds_L13_cn (r9 κ) g' l t all').mono) (same_Holds_L13_cn r9' g' l t all').mono (fun g h hg x => same_Holds_L13_B_ch r9 r9' h_r9 (fun κ t_1 is' => g κ (t_1, is')) (fun t_1 is' => h (t_1, is')) (fun t_1 is' => hg (t_1, is')) g' l t all' x.1 x.2) _
theorem same_Holds_L9_B_ch (r9 : Nat → Int → (List (List Bool)) → Option ((List Bool) × Int)) (r9' : Int → (List (List Bool)) → Option ((List Bool) × Int)) (h_r9 : ∀ a0 a1, ChO (fun κ => r9 κ a0 a1) (r9' a0 a1)) (g' : (Int × Int × (List (Int × Int × Int × Unit)) × Unit)) (l : (List (Int × Int × Int × Int × Unit))) (t : Int) (all' : (List (List Bool))) : ChO (fun κ => same_Holds_L9_B g' l (r9 κ) t all') (same_Holds_L9_B g' l r9' t all') := by
  unfold same_Holds_L9_B
  repeat' first | exact ChO.const _ | exact h_r9 _ _ | (apply same_Holds_L13_ch <;> assumption) | apply ChO.ite | apply ChO.G | apply ChO.both | (apply ChO.bind; intro _)
theorem same_Holds_L9_cn  (g' : (Int × Int × (List (Int × Int × Int × Unit)) × Unit)) (l : (List (Int × Int × Int × Int × Unit))) : Cn (same_Holds_L9_F g' l) := fun g h hg x => same_Holds_L9_B_ch  (fun κ t all' => g κ (t, all')) (fun t all' => h (t, all')) (fun t all' => hg (t, all')) g' l x.1 x.2
theorem same_Holds_L9_eq  (g' : (Int × Int × (List (Int × Int × Int × Unit)) × Unit)) (l : (List (Int × Int × Int × Int × Unit))) (t : Int) (all' : (List (List Bool))) : same_Holds_L9 g' l t all' = same_Holds_L9_B g' l (same_Holds_L9 g' l) t all' := LFix_eq (same_Holds_L9_cn g' l) (t, all')

noncomputable def r20_Holds_J21 (g' : (Int × Int × (List (Int × Int × Int × Unit)) × Unit)) (k : Int) (is'_1 : (List Bool)) (r18 : (Int → (List Bool) → Option (List Bool))) (t : Bool) : Option (List Bool) :=
  if t = true then
  G (0 ≤ (ix g'.2.2.1 k).1 ∧ (ix g'.2.2.1 k).1 < (is'_1.length : Int)) (
  G (((ix g'.2.2.1 k).1).toNat < is'_1.length) (
  G (fits (k + (1 : Int))) (
  r18 (k + (1 : Int)) (is'_1.set ((ix g'.2.2.1 k).1).toNat true)))) else
  G (fits (k + (1 : Int))) (
  r18 (k + (1 : Int)) is'_1)
noncomputable def r20_Holds_L18_B (g' : (Int × Int × (List (Int × Int × Int × Unit)) × Unit)) (l : (List (Int × Int × Int × Int × Unit))) (i : Int) (all' : (List (List Bool))) (r3 : (Int → (List (List Bool)) → Option (List Bool))) (r18 : Int → (List Bool) → Option (List Bool)) (k : Int) (is'_1 : (List Bool)) : Option (List Bool) :=
  if (decide (k < (g'.2.2.1.length : Int))) = true then
  G (0 ≤ k ∧ k < (g'.2.2.1.length : Int)) (
  if (decide (((ix l i).1) = (2 : Int))) = true then
  if (decide ((((ix g'.2.2.1 k).2).1) = (((ix l i).2).1))) = true then
  G (0 ≤ (((ix l i).2).2).1 ∧ (((ix l i).2).2).1 < (all'.length : Int)) (
  G (((((ix l i).2).2).1).toNat < all'.length) (
  G (0 ≤ (((ix g'.2.2.1 k).2).2).1 ∧ (((ix g'.2.2.1 k).2).2).1 < ((ix all' ((((ix l i).2).2).1)).length : Int)) (
  r20_Holds_J21 g' k is'_1 r18 (ix (ix all' ((((ix l i).2).2).1)) ((((ix g'.2.2.1 k).2).2).1))))) else
  r20_Holds_J21 g' k is'_1 r18 false else
  r20_Holds_J21 g' k is'_1 r18 false) else
  G (room all' ([is'_1]) 24) (
  G (fits (i + (1 : Int))) (
  r3 (i + (1 : Int)) (all' ++ ([is'_1]))))
noncomputable def r20_Holds_L18_F (g' : (Int × Int × (List (Int × Int × Int × Unit)) × Unit)) (l : (List (Int × Int × Int × Int × Unit))) (i : Int) (all' : (List (List Bool))) (r3 : (Int → (List (List Bool)) → Option (List Bool))) : (Int × (List Bool) → Option (List Bool)) → Int × (List Bool) → Option (List Bool) :=
  fun rec x => r20_Holds_L18_B g' l i all' r3 (fun k is'_1 => rec (k, is'_1)) x.1 x.2
noncomputable def r20_Holds_L18 (g' : (Int × Int × (List (Int × Int × Int × Unit)) × Unit)) (l : (List (Int × Int × Int × Int × Unit))) (i : Int) (all' : (List (List Bool))) (r3 : (Int → (List (List Bool)) → Option (List Bool))) (k : Int) (is'_1 : (List Bool)) : Option (List Bool) := LFix (r20_Holds_L18_F g' l i all' r3 ) (k, is'_1)
noncomputable def r20_Holds_L8_B (g' : (Int × Int × (List (Int × Int × Int × Unit)) × Unit)) (l : (List (Int × Int × Int × Int × Unit))) (i : Int) (all' : (List (List Bool))) (r3 : (Int → (List (List Bool)) → Option (List Bool))) (r8 : Int → (List Bool) → Option (List Bool)) (p : Int) (is' : (List Bool)) : Option (List Bool) :=
  if (decide (p < g'.2.1)) = true then
  if (decide (((ix l i).1) = (0 : Int))) = true then
  G (0 ≤ p ∧ p < (is'.length : Int)) (
  G ((p).toNat < is'.length) (
  G (fits (p + (1 : Int))) (
  r8 (p + (1 : Int)) (is'.set (p).toNat true)))) else
  if (decide (((ix l i).1) = (1 : Int))) = true then
  G (0 ≤ (((ix l i).2).2).1 ∧ (((ix l i).2).2).1 < (all'.length : Int)) (
  G (((((ix l i).2).2).1).toNat < all'.length) (
  G (0 ≤ p ∧ p < ((ix all' ((((ix l i).2).2).1)).length : Int)) (
  G (0 ≤ p ∧ p < (is'.length : Int)) (
  G ((p).toNat < is'.length) (
  G (fits (p + (1 : Int))) (
  r8 (p + (1 : Int)) (is'.set (p).toNat (!(ix (ix all' ((((ix l i).2).2).1)) p))))))))) else
  if (decide (((ix l i).1) = (3 : Int))) = true then
  G (0 ≤ (((ix l i).2).2).1 ∧ (((ix l i).2).2).1 < (all'.length : Int)) (
  G (((((ix l i).2).2).1).toNat < all'.length) (
  G (0 ≤ p ∧ p < ((ix all' ((((ix l i).2).2).1)).length : Int)) (
  if (ix (ix all' ((((ix l i).2).2).1)) p) = true then
  G (0 ≤ ((((ix l i).2).2).2).1 ∧ ((((ix l i).2).2).2).1 < (all'.length : Int)) (
  G ((((((ix l i).2).2).2).1).toNat < all'.length) (
  G (0 ≤ p ∧ p < ((ix all' (((((ix l i).2).2).2).1)).length : Int)) (
  G (0 ≤ p ∧ p < (is'.length : Int)) (
  G ((p).toNat < is'.length) (
  G (fits (p + (1 : Int))) (
  r8 (p + (1 : Int)) (is'.set (p).toNat (ix (ix all' (((((ix l i).2).2).2).1)) p)))))))) else
  G (0 ≤ p ∧ p < (is'.length : Int)) (
  G ((p).toNat < is'.length) (
  G (fits (p + (1 : Int))) (
  r8 (p + (1 : Int)) (is'.set (p).toNat false))))))) else
  G (fits (p + (1 : Int))) (
  r8 (p + (1 : Int)) is') else
  r20_Holds_L18 g' l i all' r3 (0 : Int) is'
noncomputable def r20_Holds_L8_F (g' : (Int × Int × (List (Int × Int × Int × Unit)) × Unit)) (l : (List (Int × Int × Int × Int × Unit))) (i : Int) (all' : (List (List Bool))) (r3 : (Int → (List (List Bool)) → Option (List Bool))) : (Int × (List Bool) → Option (List Bool)) → Int × (List Bool) → Option (List Bool) :=
  fun rec x => r20_Holds_L8_B g' l i all' r3 (fun p is' => rec (p, is')) x.1 x.2
noncomputable def r20_Holds_L8 (g' : (Int × Int × (List (Int × Int × Int × Unit)) × Unit)) (l : (List (Int × Int × Int × Int × Unit))) (i : Int) (all' : (List (List Bool))) (r3 : (Int → (List (List Bool)) → Option (List Bool))) (p : Int) (is' : (List Bool)) : Option (List Bool) := LFix (r20_Holds_L8_F g' l i all' r3 ) (p, is')
noncomputable def r20_Holds_L3_B (g' : (Int × Int × (List (Int × Int × Int × Unit)) × Unit)) (l : (List (Int × Int × Int × Int × Unit))) (r3 : Int → (List (List Bool)) → Option (List Bool)) (i : Int) (all' : (List (List Bool))) : Option (List Bool) :=
  if (decide (i < (l.length : Int))) = true then
  G (0 ≤ i ∧ i < (l.length : Int)) (
  G (mkOK g'.2.1 g'.2.1 1) (
  r20_Holds_L8 g' l i all' r3 (0 : Int) (List.replicate (g'.2.1).toNat (false : Bool)))) else
  G (fits ((all'.length : Int) - (1 : Int))) (
  G (0 ≤ (all'.length : Int) - (1 : Int) ∧ (all'.length : Int) - (1 : Int) < (all'.length : Int)) (
  G (((all'.length : Int) - (1 : Int)).toNat < all'.length) (
  some (ix all' ((all'.length : Int) - (1 : Int))))))
noncomputable def r20_Holds_L3_F (g' : (Int × Int × (List (Int × Int × Int × Unit)) × Unit)) (l : (List (Int × Int × Int × Int × Unit))) : (Int × (List (List Bool)) → Option (List Bool)) → Int × (List (List Bool)) → Option (List Bool) :=
  fun rec x => r20_Holds_L3_B g' l (fun i all' => rec (i, all')) x.1 x.2
noncomputable def r20_Holds_L3 (g' : (Int × Int × (List (Int × Int × Int × Unit)) × Unit)) (l : (List (Int × Int × Int × Int × Unit))) (i : Int) (all' : (List (List Bool))) : Option (List Bool) := LFix (r20_Holds_L3_F g' l ) (i, all')
noncomputable def r20_Holds (g' : (Int × Int × (List (Int × Int × Int × Unit)) × Unit)) (l : (List (Int × Int × Int × Int × Unit))) : Option (List Bool) :=
  r20_Holds_L3 g' l (0 : Int) ([])
theorem r20_Holds_J21_ch (r18 : Nat → Int → (List Bool) → Option (List Bool)) (r18' : Int → (List Bool) → Option (List Bool)) (h_r18 : ∀ a0 a1, ChO (fun κ => r18 κ a0 a1) (r18' a0 a1)) (g' : (Int × Int × (List (Int × Int × Int × Unit)) × Unit)) (k : Int) (is'_1 : (List Bool)) (t : Bool) : ChO (fun κ => r20_Holds_J21 g' k is'_1 (r18 κ) t) (r20_Holds_J21 g' k is'_1 r18' t) := by
  unfold r20_Holds_J21
  repeat' first | exact ChO.const _ | exact h_r18 _ _ | apply ChO.ite | apply ChO.G | apply ChO.both | (apply ChO.bind; intro _)
theorem r20_Holds_L18_B_ch (r3 : Nat → Int → (List (List Bool)) → Option (List Bool)) (r3' : Int → (List (List Bool)) → Option (List Bool)) (h_r3 : ∀ a0 a1, ChO (fun κ => r3 κ a0 a1) (r3' a0 a1)) (r18 : Nat → Int → (List Bool) → Option (List Bool)) (r18' : Int → (List Bool) → Option (List Bool)) (h_r18 : ∀ a0 a1, ChO (fun κ => r18 κ a0 a1) (r18' a0 a1)) (g' : (Int × Int × (List (Int × Int × Int × Unit)) × Unit)) (l : (List (Int × Int × Int × Int × Unit))) (i : Int) (all' : (List (List Bool))) (k : Int) (is'_1 : (List Bool)) : ChO (fun κ => r20_Holds_L18_B g' l i all' (r3 κ) (r18 κ) k is'_1) (r20_Holds_L18_B g' l i all' r3' r18' k is'_1) := by
  unfold r20_Holds_L18_B
  repeat' first | exact ChO.const _ | exact h_r3 _ _ | exact h_r18 _ _ | (apply r20_Holds_J21_ch <;> assumption) | apply ChO.ite | apply ChO.G | apply ChO.both | (apply ChO.bind; intro _)
theorem r20_Holds_L18_cn (r3 : Int → (List (List Bool)) → Option (List Bool)) (g' : (Int × Int × (List (Int × Int × Int × Unit)) × Unit)) (l : (List (Int × Int × Int × Int × Unit))) (i : Int) (all' : (List (List Bool))) : Cn (r20_Holds_L18_F g' l i all' r3) := fun g h hg x => r20_Holds_L18_B_ch (fun _ => r3) r3 (fun _ _ => ChO.const _) (fun κ k is'_1 => g κ (k, is'_1)) (fun k is'_1 => h (k, is'_1)) (fun k is'_1 => hg (k, is'_1)) g' l i all' x.1 x.2
theorem r20_Holds_L18_eq (r3 : Int → (List (List Bool)) → Option (List Bool)) (g' : (Int × Int × (List (Int × Int × Int × Unit)) × Unit)) (l : (List (Int × Int × Int × Int × Unit))) (i : Int) (all' : (List (List Bool))) (k : Int) (is'_1 : (List Bool)) : r20_Holds_L18 g' l i all' r3 k is'_1 = r20_Holds_L18_B g' l i all' r3 (r20_Holds_L18 g' l i all' r3) k is'_1 := LFix_eq (r20_Holds_L18_cn r3 g' l i all') (k, is'_1)
theorem r20_Holds_L18_ch (r3 : Nat → Int → (List (List Bool)) → Option (List Bool)) (r3' : Int → (List (List Bool)) → Option (List Bool)) (h_r3 : ∀ a0 a1, ChO (fun κ => r3 κ a0 a1) (r3' a0 a1)) (g' : (Int × Int × (List (Int × Int × Int × Unit)) × Unit)) (l : (List (Int × Int × Int × Int × Unit))) (i : Int) (all' : (List (List Bool))) (k : Int) (is'_1 : (List Bool)) : ChO (fun κ => r20_Holds_L18 g' l i all' (r3 κ) k is'_1) (r20_Holds_L18 g' l i all' r3' k is'_1) := by
  unfold r20_Holds_L18
  exact LFix_ch (fun κ => (r20_Holds_L18_cn (r3 κ) g' l i all').mono) (r20_Holds_L18_cn r3' g' l i all').mono (fun g h hg x => r20_Holds_L18_B_ch r3 r3' h_r3 (fun κ k is'_1 => g κ (k, is'_1)) (fun k is'_1 => h (k, is'_1)) (fun k is'_1 => hg (k, is'_1)) g' l i all' x.1 x.2) _
theorem r20_Holds_L8_B_ch (r3 : Nat → Int → (List (List Bool)) → Option (List Bool)) (r3' : Int → (List (List Bool)) → Option (List Bool)) (h_r3 : ∀ a0 a1, ChO (fun κ => r3 κ a0 a1) (r3' a0 a1)) (r8 : Nat → Int → (List Bool) → Option (List Bool)) (r8' : Int → (List Bool) → Option (List Bool)) (h_r8 : ∀ a0 a1, ChO (fun κ => r8 κ a0 a1) (r8' a0 a1)) (g' : (Int × Int × (List (Int × Int × Int × Unit)) × Unit)) (l : (List (Int × Int × Int × Int × Unit))) (i : Int) (all' : (List (List Bool))) (p : Int) (is' : (List Bool)) : ChO (fun κ => r20_Holds_L8_B g' l i all' (r3 κ) (r8 κ) p is') (r20_Holds_L8_B g' l i all' r3' r8' p is') := by
  unfold r20_Holds_L8_B
  repeat' first | exact ChO.const _ | exact h_r3 _ _ | exact h_r8 _ _ | (apply r20_Holds_J21_ch <;> assumption) | (apply r20_Holds_L18_ch <;> assumption) | apply ChO.ite | apply ChO.G | apply ChO.both | (apply ChO.bind; intro _)
theorem r20_Holds_L8_cn (r3 : Int → (List (List Bool)) → Option (List Bool)) (g' : (Int × Int × (List (Int × Int × Int × Unit)) × Unit)) (l : (List (Int × Int × Int × Int × Unit))) (i : Int) (all' : (List (List Bool))) : Cn (r20_Holds_L8_F g' l i all' r3) := fun g h hg x => r20_Holds_L8_B_ch (fun _ => r3) r3 (fun _ _ => ChO.const _) (fun κ p is' => g κ (p, is')) (fun p is' => h (p, is')) (fun p is' => hg (p, is')) g' l i all' x.1 x.2
theorem r20_Holds_L8_eq (r3 : Int → (List (List Bool)) → Option (List Bool)) (g' : (Int × Int × (List (Int × Int × Int × Unit)) × Unit)) (l : (List (Int × Int × Int × Int × Unit))) (i : Int) (all' : (List (List Bool))) (p : Int) (is' : (List Bool)) : r20_Holds_L8 g' l i all' r3 p is' = r20_Holds_L8_B g' l i all' r3 (r20_Holds_L8 g' l i all' r3) p is' := LFix_eq (r20_Holds_L8_cn r3 g' l i all') (p, is')
theorem r20_Holds_L8_ch (r3 : Nat → Int → (List (List Bool)) → Option (List Bool)) (r3' : Int → (List (List Bool)) → Option (List Bool)) (h_r3 : ∀ a0 a1, ChO (fun κ => r3 κ a0 a1) (r3' a0 a1)) (g' : (Int × Int × (List (Int × Int × Int × Unit)) × Unit)) (l : (List (Int × Int × Int × Int × Unit))) (i : Int) (all' : (List (List Bool))) (p : Int) (is' : (List Bool)) : ChO (fun κ => r20_Holds_L8 g' l i all' (r3 κ) p is') (r20_Holds_L8 g' l i all' r3' p is') := by
  unfold r20_Holds_L8
  exact LFix_ch (fun κ => (r20_Holds_L8_cn (r3 κ) g' l i all').mono) (r20_Holds_L8_cn r3' g' l i all').mono (fun g h hg x => r20_Holds_L8_B_ch r3 r3' h_r3 (fun κ p is' => g κ (p, is')) (fun p is' => h (p, is')) (fun p is' => hg (p, is')) g' l i all' x.1 x.2) _
theorem r20_Holds_L3_B_ch (r3 : Nat → Int → (List (List Bool)) → Option (List Bool)) (r3' : Int → (List (List Bool)) → Option (List Bool)) (h_r3 : ∀ a0 a1, ChO (fun κ => r3 κ a0 a1) (r3' a0 a1)) (g' : (Int × Int × (List (Int × Int × Int × Unit)) × Unit)) (l : (List (Int × Int × Int × Int × Unit))) (i : Int) (all' : (List (List Bool))) : ChO (fun κ => r20_Holds_L3_B g' l (r3 κ) i all') (r20_Holds_L3_B g' l r3' i all') := by
  unfold r20_Holds_L3_B
  repeat' first | exact ChO.const _ | exact h_r3 _ _ | (apply r20_Holds_J21_ch <;> assumption) | (apply r20_Holds_L18_ch <;> assumption) | (apply r20_Holds_L8_ch <;> assumption) | apply ChO.ite | apply ChO.G | apply ChO.both | (apply ChO.bind; intro _)
theorem r20_Holds_L3_cn  (g' : (Int × Int × (List (Int × Int × Int × Unit)) × Unit)) (l : (List (Int × Int × Int × Int × Unit))) : Cn (r20_Holds_L3_F g' l) := fun g h hg x => r20_Holds_L3_B_ch  (fun κ i all' => g κ (i, all')) (fun i all' => h (i, all')) (fun i all' => hg (i, all')) g' l x.1 x.2
theorem r20_Holds_L3_eq  (g' : (Int × Int × (List (Int × Int × Int × Unit)) × Unit)) (l : (List (Int × Int × Int × Int × Unit))) (i : Int) (all' : (List (List Bool))) : r20_Holds_L3 g' l i all' = r20_Holds_L3_B g' l (r20_Holds_L3 g' l) i all' := LFix_eq (r20_Holds_L3_cn g' l) (i, all')

noncomputable def r20_Bools_L4_B (a : (List Bool)) (b : (List Bool)) (r4 : Int → Option (Bool)) (i : Int) : Option (Bool) :=
  if (decide (i < (a.length : Int))) = true then
  G (0 ≤ i ∧ i < (a.length : Int)) (
  G (0 ≤ i ∧ i < (b.length : Int)) (
  if (decide (¬ (ix a i) = (ix b i))) = true then
  some false else
  G (fits (i + (1 : Int))) (
  r4 (i + (1 : Int))))) else
  some true
noncomputable def r20_Bools_L4_F (a : (List Bool)) (b : (List Bool)) : (Int → Option (Bool)) → Int → Option (Bool) :=
  fun rec x => r20_Bools_L4_B a b (fun i => rec i) x
noncomputable def r20_Bools_L4 (a : (List Bool)) (b : (List Bool)) (i : Int) : Option (Bool) := LFix (r20_Bools_L4_F a b ) i
noncomputable def r20_Bools (a : (List Bool)) (b : (List Bool)) : Option (Bool) :=
  if (decide (¬ (a.length : Int) = (b.length : Int))) = true then
  some false else
  r20_Bools_L4 a b (0 : Int)
theorem r20_Bools_L4_B_ch (r4 : Nat → Int → Option (Bool)) (r4' : Int → Option (Bool)) (h_r4 : ∀ a0, ChO (fun κ => r4 κ a0) (r4' a0)) (a : (List Bool)) (b : (List Bool)) (i : Int) : ChO (fun κ => r20_Bools_L4_B a b (r4 κ) i) (r20_Bools_L4_B a b r4' i) := by
  unfold r20_Bools_L4_B
  repeat' first | exact ChO.const _ | exact h_r4 _ | apply ChO.ite | apply ChO.G | apply ChO.both | (apply ChO.bind; intro _)
theorem r20_Bools_L4_cn  (a : (List Bool)) (b : (List Bool)) : Cn (r20_Bools_L4_F a b) := fun g h hg x => r20_Bools_L4_B_ch  (fun κ i => g κ i) (fun i => h i) (fun i => hg i) a b x
theorem r20_Bools_L4_eq  (a : (List Bool)) (b : (List Bool)) (i : Int) : r20_Bools_L4 a b i = r20_Bools_L4_B a b (r20_Bools_L4 a b) i := LFix_eq (r20_Bools_L4_cn a b) i

noncomputable def law_SameHolds_J10 (g' : (Int × Int × (List (Int × Int × Int × Unit)) × Unit)) (l : (List (Int × Int × Int × Int × Unit))) (y'_4 : (List Bool)) (y'_5 : Int) (no : Int) : Option (Bool) :=
  if (decide (¬ no = (0 : Int))) = true then
  if (decide (y'_5 = no)) = true then
  some (decide ((y'_4.length : Int) = (0 : Int))) else
  some false else
  (r20_Holds (g'.1, (g'.2.1, (g'.2.2.1, ()))) l).bind (fun y'_7 =>
  (r20_Bools y'_4 y'_7).bind (fun y'_8 =>
  if (decide (y'_5 = (0 : Int))) = true then
  some y'_8 else
  some false))
noncomputable def law_SameHolds (g' : (Int × Int × (List (Int × Int × Int × Unit)) × Unit)) (l : (List (Int × Int × Int × Int × Unit))) : Option (Bool) :=
  (same_Check (g'.1, (g'.2.1, (g'.2.2.1, ())))).bind (fun y' =>
  (r20_Check (g'.1, (g'.2.1, (g'.2.2.1, ())))).bind (fun y'_1 =>
  (same_Saying l).bind (fun y'_2 =>
  (r20_Saying l).bind (fun y'_3 =>
  (same_Holds (g'.1, (g'.2.1, (g'.2.2.1, ()))) l).bind (fun y'_9 =>
  if (decide (¬ y' = y'_1)) = true then
  some false else
  if (decide (¬ y'_2 = y'_3)) = true then
  some false else
  if (decide (y'_1 = (0 : Int))) = true then
  law_SameHolds_J10 g' l y'_9.1 y'_9.2 y'_3 else
  law_SameHolds_J10 g' l y'_9.1 y'_9.2 y'_1)))))

end Go.Proofs.Ytiamohlhhcafdaa.sameHoldsW
