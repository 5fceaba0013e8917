/- What the functions that 'SameTells' reaches compute: plain functions. -/
import Derived.Test.YtgfckoeoichfmaaEv20n21
set_option maxHeartbeats 1000000
set_option maxRecDepth 20000
set_option linter.unusedSimpArgs false
set_option linter.unusedVariables false
set_option linter.unusedSectionVars false
namespace Go.Proofs.Ytgfckoeoichfmaa.sameTellsW
open Go Go.Ab
abbrev Tp11 := (Int × Int × Int × Unit)
abbrev Tp10 := (List (Int × Int × Unit))
abbrev Tp9 := (Int × Int × Int × Int × Unit)
abbrev Tp8 := (Int × (List Int) × (List Int))
abbrev Tp7 := (List Tp11)
abbrev Tp6 := (List Tp9)
abbrev Tp5 := (Int × Int × Tp7 × Unit)
abbrev Tp4 := (Int × Int × Int × Tp7 × Unit)
abbrev Tp3 := (Int × (List Int) × Int × Int × Tp7 × (List (List Int)) × Tp10 × (List Int))
abbrev Tp2 := (Int × Int × Int × Tp7 × (List (List Int)) × Tp6 × Tp10 × (List Int))
abbrev Tp1 := (Int × (List Int) × Int × Int × Tp7 × (List (List Int)) × Tp6 × Tp10 × (List Int))
noncomputable def same_Check_1 (p : Int) (t : Tp5) : Option (Bool) :=
  if (decide (p < (0 : Int))) = true then
  some true else
  some (decide (t.2.1 ≤ p))

noncomputable def same_Check_2 (x' : Tp11) (t : Tp5) (c : Tp5) : Option (Bool × Int × Int × Tp7 × Unit) :=
  (same_Check_1 x'.1 c).bind (fun y' =>
  if y' = true then
  some (true, c) else
  (same_Check_1 x'.2.2.1 c).bind (fun y'_1 =>
  if y'_1 = true then
  some (true, c) else
  if (decide (x'.2.1 < (0 : Int))) = true then
  some (true, c) else
  some (decide (t.1 ≤ x'.2.1), c)))

noncomputable def slices_IndexFunc_L2_B (s : Tp7) (r2 : Tp5 → Int → Tp5 → Option Tp4) (f : Tp5) (t : Int) (l : Tp5) : Option Tp4 :=
  if (decide (t < (s.length : Int))) = true then
  G (0 ≤ t ∧ t < (s.length : Int)) (
  (same_Check_2 (ix s t) f l).bind (fun y'_3 =>
  if y'_3.1 = true then
  some (t, y'_3.2) else
  G (fits (t + (1 : Int))) (
  r2 f (t + (1 : Int)) y'_3.2))) else
  some ((-1 : Int), l)
noncomputable def slices_IndexFunc_L2_F (s : Tp7) : (Tp5 × Int × Int × Int × Tp7 × Unit → Option Tp4) → Tp5 × Int × Int × Int × Tp7 × Unit → Option Tp4 :=
  fun rec x => slices_IndexFunc_L2_B s (fun f t l => rec (f, t, l)) x.1 x.2.1 x.2.2
noncomputable def slices_IndexFunc_L2 (s : Tp7) (f : Tp5) (t : Int) (l : Tp5) : Option Tp4 := LFix (slices_IndexFunc_L2_F s ) (f, t, l)
noncomputable def slices_IndexFunc (s : Tp7) (c : Tp5) (c_1 : Tp5) : Option Tp4 :=
  slices_IndexFunc_L2 s c (0 : Int) c_1
theorem slices_IndexFunc_L2_B_ch (r2 : Nat → Tp5 → Int → Tp5 → Option Tp4) (r2' : Tp5 → Int → Tp5 → Option Tp4) (h_r2 : ∀ a0 a1 a2, ChO (fun κ => r2 κ a0 a1 a2) (r2' a0 a1 a2)) (s : Tp7) (f : Tp5) (t : Int) (l : Tp5) : ChO (fun κ => slices_IndexFunc_L2_B s (r2 κ) f t l) (slices_IndexFunc_L2_B s r2' f t l) := by
  unfold slices_IndexFunc_L2_B
  repeat' with_reducible first | exact ChO.const _ | exact h_r2 _ _ _ | apply ChO.ite | apply ChO.G | apply ChO.both | (apply ChO.bind; intro _)
theorem slices_IndexFunc_L2_cn  (s : Tp7) : Cn (slices_IndexFunc_L2_F s) := fun g h hg x => slices_IndexFunc_L2_B_ch  (fun κ f t l => g κ (f, t, l)) (fun f t l => h (f, t, l)) (fun f t l => hg (f, t, l)) s x.1 x.2.1 x.2.2
theorem slices_IndexFunc_L2_eq  (s : Tp7) (f : Tp5) (t : Int) (l : Tp5) : slices_IndexFunc_L2 s f t l = slices_IndexFunc_L2_B s (slices_IndexFunc_L2 s) f t l := LFix_eq (slices_IndexFunc_L2_cn s) (f, t, l)

noncomputable def slices_ContainsFunc (s : Tp7) (c : Tp5) (c_1 : Tp5) : Option (Bool × Int × Int × Tp7 × Unit) :=
  (slices_IndexFunc s c c_1).bind (fun y'_3 =>
  some (decide ((0 : Int) ≤ y'_3.1), y'_3.2))

noncomputable def cmp_isNaN (x' : Int) : Option (Bool) :=
  some (decide (¬ x' = x'))

noncomputable def cmp_Compare (x' : Int) (y' : Int) : Option (Int) :=
  (cmp_isNaN x').bind (fun y'_1 =>
  (cmp_isNaN y').bind (fun y'_2 =>
  if y'_1 = true then
  if y'_2 = true then
  some (0 : Int) else
  some (-1 : Int) else
  if y'_2 = true then
  some (1 : Int) else
  if (decide (x' < y')) = true then
  some (-1 : Int) else
  if (decide (y' < x')) = true then
  some (1 : Int) else
  some (0 : Int)))

noncomputable def cmp_Or_L3_B (vals : (List Int)) (r3 : Int → Option (Int)) (t : Int) : Option (Int) :=
  if (decide (t < (vals.length : Int))) = true then
  G (0 ≤ t ∧ t < (vals.length : Int)) (
  if (decide (¬ (ix vals t) = (0 : Int))) = true then
  some (ix vals t) else
  G (fits (t + (1 : Int))) (
  r3 (t + (1 : Int)))) else
  some (0 : Int)
noncomputable def cmp_Or_L3_F (vals : (List Int)) : (Int → Option (Int)) → Int → Option (Int) :=
  fun rec x => cmp_Or_L3_B vals (fun t => rec t) x
noncomputable def cmp_Or_L3 (vals : (List Int)) (t : Int) : Option (Int) := LFix (cmp_Or_L3_F vals ) t
noncomputable def cmp_Or (vals : (List Int)) : Option (Int) :=
  cmp_Or_L3 vals (0 : Int)
theorem cmp_Or_L3_B_ch (r3 : Nat → Int → Option (Int)) (r3' : Int → Option (Int)) (h_r3 : ∀ a0, ChO (fun κ => r3 κ a0) (r3' a0)) (vals : (List Int)) (t : Int) : ChO (fun κ => cmp_Or_L3_B vals (r3 κ) t) (cmp_Or_L3_B vals r3' t) := by
  unfold cmp_Or_L3_B
  repeat' with_reducible first | exact ChO.const _ | exact h_r3 _ | apply ChO.ite | apply ChO.G | apply ChO.both | (apply ChO.bind; intro _)
theorem cmp_Or_L3_cn  (vals : (List Int)) : Cn (cmp_Or_L3_F vals) := fun g h hg x => cmp_Or_L3_B_ch  (fun κ t => g κ t) (fun t => h t) (fun t => hg t) vals x
theorem cmp_Or_L3_eq  (vals : (List Int)) (t : Int) : cmp_Or_L3 vals t = cmp_Or_L3_B vals (cmp_Or_L3 vals) t := LFix_eq (cmp_Or_L3_cn vals) t

noncomputable def same_order (x' : Tp11) (y' : Tp11) : Option (Int) :=
  (cmp_Compare x'.1 y'.1).bind (fun y'_1 =>
  (cmp_Compare x'.2.1 y'.2.1).bind (fun y'_2 =>
  (cmp_Compare x'.2.2.1 y'.2.2.1).bind (fun y'_3 =>
  (cmp_Or ([y'_1, y'_2, y'_3])).bind (fun y'_4 =>
  some y'_4))))

noncomputable def same_Check_L9_B (g' : Tp5) (r9 : Int → Option (Int)) (t : Int) : Option (Int) :=
  if (decide (t < (g'.2.2.1.length : Int))) = true then
  if (decide ((0 : Int) < t)) = true then
  G (fits (t - (1 : Int))) (
  G (0 ≤ t - (1 : Int) ∧ t - (1 : Int) < (g'.2.2.1.length : Int)) (
  G (0 ≤ t ∧ t < (g'.2.2.1.length : Int)) (
  (same_order (ix g'.2.2.1 (t - (1 : Int))) (ix g'.2.2.1 t)).bind (fun y'_3 =>
  if (decide ((0 : Int) ≤ y'_3)) = true then
  some (3 : Int) else
  G (fits (t + (1 : Int))) (
  r9 (t + (1 : Int))))))) else
  G (fits (t + (1 : Int))) (
  r9 (t + (1 : Int))) else
  some (0 : Int)
noncomputable def same_Check_L9_F (g' : Tp5) : (Int → Option (Int)) → Int → Option (Int) :=
  fun rec x => same_Check_L9_B g' (fun t => rec t) x
noncomputable def same_Check_L9 (g' : Tp5) (t : Int) : Option (Int) := LFix (same_Check_L9_F g' ) t
noncomputable def same_Check (g' : Tp5) : Option (Int) :=
  if (decide (g'.1 < (1 : Int))) = true then
  some (2 : Int) else
  if (decide ((4 : Int) < g'.1)) = true then
  some (2 : Int) else
  if (decide (g'.2.1 < (1 : Int))) = true then
  some (1 : Int) else
  if (decide ((12 : Int) < g'.2.1)) = true then
  some (1 : Int) else
  if (decide ((60 : Int) < (g'.2.2.1.length : Int))) = true then
  some (1 : Int) else
  (slices_ContainsFunc g'.2.2.1 (g'.1, (g'.2.1, (g'.2.2.1, ()))) (g'.1, (g'.2.1, (g'.2.2.1, ())))).bind (fun y'_4 =>
  if y'_4.1 = true then
  some (2 : Int) else
  same_Check_L9 g' (0 : Int))
theorem same_Check_L9_B_ch (r9 : Nat → Int → Option (Int)) (r9' : Int → Option (Int)) (h_r9 : ∀ a0, ChO (fun κ => r9 κ a0) (r9' a0)) (g' : Tp5) (t : Int) : ChO (fun κ => same_Check_L9_B g' (r9 κ) t) (same_Check_L9_B g' r9' t) := by
  unfold same_Check_L9_B
  repeat' with_reducible first | exact ChO.const _ | exact h_r9 _ | apply ChO.ite | apply ChO.G | apply ChO.both | (apply ChO.bind; intro _)
theorem same_Check_L9_cn  (g' : Tp5) : Cn (same_Check_L9_F g') := fun g h hg x => same_Check_L9_B_ch  (fun κ t => g κ t) (fun t => h t) (fun t => hg t) g' x
theorem same_Check_L9_eq  (g' : Tp5) (t : Int) : same_Check_L9 g' t = same_Check_L9_B g' (same_Check_L9 g') t := LFix_eq (same_Check_L9_cn g') t

noncomputable def same_rounds_1 (a : Int) (b : Int) (t : (List Int)) : Option (Bool) :=
  G (0 ≤ a ∧ a < (t.length : Int)) (
  G (0 ≤ b ∧ b < (t.length : Int)) (
  some (decide ((ix t a) = (ix t b)))))

noncomputable def same_answered_1 (y' : Tp11) (t : Int) (t_1 : Tp11) (c : (List Int)) : Option (Bool × (List Int)) :=
  if (decide (y'.1 = t)) = true then
  if (decide (y'.2.1 = t_1.2.1)) = true then
  (same_rounds_1 t_1.2.2.1 y'.2.2.1 c).bind (fun y'_1 =>
  some (y'_1, c)) else
  some (false, c) else
  some (false, c)

noncomputable def slices_IndexFunc_2_L2_B (s : Tp7) (r2 : Int → Tp11 → Int → (List Int) → Option (Int × (List Int))) (f : Int) (f_1 : Tp11) (t : Int) (l : (List Int)) : Option (Int × (List Int)) :=
  if (decide (t < (s.length : Int))) = true then
  G (0 ≤ t ∧ t < (s.length : Int)) (
  (same_answered_1 (ix s t) f f_1 l).bind (fun y'_3 =>
  if y'_3.1 = true then
  some (t, y'_3.2) else
  G (fits (t + (1 : Int))) (
  r2 f f_1 (t + (1 : Int)) y'_3.2))) else
  some ((-1 : Int), l)
noncomputable def slices_IndexFunc_2_L2_F (s : Tp7) : (Int × Tp11 × Int × (List Int) → Option (Int × (List Int))) → Int × Tp11 × Int × (List Int) → Option (Int × (List Int)) :=
  fun rec x => slices_IndexFunc_2_L2_B s (fun f f_1 t l => rec (f, f_1, t, l)) x.1 x.2.1 x.2.2.1 x.2.2.2
noncomputable def slices_IndexFunc_2_L2 (s : Tp7) (f : Int) (f_1 : Tp11) (t : Int) (l : (List Int)) : Option (Int × (List Int)) := LFix (slices_IndexFunc_2_L2_F s ) (f, f_1, t, l)
noncomputable def slices_IndexFunc_2 (s : Tp7) (c : Int) (c_1 : Tp11) (c_2 : (List Int)) : Option (Int × (List Int)) :=
  slices_IndexFunc_2_L2 s c c_1 (0 : Int) c_2
theorem slices_IndexFunc_2_L2_B_ch (r2 : Nat → Int → Tp11 → Int → (List Int) → Option (Int × (List Int))) (r2' : Int → Tp11 → Int → (List Int) → Option (Int × (List Int))) (h_r2 : ∀ a0 a1 a2 a3, ChO (fun κ => r2 κ a0 a1 a2 a3) (r2' a0 a1 a2 a3)) (s : Tp7) (f : Int) (f_1 : Tp11) (t : Int) (l : (List Int)) : ChO (fun κ => slices_IndexFunc_2_L2_B s (r2 κ) f f_1 t l) (slices_IndexFunc_2_L2_B s r2' f f_1 t l) := by
  unfold slices_IndexFunc_2_L2_B
  repeat' with_reducible first | exact ChO.const _ | exact h_r2 _ _ _ _ | apply ChO.ite | apply ChO.G | apply ChO.both | (apply ChO.bind; intro _)
theorem slices_IndexFunc_2_L2_cn  (s : Tp7) : Cn (slices_IndexFunc_2_L2_F s) := fun g h hg x => slices_IndexFunc_2_L2_B_ch  (fun κ f f_1 t l => g κ (f, f_1, t, l)) (fun f f_1 t l => h (f, f_1, t, l)) (fun f f_1 t l => hg (f, f_1, t, l)) s x.1 x.2.1 x.2.2.1 x.2.2.2
theorem slices_IndexFunc_2_L2_eq  (s : Tp7) (f : Int) (f_1 : Tp11) (t : Int) (l : (List Int)) : slices_IndexFunc_2_L2 s f f_1 t l = slices_IndexFunc_2_L2_B s (slices_IndexFunc_2_L2 s) f f_1 t l := LFix_eq (slices_IndexFunc_2_L2_cn s) (f, f_1, t, l)

noncomputable def slices_ContainsFunc_1 (s : Tp7) (c : Int) (c_1 : Tp11) (c_2 : (List Int)) : Option (Bool × (List Int)) :=
  (slices_IndexFunc_2 s c c_1 c_2).bind (fun y'_3 =>
  some (decide ((0 : Int) ≤ y'_3.1), y'_3.2))

noncomputable def same_answered_L2_B (g' : Tp5) (p : Int) (r2 : Int → Int → (List Int) → Option (Bool)) (q_1 : Int) (t : Int) (ok : (List Int)) : Option (Bool) :=
  if (decide (t < (g'.2.2.1.length : Int))) = true then
  G (0 ≤ t ∧ t < (g'.2.2.1.length : Int)) (
  if (decide (((ix g'.2.2.1 t).1) = p)) = true then
  (slices_ContainsFunc_1 g'.2.2.1 q_1 ((ix g'.2.2.1 t).1, (((ix g'.2.2.1 t).2).1, ((((ix g'.2.2.1 t).2).2).1, ()))) ok).bind (fun y'_3 =>
  if (!y'_3.1) = true then
  some false else
  G (fits (t + (1 : Int))) (
  r2 q_1 (t + (1 : Int)) y'_3.2)) else
  G (fits (t + (1 : Int))) (
  r2 q_1 (t + (1 : Int)) ok)) else
  some true
noncomputable def same_answered_L2_F (g' : Tp5) (p : Int) : (Int × Int × (List Int) → Option (Bool)) → Int × Int × (List Int) → Option (Bool) :=
  fun rec x => same_answered_L2_B g' p (fun q_1 t ok => rec (q_1, t, ok)) x.1 x.2.1 x.2.2
noncomputable def same_answered_L2 (g' : Tp5) (p : Int) (q_1 : Int) (t : Int) (ok : (List Int)) : Option (Bool) := LFix (same_answered_L2_F g' p ) (q_1, t, ok)
noncomputable def same_answered (g' : Tp5) (p : Int) (q : Int) (c : (List Int)) : Option (Bool) :=
  same_answered_L2 g' p q (0 : Int) c
theorem same_answered_L2_B_ch (r2 : Nat → Int → Int → (List Int) → Option (Bool)) (r2' : Int → Int → (List Int) → Option (Bool)) (h_r2 : ∀ a0 a1 a2, ChO (fun κ => r2 κ a0 a1 a2) (r2' a0 a1 a2)) (g' : Tp5) (p : Int) (q_1 : Int) (t : Int) (ok : (List Int)) : ChO (fun κ => same_answered_L2_B g' p (r2 κ) q_1 t ok) (same_answered_L2_B g' p r2' q_1 t ok) := by
  unfold same_answered_L2_B
  repeat' with_reducible first | exact ChO.const _ | exact h_r2 _ _ _ | apply ChO.ite | apply ChO.G | apply ChO.both | (apply ChO.bind; intro _)
theorem same_answered_L2_cn  (g' : Tp5) (p : Int) : Cn (same_answered_L2_F g' p) := fun g h hg x => same_answered_L2_B_ch  (fun κ q_1 t ok => g κ (q_1, t, ok)) (fun q_1 t ok => h (q_1, t, ok)) (fun q_1 t ok => hg (q_1, t, ok)) g' p x.1 x.2.1 x.2.2
theorem same_answered_L2_eq  (g' : Tp5) (p : Int) (q_1 : Int) (t : Int) (ok : (List Int)) : same_answered_L2 g' p q_1 t ok = same_answered_L2_B g' p (same_answered_L2 g' p) q_1 t ok := LFix_eq (same_answered_L2_cn g' p) (q_1, t, ok)

noncomputable def same_rounds_2 (q : Int) (t : (List Int)) (t_1 : Int) (t_2 : Tp5) (c : (List Int)) : Option (Bool × (List Int)) :=
  G (0 ≤ t_1 ∧ t_1 < (t.length : Int)) (
  G (0 ≤ q ∧ q < (t.length : Int)) (
  if (decide ((ix t t_1) = (ix t q))) = true then
  (same_answered t_2 t_1 q c).bind (fun y' =>
  if y' = true then
  (same_answered t_2 q t_1 c).bind (fun y'_1 =>
  some (y'_1, c)) else
  some (false, c)) else
  some (false, c)))

noncomputable def slices_IndexFunc_1_L2_B (s : (List Int)) (r2 : (List Int) → Int → Tp5 → Int → (List Int) → Option (Int × (List Int))) (f : (List Int)) (f_1 : Int) (f_2 : Tp5) (t : Int) (l : (List Int)) : Option (Int × (List Int)) :=
  if (decide (t < (s.length : Int))) = true then
  G (0 ≤ t ∧ t < (s.length : Int)) (
  (same_rounds_2 (ix s t) f f_1 f_2 l).bind (fun y'_3 =>
  if y'_3.1 = true then
  some (t, y'_3.2) else
  G (fits (t + (1 : Int))) (
  r2 f f_1 f_2 (t + (1 : Int)) y'_3.2))) else
  some ((-1 : Int), l)
noncomputable def slices_IndexFunc_1_L2_F (s : (List Int)) : ((List Int) × Int × Tp5 × Int × (List Int) → Option (Int × (List Int))) → (List Int) × Int × Tp5 × Int × (List Int) → Option (Int × (List Int)) :=
  fun rec x => slices_IndexFunc_1_L2_B s (fun f f_1 f_2 t l => rec (f, f_1, f_2, t, l)) x.1 x.2.1 x.2.2.1 x.2.2.2.1 x.2.2.2.2
noncomputable def slices_IndexFunc_1_L2 (s : (List Int)) (f : (List Int)) (f_1 : Int) (f_2 : Tp5) (t : Int) (l : (List Int)) : Option (Int × (List Int)) := LFix (slices_IndexFunc_1_L2_F s ) (f, f_1, f_2, t, l)
noncomputable def slices_IndexFunc_1 (s : (List Int)) (c : (List Int)) (c_1 : Int) (c_2 : Tp5) (c_3 : (List Int)) : Option (Int × (List Int)) :=
  slices_IndexFunc_1_L2 s c c_1 c_2 (0 : Int) c_3
theorem slices_IndexFunc_1_L2_B_ch (r2 : Nat → (List Int) → Int → Tp5 → Int → (List Int) → Option (Int × (List Int))) (r2' : (List Int) → Int → Tp5 → Int → (List Int) → Option (Int × (List Int))) (h_r2 : ∀ a0 a1 a2 a3 a4, ChO (fun κ => r2 κ a0 a1 a2 a3 a4) (r2' a0 a1 a2 a3 a4)) (s : (List Int)) (f : (List Int)) (f_1 : Int) (f_2 : Tp5) (t : Int) (l : (List Int)) : ChO (fun κ => slices_IndexFunc_1_L2_B s (r2 κ) f f_1 f_2 t l) (slices_IndexFunc_1_L2_B s r2' f f_1 f_2 t l) := by
  unfold slices_IndexFunc_1_L2_B
  repeat' with_reducible first | exact ChO.const _ | exact h_r2 _ _ _ _ _ | apply ChO.ite | apply ChO.G | apply ChO.both | (apply ChO.bind; intro _)
theorem slices_IndexFunc_1_L2_cn  (s : (List Int)) : Cn (slices_IndexFunc_1_L2_F s) := fun g h hg x => slices_IndexFunc_1_L2_B_ch  (fun κ f f_1 f_2 t l => g κ (f, f_1, f_2, t, l)) (fun f f_1 f_2 t l => h (f, f_1, f_2, t, l)) (fun f f_1 f_2 t l => hg (f, f_1, f_2, t, l)) s x.1 x.2.1 x.2.2.1 x.2.2.2.1 x.2.2.2.2
theorem slices_IndexFunc_1_L2_eq  (s : (List Int)) (f : (List Int)) (f_1 : Int) (f_2 : Tp5) (t : Int) (l : (List Int)) : slices_IndexFunc_1_L2 s f f_1 f_2 t l = slices_IndexFunc_1_L2_B s (slices_IndexFunc_1_L2 s) f f_1 f_2 t l := LFix_eq (slices_IndexFunc_1_L2_cn s) (f, f_1, f_2, t, l)

noncomputable def slices_IndexFunc_3_L2_B (s : (List Int)) (r2 : (List Int) → Int → Tp5 → Int → (List Int) → Option Tp8) (f : (List Int)) (f_1 : Int) (f_2 : Tp5) (t : Int) (l : (List Int)) : Option Tp8 :=
  if (decide (t < (s.length : Int))) = true then
  G (0 ≤ t ∧ t < (s.length : Int)) (
  G ((t).toNat < s.length) (
  (same_rounds_2 (ix s t) f f_1 f_2 l).bind (fun y'_3 =>
  if y'_3.1 = true then
  some (t, s, y'_3.2) else
  G (fits (t + (1 : Int))) (
  r2 f f_1 f_2 (t + (1 : Int)) y'_3.2)))) else
  some ((-1 : Int), s, l)
noncomputable def slices_IndexFunc_3_L2_F (s : (List Int)) : ((List Int) × Int × Tp5 × Int × (List Int) → Option Tp8) → (List Int) × Int × Tp5 × Int × (List Int) → Option Tp8 :=
  fun rec x => slices_IndexFunc_3_L2_B s (fun f f_1 f_2 t l => rec (f, f_1, f_2, t, l)) x.1 x.2.1 x.2.2.1 x.2.2.2.1 x.2.2.2.2
noncomputable def slices_IndexFunc_3_L2 (s : (List Int)) (f : (List Int)) (f_1 : Int) (f_2 : Tp5) (t : Int) (l : (List Int)) : Option Tp8 := LFix (slices_IndexFunc_3_L2_F s ) (f, f_1, f_2, t, l)
noncomputable def slices_IndexFunc_3 (c : (List Int)) (c_1 : Int) (c_2 : Tp5) (s : (List Int)) (c_3 : (List Int)) : Option Tp8 :=
  slices_IndexFunc_3_L2 s c c_1 c_2 (0 : Int) c_3
theorem slices_IndexFunc_3_L2_B_ch (r2 : Nat → (List Int) → Int → Tp5 → Int → (List Int) → Option Tp8) (r2' : (List Int) → Int → Tp5 → Int → (List Int) → Option Tp8) (h_r2 : ∀ a0 a1 a2 a3 a4, ChO (fun κ => r2 κ a0 a1 a2 a3 a4) (r2' a0 a1 a2 a3 a4)) (s : (List Int)) (f : (List Int)) (f_1 : Int) (f_2 : Tp5) (t : Int) (l : (List Int)) : ChO (fun κ => slices_IndexFunc_3_L2_B s (r2 κ) f f_1 f_2 t l) (slices_IndexFunc_3_L2_B s r2' f f_1 f_2 t l) := by
  unfold slices_IndexFunc_3_L2_B
  repeat' with_reducible first | exact ChO.const _ | exact h_r2 _ _ _ _ _ | apply ChO.ite | apply ChO.G | apply ChO.both | (apply ChO.bind; intro _)
theorem slices_IndexFunc_3_L2_cn  (s : (List Int)) : Cn (slices_IndexFunc_3_L2_F s) := fun g h hg x => slices_IndexFunc_3_L2_B_ch  (fun κ f f_1 f_2 t l => g κ (f, f_1, f_2, t, l)) (fun f f_1 f_2 t l => h (f, f_1, f_2, t, l)) (fun f f_1 f_2 t l => hg (f, f_1, f_2, t, l)) s x.1 x.2.1 x.2.2.1 x.2.2.2.1 x.2.2.2.2
theorem slices_IndexFunc_3_L2_eq  (s : (List Int)) (f : (List Int)) (f_1 : Int) (f_2 : Tp5) (t : Int) (l : (List Int)) : slices_IndexFunc_3_L2 s f f_1 f_2 t l = slices_IndexFunc_3_L2_B s (slices_IndexFunc_3_L2 s) f f_1 f_2 t l := LFix_eq (slices_IndexFunc_3_L2_cn s) (f, f_1, f_2, t, l)

noncomputable def slices_Max_L5_B (x' : (List Int)) (r5 : Int → Int → Option (Int)) (m : Int) (i : Int) : Option (Int) :=
  if (decide (i < (x'.length : Int))) = true then
  G (0 ≤ i ∧ i < (x'.length : Int)) (
  G (fits (i + (1 : Int))) (
  r5 (imax m (ix x' i)) (i + (1 : Int)))) else
  some m
noncomputable def slices_Max_L5_F (x' : (List Int)) : (Int × Int → Option (Int)) → Int × Int → Option (Int) :=
  fun rec x => slices_Max_L5_B x' (fun m i => rec (m, i)) x.1 x.2
noncomputable def slices_Max_L5 (x' : (List Int)) (m : Int) (i : Int) : Option (Int) := LFix (slices_Max_L5_F x' ) (m, i)
noncomputable def slices_Max (x' : (List Int)) : Option (Int) :=
  if (decide ((x'.length : Int) < (1 : Int))) = true then
  none else
  G (0 ≤ (0 : Int) ∧ (0 : Int) < (x'.length : Int)) (
  slices_Max_L5 x' (ix x' (0 : Int)) (1 : Int))
theorem slices_Max_L5_B_ch (r5 : Nat → Int → Int → Option (Int)) (r5' : Int → Int → Option (Int)) (h_r5 : ∀ a0 a1, ChO (fun κ => r5 κ a0 a1) (r5' a0 a1)) (x' : (List Int)) (m : Int) (i : Int) : ChO (fun κ => slices_Max_L5_B x' (r5 κ) m i) (slices_Max_L5_B x' r5' m i) := by
  unfold slices_Max_L5_B
  repeat' with_reducible first | exact ChO.const _ | exact h_r5 _ _ | apply ChO.ite | apply ChO.G | apply ChO.both | (apply ChO.bind; intro _)
theorem slices_Max_L5_cn  (x' : (List Int)) : Cn (slices_Max_L5_F x') := fun g h hg x => slices_Max_L5_B_ch  (fun κ m i => g κ (m, i)) (fun m i => h (m, i)) (fun m i => hg (m, i)) x' x.1 x.2
theorem slices_Max_L5_eq  (x' : (List Int)) (m : Int) (i : Int) : slices_Max_L5 x' m i = slices_Max_L5_B x' (slices_Max_L5 x') m i := LFix_eq (slices_Max_L5_cn x') (m, i)

noncomputable def same_rounds_J12 (g'_2 : Tp5) (t : Int) (next' : (List Int)) (r7 : (Tp5 → Int → (List Int) → (List Int) → (List Int) → Option (List (List Int)))) (y'_2 : (List Int)) (k : Int) (firsts_1 : (List Int)) : Option (List (List Int)) :=
  G (0 ≤ t ∧ t < (next'.length : Int)) (
  G ((t).toNat < next'.length) (
  G (fits (t + (1 : Int))) (
  r7 g'_2 (t + (1 : Int)) y'_2 (next'.set (t).toNat k) firsts_1)))
noncomputable def same_rounds_L7_B (g'_1 : Tp5) (l : (List (List Int))) (r2 : (Tp5 → (List (List Int)) → Option (List (List Int)))) (r7 : Tp5 → Int → (List Int) → (List Int) → (List Int) → Option (List (List Int))) (g'_2 : Tp5) (t : Int) (alike : (List Int)) (next' : (List Int)) (firsts : (List Int)) : Option (List (List Int)) :=
  if (decide (t < ((List.replicate (g'_1.2.1).toNat (0 : Int)).length : Int))) = true then
  (slices_IndexFunc_3 (ix l ((l.length : Int) - (1 : Int))) t g'_2 firsts alike).bind (fun y'_4 =>
  if (decide (y'_4.1 < (0 : Int))) = true then
  G (room y'_4.2.1 ([t]) 8) (
  same_rounds_J12 g'_2 t next' r7 y'_4.2.2 (y'_4.2.1.length : Int) (y'_4.2.1 ++ ([t]))) else
  same_rounds_J12 g'_2 t next' r7 y'_4.2.2 y'_4.1 y'_4.2.1) else
  (slices_Max next').bind (fun y'_5 =>
  (slices_Max (ix l ((l.length : Int) - (1 : Int)))).bind (fun y'_6 =>
  if (decide (y'_5 = y'_6)) = true then
  some l else
  G (room l ([next']) 24) (
  r2 g'_2 (l ++ ([next'])))))
noncomputable def same_rounds_L7_F (g'_1 : Tp5) (l : (List (List Int))) (r2 : (Tp5 → (List (List Int)) → Option (List (List Int)))) : (Tp5 × Int × (List Int) × (List Int) × (List Int) → Option (List (List Int))) → Tp5 × Int × (List Int) × (List Int) × (List Int) → Option (List (List Int)) :=
  fun rec x => same_rounds_L7_B g'_1 l r2 (fun g'_2 t alike next' firsts => rec (g'_2, t, alike, next', firsts)) x.1 x.2.1 x.2.2.1 x.2.2.2.1 x.2.2.2.2
noncomputable def same_rounds_L7 (g'_1 : Tp5) (l : (List (List Int))) (r2 : (Tp5 → (List (List Int)) → Option (List (List Int)))) (g'_2 : Tp5) (t : Int) (alike : (List Int)) (next' : (List Int)) (firsts : (List Int)) : Option (List (List Int)) := LFix (same_rounds_L7_F g'_1 l r2 ) (g'_2, t, alike, next', firsts)
noncomputable def same_rounds_L2_B  (r2 : Tp5 → (List (List Int)) → Option (List (List Int))) (g'_1 : Tp5) (l : (List (List Int))) : Option (List (List Int)) :=
  G (fits ((l.length : Int) - (1 : Int))) (
  G (0 ≤ (l.length : Int) - (1 : Int) ∧ (l.length : Int) - (1 : Int) < (l.length : Int)) (
  G (((l.length : Int) - (1 : Int)).toNat < l.length) (
  G (mkOK g'_1.2.1 g'_1.2.1 8) (
  same_rounds_L7 g'_1 l r2 g'_1 (0 : Int) (ix l ((l.length : Int) - (1 : Int))) (List.replicate (g'_1.2.1).toNat (0 : Int)) ([])))))
noncomputable def same_rounds_L2_F  : (Tp5 × (List (List Int)) → Option (List (List Int))) → Tp5 × (List (List Int)) → Option (List (List Int)) :=
  fun rec x => same_rounds_L2_B (fun g'_1 l => rec (g'_1, l)) x.1 x.2
noncomputable def same_rounds_L2  (g'_1 : Tp5) (l : (List (List Int))) : Option (List (List Int)) := LFix (same_rounds_L2_F ) (g'_1, l)
noncomputable def same_rounds (g' : Tp5) : Option (List (List Int)) :=
  G (mkOK g'.2.1 g'.2.1 8) (
  same_rounds_L2 (g'.1, (g'.2.1, (g'.2.2.1, ()))) ([List.replicate (g'.2.1).toNat (0 : Int)]))
theorem same_rounds_J12_ch (r7 : Nat → Tp5 → Int → (List Int) → (List Int) → (List Int) → Option (List (List Int))) (r7' : Tp5 → Int → (List Int) → (List Int) → (List Int) → Option (List (List Int))) (h_r7 : ∀ a0 a1 a2 a3 a4, ChO (fun κ => r7 κ a0 a1 a2 a3 a4) (r7' a0 a1 a2 a3 a4)) (g'_2 : Tp5) (t : Int) (next' : (List Int)) (y'_2 : (List Int)) (k : Int) (firsts_1 : (List Int)) : ChO (fun κ => same_rounds_J12 g'_2 t next' (r7 κ) y'_2 k firsts_1) (same_rounds_J12 g'_2 t next' r7' y'_2 k firsts_1) := by
  unfold same_rounds_J12
  repeat' with_reducible first | exact ChO.const _ | exact h_r7 _ _ _ _ _ | apply ChO.ite | apply ChO.G | apply ChO.both | (apply ChO.bind; intro _)
theorem same_rounds_L7_B_ch (r2 : Nat → Tp5 → (List (List Int)) → Option (List (List Int))) (r2' : Tp5 → (List (List Int)) → Option (List (List Int))) (h_r2 : ∀ a0 a1, ChO (fun κ => r2 κ a0 a1) (r2' a0 a1)) (r7 : Nat → Tp5 → Int → (List Int) → (List Int) → (List Int) → Option (List (List Int))) (r7' : Tp5 → Int → (List Int) → (List Int) → (List Int) → Option (List (List Int))) (h_r7 : ∀ a0 a1 a2 a3 a4, ChO (fun κ => r7 κ a0 a1 a2 a3 a4) (r7' a0 a1 a2 a3 a4)) (g'_1 : Tp5) (l : (List (List Int))) (g'_2 : Tp5) (t : Int) (alike : (List Int)) (next' : (List Int)) (firsts : (List Int)) : ChO (fun κ => same_rounds_L7_B g'_1 l (r2 κ) (r7 κ) g'_2 t alike next' firsts) (same_rounds_L7_B g'_1 l r2' r7' g'_2 t alike next' firsts) := by
  unfold same_rounds_L7_B
  repeat' with_reducible first | exact ChO.const _ | exact h_r2 _ _ | exact h_r7 _ _ _ _ _ | (apply same_rounds_J12_ch <;> assumption) | apply ChO.ite | apply ChO.G | apply ChO.both | (apply ChO.bind; intro _)
theorem same_rounds_L7_cn (r2 : Tp5 → (List (List Int)) → Option (List (List Int))) (g'_1 : Tp5) (l : (List (List Int))) : Cn (same_rounds_L7_F g'_1 l r2) := fun g h hg x => same_rounds_L7_B_ch (fun _ => r2) r2 (fun _ _ => ChO.const _) (fun κ g'_2 t alike next' firsts => g κ (g'_2, t, alike, next', firsts)) (fun g'_2 t alike next' firsts => h (g'_2, t, alike, next', firsts)) (fun g'_2 t alike next' firsts => hg (g'_2, t, alike, next', firsts)) g'_1 l x.1 x.2.1 x.2.2.1 x.2.2.2.1 x.2.2.2.2
theorem same_rounds_L7_eq (r2 : Tp5 → (List (List Int)) → Option (List (List Int))) (g'_1 : Tp5) (l : (List (List Int))) (g'_2 : Tp5) (t : Int) (alike : (List Int)) (next' : (List Int)) (firsts : (List Int)) : same_rounds_L7 g'_1 l r2 g'_2 t alike next' firsts = same_rounds_L7_B g'_1 l r2 (same_rounds_L7 g'_1 l r2) g'_2 t alike next' firsts := LFix_eq (same_rounds_L7_cn r2 g'_1 l) (g'_2, t, alike, next', firsts)
theorem same_rounds_L7_ch (r2 : Nat → Tp5 → (List (List Int)) → Option (List (List Int))) (r2' : Tp5 → (List (List Int)) → Option (List (List Int))) (h_r2 : ∀ a0 a1, ChO (fun κ => r2 κ a0 a1) (r2' a0 a1)) (g'_1 : Tp5) (l : (List (List Int))) (g'_2 : Tp5) (t : Int) (alike : (List Int)) (next' : (List Int)) (firsts : (List Int)) : ChO (fun κ => same_rounds_L7 g'_1 l (r2 κ) g'_2 t alike next' firsts) (same_rounds_L7 g'_1 l r2' g'_2 t alike next' firsts) := by
  unfold same_rounds_L7
  exact LFix_ch (fun κ => (same_rounds_L7_cn (r2 κ) g'_1 l).mono) (same_rounds_L7_cn r2' g'_1 l).mono (fun g h hg x => same_rounds_L7_B_ch r2 r2' h_r2 (fun κ g'_2 t alike next' firsts => g κ (g'_2, t, alike, next', firsts)) (fun g'_2 t alike next' firsts => h (g'_2, t, alike, next', firsts)) (fun g'_2 t alike next' firsts => hg (g'_2, t, alike, next', firsts)) g'_1 l x.1 x.2.1 x.2.2.1 x.2.2.2.1 x.2.2.2.2) _
theorem same_rounds_L2_B_ch (r2 : Nat → Tp5 → (List (List Int)) → Option (List (List Int))) (r2' : Tp5 → (List (List Int)) → Option (List (List Int))) (h_r2 : ∀ a0 a1, ChO (fun κ => r2 κ a0 a1) (r2' a0 a1)) (g'_1 : Tp5) (l : (List (List Int))) : ChO (fun κ => same_rounds_L2_B (r2 κ) g'_1 l) (same_rounds_L2_B r2' g'_1 l) := by
  unfold same_rounds_L2_B
  repeat' with_reducible first | exact ChO.const _ | exact h_r2 _ _ | (apply same_rounds_J12_ch <;> assumption) | (apply same_rounds_L7_ch <;> assumption) | apply ChO.ite | apply ChO.G | apply ChO.both | (apply ChO.bind; intro _)
theorem same_rounds_L2_cn   : Cn (same_rounds_L2_F) := fun g h hg x => same_rounds_L2_B_ch  (fun κ g'_1 l => g κ (g'_1, l)) (fun g'_1 l => h (g'_1, l)) (fun g'_1 l => hg (g'_1, l))  x.1 x.2
theorem same_rounds_L2_eq   (g'_1 : Tp5) (l : (List (List Int))) : same_rounds_L2 g'_1 l = same_rounds_L2_B (same_rounds_L2) g'_1 l := LFix_eq (same_rounds_L2_cn ) (g'_1, l)

noncomputable def same_teller_tell_1 (class' : (List Int)) (t : Int) (t_1 : Int) : Option (Bool) :=
  G (0 ≤ t ∧ t < (class'.length : Int)) (
  G (0 ≤ t_1 ∧ t_1 < (class'.length : Int)) (
  some (decide (¬ (ix class' t) = (ix class' t_1)))))

noncomputable def slices_IndexFunc_4_L2_B (s : (List (List Int))) (c : Int) (c_1 : Int) (r2 : Int → Option (Int)) (t : Int) : Option (Int) :=
  if (decide (t < (s.length : Int))) = true then
  G (0 ≤ t ∧ t < (s.length : Int)) (
  (same_teller_tell_1 (ix s t) c c_1).bind (fun y' =>
  if y' = true then
  some t else
  G (fits (t + (1 : Int))) (
  r2 (t + (1 : Int))))) else
  some (-1 : Int)
noncomputable def slices_IndexFunc_4_L2_F (s : (List (List Int))) (c : Int) (c_1 : Int) : (Int → Option (Int)) → Int → Option (Int) :=
  fun rec x => slices_IndexFunc_4_L2_B s c c_1 (fun t => rec t) x
noncomputable def slices_IndexFunc_4_L2 (s : (List (List Int))) (c : Int) (c_1 : Int) (t : Int) : Option (Int) := LFix (slices_IndexFunc_4_L2_F s c c_1 ) t
noncomputable def slices_IndexFunc_4 (s : (List (List Int))) (c : Int) (c_1 : Int) : Option (Int) :=
  slices_IndexFunc_4_L2 s c c_1 (0 : Int)
theorem slices_IndexFunc_4_L2_B_ch (r2 : Nat → Int → Option (Int)) (r2' : Int → Option (Int)) (h_r2 : ∀ a0, ChO (fun κ => r2 κ a0) (r2' a0)) (s : (List (List Int))) (c : Int) (c_1 : Int) (t : Int) : ChO (fun κ => slices_IndexFunc_4_L2_B s c c_1 (r2 κ) t) (slices_IndexFunc_4_L2_B s c c_1 r2' t) := by
  unfold slices_IndexFunc_4_L2_B
  repeat' with_reducible first | exact ChO.const _ | exact h_r2 _ | apply ChO.ite | apply ChO.G | apply ChO.both | (apply ChO.bind; intro _)
theorem slices_IndexFunc_4_L2_cn  (s : (List (List Int))) (c : Int) (c_1 : Int) : Cn (slices_IndexFunc_4_L2_F s c c_1) := fun g h hg x => slices_IndexFunc_4_L2_B_ch  (fun κ t => g κ t) (fun t => h t) (fun t => hg t) s c c_1 x
theorem slices_IndexFunc_4_L2_eq  (s : (List (List Int))) (c : Int) (c_1 : Int) (t : Int) : slices_IndexFunc_4_L2 s c c_1 t = slices_IndexFunc_4_L2_B s c c_1 (slices_IndexFunc_4_L2 s c c_1) t := LFix_eq (slices_IndexFunc_4_L2_cn s c c_1) t

noncomputable def same_teller_tell_2 (a : Int) (b : Int) (t : (List Int)) : Option (Bool) :=
  G (0 ≤ a ∧ a < (t.length : Int)) (
  G (0 ≤ b ∧ b < (t.length : Int)) (
  some (decide ((ix t a) = (ix t b)))))

noncomputable def same_answered_1_1 (y' : Tp11) (t : Int) (t_1 : Tp11) (c : (List Int)) : Option (Bool × (List Int)) :=
  if (decide (y'.1 = t)) = true then
  if (decide (y'.2.1 = t_1.2.1)) = true then
  (same_teller_tell_2 t_1.2.2.1 y'.2.2.1 c).bind (fun y'_1 =>
  some (y'_1, c)) else
  some (false, c) else
  some (false, c)

noncomputable def slices_IndexFunc_5_L2_B (s : Tp7) (r2 : Int → Tp11 → Int → (List Int) → Option (Int × (List Int))) (f : Int) (f_1 : Tp11) (t : Int) (l : (List Int)) : Option (Int × (List Int)) :=
  if (decide (t < (s.length : Int))) = true then
  G (0 ≤ t ∧ t < (s.length : Int)) (
  (same_answered_1_1 (ix s t) f f_1 l).bind (fun y'_3 =>
  if y'_3.1 = true then
  some (t, y'_3.2) else
  G (fits (t + (1 : Int))) (
  r2 f f_1 (t + (1 : Int)) y'_3.2))) else
  some ((-1 : Int), l)
noncomputable def slices_IndexFunc_5_L2_F (s : Tp7) : (Int × Tp11 × Int × (List Int) → Option (Int × (List Int))) → Int × Tp11 × Int × (List Int) → Option (Int × (List Int)) :=
  fun rec x => slices_IndexFunc_5_L2_B s (fun f f_1 t l => rec (f, f_1, t, l)) x.1 x.2.1 x.2.2.1 x.2.2.2
noncomputable def slices_IndexFunc_5_L2 (s : Tp7) (f : Int) (f_1 : Tp11) (t : Int) (l : (List Int)) : Option (Int × (List Int)) := LFix (slices_IndexFunc_5_L2_F s ) (f, f_1, t, l)
noncomputable def slices_IndexFunc_5 (s : Tp7) (c : Int) (c_1 : Tp11) (c_2 : (List Int)) : Option (Int × (List Int)) :=
  slices_IndexFunc_5_L2 s c c_1 (0 : Int) c_2
theorem slices_IndexFunc_5_L2_B_ch (r2 : Nat → Int → Tp11 → Int → (List Int) → Option (Int × (List Int))) (r2' : Int → Tp11 → Int → (List Int) → Option (Int × (List Int))) (h_r2 : ∀ a0 a1 a2 a3, ChO (fun κ => r2 κ a0 a1 a2 a3) (r2' a0 a1 a2 a3)) (s : Tp7) (f : Int) (f_1 : Tp11) (t : Int) (l : (List Int)) : ChO (fun κ => slices_IndexFunc_5_L2_B s (r2 κ) f f_1 t l) (slices_IndexFunc_5_L2_B s r2' f f_1 t l) := by
  unfold slices_IndexFunc_5_L2_B
  repeat' with_reducible first | exact ChO.const _ | exact h_r2 _ _ _ _ | apply ChO.ite | apply ChO.G | apply ChO.both | (apply ChO.bind; intro _)
theorem slices_IndexFunc_5_L2_cn  (s : Tp7) : Cn (slices_IndexFunc_5_L2_F s) := fun g h hg x => slices_IndexFunc_5_L2_B_ch  (fun κ f f_1 t l => g κ (f, f_1, t, l)) (fun f f_1 t l => h (f, f_1, t, l)) (fun f f_1 t l => hg (f, f_1, t, l)) s x.1 x.2.1 x.2.2.1 x.2.2.2
theorem slices_IndexFunc_5_L2_eq  (s : Tp7) (f : Int) (f_1 : Tp11) (t : Int) (l : (List Int)) : slices_IndexFunc_5_L2 s f f_1 t l = slices_IndexFunc_5_L2_B s (slices_IndexFunc_5_L2 s) f f_1 t l := LFix_eq (slices_IndexFunc_5_L2_cn s) (f, f_1, t, l)

noncomputable def slices_ContainsFunc_2 (s : Tp7) (c : Int) (c_1 : Tp11) (c_2 : (List Int)) : Option (Bool × (List Int)) :=
  (slices_IndexFunc_5 s c c_1 c_2).bind (fun y'_3 =>
  some (decide ((0 : Int) ≤ y'_3.1), y'_3.2))

noncomputable def same_answered_2_L2_B (g' : Tp5) (p : Int) (r2 : Int → Int → (List Int) → Option (Bool)) (q_1 : Int) (t : Int) (ok : (List Int)) : Option (Bool) :=
  if (decide (t < (g'.2.2.1.length : Int))) = true then
  G (0 ≤ t ∧ t < (g'.2.2.1.length : Int)) (
  if (decide (((ix g'.2.2.1 t).1) = p)) = true then
  (slices_ContainsFunc_2 g'.2.2.1 q_1 ((ix g'.2.2.1 t).1, (((ix g'.2.2.1 t).2).1, ((((ix g'.2.2.1 t).2).2).1, ()))) ok).bind (fun y'_3 =>
  if (!y'_3.1) = true then
  some false else
  G (fits (t + (1 : Int))) (
  r2 q_1 (t + (1 : Int)) y'_3.2)) else
  G (fits (t + (1 : Int))) (
  r2 q_1 (t + (1 : Int)) ok)) else
  some true
noncomputable def same_answered_2_L2_F (g' : Tp5) (p : Int) : (Int × Int × (List Int) → Option (Bool)) → Int × Int × (List Int) → Option (Bool) :=
  fun rec x => same_answered_2_L2_B g' p (fun q_1 t ok => rec (q_1, t, ok)) x.1 x.2.1 x.2.2
noncomputable def same_answered_2_L2 (g' : Tp5) (p : Int) (q_1 : Int) (t : Int) (ok : (List Int)) : Option (Bool) := LFix (same_answered_2_L2_F g' p ) (q_1, t, ok)
noncomputable def same_answered_2 (g' : Tp5) (p : Int) (q : Int) (c : (List Int)) : Option (Bool) :=
  same_answered_2_L2 g' p q (0 : Int) c
theorem same_answered_2_L2_B_ch (r2 : Nat → Int → Int → (List Int) → Option (Bool)) (r2' : Int → Int → (List Int) → Option (Bool)) (h_r2 : ∀ a0 a1 a2, ChO (fun κ => r2 κ a0 a1 a2) (r2' a0 a1 a2)) (g' : Tp5) (p : Int) (q_1 : Int) (t : Int) (ok : (List Int)) : ChO (fun κ => same_answered_2_L2_B g' p (r2 κ) q_1 t ok) (same_answered_2_L2_B g' p r2' q_1 t ok) := by
  unfold same_answered_2_L2_B
  repeat' with_reducible first | exact ChO.const _ | exact h_r2 _ _ _ | apply ChO.ite | apply ChO.G | apply ChO.both | (apply ChO.bind; intro _)
theorem same_answered_2_L2_cn  (g' : Tp5) (p : Int) : Cn (same_answered_2_L2_F g' p) := fun g h hg x => same_answered_2_L2_B_ch  (fun κ q_1 t ok => g κ (q_1, t, ok)) (fun q_1 t ok => h (q_1, t, ok)) (fun q_1 t ok => hg (q_1, t, ok)) g' p x.1 x.2.1 x.2.2
theorem same_answered_2_L2_eq  (g' : Tp5) (p : Int) (q_1 : Int) (t : Int) (ok : (List Int)) : same_answered_2_L2 g' p q_1 t ok = same_answered_2_L2_B g' p (same_answered_2_L2 g' p) q_1 t ok := LFix_eq (same_answered_2_L2_cn g' p) (q_1, t, ok)

noncomputable def same_teller_put (s : Tp9) (c : Int) (c_1 : Int) (c_2 : Tp7) (c_3 : (List (List Int))) (c_4 : Tp10) (c_5 : (List Int)) : Option Tp2 :=
  G (room ([] : List Tp9) ([(s.1, (s.2.1, (s.2.2.1, (s.2.2.2.1, ()))))]) 32) (
  G (fits ((([(s.1, (s.2.1, (s.2.2.1, (s.2.2.2.1, ()))))]).length : Int) - (1 : Int))) (
  some ((([(s.1, (s.2.1, (s.2.2.1, (s.2.2.2.1, ()))))]).length : Int) - (1 : Int), c, c_1, c_2, c_3, [(s.1, (s.2.1, (s.2.2.1, (s.2.2.2.1, ()))))], c_4, c_5)))

noncomputable def same_teller_tell_3_1 (y' : Tp11) (t : Int) (t_1 : Tp11) (c : (List Int)) : Option (Bool × (List Int)) :=
  if (decide (y'.1 = t)) = true then
  if (decide (y'.2.1 = t_1.2.1)) = true then
  (same_teller_tell_2 t_1.2.2.1 y'.2.2.1 c).bind (fun y'_1 =>
  some (y'_1, c)) else
  some (false, c) else
  some (false, c)

noncomputable def slices_IndexFunc_7_L2_B (s : Tp7) (r2 : Int → Tp11 → Int → (List Int) → Option (Int × (List Int))) (f : Int) (f_1 : Tp11) (t : Int) (l : (List Int)) : Option (Int × (List Int)) :=
  if (decide (t < (s.length : Int))) = true then
  G (0 ≤ t ∧ t < (s.length : Int)) (
  (same_teller_tell_3_1 (ix s t) f f_1 l).bind (fun y'_3 =>
  if y'_3.1 = true then
  some (t, y'_3.2) else
  G (fits (t + (1 : Int))) (
  r2 f f_1 (t + (1 : Int)) y'_3.2))) else
  some ((-1 : Int), l)
noncomputable def slices_IndexFunc_7_L2_F (s : Tp7) : (Int × Tp11 × Int × (List Int) → Option (Int × (List Int))) → Int × Tp11 × Int × (List Int) → Option (Int × (List Int)) :=
  fun rec x => slices_IndexFunc_7_L2_B s (fun f f_1 t l => rec (f, f_1, t, l)) x.1 x.2.1 x.2.2.1 x.2.2.2
noncomputable def slices_IndexFunc_7_L2 (s : Tp7) (f : Int) (f_1 : Tp11) (t : Int) (l : (List Int)) : Option (Int × (List Int)) := LFix (slices_IndexFunc_7_L2_F s ) (f, f_1, t, l)
noncomputable def slices_IndexFunc_7 (s : Tp7) (c : Int) (c_1 : Tp11) (c_2 : (List Int)) : Option (Int × (List Int)) :=
  slices_IndexFunc_7_L2 s c c_1 (0 : Int) c_2
theorem slices_IndexFunc_7_L2_B_ch (r2 : Nat → Int → Tp11 → Int → (List Int) → Option (Int × (List Int))) (r2' : Int → Tp11 → Int → (List Int) → Option (Int × (List Int))) (h_r2 : ∀ a0 a1 a2 a3, ChO (fun κ => r2 κ a0 a1 a2 a3) (r2' a0 a1 a2 a3)) (s : Tp7) (f : Int) (f_1 : Tp11) (t : Int) (l : (List Int)) : ChO (fun κ => slices_IndexFunc_7_L2_B s (r2 κ) f f_1 t l) (slices_IndexFunc_7_L2_B s r2' f f_1 t l) := by
  unfold slices_IndexFunc_7_L2_B
  repeat' with_reducible first | exact ChO.const _ | exact h_r2 _ _ _ _ | apply ChO.ite | apply ChO.G | apply ChO.both | (apply ChO.bind; intro _)
theorem slices_IndexFunc_7_L2_cn  (s : Tp7) : Cn (slices_IndexFunc_7_L2_F s) := fun g h hg x => slices_IndexFunc_7_L2_B_ch  (fun κ f f_1 t l => g κ (f, f_1, t, l)) (fun f f_1 t l => h (f, f_1, t, l)) (fun f f_1 t l => hg (f, f_1, t, l)) s x.1 x.2.1 x.2.2.1 x.2.2.2
theorem slices_IndexFunc_7_L2_eq  (s : Tp7) (f : Int) (f_1 : Tp11) (t : Int) (l : (List Int)) : slices_IndexFunc_7_L2 s f f_1 t l = slices_IndexFunc_7_L2_B s (slices_IndexFunc_7_L2 s) f f_1 t l := LFix_eq (slices_IndexFunc_7_L2_cn s) (f, f_1, t, l)

noncomputable def slices_ContainsFunc_3 (s : Tp7) (c : Int) (c_1 : Tp11) (c_2 : (List Int)) : Option (Bool × (List Int)) :=
  (slices_IndexFunc_7 s c c_1 c_2).bind (fun y'_3 =>
  some (decide ((0 : Int) ≤ y'_3.1), y'_3.2))

noncomputable def same_teller_tell_3 (x' : Tp11) (t : Int) (t_1 : Int) (c : (List Int)) (c_1 : Int) (c_2 : Int) (c_3 : Tp7) (c_4 : (List (List Int))) (c_5 : Tp10) (c_6 : (List Int)) : Option (Bool × (List Int) × Int × Int × Tp7 × (List (List Int)) × Tp10 × (List Int)) :=
  if (decide (x'.1 = t)) = true then
  (slices_ContainsFunc_3 c_3 t_1 (x'.1, (x'.2.1, (x'.2.2.1, ()))) c).bind (fun y'_3 =>
  some (!y'_3.1, y'_3.2, c_1, c_2, c_3, c_4, c_5, c_6)) else
  some (false, c, c_1, c_2, c_3, c_4, c_5, c_6)

noncomputable def slices_IndexFunc_6_L2_B (s : Tp7) (r2 : Int → Int → Int → (List Int) → Int → Int → Tp7 → (List (List Int)) → Tp10 → (List Int) → Option Tp3) (f : Int) (f_1 : Int) (t : Int) (l : (List Int)) (l_1 : Int) (l_2 : Int) (l_3 : Tp7) (l_4 : (List (List Int))) (l_5 : Tp10) (l_6 : (List Int)) : Option Tp3 :=
  if (decide (t < (s.length : Int))) = true then
  G (0 ≤ t ∧ t < (s.length : Int)) (
  (same_teller_tell_3 (ix s t) f f_1 l l_1 l_2 l_3 l_4 l_5 l_6).bind (fun y'_9 =>
  if y'_9.1 = true then
  some (t, y'_9.2.1, y'_9.2.2.1, y'_9.2.2.2.1, y'_9.2.2.2.2.1, y'_9.2.2.2.2.2.1, y'_9.2.2.2.2.2.2.1, y'_9.2.2.2.2.2.2.2) else
  G (fits (t + (1 : Int))) (
  r2 f f_1 (t + (1 : Int)) y'_9.2.1 y'_9.2.2.1 y'_9.2.2.2.1 y'_9.2.2.2.2.1 y'_9.2.2.2.2.2.1 y'_9.2.2.2.2.2.2.1 y'_9.2.2.2.2.2.2.2))) else
  some ((-1 : Int), l, l_1, l_2, l_3, l_4, l_5, l_6)
noncomputable def slices_IndexFunc_6_L2_F (s : Tp7) : (Int × Int × Int × (List Int) × Int × Int × Tp7 × (List (List Int)) × Tp10 × (List Int) → Option Tp3) → Int × Int × Int × (List Int) × Int × Int × Tp7 × (List (List Int)) × Tp10 × (List Int) → Option Tp3 :=
  fun rec x => slices_IndexFunc_6_L2_B s (fun f f_1 t l l_1 l_2 l_3 l_4 l_5 l_6 => rec (f, f_1, t, l, l_1, l_2, l_3, l_4, l_5, l_6)) x.1 x.2.1 x.2.2.1 x.2.2.2.1 x.2.2.2.2.1 x.2.2.2.2.2.1 x.2.2.2.2.2.2.1 x.2.2.2.2.2.2.2.1 x.2.2.2.2.2.2.2.2.1 x.2.2.2.2.2.2.2.2.2
noncomputable def slices_IndexFunc_6_L2 (s : Tp7) (f : Int) (f_1 : Int) (t : Int) (l : (List Int)) (l_1 : Int) (l_2 : Int) (l_3 : Tp7) (l_4 : (List (List Int))) (l_5 : Tp10) (l_6 : (List Int)) : Option Tp3 := LFix (slices_IndexFunc_6_L2_F s ) (f, f_1, t, l, l_1, l_2, l_3, l_4, l_5, l_6)
noncomputable def slices_IndexFunc_6 (s : Tp7) (c : Int) (c_1 : Int) (c_2 : (List Int)) (c_3 : Int) (c_4 : Int) (c_5 : Tp7) (c_6 : (List (List Int))) (c_7 : Tp10) (c_8 : (List Int)) : Option Tp3 :=
  slices_IndexFunc_6_L2 s c c_1 (0 : Int) c_2 c_3 c_4 c_5 c_6 c_7 c_8
theorem slices_IndexFunc_6_L2_B_ch (r2 : Nat → Int → Int → Int → (List Int) → Int → Int → Tp7 → (List (List Int)) → Tp10 → (List Int) → Option Tp3) (r2' : Int → Int → Int → (List Int) → Int → Int → Tp7 → (List (List Int)) → Tp10 → (List Int) → Option Tp3) (h_r2 : ∀ a0 a1 a2 a3 a4 a5 a6 a7 a8 a9, ChO (fun κ => r2 κ a0 a1 a2 a3 a4 a5 a6 a7 a8 a9) (r2' a0 a1 a2 a3 a4 a5 a6 a7 a8 a9)) (s : Tp7) (f : Int) (f_1 : Int) (t : Int) (l : (List Int)) (l_1 : Int) (l_2 : Int) (l_3 : Tp7) (l_4 : (List (List Int))) (l_5 : Tp10) (l_6 : (List Int)) : ChO (fun κ => slices_IndexFunc_6_L2_B s (r2 κ) f f_1 t l l_1 l_2 l_3 l_4 l_5 l_6) (slices_IndexFunc_6_L2_B s r2' f f_1 t l l_1 l_2 l_3 l_4 l_5 l_6) := by
  unfold slices_IndexFunc_6_L2_B
  repeat' with_reducible first | exact ChO.const _ | exact h_r2 _ _ _ _ _ _ _ _ _ _ | apply ChO.ite | apply ChO.G | apply ChO.both | (apply ChO.bind; intro _)
theorem slices_IndexFunc_6_L2_cn  (s : Tp7) : Cn (slices_IndexFunc_6_L2_F s) := fun g h hg x => slices_IndexFunc_6_L2_B_ch  (fun κ f f_1 t l l_1 l_2 l_3 l_4 l_5 l_6 => g κ (f, f_1, t, l, l_1, l_2, l_3, l_4, l_5, l_6)) (fun f f_1 t l l_1 l_2 l_3 l_4 l_5 l_6 => h (f, f_1, t, l, l_1, l_2, l_3, l_4, l_5, l_6)) (fun f f_1 t l l_1 l_2 l_3 l_4 l_5 l_6 => hg (f, f_1, t, l, l_1, l_2, l_3, l_4, l_5, l_6)) s x.1 x.2.1 x.2.2.1 x.2.2.2.1 x.2.2.2.2.1 x.2.2.2.2.2.1 x.2.2.2.2.2.2.1 x.2.2.2.2.2.2.2.1 x.2.2.2.2.2.2.2.2.1 x.2.2.2.2.2.2.2.2.2
theorem slices_IndexFunc_6_L2_eq  (s : Tp7) (f : Int) (f_1 : Int) (t : Int) (l : (List Int)) (l_1 : Int) (l_2 : Int) (l_3 : Tp7) (l_4 : (List (List Int))) (l_5 : Tp10) (l_6 : (List Int)) : slices_IndexFunc_6_L2 s f f_1 t l l_1 l_2 l_3 l_4 l_5 l_6 = slices_IndexFunc_6_L2_B s (slices_IndexFunc_6_L2 s) f f_1 t l l_1 l_2 l_3 l_4 l_5 l_6 := LFix_eq (slices_IndexFunc_6_L2_cn s) (f, f_1, t, l, l_1, l_2, l_3, l_4, l_5, l_6)

noncomputable def same_teller_put_1 (s : Tp9) (c : Int) (c_1 : Int) (c_2 : Tp7) (c_3 : (List (List Int))) (l : Tp6) (c_4 : Tp10) (c_5 : (List Int)) : Option Tp2 :=
  G (room l ([(s.1, (s.2.1, (s.2.2.1, (s.2.2.2.1, ()))))]) 32) (
  G (fits (((l ++ ([(s.1, (s.2.1, (s.2.2.1, (s.2.2.2.1, ()))))])).length : Int) - (1 : Int))) (
  some (((l ++ ([(s.1, (s.2.1, (s.2.2.1, (s.2.2.2.1, ()))))])).length : Int) - (1 : Int), c, c_1, c_2, c_3, l ++ ([(s.1, (s.2.1, (s.2.2.1, (s.2.2.2.1, ()))))]), c_4, c_5)))

noncomputable def same_teller_tell_3_2 (x' : Tp11) (t : Int) (t_1 : Int) (c : (List Int)) (c_1 : Int) (c_2 : Int) (c_3 : Tp7) (c_4 : (List (List Int))) (l : Tp6) (c_5 : Tp10) (c_6 : (List Int)) : Option (Bool × (List Int) × Int × Int × Tp7 × (List (List Int)) × Tp6 × Tp10 × (List Int)) :=
  if (decide (x'.1 = t)) = true then
  (slices_ContainsFunc_3 c_3 t_1 (x'.1, (x'.2.1, (x'.2.2.1, ()))) c).bind (fun y'_3 =>
  some (!y'_3.1, y'_3.2, c_1, c_2, c_3, c_4, l, c_5, c_6)) else
  some (false, c, c_1, c_2, c_3, c_4, l, c_5, c_6)

noncomputable def slices_IndexFunc_8_L2_B (s : Tp7) (r2 : Int → Int → Int → (List Int) → Int → Int → Tp7 → (List (List Int)) → Tp6 → Tp10 → (List Int) → Option Tp1) (f : Int) (f_1 : Int) (t : Int) (l_1 : (List Int)) (l_2 : Int) (l_3 : Int) (l_4 : Tp7) (l_5 : (List (List Int))) (l_6 : Tp6) (l_7 : Tp10) (l_8 : (List Int)) : Option Tp1 :=
  if (decide (t < (s.length : Int))) = true then
  G (0 ≤ t ∧ t < (s.length : Int)) (
  (same_teller_tell_3_2 (ix s t) f f_1 l_1 l_2 l_3 l_4 l_5 l_6 l_7 l_8).bind (fun y'_10 =>
  if y'_10.1 = true then
  some (t, y'_10.2.1, y'_10.2.2.1, y'_10.2.2.2.1, y'_10.2.2.2.2.1, y'_10.2.2.2.2.2.1, y'_10.2.2.2.2.2.2.1, y'_10.2.2.2.2.2.2.2.1, y'_10.2.2.2.2.2.2.2.2) else
  G (fits (t + (1 : Int))) (
  r2 f f_1 (t + (1 : Int)) y'_10.2.1 y'_10.2.2.1 y'_10.2.2.2.1 y'_10.2.2.2.2.1 y'_10.2.2.2.2.2.1 y'_10.2.2.2.2.2.2.1 y'_10.2.2.2.2.2.2.2.1 y'_10.2.2.2.2.2.2.2.2))) else
  some ((-1 : Int), l_1, l_2, l_3, l_4, l_5, l_6, l_7, l_8)
noncomputable def slices_IndexFunc_8_L2_F (s : Tp7) : (Int × Int × Int × (List Int) × Int × Int × Tp7 × (List (List Int)) × Tp6 × Tp10 × (List Int) → Option Tp1) → Int × Int × Int × (List Int) × Int × Int × Tp7 × (List (List Int)) × Tp6 × Tp10 × (List Int) → Option Tp1 :=
  fun rec x => slices_IndexFunc_8_L2_B s (fun f f_1 t l_1 l_2 l_3 l_4 l_5 l_6 l_7 l_8 => rec (f, f_1, t, l_1, l_2, l_3, l_4, l_5, l_6, l_7, l_8)) x.1 x.2.1 x.2.2.1 x.2.2.2.1 x.2.2.2.2.1 x.2.2.2.2.2.1 x.2.2.2.2.2.2.1 x.2.2.2.2.2.2.2.1 x.2.2.2.2.2.2.2.2.1 x.2.2.2.2.2.2.2.2.2.1 x.2.2.2.2.2.2.2.2.2.2
noncomputable def slices_IndexFunc_8_L2 (s : Tp7) (f : Int) (f_1 : Int) (t : Int) (l_1 : (List Int)) (l_2 : Int) (l_3 : Int) (l_4 : Tp7) (l_5 : (List (List Int))) (l_6 : Tp6) (l_7 : Tp10) (l_8 : (List Int)) : Option Tp1 := LFix (slices_IndexFunc_8_L2_F s ) (f, f_1, t, l_1, l_2, l_3, l_4, l_5, l_6, l_7, l_8)
noncomputable def slices_IndexFunc_8 (s : Tp7) (c : Int) (c_1 : Int) (c_2 : (List Int)) (c_3 : Int) (c_4 : Int) (c_5 : Tp7) (c_6 : (List (List Int))) (l : Tp6) (c_7 : Tp10) (c_8 : (List Int)) : Option Tp1 :=
  slices_IndexFunc_8_L2 s c c_1 (0 : Int) c_2 c_3 c_4 c_5 c_6 l c_7 c_8
theorem slices_IndexFunc_8_L2_B_ch (r2 : Nat → Int → Int → Int → (List Int) → Int → Int → Tp7 → (List (List Int)) → Tp6 → Tp10 → (List Int) → Option Tp1) (r2' : Int → Int → Int → (List Int) → Int → Int → Tp7 → (List (List Int)) → Tp6 → Tp10 → (List Int) → Option Tp1) (h_r2 : ∀ a0 a1 a2 a3 a4 a5 a6 a7 a8 a9 a10, ChO (fun κ => r2 κ a0 a1 a2 a3 a4 a5 a6 a7 a8 a9 a10) (r2' a0 a1 a2 a3 a4 a5 a6 a7 a8 a9 a10)) (s : Tp7) (f : Int) (f_1 : Int) (t : Int) (l_1 : (List Int)) (l_2 : Int) (l_3 : Int) (l_4 : Tp7) (l_5 : (List (List Int))) (l_6 : Tp6) (l_7 : Tp10) (l_8 : (List Int)) : ChO (fun κ => slices_IndexFunc_8_L2_B s (r2 κ) f f_1 t l_1 l_2 l_3 l_4 l_5 l_6 l_7 l_8) (slices_IndexFunc_8_L2_B s r2' f f_1 t l_1 l_2 l_3 l_4 l_5 l_6 l_7 l_8) := by
  unfold slices_IndexFunc_8_L2_B
  repeat' with_reducible first | exact ChO.const _ | exact h_r2 _ _ _ _ _ _ _ _ _ _ _ | apply ChO.ite | apply ChO.G | apply ChO.both | (apply ChO.bind; intro _)
theorem slices_IndexFunc_8_L2_cn  (s : Tp7) : Cn (slices_IndexFunc_8_L2_F s) := fun g h hg x => slices_IndexFunc_8_L2_B_ch  (fun κ f f_1 t l_1 l_2 l_3 l_4 l_5 l_6 l_7 l_8 => g κ (f, f_1, t, l_1, l_2, l_3, l_4, l_5, l_6, l_7, l_8)) (fun f f_1 t l_1 l_2 l_3 l_4 l_5 l_6 l_7 l_8 => h (f, f_1, t, l_1, l_2, l_3, l_4, l_5, l_6, l_7, l_8)) (fun f f_1 t l_1 l_2 l_3 l_4 l_5 l_6 l_7 l_8 => hg (f, f_1, t, l_1, l_2, l_3, l_4, l_5, l_6, l_7, l_8)) s x.1 x.2.1 x.2.2.1 x.2.2.2.1 x.2.2.2.2.1 x.2.2.2.2.2.1 x.2.2.2.2.2.2.1 x.2.2.2.2.2.2.2.1 x.2.2.2.2.2.2.2.2.1 x.2.2.2.2.2.2.2.2.2.1 x.2.2.2.2.2.2.2.2.2.2
theorem slices_IndexFunc_8_L2_eq  (s : Tp7) (f : Int) (f_1 : Int) (t : Int) (l_1 : (List Int)) (l_2 : Int) (l_3 : Int) (l_4 : Tp7) (l_5 : (List (List Int))) (l_6 : Tp6) (l_7 : Tp10) (l_8 : (List Int)) : slices_IndexFunc_8_L2 s f f_1 t l_1 l_2 l_3 l_4 l_5 l_6 l_7 l_8 = slices_IndexFunc_8_L2_B s (slices_IndexFunc_8_L2 s) f f_1 t l_1 l_2 l_3 l_4 l_5 l_6 l_7 l_8 := LFix_eq (slices_IndexFunc_8_L2_cn s) (f, f_1, t, l_1, l_2, l_3, l_4, l_5, l_6, l_7, l_8)

noncomputable def same_teller_tell_J17 (t : Int) (r14 : (Int → Int → Int → Int → Tp7 → (List (List Int)) → Tp6 → Tp10 → (List Int) → Option Tp2)) (all'_1 : Int) (l_8 : Int) (l_9 : Int) (l_10 : Tp7) (l_11 : (List (List Int))) (l_12 : Tp6) (l_13 : Tp10) (l_14 : (List Int)) : Option Tp2 :=
  G (fits (t + (1 : Int))) (
  r14 all'_1 (t + (1 : Int)) l_8 l_9 l_10 l_11 l_12 l_13 l_14)
noncomputable def same_teller_tell_J16 (rc_same_teller_tell : Int → Int → Int → Int → Tp7 → (List (List Int)) → Tp6 → Tp10 → (List Int) → Option Tp2) (y'_42 : Int) (y'_46 : Tp7) (y'_55 : Tp7) (all' : Int) (t : Int) (l_1 : Int) (l_2 : Int) (l_3 : Tp7) (l_4 : (List (List Int))) (l_5 : Tp6) (l_6 : Tp10) (l_7 : (List Int)) (r14 : (Int → Int → Int → Int → Tp7 → (List (List Int)) → Tp6 → Tp10 → (List Int) → Option Tp2)) (t_1 : Bool) : Option Tp2 :=
  if t_1 = true then
  both [(.int .i64), (.int .i64), (.int .i64), (.list (.pair (.int .i64) (.pair (.int .i64) (.pair (.int .i64) .unit)))), (.list (.list (.int .i64))), (.list (.pair (.int .i64) (.pair (.int .i64) (.pair (.int .i64) (.pair (.int .i64) .unit))))), (.list (.pair (.int .i64) (.pair (.int .i64) .unit))), (.list (.int .i64))] (
  (rc_same_teller_tell ((((ix y'_46 y'_42).2).2).1) ((((ix y'_55 t).2).2).1) l_1 l_2 l_3 l_4 l_5 l_6 l_7).bind (fun y'_80 =>
  (same_teller_put_1 ((3 : Int), ((0 : Int), (y'_80.1, (all', ())))) y'_80.2.1 y'_80.2.2.1 y'_80.2.2.2.1 y'_80.2.2.2.2.1 y'_80.2.2.2.2.2.1 y'_80.2.2.2.2.2.2.1 y'_80.2.2.2.2.2.2.2).bind (fun y'_79 =>
  same_teller_tell_J17 t r14 y'_79.1 y'_79.2.1 y'_79.2.2.1 y'_79.2.2.2.1 y'_79.2.2.2.2.1 y'_79.2.2.2.2.2.1 y'_79.2.2.2.2.2.2.1 y'_79.2.2.2.2.2.2.2))) (
  (rc_same_teller_tell ((((ix y'_46 y'_42).2).2).1) ((((ix y'_55 t).2).2).1) l_1 l_2 l_3 l_4 l_5 l_6 l_7).bind (fun y'_100 =>
  (same_teller_put_1 ((3 : Int), ((0 : Int), (y'_100.1, (all', ())))) y'_100.2.1 y'_100.2.2.1 y'_100.2.2.2.1 y'_100.2.2.2.2.1 y'_100.2.2.2.2.2.1 y'_100.2.2.2.2.2.2.1 y'_100.2.2.2.2.2.2.2).bind (fun y'_99 =>
  same_teller_tell_J17 t r14 y'_99.1 y'_99.2.1 y'_99.2.2.1 y'_99.2.2.2.1 y'_99.2.2.2.2.1 y'_99.2.2.2.2.2.1 y'_99.2.2.2.2.2.2.1 y'_99.2.2.2.2.2.2.2))) else
  same_teller_tell_J17 t r14 all' l_1 l_2 l_3 l_4 l_5 l_6 l_7
noncomputable def same_teller_tell_L14_B (rc_same_teller_tell : Int → Int → Int → Int → Tp7 → (List (List Int)) → Tp6 → Tp10 → (List Int) → Option Tp2) (p : Int) (q : Int) (y'_42 : Int) (y'_46 : Tp7) (y'_55 : Tp7) (r14 : Int → Int → Int → Int → Tp7 → (List (List Int)) → Tp6 → Tp10 → (List Int) → Option Tp2) (all' : Int) (t : Int) (l_1 : Int) (l_2 : Int) (l_3 : Tp7) (l_4 : (List (List Int))) (l_5 : Tp6) (l_6 : Tp10) (l_7 : (List Int)) : Option Tp2 :=
  if (decide (t < (y'_55.length : Int))) = true then
  G (0 ≤ t ∧ t < (y'_55.length : Int)) (
  if (decide (((ix y'_55 t).1) = q)) = true then
  same_teller_tell_J16 rc_same_teller_tell y'_42 y'_46 y'_55 all' t l_1 l_2 l_3 l_4 l_5 l_6 l_7 r14 (decide ((((ix y'_55 t).2).1) = (((ix y'_46 y'_42).2).1))) else
  same_teller_tell_J16 rc_same_teller_tell y'_42 y'_46 y'_55 all' t l_1 l_2 l_3 l_4 l_5 l_6 l_7 r14 false) else
  (same_teller_put_1 ((2 : Int), (((ix y'_46 y'_42).2).1, (all', ((0 : Int), ())))) l_1 l_2 l_3 l_4 l_5 l_6 l_7).bind (fun y'_110 =>
  some (y'_110.1, y'_110.2.1, y'_110.2.2.1, y'_110.2.2.2.1, y'_110.2.2.2.2.1, y'_110.2.2.2.2.2.1, mputK y'_110.2.2.2.2.2.2.1 (p, (q, ())), mputV y'_110.2.2.2.2.2.2.1 y'_110.2.2.2.2.2.2.2 (p, (q, ())) y'_110.1))
noncomputable def same_teller_tell_L14_F (rc_same_teller_tell : Int → Int → Int → Int → Tp7 → (List (List Int)) → Tp6 → Tp10 → (List Int) → Option Tp2) (p : Int) (q : Int) (y'_42 : Int) (y'_46 : Tp7) (y'_55 : Tp7) : (Int × Int × Int × Int × Tp7 × (List (List Int)) × Tp6 × Tp10 × (List Int) → Option Tp2) → Int × Int × Int × Int × Tp7 × (List (List Int)) × Tp6 × Tp10 × (List Int) → Option Tp2 :=
  fun rec x => same_teller_tell_L14_B rc_same_teller_tell p q y'_42 y'_46 y'_55 (fun all' t l_1 l_2 l_3 l_4 l_5 l_6 l_7 => rec (all', t, l_1, l_2, l_3, l_4, l_5, l_6, l_7)) x.1 x.2.1 x.2.2.1 x.2.2.2.1 x.2.2.2.2.1 x.2.2.2.2.2.1 x.2.2.2.2.2.2.1 x.2.2.2.2.2.2.2.1 x.2.2.2.2.2.2.2.2
noncomputable def same_teller_tell_L14 (rc_same_teller_tell : Int → Int → Int → Int → Tp7 → (List (List Int)) → Tp6 → Tp10 → (List Int) → Option Tp2) (p : Int) (q : Int) (y'_42 : Int) (y'_46 : Tp7) (y'_55 : Tp7) (all' : Int) (t : Int) (l_1 : Int) (l_2 : Int) (l_3 : Tp7) (l_4 : (List (List Int))) (l_5 : Tp6) (l_6 : Tp10) (l_7 : (List Int)) : Option Tp2 := LFix (same_teller_tell_L14_F rc_same_teller_tell p q y'_42 y'_46 y'_55 ) (all', t, l_1, l_2, l_3, l_4, l_5, l_6, l_7)
noncomputable def same_teller_tell_B (rc_same_teller_tell : Int → Int → Int → Int → Tp7 → (List (List Int)) → Tp6 → Tp10 → (List Int) → Option Tp2) (p : Int) (q : Int) (c : Int) (c_1 : Int) (c_2 : Tp7) (c_3 : (List (List Int))) (l : Tp6) (c_4 : Tp10) (c_5 : (List Int)) : Option Tp2 :=
  if (mhas c_4 (p, (q, ()))) = true then
  some (mget c_4 c_5 (p, (q, ())) (0 : Int), c, c_1, c_2, c_3, l, c_4, c_5) else
  (slices_IndexFunc_4 c_3 p q).bind (fun y' =>
  G (fits (y' - (1 : Int))) (
  G (0 ≤ y' - (1 : Int) ∧ y' - (1 : Int) < (c_3.length : Int)) (
  (same_answered_2 (c, (c_1, (c_2, ()))) p q (ix c_3 (y' - (1 : Int)))).bind (fun y'_1 =>
  if y'_1 = true then
  both [(.int .i64), (.int .i64), (.int .i64), (.list (.pair (.int .i64) (.pair (.int .i64) (.pair (.int .i64) .unit)))), (.list (.list (.int .i64))), (.list (.pair (.int .i64) (.pair (.int .i64) (.pair (.int .i64) (.pair (.int .i64) .unit))))), (.list (.pair (.int .i64) (.pair (.int .i64) .unit))), (.list (.int .i64))] (
  (rc_same_teller_tell q p c c_1 c_2 c_3 l c_4 c_5).bind (fun y'_21 =>
  (same_teller_put_1 ((1 : Int), ((0 : Int), (y'_21.1, ((0 : Int), ())))) y'_21.2.1 y'_21.2.2.1 y'_21.2.2.2.1 y'_21.2.2.2.2.1 y'_21.2.2.2.2.2.1 y'_21.2.2.2.2.2.2.1 y'_21.2.2.2.2.2.2.2).bind (fun y'_20 =>
  some (y'_20.1, y'_20.2.1, y'_20.2.2.1, y'_20.2.2.2.1, y'_20.2.2.2.2.1, y'_20.2.2.2.2.2.1, mputK y'_20.2.2.2.2.2.2.1 (p, (q, ())), mputV y'_20.2.2.2.2.2.2.1 y'_20.2.2.2.2.2.2.2 (p, (q, ())) y'_20.1)))) (
  (rc_same_teller_tell q p c c_1 c_2 c_3 l c_4 c_5).bind (fun y'_41 =>
  (same_teller_put_1 ((1 : Int), ((0 : Int), (y'_41.1, ((0 : Int), ())))) y'_41.2.1 y'_41.2.2.1 y'_41.2.2.2.1 y'_41.2.2.2.2.1 y'_41.2.2.2.2.2.1 y'_41.2.2.2.2.2.2.1 y'_41.2.2.2.2.2.2.2).bind (fun y'_40 =>
  some (y'_40.1, y'_40.2.1, y'_40.2.2.1, y'_40.2.2.2.1, y'_40.2.2.2.2.1, y'_40.2.2.2.2.2.1, mputK y'_40.2.2.2.2.2.2.1 (p, (q, ())), mputV y'_40.2.2.2.2.2.2.1 y'_40.2.2.2.2.2.2.2 (p, (q, ())) y'_40.1)))) else
  (slices_IndexFunc_8 c_2 p q (ix c_3 (y' - (1 : Int))) c c_1 c_2 c_3 l c_4 c_5).bind (fun y'_112 =>
  G (0 ≤ y'_112.1 ∧ y'_112.1 < (y'_112.2.2.2.2.1.length : Int)) (
  (same_teller_put_1 ((0 : Int), ((0 : Int), ((0 : Int), ((0 : Int), ())))) y'_112.2.2.1 y'_112.2.2.2.1 y'_112.2.2.2.2.1 y'_112.2.2.2.2.2.1 y'_112.2.2.2.2.2.2.1 y'_112.2.2.2.2.2.2.2.1 y'_112.2.2.2.2.2.2.2.2).bind (fun y'_111 =>
  same_teller_tell_L14 rc_same_teller_tell p q y'_112.1 y'_112.2.2.2.2.1 y'_111.2.2.2.1 y'_111.1 (0 : Int) y'_111.2.1 y'_111.2.2.1 y'_111.2.2.2.1 y'_111.2.2.2.2.1 y'_111.2.2.2.2.2.1 y'_111.2.2.2.2.2.2.1 y'_111.2.2.2.2.2.2.2)))))))
theorem same_teller_tell_J17_ch (r14 : Nat → Int → Int → Int → Int → Tp7 → (List (List Int)) → Tp6 → Tp10 → (List Int) → Option Tp2) (r14' : Int → Int → Int → Int → Tp7 → (List (List Int)) → Tp6 → Tp10 → (List Int) → Option Tp2) (h_r14 : ∀ a0 a1 a2 a3 a4 a5 a6 a7 a8, ChO (fun κ => r14 κ a0 a1 a2 a3 a4 a5 a6 a7 a8) (r14' a0 a1 a2 a3 a4 a5 a6 a7 a8)) (t : Int) (all'_1 : Int) (l_8 : Int) (l_9 : Int) (l_10 : Tp7) (l_11 : (List (List Int))) (l_12 : Tp6) (l_13 : Tp10) (l_14 : (List Int)) : ChO (fun κ => same_teller_tell_J17 t (r14 κ) all'_1 l_8 l_9 l_10 l_11 l_12 l_13 l_14) (same_teller_tell_J17 t r14' all'_1 l_8 l_9 l_10 l_11 l_12 l_13 l_14) := by
  unfold same_teller_tell_J17
  repeat' with_reducible first | exact ChO.const _ | exact h_r14 _ _ _ _ _ _ _ _ _ | apply ChO.ite | apply ChO.G | apply ChO.both | (apply ChO.bind; intro _)
theorem same_teller_tell_J16_ch (rc_same_teller_tell : Nat → Int → Int → Int → Int → Tp7 → (List (List Int)) → Tp6 → Tp10 → (List Int) → Option Tp2) (rc_same_teller_tell' : Int → Int → Int → Int → Tp7 → (List (List Int)) → Tp6 → Tp10 → (List Int) → Option Tp2) (h_rc_same_teller_tell : ∀ a0 a1 a2 a3 a4 a5 a6 a7 a8, ChO (fun κ => rc_same_teller_tell κ a0 a1 a2 a3 a4 a5 a6 a7 a8) (rc_same_teller_tell' a0 a1 a2 a3 a4 a5 a6 a7 a8)) (r14 : Nat → Int → Int → Int → Int → Tp7 → (List (List Int)) → Tp6 → Tp10 → (List Int) → Option Tp2) (r14' : Int → Int → Int → Int → Tp7 → (List (List Int)) → Tp6 → Tp10 → (List Int) → Option Tp2) (h_r14 : ∀ a0 a1 a2 a3 a4 a5 a6 a7 a8, ChO (fun κ => r14 κ a0 a1 a2 a3 a4 a5 a6 a7 a8) (r14' a0 a1 a2 a3 a4 a5 a6 a7 a8)) (y'_42 : Int) (y'_46 : Tp7) (y'_55 : Tp7) (all' : Int) (t : Int) (l_1 : Int) (l_2 : Int) (l_3 : Tp7) (l_4 : (List (List Int))) (l_5 : Tp6) (l_6 : Tp10) (l_7 : (List Int)) (t_1 : Bool) : ChO (fun κ => same_teller_tell_J16 (rc_same_teller_tell κ) y'_42 y'_46 y'_55 all' t l_1 l_2 l_3 l_4 l_5 l_6 l_7 (r14 κ) t_1) (same_teller_tell_J16 rc_same_teller_tell' y'_42 y'_46 y'_55 all' t l_1 l_2 l_3 l_4 l_5 l_6 l_7 r14' t_1) := by
  unfold same_teller_tell_J16
  repeat' with_reducible first | exact ChO.const _ | exact h_rc_same_teller_tell _ _ _ _ _ _ _ _ _ | exact h_r14 _ _ _ _ _ _ _ _ _ | (apply same_teller_tell_J17_ch <;> assumption) | apply ChO.ite | apply ChO.G | apply ChO.both | (apply ChO.bind; intro _) | (apply ChO.bind2 (h_rc_same_teller_tell _ _ _ _ _ _ _ _ _); intro _)
theorem same_teller_tell_L14_B_ch (rc_same_teller_tell : Nat → Int → Int → Int → Int → Tp7 → (List (List Int)) → Tp6 → Tp10 → (List Int) → Option Tp2) (rc_same_teller_tell' : Int → Int → Int → Int → Tp7 → (List (List Int)) → Tp6 → Tp10 → (List Int) → Option Tp2) (h_rc_same_teller_tell : ∀ a0 a1 a2 a3 a4 a5 a6 a7 a8, ChO (fun κ => rc_same_teller_tell κ a0 a1 a2 a3 a4 a5 a6 a7 a8) (rc_same_teller_tell' a0 a1 a2 a3 a4 a5 a6 a7 a8)) (r14 : Nat → Int → Int → Int → Int → Tp7 → (List (List Int)) → Tp6 → Tp10 → (List Int) → Option Tp2) (r14' : Int → Int → Int → Int → Tp7 → (List (List Int)) → Tp6 → Tp10 → (List Int) → Option Tp2) (h_r14 : ∀ a0 a1 a2 a3 a4 a5 a6 a7 a8, ChO (fun κ => r14 κ a0 a1 a2 a3 a4 a5 a6 a7 a8) (r14' a0 a1 a2 a3 a4 a5 a6 a7 a8)) (p : Int) (q : Int) (y'_42 : Int) (y'_46 : Tp7) (y'_55 : Tp7) (all' : Int) (t : Int) (l_1 : Int) (l_2 : Int) (l_3 : Tp7) (l_4 : (List (List Int))) (l_5 : Tp6) (l_6 : Tp10) (l_7 : (List Int)) : ChO (fun κ => same_teller_tell_L14_B (rc_same_teller_tell κ) p q y'_42 y'_46 y'_55 (r14 κ) all' t l_1 l_2 l_3 l_4 l_5 l_6 l_7) (same_teller_tell_L14_B rc_same_teller_tell' p q y'_42 y'_46 y'_55 r14' all' t l_1 l_2 l_3 l_4 l_5 l_6 l_7) := by
  unfold same_teller_tell_L14_B
  repeat' with_reducible first | exact ChO.const _ | exact h_rc_same_teller_tell _ _ _ _ _ _ _ _ _ | exact h_r14 _ _ _ _ _ _ _ _ _ | (apply same_teller_tell_J17_ch <;> assumption) | (apply same_teller_tell_J16_ch <;> assumption) | apply ChO.ite | apply ChO.G | apply ChO.both | (apply ChO.bind; intro _) | (apply ChO.bind2 (h_rc_same_teller_tell _ _ _ _ _ _ _ _ _); intro _)
theorem same_teller_tell_L14_cn (rc_same_teller_tell : Int → Int → Int → Int → Tp7 → (List (List Int)) → Tp6 → Tp10 → (List Int) → Option Tp2) (p : Int) (q : Int) (y'_42 : Int) (y'_46 : Tp7) (y'_55 : Tp7) : Cn (same_teller_tell_L14_F rc_same_teller_tell p q y'_42 y'_46 y'_55) := fun g h hg x => same_teller_tell_L14_B_ch (fun _ => rc_same_teller_tell) rc_same_teller_tell (fun _ _ _ _ _ _ _ _ _ => ChO.const _) (fun κ all' t l_1 l_2 l_3 l_4 l_5 l_6 l_7 => g κ (all', t, l_1, l_2, l_3, l_4, l_5, l_6, l_7)) (fun all' t l_1 l_2 l_3 l_4 l_5 l_6 l_7 => h (all', t, l_1, l_2, l_3, l_4, l_5, l_6, l_7)) (fun all' t l_1 l_2 l_3 l_4 l_5 l_6 l_7 => hg (all', t, l_1, l_2, l_3, l_4, l_5, l_6, l_7)) p q y'_42 y'_46 y'_55 x.1 x.2.1 x.2.2.1 x.2.2.2.1 x.2.2.2.2.1 x.2.2.2.2.2.1 x.2.2.2.2.2.2.1 x.2.2.2.2.2.2.2.1 x.2.2.2.2.2.2.2.2
theorem same_teller_tell_L14_eq (rc_same_teller_tell : Int → Int → Int → Int → Tp7 → (List (List Int)) → Tp6 → Tp10 → (List Int) → Option Tp2) (p : Int) (q : Int) (y'_42 : Int) (y'_46 : Tp7) (y'_55 : Tp7) (all' : Int) (t : Int) (l_1 : Int) (l_2 : Int) (l_3 : Tp7) (l_4 : (List (List Int))) (l_5 : Tp6) (l_6 : Tp10) (l_7 : (List Int)) : same_teller_tell_L14 rc_same_teller_tell p q y'_42 y'_46 y'_55 all' t l_1 l_2 l_3 l_4 l_5 l_6 l_7 = same_teller_tell_L14_B rc_same_teller_tell p q y'_42 y'_46 y'_55 (same_teller_tell_L14 rc_same_teller_tell p q y'_42 y'_46 y'_55) all' t l_1 l_2 l_3 l_4 l_5 l_6 l_7 := LFix_eq (same_teller_tell_L14_cn rc_same_teller_tell p q y'_42 y'_46 y'_55) (all', t, l_1, l_2, l_3, l_4, l_5, l_6, l_7)
theorem same_teller_tell_L14_ch (rc_same_teller_tell : Nat → Int → Int → Int → Int → Tp7 → (List (List Int)) → Tp6 → Tp10 → (List Int) → Option Tp2) (rc_same_teller_tell' : Int → Int → Int → Int → Tp7 → (List (List Int)) → Tp6 → Tp10 → (List Int) → Option Tp2) (h_rc_same_teller_tell : ∀ a0 a1 a2 a3 a4 a5 a6 a7 a8, ChO (fun κ => rc_same_teller_tell κ a0 a1 a2 a3 a4 a5 a6 a7 a8) (rc_same_teller_tell' a0 a1 a2 a3 a4 a5 a6 a7 a8)) (p : Int) (q : Int) (y'_42 : Int) (y'_46 : Tp7) (y'_55 : Tp7) (all' : Int) (t : Int) (l_1 : Int) (l_2 : Int) (l_3 : Tp7) (l_4 : (List (List Int))) (l_5 : Tp6) (l_6 : Tp10) (l_7 : (List Int)) : ChO (fun κ => same_teller_tell_L14 (rc_same_teller_tell κ) p q y'_42 y'_46 y'_55 all' t l_1 l_2 l_3 l_4 l_5 l_6 l_7) (same_teller_tell_L14 rc_same_teller_tell' p q y'_42 y'_46 y'_55 all' t l_1 l_2 l_3 l_4 l_5 l_6 l_7) := by
  unfold same_teller_tell_L14
  exact LFix_ch (fun κ => (same_teller_tell_L14_cn (rc_same_teller_tell κ) p q y'_42 y'_46 y'_55).mono) (same_teller_tell_L14_cn rc_same_teller_tell' p q y'_42 y'_46 y'_55).mono (fun g h hg x => same_teller_tell_L14_B_ch rc_same_teller_tell rc_same_teller_tell' h_rc_same_teller_tell (fun κ all' t l_1 l_2 l_3 l_4 l_5 l_6 l_7 => g κ (all', t, l_1, l_2, l_3, l_4, l_5, l_6, l_7)) (fun all' t l_1 l_2 l_3 l_4 l_5 l_6 l_7 => h (all', t, l_1, l_2, l_3, l_4, l_5, l_6, l_7)) (fun all' t l_1 l_2 l_3 l_4 l_5 l_6 l_7 => hg (all', t, l_1, l_2, l_3, l_4, l_5, l_6, l_7)) p q y'_42 y'_46 y'_55 x.1 x.2.1 x.2.2.1 x.2.2.2.1 x.2.2.2.2.1 x.2.2.2.2.2.1 x.2.2.2.2.2.2.1 x.2.2.2.2.2.2.2.1 x.2.2.2.2.2.2.2.2) _
theorem same_teller_tell_B_ch (rc_same_teller_tell : Nat → Int → Int → Int → Int → Tp7 → (List (List Int)) → Tp6 → Tp10 → (List Int) → Option Tp2) (rc_same_teller_tell' : Int → Int → Int → Int → Tp7 → (List (List Int)) → Tp6 → Tp10 → (List Int) → Option Tp2) (h_rc_same_teller_tell : ∀ a0 a1 a2 a3 a4 a5 a6 a7 a8, ChO (fun κ => rc_same_teller_tell κ a0 a1 a2 a3 a4 a5 a6 a7 a8) (rc_same_teller_tell' a0 a1 a2 a3 a4 a5 a6 a7 a8)) (p : Int) (q : Int) (c : Int) (c_1 : Int) (c_2 : Tp7) (c_3 : (List (List Int))) (l : Tp6) (c_4 : Tp10) (c_5 : (List Int)) : ChO (fun κ => same_teller_tell_B (rc_same_teller_tell κ) p q c c_1 c_2 c_3 l c_4 c_5) (same_teller_tell_B rc_same_teller_tell' p q c c_1 c_2 c_3 l c_4 c_5) := by
  unfold same_teller_tell_B
  repeat' with_reducible first | exact ChO.const _ | exact h_rc_same_teller_tell _ _ _ _ _ _ _ _ _ | (apply same_teller_tell_J17_ch <;> assumption) | (apply same_teller_tell_J16_ch <;> assumption) | (apply same_teller_tell_L14_ch <;> assumption) | apply ChO.ite | apply ChO.G | apply ChO.both | (apply ChO.bind; intro _) | (apply ChO.bind2 (h_rc_same_teller_tell _ _ _ _ _ _ _ _ _); intro _)
noncomputable def same_teller_tell_F : (Int × Int × Int × Int × Tp7 × (List (List Int)) × Tp6 × Tp10 × (List Int) → Option Tp2) → Int × Int × Int × Int × Tp7 × (List (List Int)) × Tp6 × Tp10 × (List Int) → Option Tp2 :=
  fun rec X => same_teller_tell_B (fun p q c c_1 c_2 c_3 l c_4 c_5 => rec (p, q, c, c_1, c_2, c_3, l, c_4, c_5)) X.1 X.2.1 X.2.2.1 X.2.2.2.1 X.2.2.2.2.1 X.2.2.2.2.2.1 X.2.2.2.2.2.2.1 X.2.2.2.2.2.2.2.1 X.2.2.2.2.2.2.2.2
noncomputable def same_teller_tell (p : Int) (q : Int) (c : Int) (c_1 : Int) (c_2 : Tp7) (c_3 : (List (List Int))) (l : Tp6) (c_4 : Tp10) (c_5 : (List Int)) : Option Tp2 := LFix same_teller_tell_F (p, q, c, c_1, c_2, c_3, l, c_4, c_5)
theorem same_teller_tell_cn : Cn same_teller_tell_F := fun g h hg X => same_teller_tell_B_ch _ _ (fun p q c c_1 c_2 c_3 l c_4 c_5 => hg (p, q, c, c_1, c_2, c_3, l, c_4, c_5)) X.1 X.2.1 X.2.2.1 X.2.2.2.1 X.2.2.2.2.1 X.2.2.2.2.2.1 X.2.2.2.2.2.2.1 X.2.2.2.2.2.2.2.1 X.2.2.2.2.2.2.2.2
theorem same_teller_tell_eq (p : Int) (q : Int) (c : Int) (c_1 : Int) (c_2 : Tp7) (c_3 : (List (List Int))) (l : Tp6) (c_4 : Tp10) (c_5 : (List Int)) : same_teller_tell p q c c_1 c_2 c_3 l c_4 c_5 = same_teller_tell_B same_teller_tell p q c c_1 c_2 c_3 l c_4 c_5 := LFix_eq same_teller_tell_cn (p, q, c, c_1, c_2, c_3, l, c_4, c_5)

noncomputable def same_Tell_J6 (p : Int) (q : Int) (t : Int) (t_1 : Int) (t_2 : Tp7) (t_3 : (List (List Int))) (l : Tp10) (l_1 : (List Int)) : Option (Bool × Int × Tp6) :=
  G (fits ((t_3.length : Int) - (1 : Int))) (
  G (0 ≤ (t_3.length : Int) - (1 : Int) ∧ (t_3.length : Int) - (1 : Int) < (t_3.length : Int)) (
  G (0 ≤ p ∧ p < ((ix t_3 ((t_3.length : Int) - (1 : Int))).length : Int)) (
  G (0 ≤ q ∧ q < ((ix t_3 ((t_3.length : Int) - (1 : Int))).length : Int)) (
  if (decide ((ix (ix t_3 ((t_3.length : Int) - (1 : Int))) p) = (ix (ix t_3 ((t_3.length : Int) - (1 : Int))) q))) = true then
  some (false, (0 : Int), []) else
  (same_teller_tell p q t t_1 t_2 t_3 ([] : List Tp9) l l_1).bind (fun y'_11 =>
  some (true, (0 : Int), y'_11.2.2.2.2.2.1))))))
noncomputable def same_Tell (g' : Tp5) (p : Int) (q : Int) : Option (Bool × Int × Tp6) :=
  (same_Check (g'.1, (g'.2.1, (g'.2.2.1, ())))).bind (fun y' =>
  if (decide (¬ y' = (0 : Int))) = true then
  some (false, y', []) else
  if (decide (p < (0 : Int))) = true then
  some (false, (2 : Int), []) else
  if (decide (g'.2.1 ≤ p)) = true then
  some (false, (2 : Int), []) else
  if (decide (q < (0 : Int))) = true then
  some (false, (2 : Int), []) else
  if (decide (g'.2.1 ≤ q)) = true then
  some (false, (2 : Int), []) else
  both [.bool, (.int .i64), (.list (.pair (.int .i64) (.pair (.int .i64) (.pair (.int .i64) (.pair (.int .i64) .unit)))))] (
  (same_rounds (g'.1, (g'.2.1, (g'.2.2.1, ())))).bind (fun y'_1 =>
  same_Tell_J6 p q g'.1 g'.2.1 g'.2.2.1 y'_1 ([] : List (Int × Int × Unit)) ([] : List Int))) (
  (same_rounds (g'.1, (g'.2.1, (g'.2.2.1, ())))).bind (fun y'_12 =>
  same_Tell_J6 p q g'.1 g'.2.1 g'.2.2.1 y'_12 ([] : List (Int × Int × Unit)) ([] : List Int))))

noncomputable def r20_Ahead (x' : Tp11) (y' : Tp11) : Option (Bool) :=
  if (decide (¬ x'.1 = y'.1)) = true then
  some (decide (x'.1 < y'.1)) else
  if (decide (¬ x'.2.1 = y'.2.1)) = true then
  some (decide (x'.2.1 < y'.2.1)) else
  some (decide (x'.2.2.1 < y'.2.2.1))

noncomputable def r20_Check_L12_B (g' : Tp5) (r12 : Int → Option (Int)) (i_1 : Int) : Option (Int) :=
  if (decide (i_1 < (g'.2.2.1.length : Int))) = true then
  G (fits (i_1 - (1 : Int))) (
  G (0 ≤ i_1 - (1 : Int) ∧ i_1 - (1 : Int) < (g'.2.2.1.length : Int)) (
  G (0 ≤ i_1 ∧ i_1 < (g'.2.2.1.length : Int)) (
  (r20_Ahead (ix g'.2.2.1 (i_1 - (1 : Int))) (ix g'.2.2.1 i_1)).bind (fun y' =>
  if (!y') = true then
  some (3 : Int) else
  G (fits (i_1 + (1 : Int))) (
  r12 (i_1 + (1 : Int))))))) else
  some (0 : Int)
noncomputable def r20_Check_L12_F (g' : Tp5) : (Int → Option (Int)) → Int → Option (Int) :=
  fun rec x => r20_Check_L12_B g' (fun i_1 => rec i_1) x
noncomputable def r20_Check_L12 (g' : Tp5) (i_1 : Int) : Option (Int) := LFix (r20_Check_L12_F g' ) i_1
noncomputable def r20_Check_L6_B (g' : Tp5) (r6 : Int → Option (Int)) (i : Int) : Option (Int) :=
  if (decide (i < (g'.2.2.1.length : Int))) = true then
  G (0 ≤ i ∧ i < (g'.2.2.1.length : Int)) (
  if (decide (((ix g'.2.2.1 i).1) < (0 : Int))) = true then
  some (2 : Int) else
  if (decide (g'.2.1 ≤ ((ix g'.2.2.1 i).1))) = true then
  some (2 : Int) else
  if (decide (((((ix g'.2.2.1 i).2).2).1) < (0 : Int))) = true then
  some (2 : Int) else
  if (decide (g'.2.1 ≤ ((((ix g'.2.2.1 i).2).2).1))) = true then
  some (2 : Int) else
  if (decide ((((ix g'.2.2.1 i).2).1) < (0 : Int))) = true then
  some (2 : Int) else
  if (decide (g'.1 ≤ (((ix g'.2.2.1 i).2).1))) = true then
  some (2 : Int) else
  G (fits (i + (1 : Int))) (
  r6 (i + (1 : Int)))) else
  r20_Check_L12 g' (1 : Int)
noncomputable def r20_Check_L6_F (g' : Tp5) : (Int → Option (Int)) → Int → Option (Int) :=
  fun rec x => r20_Check_L6_B g' (fun i => rec i) x
noncomputable def r20_Check_L6 (g' : Tp5) (i : Int) : Option (Int) := LFix (r20_Check_L6_F g' ) i
noncomputable def r20_Check (g' : Tp5) : Option (Int) :=
  if (decide (g'.1 < (1 : Int))) = true then
  some (2 : Int) else
  if (decide ((4 : Int) < g'.1)) = true then
  some (2 : Int) else
  if (decide (g'.2.1 < (1 : Int))) = true then
  some (1 : Int) else
  if (decide ((12 : Int) < g'.2.1)) = true then
  some (1 : Int) else
  if (decide ((60 : Int) < (g'.2.2.1.length : Int))) = true then
  some (1 : Int) else
  r20_Check_L6 g' (0 : Int)
theorem r20_Check_L12_B_ch (r12 : Nat → Int → Option (Int)) (r12' : Int → Option (Int)) (h_r12 : ∀ a0, ChO (fun κ => r12 κ a0) (r12' a0)) (g' : Tp5) (i_1 : Int) : ChO (fun κ => r20_Check_L12_B g' (r12 κ) i_1) (r20_Check_L12_B g' r12' i_1) := by
  unfold r20_Check_L12_B
  repeat' with_reducible first | exact ChO.const _ | exact h_r12 _ | apply ChO.ite | apply ChO.G | apply ChO.both | (apply ChO.bind; intro _)
theorem r20_Check_L12_cn  (g' : Tp5) : Cn (r20_Check_L12_F g') := fun g h hg x => r20_Check_L12_B_ch  (fun κ i_1 => g κ i_1) (fun i_1 => h i_1) (fun i_1 => hg i_1) g' x
theorem r20_Check_L12_eq  (g' : Tp5) (i_1 : Int) : r20_Check_L12 g' i_1 = r20_Check_L12_B g' (r20_Check_L12 g') i_1 := LFix_eq (r20_Check_L12_cn g') i_1
theorem r20_Check_L6_B_ch (r6 : Nat → Int → Option (Int)) (r6' : Int → Option (Int)) (h_r6 : ∀ a0, ChO (fun κ => r6 κ a0) (r6' a0)) (g' : Tp5) (i : Int) : ChO (fun κ => r20_Check_L6_B g' (r6 κ) i) (r20_Check_L6_B g' r6' i) := by
  unfold r20_Check_L6_B
  repeat' with_reducible first | exact ChO.const _ | exact h_r6 _ | apply ChO.ite | apply ChO.G | apply ChO.both | (apply ChO.bind; intro _)
theorem r20_Check_L6_cn  (g' : Tp5) : Cn (r20_Check_L6_F g') := fun g h hg x => r20_Check_L6_B_ch  (fun κ i => g κ i) (fun i => h i) (fun i => hg i) g' x
theorem r20_Check_L6_eq  (g' : Tp5) (i : Int) : r20_Check_L6 g' i = r20_Check_L6_B g' (r20_Check_L6 g') i := LFix_eq (r20_Check_L6_cn g') i

noncomputable def r20_Answers_L8_B (g' : Tp5) (t : (List (List Bool))) (q : Int) (i : Int) (r2 : (Int → Option (Bool))) (r8 : Bool → Int → Option (Bool)) (found : Bool) (k : Int) : Option (Bool) :=
  if (decide (k < (g'.2.2.1.length : Int))) = true then
  G (0 ≤ k ∧ k < (g'.2.2.1.length : Int)) (
  if found = true then
  G (fits (k + (1 : Int))) (
  r8 true (k + (1 : Int))) else
  if (decide (((ix g'.2.2.1 k).1) = q)) = true then
  if (decide ((((ix g'.2.2.1 k).2).1) = (((ix g'.2.2.1 i).2).1))) = true then
  G (0 ≤ (((ix g'.2.2.1 i).2).2).1 ∧ (((ix g'.2.2.1 i).2).2).1 < (t.length : Int)) (
  G (0 ≤ (((ix g'.2.2.1 k).2).2).1 ∧ (((ix g'.2.2.1 k).2).2).1 < ((ix t ((((ix g'.2.2.1 i).2).2).1)).length : Int)) (
  G (fits (k + (1 : Int))) (
  r8 (ix (ix t ((((ix g'.2.2.1 i).2).2).1)) ((((ix g'.2.2.1 k).2).2).1)) (k + (1 : Int))))) else
  G (fits (k + (1 : Int))) (
  r8 false (k + (1 : Int))) else
  G (fits (k + (1 : Int))) (
  r8 false (k + (1 : Int)))) else
  if (!found) = true then
  some false else
  G (fits (i + (1 : Int))) (
  r2 (i + (1 : Int)))
noncomputable def r20_Answers_L8_F (g' : Tp5) (t : (List (List Bool))) (q : Int) (i : Int) (r2 : (Int → Option (Bool))) : (Bool × Int → Option (Bool)) → Bool × Int → Option (Bool) :=
  fun rec x => r20_Answers_L8_B g' t q i r2 (fun found k => rec (found, k)) x.1 x.2
noncomputable def r20_Answers_L8 (g' : Tp5) (t : (List (List Bool))) (q : Int) (i : Int) (r2 : (Int → Option (Bool))) (found : Bool) (k : Int) : Option (Bool) := LFix (r20_Answers_L8_F g' t q i r2 ) (found, k)
noncomputable def r20_Answers_L2_B (g' : Tp5) (t : (List (List Bool))) (p : Int) (q : Int) (r2 : Int → Option (Bool)) (i : Int) : Option (Bool) :=
  if (decide (i < (g'.2.2.1.length : Int))) = true then
  G (0 ≤ i ∧ i < (g'.2.2.1.length : Int)) (
  if (decide (¬ ((ix g'.2.2.1 i).1) = p)) = true then
  G (fits (i + (1 : Int))) (
  r2 (i + (1 : Int))) else
  r20_Answers_L8 g' t q i r2 false (0 : Int)) else
  some true
noncomputable def r20_Answers_L2_F (g' : Tp5) (t : (List (List Bool))) (p : Int) (q : Int) : (Int → Option (Bool)) → Int → Option (Bool) :=
  fun rec x => r20_Answers_L2_B g' t p q (fun i => rec i) x
noncomputable def r20_Answers_L2 (g' : Tp5) (t : (List (List Bool))) (p : Int) (q : Int) (i : Int) : Option (Bool) := LFix (r20_Answers_L2_F g' t p q ) i
noncomputable def r20_Answers (g' : Tp5) (t : (List (List Bool))) (p : Int) (q : Int) : Option (Bool) :=
  r20_Answers_L2 g' t p q (0 : Int)
theorem r20_Answers_L8_B_ch (r2 : Nat → Int → Option (Bool)) (r2' : Int → Option (Bool)) (h_r2 : ∀ a0, ChO (fun κ => r2 κ a0) (r2' a0)) (r8 : Nat → Bool → Int → Option (Bool)) (r8' : Bool → Int → Option (Bool)) (h_r8 : ∀ a0 a1, ChO (fun κ => r8 κ a0 a1) (r8' a0 a1)) (g' : Tp5) (t : (List (List Bool))) (q : Int) (i : Int) (found : Bool) (k : Int) : ChO (fun κ => r20_Answers_L8_B g' t q i (r2 κ) (r8 κ) found k) (r20_Answers_L8_B g' t q i r2' r8' found k) := by
  unfold r20_Answers_L8_B
  repeat' with_reducible first | exact ChO.const _ | exact h_r2 _ | exact h_r8 _ _ | apply ChO.ite | apply ChO.G | apply ChO.both | (apply ChO.bind; intro _)
theorem r20_Answers_L8_cn (r2 : Int → Option (Bool)) (g' : Tp5) (t : (List (List Bool))) (q : Int) (i : Int) : Cn (r20_Answers_L8_F g' t q i r2) := fun g h hg x => r20_Answers_L8_B_ch (fun _ => r2) r2 (fun _ => ChO.const _) (fun κ found k => g κ (found, k)) (fun found k => h (found, k)) (fun found k => hg (found, k)) g' t q i x.1 x.2
theorem r20_Answers_L8_eq (r2 : Int → Option (Bool)) (g' : Tp5) (t : (List (List Bool))) (q : Int) (i : Int) (found : Bool) (k : Int) : r20_Answers_L8 g' t q i r2 found k = r20_Answers_L8_B g' t q i r2 (r20_Answers_L8 g' t q i r2) found k := LFix_eq (r20_Answers_L8_cn r2 g' t q i) (found, k)
theorem r20_Answers_L8_ch (r2 : Nat → Int → Option (Bool)) (r2' : Int → Option (Bool)) (h_r2 : ∀ a0, ChO (fun κ => r2 κ a0) (r2' a0)) (g' : Tp5) (t : (List (List Bool))) (q : Int) (i : Int) (found : Bool) (k : Int) : ChO (fun κ => r20_Answers_L8 g' t q i (r2 κ) found k) (r20_Answers_L8 g' t q i r2' found k) := by
  unfold r20_Answers_L8
  exact LFix_ch (fun κ => (r20_Answers_L8_cn (r2 κ) g' t q i).mono) (r20_Answers_L8_cn r2' g' t q i).mono (fun g h hg x => r20_Answers_L8_B_ch r2 r2' h_r2 (fun κ found k => g κ (found, k)) (fun found k => h (found, k)) (fun found k => hg (found, k)) g' t q i x.1 x.2) _
theorem r20_Answers_L2_B_ch (r2 : Nat → Int → Option (Bool)) (r2' : Int → Option (Bool)) (h_r2 : ∀ a0, ChO (fun κ => r2 κ a0) (r2' a0)) (g' : Tp5) (t : (List (List Bool))) (p : Int) (q : Int) (i : Int) : ChO (fun κ => r20_Answers_L2_B g' t p q (r2 κ) i) (r20_Answers_L2_B g' t p q r2' i) := by
  unfold r20_Answers_L2_B
  repeat' with_reducible first | exact ChO.const _ | exact h_r2 _ | (apply r20_Answers_L8_ch <;> assumption) | apply ChO.ite | apply ChO.G | apply ChO.both | (apply ChO.bind; intro _)
theorem r20_Answers_L2_cn  (g' : Tp5) (t : (List (List Bool))) (p : Int) (q : Int) : Cn (r20_Answers_L2_F g' t p q) := fun g h hg x => r20_Answers_L2_B_ch  (fun κ i => g κ i) (fun i => h i) (fun i => hg i) g' t p q x
theorem r20_Answers_L2_eq  (g' : Tp5) (t : (List (List Bool))) (p : Int) (q : Int) (i : Int) : r20_Answers_L2 g' t p q i = r20_Answers_L2_B g' t p q (r20_Answers_L2 g' t p q) i := LFix_eq (r20_Answers_L2_cn g' t p q) i

noncomputable def r20_Table_L7_B (g' : Tp5) (p : Int) (t : (List (List Bool))) (r3 : (Int → (List (List Bool)) → Option (List (List Bool)))) (r7 : Int → (List Bool) → Option (List (List Bool))) (q : Int) (r : (List Bool)) : Option (List (List Bool)) :=
  if (decide (q < g'.2.1)) = true then
  G (0 ≤ q ∧ q < (r.length : Int)) (
  G ((q).toNat < r.length) (
  G (fits (q + (1 : Int))) (
  r7 (q + (1 : Int)) (r.set (q).toNat true)))) else
  G (room t ([r]) 24) (
  G (fits (p + (1 : Int))) (
  r3 (p + (1 : Int)) (t ++ ([r]))))
noncomputable def r20_Table_L7_F (g' : Tp5) (p : Int) (t : (List (List Bool))) (r3 : (Int → (List (List Bool)) → Option (List (List Bool)))) : (Int × (List Bool) → Option (List (List Bool))) → Int × (List Bool) → Option (List (List Bool)) :=
  fun rec x => r20_Table_L7_B g' p t r3 (fun q r => rec (q, r)) x.1 x.2
noncomputable def r20_Table_L7 (g' : Tp5) (p : Int) (t : (List (List Bool))) (r3 : (Int → (List (List Bool)) → Option (List (List Bool)))) (q : Int) (r : (List Bool)) : Option (List (List Bool)) := LFix (r20_Table_L7_F g' p t r3 ) (q, r)
noncomputable def r20_Table_J23 (p_1 : Int) (again_2 : Bool) (q_1 : Int) (t_3 : (List (List Bool))) (r18 : (Bool → Int → (List (List Bool)) → Option (List (List Bool)))) (ok : Bool) : Option (List (List Bool)) :=
  if (!ok) = true then
  G (0 ≤ p_1 ∧ p_1 < (t_3.length : Int)) (
  G ((p_1).toNat < t_3.length) (
  G (0 ≤ q_1 ∧ q_1 < ((ix t_3 p_1).length : Int)) (
  G ((q_1).toNat < (ix t_3 p_1).length) (
  G (fits (q_1 + (1 : Int))) (
  r18 true (q_1 + (1 : Int)) (t_3.set (p_1).toNat ((ix t_3 p_1).set (q_1).toNat false))))))) else
  G (fits (q_1 + (1 : Int))) (
  r18 again_2 (q_1 + (1 : Int)) t_3)
noncomputable def r20_Table_J22 (p_1 : Int) (again_2 : Bool) (q_1 : Int) (t_3 : (List (List Bool))) (r18 : (Bool → Int → (List (List Bool)) → Option (List (List Bool)))) (y' : Bool) (t_4 : Bool) : Option (List (List Bool)) :=
  if t_4 = true then
  G (0 ≤ q_1 ∧ q_1 < (t_3.length : Int)) (
  G ((q_1).toNat < t_3.length) (
  G (0 ≤ p_1 ∧ p_1 < ((ix t_3 q_1).length : Int)) (
  G ((p_1).toNat < (ix t_3 q_1).length) (
  r20_Table_J23 p_1 again_2 q_1 t_3 r18 (ix (ix t_3 q_1) p_1))))) else
  r20_Table_J23 p_1 again_2 q_1 t_3 r18 y'
noncomputable def r20_Table_L18_B (g' : Tp5) (both' : Bool) (p_1 : Int) (r15 : (Bool → Int → (List (List Bool)) → Option (List (List Bool)))) (r18 : Bool → Int → (List (List Bool)) → Option (List (List Bool))) (again_2 : Bool) (q_1 : Int) (t_3 : (List (List Bool))) : Option (List (List Bool)) :=
  if (decide (q_1 < g'.2.1)) = true then
  G (0 ≤ p_1 ∧ p_1 < (t_3.length : Int)) (
  G ((p_1).toNat < t_3.length) (
  G (0 ≤ q_1 ∧ q_1 < ((ix t_3 p_1).length : Int)) (
  G ((q_1).toNat < (ix t_3 p_1).length) (
  if (!(ix (ix t_3 p_1) q_1)) = true then
  G (fits (q_1 + (1 : Int))) (
  r18 again_2 (q_1 + (1 : Int)) t_3) else
  (r20_Answers (g'.1, (g'.2.1, (g'.2.2.1, ()))) t_3 p_1 q_1).bind (fun y' =>
  if both' = true then
  r20_Table_J22 p_1 again_2 q_1 t_3 r18 y' y' else
  r20_Table_J22 p_1 again_2 q_1 t_3 r18 y' false))))) else
  G (fits (p_1 + (1 : Int))) (
  r15 again_2 (p_1 + (1 : Int)) t_3)
noncomputable def r20_Table_L18_F (g' : Tp5) (both' : Bool) (p_1 : Int) (r15 : (Bool → Int → (List (List Bool)) → Option (List (List Bool)))) : (Bool × Int × (List (List Bool)) → Option (List (List Bool))) → Bool × Int × (List (List Bool)) → Option (List (List Bool)) :=
  fun rec x => r20_Table_L18_B g' both' p_1 r15 (fun again_2 q_1 t_3 => rec (again_2, q_1, t_3)) x.1 x.2.1 x.2.2
noncomputable def r20_Table_L18 (g' : Tp5) (both' : Bool) (p_1 : Int) (r15 : (Bool → Int → (List (List Bool)) → Option (List (List Bool)))) (again_2 : Bool) (q_1 : Int) (t_3 : (List (List Bool))) : Option (List (List Bool)) := LFix (r20_Table_L18_F g' both' p_1 r15 ) (again_2, q_1, t_3)
noncomputable def r20_Table_L15_B (g' : Tp5) (both' : Bool) (r12 : (Bool → (List (List Bool)) → Option (List (List Bool)))) (r15 : Bool → Int → (List (List Bool)) → Option (List (List Bool))) (again_1 : Bool) (p_1 : Int) (t_2 : (List (List Bool))) : Option (List (List Bool)) :=
  if (decide (p_1 < g'.2.1)) = true then
  r20_Table_L18 g' both' p_1 r15 again_1 (0 : Int) t_2 else
  r12 again_1 t_2
noncomputable def r20_Table_L15_F (g' : Tp5) (both' : Bool) (r12 : (Bool → (List (List Bool)) → Option (List (List Bool)))) : (Bool × Int × (List (List Bool)) → Option (List (List Bool))) → Bool × Int × (List (List Bool)) → Option (List (List Bool)) :=
  fun rec x => r20_Table_L15_B g' both' r12 (fun again_1 p_1 t_2 => rec (again_1, p_1, t_2)) x.1 x.2.1 x.2.2
noncomputable def r20_Table_L15 (g' : Tp5) (both' : Bool) (r12 : (Bool → (List (List Bool)) → Option (List (List Bool)))) (again_1 : Bool) (p_1 : Int) (t_2 : (List (List Bool))) : Option (List (List Bool)) := LFix (r20_Table_L15_F g' both' r12 ) (again_1, p_1, t_2)
noncomputable def r20_Table_L12_B (g' : Tp5) (both' : Bool) (r12 : Bool → (List (List Bool)) → Option (List (List Bool))) (again : Bool) (t_1 : (List (List Bool))) : Option (List (List Bool)) :=
  if again = true then
  r20_Table_L15 g' both' r12 false (0 : Int) t_1 else
  some t_1
noncomputable def r20_Table_L12_F (g' : Tp5) (both' : Bool) : (Bool × (List (List Bool)) → Option (List (List Bool))) → Bool × (List (List Bool)) → Option (List (List Bool)) :=
  fun rec x => r20_Table_L12_B g' both' (fun again t_1 => rec (again, t_1)) x.1 x.2
noncomputable def r20_Table_L12 (g' : Tp5) (both' : Bool) (again : Bool) (t_1 : (List (List Bool))) : Option (List (List Bool)) := LFix (r20_Table_L12_F g' both' ) (again, t_1)
noncomputable def r20_Table_L3_B (g' : Tp5) (both' : Bool) (r3 : Int → (List (List Bool)) → Option (List (List Bool))) (p : Int) (t : (List (List Bool))) : Option (List (List Bool)) :=
  if (decide (p < g'.2.1)) = true then
  G (mkOK g'.2.1 g'.2.1 1) (
  r20_Table_L7 g' p t r3 (0 : Int) (List.replicate (g'.2.1).toNat (false : Bool))) else
  r20_Table_L12 g' both' true t
noncomputable def r20_Table_L3_F (g' : Tp5) (both' : Bool) : (Int × (List (List Bool)) → Option (List (List Bool))) → Int × (List (List Bool)) → Option (List (List Bool)) :=
  fun rec x => r20_Table_L3_B g' both' (fun p t => rec (p, t)) x.1 x.2
noncomputable def r20_Table_L3 (g' : Tp5) (both' : Bool) (p : Int) (t : (List (List Bool))) : Option (List (List Bool)) := LFix (r20_Table_L3_F g' both' ) (p, t)
noncomputable def r20_Table (g' : Tp5) (both' : Bool) : Option (List (List Bool)) :=
  r20_Table_L3 g' both' (0 : Int) ([])
theorem r20_Table_L7_B_ch (r3 : Nat → Int → (List (List Bool)) → Option (List (List Bool))) (r3' : Int → (List (List Bool)) → Option (List (List Bool))) (h_r3 : ∀ a0 a1, ChO (fun κ => r3 κ a0 a1) (r3' a0 a1)) (r7 : Nat → Int → (List Bool) → Option (List (List Bool))) (r7' : Int → (List Bool) → Option (List (List Bool))) (h_r7 : ∀ a0 a1, ChO (fun κ => r7 κ a0 a1) (r7' a0 a1)) (g' : Tp5) (p : Int) (t : (List (List Bool))) (q : Int) (r : (List Bool)) : ChO (fun κ => r20_Table_L7_B g' p t (r3 κ) (r7 κ) q r) (r20_Table_L7_B g' p t r3' r7' q r) := by
  unfold r20_Table_L7_B
  repeat' with_reducible first | exact ChO.const _ | exact h_r3 _ _ | exact h_r7 _ _ | apply ChO.ite | apply ChO.G | apply ChO.both | (apply ChO.bind; intro _)
theorem r20_Table_L7_cn (r3 : Int → (List (List Bool)) → Option (List (List Bool))) (g' : Tp5) (p : Int) (t : (List (List Bool))) : Cn (r20_Table_L7_F g' p t r3) := fun g h hg x => r20_Table_L7_B_ch (fun _ => r3) r3 (fun _ _ => ChO.const _) (fun κ q r => g κ (q, r)) (fun q r => h (q, r)) (fun q r => hg (q, r)) g' p t x.1 x.2
theorem r20_Table_L7_eq (r3 : Int → (List (List Bool)) → Option (List (List Bool))) (g' : Tp5) (p : Int) (t : (List (List Bool))) (q : Int) (r : (List Bool)) : r20_Table_L7 g' p t r3 q r = r20_Table_L7_B g' p t r3 (r20_Table_L7 g' p t r3) q r := LFix_eq (r20_Table_L7_cn r3 g' p t) (q, r)
theorem r20_Table_L7_ch (r3 : Nat → Int → (List (List Bool)) → Option (List (List Bool))) (r3' : Int → (List (List Bool)) → Option (List (List Bool))) (h_r3 : ∀ a0 a1, ChO (fun κ => r3 κ a0 a1) (r3' a0 a1)) (g' : Tp5) (p : Int) (t : (List (List Bool))) (q : Int) (r : (List Bool)) : ChO (fun κ => r20_Table_L7 g' p t (r3 κ) q r) (r20_Table_L7 g' p t r3' q r) := by
  unfold r20_Table_L7
  exact LFix_ch (fun κ => (r20_Table_L7_cn (r3 κ) g' p t).mono) (r20_Table_L7_cn r3' g' p t).mono (fun g h hg x => r20_Table_L7_B_ch r3 r3' h_r3 (fun κ q r => g κ (q, r)) (fun q r => h (q, r)) (fun q r => hg (q, r)) g' p t x.1 x.2) _
theorem r20_Table_J23_ch (r18 : Nat → Bool → Int → (List (List Bool)) → Option (List (List Bool))) (r18' : Bool → Int → (List (List Bool)) → Option (List (List Bool))) (h_r18 : ∀ a0 a1 a2, ChO (fun κ => r18 κ a0 a1 a2) (r18' a0 a1 a2)) (p_1 : Int) (again_2 : Bool) (q_1 : Int) (t_3 : (List (List Bool))) (ok : Bool) : ChO (fun κ => r20_Table_J23 p_1 again_2 q_1 t_3 (r18 κ) ok) (r20_Table_J23 p_1 again_2 q_1 t_3 r18' ok) := by
  unfold r20_Table_J23
  repeat' with_reducible first | exact ChO.const _ | exact h_r18 _ _ _ | (apply r20_Table_L7_ch <;> assumption) | apply ChO.ite | apply ChO.G | apply ChO.both | (apply ChO.bind; intro _)
theorem r20_Table_J22_ch (r18 : Nat → Bool → Int → (List (List Bool)) → Option (List (List Bool))) (r18' : Bool → Int → (List (List Bool)) → Option (List (List Bool))) (h_r18 : ∀ a0 a1 a2, ChO (fun κ => r18 κ a0 a1 a2) (r18' a0 a1 a2)) (p_1 : Int) (again_2 : Bool) (q_1 : Int) (t_3 : (List (List Bool))) (y' : Bool) (t_4 : Bool) : ChO (fun κ => r20_Table_J22 p_1 again_2 q_1 t_3 (r18 κ) y' t_4) (r20_Table_J22 p_1 again_2 q_1 t_3 r18' y' t_4) := by
  unfold r20_Table_J22
  repeat' with_reducible first | exact ChO.const _ | exact h_r18 _ _ _ | (apply r20_Table_L7_ch <;> assumption) | (apply r20_Table_J23_ch <;> assumption) | apply ChO.ite | apply ChO.G | apply ChO.both | (apply ChO.bind; intro _)
theorem r20_Table_L18_B_ch (r15 : Nat → Bool → Int → (List (List Bool)) → Option (List (List Bool))) (r15' : Bool → Int → (List (List Bool)) → Option (List (List Bool))) (h_r15 : ∀ a0 a1 a2, ChO (fun κ => r15 κ a0 a1 a2) (r15' a0 a1 a2)) (r18 : Nat → Bool → Int → (List (List Bool)) → Option (List (List Bool))) (r18' : Bool → Int → (List (List Bool)) → Option (List (List Bool))) (h_r18 : ∀ a0 a1 a2, ChO (fun κ => r18 κ a0 a1 a2) (r18' a0 a1 a2)) (g' : Tp5) (both' : Bool) (p_1 : Int) (again_2 : Bool) (q_1 : Int) (t_3 : (List (List Bool))) : ChO (fun κ => r20_Table_L18_B g' both' p_1 (r15 κ) (r18 κ) again_2 q_1 t_3) (r20_Table_L18_B g' both' p_1 r15' r18' again_2 q_1 t_3) := by
  unfold r20_Table_L18_B
  repeat' with_reducible first | exact ChO.const _ | exact h_r15 _ _ _ | exact h_r18 _ _ _ | (apply r20_Table_L7_ch <;> assumption) | (apply r20_Table_J23_ch <;> assumption) | (apply r20_Table_J22_ch <;> assumption) | apply ChO.ite | apply ChO.G | apply ChO.both | (apply ChO.bind; intro _)
theorem r20_Table_L18_cn (r15 : Bool → Int → (List (List Bool)) → Option (List (List Bool))) (g' : Tp5) (both' : Bool) (p_1 : Int) : Cn (r20_Table_L18_F g' both' p_1 r15) := fun g h hg x => r20_Table_L18_B_ch (fun _ => r15) r15 (fun _ _ _ => ChO.const _) (fun κ again_2 q_1 t_3 => g κ (again_2, q_1, t_3)) (fun again_2 q_1 t_3 => h (again_2, q_1, t_3)) (fun again_2 q_1 t_3 => hg (again_2, q_1, t_3)) g' both' p_1 x.1 x.2.1 x.2.2
theorem r20_Table_L18_eq (r15 : Bool → Int → (List (List Bool)) → Option (List (List Bool))) (g' : Tp5) (both' : Bool) (p_1 : Int) (again_2 : Bool) (q_1 : Int) (t_3 : (List (List Bool))) : r20_Table_L18 g' both' p_1 r15 again_2 q_1 t_3 = r20_Table_L18_B g' both' p_1 r15 (r20_Table_L18 g' both' p_1 r15) again_2 q_1 t_3 := LFix_eq (r20_Table_L18_cn r15 g' both' p_1) (again_2, q_1, t_3)
theorem r20_Table_L18_ch (r15 : Nat → Bool → Int → (List (List Bool)) → Option (List (List Bool))) (r15' : Bool → Int → (List (List Bool)) → Option (List (List Bool))) (h_r15 : ∀ a0 a1 a2, ChO (fun κ => r15 κ a0 a1 a2) (r15' a0 a1 a2)) (g' : Tp5) (both' : Bool) (p_1 : Int) (again_2 : Bool) (q_1 : Int) (t_3 : (List (List Bool))) : ChO (fun κ => r20_Table_L18 g' both' p_1 (r15 κ) again_2 q_1 t_3) (r20_Table_L18 g' both' p_1 r15' again_2 q_1 t_3) := by
  unfold r20_Table_L18
  exact LFix_ch (fun κ => (r20_Table_L18_cn (r15 κ) g' both' p_1).mono) (r20_Table_L18_cn r15' g' both' p_1).mono (fun g h hg x => r20_Table_L18_B_ch r15 r15' h_r15 (fun κ again_2 q_1 t_3 => g κ (again_2, q_1, t_3)) (fun again_2 q_1 t_3 => h (again_2, q_1, t_3)) (fun again_2 q_1 t_3 => hg (again_2, q_1, t_3)) g' both' p_1 x.1 x.2.1 x.2.2) _
theorem r20_Table_L15_B_ch (r12 : Nat → Bool → (List (List Bool)) → Option (List (List Bool))) (r12' : Bool → (List (List Bool)) → Option (List (List Bool))) (h_r12 : ∀ a0 a1, ChO (fun κ => r12 κ a0 a1) (r12' a0 a1)) (r15 : Nat → Bool → Int → (List (List Bool)) → Option (List (List Bool))) (r15' : Bool → Int → (List (List Bool)) → Option (List (List Bool))) (h_r15 : ∀ a0 a1 a2, ChO (fun κ => r15 κ a0 a1 a2) (r15' a0 a1 a2)) (g' : Tp5) (both' : Bool) (again_1 : Bool) (p_1 : Int) (t_2 : (List (List Bool))) : ChO (fun κ => r20_Table_L15_B g' both' (r12 κ) (r15 κ) again_1 p_1 t_2) (r20_Table_L15_B g' both' r12' r15' again_1 p_1 t_2) := by
  unfold r20_Table_L15_B
  repeat' with_reducible first | exact ChO.const _ | exact h_r12 _ _ | exact h_r15 _ _ _ | (apply r20_Table_L7_ch <;> assumption) | (apply r20_Table_J23_ch <;> assumption) | (apply r20_Table_J22_ch <;> assumption) | (apply r20_Table_L18_ch <;> assumption) | apply ChO.ite | apply ChO.G | apply ChO.both | (apply ChO.bind; intro _)
theorem r20_Table_L15_cn (r12 : Bool → (List (List Bool)) → Option (List (List Bool))) (g' : Tp5) (both' : Bool) : Cn (r20_Table_L15_F g' both' r12) := fun g h hg x => r20_Table_L15_B_ch (fun _ => r12) r12 (fun _ _ => ChO.const _) (fun κ again_1 p_1 t_2 => g κ (again_1, p_1, t_2)) (fun again_1 p_1 t_2 => h (again_1, p_1, t_2)) (fun again_1 p_1 t_2 => hg (again_1, p_1, t_2)) g' both' x.1 x.2.1 x.2.2
theorem r20_Table_L15_eq (r12 : Bool → (List (List Bool)) → Option (List (List Bool))) (g' : Tp5) (both' : Bool) (again_1 : Bool) (p_1 : Int) (t_2 : (List (List Bool))) : r20_Table_L15 g' both' r12 again_1 p_1 t_2 = r20_Table_L15_B g' both' r12 (r20_Table_L15 g' both' r12) again_1 p_1 t_2 := LFix_eq (r20_Table_L15_cn r12 g' both') (again_1, p_1, t_2)
theorem r20_Table_L15_ch (r12 : Nat → Bool → (List (List Bool)) → Option (List (List Bool))) (r12' : Bool → (List (List Bool)) → Option (List (List Bool))) (h_r12 : ∀ a0 a1, ChO (fun κ => r12 κ a0 a1) (r12' a0 a1)) (g' : Tp5) (both' : Bool) (again_1 : Bool) (p_1 : Int) (t_2 : (List (List Bool))) : ChO (fun κ => r20_Table_L15 g' both' (r12 κ) again_1 p_1 t_2) (r20_Table_L15 g' both' r12' again_1 p_1 t_2) := by
  unfold r20_Table_L15
  exact LFix_ch (fun κ => (r20_Table_L15_cn (r12 κ) g' both').mono) (r20_Table_L15_cn r12' g' both').mono (fun g h hg x => r20_Table_L15_B_ch r12 r12' h_r12 (fun κ again_1 p_1 t_2 => g κ (again_1, p_1, t_2)) (fun again_1 p_1 t_2 => h (again_1, p_1, t_2)) (fun again_1 p_1 t_2 => hg (again_1, p_1, t_2)) g' both' x.1 x.2.1 x.2.2) _
theorem r20_Table_L12_B_ch (r12 : Nat → Bool → (List (List Bool)) → Option (List (List Bool))) (r12' : Bool → (List (List Bool)) → Option (List (List Bool))) (h_r12 : ∀ a0 a1, ChO (fun κ => r12 κ a0 a1) (r12' a0 a1)) (g' : Tp5) (both' : Bool) (again : Bool) (t_1 : (List (List Bool))) : ChO (fun κ => r20_Table_L12_B g' both' (r12 κ) again t_1) (r20_Table_L12_B g' both' r12' again t_1) := by
  unfold r20_Table_L12_B
  repeat' with_reducible first | exact ChO.const _ | exact h_r12 _ _ | (apply r20_Table_L7_ch <;> assumption) | (apply r20_Table_J23_ch <;> assumption) | (apply r20_Table_J22_ch <;> assumption) | (apply r20_Table_L18_ch <;> assumption) | (apply r20_Table_L15_ch <;> assumption) | apply ChO.ite | apply ChO.G | apply ChO.both | (apply ChO.bind; intro _)
theorem r20_Table_L12_cn  (g' : Tp5) (both' : Bool) : Cn (r20_Table_L12_F g' both') := fun g h hg x => r20_Table_L12_B_ch  (fun κ again t_1 => g κ (again, t_1)) (fun again t_1 => h (again, t_1)) (fun again t_1 => hg (again, t_1)) g' both' x.1 x.2
theorem r20_Table_L12_eq  (g' : Tp5) (both' : Bool) (again : Bool) (t_1 : (List (List Bool))) : r20_Table_L12 g' both' again t_1 = r20_Table_L12_B g' both' (r20_Table_L12 g' both') again t_1 := LFix_eq (r20_Table_L12_cn g' both') (again, t_1)
theorem r20_Table_L3_B_ch (r3 : Nat → Int → (List (List Bool)) → Option (List (List Bool))) (r3' : Int → (List (List Bool)) → Option (List (List Bool))) (h_r3 : ∀ a0 a1, ChO (fun κ => r3 κ a0 a1) (r3' a0 a1)) (g' : Tp5) (both' : Bool) (p : Int) (t : (List (List Bool))) : ChO (fun κ => r20_Table_L3_B g' both' (r3 κ) p t) (r20_Table_L3_B g' both' r3' p t) := by
  unfold r20_Table_L3_B
  repeat' with_reducible first | exact ChO.const _ | exact h_r3 _ _ | (apply r20_Table_L7_ch <;> assumption) | (apply r20_Table_J23_ch <;> assumption) | (apply r20_Table_J22_ch <;> assumption) | (apply r20_Table_L18_ch <;> assumption) | (apply r20_Table_L15_ch <;> assumption) | apply ChO.ite | apply ChO.G | apply ChO.both | (apply ChO.bind; intro _)
theorem r20_Table_L3_cn  (g' : Tp5) (both' : Bool) : Cn (r20_Table_L3_F g' both') := fun g h hg x => r20_Table_L3_B_ch  (fun κ p t => g κ (p, t)) (fun p t => h (p, t)) (fun p t => hg (p, t)) g' both' x.1 x.2
theorem r20_Table_L3_eq  (g' : Tp5) (both' : Bool) (p : Int) (t : (List (List Bool))) : r20_Table_L3 g' both' p t = r20_Table_L3_B g' both' (r20_Table_L3 g' both') p t := LFix_eq (r20_Table_L3_cn g' both') (p, t)

noncomputable def r20_Classes_J10 (count : Int) (p : Int) (out : (List Int)) (r5 : (Int → Int → (List Int) → Option (List Int))) (k_1 : Int) : Option (List Int) :=
  if (decide (k_1 = count)) = true then
  G (fits (count + (1 : Int))) (
  G (room out ([k_1]) 8) (
  G (fits (p + (1 : Int))) (
  r5 (count + (1 : Int)) (p + (1 : Int)) (out ++ ([k_1]))))) else
  G (room out ([k_1]) 8) (
  G (fits (p + (1 : Int))) (
  r5 count (p + (1 : Int)) (out ++ ([k_1]))))
noncomputable def r20_Classes_L9_B (y' : (List (List Bool))) (count : Int) (p : Int) (out : (List Int)) (r5 : (Int → Int → (List Int) → Option (List Int))) (r9 : Int → Int → Option (List Int)) (k : Int) (q : Int) : Option (List Int) :=
  if (decide (q < p)) = true then
  G (0 ≤ p ∧ p < (y'.length : Int)) (
  G (0 ≤ q ∧ q < ((ix y' p).length : Int)) (
  if (ix (ix y' p) q) = true then
  G (0 ≤ q ∧ q < (out.length : Int)) (
  G ((q).toNat < out.length) (
  r20_Classes_J10 count p out r5 (ix out q))) else
  G (fits (q + (1 : Int))) (
  r9 k (q + (1 : Int))))) else
  r20_Classes_J10 count p out r5 k
noncomputable def r20_Classes_L9_F (y' : (List (List Bool))) (count : Int) (p : Int) (out : (List Int)) (r5 : (Int → Int → (List Int) → Option (List Int))) : (Int × Int → Option (List Int)) → Int × Int → Option (List Int) :=
  fun rec x => r20_Classes_L9_B y' count p out r5 (fun k q => rec (k, q)) x.1 x.2
noncomputable def r20_Classes_L9 (y' : (List (List Bool))) (count : Int) (p : Int) (out : (List Int)) (r5 : (Int → Int → (List Int) → Option (List Int))) (k : Int) (q : Int) : Option (List Int) := LFix (r20_Classes_L9_F y' count p out r5 ) (k, q)
noncomputable def r20_Classes_L5_B (g' : Tp5) (y' : (List (List Bool))) (r5 : Int → Int → (List Int) → Option (List Int)) (count : Int) (p : Int) (out : (List Int)) : Option (List Int) :=
  if (decide (p < g'.2.1)) = true then
  r20_Classes_L9 y' count p out r5 count (0 : Int) else
  some out
noncomputable def r20_Classes_L5_F (g' : Tp5) (y' : (List (List Bool))) : (Int × Int × (List Int) → Option (List Int)) → Int × Int × (List Int) → Option (List Int) :=
  fun rec x => r20_Classes_L5_B g' y' (fun count p out => rec (count, p, out)) x.1 x.2.1 x.2.2
noncomputable def r20_Classes_L5 (g' : Tp5) (y' : (List (List Bool))) (count : Int) (p : Int) (out : (List Int)) : Option (List Int) := LFix (r20_Classes_L5_F g' y' ) (count, p, out)
noncomputable def r20_Classes (g' : Tp5) : Option (List Int) :=
  (r20_Table (g'.1, (g'.2.1, (g'.2.2.1, ()))) true).bind (fun y' =>
  r20_Classes_L5 g' y' (0 : Int) (0 : Int) ([]))
theorem r20_Classes_J10_ch (r5 : Nat → Int → Int → (List Int) → Option (List Int)) (r5' : Int → Int → (List Int) → Option (List Int)) (h_r5 : ∀ a0 a1 a2, ChO (fun κ => r5 κ a0 a1 a2) (r5' a0 a1 a2)) (count : Int) (p : Int) (out : (List Int)) (k_1 : Int) : ChO (fun κ => r20_Classes_J10 count p out (r5 κ) k_1) (r20_Classes_J10 count p out r5' k_1) := by
  unfold r20_Classes_J10
  repeat' with_reducible first | exact ChO.const _ | exact h_r5 _ _ _ | apply ChO.ite | apply ChO.G | apply ChO.both | (apply ChO.bind; intro _)
theorem r20_Classes_L9_B_ch (r5 : Nat → Int → Int → (List Int) → Option (List Int)) (r5' : Int → Int → (List Int) → Option (List Int)) (h_r5 : ∀ a0 a1 a2, ChO (fun κ => r5 κ a0 a1 a2) (r5' a0 a1 a2)) (r9 : Nat → Int → Int → Option (List Int)) (r9' : Int → Int → Option (List Int)) (h_r9 : ∀ a0 a1, ChO (fun κ => r9 κ a0 a1) (r9' a0 a1)) (y' : (List (List Bool))) (count : Int) (p : Int) (out : (List Int)) (k : Int) (q : Int) : ChO (fun κ => r20_Classes_L9_B y' count p out (r5 κ) (r9 κ) k q) (r20_Classes_L9_B y' count p out r5' r9' k q) := by
  unfold r20_Classes_L9_B
  repeat' with_reducible first | exact ChO.const _ | exact h_r5 _ _ _ | exact h_r9 _ _ | (apply r20_Classes_J10_ch <;> assumption) | apply ChO.ite | apply ChO.G | apply ChO.both | (apply ChO.bind; intro _)
theorem r20_Classes_L9_cn (r5 : Int → Int → (List Int) → Option (List Int)) (y' : (List (List Bool))) (count : Int) (p : Int) (out : (List Int)) : Cn (r20_Classes_L9_F y' count p out r5) := fun g h hg x => r20_Classes_L9_B_ch (fun _ => r5) r5 (fun _ _ _ => ChO.const _) (fun κ k q => g κ (k, q)) (fun k q => h (k, q)) (fun k q => hg (k, q)) y' count p out x.1 x.2
theorem r20_Classes_L9_eq (r5 : Int → Int → (List Int) → Option (List Int)) (y' : (List (List Bool))) (count : Int) (p : Int) (out : (List Int)) (k : Int) (q : Int) : r20_Classes_L9 y' count p out r5 k q = r20_Classes_L9_B y' count p out r5 (r20_Classes_L9 y' count p out r5) k q := LFix_eq (r20_Classes_L9_cn r5 y' count p out) (k, q)
theorem r20_Classes_L9_ch (r5 : Nat → Int → Int → (List Int) → Option (List Int)) (r5' : Int → Int → (List Int) → Option (List Int)) (h_r5 : ∀ a0 a1 a2, ChO (fun κ => r5 κ a0 a1 a2) (r5' a0 a1 a2)) (y' : (List (List Bool))) (count : Int) (p : Int) (out : (List Int)) (k : Int) (q : Int) : ChO (fun κ => r20_Classes_L9 y' count p out (r5 κ) k q) (r20_Classes_L9 y' count p out r5' k q) := by
  unfold r20_Classes_L9
  exact LFix_ch (fun κ => (r20_Classes_L9_cn (r5 κ) y' count p out).mono) (r20_Classes_L9_cn r5' y' count p out).mono (fun g h hg x => r20_Classes_L9_B_ch r5 r5' h_r5 (fun κ k q => g κ (k, q)) (fun k q => h (k, q)) (fun k q => hg (k, q)) y' count p out x.1 x.2) _
theorem r20_Classes_L5_B_ch (r5 : Nat → Int → Int → (List Int) → Option (List Int)) (r5' : Int → Int → (List Int) → Option (List Int)) (h_r5 : ∀ a0 a1 a2, ChO (fun κ => r5 κ a0 a1 a2) (r5' a0 a1 a2)) (g' : Tp5) (y' : (List (List Bool))) (count : Int) (p : Int) (out : (List Int)) : ChO (fun κ => r20_Classes_L5_B g' y' (r5 κ) count p out) (r20_Classes_L5_B g' y' r5' count p out) := by
  unfold r20_Classes_L5_B
  repeat' with_reducible first | exact ChO.const _ | exact h_r5 _ _ _ | (apply r20_Classes_J10_ch <;> assumption) | (apply r20_Classes_L9_ch <;> assumption) | apply ChO.ite | apply ChO.G | apply ChO.both | (apply ChO.bind; intro _)
theorem r20_Classes_L5_cn  (g' : Tp5) (y' : (List (List Bool))) : Cn (r20_Classes_L5_F g' y') := fun g h hg x => r20_Classes_L5_B_ch  (fun κ count p out => g κ (count, p, out)) (fun count p out => h (count, p, out)) (fun count p out => hg (count, p, out)) g' y' x.1 x.2.1 x.2.2
theorem r20_Classes_L5_eq  (g' : Tp5) (y' : (List (List Bool))) (count : Int) (p : Int) (out : (List Int)) : r20_Classes_L5 g' y' count p out = r20_Classes_L5_B g' y' (r20_Classes_L5 g' y') count p out := LFix_eq (r20_Classes_L5_cn g' y') (count, p, out)

noncomputable def r20_Saying_J17 (l : Tp6) (i : Int) (r4 : (Int → Option (Int))) (a : Int) (b : Int) (c : Int) : Option (Int) :=
  if (decide (((((ix l i).2).2).1) < (0 : Int))) = true then
  some (2 : Int) else
  if (decide (a ≤ ((((ix l i).2).2).1))) = true then
  some (2 : Int) else
  if (decide ((((((ix l i).2).2).2).1) < (0 : Int))) = true then
  some (2 : Int) else
  if (decide (b ≤ (((((ix l i).2).2).2).1))) = true then
  some (2 : Int) else
  if (decide ((((ix l i).2).1) < (0 : Int))) = true then
  some (2 : Int) else
  if (decide (c ≤ (((ix l i).2).1))) = true then
  some (2 : Int) else
  G (fits (i + (1 : Int))) (
  r4 (i + (1 : Int)))
noncomputable def r20_Saying_J14 (l : Tp6) (i : Int) (r4 : (Int → Option (Int))) (a : Int) (b : Int) : Option (Int) :=
  if (decide (((ix l i).1) = (2 : Int))) = true then
  r20_Saying_J17 l i r4 a b (4 : Int) else
  r20_Saying_J17 l i r4 a b (1 : Int)
noncomputable def r20_Saying_J11 (l : Tp6) (i : Int) (r4 : (Int → Option (Int))) (a : Int) : Option (Int) :=
  if (decide (((ix l i).1) = (3 : Int))) = true then
  r20_Saying_J14 l i r4 a i else
  r20_Saying_J14 l i r4 a (1 : Int)
noncomputable def r20_Saying_L4_B (l : Tp6) (r4 : Int → Option (Int)) (i : Int) : Option (Int) :=
  if (decide (i < (l.length : Int))) = true then
  G (0 ≤ i ∧ i < (l.length : Int)) (
  if (decide (((ix l i).1) < (0 : Int))) = true then
  some (3 : Int) else
  if (decide ((3 : Int) < ((ix l i).1))) = true then
  some (3 : Int) else
  if (decide ((0 : Int) < ((ix l i).1))) = true then
  r20_Saying_J11 l i r4 i else
  r20_Saying_J11 l i r4 (1 : Int)) else
  some (0 : Int)
noncomputable def r20_Saying_L4_F (l : Tp6) : (Int → Option (Int)) → Int → Option (Int) :=
  fun rec x => r20_Saying_L4_B l (fun i => rec i) x
noncomputable def r20_Saying_L4 (l : Tp6) (i : Int) : Option (Int) := LFix (r20_Saying_L4_F l ) i
noncomputable def r20_Saying (l : Tp6) : Option (Int) :=
  if (decide ((l.length : Int) < (1 : Int))) = true then
  some (1 : Int) else
  if (decide ((3000 : Int) < (l.length : Int))) = true then
  some (1 : Int) else
  r20_Saying_L4 l (0 : Int)
theorem r20_Saying_J17_ch (r4 : Nat → Int → Option (Int)) (r4' : Int → Option (Int)) (h_r4 : ∀ a0, ChO (fun κ => r4 κ a0) (r4' a0)) (l : Tp6) (i : Int) (a : Int) (b : Int) (c : Int) : ChO (fun κ => r20_Saying_J17 l i (r4 κ) a b c) (r20_Saying_J17 l i r4' a b c) := by
  unfold r20_Saying_J17
  repeat' with_reducible first | exact ChO.const _ | exact h_r4 _ | apply ChO.ite | apply ChO.G | apply ChO.both | (apply ChO.bind; intro _)
theorem r20_Saying_J14_ch (r4 : Nat → Int → Option (Int)) (r4' : Int → Option (Int)) (h_r4 : ∀ a0, ChO (fun κ => r4 κ a0) (r4' a0)) (l : Tp6) (i : Int) (a : Int) (b : Int) : ChO (fun κ => r20_Saying_J14 l i (r4 κ) a b) (r20_Saying_J14 l i r4' a b) := by
  unfold r20_Saying_J14
  repeat' with_reducible first | exact ChO.const _ | exact h_r4 _ | (apply r20_Saying_J17_ch <;> assumption) | apply ChO.ite | apply ChO.G | apply ChO.both | (apply ChO.bind; intro _)
theorem r20_Saying_J11_ch (r4 : Nat → Int → Option (Int)) (r4' : Int → Option (Int)) (h_r4 : ∀ a0, ChO (fun κ => r4 κ a0) (r4' a0)) (l : Tp6) (i : Int) (a : Int) : ChO (fun κ => r20_Saying_J11 l i (r4 κ) a) (r20_Saying_J11 l i r4' a) := by
  unfold r20_Saying_J11
  repeat' with_reducible first | exact ChO.const _ | exact h_r4 _ | (apply r20_Saying_J17_ch <;> assumption) | (apply r20_Saying_J14_ch <;> assumption) | apply ChO.ite | apply ChO.G | apply ChO.both | (apply ChO.bind; intro _)
theorem r20_Saying_L4_B_ch (r4 : Nat → Int → Option (Int)) (r4' : Int → Option (Int)) (h_r4 : ∀ a0, ChO (fun κ => r4 κ a0) (r4' a0)) (l : Tp6) (i : Int) : ChO (fun κ => r20_Saying_L4_B l (r4 κ) i) (r20_Saying_L4_B l r4' i) := by
  unfold r20_Saying_L4_B
  repeat' with_reducible first | exact ChO.const _ | exact h_r4 _ | (apply r20_Saying_J17_ch <;> assumption) | (apply r20_Saying_J14_ch <;> assumption) | (apply r20_Saying_J11_ch <;> assumption) | apply ChO.ite | apply ChO.G | apply ChO.both | (apply ChO.bind; intro _)
theorem r20_Saying_L4_cn  (l : Tp6) : Cn (r20_Saying_L4_F l) := fun g h hg x => r20_Saying_L4_B_ch  (fun κ i => g κ i) (fun i => h i) (fun i => hg i) l x
theorem r20_Saying_L4_eq  (l : Tp6) (i : Int) : r20_Saying_L4 l i = r20_Saying_L4_B l (r20_Saying_L4 l) i := LFix_eq (r20_Saying_L4_cn l) i

noncomputable def r20_Holds_J21 (g' : Tp5) (k : Int) (is'_1 : (List Bool)) (r18 : (Int → (List Bool) → Option (List Bool))) (t : Bool) : Option (List Bool) :=
  if t = true then
  G (0 ≤ (ix g'.2.2.1 k).1 ∧ (ix g'.2.2.1 k).1 < (is'_1.length : Int)) (
  G (((ix g'.2.2.1 k).1).toNat < is'_1.length) (
  G (fits (k + (1 : Int))) (
  r18 (k + (1 : Int)) (is'_1.set ((ix g'.2.2.1 k).1).toNat true)))) else
  G (fits (k + (1 : Int))) (
  r18 (k + (1 : Int)) is'_1)
noncomputable def r20_Holds_L18_B (g' : Tp5) (l : Tp6) (i : Int) (all' : (List (List Bool))) (r3 : (Int → (List (List Bool)) → Option (List Bool))) (r18 : Int → (List Bool) → Option (List Bool)) (k : Int) (is'_1 : (List Bool)) : Option (List Bool) :=
  if (decide (k < (g'.2.2.1.length : Int))) = true then
  G (0 ≤ k ∧ k < (g'.2.2.1.length : Int)) (
  if (decide (((ix l i).1) = (2 : Int))) = true then
  if (decide ((((ix g'.2.2.1 k).2).1) = (((ix l i).2).1))) = true then
  G (0 ≤ (((ix l i).2).2).1 ∧ (((ix l i).2).2).1 < (all'.length : Int)) (
  G (((((ix l i).2).2).1).toNat < all'.length) (
  G (0 ≤ (((ix g'.2.2.1 k).2).2).1 ∧ (((ix g'.2.2.1 k).2).2).1 < ((ix all' ((((ix l i).2).2).1)).length : Int)) (
  r20_Holds_J21 g' k is'_1 r18 (ix (ix all' ((((ix l i).2).2).1)) ((((ix g'.2.2.1 k).2).2).1))))) else
  r20_Holds_J21 g' k is'_1 r18 false else
  r20_Holds_J21 g' k is'_1 r18 false) else
  G (room all' ([is'_1]) 24) (
  G (fits (i + (1 : Int))) (
  r3 (i + (1 : Int)) (all' ++ ([is'_1]))))
noncomputable def r20_Holds_L18_F (g' : Tp5) (l : Tp6) (i : Int) (all' : (List (List Bool))) (r3 : (Int → (List (List Bool)) → Option (List Bool))) : (Int × (List Bool) → Option (List Bool)) → Int × (List Bool) → Option (List Bool) :=
  fun rec x => r20_Holds_L18_B g' l i all' r3 (fun k is'_1 => rec (k, is'_1)) x.1 x.2
noncomputable def r20_Holds_L18 (g' : Tp5) (l : Tp6) (i : Int) (all' : (List (List Bool))) (r3 : (Int → (List (List Bool)) → Option (List Bool))) (k : Int) (is'_1 : (List Bool)) : Option (List Bool) := LFix (r20_Holds_L18_F g' l i all' r3 ) (k, is'_1)
noncomputable def r20_Holds_L8_B (g' : Tp5) (l : Tp6) (i : Int) (all' : (List (List Bool))) (r3 : (Int → (List (List Bool)) → Option (List Bool))) (r8 : Int → (List Bool) → Option (List Bool)) (p : Int) (is' : (List Bool)) : Option (List Bool) :=
  if (decide (p < g'.2.1)) = true then
  if (decide (((ix l i).1) = (0 : Int))) = true then
  G (0 ≤ p ∧ p < (is'.length : Int)) (
  G ((p).toNat < is'.length) (
  G (fits (p + (1 : Int))) (
  r8 (p + (1 : Int)) (is'.set (p).toNat true)))) else
  if (decide (((ix l i).1) = (1 : Int))) = true then
  G (0 ≤ (((ix l i).2).2).1 ∧ (((ix l i).2).2).1 < (all'.length : Int)) (
  G (((((ix l i).2).2).1).toNat < all'.length) (
  G (0 ≤ p ∧ p < ((ix all' ((((ix l i).2).2).1)).length : Int)) (
  G (0 ≤ p ∧ p < (is'.length : Int)) (
  G ((p).toNat < is'.length) (
  G (fits (p + (1 : Int))) (
  r8 (p + (1 : Int)) (is'.set (p).toNat (!(ix (ix all' ((((ix l i).2).2).1)) p))))))))) else
  if (decide (((ix l i).1) = (3 : Int))) = true then
  G (0 ≤ (((ix l i).2).2).1 ∧ (((ix l i).2).2).1 < (all'.length : Int)) (
  G (((((ix l i).2).2).1).toNat < all'.length) (
  G (0 ≤ p ∧ p < ((ix all' ((((ix l i).2).2).1)).length : Int)) (
  if (ix (ix all' ((((ix l i).2).2).1)) p) = true then
  G (0 ≤ ((((ix l i).2).2).2).1 ∧ ((((ix l i).2).2).2).1 < (all'.length : Int)) (
  G ((((((ix l i).2).2).2).1).toNat < all'.length) (
  G (0 ≤ p ∧ p < ((ix all' (((((ix l i).2).2).2).1)).length : Int)) (
  G (0 ≤ p ∧ p < (is'.length : Int)) (
  G ((p).toNat < is'.length) (
  G (fits (p + (1 : Int))) (
  r8 (p + (1 : Int)) (is'.set (p).toNat (ix (ix all' (((((ix l i).2).2).2).1)) p)))))))) else
  G (0 ≤ p ∧ p < (is'.length : Int)) (
  G ((p).toNat < is'.length) (
  G (fits (p + (1 : Int))) (
  r8 (p + (1 : Int)) (is'.set (p).toNat false))))))) else
  G (fits (p + (1 : Int))) (
  r8 (p + (1 : Int)) is') else
  r20_Holds_L18 g' l i all' r3 (0 : Int) is'
noncomputable def r20_Holds_L8_F (g' : Tp5) (l : Tp6) (i : Int) (all' : (List (List Bool))) (r3 : (Int → (List (List Bool)) → Option (List Bool))) : (Int × (List Bool) → Option (List Bool)) → Int × (List Bool) → Option (List Bool) :=
  fun rec x => r20_Holds_L8_B g' l i all' r3 (fun p is' => rec (p, is')) x.1 x.2
noncomputable def r20_Holds_L8 (g' : Tp5) (l : Tp6) (i : Int) (all' : (List (List Bool))) (r3 : (Int → (List (List Bool)) → Option (List Bool))) (p : Int) (is' : (List Bool)) : Option (List Bool) := LFix (r20_Holds_L8_F g' l i all' r3 ) (p, is')
noncomputable def r20_Holds_L3_B (g' : Tp5) (l : Tp6) (r3 : Int → (List (List Bool)) → Option (List Bool)) (i : Int) (all' : (List (List Bool))) : Option (List Bool) :=
  if (decide (i < (l.length : Int))) = true then
  G (0 ≤ i ∧ i < (l.length : Int)) (
  G (mkOK g'.2.1 g'.2.1 1) (
  r20_Holds_L8 g' l i all' r3 (0 : Int) (List.replicate (g'.2.1).toNat (false : Bool)))) else
  G (fits ((all'.length : Int) - (1 : Int))) (
  G (0 ≤ (all'.length : Int) - (1 : Int) ∧ (all'.length : Int) - (1 : Int) < (all'.length : Int)) (
  G (((all'.length : Int) - (1 : Int)).toNat < all'.length) (
  some (ix all' ((all'.length : Int) - (1 : Int))))))
noncomputable def r20_Holds_L3_F (g' : Tp5) (l : Tp6) : (Int × (List (List Bool)) → Option (List Bool)) → Int × (List (List Bool)) → Option (List Bool) :=
  fun rec x => r20_Holds_L3_B g' l (fun i all' => rec (i, all')) x.1 x.2
noncomputable def r20_Holds_L3 (g' : Tp5) (l : Tp6) (i : Int) (all' : (List (List Bool))) : Option (List Bool) := LFix (r20_Holds_L3_F g' l ) (i, all')
noncomputable def r20_Holds (g' : Tp5) (l : Tp6) : Option (List Bool) :=
  r20_Holds_L3 g' l (0 : Int) ([])
theorem r20_Holds_J21_ch (r18 : Nat → Int → (List Bool) → Option (List Bool)) (r18' : Int → (List Bool) → Option (List Bool)) (h_r18 : ∀ a0 a1, ChO (fun κ => r18 κ a0 a1) (r18' a0 a1)) (g' : Tp5) (k : Int) (is'_1 : (List Bool)) (t : Bool) : ChO (fun κ => r20_Holds_J21 g' k is'_1 (r18 κ) t) (r20_Holds_J21 g' k is'_1 r18' t) := by
  unfold r20_Holds_J21
  repeat' with_reducible first | exact ChO.const _ | exact h_r18 _ _ | apply ChO.ite | apply ChO.G | apply ChO.both | (apply ChO.bind; intro _)
theorem r20_Holds_L18_B_ch (r3 : Nat → Int → (List (List Bool)) → Option (List Bool)) (r3' : Int → (List (List Bool)) → Option (List Bool)) (h_r3 : ∀ a0 a1, ChO (fun κ => r3 κ a0 a1) (r3' a0 a1)) (r18 : Nat → Int → (List Bool) → Option (List Bool)) (r18' : Int → (List Bool) → Option (List Bool)) (h_r18 : ∀ a0 a1, ChO (fun κ => r18 κ a0 a1) (r18' a0 a1)) (g' : Tp5) (l : Tp6) (i : Int) (all' : (List (List Bool))) (k : Int) (is'_1 : (List Bool)) : ChO (fun κ => r20_Holds_L18_B g' l i all' (r3 κ) (r18 κ) k is'_1) (r20_Holds_L18_B g' l i all' r3' r18' k is'_1) := by
  unfold r20_Holds_L18_B
  repeat' with_reducible first | exact ChO.const _ | exact h_r3 _ _ | exact h_r18 _ _ | (apply r20_Holds_J21_ch <;> assumption) | apply ChO.ite | apply ChO.G | apply ChO.both | (apply ChO.bind; intro _)
theorem r20_Holds_L18_cn (r3 : Int → (List (List Bool)) → Option (List Bool)) (g' : Tp5) (l : Tp6) (i : Int) (all' : (List (List Bool))) : Cn (r20_Holds_L18_F g' l i all' r3) := fun g h hg x => r20_Holds_L18_B_ch (fun _ => r3) r3 (fun _ _ => ChO.const _) (fun κ k is'_1 => g κ (k, is'_1)) (fun k is'_1 => h (k, is'_1)) (fun k is'_1 => hg (k, is'_1)) g' l i all' x.1 x.2
theorem r20_Holds_L18_eq (r3 : Int → (List (List Bool)) → Option (List Bool)) (g' : Tp5) (l : Tp6) (i : Int) (all' : (List (List Bool))) (k : Int) (is'_1 : (List Bool)) : r20_Holds_L18 g' l i all' r3 k is'_1 = r20_Holds_L18_B g' l i all' r3 (r20_Holds_L18 g' l i all' r3) k is'_1 := LFix_eq (r20_Holds_L18_cn r3 g' l i all') (k, is'_1)
theorem r20_Holds_L18_ch (r3 : Nat → Int → (List (List Bool)) → Option (List Bool)) (r3' : Int → (List (List Bool)) → Option (List Bool)) (h_r3 : ∀ a0 a1, ChO (fun κ => r3 κ a0 a1) (r3' a0 a1)) (g' : Tp5) (l : Tp6) (i : Int) (all' : (List (List Bool))) (k : Int) (is'_1 : (List Bool)) : ChO (fun κ => r20_Holds_L18 g' l i all' (r3 κ) k is'_1) (r20_Holds_L18 g' l i all' r3' k is'_1) := by
  unfold r20_Holds_L18
  exact LFix_ch (fun κ => (r20_Holds_L18_cn (r3 κ) g' l i all').mono) (r20_Holds_L18_cn r3' g' l i all').mono (fun g h hg x => r20_Holds_L18_B_ch r3 r3' h_r3 (fun κ k is'_1 => g κ (k, is'_1)) (fun k is'_1 => h (k, is'_1)) (fun k is'_1 => hg (k, is'_1)) g' l i all' x.1 x.2) _
theorem r20_Holds_L8_B_ch (r3 : Nat → Int → (List (List Bool)) → Option (List Bool)) (r3' : Int → (List (List Bool)) → Option (List Bool)) (h_r3 : ∀ a0 a1, ChO (fun κ => r3 κ a0 a1) (r3' a0 a1)) (r8 : Nat → Int → (List Bool) → Option (List Bool)) (r8' : Int → (List Bool) → Option (List Bool)) (h_r8 : ∀ a0 a1, ChO (fun κ => r8 κ a0 a1) (r8' a0 a1)) (g' : Tp5) (l : Tp6) (i : Int) (all' : (List (List Bool))) (p : Int) (is' : (List Bool)) : ChO (fun κ => r20_Holds_L8_B g' l i all' (r3 κ) (r8 κ) p is') (r20_Holds_L8_B g' l i all' r3' r8' p is') := by
  unfold r20_Holds_L8_B
  repeat' with_reducible first | exact ChO.const _ | exact h_r3 _ _ | exact h_r8 _ _ | (apply r20_Holds_J21_ch <;> assumption) | (apply r20_Holds_L18_ch <;> assumption) | apply ChO.ite | apply ChO.G | apply ChO.both | (apply ChO.bind; intro _)
theorem r20_Holds_L8_cn (r3 : Int → (List (List Bool)) → Option (List Bool)) (g' : Tp5) (l : Tp6) (i : Int) (all' : (List (List Bool))) : Cn (r20_Holds_L8_F g' l i all' r3) := fun g h hg x => r20_Holds_L8_B_ch (fun _ => r3) r3 (fun _ _ => ChO.const _) (fun κ p is' => g κ (p, is')) (fun p is' => h (p, is')) (fun p is' => hg (p, is')) g' l i all' x.1 x.2
theorem r20_Holds_L8_eq (r3 : Int → (List (List Bool)) → Option (List Bool)) (g' : Tp5) (l : Tp6) (i : Int) (all' : (List (List Bool))) (p : Int) (is' : (List Bool)) : r20_Holds_L8 g' l i all' r3 p is' = r20_Holds_L8_B g' l i all' r3 (r20_Holds_L8 g' l i all' r3) p is' := LFix_eq (r20_Holds_L8_cn r3 g' l i all') (p, is')
theorem r20_Holds_L8_ch (r3 : Nat → Int → (List (List Bool)) → Option (List Bool)) (r3' : Int → (List (List Bool)) → Option (List Bool)) (h_r3 : ∀ a0 a1, ChO (fun κ => r3 κ a0 a1) (r3' a0 a1)) (g' : Tp5) (l : Tp6) (i : Int) (all' : (List (List Bool))) (p : Int) (is' : (List Bool)) : ChO (fun κ => r20_Holds_L8 g' l i all' (r3 κ) p is') (r20_Holds_L8 g' l i all' r3' p is') := by
  unfold r20_Holds_L8
  exact LFix_ch (fun κ => (r20_Holds_L8_cn (r3 κ) g' l i all').mono) (r20_Holds_L8_cn r3' g' l i all').mono (fun g h hg x => r20_Holds_L8_B_ch r3 r3' h_r3 (fun κ p is' => g κ (p, is')) (fun p is' => h (p, is')) (fun p is' => hg (p, is')) g' l i all' x.1 x.2) _
theorem r20_Holds_L3_B_ch (r3 : Nat → Int → (List (List Bool)) → Option (List Bool)) (r3' : Int → (List (List Bool)) → Option (List Bool)) (h_r3 : ∀ a0 a1, ChO (fun κ => r3 κ a0 a1) (r3' a0 a1)) (g' : Tp5) (l : Tp6) (i : Int) (all' : (List (List Bool))) : ChO (fun κ => r20_Holds_L3_B g' l (r3 κ) i all') (r20_Holds_L3_B g' l r3' i all') := by
  unfold r20_Holds_L3_B
  repeat' with_reducible first | exact ChO.const _ | exact h_r3 _ _ | (apply r20_Holds_J21_ch <;> assumption) | (apply r20_Holds_L18_ch <;> assumption) | (apply r20_Holds_L8_ch <;> assumption) | apply ChO.ite | apply ChO.G | apply ChO.both | (apply ChO.bind; intro _)
theorem r20_Holds_L3_cn  (g' : Tp5) (l : Tp6) : Cn (r20_Holds_L3_F g' l) := fun g h hg x => r20_Holds_L3_B_ch  (fun κ i all' => g κ (i, all')) (fun i all' => h (i, all')) (fun i all' => hg (i, all')) g' l x.1 x.2
theorem r20_Holds_L3_eq  (g' : Tp5) (l : Tp6) (i : Int) (all' : (List (List Bool))) : r20_Holds_L3 g' l i all' = r20_Holds_L3_B g' l (r20_Holds_L3 g' l) i all' := LFix_eq (r20_Holds_L3_cn g' l) (i, all')

noncomputable def law_SameTells_J4 (g' : Tp5) (p : Int) (q : Int) (any : Tp6) (y' : Bool) (y'_1 : Int) (y'_2 : Tp6) (no : Int) : Option (Bool) :=
  if (decide (¬ no = (0 : Int))) = true then
  if (decide (y'_1 = no)) = true then
  if (!y') = true then
  some (decide ((y'_2.length : Int) = (0 : Int))) else
  some false else
  some false else
  (r20_Classes (g'.1, (g'.2.1, (g'.2.2.1, ())))).bind (fun y'_5 =>
  if (decide (¬ y'_1 = (0 : Int))) = true then
  some false else
  G (0 ≤ p ∧ p < (y'_5.length : Int)) (
  G ((p).toNat < y'_5.length) (
  G (0 ≤ q ∧ q < (y'_5.length : Int)) (
  G ((q).toNat < y'_5.length) (
  if (decide (¬ y' = (decide (¬ (ix y'_5 p) = (ix y'_5 q))))) = true then
  some false else
  if y' = true then
  (r20_Saying y'_2).bind (fun y'_6 =>
  if (decide (¬ y'_6 = (0 : Int))) = true then
  some false else
  (r20_Holds (g'.1, (g'.2.1, (g'.2.2.1, ()))) y'_2).bind (fun y'_7 =>
  G (0 ≤ p ∧ p < (y'_7.length : Int)) (
  if (ix y'_7 p) = true then
  G (0 ≤ q ∧ q < (y'_7.length : Int)) (
  some (!(ix y'_7 q))) else
  some false))) else
  (r20_Saying any).bind (fun y'_8 =>
  if (decide (¬ y'_8 = (0 : Int))) = true then
  some (decide ((y'_2.length : Int) = (0 : Int))) else
  (r20_Holds (g'.1, (g'.2.1, (g'.2.2.1, ()))) any).bind (fun y'_9 =>
  if (decide ((y'_2.length : Int) = (0 : Int))) = true then
  G (0 ≤ p ∧ p < (y'_9.length : Int)) (
  G (0 ≤ q ∧ q < (y'_9.length : Int)) (
  some (decide ((ix y'_9 p) = (ix y'_9 q))))) else
  some false)))))))
noncomputable def law_SameTells_J3 (g' : Tp5) (p : Int) (q : Int) (any : Tp6) (y' : Bool) (y'_1 : Int) (y'_2 : Tp6) (y'_4 : Int) (t : Bool) : Option (Bool) :=
  if t = true then
  law_SameTells_J4 g' p q any y' y'_1 y'_2 (2 : Int) else
  law_SameTells_J4 g' p q any y' y'_1 y'_2 y'_4
noncomputable def law_SameTells (g' : Tp5) (p : Int) (q : Int) (any : Tp6) : Option (Bool) :=
  (same_Tell (g'.1, (g'.2.1, (g'.2.2.1, ()))) p q).bind (fun y'_10 =>
  (r20_Check (g'.1, (g'.2.1, (g'.2.2.1, ())))).bind (fun y'_4 =>
  if (decide (y'_4 = (0 : Int))) = true then
  if (decide (p < (0 : Int))) = true then
  law_SameTells_J3 g' p q any y'_10.1 y'_10.2.1 y'_10.2.2 y'_4 true else
  if (decide (g'.2.1 ≤ p)) = true then
  law_SameTells_J3 g' p q any y'_10.1 y'_10.2.1 y'_10.2.2 y'_4 true else
  if (decide (q < (0 : Int))) = true then
  law_SameTells_J3 g' p q any y'_10.1 y'_10.2.1 y'_10.2.2 y'_4 true else
  law_SameTells_J3 g' p q any y'_10.1 y'_10.2.1 y'_10.2.2 y'_4 (decide (g'.2.1 ≤ q)) else
  law_SameTells_J3 g' p q any y'_10.1 y'_10.2.1 y'_10.2.2 y'_4 false))

end Go.Proofs.Ytgfckoeoichfmaa.sameTellsW
