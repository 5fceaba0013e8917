/- What the functions that 'BuchiAccepts' reaches compute: plain functions. -/
import Derived.Test.YtfnmgnihlgpgpaaEv22n21
set_option maxHeartbeats 1000000
set_option maxRecDepth 20000
set_option linter.unusedSimpArgs false
set_option linter.unusedVariables false
set_option linter.unusedSectionVars false
namespace Go.Proofs.Ytfnmgnihlgpgpaa.buchiAcceptsW
open Go Go.Ab
abbrev Tp6 := (Int × Int × Int × Unit)
abbrev Tp5 := (List Tp6)
abbrev Tp4 := ((List Int) × (List Int) × Unit)
abbrev Tp3 := ((List (List Int)) × (List Bool) × Unit)
abbrev Tp2 := (Int × Int × (List Int) × Tp5 × (List Int) × Unit)
abbrev Tp1 := (Int × Int × Int × (List Int) × Tp5 × (List Int) × Unit)
noncomputable def buchi_Check_1 (q : Int) (t : Tp2) : Option (Bool) :=
  if (decide (q < (0 : Int))) = true then
  some true else
  some (decide (t.2.1 ≤ q))

noncomputable def slices_IndexFunc_L2_B (s : (List Int)) (c : Tp2) (r2 : Int → Option (Int)) (t : Int) : Option (Int) :=
  if (decide (t < (s.length : Int))) = true then
  G (0 ≤ t ∧ t < (s.length : Int)) (
  (buchi_Check_1 (ix s t) c).bind (fun y' =>
  if y' = true then
  some t else
  G (fits (t + (1 : Int))) (
  r2 (t + (1 : Int))))) else
  some (-1 : Int)
noncomputable def slices_IndexFunc_L2_F (s : (List Int)) (c : Tp2) : (Int → Option (Int)) → Int → Option (Int) :=
  fun rec x => slices_IndexFunc_L2_B s c (fun t => rec t) x
noncomputable def slices_IndexFunc_L2 (s : (List Int)) (c : Tp2) (t : Int) : Option (Int) := LFix (slices_IndexFunc_L2_F s c ) t
noncomputable def slices_IndexFunc (s : (List Int)) (c : Tp2) : Option (Int) :=
  slices_IndexFunc_L2 s c (0 : Int)
theorem slices_IndexFunc_L2_B_ch (r2 : Nat → Int → Option (Int)) (r2' : Int → Option (Int)) (h_r2 : ∀ a0, ChO (fun κ => r2 κ a0) (r2' a0)) (s : (List Int)) (c : Tp2) (t : Int) : ChO (fun κ => slices_IndexFunc_L2_B s c (r2 κ) t) (slices_IndexFunc_L2_B s c r2' t) := by
  unfold slices_IndexFunc_L2_B
  repeat' with_reducible first | exact ChO.const _ | exact h_r2 _ | apply ChO.ite | apply ChO.G | apply ChO.both | (apply ChO.bind; intro _)
theorem slices_IndexFunc_L2_cn  (s : (List Int)) (c : Tp2) : Cn (slices_IndexFunc_L2_F s c) := fun g h hg x => slices_IndexFunc_L2_B_ch  (fun κ t => g κ t) (fun t => h t) (fun t => hg t) s c x
theorem slices_IndexFunc_L2_eq  (s : (List Int)) (c : Tp2) (t : Int) : slices_IndexFunc_L2 s c t = slices_IndexFunc_L2_B s c (slices_IndexFunc_L2 s c) t := LFix_eq (slices_IndexFunc_L2_cn s c) t

noncomputable def slices_ContainsFunc (s : (List Int)) (c : Tp2) : Option (Bool) :=
  (slices_IndexFunc s c).bind (fun y' =>
  some (decide ((0 : Int) ≤ y')))

noncomputable def buchi_Check_2 (x' : Tp6) (t : Tp2) (c : Tp2) : Option (Bool × Int × Int × (List Int) × Tp5 × (List Int) × Unit) :=
  (buchi_Check_1 x'.1 c).bind (fun y' =>
  if y' = true then
  some (true, c) else
  (buchi_Check_1 x'.2.2.1 c).bind (fun y'_1 =>
  if y'_1 = true then
  some (true, c) else
  if (decide (x'.2.1 < (0 : Int))) = true then
  some (true, c) else
  some (decide (t.1 ≤ x'.2.1), c)))

noncomputable def slices_IndexFunc_1_L2_B (s : Tp5) (r2 : Tp2 → Int → Tp2 → Option Tp1) (f : Tp2) (t : Int) (l : Tp2) : Option Tp1 :=
  if (decide (t < (s.length : Int))) = true then
  G (0 ≤ t ∧ t < (s.length : Int)) (
  (buchi_Check_2 (ix s t) f l).bind (fun y'_3 =>
  if y'_3.1 = true then
  some (t, y'_3.2) else
  G (fits (t + (1 : Int))) (
  r2 f (t + (1 : Int)) y'_3.2))) else
  some ((-1 : Int), l)
noncomputable def slices_IndexFunc_1_L2_F (s : Tp5) : (Tp2 × Int × Int × Int × (List Int) × Tp5 × (List Int) × Unit → Option Tp1) → Tp2 × Int × Int × Int × (List Int) × Tp5 × (List Int) × Unit → Option Tp1 :=
  fun rec x => slices_IndexFunc_1_L2_B s (fun f t l => rec (f, t, l)) x.1 x.2.1 x.2.2
noncomputable def slices_IndexFunc_1_L2 (s : Tp5) (f : Tp2) (t : Int) (l : Tp2) : Option Tp1 := LFix (slices_IndexFunc_1_L2_F s ) (f, t, l)
noncomputable def slices_IndexFunc_1 (s : Tp5) (c : Tp2) (c_1 : Tp2) : Option Tp1 :=
  slices_IndexFunc_1_L2 s c (0 : Int) c_1
theorem slices_IndexFunc_1_L2_B_ch (r2 : Nat → Tp2 → Int → Tp2 → Option Tp1) (r2' : Tp2 → Int → Tp2 → Option Tp1) (h_r2 : ∀ a0 a1 a2, ChO (fun κ => r2 κ a0 a1 a2) (r2' a0 a1 a2)) (s : Tp5) (f : Tp2) (t : Int) (l : Tp2) : ChO (fun κ => slices_IndexFunc_1_L2_B s (r2 κ) f t l) (slices_IndexFunc_1_L2_B s r2' f t l) := by
  unfold slices_IndexFunc_1_L2_B
  repeat' with_reducible first | exact ChO.const _ | exact h_r2 _ _ _ | apply ChO.ite | apply ChO.G | apply ChO.both | (apply ChO.bind; intro _)
theorem slices_IndexFunc_1_L2_cn  (s : Tp5) : Cn (slices_IndexFunc_1_L2_F s) := fun g h hg x => slices_IndexFunc_1_L2_B_ch  (fun κ f t l => g κ (f, t, l)) (fun f t l => h (f, t, l)) (fun f t l => hg (f, t, l)) s x.1 x.2.1 x.2.2
theorem slices_IndexFunc_1_L2_eq  (s : Tp5) (f : Tp2) (t : Int) (l : Tp2) : slices_IndexFunc_1_L2 s f t l = slices_IndexFunc_1_L2_B s (slices_IndexFunc_1_L2 s) f t l := LFix_eq (slices_IndexFunc_1_L2_cn s) (f, t, l)

noncomputable def slices_ContainsFunc_1 (s : Tp5) (c : Tp2) (c_1 : Tp2) : Option (Bool × Int × Int × (List Int) × Tp5 × (List Int) × Unit) :=
  (slices_IndexFunc_1 s c c_1).bind (fun y'_3 =>
  some (decide ((0 : Int) ≤ y'_3.1), y'_3.2))

noncomputable def buchi_rising_L2_B (l : (List Int)) (r2 : Int → Option (Bool)) (t : Int) : Option (Bool) :=
  if (decide (t < (l.length : Int))) = true then
  if (decide ((0 : Int) < t)) = true then
  G (fits (t - (1 : Int))) (
  G (0 ≤ t - (1 : Int) ∧ t - (1 : Int) < (l.length : Int)) (
  G (0 ≤ t ∧ t < (l.length : Int)) (
  if (decide ((ix l t) ≤ (ix l (t - (1 : Int))))) = true then
  some false else
  G (fits (t + (1 : Int))) (
  r2 (t + (1 : Int)))))) else
  G (fits (t + (1 : Int))) (
  r2 (t + (1 : Int))) else
  some true
noncomputable def buchi_rising_L2_F (l : (List Int)) : (Int → Option (Bool)) → Int → Option (Bool) :=
  fun rec x => buchi_rising_L2_B l (fun t => rec t) x
noncomputable def buchi_rising_L2 (l : (List Int)) (t : Int) : Option (Bool) := LFix (buchi_rising_L2_F l ) t
noncomputable def buchi_rising (l : (List Int)) : Option (Bool) :=
  buchi_rising_L2 l (0 : Int)
theorem buchi_rising_L2_B_ch (r2 : Nat → Int → Option (Bool)) (r2' : Int → Option (Bool)) (h_r2 : ∀ a0, ChO (fun κ => r2 κ a0) (r2' a0)) (l : (List Int)) (t : Int) : ChO (fun κ => buchi_rising_L2_B l (r2 κ) t) (buchi_rising_L2_B l r2' t) := by
  unfold buchi_rising_L2_B
  repeat' with_reducible first | exact ChO.const _ | exact h_r2 _ | apply ChO.ite | apply ChO.G | apply ChO.both | (apply ChO.bind; intro _)
theorem buchi_rising_L2_cn  (l : (List Int)) : Cn (buchi_rising_L2_F l) := fun g h hg x => buchi_rising_L2_B_ch  (fun κ t => g κ t) (fun t => h t) (fun t => hg t) l x
theorem buchi_rising_L2_eq  (l : (List Int)) (t : Int) : buchi_rising_L2 l t = buchi_rising_L2_B l (buchi_rising_L2 l) t := LFix_eq (buchi_rising_L2_cn l) t

noncomputable def cmp_isNaN (x' : Int) : Option (Bool) :=
  some (decide (¬ x' = x'))

noncomputable def cmp_Compare (x' : Int) (y' : Int) : Option (Int) :=
  (cmp_isNaN x').bind (fun y'_1 =>
  (cmp_isNaN y').bind (fun y'_2 =>
  if y'_1 = true then
  if y'_2 = true then
  some (0 : Int) else
  some (-1 : Int) else
  if y'_2 = true then
  some (1 : Int) else
  if (decide (x' < y')) = true then
  some (-1 : Int) else
  if (decide (y' < x')) = true then
  some (1 : Int) else
  some (0 : Int)))

noncomputable def cmp_Or_L3_B (vals : (List Int)) (r3 : Int → Option (Int)) (t : Int) : Option (Int) :=
  if (decide (t < (vals.length : Int))) = true then
  G (0 ≤ t ∧ t < (vals.length : Int)) (
  if (decide (¬ (ix vals t) = (0 : Int))) = true then
  some (ix vals t) else
  G (fits (t + (1 : Int))) (
  r3 (t + (1 : Int)))) else
  some (0 : Int)
noncomputable def cmp_Or_L3_F (vals : (List Int)) : (Int → Option (Int)) → Int → Option (Int) :=
  fun rec x => cmp_Or_L3_B vals (fun t => rec t) x
noncomputable def cmp_Or_L3 (vals : (List Int)) (t : Int) : Option (Int) := LFix (cmp_Or_L3_F vals ) t
noncomputable def cmp_Or (vals : (List Int)) : Option (Int) :=
  cmp_Or_L3 vals (0 : Int)
theorem cmp_Or_L3_B_ch (r3 : Nat → Int → Option (Int)) (r3' : Int → Option (Int)) (h_r3 : ∀ a0, ChO (fun κ => r3 κ a0) (r3' a0)) (vals : (List Int)) (t : Int) : ChO (fun κ => cmp_Or_L3_B vals (r3 κ) t) (cmp_Or_L3_B vals r3' t) := by
  unfold cmp_Or_L3_B
  repeat' with_reducible first | exact ChO.const _ | exact h_r3 _ | apply ChO.ite | apply ChO.G | apply ChO.both | (apply ChO.bind; intro _)
theorem cmp_Or_L3_cn  (vals : (List Int)) : Cn (cmp_Or_L3_F vals) := fun g h hg x => cmp_Or_L3_B_ch  (fun κ t => g κ t) (fun t => h t) (fun t => hg t) vals x
theorem cmp_Or_L3_eq  (vals : (List Int)) (t : Int) : cmp_Or_L3 vals t = cmp_Or_L3_B vals (cmp_Or_L3 vals) t := LFix_eq (cmp_Or_L3_cn vals) t

noncomputable def buchi_order (x' : Tp6) (y' : Tp6) : Option (Int) :=
  (cmp_Compare x'.1 y'.1).bind (fun y'_1 =>
  (cmp_Compare x'.2.1 y'.2.1).bind (fun y'_2 =>
  (cmp_Compare x'.2.2.1 y'.2.2.1).bind (fun y'_3 =>
  (cmp_Or ([y'_1, y'_2, y'_3])).bind (fun y'_4 =>
  some y'_4))))

noncomputable def buchi_Check_L11_B (a : Tp2) (r11 : Int → Option (Int)) (t : Int) : Option (Int) :=
  if (decide (t < (a.2.2.2.1.length : Int))) = true then
  if (decide ((0 : Int) < t)) = true then
  G (fits (t - (1 : Int))) (
  G (0 ≤ t - (1 : Int) ∧ t - (1 : Int) < (a.2.2.2.1.length : Int)) (
  G (0 ≤ t ∧ t < (a.2.2.2.1.length : Int)) (
  (buchi_order (ix a.2.2.2.1 (t - (1 : Int))) (ix a.2.2.2.1 t)).bind (fun y'_7 =>
  if (decide ((0 : Int) ≤ y'_7)) = true then
  some (3 : Int) else
  G (fits (t + (1 : Int))) (
  r11 (t + (1 : Int))))))) else
  G (fits (t + (1 : Int))) (
  r11 (t + (1 : Int))) else
  some (0 : Int)
noncomputable def buchi_Check_L11_F (a : Tp2) : (Int → Option (Int)) → Int → Option (Int) :=
  fun rec x => buchi_Check_L11_B a (fun t => rec t) x
noncomputable def buchi_Check_L11 (a : Tp2) (t : Int) : Option (Int) := LFix (buchi_Check_L11_F a ) t
noncomputable def buchi_Check (a : Tp2) : Option (Int) :=
  if (decide (a.1 < (1 : Int))) = true then
  some (2 : Int) else
  if (decide ((4 : Int) < a.1)) = true then
  some (2 : Int) else
  if (decide (a.2.1 < (1 : Int))) = true then
  some (1 : Int) else
  if (decide ((300 : Int) < a.2.1)) = true then
  some (1 : Int) else
  if (decide ((40000 : Int) < (a.2.2.2.1.length : Int))) = true then
  some (1 : Int) else
  (slices_ContainsFunc a.2.2.1 (a.1, (a.2.1, (a.2.2.1, (a.2.2.2.1, (a.2.2.2.2.1, ())))))).bind (fun y' =>
  if y' = true then
  some (2 : Int) else
  (slices_ContainsFunc a.2.2.2.2.1 (a.1, (a.2.1, (a.2.2.1, (a.2.2.2.1, (a.2.2.2.2.1, ())))))).bind (fun y'_1 =>
  if y'_1 = true then
  some (2 : Int) else
  (slices_ContainsFunc_1 a.2.2.2.1 (a.1, (a.2.1, (a.2.2.1, (a.2.2.2.1, (a.2.2.2.2.1, ()))))) (a.1, (a.2.1, (a.2.2.1, (a.2.2.2.1, (a.2.2.2.2.1, ())))))).bind (fun y'_8 =>
  if y'_8.1 = true then
  some (2 : Int) else
  (buchi_rising a.2.2.1).bind (fun y'_5 =>
  if (!y'_5) = true then
  some (3 : Int) else
  (buchi_rising a.2.2.2.2.1).bind (fun y'_6 =>
  if (!y'_6) = true then
  some (3 : Int) else
  buchi_Check_L11 a (0 : Int))))))
theorem buchi_Check_L11_B_ch (r11 : Nat → Int → Option (Int)) (r11' : Int → Option (Int)) (h_r11 : ∀ a0, ChO (fun κ => r11 κ a0) (r11' a0)) (a : Tp2) (t : Int) : ChO (fun κ => buchi_Check_L11_B a (r11 κ) t) (buchi_Check_L11_B a r11' t) := by
  unfold buchi_Check_L11_B
  repeat' with_reducible first | exact ChO.const _ | exact h_r11 _ | apply ChO.ite | apply ChO.G | apply ChO.both | (apply ChO.bind; intro _)
theorem buchi_Check_L11_cn  (a : Tp2) : Cn (buchi_Check_L11_F a) := fun g h hg x => buchi_Check_L11_B_ch  (fun κ t => g κ t) (fun t => h t) (fun t => hg t) a x
theorem buchi_Check_L11_eq  (a : Tp2) (t : Int) : buchi_Check_L11 a t = buchi_Check_L11_B a (buchi_Check_L11 a) t := LFix_eq (buchi_Check_L11_cn a) t

noncomputable def r7_Ahead (x' : Tp6) (y' : Tp6) : Option (Bool) :=
  if (decide (¬ x'.1 = y'.1)) = true then
  some (decide (x'.1 < y'.1)) else
  if (decide (¬ x'.2.1 = y'.2.1)) = true then
  some (decide (x'.2.1 < y'.2.1)) else
  some (decide (x'.2.2.1 < y'.2.2.1))

noncomputable def r7_Check_L32_B (a : Tp2) (r32 : Int → Option (Int)) (i_5 : Int) : Option (Int) :=
  if (decide (i_5 < (a.2.2.2.1.length : Int))) = true then
  G (fits (i_5 - (1 : Int))) (
  G (0 ≤ i_5 - (1 : Int) ∧ i_5 - (1 : Int) < (a.2.2.2.1.length : Int)) (
  G (0 ≤ i_5 ∧ i_5 < (a.2.2.2.1.length : Int)) (
  (r7_Ahead (ix a.2.2.2.1 (i_5 - (1 : Int))) (ix a.2.2.2.1 i_5)).bind (fun y' =>
  if (!y') = true then
  some (3 : Int) else
  G (fits (i_5 + (1 : Int))) (
  r32 (i_5 + (1 : Int))))))) else
  some (0 : Int)
noncomputable def r7_Check_L32_F (a : Tp2) : (Int → Option (Int)) → Int → Option (Int) :=
  fun rec x => r7_Check_L32_B a (fun i_5 => rec i_5) x
noncomputable def r7_Check_L32 (a : Tp2) (i_5 : Int) : Option (Int) := LFix (r7_Check_L32_F a ) i_5
noncomputable def r7_Check_L27_B (a : Tp2) (r27 : Int → Option (Int)) (i_4 : Int) : Option (Int) :=
  if (decide (i_4 < (a.2.2.2.2.1.length : Int))) = true then
  G (fits (i_4 - (1 : Int))) (
  G (0 ≤ i_4 - (1 : Int) ∧ i_4 - (1 : Int) < (a.2.2.2.2.1.length : Int)) (
  G (0 ≤ i_4 ∧ i_4 < (a.2.2.2.2.1.length : Int)) (
  if (decide ((ix a.2.2.2.2.1 i_4) ≤ (ix a.2.2.2.2.1 (i_4 - (1 : Int))))) = true then
  some (3 : Int) else
  G (fits (i_4 + (1 : Int))) (
  r27 (i_4 + (1 : Int)))))) else
  r7_Check_L32 a (1 : Int)
noncomputable def r7_Check_L27_F (a : Tp2) : (Int → Option (Int)) → Int → Option (Int) :=
  fun rec x => r7_Check_L27_B a (fun i_4 => rec i_4) x
noncomputable def r7_Check_L27 (a : Tp2) (i_4 : Int) : Option (Int) := LFix (r7_Check_L27_F a ) i_4
noncomputable def r7_Check_L22_B (a : Tp2) (r22 : Int → Option (Int)) (i_3 : Int) : Option (Int) :=
  if (decide (i_3 < (a.2.2.1.length : Int))) = true then
  G (fits (i_3 - (1 : Int))) (
  G (0 ≤ i_3 - (1 : Int) ∧ i_3 - (1 : Int) < (a.2.2.1.length : Int)) (
  G (0 ≤ i_3 ∧ i_3 < (a.2.2.1.length : Int)) (
  if (decide ((ix a.2.2.1 i_3) ≤ (ix a.2.2.1 (i_3 - (1 : Int))))) = true then
  some (3 : Int) else
  G (fits (i_3 + (1 : Int))) (
  r22 (i_3 + (1 : Int)))))) else
  r7_Check_L27 a (1 : Int)
noncomputable def r7_Check_L22_F (a : Tp2) : (Int → Option (Int)) → Int → Option (Int) :=
  fun rec x => r7_Check_L22_B a (fun i_3 => rec i_3) x
noncomputable def r7_Check_L22 (a : Tp2) (i_3 : Int) : Option (Int) := LFix (r7_Check_L22_F a ) i_3
noncomputable def r7_Check_L16_B (a : Tp2) (r16 : Int → Option (Int)) (i_2 : Int) : Option (Int) :=
  if (decide (i_2 < (a.2.2.2.1.length : Int))) = true then
  G (0 ≤ i_2 ∧ i_2 < (a.2.2.2.1.length : Int)) (
  if (decide (((ix a.2.2.2.1 i_2).1) < (0 : Int))) = true then
  some (2 : Int) else
  if (decide (a.2.1 ≤ ((ix a.2.2.2.1 i_2).1))) = true then
  some (2 : Int) else
  if (decide (((((ix a.2.2.2.1 i_2).2).2).1) < (0 : Int))) = true then
  some (2 : Int) else
  if (decide (a.2.1 ≤ ((((ix a.2.2.2.1 i_2).2).2).1))) = true then
  some (2 : Int) else
  if (decide ((((ix a.2.2.2.1 i_2).2).1) < (0 : Int))) = true then
  some (2 : Int) else
  if (decide (a.1 ≤ (((ix a.2.2.2.1 i_2).2).1))) = true then
  some (2 : Int) else
  G (fits (i_2 + (1 : Int))) (
  r16 (i_2 + (1 : Int)))) else
  r7_Check_L22 a (1 : Int)
noncomputable def r7_Check_L16_F (a : Tp2) : (Int → Option (Int)) → Int → Option (Int) :=
  fun rec x => r7_Check_L16_B a (fun i_2 => rec i_2) x
noncomputable def r7_Check_L16 (a : Tp2) (i_2 : Int) : Option (Int) := LFix (r7_Check_L16_F a ) i_2
noncomputable def r7_Check_L11_B (a : Tp2) (r11 : Int → Option (Int)) (i_1 : Int) : Option (Int) :=
  if (decide (i_1 < (a.2.2.2.2.1.length : Int))) = true then
  G (0 ≤ i_1 ∧ i_1 < (a.2.2.2.2.1.length : Int)) (
  if (decide ((ix a.2.2.2.2.1 i_1) < (0 : Int))) = true then
  some (2 : Int) else
  G (0 ≤ i_1 ∧ i_1 < (a.2.2.2.2.1.length : Int)) (
  if (decide (a.2.1 ≤ (ix a.2.2.2.2.1 i_1))) = true then
  some (2 : Int) else
  G (fits (i_1 + (1 : Int))) (
  r11 (i_1 + (1 : Int))))) else
  r7_Check_L16 a (0 : Int)
noncomputable def r7_Check_L11_F (a : Tp2) : (Int → Option (Int)) → Int → Option (Int) :=
  fun rec x => r7_Check_L11_B a (fun i_1 => rec i_1) x
noncomputable def r7_Check_L11 (a : Tp2) (i_1 : Int) : Option (Int) := LFix (r7_Check_L11_F a ) i_1
noncomputable def r7_Check_L6_B (a : Tp2) (r6 : Int → Option (Int)) (i : Int) : Option (Int) :=
  if (decide (i < (a.2.2.1.length : Int))) = true then
  G (0 ≤ i ∧ i < (a.2.2.1.length : Int)) (
  if (decide ((ix a.2.2.1 i) < (0 : Int))) = true then
  some (2 : Int) else
  G (0 ≤ i ∧ i < (a.2.2.1.length : Int)) (
  if (decide (a.2.1 ≤ (ix a.2.2.1 i))) = true then
  some (2 : Int) else
  G (fits (i + (1 : Int))) (
  r6 (i + (1 : Int))))) else
  r7_Check_L11 a (0 : Int)
noncomputable def r7_Check_L6_F (a : Tp2) : (Int → Option (Int)) → Int → Option (Int) :=
  fun rec x => r7_Check_L6_B a (fun i => rec i) x
noncomputable def r7_Check_L6 (a : Tp2) (i : Int) : Option (Int) := LFix (r7_Check_L6_F a ) i
noncomputable def r7_Check (a : Tp2) : Option (Int) :=
  if (decide (a.1 < (1 : Int))) = true then
  some (2 : Int) else
  if (decide ((4 : Int) < a.1)) = true then
  some (2 : Int) else
  if (decide (a.2.1 < (1 : Int))) = true then
  some (1 : Int) else
  if (decide ((300 : Int) < a.2.1)) = true then
  some (1 : Int) else
  if (decide ((40000 : Int) < (a.2.2.2.1.length : Int))) = true then
  some (1 : Int) else
  r7_Check_L6 a (0 : Int)
theorem r7_Check_L32_B_ch (r32 : Nat → Int → Option (Int)) (r32' : Int → Option (Int)) (h_r32 : ∀ a0, ChO (fun κ => r32 κ a0) (r32' a0)) (a : Tp2) (i_5 : Int) : ChO (fun κ => r7_Check_L32_B a (r32 κ) i_5) (r7_Check_L32_B a r32' i_5) := by
  unfold r7_Check_L32_B
  repeat' with_reducible first | exact ChO.const _ | exact h_r32 _ | apply ChO.ite | apply ChO.G | apply ChO.both | (apply ChO.bind; intro _)
theorem r7_Check_L32_cn  (a : Tp2) : Cn (r7_Check_L32_F a) := fun g h hg x => r7_Check_L32_B_ch  (fun κ i_5 => g κ i_5) (fun i_5 => h i_5) (fun i_5 => hg i_5) a x
theorem r7_Check_L32_eq  (a : Tp2) (i_5 : Int) : r7_Check_L32 a i_5 = r7_Check_L32_B a (r7_Check_L32 a) i_5 := LFix_eq (r7_Check_L32_cn a) i_5
theorem r7_Check_L27_B_ch (r27 : Nat → Int → Option (Int)) (r27' : Int → Option (Int)) (h_r27 : ∀ a0, ChO (fun κ => r27 κ a0) (r27' a0)) (a : Tp2) (i_4 : Int) : ChO (fun κ => r7_Check_L27_B a (r27 κ) i_4) (r7_Check_L27_B a r27' i_4) := by
  unfold r7_Check_L27_B
  repeat' with_reducible first | exact ChO.const _ | exact h_r27 _ | apply ChO.ite | apply ChO.G | apply ChO.both | (apply ChO.bind; intro _)
theorem r7_Check_L27_cn  (a : Tp2) : Cn (r7_Check_L27_F a) := fun g h hg x => r7_Check_L27_B_ch  (fun κ i_4 => g κ i_4) (fun i_4 => h i_4) (fun i_4 => hg i_4) a x
theorem r7_Check_L27_eq  (a : Tp2) (i_4 : Int) : r7_Check_L27 a i_4 = r7_Check_L27_B a (r7_Check_L27 a) i_4 := LFix_eq (r7_Check_L27_cn a) i_4
theorem r7_Check_L22_B_ch (r22 : Nat → Int → Option (Int)) (r22' : Int → Option (Int)) (h_r22 : ∀ a0, ChO (fun κ => r22 κ a0) (r22' a0)) (a : Tp2) (i_3 : Int) : ChO (fun κ => r7_Check_L22_B a (r22 κ) i_3) (r7_Check_L22_B a r22' i_3) := by
  unfold r7_Check_L22_B
  repeat' with_reducible first | exact ChO.const _ | exact h_r22 _ | apply ChO.ite | apply ChO.G | apply ChO.both | (apply ChO.bind; intro _)
theorem r7_Check_L22_cn  (a : Tp2) : Cn (r7_Check_L22_F a) := fun g h hg x => r7_Check_L22_B_ch  (fun κ i_3 => g κ i_3) (fun i_3 => h i_3) (fun i_3 => hg i_3) a x
theorem r7_Check_L22_eq  (a : Tp2) (i_3 : Int) : r7_Check_L22 a i_3 = r7_Check_L22_B a (r7_Check_L22 a) i_3 := LFix_eq (r7_Check_L22_cn a) i_3
theorem r7_Check_L16_B_ch (r16 : Nat → Int → Option (Int)) (r16' : Int → Option (Int)) (h_r16 : ∀ a0, ChO (fun κ => r16 κ a0) (r16' a0)) (a : Tp2) (i_2 : Int) : ChO (fun κ => r7_Check_L16_B a (r16 κ) i_2) (r7_Check_L16_B a r16' i_2) := by
  unfold r7_Check_L16_B
  repeat' with_reducible first | exact ChO.const _ | exact h_r16 _ | apply ChO.ite | apply ChO.G | apply ChO.both | (apply ChO.bind; intro _)
theorem r7_Check_L16_cn  (a : Tp2) : Cn (r7_Check_L16_F a) := fun g h hg x => r7_Check_L16_B_ch  (fun κ i_2 => g κ i_2) (fun i_2 => h i_2) (fun i_2 => hg i_2) a x
theorem r7_Check_L16_eq  (a : Tp2) (i_2 : Int) : r7_Check_L16 a i_2 = r7_Check_L16_B a (r7_Check_L16 a) i_2 := LFix_eq (r7_Check_L16_cn a) i_2
theorem r7_Check_L11_B_ch (r11 : Nat → Int → Option (Int)) (r11' : Int → Option (Int)) (h_r11 : ∀ a0, ChO (fun κ => r11 κ a0) (r11' a0)) (a : Tp2) (i_1 : Int) : ChO (fun κ => r7_Check_L11_B a (r11 κ) i_1) (r7_Check_L11_B a r11' i_1) := by
  unfold r7_Check_L11_B
  repeat' with_reducible first | exact ChO.const _ | exact h_r11 _ | apply ChO.ite | apply ChO.G | apply ChO.both | (apply ChO.bind; intro _)
theorem r7_Check_L11_cn  (a : Tp2) : Cn (r7_Check_L11_F a) := fun g h hg x => r7_Check_L11_B_ch  (fun κ i_1 => g κ i_1) (fun i_1 => h i_1) (fun i_1 => hg i_1) a x
theorem r7_Check_L11_eq  (a : Tp2) (i_1 : Int) : r7_Check_L11 a i_1 = r7_Check_L11_B a (r7_Check_L11 a) i_1 := LFix_eq (r7_Check_L11_cn a) i_1
theorem r7_Check_L6_B_ch (r6 : Nat → Int → Option (Int)) (r6' : Int → Option (Int)) (h_r6 : ∀ a0, ChO (fun κ => r6 κ a0) (r6' a0)) (a : Tp2) (i : Int) : ChO (fun κ => r7_Check_L6_B a (r6 κ) i) (r7_Check_L6_B a r6' i) := by
  unfold r7_Check_L6_B
  repeat' with_reducible first | exact ChO.const _ | exact h_r6 _ | apply ChO.ite | apply ChO.G | apply ChO.both | (apply ChO.bind; intro _)
theorem r7_Check_L6_cn  (a : Tp2) : Cn (r7_Check_L6_F a) := fun g h hg x => r7_Check_L6_B_ch  (fun κ i => g κ i) (fun i => h i) (fun i => hg i) a x
theorem r7_Check_L6_eq  (a : Tp2) (i : Int) : r7_Check_L6 a i = r7_Check_L6_B a (r7_Check_L6 a) i := LFix_eq (r7_Check_L6_cn a) i

noncomputable def word_May_L6_B (letters : Int) (w : (List Int)) (r6 : Int → Option (Int)) (t : Int) : Option (Int) :=
  if (decide (t < (w.length : Int))) = true then
  G (0 ≤ t ∧ t < (w.length : Int)) (
  if (decide ((ix w t) < (0 : Int))) = true then
  some (2 : Int) else
  if (decide (letters ≤ (ix w t))) = true then
  some (2 : Int) else
  G (fits (t + (1 : Int))) (
  r6 (t + (1 : Int)))) else
  some (0 : Int)
noncomputable def word_May_L6_F (letters : Int) (w : (List Int)) : (Int → Option (Int)) → Int → Option (Int) :=
  fun rec x => word_May_L6_B letters w (fun t => rec t) x
noncomputable def word_May_L6 (letters : Int) (w : (List Int)) (t : Int) : Option (Int) := LFix (word_May_L6_F letters w ) t
noncomputable def word_May (letters : Int) (w : (List Int)) : Option (Int) :=
  if (decide (letters < (1 : Int))) = true then
  some (2 : Int) else
  if (decide ((4 : Int) < letters)) = true then
  some (2 : Int) else
  if (decide ((60 : Int) < (w.length : Int))) = true then
  some (1 : Int) else
  word_May_L6 letters w (0 : Int)
theorem word_May_L6_B_ch (r6 : Nat → Int → Option (Int)) (r6' : Int → Option (Int)) (h_r6 : ∀ a0, ChO (fun κ => r6 κ a0) (r6' a0)) (letters : Int) (w : (List Int)) (t : Int) : ChO (fun κ => word_May_L6_B letters w (r6 κ) t) (word_May_L6_B letters w r6' t) := by
  unfold word_May_L6_B
  repeat' with_reducible first | exact ChO.const _ | exact h_r6 _ | apply ChO.ite | apply ChO.G | apply ChO.both | (apply ChO.bind; intro _)
theorem word_May_L6_cn  (letters : Int) (w : (List Int)) : Cn (word_May_L6_F letters w) := fun g h hg x => word_May_L6_B_ch  (fun κ t => g κ t) (fun t => h t) (fun t => hg t) letters w x
theorem word_May_L6_eq  (letters : Int) (w : (List Int)) (t : Int) : word_May_L6 letters w t = word_May_L6_B letters w (word_May_L6 letters w) t := LFix_eq (word_May_L6_cn letters w) t

noncomputable def word_Lasso_L2_B (letters : Int) (l : Tp4) (r2 : Int → Option (Int)) (t : Int) : Option (Int) :=
  if (decide (t < (2 : Int))) = true then
  G (0 ≤ t ∧ t < (2 : Int)) (
  (word_May letters (vget (.list (.int .i64)) 2 (l.1, (l.2.1, ())) (t).toNat)).bind (fun y' =>
  if (decide (¬ y' = (0 : Int))) = true then
  some y' else
  G (fits (t + (1 : Int))) (
  r2 (t + (1 : Int))))) else
  if (decide ((l.2.1.length : Int) = (0 : Int))) = true then
  some (1 : Int) else
  some (0 : Int)
noncomputable def word_Lasso_L2_F (letters : Int) (l : Tp4) : (Int → Option (Int)) → Int → Option (Int) :=
  fun rec x => word_Lasso_L2_B letters l (fun t => rec t) x
noncomputable def word_Lasso_L2 (letters : Int) (l : Tp4) (t : Int) : Option (Int) := LFix (word_Lasso_L2_F letters l ) t
noncomputable def word_Lasso (letters : Int) (l : Tp4) : Option (Int) :=
  word_Lasso_L2 letters l (0 : Int)
theorem word_Lasso_L2_B_ch (r2 : Nat → Int → Option (Int)) (r2' : Int → Option (Int)) (h_r2 : ∀ a0, ChO (fun κ => r2 κ a0) (r2' a0)) (letters : Int) (l : Tp4) (t : Int) : ChO (fun κ => word_Lasso_L2_B letters l (r2 κ) t) (word_Lasso_L2_B letters l r2' t) := by
  unfold word_Lasso_L2_B
  repeat' with_reducible first | exact ChO.const _ | exact h_r2 _ | apply ChO.ite | apply ChO.G | apply ChO.both | (apply ChO.bind; intro _)
theorem word_Lasso_L2_cn  (letters : Int) (l : Tp4) : Cn (word_Lasso_L2_F letters l) := fun g h hg x => word_Lasso_L2_B_ch  (fun κ t => g κ t) (fun t => h t) (fun t => hg t) letters l x
theorem word_Lasso_L2_eq  (letters : Int) (l : Tp4) (t : Int) : word_Lasso_L2 letters l t = word_Lasso_L2_B letters l (word_Lasso_L2 letters l) t := LFix_eq (word_Lasso_L2_cn letters l) t

noncomputable def slices_Clone (s : (List Int)) : Option (List Int) :=
  if s.length = 0 then both [(.list (.int .i64))] (
  some ([])) (
  G (room ([] : List Int) s 8) (
  some (([] : List Int) ++ s))) else
  G (room ([] : List Int) s 8) (
  some (([] : List Int) ++ s))

noncomputable def buchi_graph_reach_J11 (t : Int) (r7 : (Int → (List Bool) → (List Int) → Option (List Bool))) (seen_2 : (List Bool)) (row_2 : (List Int)) : Option (List Bool) :=
  G (fits (t + (1 : Int))) (
  r7 (t + (1 : Int)) seen_2 row_2)
noncomputable def buchi_graph_reach_L7_B (g' : Tp3) (row : (List Int)) (r3 : ((List Bool) → (List Int) → Option (List Bool))) (r7 : Int → (List Bool) → (List Int) → Option (List Bool)) (t : Int) (seen_1 : (List Bool)) (row_1 : (List Int)) : Option (List Bool) :=
  if (decide (t < ((ix g'.1 (ix row ((row.length : Int) - (1 : Int)))).length : Int))) = true then
  G (0 ≤ t ∧ t < ((ix g'.1 (ix row ((row.length : Int) - (1 : Int)))).length : Int)) (
  G (0 ≤ ix (ix g'.1 (ix row ((row.length : Int) - (1 : Int)))) t ∧ ix (ix g'.1 (ix row ((row.length : Int) - (1 : Int)))) t < (seen_1.length : Int)) (
  G ((ix (ix g'.1 (ix row ((row.length : Int) - (1 : Int)))) t).toNat < seen_1.length) (
  if (!(ix seen_1 (ix (ix g'.1 (ix row ((row.length : Int) - (1 : Int)))) t))) = true then
  G (0 ≤ ix (ix g'.1 (ix row ((row.length : Int) - (1 : Int)))) t ∧ ix (ix g'.1 (ix row ((row.length : Int) - (1 : Int)))) t < (seen_1.length : Int)) (
  G ((ix (ix g'.1 (ix row ((row.length : Int) - (1 : Int)))) t).toNat < seen_1.length) (
  G (room row_1 ([ix (ix g'.1 (ix row ((row.length : Int) - (1 : Int)))) t]) 8) (
  buchi_graph_reach_J11 t r7 (seen_1.set (ix (ix g'.1 (ix row ((row.length : Int) - (1 : Int)))) t).toNat true) (row_1 ++ ([ix (ix g'.1 (ix row ((row.length : Int) - (1 : Int)))) t]))))) else
  buchi_graph_reach_J11 t r7 seen_1 row_1))) else
  r3 seen_1 row_1
noncomputable def buchi_graph_reach_L7_F (g' : Tp3) (row : (List Int)) (r3 : ((List Bool) → (List Int) → Option (List Bool))) : (Int × (List Bool) × (List Int) → Option (List Bool)) → Int × (List Bool) × (List Int) → Option (List Bool) :=
  fun rec x => buchi_graph_reach_L7_B g' row r3 (fun t seen_1 row_1 => rec (t, seen_1, row_1)) x.1 x.2.1 x.2.2
noncomputable def buchi_graph_reach_L7 (g' : Tp3) (row : (List Int)) (r3 : ((List Bool) → (List Int) → Option (List Bool))) (t : Int) (seen_1 : (List Bool)) (row_1 : (List Int)) : Option (List Bool) := LFix (buchi_graph_reach_L7_F g' row r3 ) (t, seen_1, row_1)
noncomputable def buchi_graph_reach_L3_B (g' : Tp3) (r3 : (List Bool) → (List Int) → Option (List Bool)) (seen : (List Bool)) (row : (List Int)) : Option (List Bool) :=
  if (decide ((0 : Int) < (row.length : Int))) = true then
  G (fits ((row.length : Int) - (1 : Int))) (
  G (0 ≤ (row.length : Int) - (1 : Int) ∧ (row.length : Int) - (1 : Int) < (row.length : Int)) (
  G (((row.length : Int) - (1 : Int)).toNat < row.length) (
  G (fits ((row.length : Int) - (1 : Int))) (
  G (0 ≤ (row.length : Int) - (1 : Int) ∧ (row.length : Int) - (1 : Int) ≤ (row.length : Int)) (
  G (0 ≤ ix row ((row.length : Int) - (1 : Int)) ∧ ix row ((row.length : Int) - (1 : Int)) < (g'.1.length : Int)) (
  buchi_graph_reach_L7 g' row r3 (0 : Int) seen (row.take ((row.length : Int) - (1 : Int)).toNat))))))) else
  some seen
noncomputable def buchi_graph_reach_L3_F (g' : Tp3) : ((List Bool) × (List Int) → Option (List Bool)) → (List Bool) × (List Int) → Option (List Bool) :=
  fun rec x => buchi_graph_reach_L3_B g' (fun seen row => rec (seen, row)) x.1 x.2
noncomputable def buchi_graph_reach_L3 (g' : Tp3) (seen : (List Bool)) (row : (List Int)) : Option (List Bool) := LFix (buchi_graph_reach_L3_F g' ) (seen, row)
noncomputable def buchi_graph_reach (g' : Tp3) (from' : (List Int)) : Option (List Bool) :=
  G (mkOK (g'.1.length : Int) (g'.1.length : Int) 1) (
  (slices_Clone from').bind (fun y' =>
  buchi_graph_reach_L3 g' (List.replicate ((g'.1.length : Int)).toNat (false : Bool)) y'))
theorem buchi_graph_reach_J11_ch (r7 : Nat → Int → (List Bool) → (List Int) → Option (List Bool)) (r7' : Int → (List Bool) → (List Int) → Option (List Bool)) (h_r7 : ∀ a0 a1 a2, ChO (fun κ => r7 κ a0 a1 a2) (r7' a0 a1 a2)) (t : Int) (seen_2 : (List Bool)) (row_2 : (List Int)) : ChO (fun κ => buchi_graph_reach_J11 t (r7 κ) seen_2 row_2) (buchi_graph_reach_J11 t r7' seen_2 row_2) := by
  unfold buchi_graph_reach_J11
  repeat' with_reducible first | exact ChO.const _ | exact h_r7 _ _ _ | apply ChO.ite | apply ChO.G | apply ChO.both | (apply ChO.bind; intro _)
theorem buchi_graph_reach_L7_B_ch (r3 : Nat → (List Bool) → (List Int) → Option (List Bool)) (r3' : (List Bool) → (List Int) → Option (List Bool)) (h_r3 : ∀ a0 a1, ChO (fun κ => r3 κ a0 a1) (r3' a0 a1)) (r7 : Nat → Int → (List Bool) → (List Int) → Option (List Bool)) (r7' : Int → (List Bool) → (List Int) → Option (List Bool)) (h_r7 : ∀ a0 a1 a2, ChO (fun κ => r7 κ a0 a1 a2) (r7' a0 a1 a2)) (g' : Tp3) (row : (List Int)) (t : Int) (seen_1 : (List Bool)) (row_1 : (List Int)) : ChO (fun κ => buchi_graph_reach_L7_B g' row (r3 κ) (r7 κ) t seen_1 row_1) (buchi_graph_reach_L7_B g' row r3' r7' t seen_1 row_1) := by
  unfold buchi_graph_reach_L7_B
  repeat' with_reducible first | exact ChO.const _ | exact h_r3 _ _ | exact h_r7 _ _ _ | (apply buchi_graph_reach_J11_ch <;> assumption) | apply ChO.ite | apply ChO.G | apply ChO.both | (apply ChO.bind; intro _)
theorem buchi_graph_reach_L7_cn (r3 : (List Bool) → (List Int) → Option (List Bool)) (g' : Tp3) (row : (List Int)) : Cn (buchi_graph_reach_L7_F g' row r3) := fun g h hg x => buchi_graph_reach_L7_B_ch (fun _ => r3) r3 (fun _ _ => ChO.const _) (fun κ t seen_1 row_1 => g κ (t, seen_1, row_1)) (fun t seen_1 row_1 => h (t, seen_1, row_1)) (fun t seen_1 row_1 => hg (t, seen_1, row_1)) g' row x.1 x.2.1 x.2.2
theorem buchi_graph_reach_L7_eq (r3 : (List Bool) → (List Int) → Option (List Bool)) (g' : Tp3) (row : (List Int)) (t : Int) (seen_1 : (List Bool)) (row_1 : (List Int)) : buchi_graph_reach_L7 g' row r3 t seen_1 row_1 = buchi_graph_reach_L7_B g' row r3 (buchi_graph_reach_L7 g' row r3) t seen_1 row_1 := LFix_eq (buchi_graph_reach_L7_cn r3 g' row) (t, seen_1, row_1)
theorem buchi_graph_reach_L7_ch (r3 : Nat → (List Bool) → (List Int) → Option (List Bool)) (r3' : (List Bool) → (List Int) → Option (List Bool)) (h_r3 : ∀ a0 a1, ChO (fun κ => r3 κ a0 a1) (r3' a0 a1)) (g' : Tp3) (row : (List Int)) (t : Int) (seen_1 : (List Bool)) (row_1 : (List Int)) : ChO (fun κ => buchi_graph_reach_L7 g' row (r3 κ) t seen_1 row_1) (buchi_graph_reach_L7 g' row r3' t seen_1 row_1) := by
  unfold buchi_graph_reach_L7
  exact LFix_ch (fun κ => (buchi_graph_reach_L7_cn (r3 κ) g' row).mono) (buchi_graph_reach_L7_cn r3' g' row).mono (fun g h hg x => buchi_graph_reach_L7_B_ch r3 r3' h_r3 (fun κ t seen_1 row_1 => g κ (t, seen_1, row_1)) (fun t seen_1 row_1 => h (t, seen_1, row_1)) (fun t seen_1 row_1 => hg (t, seen_1, row_1)) g' row x.1 x.2.1 x.2.2) _
theorem buchi_graph_reach_L3_B_ch (r3 : Nat → (List Bool) → (List Int) → Option (List Bool)) (r3' : (List Bool) → (List Int) → Option (List Bool)) (h_r3 : ∀ a0 a1, ChO (fun κ => r3 κ a0 a1) (r3' a0 a1)) (g' : Tp3) (seen : (List Bool)) (row : (List Int)) : ChO (fun κ => buchi_graph_reach_L3_B g' (r3 κ) seen row) (buchi_graph_reach_L3_B g' r3' seen row) := by
  unfold buchi_graph_reach_L3_B
  repeat' with_reducible first | exact ChO.const _ | exact h_r3 _ _ | (apply buchi_graph_reach_J11_ch <;> assumption) | (apply buchi_graph_reach_L7_ch <;> assumption) | apply ChO.ite | apply ChO.G | apply ChO.both | (apply ChO.bind; intro _)
theorem buchi_graph_reach_L3_cn  (g' : Tp3) : Cn (buchi_graph_reach_L3_F g') := fun g h hg x => buchi_graph_reach_L3_B_ch  (fun κ seen row => g κ (seen, row)) (fun seen row => h (seen, row)) (fun seen row => hg (seen, row)) g' x.1 x.2
theorem buchi_graph_reach_L3_eq  (g' : Tp3) (seen : (List Bool)) (row : (List Int)) : buchi_graph_reach_L3 g' seen row = buchi_graph_reach_L3_B g' (buchi_graph_reach_L3 g') seen row := LFix_eq (buchi_graph_reach_L3_cn g') (seen, row)

noncomputable def buchi_Accepts_J20 (t_1 : Int) (r17 : (Int → (List (List Int)) → (List Bool) → Option (Bool × Int))) (l_7 : (List (List Int))) (l_8 : (List Bool)) : Option (Bool × Int) :=
  G (fits (t_1 + (1 : Int))) (
  r17 (t_1 + (1 : Int)) l_7 l_8)
noncomputable def buchi_Accepts_L23_B (a : Tp2) (t : Int) (r11 : (Int → (List (List Int)) → (List Bool) → Option (Bool × Int))) (r23 : Int → (List (List Int)) → (List Bool) → Option (Bool × Int)) (t_2 : Int) (l_9 : (List (List Int))) (l_10 : (List Bool)) : Option (Bool × Int) :=
  if (decide (t_2 < (a.2.2.2.2.1.length : Int))) = true then
  G (0 ≤ t_2 ∧ t_2 < (a.2.2.2.2.1.length : Int)) (
  G (fits (t * a.2.1)) (
  G (fits ((t * a.2.1) + (ix a.2.2.2.2.1 t_2))) (
  G (0 ≤ (t * a.2.1) + (ix a.2.2.2.2.1 t_2) ∧ (t * a.2.1) + (ix a.2.2.2.2.1 t_2) < (l_10.length : Int)) (
  G (((t * a.2.1) + (ix a.2.2.2.2.1 t_2)).toNat < l_10.length) (
  G (fits (t_2 + (1 : Int))) (
  r23 (t_2 + (1 : Int)) l_9 (l_10.set ((t * a.2.1) + (ix a.2.2.2.2.1 t_2)).toNat true))))))) else
  G (fits (t + (1 : Int))) (
  r11 (t + (1 : Int)) l_9 l_10)
noncomputable def buchi_Accepts_L23_F (a : Tp2) (t : Int) (r11 : (Int → (List (List Int)) → (List Bool) → Option (Bool × Int))) : (Int × (List (List Int)) × (List Bool) → Option (Bool × Int)) → Int × (List (List Int)) × (List Bool) → Option (Bool × Int) :=
  fun rec x => buchi_Accepts_L23_B a t r11 (fun t_2 l_9 l_10 => rec (t_2, l_9, l_10)) x.1 x.2.1 x.2.2
noncomputable def buchi_Accepts_L23 (a : Tp2) (t : Int) (r11 : (Int → (List (List Int)) → (List Bool) → Option (Bool × Int))) (t_2 : Int) (l_9 : (List (List Int))) (l_10 : (List Bool)) : Option (Bool × Int) := LFix (buchi_Accepts_L23_F a t r11 ) (t_2, l_9, l_10)
noncomputable def buchi_Accepts_L17_B (a : Tp2) (l : Tp4) (y'_2 : (List Int)) (t : Int) (r11 : (Int → (List (List Int)) → (List Bool) → Option (Bool × Int))) (to : Int) (r17 : Int → (List (List Int)) → (List Bool) → Option (Bool × Int)) (t_1 : Int) (l_5 : (List (List Int))) (l_6 : (List Bool)) : Option (Bool × Int) :=
  if (decide (t_1 < (a.2.2.2.1.length : Int))) = true then
  G (0 ≤ t_1 ∧ t_1 < (a.2.2.2.1.length : Int)) (
  if (decide ((((ix a.2.2.2.1 t_1).2).1) = (ix (y'_2 ++ l.2.1) t))) = true then
  G (fits (t * a.2.1)) (
  G (fits ((t * a.2.1) + ((ix a.2.2.2.1 t_1).1))) (
  G (0 ≤ (t * a.2.1) + ((ix a.2.2.2.1 t_1).1) ∧ (t * a.2.1) + ((ix a.2.2.2.1 t_1).1) < (l_5.length : Int)) (
  G (((t * a.2.1) + ((ix a.2.2.2.1 t_1).1)).toNat < l_5.length) (
  G (fits (to * a.2.1)) (
  G (fits ((to * a.2.1) + ((((ix a.2.2.2.1 t_1).2).2).1))) (
  both [.bool, (.int .i64)] (
  both [.bool, (.int .i64)] (
  G (fits (t * a.2.1)) (
  both [.bool, (.int .i64)] (
  G (fits ((t * a.2.1) + ((ix a.2.2.2.1 t_1).1))) (
  G (((t * a.2.1) + ((ix a.2.2.2.1 t_1).1)).toNat < l_5.length) (
  G (room (ix l_5 ((t * a.2.1) + ((ix a.2.2.2.1 t_1).1))) ([(to * a.2.1) + ((((ix a.2.2.2.1 t_1).2).2).1)]) 8) (
  G (0 ≤ (t * a.2.1) + ((ix a.2.2.2.1 t_1).1) ∧ (t * a.2.1) + ((ix a.2.2.2.1 t_1).1) < (l_5.length : Int)) (
  G (((t * a.2.1) + ((ix a.2.2.2.1 t_1).1)).toNat = ((t * a.2.1) + ((ix a.2.2.2.1 t_1).1)).toNat) (
  buchi_Accepts_J20 t_1 r17 (l_5.set ((t * a.2.1) + ((ix a.2.2.2.1 t_1).1)).toNat ((ix l_5 ((t * a.2.1) + ((ix a.2.2.2.1 t_1).1))) ++ ([(to * a.2.1) + ((((ix a.2.2.2.1 t_1).2).2).1)]))) l_6)))))) (
  G (((t * a.2.1) + ((ix a.2.2.2.1 t_1).1)).toNat < l_5.length) (
  G (room (ix l_5 ((t * a.2.1) + ((ix a.2.2.2.1 t_1).1))) ([(to * a.2.1) + ((((ix a.2.2.2.1 t_1).2).2).1)]) 8) (
  G (fits ((t * a.2.1) + ((ix a.2.2.2.1 t_1).1))) (
  G (0 ≤ (t * a.2.1) + ((ix a.2.2.2.1 t_1).1) ∧ (t * a.2.1) + ((ix a.2.2.2.1 t_1).1) < (l_5.length : Int)) (
  G (((t * a.2.1) + ((ix a.2.2.2.1 t_1).1)).toNat = ((t * a.2.1) + ((ix a.2.2.2.1 t_1).1)).toNat) (
  buchi_Accepts_J20 t_1 r17 (l_5.set ((t * a.2.1) + ((ix a.2.2.2.1 t_1).1)).toNat ((ix l_5 ((t * a.2.1) + ((ix a.2.2.2.1 t_1).1))) ++ ([(to * a.2.1) + ((((ix a.2.2.2.1 t_1).2).2).1)]))) l_6)))))))) (
  both [.bool, (.int .i64)] (
  G (((t * a.2.1) + ((ix a.2.2.2.1 t_1).1)).toNat < l_5.length) (
  G (room (ix l_5 ((t * a.2.1) + ((ix a.2.2.2.1 t_1).1))) ([(to * a.2.1) + ((((ix a.2.2.2.1 t_1).2).2).1)]) 8) (
  G (fits (t * a.2.1)) (
  G (fits ((t * a.2.1) + ((ix a.2.2.2.1 t_1).1))) (
  G (0 ≤ (t * a.2.1) + ((ix a.2.2.2.1 t_1).1) ∧ (t * a.2.1) + ((ix a.2.2.2.1 t_1).1) < (l_5.length : Int)) (
  G (((t * a.2.1) + ((ix a.2.2.2.1 t_1).1)).toNat = ((t * a.2.1) + ((ix a.2.2.2.1 t_1).1)).toNat) (
  buchi_Accepts_J20 t_1 r17 (l_5.set ((t * a.2.1) + ((ix a.2.2.2.1 t_1).1)).toNat ((ix l_5 ((t * a.2.1) + ((ix a.2.2.2.1 t_1).1))) ++ ([(to * a.2.1) + ((((ix a.2.2.2.1 t_1).2).2).1)]))) l_6))))))) (
  G (((t * a.2.1) + ((ix a.2.2.2.1 t_1).1)).toNat < l_5.length) (
  G (room (ix l_5 ((t * a.2.1) + ((ix a.2.2.2.1 t_1).1))) ([(to * a.2.1) + ((((ix a.2.2.2.1 t_1).2).2).1)]) 8) (
  G (fits (t * a.2.1)) (
  G (fits ((t * a.2.1) + ((ix a.2.2.2.1 t_1).1))) (
  G (0 ≤ (t * a.2.1) + ((ix a.2.2.2.1 t_1).1) ∧ (t * a.2.1) + ((ix a.2.2.2.1 t_1).1) < (l_5.length : Int)) (
  G (((t * a.2.1) + ((ix a.2.2.2.1 t_1).1)).toNat = ((t * a.2.1) + ((ix a.2.2.2.1 t_1).1)).toNat) (
  buchi_Accepts_J20 t_1 r17 (l_5.set ((t * a.2.1) + ((ix a.2.2.2.1 t_1).1)).toNat ((ix l_5 ((t * a.2.1) + ((ix a.2.2.2.1 t_1).1))) ++ ([(to * a.2.1) + ((((ix a.2.2.2.1 t_1).2).2).1)]))) l_6))))))))) (
  both [.bool, (.int .i64)] (
  G (fits (t * a.2.1)) (
  both [.bool, (.int .i64)] (
  G (fits ((t * a.2.1) + ((ix a.2.2.2.1 t_1).1))) (
  G (((t * a.2.1) + ((ix a.2.2.2.1 t_1).1)).toNat < l_5.length) (
  G (room (ix l_5 ((t * a.2.1) + ((ix a.2.2.2.1 t_1).1))) ([(to * a.2.1) + ((((ix a.2.2.2.1 t_1).2).2).1)]) 8) (
  G (0 ≤ (t * a.2.1) + ((ix a.2.2.2.1 t_1).1) ∧ (t * a.2.1) + ((ix a.2.2.2.1 t_1).1) < (l_5.length : Int)) (
  G (((t * a.2.1) + ((ix a.2.2.2.1 t_1).1)).toNat = ((t * a.2.1) + ((ix a.2.2.2.1 t_1).1)).toNat) (
  buchi_Accepts_J20 t_1 r17 (l_5.set ((t * a.2.1) + ((ix a.2.2.2.1 t_1).1)).toNat ((ix l_5 ((t * a.2.1) + ((ix a.2.2.2.1 t_1).1))) ++ ([(to * a.2.1) + ((((ix a.2.2.2.1 t_1).2).2).1)]))) l_6)))))) (
  G (((t * a.2.1) + ((ix a.2.2.2.1 t_1).1)).toNat < l_5.length) (
  G (room (ix l_5 ((t * a.2.1) + ((ix a.2.2.2.1 t_1).1))) ([(to * a.2.1) + ((((ix a.2.2.2.1 t_1).2).2).1)]) 8) (
  G (fits ((t * a.2.1) + ((ix a.2.2.2.1 t_1).1))) (
  G (0 ≤ (t * a.2.1) + ((ix a.2.2.2.1 t_1).1) ∧ (t * a.2.1) + ((ix a.2.2.2.1 t_1).1) < (l_5.length : Int)) (
  G (((t * a.2.1) + ((ix a.2.2.2.1 t_1).1)).toNat = ((t * a.2.1) + ((ix a.2.2.2.1 t_1).1)).toNat) (
  buchi_Accepts_J20 t_1 r17 (l_5.set ((t * a.2.1) + ((ix a.2.2.2.1 t_1).1)).toNat ((ix l_5 ((t * a.2.1) + ((ix a.2.2.2.1 t_1).1))) ++ ([(to * a.2.1) + ((((ix a.2.2.2.1 t_1).2).2).1)]))) l_6)))))))) (
  both [.bool, (.int .i64)] (
  G (((t * a.2.1) + ((ix a.2.2.2.1 t_1).1)).toNat < l_5.length) (
  G (room (ix l_5 ((t * a.2.1) + ((ix a.2.2.2.1 t_1).1))) ([(to * a.2.1) + ((((ix a.2.2.2.1 t_1).2).2).1)]) 8) (
  G (fits (t * a.2.1)) (
  G (fits ((t * a.2.1) + ((ix a.2.2.2.1 t_1).1))) (
  G (0 ≤ (t * a.2.1) + ((ix a.2.2.2.1 t_1).1) ∧ (t * a.2.1) + ((ix a.2.2.2.1 t_1).1) < (l_5.length : Int)) (
  G (((t * a.2.1) + ((ix a.2.2.2.1 t_1).1)).toNat = ((t * a.2.1) + ((ix a.2.2.2.1 t_1).1)).toNat) (
  buchi_Accepts_J20 t_1 r17 (l_5.set ((t * a.2.1) + ((ix a.2.2.2.1 t_1).1)).toNat ((ix l_5 ((t * a.2.1) + ((ix a.2.2.2.1 t_1).1))) ++ ([(to * a.2.1) + ((((ix a.2.2.2.1 t_1).2).2).1)]))) l_6))))))) (
  G (((t * a.2.1) + ((ix a.2.2.2.1 t_1).1)).toNat < l_5.length) (
  G (room (ix l_5 ((t * a.2.1) + ((ix a.2.2.2.1 t_1).1))) ([(to * a.2.1) + ((((ix a.2.2.2.1 t_1).2).2).1)]) 8) (
  G (fits (t * a.2.1)) (
  G (fits ((t * a.2.1) + ((ix a.2.2.2.1 t_1).1))) (
  G (0 ≤ (t * a.2.1) + ((ix a.2.2.2.1 t_1).1) ∧ (t * a.2.1) + ((ix a.2.2.2.1 t_1).1) < (l_5.length : Int)) (
  G (((t * a.2.1) + ((ix a.2.2.2.1 t_1).1)).toNat = ((t * a.2.1) + ((ix a.2.2.2.1 t_1).1)).toNat) (
  buchi_Accepts_J20 t_1 r17 (l_5.set ((t * a.2.1) + ((ix a.2.2.2.1 t_1).1)).toNat ((ix l_5 ((t * a.2.1) + ((ix a.2.2.2.1 t_1).1))) ++ ([(to * a.2.1) + ((((ix a.2.2.2.1 t_1).2).2).1)]))) l_6))))))))))))))) else
  buchi_Accepts_J20 t_1 r17 l_5 l_6) else
  buchi_Accepts_L23 a t r11 (0 : Int) l_5 l_6
noncomputable def buchi_Accepts_L17_F (a : Tp2) (l : Tp4) (y'_2 : (List Int)) (t : Int) (r11 : (Int → (List (List Int)) → (List Bool) → Option (Bool × Int))) (to : Int) : (Int × (List (List Int)) × (List Bool) → Option (Bool × Int)) → Int × (List (List Int)) × (List Bool) → Option (Bool × Int) :=
  fun rec x => buchi_Accepts_L17_B a l y'_2 t r11 to (fun t_1 l_5 l_6 => rec (t_1, l_5, l_6)) x.1 x.2.1 x.2.2
noncomputable def buchi_Accepts_L17 (a : Tp2) (l : Tp4) (y'_2 : (List Int)) (t : Int) (r11 : (Int → (List (List Int)) → (List Bool) → Option (Bool × Int))) (to : Int) (t_1 : Int) (l_5 : (List (List Int))) (l_6 : (List Bool)) : Option (Bool × Int) := LFix (buchi_Accepts_L17_F a l y'_2 t r11 to ) (t_1, l_5, l_6)
noncomputable def buchi_Accepts_J15 (a : Tp2) (l : Tp4) (y'_2 : (List Int)) (t : Int) (l_3 : (List (List Int))) (l_4 : (List Bool)) (r11 : (Int → (List (List Int)) → (List Bool) → Option (Bool × Int))) (to : Int) : Option (Bool × Int) :=
  buchi_Accepts_L17 a l y'_2 t r11 to (0 : Int) l_3 l_4
noncomputable def buchi_Accepts_L35_B (l_3 : (List (List Int))) (l_4 : (List Bool)) (seen : (List Bool)) (r35 : Int → Option (Bool × Int)) (t_4 : Int) : Option (Bool × Int) :=
  if (decide (t_4 < (seen.length : Int))) = true then
  G (0 ≤ t_4 ∧ t_4 < (seen.length : Int)) (
  G ((t_4).toNat < seen.length) (
  if (ix seen t_4) = true then
  G (0 ≤ t_4 ∧ t_4 < (l_4.length : Int)) (
  G ((t_4).toNat < l_4.length) (
  if (ix l_4 t_4) = true then
  (buchi_graph_reach (l_3, (l_4, ())) ([t_4])).bind (fun y'_4 =>
  G (0 ≤ t_4 ∧ t_4 < (y'_4.length : Int)) (
  G ((t_4).toNat < y'_4.length) (
  if (ix y'_4 t_4) = true then
  some (true, (0 : Int)) else
  G (fits (t_4 + (1 : Int))) (
  r35 (t_4 + (1 : Int)))))) else
  G (fits (t_4 + (1 : Int))) (
  r35 (t_4 + (1 : Int))))) else
  G (fits (t_4 + (1 : Int))) (
  r35 (t_4 + (1 : Int))))) else
  some (false, (0 : Int))
noncomputable def buchi_Accepts_L35_F (l_3 : (List (List Int))) (l_4 : (List Bool)) (seen : (List Bool)) : (Int → Option (Bool × Int)) → Int → Option (Bool × Int) :=
  fun rec x => buchi_Accepts_L35_B l_3 l_4 seen (fun t_4 => rec t_4) x
noncomputable def buchi_Accepts_L35 (l_3 : (List (List Int))) (l_4 : (List Bool)) (seen : (List Bool)) (t_4 : Int) : Option (Bool × Int) := LFix (buchi_Accepts_L35_F l_3 l_4 seen ) t_4
noncomputable def buchi_Accepts_L30_B (a : Tp2) (l_3 : (List (List Int))) (l_4 : (List Bool)) (r30 : Int → (List Bool) → Option (Bool × Int)) (t_3 : Int) (seen : (List Bool)) : Option (Bool × Int) :=
  if (decide (t_3 < (a.2.2.1.length : Int))) = true then
  G (0 ≤ t_3 ∧ t_3 < (a.2.2.1.length : Int)) (
  G (0 ≤ ix a.2.2.1 t_3 ∧ ix a.2.2.1 t_3 < (seen.length : Int)) (
  G ((ix a.2.2.1 t_3).toNat < seen.length) (
  G (fits (t_3 + (1 : Int))) (
  r30 (t_3 + (1 : Int)) (seen.set (ix a.2.2.1 t_3).toNat true))))) else
  buchi_Accepts_L35 l_3 l_4 seen (0 : Int)
noncomputable def buchi_Accepts_L30_F (a : Tp2) (l_3 : (List (List Int))) (l_4 : (List Bool)) : (Int × (List Bool) → Option (Bool × Int)) → Int × (List Bool) → Option (Bool × Int) :=
  fun rec x => buchi_Accepts_L30_B a l_3 l_4 (fun t_3 seen => rec (t_3, seen)) x.1 x.2
noncomputable def buchi_Accepts_L30 (a : Tp2) (l_3 : (List (List Int))) (l_4 : (List Bool)) (t_3 : Int) (seen : (List Bool)) : Option (Bool × Int) := LFix (buchi_Accepts_L30_F a l_3 l_4 ) (t_3, seen)
noncomputable def buchi_Accepts_L11_B (a : Tp2) (l : Tp4) (y'_2 : (List Int)) (r11 : Int → (List (List Int)) → (List Bool) → Option (Bool × Int)) (t : Int) (l_3 : (List (List Int))) (l_4 : (List Bool)) : Option (Bool × Int) :=
  if (decide (t < ((y'_2 ++ l.2.1).length : Int))) = true then
  G (0 ≤ t ∧ t < ((y'_2 ++ l.2.1).length : Int)) (
  G ((t).toNat < (y'_2 ++ l.2.1).length) (
  G (fits (t + (1 : Int))) (
  if (decide ((t + (1 : Int)) = ((y'_2 ++ l.2.1).length : Int))) = true then
  buchi_Accepts_J15 a l y'_2 t l_3 l_4 r11 (l.1.length : Int) else
  buchi_Accepts_J15 a l y'_2 t l_3 l_4 r11 (t + (1 : Int))))) else
  (buchi_graph_reach (l_3, (l_4, ())) a.2.2.1).bind (fun y'_3 =>
  buchi_Accepts_L30 a l_3 l_4 (0 : Int) y'_3)
noncomputable def buchi_Accepts_L11_F (a : Tp2) (l : Tp4) (y'_2 : (List Int)) : (Int × (List (List Int)) × (List Bool) → Option (Bool × Int)) → Int × (List (List Int)) × (List Bool) → Option (Bool × Int) :=
  fun rec x => buchi_Accepts_L11_B a l y'_2 (fun t l_3 l_4 => rec (t, l_3, l_4)) x.1 x.2.1 x.2.2
noncomputable def buchi_Accepts_L11 (a : Tp2) (l : Tp4) (y'_2 : (List Int)) (t : Int) (l_3 : (List (List Int))) (l_4 : (List Bool)) : Option (Bool × Int) := LFix (buchi_Accepts_L11_F a l y'_2 ) (t, l_3, l_4)
noncomputable def buchi_Accepts_J9 (a : Tp2) (l : Tp4) (y'_2 : (List Int)) (l_1 : (List (List Int))) (l_2 : (List Bool)) : Option (Bool × Int) :=
  buchi_Accepts_L11 a l y'_2 (0 : Int) l_1 l_2
noncomputable def buchi_Accepts (a : Tp2) (l : Tp4) : Option (Bool × Int) :=
  (buchi_Check (a.1, (a.2.1, (a.2.2.1, (a.2.2.2.1, (a.2.2.2.2.1, ())))))).bind (fun y' =>
  if (decide (¬ y' = (0 : Int))) = true then
  some (false, y') else
  (word_Lasso a.1 (l.1, (l.2.1, ()))).bind (fun y'_1 =>
  if (decide (¬ y'_1 = (0 : Int))) = true then
  some (false, y'_1) else
  (slices_Clone l.1).bind (fun y'_2 =>
  G (room y'_2 l.2.1 8) (
  G (fits (a.2.1 * ((y'_2 ++ l.2.1).length : Int))) (
  both [.bool, (.int .i64)] (
  G (fits (a.2.1 * ((y'_2 ++ l.2.1).length : Int))) (
  both [.bool, (.int .i64)] (
  G (mkOK (a.2.1 * ((y'_2 ++ l.2.1).length : Int)) (a.2.1 * ((y'_2 ++ l.2.1).length : Int)) 24) (
  G (mkOK (a.2.1 * ((y'_2 ++ l.2.1).length : Int)) (a.2.1 * ((y'_2 ++ l.2.1).length : Int)) 1) (
  buchi_Accepts_J9 a l y'_2 (List.replicate (a.2.1 * ((y'_2 ++ l.2.1).length : Int)).toNat ([] : List Int)) (List.replicate (a.2.1 * ((y'_2 ++ l.2.1).length : Int)).toNat (false : Bool))))) (
  G (mkOK (a.2.1 * ((y'_2 ++ l.2.1).length : Int)) (a.2.1 * ((y'_2 ++ l.2.1).length : Int)) 1) (
  G (mkOK (a.2.1 * ((y'_2 ++ l.2.1).length : Int)) (a.2.1 * ((y'_2 ++ l.2.1).length : Int)) 24) (
  buchi_Accepts_J9 a l y'_2 (List.replicate (a.2.1 * ((y'_2 ++ l.2.1).length : Int)).toNat ([] : List Int)) (List.replicate (a.2.1 * ((y'_2 ++ l.2.1).length : Int)).toNat (false : Bool))))))) (
  G (mkOK (a.2.1 * ((y'_2 ++ l.2.1).length : Int)) (a.2.1 * ((y'_2 ++ l.2.1).length : Int)) 24) (
  G (fits (a.2.1 * ((y'_2 ++ l.2.1).length : Int))) (
  G (mkOK (a.2.1 * ((y'_2 ++ l.2.1).length : Int)) (a.2.1 * ((y'_2 ++ l.2.1).length : Int)) 1) (
  buchi_Accepts_J9 a l y'_2 (List.replicate (a.2.1 * ((y'_2 ++ l.2.1).length : Int)).toNat ([] : List Int)) (List.replicate (a.2.1 * ((y'_2 ++ l.2.1).length : Int)).toNat (false : Bool)))))))))))
theorem buchi_Accepts_J20_ch (r17 : Nat → Int → (List (List Int)) → (List Bool) → Option (Bool × Int)) (r17' : Int → (List (List Int)) → (List Bool) → Option (Bool × Int)) (h_r17 : ∀ a0 a1 a2, ChO (fun κ => r17 κ a0 a1 a2) (r17' a0 a1 a2)) (t_1 : Int) (l_7 : (List (List Int))) (l_8 : (List Bool)) : ChO (fun κ => buchi_Accepts_J20 t_1 (r17 κ) l_7 l_8) (buchi_Accepts_J20 t_1 r17' l_7 l_8) := by
  unfold buchi_Accepts_J20
  repeat' with_reducible first | exact ChO.const _ | exact h_r17 _ _ _ | apply ChO.ite | apply ChO.G | apply ChO.both | (apply ChO.bind; intro _)
theorem buchi_Accepts_L23_B_ch (r11 : Nat → Int → (List (List Int)) → (List Bool) → Option (Bool × Int)) (r11' : Int → (List (List Int)) → (List Bool) → Option (Bool × Int)) (h_r11 : ∀ a0 a1 a2, ChO (fun κ => r11 κ a0 a1 a2) (r11' a0 a1 a2)) (r23 : Nat → Int → (List (List Int)) → (List Bool) → Option (Bool × Int)) (r23' : Int → (List (List Int)) → (List Bool) → Option (Bool × Int)) (h_r23 : ∀ a0 a1 a2, ChO (fun κ => r23 κ a0 a1 a2) (r23' a0 a1 a2)) (a : Tp2) (t : Int) (t_2 : Int) (l_9 : (List (List Int))) (l_10 : (List Bool)) : ChO (fun κ => buchi_Accepts_L23_B a t (r11 κ) (r23 κ) t_2 l_9 l_10) (buchi_Accepts_L23_B a t r11' r23' t_2 l_9 l_10) := by
  unfold buchi_Accepts_L23_B
  repeat' with_reducible first | exact ChO.const _ | exact h_r11 _ _ _ | exact h_r23 _ _ _ | (apply buchi_Accepts_J20_ch <;> assumption) | apply ChO.ite | apply ChO.G | apply ChO.both | (apply ChO.bind; intro _)
theorem buchi_Accepts_L23_cn (r11 : Int → (List (List Int)) → (List Bool) → Option (Bool × Int)) (a : Tp2) (t : Int) : Cn (buchi_Accepts_L23_F a t r11) := fun g h hg x => buchi_Accepts_L23_B_ch (fun _ => r11) r11 (fun _ _ _ => ChO.const _) (fun κ t_2 l_9 l_10 => g κ (t_2, l_9, l_10)) (fun t_2 l_9 l_10 => h (t_2, l_9, l_10)) (fun t_2 l_9 l_10 => hg (t_2, l_9, l_10)) a t x.1 x.2.1 x.2.2
theorem buchi_Accepts_L23_eq (r11 : Int → (List (List Int)) → (List Bool) → Option (Bool × Int)) (a : Tp2) (t : Int) (t_2 : Int) (l_9 : (List (List Int))) (l_10 : (List Bool)) : buchi_Accepts_L23 a t r11 t_2 l_9 l_10 = buchi_Accepts_L23_B a t r11 (buchi_Accepts_L23 a t r11) t_2 l_9 l_10 := LFix_eq (buchi_Accepts_L23_cn r11 a t) (t_2, l_9, l_10)
theorem buchi_Accepts_L23_ch (r11 : Nat → Int → (List (List Int)) → (List Bool) → Option (Bool × Int)) (r11' : Int → (List (List Int)) → (List Bool) → Option (Bool × Int)) (h_r11 : ∀ a0 a1 a2, ChO (fun κ => r11 κ a0 a1 a2) (r11' a0 a1 a2)) (a : Tp2) (t : Int) (t_2 : Int) (l_9 : (List (List Int))) (l_10 : (List Bool)) : ChO (fun κ => buchi_Accepts_L23 a t (r11 κ) t_2 l_9 l_10) (buchi_Accepts_L23 a t r11' t_2 l_9 l_10) := by
  unfold buchi_Accepts_L23
  exact LFix_ch (fun κ => (buchi_Accepts_L23_cn (r11 κ) a t).mono) (buchi_Accepts_L23_cn r11' a t).mono (fun g h hg x => buchi_Accepts_L23_B_ch r11 r11' h_r11 (fun κ t_2 l_9 l_10 => g κ (t_2, l_9, l_10)) (fun t_2 l_9 l_10 => h (t_2, l_9, l_10)) (fun t_2 l_9 l_10 => hg (t_2, l_9, l_10)) a t x.1 x.2.1 x.2.2) _
theorem buchi_Accepts_L17_B_ch (r11 : Nat → Int → (List (List Int)) → (List Bool) → Option (Bool × Int)) (r11' : Int → (List (List Int)) → (List Bool) → Option (Bool × Int)) (h_r11 : ∀ a0 a1 a2, ChO (fun κ => r11 κ a0 a1 a2) (r11' a0 a1 a2)) (r17 : Nat → Int → (List (List Int)) → (List Bool) → Option (Bool × Int)) (r17' : Int → (List (List Int)) → (List Bool) → Option (Bool × Int)) (h_r17 : ∀ a0 a1 a2, ChO (fun κ => r17 κ a0 a1 a2) (r17' a0 a1 a2)) (a : Tp2) (l : Tp4) (y'_2 : (List Int)) (t : Int) (to : Int) (t_1 : Int) (l_5 : (List (List Int))) (l_6 : (List Bool)) : ChO (fun κ => buchi_Accepts_L17_B a l y'_2 t (r11 κ) to (r17 κ) t_1 l_5 l_6) (buchi_Accepts_L17_B a l y'_2 t r11' to r17' t_1 l_5 l_6) := by
  unfold buchi_Accepts_L17_B
  repeat' with_reducible first | exact ChO.const _ | exact h_r11 _ _ _ | exact h_r17 _ _ _ | (apply buchi_Accepts_J20_ch <;> assumption) | (apply buchi_Accepts_L23_ch <;> assumption) | apply ChO.ite | apply ChO.G | apply ChO.both | (apply ChO.bind; intro _)
theorem buchi_Accepts_L17_cn (r11 : Int → (List (List Int)) → (List Bool) → Option (Bool × Int)) (a : Tp2) (l : Tp4) (y'_2 : (List Int)) (t : Int) (to : Int) : Cn (buchi_Accepts_L17_F a l y'_2 t r11 to) := fun g h hg x => buchi_Accepts_L17_B_ch (fun _ => r11) r11 (fun _ _ _ => ChO.const _) (fun κ t_1 l_5 l_6 => g κ (t_1, l_5, l_6)) (fun t_1 l_5 l_6 => h (t_1, l_5, l_6)) (fun t_1 l_5 l_6 => hg (t_1, l_5, l_6)) a l y'_2 t to x.1 x.2.1 x.2.2
theorem buchi_Accepts_L17_eq (r11 : Int → (List (List Int)) → (List Bool) → Option (Bool × Int)) (a : Tp2) (l : Tp4) (y'_2 : (List Int)) (t : Int) (to : Int) (t_1 : Int) (l_5 : (List (List Int))) (l_6 : (List Bool)) : buchi_Accepts_L17 a l y'_2 t r11 to t_1 l_5 l_6 = buchi_Accepts_L17_B a l y'_2 t r11 to (buchi_Accepts_L17 a l y'_2 t r11 to) t_1 l_5 l_6 := LFix_eq (buchi_Accepts_L17_cn r11 a l y'_2 t to) (t_1, l_5, l_6)
theorem buchi_Accepts_L17_ch (r11 : Nat → Int → (List (List Int)) → (List Bool) → Option (Bool × Int)) (r11' : Int → (List (List Int)) → (List Bool) → Option (Bool × Int)) (h_r11 : ∀ a0 a1 a2, ChO (fun κ => r11 κ a0 a1 a2) (r11' a0 a1 a2)) (a : Tp2) (l : Tp4) (y'_2 : (List Int)) (t : Int) (to : Int) (t_1 : Int) (l_5 : (List (List Int))) (l_6 : (List Bool)) : ChO (fun κ => buchi_Accepts_L17 a l y'_2 t (r11 κ) to t_1 l_5 l_6) (buchi_Accepts_L17 a l y'_2 t r11' to t_1 l_5 l_6) := by
  unfold buchi_Accepts_L17
  exact LFix_ch (fun κ => (buchi_Accepts_L17_cn (r11 κ) a l y'_2 t to).mono) (buchi_Accepts_L17_cn r11' a l y'_2 t to).mono (fun g h hg x => buchi_Accepts_L17_B_ch r11 r11' h_r11 (fun κ t_1 l_5 l_6 => g κ (t_1, l_5, l_6)) (fun t_1 l_5 l_6 => h (t_1, l_5, l_6)) (fun t_1 l_5 l_6 => hg (t_1, l_5, l_6)) a l y'_2 t to x.1 x.2.1 x.2.2) _
theorem buchi_Accepts_J15_ch (r11 : Nat → Int → (List (List Int)) → (List Bool) → Option (Bool × Int)) (r11' : Int → (List (List Int)) → (List Bool) → Option (Bool × Int)) (h_r11 : ∀ a0 a1 a2, ChO (fun κ => r11 κ a0 a1 a2) (r11' a0 a1 a2)) (a : Tp2) (l : Tp4) (y'_2 : (List Int)) (t : Int) (l_3 : (List (List Int))) (l_4 : (List Bool)) (to : Int) : ChO (fun κ => buchi_Accepts_J15 a l y'_2 t l_3 l_4 (r11 κ) to) (buchi_Accepts_J15 a l y'_2 t l_3 l_4 r11' to) := by
  unfold buchi_Accepts_J15
  repeat' with_reducible first | exact ChO.const _ | exact h_r11 _ _ _ | (apply buchi_Accepts_J20_ch <;> assumption) | (apply buchi_Accepts_L23_ch <;> assumption) | (apply buchi_Accepts_L17_ch <;> assumption) | apply ChO.ite | apply ChO.G | apply ChO.both | (apply ChO.bind; intro _)
theorem buchi_Accepts_L35_B_ch (r35 : Nat → Int → Option (Bool × Int)) (r35' : Int → Option (Bool × Int)) (h_r35 : ∀ a0, ChO (fun κ => r35 κ a0) (r35' a0)) (l_3 : (List (List Int))) (l_4 : (List Bool)) (seen : (List Bool)) (t_4 : Int) : ChO (fun κ => buchi_Accepts_L35_B l_3 l_4 seen (r35 κ) t_4) (buchi_Accepts_L35_B l_3 l_4 seen r35' t_4) := by
  unfold buchi_Accepts_L35_B
  repeat' with_reducible first | exact ChO.const _ | exact h_r35 _ | (apply buchi_Accepts_J20_ch <;> assumption) | (apply buchi_Accepts_L23_ch <;> assumption) | (apply buchi_Accepts_L17_ch <;> assumption) | (apply buchi_Accepts_J15_ch <;> assumption) | apply ChO.ite | apply ChO.G | apply ChO.both | (apply ChO.bind; intro _)
theorem buchi_Accepts_L35_cn  (l_3 : (List (List Int))) (l_4 : (List Bool)) (seen : (List Bool)) : Cn (buchi_Accepts_L35_F l_3 l_4 seen) := fun g h hg x => buchi_Accepts_L35_B_ch  (fun κ t_4 => g κ t_4) (fun t_4 => h t_4) (fun t_4 => hg t_4) l_3 l_4 seen x
theorem buchi_Accepts_L35_eq  (l_3 : (List (List Int))) (l_4 : (List Bool)) (seen : (List Bool)) (t_4 : Int) : buchi_Accepts_L35 l_3 l_4 seen t_4 = buchi_Accepts_L35_B l_3 l_4 seen (buchi_Accepts_L35 l_3 l_4 seen) t_4 := LFix_eq (buchi_Accepts_L35_cn l_3 l_4 seen) t_4
theorem buchi_Accepts_L30_B_ch (r30 : Nat → Int → (List Bool) → Option (Bool × Int)) (r30' : Int → (List Bool) → Option (Bool × Int)) (h_r30 : ∀ a0 a1, ChO (fun κ => r30 κ a0 a1) (r30' a0 a1)) (a : Tp2) (l_3 : (List (List Int))) (l_4 : (List Bool)) (t_3 : Int) (seen : (List Bool)) : ChO (fun κ => buchi_Accepts_L30_B a l_3 l_4 (r30 κ) t_3 seen) (buchi_Accepts_L30_B a l_3 l_4 r30' t_3 seen) := by
  unfold buchi_Accepts_L30_B
  repeat' with_reducible first | exact ChO.const _ | exact h_r30 _ _ | (apply buchi_Accepts_J20_ch <;> assumption) | (apply buchi_Accepts_L23_ch <;> assumption) | (apply buchi_Accepts_L17_ch <;> assumption) | (apply buchi_Accepts_J15_ch <;> assumption) | apply ChO.ite | apply ChO.G | apply ChO.both | (apply ChO.bind; intro _)
theorem buchi_Accepts_L30_cn  (a : Tp2) (l_3 : (List (List Int))) (l_4 : (List Bool)) : Cn (buchi_Accepts_L30_F a l_3 l_4) := fun g h hg x => buchi_Accepts_L30_B_ch  (fun κ t_3 seen => g κ (t_3, seen)) (fun t_3 seen => h (t_3, seen)) (fun t_3 seen => hg (t_3, seen)) a l_3 l_4 x.1 x.2
theorem buchi_Accepts_L30_eq  (a : Tp2) (l_3 : (List (List Int))) (l_4 : (List Bool)) (t_3 : Int) (seen : (List Bool)) : buchi_Accepts_L30 a l_3 l_4 t_3 seen = buchi_Accepts_L30_B a l_3 l_4 (buchi_Accepts_L30 a l_3 l_4) t_3 seen := LFix_eq (buchi_Accepts_L30_cn a l_3 l_4) (t_3, seen)
theorem buchi_Accepts_L11_B_ch (r11 : Nat → Int → (List (List Int)) → (List Bool) → Option (Bool × Int)) (r11' : Int → (List (List Int)) → (List Bool) → Option (Bool × Int)) (h_r11 : ∀ a0 a1 a2, ChO (fun κ => r11 κ a0 a1 a2) (r11' a0 a1 a2)) (a : Tp2) (l : Tp4) (y'_2 : (List Int)) (t : Int) (l_3 : (List (List Int))) (l_4 : (List Bool)) : ChO (fun κ => buchi_Accepts_L11_B a l y'_2 (r11 κ) t l_3 l_4) (buchi_Accepts_L11_B a l y'_2 r11' t l_3 l_4) := by
  unfold buchi_Accepts_L11_B
  repeat' with_reducible first | exact ChO.const _ | exact h_r11 _ _ _ | (apply buchi_Accepts_J20_ch <;> assumption) | (apply buchi_Accepts_L23_ch <;> assumption) | (apply buchi_Accepts_L17_ch <;> assumption) | (apply buchi_Accepts_J15_ch <;> assumption) | apply ChO.ite | apply ChO.G | apply ChO.both | (apply ChO.bind; intro _)
theorem buchi_Accepts_L11_cn  (a : Tp2) (l : Tp4) (y'_2 : (List Int)) : Cn (buchi_Accepts_L11_F a l y'_2) := fun g h hg x => buchi_Accepts_L11_B_ch  (fun κ t l_3 l_4 => g κ (t, l_3, l_4)) (fun t l_3 l_4 => h (t, l_3, l_4)) (fun t l_3 l_4 => hg (t, l_3, l_4)) a l y'_2 x.1 x.2.1 x.2.2
theorem buchi_Accepts_L11_eq  (a : Tp2) (l : Tp4) (y'_2 : (List Int)) (t : Int) (l_3 : (List (List Int))) (l_4 : (List Bool)) : buchi_Accepts_L11 a l y'_2 t l_3 l_4 = buchi_Accepts_L11_B a l y'_2 (buchi_Accepts_L11 a l y'_2) t l_3 l_4 := LFix_eq (buchi_Accepts_L11_cn a l y'_2) (t, l_3, l_4)

noncomputable def r1_May_L6_B (letters : Int) (w : (List Int)) (r6 : Int → Option (Int)) (i : Int) : Option (Int) :=
  if (decide (i < (w.length : Int))) = true then
  G (0 ≤ i ∧ i < (w.length : Int)) (
  if (decide ((ix w i) < (0 : Int))) = true then
  some (2 : Int) else
  G (0 ≤ i ∧ i < (w.length : Int)) (
  if (decide (letters ≤ (ix w i))) = true then
  some (2 : Int) else
  G (fits (i + (1 : Int))) (
  r6 (i + (1 : Int))))) else
  some (0 : Int)
noncomputable def r1_May_L6_F (letters : Int) (w : (List Int)) : (Int → Option (Int)) → Int → Option (Int) :=
  fun rec x => r1_May_L6_B letters w (fun i => rec i) x
noncomputable def r1_May_L6 (letters : Int) (w : (List Int)) (i : Int) : Option (Int) := LFix (r1_May_L6_F letters w ) i
noncomputable def r1_May (letters : Int) (w : (List Int)) : Option (Int) :=
  if (decide (letters < (1 : Int))) = true then
  some (2 : Int) else
  if (decide ((4 : Int) < letters)) = true then
  some (2 : Int) else
  if (decide ((60 : Int) < (w.length : Int))) = true then
  some (1 : Int) else
  r1_May_L6 letters w (0 : Int)
theorem r1_May_L6_B_ch (r6 : Nat → Int → Option (Int)) (r6' : Int → Option (Int)) (h_r6 : ∀ a0, ChO (fun κ => r6 κ a0) (r6' a0)) (letters : Int) (w : (List Int)) (i : Int) : ChO (fun κ => r1_May_L6_B letters w (r6 κ) i) (r1_May_L6_B letters w r6' i) := by
  unfold r1_May_L6_B
  repeat' with_reducible first | exact ChO.const _ | exact h_r6 _ | apply ChO.ite | apply ChO.G | apply ChO.both | (apply ChO.bind; intro _)
theorem r1_May_L6_cn  (letters : Int) (w : (List Int)) : Cn (r1_May_L6_F letters w) := fun g h hg x => r1_May_L6_B_ch  (fun κ i => g κ i) (fun i => h i) (fun i => hg i) letters w x
theorem r1_May_L6_eq  (letters : Int) (w : (List Int)) (i : Int) : r1_May_L6 letters w i = r1_May_L6_B letters w (r1_May_L6 letters w) i := LFix_eq (r1_May_L6_cn letters w) i

noncomputable def r1_Lasso (letters : Int) (l : Tp4) : Option (Int) :=
  (r1_May letters l.1).bind (fun y' =>
  if (decide (¬ y' = (0 : Int))) = true then
  some y' else
  (r1_May letters l.2.1).bind (fun y'_1 =>
  if (decide (¬ y'_1 = (0 : Int))) = true then
  some y'_1 else
  if (decide ((l.2.1.length : Int) = (0 : Int))) = true then
  some (1 : Int) else
  some (0 : Int)))

noncomputable def r7_Lasso (a : Tp2) (l : Tp4) : Option (Int) :=
  (r1_Lasso a.1 (l.1, (l.2.1, ()))).bind (fun y' =>
  some y')

noncomputable def r7_by_J6 (a : Tp2) (i : Int) (out : (List Bool)) (r3 : (Int → (List Bool) → Option (List Bool))) (t : Bool) : Option (List Bool) :=
  if t = true then
  G (0 ≤ (((ix a.2.2.2.1 i).2).2).1 ∧ (((ix a.2.2.2.1 i).2).2).1 < (out.length : Int)) (
  G (((((ix a.2.2.2.1 i).2).2).1).toNat < out.length) (
  G (fits (i + (1 : Int))) (
  r3 (i + (1 : Int)) (out.set ((((ix a.2.2.2.1 i).2).2).1).toNat true)))) else
  G (fits (i + (1 : Int))) (
  r3 (i + (1 : Int)) out)
noncomputable def r7_by_L3_B (a : Tp2) (from' : (List Bool)) (letter : Int) (r3 : Int → (List Bool) → Option (List Bool)) (i : Int) (out : (List Bool)) : Option (List Bool) :=
  if (decide (i < (a.2.2.2.1.length : Int))) = true then
  G (0 ≤ i ∧ i < (a.2.2.2.1.length : Int)) (
  if (decide ((((ix a.2.2.2.1 i).2).1) = letter)) = true then
  G (0 ≤ (ix a.2.2.2.1 i).1 ∧ (ix a.2.2.2.1 i).1 < (from'.length : Int)) (
  r7_by_J6 a i out r3 (ix from' ((ix a.2.2.2.1 i).1))) else
  r7_by_J6 a i out r3 false) else
  some out
noncomputable def r7_by_L3_F (a : Tp2) (from' : (List Bool)) (letter : Int) : (Int × (List Bool) → Option (List Bool)) → Int × (List Bool) → Option (List Bool) :=
  fun rec x => r7_by_L3_B a from' letter (fun i out => rec (i, out)) x.1 x.2
noncomputable def r7_by_L3 (a : Tp2) (from' : (List Bool)) (letter : Int) (i : Int) (out : (List Bool)) : Option (List Bool) := LFix (r7_by_L3_F a from' letter ) (i, out)
noncomputable def r7_by (a : Tp2) (from' : (List Bool)) (letter : Int) : Option (List Bool) :=
  G (mkOK a.2.1 a.2.1 1) (
  r7_by_L3 a from' letter (0 : Int) (List.replicate (a.2.1).toNat (false : Bool)))
theorem r7_by_J6_ch (r3 : Nat → Int → (List Bool) → Option (List Bool)) (r3' : Int → (List Bool) → Option (List Bool)) (h_r3 : ∀ a0 a1, ChO (fun κ => r3 κ a0 a1) (r3' a0 a1)) (a : Tp2) (i : Int) (out : (List Bool)) (t : Bool) : ChO (fun κ => r7_by_J6 a i out (r3 κ) t) (r7_by_J6 a i out r3' t) := by
  unfold r7_by_J6
  repeat' with_reducible first | exact ChO.const _ | exact h_r3 _ _ | apply ChO.ite | apply ChO.G | apply ChO.both | (apply ChO.bind; intro _)
theorem r7_by_L3_B_ch (r3 : Nat → Int → (List Bool) → Option (List Bool)) (r3' : Int → (List Bool) → Option (List Bool)) (h_r3 : ∀ a0 a1, ChO (fun κ => r3 κ a0 a1) (r3' a0 a1)) (a : Tp2) (from' : (List Bool)) (letter : Int) (i : Int) (out : (List Bool)) : ChO (fun κ => r7_by_L3_B a from' letter (r3 κ) i out) (r7_by_L3_B a from' letter r3' i out) := by
  unfold r7_by_L3_B
  repeat' with_reducible first | exact ChO.const _ | exact h_r3 _ _ | (apply r7_by_J6_ch <;> assumption) | apply ChO.ite | apply ChO.G | apply ChO.both | (apply ChO.bind; intro _)
theorem r7_by_L3_cn  (a : Tp2) (from' : (List Bool)) (letter : Int) : Cn (r7_by_L3_F a from' letter) := fun g h hg x => r7_by_L3_B_ch  (fun κ i out => g κ (i, out)) (fun i out => h (i, out)) (fun i out => hg (i, out)) a from' letter x.1 x.2
theorem r7_by_L3_eq  (a : Tp2) (from' : (List Bool)) (letter : Int) (i : Int) (out : (List Bool)) : r7_by_L3 a from' letter i out = r7_by_L3_B a from' letter (r7_by_L3 a from' letter) i out := LFix_eq (r7_by_L3_cn a from' letter) (i, out)

noncomputable def r7_Round_L13_B (a : Tp2) (loop : (List Int)) (final : (List Bool)) (i : Int) (p : (List Bool)) (r10 : (Int → (List Bool) → (List Bool) → Option (Bool))) (r13 : Int → (List Bool) → Option (Bool)) (k : Int) (g'_1 : (List Bool)) : Option (Bool) :=
  if (decide (k < a.2.1)) = true then
  G (0 ≤ k ∧ k < (g'_1.length : Int)) (
  G ((k).toNat < g'_1.length) (
  if (ix g'_1 k) = true then
  G (0 ≤ k ∧ k < (g'_1.length : Int)) (
  G ((k).toNat < g'_1.length) (
  G (fits (k + (1 : Int))) (
  r13 (k + (1 : Int)) (g'_1.set (k).toNat true)))) else
  G (0 ≤ k ∧ k < (p.length : Int)) (
  G ((k).toNat < p.length) (
  if (ix p k) = true then
  G (0 ≤ k ∧ k < (final.length : Int)) (
  G (0 ≤ k ∧ k < (g'_1.length : Int)) (
  G ((k).toNat < g'_1.length) (
  G (fits (k + (1 : Int))) (
  r13 (k + (1 : Int)) (g'_1.set (k).toNat (ix final k)))))) else
  G (0 ≤ k ∧ k < (g'_1.length : Int)) (
  G ((k).toNat < g'_1.length) (
  G (fits (k + (1 : Int))) (
  r13 (k + (1 : Int)) (g'_1.set (k).toNat false)))))))) else
  G (0 ≤ i ∧ i < (loop.length : Int)) (
  (r7_by (a.1, (a.2.1, (a.2.2.1, (a.2.2.2.1, (a.2.2.2.2.1, ()))))) p (ix loop i)).bind (fun y' =>
  G (0 ≤ i ∧ i < (loop.length : Int)) (
  (r7_by (a.1, (a.2.1, (a.2.2.1, (a.2.2.2.1, (a.2.2.2.2.1, ()))))) g'_1 (ix loop i)).bind (fun y'_1 =>
  G (fits (i + (1 : Int))) (
  r10 (i + (1 : Int)) y' y'_1)))))
noncomputable def r7_Round_L13_F (a : Tp2) (loop : (List Int)) (final : (List Bool)) (i : Int) (p : (List Bool)) (r10 : (Int → (List Bool) → (List Bool) → Option (Bool))) : (Int × (List Bool) → Option (Bool)) → Int × (List Bool) → Option (Bool) :=
  fun rec x => r7_Round_L13_B a loop final i p r10 (fun k g'_1 => rec (k, g'_1)) x.1 x.2
noncomputable def r7_Round_L13 (a : Tp2) (loop : (List Int)) (final : (List Bool)) (i : Int) (p : (List Bool)) (r10 : (Int → (List Bool) → (List Bool) → Option (Bool))) (k : Int) (g'_1 : (List Bool)) : Option (Bool) := LFix (r7_Round_L13_F a loop final i p r10 ) (k, g'_1)
noncomputable def r7_Round_J24 (g' : (List Bool)) (k_1 : Int) (good_1 : (List Bool)) (r21 : (Bool → Int → (List Bool) → (List Bool) → Option (Bool))) (again_2 : Bool) (plain_2 : (List Bool)) : Option (Bool) :=
  G (0 ≤ k_1 ∧ k_1 < (good_1.length : Int)) (
  G ((k_1).toNat < good_1.length) (
  if (ix good_1 k_1) = true then
  G (0 ≤ k_1 ∧ k_1 < (good_1.length : Int)) (
  G ((k_1).toNat < good_1.length) (
  G (fits (k_1 + (1 : Int))) (
  r21 again_2 (k_1 + (1 : Int)) plain_2 (good_1.set (k_1).toNat true)))) else
  G (0 ≤ k_1 ∧ k_1 < (g'.length : Int)) (
  G ((k_1).toNat < g'.length) (
  G (0 ≤ k_1 ∧ k_1 < (good_1.length : Int)) (
  G ((k_1).toNat < good_1.length) (
  G (fits (k_1 + (1 : Int))) (
  r21 again_2 (k_1 + (1 : Int)) plain_2 (good_1.set (k_1).toNat (ix g' k_1)))))))))
noncomputable def r7_Round_J23 (p : (List Bool)) (g' : (List Bool)) (k_1 : Int) (plain_1 : (List Bool)) (good_1 : (List Bool)) (r21 : (Bool → Int → (List Bool) → (List Bool) → Option (Bool))) (again_2 : Bool) : Option (Bool) :=
  G (0 ≤ k_1 ∧ k_1 < (plain_1.length : Int)) (
  G ((k_1).toNat < plain_1.length) (
  if (ix plain_1 k_1) = true then
  G (0 ≤ k_1 ∧ k_1 < (plain_1.length : Int)) (
  G ((k_1).toNat < plain_1.length) (
  r7_Round_J24 g' k_1 good_1 r21 again_2 (plain_1.set (k_1).toNat true))) else
  G (0 ≤ k_1 ∧ k_1 < (p.length : Int)) (
  G ((k_1).toNat < p.length) (
  G (0 ≤ k_1 ∧ k_1 < (plain_1.length : Int)) (
  G ((k_1).toNat < plain_1.length) (
  r7_Round_J24 g' k_1 good_1 r21 again_2 (plain_1.set (k_1).toNat (ix p k_1))))))))
noncomputable def r7_Round_L21_B (a : Tp2) (r5 : (Bool → (List Bool) → (List Bool) → Option (Bool))) (p : (List Bool)) (g' : (List Bool)) (r21 : Bool → Int → (List Bool) → (List Bool) → Option (Bool)) (again_1 : Bool) (k_1 : Int) (plain_1 : (List Bool)) (good_1 : (List Bool)) : Option (Bool) :=
  if (decide (k_1 < a.2.1)) = true then
  if again_1 = true then
  r7_Round_J23 p g' k_1 plain_1 good_1 r21 true else
  G (0 ≤ k_1 ∧ k_1 < (p.length : Int)) (
  G ((k_1).toNat < p.length) (
  if (ix p k_1) = true then
  G (0 ≤ k_1 ∧ k_1 < (plain_1.length : Int)) (
  G ((k_1).toNat < plain_1.length) (
  if (!(ix plain_1 k_1)) = true then
  r7_Round_J23 p g' k_1 plain_1 good_1 r21 true else
  G (0 ≤ k_1 ∧ k_1 < (g'.length : Int)) (
  G ((k_1).toNat < g'.length) (
  if (ix g' k_1) = true then
  G (0 ≤ k_1 ∧ k_1 < (good_1.length : Int)) (
  G ((k_1).toNat < good_1.length) (
  r7_Round_J23 p g' k_1 plain_1 good_1 r21 (!(ix good_1 k_1)))) else
  r7_Round_J23 p g' k_1 plain_1 good_1 r21 false)))) else
  G (0 ≤ k_1 ∧ k_1 < (g'.length : Int)) (
  G ((k_1).toNat < g'.length) (
  if (ix g' k_1) = true then
  G (0 ≤ k_1 ∧ k_1 < (good_1.length : Int)) (
  G ((k_1).toNat < good_1.length) (
  r7_Round_J23 p g' k_1 plain_1 good_1 r21 (!(ix good_1 k_1)))) else
  r7_Round_J23 p g' k_1 plain_1 good_1 r21 false)))) else
  r5 again_1 plain_1 good_1
noncomputable def r7_Round_L21_F (a : Tp2) (r5 : (Bool → (List Bool) → (List Bool) → Option (Bool))) (p : (List Bool)) (g' : (List Bool)) : (Bool × Int × (List Bool) × (List Bool) → Option (Bool)) → Bool × Int × (List Bool) × (List Bool) → Option (Bool) :=
  fun rec x => r7_Round_L21_B a r5 p g' (fun again_1 k_1 plain_1 good_1 => rec (again_1, k_1, plain_1, good_1)) x.1 x.2.1 x.2.2.1 x.2.2.2
noncomputable def r7_Round_L21 (a : Tp2) (r5 : (Bool → (List Bool) → (List Bool) → Option (Bool))) (p : (List Bool)) (g' : (List Bool)) (again_1 : Bool) (k_1 : Int) (plain_1 : (List Bool)) (good_1 : (List Bool)) : Option (Bool) := LFix (r7_Round_L21_F a r5 p g' ) (again_1, k_1, plain_1, good_1)
noncomputable def r7_Round_L10_B (a : Tp2) (loop : (List Int)) (final : (List Bool)) (q : Int) (plain : (List Bool)) (good : (List Bool)) (r5 : (Bool → (List Bool) → (List Bool) → Option (Bool))) (r10 : Int → (List Bool) → (List Bool) → Option (Bool)) (i : Int) (p : (List Bool)) (g' : (List Bool)) : Option (Bool) :=
  if (decide (i < (loop.length : Int))) = true then
  r7_Round_L13 a loop final i p r10 (0 : Int) g' else
  G (0 ≤ q ∧ q < (g'.length : Int)) (
  G ((q).toNat < g'.length) (
  if (ix g' q) = true then
  some true else
  r7_Round_L21 a r5 p g' false (0 : Int) plain good))
noncomputable def r7_Round_L10_F (a : Tp2) (loop : (List Int)) (final : (List Bool)) (q : Int) (plain : (List Bool)) (good : (List Bool)) (r5 : (Bool → (List Bool) → (List Bool) → Option (Bool))) : (Int × (List Bool) × (List Bool) → Option (Bool)) → Int × (List Bool) × (List Bool) → Option (Bool) :=
  fun rec x => r7_Round_L10_B a loop final q plain good r5 (fun i p g' => rec (i, p, g')) x.1 x.2.1 x.2.2
noncomputable def r7_Round_L10 (a : Tp2) (loop : (List Int)) (final : (List Bool)) (q : Int) (plain : (List Bool)) (good : (List Bool)) (r5 : (Bool → (List Bool) → (List Bool) → Option (Bool))) (i : Int) (p : (List Bool)) (g' : (List Bool)) : Option (Bool) := LFix (r7_Round_L10_F a loop final q plain good r5 ) (i, p, g')
noncomputable def r7_Round_L5_B (a : Tp2) (loop : (List Int)) (final : (List Bool)) (q : Int) (r5 : Bool → (List Bool) → (List Bool) → Option (Bool)) (again : Bool) (plain : (List Bool)) (good : (List Bool)) : Option (Bool) :=
  if again = true then
  G (room ([] : List Bool) plain 1) (
  G (room ([] : List Bool) good 1) (
  r7_Round_L10 a loop final q plain good r5 (0 : Int) (([] : List Bool) ++ plain) (([] : List Bool) ++ good))) else
  some false
noncomputable def r7_Round_L5_F (a : Tp2) (loop : (List Int)) (final : (List Bool)) (q : Int) : (Bool × (List Bool) × (List Bool) → Option (Bool)) → Bool × (List Bool) × (List Bool) → Option (Bool) :=
  fun rec x => r7_Round_L5_B a loop final q (fun again plain good => rec (again, plain, good)) x.1 x.2.1 x.2.2
noncomputable def r7_Round_L5 (a : Tp2) (loop : (List Int)) (final : (List Bool)) (q : Int) (again : Bool) (plain : (List Bool)) (good : (List Bool)) : Option (Bool) := LFix (r7_Round_L5_F a loop final q ) (again, plain, good)
noncomputable def r7_Round (a : Tp2) (loop : (List Int)) (final : (List Bool)) (q : Int) : Option (Bool) :=
  G (mkOK a.2.1 a.2.1 1) (
  G (mkOK a.2.1 a.2.1 1) (
  G (0 ≤ q ∧ q < ((List.replicate (a.2.1).toNat (false : Bool)).length : Int)) (
  G ((q).toNat < (List.replicate (a.2.1).toNat (false : Bool)).length) (
  r7_Round_L5 a loop final q true ((List.replicate (a.2.1).toNat (false : Bool)).set (q).toNat true) (List.replicate (a.2.1).toNat (false : Bool))))))
theorem r7_Round_L13_B_ch (r10 : Nat → Int → (List Bool) → (List Bool) → Option (Bool)) (r10' : Int → (List Bool) → (List Bool) → Option (Bool)) (h_r10 : ∀ a0 a1 a2, ChO (fun κ => r10 κ a0 a1 a2) (r10' a0 a1 a2)) (r13 : Nat → Int → (List Bool) → Option (Bool)) (r13' : Int → (List Bool) → Option (Bool)) (h_r13 : ∀ a0 a1, ChO (fun κ => r13 κ a0 a1) (r13' a0 a1)) (a : Tp2) (loop : (List Int)) (final : (List Bool)) (i : Int) (p : (List Bool)) (k : Int) (g'_1 : (List Bool)) : ChO (fun κ => r7_Round_L13_B a loop final i p (r10 κ) (r13 κ) k g'_1) (r7_Round_L13_B a loop final i p r10' r13' k g'_1) := by
  unfold r7_Round_L13_B
  repeat' with_reducible first | exact ChO.const _ | exact h_r10 _ _ _ | exact h_r13 _ _ | apply ChO.ite | apply ChO.G | apply ChO.both | (apply ChO.bind; intro _)
theorem r7_Round_L13_cn (r10 : Int → (List Bool) → (List Bool) → Option (Bool)) (a : Tp2) (loop : (List Int)) (final : (List Bool)) (i : Int) (p : (List Bool)) : Cn (r7_Round_L13_F a loop final i p r10) := fun g h hg x => r7_Round_L13_B_ch (fun _ => r10) r10 (fun _ _ _ => ChO.const _) (fun κ k g'_1 => g κ (k, g'_1)) (fun k g'_1 => h (k, g'_1)) (fun k g'_1 => hg (k, g'_1)) a loop final i p x.1 x.2
theorem r7_Round_L13_eq (r10 : Int → (List Bool) → (List Bool) → Option (Bool)) (a : Tp2) (loop : (List Int)) (final : (List Bool)) (i : Int) (p : (List Bool)) (k : Int) (g'_1 : (List Bool)) : r7_Round_L13 a loop final i p r10 k g'_1 = r7_Round_L13_B a loop final i p r10 (r7_Round_L13 a loop final i p r10) k g'_1 := LFix_eq (r7_Round_L13_cn r10 a loop final i p) (k, g'_1)
theorem r7_Round_L13_ch (r10 : Nat → Int → (List Bool) → (List Bool) → Option (Bool)) (r10' : Int → (List Bool) → (List Bool) → Option (Bool)) (h_r10 : ∀ a0 a1 a2, ChO (fun κ => r10 κ a0 a1 a2) (r10' a0 a1 a2)) (a : Tp2) (loop : (List Int)) (final : (List Bool)) (i : Int) (p : (List Bool)) (k : Int) (g'_1 : (List Bool)) : ChO (fun κ => r7_Round_L13 a loop final i p (r10 κ) k g'_1) (r7_Round_L13 a loop final i p r10' k g'_1) := by
  unfold r7_Round_L13
  exact LFix_ch (fun κ => (r7_Round_L13_cn (r10 κ) a loop final i p).mono) (r7_Round_L13_cn r10' a loop final i p).mono (fun g h hg x => r7_Round_L13_B_ch r10 r10' h_r10 (fun κ k g'_1 => g κ (k, g'_1)) (fun k g'_1 => h (k, g'_1)) (fun k g'_1 => hg (k, g'_1)) a loop final i p x.1 x.2) _
theorem r7_Round_J24_ch (r21 : Nat → Bool → Int → (List Bool) → (List Bool) → Option (Bool)) (r21' : Bool → Int → (List Bool) → (List Bool) → Option (Bool)) (h_r21 : ∀ a0 a1 a2 a3, ChO (fun κ => r21 κ a0 a1 a2 a3) (r21' a0 a1 a2 a3)) (g' : (List Bool)) (k_1 : Int) (good_1 : (List Bool)) (again_2 : Bool) (plain_2 : (List Bool)) : ChO (fun κ => r7_Round_J24 g' k_1 good_1 (r21 κ) again_2 plain_2) (r7_Round_J24 g' k_1 good_1 r21' again_2 plain_2) := by
  unfold r7_Round_J24
  repeat' with_reducible first | exact ChO.const _ | exact h_r21 _ _ _ _ | (apply r7_Round_L13_ch <;> assumption) | apply ChO.ite | apply ChO.G | apply ChO.both | (apply ChO.bind; intro _)
theorem r7_Round_J23_ch (r21 : Nat → Bool → Int → (List Bool) → (List Bool) → Option (Bool)) (r21' : Bool → Int → (List Bool) → (List Bool) → Option (Bool)) (h_r21 : ∀ a0 a1 a2 a3, ChO (fun κ => r21 κ a0 a1 a2 a3) (r21' a0 a1 a2 a3)) (p : (List Bool)) (g' : (List Bool)) (k_1 : Int) (plain_1 : (List Bool)) (good_1 : (List Bool)) (again_2 : Bool) : ChO (fun κ => r7_Round_J23 p g' k_1 plain_1 good_1 (r21 κ) again_2) (r7_Round_J23 p g' k_1 plain_1 good_1 r21' again_2) := by
  unfold r7_Round_J23
  repeat' with_reducible first | exact ChO.const _ | exact h_r21 _ _ _ _ | (apply r7_Round_L13_ch <;> assumption) | (apply r7_Round_J24_ch <;> assumption) | apply ChO.ite | apply ChO.G | apply ChO.both | (apply ChO.bind; intro _)
theorem r7_Round_L21_B_ch (r5 : Nat → Bool → (List Bool) → (List Bool) → Option (Bool)) (r5' : Bool → (List Bool) → (List Bool) → Option (Bool)) (h_r5 : ∀ a0 a1 a2, ChO (fun κ => r5 κ a0 a1 a2) (r5' a0 a1 a2)) (r21 : Nat → Bool → Int → (List Bool) → (List Bool) → Option (Bool)) (r21' : Bool → Int → (List Bool) → (List Bool) → Option (Bool)) (h_r21 : ∀ a0 a1 a2 a3, ChO (fun κ => r21 κ a0 a1 a2 a3) (r21' a0 a1 a2 a3)) (a : Tp2) (p : (List Bool)) (g' : (List Bool)) (again_1 : Bool) (k_1 : Int) (plain_1 : (List Bool)) (good_1 : (List Bool)) : ChO (fun κ => r7_Round_L21_B a (r5 κ) p g' (r21 κ) again_1 k_1 plain_1 good_1) (r7_Round_L21_B a r5' p g' r21' again_1 k_1 plain_1 good_1) := by
  unfold r7_Round_L21_B
  repeat' with_reducible first | exact ChO.const _ | exact h_r5 _ _ _ | exact h_r21 _ _ _ _ | (apply r7_Round_L13_ch <;> assumption) | (apply r7_Round_J24_ch <;> assumption) | (apply r7_Round_J23_ch <;> assumption) | apply ChO.ite | apply ChO.G | apply ChO.both | (apply ChO.bind; intro _)
theorem r7_Round_L21_cn (r5 : Bool → (List Bool) → (List Bool) → Option (Bool)) (a : Tp2) (p : (List Bool)) (g' : (List Bool)) : Cn (r7_Round_L21_F a r5 p g') := fun g h hg x => r7_Round_L21_B_ch (fun _ => r5) r5 (fun _ _ _ => ChO.const _) (fun κ again_1 k_1 plain_1 good_1 => g κ (again_1, k_1, plain_1, good_1)) (fun again_1 k_1 plain_1 good_1 => h (again_1, k_1, plain_1, good_1)) (fun again_1 k_1 plain_1 good_1 => hg (again_1, k_1, plain_1, good_1)) a p g' x.1 x.2.1 x.2.2.1 x.2.2.2
theorem r7_Round_L21_eq (r5 : Bool → (List Bool) → (List Bool) → Option (Bool)) (a : Tp2) (p : (List Bool)) (g' : (List Bool)) (again_1 : Bool) (k_1 : Int) (plain_1 : (List Bool)) (good_1 : (List Bool)) : r7_Round_L21 a r5 p g' again_1 k_1 plain_1 good_1 = r7_Round_L21_B a r5 p g' (r7_Round_L21 a r5 p g') again_1 k_1 plain_1 good_1 := LFix_eq (r7_Round_L21_cn r5 a p g') (again_1, k_1, plain_1, good_1)
theorem r7_Round_L21_ch (r5 : Nat → Bool → (List Bool) → (List Bool) → Option (Bool)) (r5' : Bool → (List Bool) → (List Bool) → Option (Bool)) (h_r5 : ∀ a0 a1 a2, ChO (fun κ => r5 κ a0 a1 a2) (r5' a0 a1 a2)) (a : Tp2) (p : (List Bool)) (g' : (List Bool)) (again_1 : Bool) (k_1 : Int) (plain_1 : (List Bool)) (good_1 : (List Bool)) : ChO (fun κ => r7_Round_L21 a (r5 κ) p g' again_1 k_1 plain_1 good_1) (r7_Round_L21 a r5' p g' again_1 k_1 plain_1 good_1) := by
  unfold r7_Round_L21
  exact LFix_ch (fun κ => (r7_Round_L21_cn (r5 κ) a p g').mono) (r7_Round_L21_cn r5' a p g').mono (fun g h hg x => r7_Round_L21_B_ch r5 r5' h_r5 (fun κ again_1 k_1 plain_1 good_1 => g κ (again_1, k_1, plain_1, good_1)) (fun again_1 k_1 plain_1 good_1 => h (again_1, k_1, plain_1, good_1)) (fun again_1 k_1 plain_1 good_1 => hg (again_1, k_1, plain_1, good_1)) a p g' x.1 x.2.1 x.2.2.1 x.2.2.2) _
theorem r7_Round_L10_B_ch (r5 : Nat → Bool → (List Bool) → (List Bool) → Option (Bool)) (r5' : Bool → (List Bool) → (List Bool) → Option (Bool)) (h_r5 : ∀ a0 a1 a2, ChO (fun κ => r5 κ a0 a1 a2) (r5' a0 a1 a2)) (r10 : Nat → Int → (List Bool) → (List Bool) → Option (Bool)) (r10' : Int → (List Bool) → (List Bool) → Option (Bool)) (h_r10 : ∀ a0 a1 a2, ChO (fun κ => r10 κ a0 a1 a2) (r10' a0 a1 a2)) (a : Tp2) (loop : (List Int)) (final : (List Bool)) (q : Int) (plain : (List Bool)) (good : (List Bool)) (i : Int) (p : (List Bool)) (g' : (List Bool)) : ChO (fun κ => r7_Round_L10_B a loop final q plain good (r5 κ) (r10 κ) i p g') (r7_Round_L10_B a loop final q plain good r5' r10' i p g') := by
  unfold r7_Round_L10_B
  repeat' with_reducible first | exact ChO.const _ | exact h_r5 _ _ _ | exact h_r10 _ _ _ | (apply r7_Round_L13_ch <;> assumption) | (apply r7_Round_J24_ch <;> assumption) | (apply r7_Round_J23_ch <;> assumption) | (apply r7_Round_L21_ch <;> assumption) | apply ChO.ite | apply ChO.G | apply ChO.both | (apply ChO.bind; intro _)
theorem r7_Round_L10_cn (r5 : Bool → (List Bool) → (List Bool) → Option (Bool)) (a : Tp2) (loop : (List Int)) (final : (List Bool)) (q : Int) (plain : (List Bool)) (good : (List Bool)) : Cn (r7_Round_L10_F a loop final q plain good r5) := fun g h hg x => r7_Round_L10_B_ch (fun _ => r5) r5 (fun _ _ _ => ChO.const _) (fun κ i p g' => g κ (i, p, g')) (fun i p g' => h (i, p, g')) (fun i p g' => hg (i, p, g')) a loop final q plain good x.1 x.2.1 x.2.2
theorem r7_Round_L10_eq (r5 : Bool → (List Bool) → (List Bool) → Option (Bool)) (a : Tp2) (loop : (List Int)) (final : (List Bool)) (q : Int) (plain : (List Bool)) (good : (List Bool)) (i : Int) (p : (List Bool)) (g' : (List Bool)) : r7_Round_L10 a loop final q plain good r5 i p g' = r7_Round_L10_B a loop final q plain good r5 (r7_Round_L10 a loop final q plain good r5) i p g' := LFix_eq (r7_Round_L10_cn r5 a loop final q plain good) (i, p, g')
theorem r7_Round_L10_ch (r5 : Nat → Bool → (List Bool) → (List Bool) → Option (Bool)) (r5' : Bool → (List Bool) → (List Bool) → Option (Bool)) (h_r5 : ∀ a0 a1 a2, ChO (fun κ => r5 κ a0 a1 a2) (r5' a0 a1 a2)) (a : Tp2) (loop : (List Int)) (final : (List Bool)) (q : Int) (plain : (List Bool)) (good : (List Bool)) (i : Int) (p : (List Bool)) (g' : (List Bool)) : ChO (fun κ => r7_Round_L10 a loop final q plain good (r5 κ) i p g') (r7_Round_L10 a loop final q plain good r5' i p g') := by
  unfold r7_Round_L10
  exact LFix_ch (fun κ => (r7_Round_L10_cn (r5 κ) a loop final q plain good).mono) (r7_Round_L10_cn r5' a loop final q plain good).mono (fun g h hg x => r7_Round_L10_B_ch r5 r5' h_r5 (fun κ i p g' => g κ (i, p, g')) (fun i p g' => h (i, p, g')) (fun i p g' => hg (i, p, g')) a loop final q plain good x.1 x.2.1 x.2.2) _
theorem r7_Round_L5_B_ch (r5 : Nat → Bool → (List Bool) → (List Bool) → Option (Bool)) (r5' : Bool → (List Bool) → (List Bool) → Option (Bool)) (h_r5 : ∀ a0 a1 a2, ChO (fun κ => r5 κ a0 a1 a2) (r5' a0 a1 a2)) (a : Tp2) (loop : (List Int)) (final : (List Bool)) (q : Int) (again : Bool) (plain : (List Bool)) (good : (List Bool)) : ChO (fun κ => r7_Round_L5_B a loop final q (r5 κ) again plain good) (r7_Round_L5_B a loop final q r5' again plain good) := by
  unfold r7_Round_L5_B
  repeat' with_reducible first | exact ChO.const _ | exact h_r5 _ _ _ | (apply r7_Round_L13_ch <;> assumption) | (apply r7_Round_J24_ch <;> assumption) | (apply r7_Round_J23_ch <;> assumption) | (apply r7_Round_L21_ch <;> assumption) | (apply r7_Round_L10_ch <;> assumption) | apply ChO.ite | apply ChO.G | apply ChO.both | (apply ChO.bind; intro _)
theorem r7_Round_L5_cn  (a : Tp2) (loop : (List Int)) (final : (List Bool)) (q : Int) : Cn (r7_Round_L5_F a loop final q) := fun g h hg x => r7_Round_L5_B_ch  (fun κ again plain good => g κ (again, plain, good)) (fun again plain good => h (again, plain, good)) (fun again plain good => hg (again, plain, good)) a loop final q x.1 x.2.1 x.2.2
theorem r7_Round_L5_eq  (a : Tp2) (loop : (List Int)) (final : (List Bool)) (q : Int) (again : Bool) (plain : (List Bool)) (good : (List Bool)) : r7_Round_L5 a loop final q again plain good = r7_Round_L5_B a loop final q (r7_Round_L5 a loop final q) again plain good := LFix_eq (r7_Round_L5_cn a loop final q) (again, plain, good)

noncomputable def r7_Accepts_J21 (next' : (List Bool)) (q : Int) (far_4 : (List Bool)) (r19 : (Bool → Int → (List Bool) → Option (Bool))) (again_2 : Bool) : Option (Bool) :=
  G (0 ≤ q ∧ q < (far_4.length : Int)) (
  G ((q).toNat < far_4.length) (
  if (ix far_4 q) = true then
  G (0 ≤ q ∧ q < (far_4.length : Int)) (
  G ((q).toNat < far_4.length) (
  G (fits (q + (1 : Int))) (
  r19 again_2 (q + (1 : Int)) (far_4.set (q).toNat true)))) else
  G (0 ≤ q ∧ q < (next'.length : Int)) (
  G ((q).toNat < next'.length) (
  G (0 ≤ q ∧ q < (far_4.length : Int)) (
  G ((q).toNat < far_4.length) (
  G (fits (q + (1 : Int))) (
  r19 again_2 (q + (1 : Int)) (far_4.set (q).toNat (ix next' q)))))))))
noncomputable def r7_Accepts_L19_B (a : Tp2) (r11 : (Bool → (List Bool) → Option (Bool))) (next' : (List Bool)) (r19 : Bool → Int → (List Bool) → Option (Bool)) (again_1 : Bool) (q : Int) (far_4 : (List Bool)) : Option (Bool) :=
  if (decide (q < a.2.1)) = true then
  if again_1 = true then
  r7_Accepts_J21 next' q far_4 r19 true else
  G (0 ≤ q ∧ q < (next'.length : Int)) (
  G ((q).toNat < next'.length) (
  if (ix next' q) = true then
  G (0 ≤ q ∧ q < (far_4.length : Int)) (
  G ((q).toNat < far_4.length) (
  r7_Accepts_J21 next' q far_4 r19 (!(ix far_4 q)))) else
  r7_Accepts_J21 next' q far_4 r19 false)) else
  r11 again_1 far_4
noncomputable def r7_Accepts_L19_F (a : Tp2) (r11 : (Bool → (List Bool) → Option (Bool))) (next' : (List Bool)) : (Bool × Int × (List Bool) → Option (Bool)) → Bool × Int × (List Bool) → Option (Bool) :=
  fun rec x => r7_Accepts_L19_B a r11 next' (fun again_1 q far_4 => rec (again_1, q, far_4)) x.1 x.2.1 x.2.2
noncomputable def r7_Accepts_L19 (a : Tp2) (r11 : (Bool → (List Bool) → Option (Bool))) (next' : (List Bool)) (again_1 : Bool) (q : Int) (far_4 : (List Bool)) : Option (Bool) := LFix (r7_Accepts_L19_F a r11 next' ) (again_1, q, far_4)
noncomputable def r7_Accepts_L15_B (a : Tp2) (l : Tp4) (r11 : (Bool → (List Bool) → Option (Bool))) (r15 : Int → (List Bool) → (List Bool) → Option (Bool)) (i_2 : Int) (far_3 : (List Bool)) (next' : (List Bool)) : Option (Bool) :=
  if (decide (i_2 < (l.2.1.length : Int))) = true then
  G (0 ≤ i_2 ∧ i_2 < (l.2.1.length : Int)) (
  (r7_by (a.1, (a.2.1, (a.2.2.1, (a.2.2.2.1, (a.2.2.2.2.1, ()))))) next' (ix l.2.1 i_2)).bind (fun y'_2 =>
  G (fits (i_2 + (1 : Int))) (
  r15 (i_2 + (1 : Int)) far_3 y'_2))) else
  r7_Accepts_L19 a r11 next' false (0 : Int) far_3
noncomputable def r7_Accepts_L15_F (a : Tp2) (l : Tp4) (r11 : (Bool → (List Bool) → Option (Bool))) : (Int × (List Bool) × (List Bool) → Option (Bool)) → Int × (List Bool) × (List Bool) → Option (Bool) :=
  fun rec x => r7_Accepts_L15_B a l r11 (fun i_2 far_3 next' => rec (i_2, far_3, next')) x.1 x.2.1 x.2.2
noncomputable def r7_Accepts_L15 (a : Tp2) (l : Tp4) (r11 : (Bool → (List Bool) → Option (Bool))) (i_2 : Int) (far_3 : (List Bool)) (next' : (List Bool)) : Option (Bool) := LFix (r7_Accepts_L15_F a l r11 ) (i_2, far_3, next')
noncomputable def r7_Accepts_L29_B (a : Tp2) (l : Tp4) (far_2 : (List Bool)) (final : (List Bool)) (r29 : Int → Option (Bool)) (q_1 : Int) : Option (Bool) :=
  if (decide (q_1 < a.2.1)) = true then
  G (0 ≤ q_1 ∧ q_1 < (far_2.length : Int)) (
  G ((q_1).toNat < far_2.length) (
  if (!(ix far_2 q_1)) = true then
  G (fits (q_1 + (1 : Int))) (
  r29 (q_1 + (1 : Int))) else
  (r7_Round (a.1, (a.2.1, (a.2.2.1, (a.2.2.2.1, (a.2.2.2.2.1, ()))))) l.2.1 final q_1).bind (fun y'_3 =>
  if y'_3 = true then
  some true else
  G (fits (q_1 + (1 : Int))) (
  r29 (q_1 + (1 : Int)))))) else
  some false
noncomputable def r7_Accepts_L29_F (a : Tp2) (l : Tp4) (far_2 : (List Bool)) (final : (List Bool)) : (Int → Option (Bool)) → Int → Option (Bool) :=
  fun rec x => r7_Accepts_L29_B a l far_2 final (fun q_1 => rec q_1) x
noncomputable def r7_Accepts_L29 (a : Tp2) (l : Tp4) (far_2 : (List Bool)) (final : (List Bool)) (q_1 : Int) : Option (Bool) := LFix (r7_Accepts_L29_F a l far_2 final ) q_1
noncomputable def r7_Accepts_L25_B (a : Tp2) (l : Tp4) (far_2 : (List Bool)) (r25 : Int → (List Bool) → Option (Bool)) (i_3 : Int) (final : (List Bool)) : Option (Bool) :=
  if (decide (i_3 < (a.2.2.2.2.1.length : Int))) = true then
  G (0 ≤ i_3 ∧ i_3 < (a.2.2.2.2.1.length : Int)) (
  G (0 ≤ ix a.2.2.2.2.1 i_3 ∧ ix a.2.2.2.2.1 i_3 < (final.length : Int)) (
  G ((ix a.2.2.2.2.1 i_3).toNat < final.length) (
  G (fits (i_3 + (1 : Int))) (
  r25 (i_3 + (1 : Int)) (final.set (ix a.2.2.2.2.1 i_3).toNat true))))) else
  r7_Accepts_L29 a l far_2 final (0 : Int)
noncomputable def r7_Accepts_L25_F (a : Tp2) (l : Tp4) (far_2 : (List Bool)) : (Int × (List Bool) → Option (Bool)) → Int × (List Bool) → Option (Bool) :=
  fun rec x => r7_Accepts_L25_B a l far_2 (fun i_3 final => rec (i_3, final)) x.1 x.2
noncomputable def r7_Accepts_L25 (a : Tp2) (l : Tp4) (far_2 : (List Bool)) (i_3 : Int) (final : (List Bool)) : Option (Bool) := LFix (r7_Accepts_L25_F a l far_2 ) (i_3, final)
noncomputable def r7_Accepts_L11_B (a : Tp2) (l : Tp4) (r11 : Bool → (List Bool) → Option (Bool)) (again : Bool) (far_2 : (List Bool)) : Option (Bool) :=
  if again = true then
  if (decide ((0 : Int) < (l.2.1.length : Int))) = true then
  G (0 ≤ (0 : Int) ∧ (0 : Int) < (l.2.1.length : Int)) (
  (r7_by (a.1, (a.2.1, (a.2.2.1, (a.2.2.2.1, (a.2.2.2.2.1, ()))))) far_2 (ix l.2.1 (0 : Int))).bind (fun y'_1 =>
  G (fits ((0 : Int) + (1 : Int))) (
  r7_Accepts_L15 a l r11 ((0 : Int) + (1 : Int)) far_2 y'_1))) else
  none else
  G (mkOK a.2.1 a.2.1 1) (
  r7_Accepts_L25 a l far_2 (0 : Int) (List.replicate (a.2.1).toNat (false : Bool)))
noncomputable def r7_Accepts_L11_F (a : Tp2) (l : Tp4) : (Bool × (List Bool) → Option (Bool)) → Bool × (List Bool) → Option (Bool) :=
  fun rec x => r7_Accepts_L11_B a l (fun again far_2 => rec (again, far_2)) x.1 x.2
noncomputable def r7_Accepts_L11 (a : Tp2) (l : Tp4) (again : Bool) (far_2 : (List Bool)) : Option (Bool) := LFix (r7_Accepts_L11_F a l ) (again, far_2)
noncomputable def r7_Accepts_L7_B (a : Tp2) (l : Tp4) (r7 : Int → (List Bool) → Option (Bool)) (i_1 : Int) (far_1 : (List Bool)) : Option (Bool) :=
  if (decide (i_1 < (l.1.length : Int))) = true then
  G (0 ≤ i_1 ∧ i_1 < (l.1.length : Int)) (
  (r7_by (a.1, (a.2.1, (a.2.2.1, (a.2.2.2.1, (a.2.2.2.2.1, ()))))) far_1 (ix l.1 i_1)).bind (fun y' =>
  G (fits (i_1 + (1 : Int))) (
  r7 (i_1 + (1 : Int)) y'))) else
  r7_Accepts_L11 a l true far_1
noncomputable def r7_Accepts_L7_F (a : Tp2) (l : Tp4) : (Int × (List Bool) → Option (Bool)) → Int × (List Bool) → Option (Bool) :=
  fun rec x => r7_Accepts_L7_B a l (fun i_1 far_1 => rec (i_1, far_1)) x.1 x.2
noncomputable def r7_Accepts_L7 (a : Tp2) (l : Tp4) (i_1 : Int) (far_1 : (List Bool)) : Option (Bool) := LFix (r7_Accepts_L7_F a l ) (i_1, far_1)
noncomputable def r7_Accepts_L3_B (a : Tp2) (l : Tp4) (r3 : Int → (List Bool) → Option (Bool)) (i : Int) (far : (List Bool)) : Option (Bool) :=
  if (decide (i < (a.2.2.1.length : Int))) = true then
  G (0 ≤ i ∧ i < (a.2.2.1.length : Int)) (
  G (0 ≤ ix a.2.2.1 i ∧ ix a.2.2.1 i < (far.length : Int)) (
  G ((ix a.2.2.1 i).toNat < far.length) (
  G (fits (i + (1 : Int))) (
  r3 (i + (1 : Int)) (far.set (ix a.2.2.1 i).toNat true))))) else
  r7_Accepts_L7 a l (0 : Int) far
noncomputable def r7_Accepts_L3_F (a : Tp2) (l : Tp4) : (Int × (List Bool) → Option (Bool)) → Int × (List Bool) → Option (Bool) :=
  fun rec x => r7_Accepts_L3_B a l (fun i far => rec (i, far)) x.1 x.2
noncomputable def r7_Accepts_L3 (a : Tp2) (l : Tp4) (i : Int) (far : (List Bool)) : Option (Bool) := LFix (r7_Accepts_L3_F a l ) (i, far)
noncomputable def r7_Accepts (a : Tp2) (l : Tp4) : Option (Bool) :=
  G (mkOK a.2.1 a.2.1 1) (
  r7_Accepts_L3 a l (0 : Int) (List.replicate (a.2.1).toNat (false : Bool)))
theorem r7_Accepts_J21_ch (r19 : Nat → Bool → Int → (List Bool) → Option (Bool)) (r19' : Bool → Int → (List Bool) → Option (Bool)) (h_r19 : ∀ a0 a1 a2, ChO (fun κ => r19 κ a0 a1 a2) (r19' a0 a1 a2)) (next' : (List Bool)) (q : Int) (far_4 : (List Bool)) (again_2 : Bool) : ChO (fun κ => r7_Accepts_J21 next' q far_4 (r19 κ) again_2) (r7_Accepts_J21 next' q far_4 r19' again_2) := by
  unfold r7_Accepts_J21
  repeat' with_reducible first | exact ChO.const _ | exact h_r19 _ _ _ | apply ChO.ite | apply ChO.G | apply ChO.both | (apply ChO.bind; intro _)
theorem r7_Accepts_L19_B_ch (r11 : Nat → Bool → (List Bool) → Option (Bool)) (r11' : Bool → (List Bool) → Option (Bool)) (h_r11 : ∀ a0 a1, ChO (fun κ => r11 κ a0 a1) (r11' a0 a1)) (r19 : Nat → Bool → Int → (List Bool) → Option (Bool)) (r19' : Bool → Int → (List Bool) → Option (Bool)) (h_r19 : ∀ a0 a1 a2, ChO (fun κ => r19 κ a0 a1 a2) (r19' a0 a1 a2)) (a : Tp2) (next' : (List Bool)) (again_1 : Bool) (q : Int) (far_4 : (List Bool)) : ChO (fun κ => r7_Accepts_L19_B a (r11 κ) next' (r19 κ) again_1 q far_4) (r7_Accepts_L19_B a r11' next' r19' again_1 q far_4) := by
  unfold r7_Accepts_L19_B
  repeat' with_reducible first | exact ChO.const _ | exact h_r11 _ _ | exact h_r19 _ _ _ | (apply r7_Accepts_J21_ch <;> assumption) | apply ChO.ite | apply ChO.G | apply ChO.both | (apply ChO.bind; intro _)
theorem r7_Accepts_L19_cn (r11 : Bool → (List Bool) → Option (Bool)) (a : Tp2) (next' : (List Bool)) : Cn (r7_Accepts_L19_F a r11 next') := fun g h hg x => r7_Accepts_L19_B_ch (fun _ => r11) r11 (fun _ _ => ChO.const _) (fun κ again_1 q far_4 => g κ (again_1, q, far_4)) (fun again_1 q far_4 => h (again_1, q, far_4)) (fun again_1 q far_4 => hg (again_1, q, far_4)) a next' x.1 x.2.1 x.2.2
theorem r7_Accepts_L19_eq (r11 : Bool → (List Bool) → Option (Bool)) (a : Tp2) (next' : (List Bool)) (again_1 : Bool) (q : Int) (far_4 : (List Bool)) : r7_Accepts_L19 a r11 next' again_1 q far_4 = r7_Accepts_L19_B a r11 next' (r7_Accepts_L19 a r11 next') again_1 q far_4 := LFix_eq (r7_Accepts_L19_cn r11 a next') (again_1, q, far_4)
theorem r7_Accepts_L19_ch (r11 : Nat → Bool → (List Bool) → Option (Bool)) (r11' : Bool → (List Bool) → Option (Bool)) (h_r11 : ∀ a0 a1, ChO (fun κ => r11 κ a0 a1) (r11' a0 a1)) (a : Tp2) (next' : (List Bool)) (again_1 : Bool) (q : Int) (far_4 : (List Bool)) : ChO (fun κ => r7_Accepts_L19 a (r11 κ) next' again_1 q far_4) (r7_Accepts_L19 a r11' next' again_1 q far_4) := by
  unfold r7_Accepts_L19
  exact LFix_ch (fun κ => (r7_Accepts_L19_cn (r11 κ) a next').mono) (r7_Accepts_L19_cn r11' a next').mono (fun g h hg x => r7_Accepts_L19_B_ch r11 r11' h_r11 (fun κ again_1 q far_4 => g κ (again_1, q, far_4)) (fun again_1 q far_4 => h (again_1, q, far_4)) (fun again_1 q far_4 => hg (again_1, q, far_4)) a next' x.1 x.2.1 x.2.2) _
theorem r7_Accepts_L15_B_ch (r11 : Nat → Bool → (List Bool) → Option (Bool)) (r11' : Bool → (List Bool) → Option (Bool)) (h_r11 : ∀ a0 a1, ChO (fun κ => r11 κ a0 a1) (r11' a0 a1)) (r15 : Nat → Int → (List Bool) → (List Bool) → Option (Bool)) (r15' : Int → (List Bool) → (List Bool) → Option (Bool)) (h_r15 : ∀ a0 a1 a2, ChO (fun κ => r15 κ a0 a1 a2) (r15' a0 a1 a2)) (a : Tp2) (l : Tp4) (i_2 : Int) (far_3 : (List Bool)) (next' : (List Bool)) : ChO (fun κ => r7_Accepts_L15_B a l (r11 κ) (r15 κ) i_2 far_3 next') (r7_Accepts_L15_B a l r11' r15' i_2 far_3 next') := by
  unfold r7_Accepts_L15_B
  repeat' with_reducible first | exact ChO.const _ | exact h_r11 _ _ | exact h_r15 _ _ _ | (apply r7_Accepts_J21_ch <;> assumption) | (apply r7_Accepts_L19_ch <;> assumption) | apply ChO.ite | apply ChO.G | apply ChO.both | (apply ChO.bind; intro _)
theorem r7_Accepts_L15_cn (r11 : Bool → (List Bool) → Option (Bool)) (a : Tp2) (l : Tp4) : Cn (r7_Accepts_L15_F a l r11) := fun g h hg x => r7_Accepts_L15_B_ch (fun _ => r11) r11 (fun _ _ => ChO.const _) (fun κ i_2 far_3 next' => g κ (i_2, far_3, next')) (fun i_2 far_3 next' => h (i_2, far_3, next')) (fun i_2 far_3 next' => hg (i_2, far_3, next')) a l x.1 x.2.1 x.2.2
theorem r7_Accepts_L15_eq (r11 : Bool → (List Bool) → Option (Bool)) (a : Tp2) (l : Tp4) (i_2 : Int) (far_3 : (List Bool)) (next' : (List Bool)) : r7_Accepts_L15 a l r11 i_2 far_3 next' = r7_Accepts_L15_B a l r11 (r7_Accepts_L15 a l r11) i_2 far_3 next' := LFix_eq (r7_Accepts_L15_cn r11 a l) (i_2, far_3, next')
theorem r7_Accepts_L15_ch (r11 : Nat → Bool → (List Bool) → Option (Bool)) (r11' : Bool → (List Bool) → Option (Bool)) (h_r11 : ∀ a0 a1, ChO (fun κ => r11 κ a0 a1) (r11' a0 a1)) (a : Tp2) (l : Tp4) (i_2 : Int) (far_3 : (List Bool)) (next' : (List Bool)) : ChO (fun κ => r7_Accepts_L15 a l (r11 κ) i_2 far_3 next') (r7_Accepts_L15 a l r11' i_2 far_3 next') := by
  unfold r7_Accepts_L15
  exact LFix_ch (fun κ => (r7_Accepts_L15_cn (r11 κ) a l).mono) (r7_Accepts_L15_cn r11' a l).mono (fun g h hg x => r7_Accepts_L15_B_ch r11 r11' h_r11 (fun κ i_2 far_3 next' => g κ (i_2, far_3, next')) (fun i_2 far_3 next' => h (i_2, far_3, next')) (fun i_2 far_3 next' => hg (i_2, far_3, next')) a l x.1 x.2.1 x.2.2) _
theorem r7_Accepts_L29_B_ch (r29 : Nat → Int → Option (Bool)) (r29' : Int → Option (Bool)) (h_r29 : ∀ a0, ChO (fun κ => r29 κ a0) (r29' a0)) (a : Tp2) (l : Tp4) (far_2 : (List Bool)) (final : (List Bool)) (q_1 : Int) : ChO (fun κ => r7_Accepts_L29_B a l far_2 final (r29 κ) q_1) (r7_Accepts_L29_B a l far_2 final r29' q_1) := by
  unfold r7_Accepts_L29_B
  repeat' with_reducible first | exact ChO.const _ | exact h_r29 _ | (apply r7_Accepts_J21_ch <;> assumption) | (apply r7_Accepts_L19_ch <;> assumption) | (apply r7_Accepts_L15_ch <;> assumption) | apply ChO.ite | apply ChO.G | apply ChO.both | (apply ChO.bind; intro _)
theorem r7_Accepts_L29_cn  (a : Tp2) (l : Tp4) (far_2 : (List Bool)) (final : (List Bool)) : Cn (r7_Accepts_L29_F a l far_2 final) := fun g h hg x => r7_Accepts_L29_B_ch  (fun κ q_1 => g κ q_1) (fun q_1 => h q_1) (fun q_1 => hg q_1) a l far_2 final x
theorem r7_Accepts_L29_eq  (a : Tp2) (l : Tp4) (far_2 : (List Bool)) (final : (List Bool)) (q_1 : Int) : r7_Accepts_L29 a l far_2 final q_1 = r7_Accepts_L29_B a l far_2 final (r7_Accepts_L29 a l far_2 final) q_1 := LFix_eq (r7_Accepts_L29_cn a l far_2 final) q_1
theorem r7_Accepts_L25_B_ch (r25 : Nat → Int → (List Bool) → Option (Bool)) (r25' : Int → (List Bool) → Option (Bool)) (h_r25 : ∀ a0 a1, ChO (fun κ => r25 κ a0 a1) (r25' a0 a1)) (a : Tp2) (l : Tp4) (far_2 : (List Bool)) (i_3 : Int) (final : (List Bool)) : ChO (fun κ => r7_Accepts_L25_B a l far_2 (r25 κ) i_3 final) (r7_Accepts_L25_B a l far_2 r25' i_3 final) := by
  unfold r7_Accepts_L25_B
  repeat' with_reducible first | exact ChO.const _ | exact h_r25 _ _ | (apply r7_Accepts_J21_ch <;> assumption) | (apply r7_Accepts_L19_ch <;> assumption) | (apply r7_Accepts_L15_ch <;> assumption) | apply ChO.ite | apply ChO.G | apply ChO.both | (apply ChO.bind; intro _)
theorem r7_Accepts_L25_cn  (a : Tp2) (l : Tp4) (far_2 : (List Bool)) : Cn (r7_Accepts_L25_F a l far_2) := fun g h hg x => r7_Accepts_L25_B_ch  (fun κ i_3 final => g κ (i_3, final)) (fun i_3 final => h (i_3, final)) (fun i_3 final => hg (i_3, final)) a l far_2 x.1 x.2
theorem r7_Accepts_L25_eq  (a : Tp2) (l : Tp4) (far_2 : (List Bool)) (i_3 : Int) (final : (List Bool)) : r7_Accepts_L25 a l far_2 i_3 final = r7_Accepts_L25_B a l far_2 (r7_Accepts_L25 a l far_2) i_3 final := LFix_eq (r7_Accepts_L25_cn a l far_2) (i_3, final)
theorem r7_Accepts_L11_B_ch (r11 : Nat → Bool → (List Bool) → Option (Bool)) (r11' : Bool → (List Bool) → Option (Bool)) (h_r11 : ∀ a0 a1, ChO (fun κ => r11 κ a0 a1) (r11' a0 a1)) (a : Tp2) (l : Tp4) (again : Bool) (far_2 : (List Bool)) : ChO (fun κ => r7_Accepts_L11_B a l (r11 κ) again far_2) (r7_Accepts_L11_B a l r11' again far_2) := by
  unfold r7_Accepts_L11_B
  repeat' with_reducible first | exact ChO.const _ | exact h_r11 _ _ | (apply r7_Accepts_J21_ch <;> assumption) | (apply r7_Accepts_L19_ch <;> assumption) | (apply r7_Accepts_L15_ch <;> assumption) | apply ChO.ite | apply ChO.G | apply ChO.both | (apply ChO.bind; intro _)
theorem r7_Accepts_L11_cn  (a : Tp2) (l : Tp4) : Cn (r7_Accepts_L11_F a l) := fun g h hg x => r7_Accepts_L11_B_ch  (fun κ again far_2 => g κ (again, far_2)) (fun again far_2 => h (again, far_2)) (fun again far_2 => hg (again, far_2)) a l x.1 x.2
theorem r7_Accepts_L11_eq  (a : Tp2) (l : Tp4) (again : Bool) (far_2 : (List Bool)) : r7_Accepts_L11 a l again far_2 = r7_Accepts_L11_B a l (r7_Accepts_L11 a l) again far_2 := LFix_eq (r7_Accepts_L11_cn a l) (again, far_2)
theorem r7_Accepts_L7_B_ch (r7 : Nat → Int → (List Bool) → Option (Bool)) (r7' : Int → (List Bool) → Option (Bool)) (h_r7 : ∀ a0 a1, ChO (fun κ => r7 κ a0 a1) (r7' a0 a1)) (a : Tp2) (l : Tp4) (i_1 : Int) (far_1 : (List Bool)) : ChO (fun κ => r7_Accepts_L7_B a l (r7 κ) i_1 far_1) (r7_Accepts_L7_B a l r7' i_1 far_1) := by
  unfold r7_Accepts_L7_B
  repeat' with_reducible first | exact ChO.const _ | exact h_r7 _ _ | (apply r7_Accepts_J21_ch <;> assumption) | (apply r7_Accepts_L19_ch <;> assumption) | (apply r7_Accepts_L15_ch <;> assumption) | apply ChO.ite | apply ChO.G | apply ChO.both | (apply ChO.bind; intro _)
theorem r7_Accepts_L7_cn  (a : Tp2) (l : Tp4) : Cn (r7_Accepts_L7_F a l) := fun g h hg x => r7_Accepts_L7_B_ch  (fun κ i_1 far_1 => g κ (i_1, far_1)) (fun i_1 far_1 => h (i_1, far_1)) (fun i_1 far_1 => hg (i_1, far_1)) a l x.1 x.2
theorem r7_Accepts_L7_eq  (a : Tp2) (l : Tp4) (i_1 : Int) (far_1 : (List Bool)) : r7_Accepts_L7 a l i_1 far_1 = r7_Accepts_L7_B a l (r7_Accepts_L7 a l) i_1 far_1 := LFix_eq (r7_Accepts_L7_cn a l) (i_1, far_1)
theorem r7_Accepts_L3_B_ch (r3 : Nat → Int → (List Bool) → Option (Bool)) (r3' : Int → (List Bool) → Option (Bool)) (h_r3 : ∀ a0 a1, ChO (fun κ => r3 κ a0 a1) (r3' a0 a1)) (a : Tp2) (l : Tp4) (i : Int) (far : (List Bool)) : ChO (fun κ => r7_Accepts_L3_B a l (r3 κ) i far) (r7_Accepts_L3_B a l r3' i far) := by
  unfold r7_Accepts_L3_B
  repeat' with_reducible first | exact ChO.const _ | exact h_r3 _ _ | (apply r7_Accepts_J21_ch <;> assumption) | (apply r7_Accepts_L19_ch <;> assumption) | (apply r7_Accepts_L15_ch <;> assumption) | apply ChO.ite | apply ChO.G | apply ChO.both | (apply ChO.bind; intro _)
theorem r7_Accepts_L3_cn  (a : Tp2) (l : Tp4) : Cn (r7_Accepts_L3_F a l) := fun g h hg x => r7_Accepts_L3_B_ch  (fun κ i far => g κ (i, far)) (fun i far => h (i, far)) (fun i far => hg (i, far)) a l x.1 x.2
theorem r7_Accepts_L3_eq  (a : Tp2) (l : Tp4) (i : Int) (far : (List Bool)) : r7_Accepts_L3 a l i far = r7_Accepts_L3_B a l (r7_Accepts_L3 a l) i far := LFix_eq (r7_Accepts_L3_cn a l) (i, far)

noncomputable def law_BuchiAccepts (a : Tp2) (l : Tp4) : Option (Bool) :=
  (buchi_Check (a.1, (a.2.1, (a.2.2.1, (a.2.2.2.1, (a.2.2.2.2.1, ())))))).bind (fun y' =>
  (r7_Check (a.1, (a.2.1, (a.2.2.1, (a.2.2.2.1, (a.2.2.2.2.1, ())))))).bind (fun y'_1 =>
  (buchi_Accepts (a.1, (a.2.1, (a.2.2.1, (a.2.2.2.1, (a.2.2.2.2.1, ()))))) (l.1, (l.2.1, ()))).bind (fun y'_7 =>
  if (decide (¬ y' = y'_1)) = true then
  some false else
  if (decide (¬ y'_1 = (0 : Int))) = true then
  if (decide (y'_7.2 = y'_1)) = true then
  some (!y'_7.1) else
  some false else
  (r7_Lasso (a.1, (a.2.1, (a.2.2.1, (a.2.2.2.1, (a.2.2.2.2.1, ()))))) (l.1, (l.2.1, ()))).bind (fun y'_5 =>
  if (decide (¬ y'_5 = (0 : Int))) = true then
  if (decide (y'_7.2 = y'_5)) = true then
  some (!y'_7.1) else
  some false else
  (r7_Accepts (a.1, (a.2.1, (a.2.2.1, (a.2.2.2.1, (a.2.2.2.2.1, ()))))) (l.1, (l.2.1, ()))).bind (fun y'_6 =>
  if (decide (y'_7.2 = (0 : Int))) = true then
  some (decide (y'_7.1 = y'_6)) else
  some false)))))

end Go.Proofs.Ytfnmgnihlgpgpaa.buchiAcceptsW
