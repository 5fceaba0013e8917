/- What the functions that 'TransBehind' reaches compute: plain functions. -/
import Derived.Test.YtncddfoonaonlaaEv23n21
set_option maxHeartbeats 1000000
set_option maxRecDepth 20000
set_option linter.unusedSimpArgs false
set_option linter.unusedVariables false
set_option linter.unusedSectionVars false
namespace Go.Proofs.Ytncddfoonaonlaa.transBehindW
open Go Go.Ab
abbrev Tp8 := (List Int)
abbrev Tp7 := (List Tp8)
abbrev Tp6 := (List Tp7)
abbrev Tc8 : Ty := (.list (.list (.list (.int .i64))))
abbrev Tc7 : Ty := (.pair (.list (.list (.int .i64))) .unit)
abbrev Tc6 : Ty := (.pair Tc8 Tc7)
abbrev Tp5 := (Int × Int × Int × Tp8 × Tp7 × Tp6 × Tp7 × Unit)
abbrev Tp4 := (Tp5 × Int)
abbrev Tc5 : Ty := (.pair (.list (.list (.int .i64))) Tc6)
abbrev Tp3 := (Int × Tp8 × Int × Int × Int × Tp8 × Tp7 × Tp6 × Tp7 × Unit)
abbrev Tp2 := (Int × Tp8 × Tp8 × Int × Int × Int × Tp8 × Tp7 × Tp6 × Tp7 × Unit)
abbrev Tp1 := (Int × Tp8 × Tp5 × Int × Tp8)
abbrev Tc4 : Ty := (.pair (.list (.int .i64)) Tc5)
abbrev Tc3 : Ty := (.pair (.int .i64) Tc4)
abbrev Tc2 : Ty := (.pair (.int .i64) Tc3)
abbrev Tc1 : Ty := (.pair (.int .i64) Tc2)
abbrev Tf1 := Int → Tp8 → Tp8 → Tp8 → Int → Int → Int → Tp8 → Tp7 → Tp6 → Tp7 → Option Tp5
abbrev Tf2 := Int → Tp8 → Tp8 → Int → Int → Int → Tp8 → Tp7 → Tp6 → Tp7 → Option Tp5
abbrev Tf3 := Tp5 → Int → Int → Int → Int → Tp8 → Tp7 → Tp6 → Tp7 → Option Tp4
abbrev Tf4 := Int → Int → Int → Int → Tp8 → Tp7 → Tp6 → Tp7 → Option Tp5
abbrev Tf5 := Int → Int → Int → Int → Tp7 → Tp8 → Tp6 → Tp7 → Option Tp5
abbrev Tf6 := Int → Tp8 → Tp5 → Tp8 → Tp8 → Option Tp8
abbrev Tf7 := Int → Tp8 → Tp8 → Tp8 → Tp8 → Option Tp5
abbrev Tf8 := Int → Int → Tp8 → Tp5 → Option Tp3
abbrev Tf9 := Int → Int → Tp8 → Tp5 → Option Tp2
abbrev Tf10 := Int → Tp5 → Int → Tp8 → Option Tp1
abbrev Tf11 := Int → Tp8 → Tp8 → Tp8 → Option Tp5
noncomputable def trans_Check_1 (q : Int) (t : Int) : Option (Bool) :=
  if (decide (q < (0 : Int))) = true then
  some true else
  some (decide (t ≤ q))

noncomputable def slices_IndexFunc_1_L2_B (s : Tp8) (c : Int) (r2 : Int → Option (Int)) (t : Int) : Option (Int) :=
  if (decide (t < (s.length : Int))) = true then
  G (0 ≤ t ∧ t < (s.length : Int)) (
  (trans_Check_1 (ix s t) c).bind (fun y' =>
  if y' = true then
  some t else
  G (fits (t + (1 : Int))) (
  r2 (t + (1 : Int))))) else
  some (-1 : Int)
noncomputable def slices_IndexFunc_1_L2_F (s : Tp8) (c : Int) : (Int → Option (Int)) → Int → Option (Int) :=
  fun rec x => slices_IndexFunc_1_L2_B s c (fun t => rec t) x
noncomputable def slices_IndexFunc_1_L2 (s : Tp8) (c : Int) (t : Int) : Option (Int) := LFix (slices_IndexFunc_1_L2_F s c ) t
noncomputable def slices_IndexFunc_1 (s : Tp8) (c : Int) : Option (Int) :=
  slices_IndexFunc_1_L2 s c (0 : Int)
theorem slices_IndexFunc_1_L2_B_ch (r2 : Nat → Int → Option (Int)) (r2' : Int → Option (Int)) (h_r2 : ∀ a0, ChO (fun κ => r2 κ a0) (r2' a0)) (s : Tp8) (c : Int) (t : Int) : ChO (fun κ => slices_IndexFunc_1_L2_B s c (r2 κ) t) (slices_IndexFunc_1_L2_B s c r2' t) := by
  unfold slices_IndexFunc_1_L2_B
  repeat' with_reducible first | exact ChO.const _ | exact h_r2 _ | apply ChO.ite | apply ChO.G | apply ChO.both | (apply ChO.bind; intro _)
theorem slices_IndexFunc_1_L2_cn  (s : Tp8) (c : Int) : Cn (slices_IndexFunc_1_L2_F s c) := fun g h hg x => slices_IndexFunc_1_L2_B_ch  (fun κ t => g κ t) (fun t => h t) (fun t => hg t) s c x
theorem slices_IndexFunc_1_L2_eq  (s : Tp8) (c : Int) (t : Int) : slices_IndexFunc_1_L2 s c t = slices_IndexFunc_1_L2_B s c (slices_IndexFunc_1_L2 s c) t := LFix_eq (slices_IndexFunc_1_L2_cn s c) t

noncomputable def slices_ContainsFunc_1 (s : Tp8) (c : Int) : Option (Bool) :=
  (slices_IndexFunc_1 s c).bind (fun y' =>
  some (decide ((0 : Int) ≤ y')))

noncomputable def trans_Check_2 (r : Tp8) (c : Int) : Option (Bool × Int) :=
  (slices_ContainsFunc_1 r c).bind (fun y' =>
  some (y', c))

noncomputable def slices_IndexFunc_L2_B (s : Tp7) (r2 : Int → Int → Option (Int × Int)) (t : Int) (l : Int) : Option (Int × Int) :=
  if (decide (t < (s.length : Int))) = true then
  G (0 ≤ t ∧ t < (s.length : Int)) (
  (trans_Check_2 (ix s t) l).bind (fun y'_3 =>
  if y'_3.1 = true then
  some (t, y'_3.2) else
  G (fits (t + (1 : Int))) (
  r2 (t + (1 : Int)) y'_3.2))) else
  some ((-1 : Int), l)
noncomputable def slices_IndexFunc_L2_F (s : Tp7) : (Int × Int → Option (Int × Int)) → Int × Int → Option (Int × Int) :=
  fun rec x => slices_IndexFunc_L2_B s (fun t l => rec (t, l)) x.1 x.2
noncomputable def slices_IndexFunc_L2 (s : Tp7) (t : Int) (l : Int) : Option (Int × Int) := LFix (slices_IndexFunc_L2_F s ) (t, l)
noncomputable def slices_IndexFunc (s : Tp7) (c : Int) : Option (Int × Int) :=
  slices_IndexFunc_L2 s (0 : Int) c
theorem slices_IndexFunc_L2_B_ch (r2 : Nat → Int → Int → Option (Int × Int)) (r2' : Int → Int → Option (Int × Int)) (h_r2 : ∀ a0 a1, ChO (fun κ => r2 κ a0 a1) (r2' a0 a1)) (s : Tp7) (t : Int) (l : Int) : ChO (fun κ => slices_IndexFunc_L2_B s (r2 κ) t l) (slices_IndexFunc_L2_B s r2' t l) := by
  unfold slices_IndexFunc_L2_B
  repeat' with_reducible first | exact ChO.const _ | exact h_r2 _ _ | apply ChO.ite | apply ChO.G | apply ChO.both | (apply ChO.bind; intro _)
theorem slices_IndexFunc_L2_cn  (s : Tp7) : Cn (slices_IndexFunc_L2_F s) := fun g h hg x => slices_IndexFunc_L2_B_ch  (fun κ t l => g κ (t, l)) (fun t l => h (t, l)) (fun t l => hg (t, l)) s x.1 x.2
theorem slices_IndexFunc_L2_eq  (s : Tp7) (t : Int) (l : Int) : slices_IndexFunc_L2 s t l = slices_IndexFunc_L2_B s (slices_IndexFunc_L2 s) t l := LFix_eq (slices_IndexFunc_L2_cn s) (t, l)

noncomputable def slices_ContainsFunc (s : Tp7) (c : Int) : Option (Bool × Int) :=
  (slices_IndexFunc s c).bind (fun y'_3 =>
  some (decide ((0 : Int) ≤ y'_3.1), y'_3.2))

noncomputable def trans_said_L3_B (t : Tp5) (r3 : Int → Tp7 → Option Tp7) (t_1 : Int) (l : Tp7) : Option Tp7 :=
  if (decide (t_1 < (t.2.2.2.2.2.1.length : Int))) = true then
  G (0 ≤ t_1 ∧ t_1 < (t.2.2.2.2.2.1.length : Int)) (
  G (room l (ix t.2.2.2.2.2.1 t_1) 24) (
  G (fits (t_1 + (1 : Int))) (
  r3 (t_1 + (1 : Int)) (l ++ (ix t.2.2.2.2.2.1 t_1))))) else
  some l
noncomputable def trans_said_L3_F (t : Tp5) : (Int × Tp7 → Option Tp7) → Int × Tp7 → Option Tp7 :=
  fun rec x => trans_said_L3_B t (fun t_1 l => rec (t_1, l)) x.1 x.2
noncomputable def trans_said_L3 (t : Tp5) (t_1 : Int) (l : Tp7) : Option Tp7 := LFix (trans_said_L3_F t ) (t_1, l)
noncomputable def trans_said (t : Tp5) : Option Tp7 :=
  G (room ([t.2.2.2.1]) t.2.2.2.2.2.2.1 24) (
  trans_said_L3 t (0 : Int) (([t.2.2.2.1]) ++ t.2.2.2.2.2.2.1))
theorem trans_said_L3_B_ch (r3 : Nat → Int → Tp7 → Option Tp7) (r3' : Int → Tp7 → Option Tp7) (h_r3 : ∀ a0 a1, ChO (fun κ => r3 κ a0 a1) (r3' a0 a1)) (t : Tp5) (t_1 : Int) (l : Tp7) : ChO (fun κ => trans_said_L3_B t (r3 κ) t_1 l) (trans_said_L3_B t r3' t_1 l) := by
  unfold trans_said_L3_B
  repeat' with_reducible first | exact ChO.const _ | exact h_r3 _ _ | apply ChO.ite | apply ChO.G | apply ChO.both | (apply ChO.bind; intro _)
theorem trans_said_L3_cn  (t : Tp5) : Cn (trans_said_L3_F t) := fun g h hg x => trans_said_L3_B_ch  (fun κ t_1 l => g κ (t_1, l)) (fun t_1 l => h (t_1, l)) (fun t_1 l => hg (t_1, l)) t x.1 x.2
theorem trans_said_L3_eq  (t : Tp5) (t_1 : Int) (l : Tp7) : trans_said_L3 t t_1 l = trans_said_L3_B t (trans_said_L3 t) t_1 l := LFix_eq (trans_said_L3_cn t) (t_1, l)

noncomputable def trans_long_1 (w : Tp8) : Option (Bool) :=
  some (decide ((8 : Int) < (w.length : Int)))

noncomputable def slices_IndexFunc_2_L2_B (s : Tp7) (r2 : Int → Option (Int)) (t : Int) : Option (Int) :=
  if (decide (t < (s.length : Int))) = true then
  G (0 ≤ t ∧ t < (s.length : Int)) (
  (trans_long_1 (ix s t)).bind (fun y' =>
  if y' = true then
  some t else
  G (fits (t + (1 : Int))) (
  r2 (t + (1 : Int))))) else
  some (-1 : Int)
noncomputable def slices_IndexFunc_2_L2_F (s : Tp7) : (Int → Option (Int)) → Int → Option (Int) :=
  fun rec x => slices_IndexFunc_2_L2_B s (fun t => rec t) x
noncomputable def slices_IndexFunc_2_L2 (s : Tp7) (t : Int) : Option (Int) := LFix (slices_IndexFunc_2_L2_F s ) t
noncomputable def slices_IndexFunc_2 (s : Tp7) : Option (Int) :=
  slices_IndexFunc_2_L2 s (0 : Int)
theorem slices_IndexFunc_2_L2_B_ch (r2 : Nat → Int → Option (Int)) (r2' : Int → Option (Int)) (h_r2 : ∀ a0, ChO (fun κ => r2 κ a0) (r2' a0)) (s : Tp7) (t : Int) : ChO (fun κ => slices_IndexFunc_2_L2_B s (r2 κ) t) (slices_IndexFunc_2_L2_B s r2' t) := by
  unfold slices_IndexFunc_2_L2_B
  repeat' with_reducible first | exact ChO.const _ | exact h_r2 _ | apply ChO.ite | apply ChO.G | apply ChO.both | (apply ChO.bind; intro _)
theorem slices_IndexFunc_2_L2_cn  (s : Tp7) : Cn (slices_IndexFunc_2_L2_F s) := fun g h hg x => slices_IndexFunc_2_L2_B_ch  (fun κ t => g κ t) (fun t => h t) (fun t => hg t) s x
theorem slices_IndexFunc_2_L2_eq  (s : Tp7) (t : Int) : slices_IndexFunc_2_L2 s t = slices_IndexFunc_2_L2_B s (slices_IndexFunc_2_L2 s) t := LFix_eq (slices_IndexFunc_2_L2_cn s) t

noncomputable def slices_ContainsFunc_2 (s : Tp7) : Option (Bool) :=
  (slices_IndexFunc_2 s).bind (fun y' =>
  some (decide ((0 : Int) ≤ y')))

noncomputable def trans_long (t : Tp5) : Option (Bool) :=
  (trans_said (t.1, (t.2.1, (t.2.2.1, (t.2.2.2.1, (t.2.2.2.2.1, (t.2.2.2.2.2.1, (t.2.2.2.2.2.2.1, ())))))))).bind (fun y' =>
  (slices_ContainsFunc_2 y').bind (fun y'_1 =>
  some y'_1))

noncomputable def trans_Check_3 (a : Int) (t : Tp5) : Option (Bool) :=
  if (decide (a < (0 : Int))) = true then
  some true else
  some (decide (t.2.1 ≤ a))

noncomputable def slices_IndexFunc_3_L2_B (s : Tp8) (c : Tp5) (r2 : Int → Option (Int)) (t : Int) : Option (Int) :=
  if (decide (t < (s.length : Int))) = true then
  G (0 ≤ t ∧ t < (s.length : Int)) (
  (trans_Check_3 (ix s t) c).bind (fun y' =>
  if y' = true then
  some t else
  G (fits (t + (1 : Int))) (
  r2 (t + (1 : Int))))) else
  some (-1 : Int)
noncomputable def slices_IndexFunc_3_L2_F (s : Tp8) (c : Tp5) : (Int → Option (Int)) → Int → Option (Int) :=
  fun rec x => slices_IndexFunc_3_L2_B s c (fun t => rec t) x
noncomputable def slices_IndexFunc_3_L2 (s : Tp8) (c : Tp5) (t : Int) : Option (Int) := LFix (slices_IndexFunc_3_L2_F s c ) t
noncomputable def slices_IndexFunc_3 (s : Tp8) (c : Tp5) : Option (Int) :=
  slices_IndexFunc_3_L2 s c (0 : Int)
theorem slices_IndexFunc_3_L2_B_ch (r2 : Nat → Int → Option (Int)) (r2' : Int → Option (Int)) (h_r2 : ∀ a0, ChO (fun κ => r2 κ a0) (r2' a0)) (s : Tp8) (c : Tp5) (t : Int) : ChO (fun κ => slices_IndexFunc_3_L2_B s c (r2 κ) t) (slices_IndexFunc_3_L2_B s c r2' t) := by
  unfold slices_IndexFunc_3_L2_B
  repeat' with_reducible first | exact ChO.const _ | exact h_r2 _ | apply ChO.ite | apply ChO.G | apply ChO.both | (apply ChO.bind; intro _)
theorem slices_IndexFunc_3_L2_cn  (s : Tp8) (c : Tp5) : Cn (slices_IndexFunc_3_L2_F s c) := fun g h hg x => slices_IndexFunc_3_L2_B_ch  (fun κ t => g κ t) (fun t => h t) (fun t => hg t) s c x
theorem slices_IndexFunc_3_L2_eq  (s : Tp8) (c : Tp5) (t : Int) : slices_IndexFunc_3_L2 s c t = slices_IndexFunc_3_L2_B s c (slices_IndexFunc_3_L2 s c) t := LFix_eq (slices_IndexFunc_3_L2_cn s c) t

noncomputable def slices_ContainsFunc_3 (s : Tp8) (c : Tp5) : Option (Bool) :=
  (slices_IndexFunc_3 s c).bind (fun y' =>
  some (decide ((0 : Int) ≤ y')))

noncomputable def trans_Check_L24_B (t : Tp5) (y'_5 : Tp7) (r24 : Int → Option (Int)) (t_3 : Int) : Option (Int) :=
  if (decide (t_3 < (y'_5.length : Int))) = true then
  G (0 ≤ t_3 ∧ t_3 < (y'_5.length : Int)) (
  G ((t_3).toNat < y'_5.length) (
  (slices_ContainsFunc_3 (ix y'_5 t_3) (t.1, (t.2.1, (t.2.2.1, (t.2.2.2.1, (t.2.2.2.2.1, (t.2.2.2.2.2.1, (t.2.2.2.2.2.2.1, ())))))))).bind (fun y'_6 =>
  if y'_6 = true then
  some (2 : Int) else
  G (fits (t_3 + (1 : Int))) (
  r24 (t_3 + (1 : Int)))))) else
  some (0 : Int)
noncomputable def trans_Check_L24_F (t : Tp5) (y'_5 : Tp7) : (Int → Option (Int)) → Int → Option (Int) :=
  fun rec x => trans_Check_L24_B t y'_5 (fun t_3 => rec t_3) x
noncomputable def trans_Check_L24 (t : Tp5) (y'_5 : Tp7) (t_3 : Int) : Option (Int) := LFix (trans_Check_L24_F t y'_5 ) t_3
noncomputable def trans_Check_L13_B (t : Tp5) (r13 : Int → Option (Int)) (t_2 : Int) : Option (Int) :=
  if (decide (t_2 < (t.2.2.2.2.1.length : Int))) = true then
  G (0 ≤ t_2 ∧ t_2 < (t.2.2.2.2.1.length : Int)) (
  if (decide (¬ ((ix t.2.2.2.2.1 t_2).length : Int) = t.1)) = true then
  some (3 : Int) else
  G (0 ≤ t_2 ∧ t_2 < (t.2.2.2.2.2.1.length : Int)) (
  if (decide (¬ ((ix t.2.2.2.2.2.1 t_2).length : Int) = t.1)) = true then
  some (3 : Int) else
  G (fits (t_2 + (1 : Int))) (
  r13 (t_2 + (1 : Int))))) else
  (trans_Check_1 t.2.2.1 (t.2.2.2.2.1.length : Int)).bind (fun y' =>
  if y' = true then
  some (2 : Int) else
  (slices_ContainsFunc t.2.2.2.2.1 (t.2.2.2.2.1.length : Int)).bind (fun y'_7 =>
  if y'_7.1 = true then
  some (2 : Int) else
  (trans_long (t.1, (t.2.1, (t.2.2.1, (t.2.2.2.1, (t.2.2.2.2.1, (t.2.2.2.2.2.1, (t.2.2.2.2.2.2.1, ())))))))).bind (fun y'_4 =>
  if y'_4 = true then
  some (1 : Int) else
  (trans_said (t.1, (t.2.1, (t.2.2.1, (t.2.2.2.1, (t.2.2.2.2.1, (t.2.2.2.2.2.1, (t.2.2.2.2.2.2.1, ())))))))).bind (fun y'_5 =>
  trans_Check_L24 t y'_5 (0 : Int)))))
noncomputable def trans_Check_L13_F (t : Tp5) : (Int → Option (Int)) → Int → Option (Int) :=
  fun rec x => trans_Check_L13_B t (fun t_2 => rec t_2) x
noncomputable def trans_Check_L13 (t : Tp5) (t_2 : Int) : Option (Int) := LFix (trans_Check_L13_F t ) t_2
noncomputable def trans_Check_L2_B (t : Tp5) (r2 : Int → Option (Int)) (t_1 : Int) : Option (Int) :=
  if (decide (t_1 < (([t.1, t.2.1]).length : Int))) = true then
  G (0 ≤ t_1 ∧ t_1 < (([t.1, t.2.1]).length : Int)) (
  G ((t_1).toNat < ([t.1, t.2.1]).length) (
  if (decide ((ix ([t.1, t.2.1]) t_1) < (1 : Int))) = true then
  some (2 : Int) else
  if (decide ((4 : Int) < (ix ([t.1, t.2.1]) t_1))) = true then
  some (2 : Int) else
  G (fits (t_1 + (1 : Int))) (
  r2 (t_1 + (1 : Int))))) else
  if (decide ((t.2.2.2.2.1.length : Int) < (1 : Int))) = true then
  some (1 : Int) else
  if (decide ((6 : Int) < (t.2.2.2.2.1.length : Int))) = true then
  some (1 : Int) else
  if (decide (¬ (t.2.2.2.2.2.1.length : Int) = (t.2.2.2.2.1.length : Int))) = true then
  some (3 : Int) else
  if (decide (¬ (t.2.2.2.2.2.2.1.length : Int) = (t.2.2.2.2.1.length : Int))) = true then
  some (3 : Int) else
  trans_Check_L13 t (0 : Int)
noncomputable def trans_Check_L2_F (t : Tp5) : (Int → Option (Int)) → Int → Option (Int) :=
  fun rec x => trans_Check_L2_B t (fun t_1 => rec t_1) x
noncomputable def trans_Check_L2 (t : Tp5) (t_1 : Int) : Option (Int) := LFix (trans_Check_L2_F t ) t_1
noncomputable def trans_Check (t : Tp5) : Option (Int) :=
  trans_Check_L2 t (0 : Int)
theorem trans_Check_L24_B_ch (r24 : Nat → Int → Option (Int)) (r24' : Int → Option (Int)) (h_r24 : ∀ a0, ChO (fun κ => r24 κ a0) (r24' a0)) (t : Tp5) (y'_5 : Tp7) (t_3 : Int) : ChO (fun κ => trans_Check_L24_B t y'_5 (r24 κ) t_3) (trans_Check_L24_B t y'_5 r24' t_3) := by
  unfold trans_Check_L24_B
  repeat' with_reducible first | exact ChO.const _ | exact h_r24 _ | apply ChO.ite | apply ChO.G | apply ChO.both | (apply ChO.bind; intro _)
theorem trans_Check_L24_cn  (t : Tp5) (y'_5 : Tp7) : Cn (trans_Check_L24_F t y'_5) := fun g h hg x => trans_Check_L24_B_ch  (fun κ t_3 => g κ t_3) (fun t_3 => h t_3) (fun t_3 => hg t_3) t y'_5 x
theorem trans_Check_L24_eq  (t : Tp5) (y'_5 : Tp7) (t_3 : Int) : trans_Check_L24 t y'_5 t_3 = trans_Check_L24_B t y'_5 (trans_Check_L24 t y'_5) t_3 := LFix_eq (trans_Check_L24_cn t y'_5) t_3
theorem trans_Check_L13_B_ch (r13 : Nat → Int → Option (Int)) (r13' : Int → Option (Int)) (h_r13 : ∀ a0, ChO (fun κ => r13 κ a0) (r13' a0)) (t : Tp5) (t_2 : Int) : ChO (fun κ => trans_Check_L13_B t (r13 κ) t_2) (trans_Check_L13_B t r13' t_2) := by
  unfold trans_Check_L13_B
  repeat' with_reducible first | exact ChO.const _ | exact h_r13 _ | apply ChO.ite | apply ChO.G | apply ChO.both | (apply ChO.bind; intro _)
theorem trans_Check_L13_cn  (t : Tp5) : Cn (trans_Check_L13_F t) := fun g h hg x => trans_Check_L13_B_ch  (fun κ t_2 => g κ t_2) (fun t_2 => h t_2) (fun t_2 => hg t_2) t x
theorem trans_Check_L13_eq  (t : Tp5) (t_2 : Int) : trans_Check_L13 t t_2 = trans_Check_L13_B t (trans_Check_L13 t) t_2 := LFix_eq (trans_Check_L13_cn t) t_2
theorem trans_Check_L2_B_ch (r2 : Nat → Int → Option (Int)) (r2' : Int → Option (Int)) (h_r2 : ∀ a0, ChO (fun κ => r2 κ a0) (r2' a0)) (t : Tp5) (t_1 : Int) : ChO (fun κ => trans_Check_L2_B t (r2 κ) t_1) (trans_Check_L2_B t r2' t_1) := by
  unfold trans_Check_L2_B
  repeat' with_reducible first | exact ChO.const _ | exact h_r2 _ | apply ChO.ite | apply ChO.G | apply ChO.both | (apply ChO.bind; intro _)
theorem trans_Check_L2_cn  (t : Tp5) : Cn (trans_Check_L2_F t) := fun g h hg x => trans_Check_L2_B_ch  (fun κ t_1 => g κ t_1) (fun t_1 => h t_1) (fun t_1 => hg t_1) t x
theorem trans_Check_L2_eq  (t : Tp5) (t_1 : Int) : trans_Check_L2 t t_1 = trans_Check_L2_B t (trans_Check_L2 t) t_1 := LFix_eq (trans_Check_L2_cn t) t_1

noncomputable def trans_run_L3_B (t : Tp5) (w : Tp8) (r3 : Int → Int → Tp8 → Option (Int × Tp8)) (q_1 : Int) (t_1 : Int) (out : Tp8) : Option (Int × Tp8) :=
  if (decide (t_1 < (w.length : Int))) = true then
  G (0 ≤ t_1 ∧ t_1 < (w.length : Int)) (
  G (0 ≤ q_1 ∧ q_1 < (t.2.2.2.2.2.1.length : Int)) (
  G (0 ≤ ix w t_1 ∧ ix w t_1 < ((ix t.2.2.2.2.2.1 q_1).length : Int)) (
  G (room out (ix (ix t.2.2.2.2.2.1 q_1) (ix w t_1)) 8) (
  G (0 ≤ q_1 ∧ q_1 < (t.2.2.2.2.1.length : Int)) (
  G (0 ≤ ix w t_1 ∧ ix w t_1 < ((ix t.2.2.2.2.1 q_1).length : Int)) (
  G (fits (t_1 + (1 : Int))) (
  r3 (ix (ix t.2.2.2.2.1 q_1) (ix w t_1)) (t_1 + (1 : Int)) (out ++ (ix (ix t.2.2.2.2.2.1 q_1) (ix w t_1)))))))))) else
  some (q_1, out)
noncomputable def trans_run_L3_F (t : Tp5) (w : Tp8) : (Int × Int × Tp8 → Option (Int × Tp8)) → Int × Int × Tp8 → Option (Int × Tp8) :=
  fun rec x => trans_run_L3_B t w (fun q_1 t_1 out => rec (q_1, t_1, out)) x.1 x.2.1 x.2.2
noncomputable def trans_run_L3 (t : Tp5) (w : Tp8) (q_1 : Int) (t_1 : Int) (out : Tp8) : Option (Int × Tp8) := LFix (trans_run_L3_F t w ) (q_1, t_1, out)
noncomputable def trans_run (t : Tp5) (q : Int) (w : Tp8) : Option (Int × Tp8) :=
  trans_run_L3 t w q (0 : Int) ([])
theorem trans_run_L3_B_ch (r3 : Nat → Int → Int → Tp8 → Option (Int × Tp8)) (r3' : Int → Int → Tp8 → Option (Int × Tp8)) (h_r3 : ∀ a0 a1 a2, ChO (fun κ => r3 κ a0 a1 a2) (r3' a0 a1 a2)) (t : Tp5) (w : Tp8) (q_1 : Int) (t_1 : Int) (out : Tp8) : ChO (fun κ => trans_run_L3_B t w (r3 κ) q_1 t_1 out) (trans_run_L3_B t w r3' q_1 t_1 out) := by
  unfold trans_run_L3_B
  repeat' with_reducible first | exact ChO.const _ | exact h_r3 _ _ _ | apply ChO.ite | apply ChO.G | apply ChO.both | (apply ChO.bind; intro _)
theorem trans_run_L3_cn  (t : Tp5) (w : Tp8) : Cn (trans_run_L3_F t w) := fun g h hg x => trans_run_L3_B_ch  (fun κ q_1 t_1 out => g κ (q_1, t_1, out)) (fun q_1 t_1 out => h (q_1, t_1, out)) (fun q_1 t_1 out => hg (q_1, t_1, out)) t w x.1 x.2.1 x.2.2
theorem trans_run_L3_eq  (t : Tp5) (w : Tp8) (q_1 : Int) (t_1 : Int) (out : Tp8) : trans_run_L3 t w q_1 t_1 out = trans_run_L3_B t w (trans_run_L3 t w) q_1 t_1 out := LFix_eq (trans_run_L3_cn t w) (q_1, t_1, out)

noncomputable def slices_Grow (n : Int) : Option Tp8 :=
  if (decide (n < (0 : Int))) = true then
  none else
  G (fits ((0 : Int) - (0 : Int))) (
  G (fits (n - ((0 : Int) - (0 : Int)))) (
  if (decide ((0 : Int) < (n - ((0 : Int) - (0 : Int))))) = true then
  G ((0 : Int) = (0 : Int)) (
  G (0 < n - ((0 : Int) - (0 : Int)) ∧ (n - ((0 : Int) - (0 : Int))) * 8 ≤ 140737488355328) (
  G (0 ≤ (0 : Int) ∧ (0 : Int) ≤ ((List.replicate (n - ((0 : Int) - (0 : Int))).toNat (0 : Int)).length : Int)) (
  some ((List.replicate (n - ((0 : Int) - (0 : Int))).toNat (0 : Int)).take ((0 : Int)).toNat)))) else
  some ([])))

noncomputable def slices_Concat_L11_B (slices : Tp7) (r11 : Int → Tp8 → Option Tp8) (t_1 : Int) (newslice : Tp8) : Option Tp8 :=
  if (decide (t_1 < (slices.length : Int))) = true then
  G (0 ≤ t_1 ∧ t_1 < (slices.length : Int)) (
  G (room newslice (ix slices t_1) 8) (
  G (fits (t_1 + (1 : Int))) (
  r11 (t_1 + (1 : Int)) (newslice ++ (ix slices t_1))))) else
  some newslice
noncomputable def slices_Concat_L11_F (slices : Tp7) : (Int × Tp8 → Option Tp8) → Int × Tp8 → Option Tp8 :=
  fun rec x => slices_Concat_L11_B slices (fun t_1 newslice => rec (t_1, newslice)) x.1 x.2
noncomputable def slices_Concat_L11 (slices : Tp7) (t_1 : Int) (newslice : Tp8) : Option Tp8 := LFix (slices_Concat_L11_F slices ) (t_1, newslice)
noncomputable def slices_Concat_L3_B (slices : Tp7) (r3 : Int → Int → Option Tp8) (size : Int) (t : Int) : Option Tp8 :=
  if (decide (t < (slices.length : Int))) = true then
  G (0 ≤ t ∧ t < (slices.length : Int)) (
  G (fits (size + ((ix slices t).length : Int))) (
  if (decide ((size + ((ix slices t).length : Int)) < (0 : Int))) = true then
  none else
  G (fits (t + (1 : Int))) (
  r3 (size + ((ix slices t).length : Int)) (t + (1 : Int))))) else
  (slices_Grow size).bind (fun y' =>
  slices_Concat_L11 slices (0 : Int) y')
noncomputable def slices_Concat_L3_F (slices : Tp7) : (Int × Int → Option Tp8) → Int × Int → Option Tp8 :=
  fun rec x => slices_Concat_L3_B slices (fun size t => rec (size, t)) x.1 x.2
noncomputable def slices_Concat_L3 (slices : Tp7) (size : Int) (t : Int) : Option Tp8 := LFix (slices_Concat_L3_F slices ) (size, t)
noncomputable def slices_Concat (slices : Tp7) : Option Tp8 :=
  slices_Concat_L3 slices (0 : Int) (0 : Int)
theorem slices_Concat_L11_B_ch (r11 : Nat → Int → Tp8 → Option Tp8) (r11' : Int → Tp8 → Option Tp8) (h_r11 : ∀ a0 a1, ChO (fun κ => r11 κ a0 a1) (r11' a0 a1)) (slices : Tp7) (t_1 : Int) (newslice : Tp8) : ChO (fun κ => slices_Concat_L11_B slices (r11 κ) t_1 newslice) (slices_Concat_L11_B slices r11' t_1 newslice) := by
  unfold slices_Concat_L11_B
  repeat' with_reducible first | exact ChO.const _ | exact h_r11 _ _ | apply ChO.ite | apply ChO.G | apply ChO.both | (apply ChO.bind; intro _)
theorem slices_Concat_L11_cn  (slices : Tp7) : Cn (slices_Concat_L11_F slices) := fun g h hg x => slices_Concat_L11_B_ch  (fun κ t_1 newslice => g κ (t_1, newslice)) (fun t_1 newslice => h (t_1, newslice)) (fun t_1 newslice => hg (t_1, newslice)) slices x.1 x.2
theorem slices_Concat_L11_eq  (slices : Tp7) (t_1 : Int) (newslice : Tp8) : slices_Concat_L11 slices t_1 newslice = slices_Concat_L11_B slices (slices_Concat_L11 slices) t_1 newslice := LFix_eq (slices_Concat_L11_cn slices) (t_1, newslice)
theorem slices_Concat_L3_B_ch (r3 : Nat → Int → Int → Option Tp8) (r3' : Int → Int → Option Tp8) (h_r3 : ∀ a0 a1, ChO (fun κ => r3 κ a0 a1) (r3' a0 a1)) (slices : Tp7) (size : Int) (t : Int) : ChO (fun κ => slices_Concat_L3_B slices (r3 κ) size t) (slices_Concat_L3_B slices r3' size t) := by
  unfold slices_Concat_L3_B
  repeat' with_reducible first | exact ChO.const _ | exact h_r3 _ _ | apply ChO.ite | apply ChO.G | apply ChO.both | (apply ChO.bind; intro _)
theorem slices_Concat_L3_cn  (slices : Tp7) : Cn (slices_Concat_L3_F slices) := fun g h hg x => slices_Concat_L3_B_ch  (fun κ size t => g κ (size, t)) (fun size t => h (size, t)) (fun size t => hg (size, t)) slices x.1 x.2
theorem slices_Concat_L3_eq  (slices : Tp7) (size : Int) (t : Int) : slices_Concat_L3 slices size t = slices_Concat_L3_B slices (slices_Concat_L3 slices) size t := LFix_eq (slices_Concat_L3_cn slices) (size, t)

noncomputable def slices_Clone (s : Tp7) : Option Tp7 :=
  if s.length = 0 then both [(.list (.list (.int .i64)))] (
  some ([])) (
  G (room ([] : List Tp8) s 24) (
  some (([] : List Tp8) ++ s))) else
  G (room ([] : List Tp8) s 24) (
  some (([] : List Tp8) ++ s))

noncomputable def trans_common_L2_B (a : Tp8) (b : Tp8) (r2 : Int → Option Tp8) (n : Int) : Option Tp8 :=
  if (decide (n < (a.length : Int))) = true then
  if (decide (n < (b.length : Int))) = true then
  G (0 ≤ n ∧ n < (a.length : Int)) (
  G (0 ≤ n ∧ n < (b.length : Int)) (
  if (decide ((ix a n) = (ix b n))) = true then
  G (fits (n + (1 : Int))) (
  r2 (n + (1 : Int))) else
  G (0 ≤ (0 : Int) ∧ (0 : Int) ≤ n ∧ n ≤ (a.length : Int)) (
  some (cut a (0 : Int) n)))) else
  G (0 ≤ (0 : Int) ∧ (0 : Int) ≤ n ∧ n ≤ (a.length : Int)) (
  some (cut a (0 : Int) n)) else
  G (0 ≤ (0 : Int) ∧ (0 : Int) ≤ n ∧ n ≤ (a.length : Int)) (
  some (cut a (0 : Int) n))
noncomputable def trans_common_L2_F (a : Tp8) (b : Tp8) : (Int → Option Tp8) → Int → Option Tp8 :=
  fun rec x => trans_common_L2_B a b (fun n => rec n) x
noncomputable def trans_common_L2 (a : Tp8) (b : Tp8) (n : Int) : Option Tp8 := LFix (trans_common_L2_F a b ) n
noncomputable def trans_common (a : Tp8) (b : Tp8) : Option Tp8 :=
  trans_common_L2 a b (0 : Int)
theorem trans_common_L2_B_ch (r2 : Nat → Int → Option Tp8) (r2' : Int → Option Tp8) (h_r2 : ∀ a0, ChO (fun κ => r2 κ a0) (r2' a0)) (a : Tp8) (b : Tp8) (n : Int) : ChO (fun κ => trans_common_L2_B a b (r2 κ) n) (trans_common_L2_B a b r2' n) := by
  unfold trans_common_L2_B
  repeat' with_reducible first | exact ChO.const _ | exact h_r2 _ | apply ChO.ite | apply ChO.G | apply ChO.both | (apply ChO.bind; intro _)
theorem trans_common_L2_cn  (a : Tp8) (b : Tp8) : Cn (trans_common_L2_F a b) := fun g h hg x => trans_common_L2_B_ch  (fun κ n => g κ n) (fun n => h n) (fun n => hg n) a b x
theorem trans_common_L2_eq  (a : Tp8) (b : Tp8) (n : Int) : trans_common_L2 a b n = trans_common_L2_B a b (trans_common_L2 a b) n := LFix_eq (trans_common_L2_cn a b) n

noncomputable def slices_Clone_1 (s : Tp8) : Option Tp8 :=
  if s.length = 0 then both [(.list (.int .i64))] (
  some ([])) (
  G (room ([] : List Int) s 8) (
  some (([] : List Int) ++ s))) else
  G (room ([] : List Int) s 8) (
  some (([] : List Int) ++ s))

noncomputable def trans_pushed_L9_B (t : Tp5) (t_1 : Int) (r6 : (Bool → Int → Tp7 → Option Tp5)) (r9 : Bool → Int → Tp7 → Option Tp5) (again_2 : Bool) (t_2 : Int) (ahead_2 : Tp7) : Option Tp5 :=
  if (decide (t_2 < ((ix t.2.2.2.2.1 t_1).length : Int))) = true then
  G (0 ≤ t_2 ∧ t_2 < ((ix t.2.2.2.2.1 t_1).length : Int)) (
  G (0 ≤ t_1 ∧ t_1 < (ahead_2.length : Int)) (
  G ((t_1).toNat < ahead_2.length) (
  G (0 ≤ t_1 ∧ t_1 < (t.2.2.2.2.2.1.length : Int)) (
  G (0 ≤ t_2 ∧ t_2 < ((ix t.2.2.2.2.2.1 t_1).length : Int)) (
  G (0 ≤ ix (ix t.2.2.2.2.1 t_1) t_2 ∧ ix (ix t.2.2.2.2.1 t_1) t_2 < (ahead_2.length : Int)) (
  G ((ix (ix t.2.2.2.2.1 t_1) t_2).toNat < ahead_2.length) (
  (slices_Concat ([ix (ix t.2.2.2.2.2.1 t_1) t_2, ix ahead_2 (ix (ix t.2.2.2.2.1 t_1) t_2)])).bind (fun y'_1 =>
  (trans_common (ix ahead_2 t_1) y'_1).bind (fun y'_2 =>
  G (0 ≤ t_1 ∧ t_1 < (ahead_2.length : Int)) (
  G ((t_1).toNat < ahead_2.length) (
  if (decide ((y'_2.length : Int) < ((ix ahead_2 t_1).length : Int))) = true then
  G (0 ≤ t_1 ∧ t_1 < (ahead_2.length : Int)) (
  G ((t_1).toNat < ahead_2.length) (
  G (fits (t_2 + (1 : Int))) (
  r9 true (t_2 + (1 : Int)) (ahead_2.set (t_1).toNat y'_2)))) else
  G (fits (t_2 + (1 : Int))) (
  r9 again_2 (t_2 + (1 : Int)) ahead_2)))))))))))) else
  G (fits (t_1 + (1 : Int))) (
  r6 again_2 (t_1 + (1 : Int)) ahead_2)
noncomputable def trans_pushed_L9_F (t : Tp5) (t_1 : Int) (r6 : (Bool → Int → Tp7 → Option Tp5)) : (Bool × Int × Tp7 → Option Tp5) → Bool × Int × Tp7 → Option Tp5 :=
  fun rec x => trans_pushed_L9_B t t_1 r6 (fun again_2 t_2 ahead_2 => rec (again_2, t_2, ahead_2)) x.1 x.2.1 x.2.2
noncomputable def trans_pushed_L9 (t : Tp5) (t_1 : Int) (r6 : (Bool → Int → Tp7 → Option Tp5)) (again_2 : Bool) (t_2 : Int) (ahead_2 : Tp7) : Option Tp5 := LFix (trans_pushed_L9_F t t_1 r6 ) (again_2, t_2, ahead_2)
noncomputable def trans_pushed_L6_B (t : Tp5) (r3 : (Bool → Tp7 → Option Tp5)) (r6 : Bool → Int → Tp7 → Option Tp5) (again_1 : Bool) (t_1 : Int) (ahead_1 : Tp7) : Option Tp5 :=
  if (decide (t_1 < (t.2.2.2.2.1.length : Int))) = true then
  G (0 ≤ t_1 ∧ t_1 < (t.2.2.2.2.1.length : Int)) (
  trans_pushed_L9 t t_1 r6 again_1 (0 : Int) ahead_1) else
  r3 again_1 ahead_1
noncomputable def trans_pushed_L6_F (t : Tp5) (r3 : (Bool → Tp7 → Option Tp5)) : (Bool × Int × Tp7 → Option Tp5) → Bool × Int × Tp7 → Option Tp5 :=
  fun rec x => trans_pushed_L6_B t r3 (fun again_1 t_1 ahead_1 => rec (again_1, t_1, ahead_1)) x.1 x.2.1 x.2.2
noncomputable def trans_pushed_L6 (t : Tp5) (r3 : (Bool → Tp7 → Option Tp5)) (again_1 : Bool) (t_1 : Int) (ahead_1 : Tp7) : Option Tp5 := LFix (trans_pushed_L6_F t r3 ) (again_1, t_1, ahead_1)
noncomputable def trans_pushed_L24_B (t : Tp5) (ahead : Tp7) (t_3 : Int) (out_4 : Int) (out_5 : Int) (out_6 : Int) (out_7 : Tp8) (out_8 : Tp7) (out_9 : Tp6) (out_10 : Tp7) (r18 : (Int → Int → Int → Int → Tp8 → Tp7 → Tp6 → Tp7 → Option Tp5)) (y'_4 : Tp8) (y'_5 : Tp8) (r24 : Int → Tp7 → Option Tp5) (t_4 : Int) (says : Tp7) : Option Tp5 :=
  if (decide (t_4 < ((ix t.2.2.2.2.1 t_3).length : Int))) = true then
  G (0 ≤ t_4 ∧ t_4 < ((ix t.2.2.2.2.1 t_3).length : Int)) (
  G (0 ≤ t_3 ∧ t_3 < (t.2.2.2.2.2.1.length : Int)) (
  G (0 ≤ t_4 ∧ t_4 < ((ix t.2.2.2.2.2.1 t_3).length : Int)) (
  G (0 ≤ ix (ix t.2.2.2.2.1 t_3) t_4 ∧ ix (ix t.2.2.2.2.1 t_3) t_4 < (ahead.length : Int)) (
  G ((ix (ix t.2.2.2.2.1 t_3) t_4).toNat < ahead.length) (
  G (0 ≤ t_3 ∧ t_3 < (ahead.length : Int)) (
  G ((t_3).toNat < ahead.length) (
  (slices_Concat ([ix (ix t.2.2.2.2.2.1 t_3) t_4, ix ahead (ix (ix t.2.2.2.2.1 t_3) t_4)])).bind (fun y'_6 =>
  G (0 ≤ ((ix ahead t_3).length : Int) ∧ ((ix ahead t_3).length : Int) ≤ (y'_6.length : Int)) (
  G (room says ([(y'_6.drop ((((ix ahead t_3).length : Int)).toNat)).take (y'_6.length - (((ix ahead t_3).length : Int)).toNat)]) 24) (
  G (fits (t_4 + (1 : Int))) (
  r24 (t_4 + (1 : Int)) (says ++ ([(y'_6.drop ((((ix ahead t_3).length : Int)).toNat)).take (y'_6.length - (((ix ahead t_3).length : Int)).toNat)]))))))))))))) else
  G (room out_9 ([says]) 24) (
  G (fits (t_3 + (1 : Int))) (
  r18 (t_3 + (1 : Int)) out_4 out_5 out_6 out_7 (out_8 ++ ([y'_4])) (out_9 ++ ([says])) (out_10 ++ ([y'_5]))))
noncomputable def trans_pushed_L24_F (t : Tp5) (ahead : Tp7) (t_3 : Int) (out_4 : Int) (out_5 : Int) (out_6 : Int) (out_7 : Tp8) (out_8 : Tp7) (out_9 : Tp6) (out_10 : Tp7) (r18 : (Int → Int → Int → Int → Tp8 → Tp7 → Tp6 → Tp7 → Option Tp5)) (y'_4 : Tp8) (y'_5 : Tp8) : (Int × Tp7 → Option Tp5) → Int × Tp7 → Option Tp5 :=
  fun rec x => trans_pushed_L24_B t ahead t_3 out_4 out_5 out_6 out_7 out_8 out_9 out_10 r18 y'_4 y'_5 (fun t_4 says => rec (t_4, says)) x.1 x.2
noncomputable def trans_pushed_L24 (t : Tp5) (ahead : Tp7) (t_3 : Int) (out_4 : Int) (out_5 : Int) (out_6 : Int) (out_7 : Tp8) (out_8 : Tp7) (out_9 : Tp6) (out_10 : Tp7) (r18 : (Int → Int → Int → Int → Tp8 → Tp7 → Tp6 → Tp7 → Option Tp5)) (y'_4 : Tp8) (y'_5 : Tp8) (t_4 : Int) (says : Tp7) : Option Tp5 := LFix (trans_pushed_L24_F t ahead t_3 out_4 out_5 out_6 out_7 out_8 out_9 out_10 r18 y'_4 y'_5 ) (t_4, says)
noncomputable def trans_pushed_L18_B (t : Tp5) (ahead : Tp7) (r18 : Tf4) (t_3 : Int) (out_4 : Int) (out_5 : Int) (out_6 : Int) (out_7 : Tp8) (out_8 : Tp7) (out_9 : Tp6) (out_10 : Tp7) : Option Tp5 :=
  if (decide (t_3 < (t.2.2.2.2.1.length : Int))) = true then
  G (0 ≤ t_3 ∧ t_3 < (t.2.2.2.2.1.length : Int)) (
  (slices_Clone_1 (ix t.2.2.2.2.1 t_3)).bind (fun y'_4 =>
  G (room out_8 ([y'_4]) 24) (
  G (0 ≤ t_3 ∧ t_3 < (t.2.2.2.2.2.2.1.length : Int)) (
  G (0 ≤ t_3 ∧ t_3 < (ahead.length : Int)) (
  G ((t_3).toNat < ahead.length) (
  G (0 ≤ ((ix ahead t_3).length : Int) ∧ ((ix ahead t_3).length : Int) ≤ ((ix t.2.2.2.2.2.2.1 t_3).length : Int) ∧ ((ix t.2.2.2.2.2.2.1 t_3).length : Int) ≤ ((ix t.2.2.2.2.2.2.1 t_3).length : Int)) (
  (slices_Clone_1 (cut (ix t.2.2.2.2.2.2.1 t_3) ((ix ahead t_3).length : Int) ((ix t.2.2.2.2.2.2.1 t_3).length : Int))).bind (fun y'_5 =>
  G (room out_10 ([y'_5]) 24) (
  trans_pushed_L24 t ahead t_3 out_4 out_5 out_6 out_7 out_8 out_9 out_10 r18 y'_4 y'_5 (0 : Int) ([])))))))))) else
  some (out_4, (out_5, (out_6, (out_7, (out_8, (out_9, (out_10, ())))))))
noncomputable def trans_pushed_L18_F (t : Tp5) (ahead : Tp7) : (Int × Int × Int × Int × Tp8 × Tp7 × Tp6 × Tp7 → Option Tp5) → Int × Int × Int × Int × Tp8 × Tp7 × Tp6 × Tp7 → Option Tp5 :=
  fun rec x => trans_pushed_L18_B t ahead (fun t_3 out_4 out_5 out_6 out_7 out_8 out_9 out_10 => rec (t_3, out_4, out_5, out_6, out_7, out_8, out_9, out_10)) x.1 x.2.1 x.2.2.1 x.2.2.2.1 x.2.2.2.2.1 x.2.2.2.2.2.1 x.2.2.2.2.2.2.1 x.2.2.2.2.2.2.2
noncomputable def trans_pushed_L18 (t : Tp5) (ahead : Tp7) (t_3 : Int) (out_4 : Int) (out_5 : Int) (out_6 : Int) (out_7 : Tp8) (out_8 : Tp7) (out_9 : Tp6) (out_10 : Tp7) : Option Tp5 := LFix (trans_pushed_L18_F t ahead ) (t_3, out_4, out_5, out_6, out_7, out_8, out_9, out_10)
noncomputable def trans_pushed_J16 (t : Tp5) (ahead : Tp7) (out : Int) (out_1 : Int) (out_2 : Int) (out_3 : Tp8) : Option Tp5 :=
  trans_pushed_L18 t ahead (0 : Int) out out_1 out_2 out_3 ([] : List Tp8) ([] : List Tp7) ([] : List Tp8)
noncomputable def trans_pushed_L3_B (t : Tp5) (r3 : Bool → Tp7 → Option Tp5) (again : Bool) (ahead : Tp7) : Option Tp5 :=
  if again = true then
  trans_pushed_L6 t r3 false (0 : Int) ahead else
  G (0 ≤ t.2.2.1 ∧ t.2.2.1 < (ahead.length : Int)) (
  G ((t.2.2.1).toNat < ahead.length) (
  both [Tc1] (
  both [Tc1] (
  (slices_Concat ([t.2.2.2.1, ix ahead t.2.2.1])).bind (fun y'_3 =>
  trans_pushed_J16 t ahead t.1 t.2.1 t.2.2.1 y'_3)) (
  (slices_Concat ([t.2.2.2.1, ix ahead t.2.2.1])).bind (fun y'_7 =>
  trans_pushed_J16 t ahead t.1 t.2.1 t.2.2.1 y'_7))) (
  (slices_Concat ([t.2.2.2.1, ix ahead t.2.2.1])).bind (fun y'_8 =>
  trans_pushed_J16 t ahead t.1 t.2.1 t.2.2.1 y'_8))))
noncomputable def trans_pushed_L3_F (t : Tp5) : (Bool × Tp7 → Option Tp5) → Bool × Tp7 → Option Tp5 :=
  fun rec x => trans_pushed_L3_B t (fun again ahead => rec (again, ahead)) x.1 x.2
noncomputable def trans_pushed_L3 (t : Tp5) (again : Bool) (ahead : Tp7) : Option Tp5 := LFix (trans_pushed_L3_F t ) (again, ahead)
noncomputable def trans_pushed (t : Tp5) : Option Tp5 :=
  (slices_Clone t.2.2.2.2.2.2.1).bind (fun y' =>
  trans_pushed_L3 t true y')
theorem trans_pushed_L9_B_ch (r6 : Nat → Bool → Int → Tp7 → Option Tp5) (r6' : Bool → Int → Tp7 → Option Tp5) (h_r6 : ∀ a0 a1 a2, ChO (fun κ => r6 κ a0 a1 a2) (r6' a0 a1 a2)) (r9 : Nat → Bool → Int → Tp7 → Option Tp5) (r9' : Bool → Int → Tp7 → Option Tp5) (h_r9 : ∀ a0 a1 a2, ChO (fun κ => r9 κ a0 a1 a2) (r9' a0 a1 a2)) (t : Tp5) (t_1 : Int) (again_2 : Bool) (t_2 : Int) (ahead_2 : Tp7) : ChO (fun κ => trans_pushed_L9_B t t_1 (r6 κ) (r9 κ) again_2 t_2 ahead_2) (trans_pushed_L9_B t t_1 r6' r9' again_2 t_2 ahead_2) := by
  unfold trans_pushed_L9_B
  repeat' with_reducible first | exact ChO.const _ | exact h_r6 _ _ _ | exact h_r9 _ _ _ | apply ChO.ite | apply ChO.G | apply ChO.both | (apply ChO.bind; intro _)
theorem trans_pushed_L9_cn (r6 : Bool → Int → Tp7 → Option Tp5) (t : Tp5) (t_1 : Int) : Cn (trans_pushed_L9_F t t_1 r6) := fun g h hg x => trans_pushed_L9_B_ch (fun _ => r6) r6 (fun _ _ _ => ChO.const _) (fun κ again_2 t_2 ahead_2 => g κ (again_2, t_2, ahead_2)) (fun again_2 t_2 ahead_2 => h (again_2, t_2, ahead_2)) (fun again_2 t_2 ahead_2 => hg (again_2, t_2, ahead_2)) t t_1 x.1 x.2.1 x.2.2
theorem trans_pushed_L9_eq (r6 : Bool → Int → Tp7 → Option Tp5) (t : Tp5) (t_1 : Int) (again_2 : Bool) (t_2 : Int) (ahead_2 : Tp7) : trans_pushed_L9 t t_1 r6 again_2 t_2 ahead_2 = trans_pushed_L9_B t t_1 r6 (trans_pushed_L9 t t_1 r6) again_2 t_2 ahead_2 := LFix_eq (trans_pushed_L9_cn r6 t t_1) (again_2, t_2, ahead_2)
theorem trans_pushed_L9_ch (r6 : Nat → Bool → Int → Tp7 → Option Tp5) (r6' : Bool → Int → Tp7 → Option Tp5) (h_r6 : ∀ a0 a1 a2, ChO (fun κ => r6 κ a0 a1 a2) (r6' a0 a1 a2)) (t : Tp5) (t_1 : Int) (again_2 : Bool) (t_2 : Int) (ahead_2 : Tp7) : ChO (fun κ => trans_pushed_L9 t t_1 (r6 κ) again_2 t_2 ahead_2) (trans_pushed_L9 t t_1 r6' again_2 t_2 ahead_2) := by
  unfold trans_pushed_L9
  exact LFix_ch (fun κ => (trans_pushed_L9_cn (r6 κ) t t_1).mono) (trans_pushed_L9_cn r6' t t_1).mono (fun g h hg x => trans_pushed_L9_B_ch r6 r6' h_r6 (fun κ again_2 t_2 ahead_2 => g κ (again_2, t_2, ahead_2)) (fun again_2 t_2 ahead_2 => h (again_2, t_2, ahead_2)) (fun again_2 t_2 ahead_2 => hg (again_2, t_2, ahead_2)) t t_1 x.1 x.2.1 x.2.2) _
theorem trans_pushed_L6_B_ch (r3 : Nat → Bool → Tp7 → Option Tp5) (r3' : Bool → Tp7 → Option Tp5) (h_r3 : ∀ a0 a1, ChO (fun κ => r3 κ a0 a1) (r3' a0 a1)) (r6 : Nat → Bool → Int → Tp7 → Option Tp5) (r6' : Bool → Int → Tp7 → Option Tp5) (h_r6 : ∀ a0 a1 a2, ChO (fun κ => r6 κ a0 a1 a2) (r6' a0 a1 a2)) (t : Tp5) (again_1 : Bool) (t_1 : Int) (ahead_1 : Tp7) : ChO (fun κ => trans_pushed_L6_B t (r3 κ) (r6 κ) again_1 t_1 ahead_1) (trans_pushed_L6_B t r3' r6' again_1 t_1 ahead_1) := by
  unfold trans_pushed_L6_B
  repeat' with_reducible first | exact ChO.const _ | exact h_r3 _ _ | exact h_r6 _ _ _ | (apply trans_pushed_L9_ch <;> assumption) | apply ChO.ite | apply ChO.G | apply ChO.both | (apply ChO.bind; intro _)
theorem trans_pushed_L6_cn (r3 : Bool → Tp7 → Option Tp5) (t : Tp5) : Cn (trans_pushed_L6_F t r3) := fun g h hg x => trans_pushed_L6_B_ch (fun _ => r3) r3 (fun _ _ => ChO.const _) (fun κ again_1 t_1 ahead_1 => g κ (again_1, t_1, ahead_1)) (fun again_1 t_1 ahead_1 => h (again_1, t_1, ahead_1)) (fun again_1 t_1 ahead_1 => hg (again_1, t_1, ahead_1)) t x.1 x.2.1 x.2.2
theorem trans_pushed_L6_eq (r3 : Bool → Tp7 → Option Tp5) (t : Tp5) (again_1 : Bool) (t_1 : Int) (ahead_1 : Tp7) : trans_pushed_L6 t r3 again_1 t_1 ahead_1 = trans_pushed_L6_B t r3 (trans_pushed_L6 t r3) again_1 t_1 ahead_1 := LFix_eq (trans_pushed_L6_cn r3 t) (again_1, t_1, ahead_1)
theorem trans_pushed_L6_ch (r3 : Nat → Bool → Tp7 → Option Tp5) (r3' : Bool → Tp7 → Option Tp5) (h_r3 : ∀ a0 a1, ChO (fun κ => r3 κ a0 a1) (r3' a0 a1)) (t : Tp5) (again_1 : Bool) (t_1 : Int) (ahead_1 : Tp7) : ChO (fun κ => trans_pushed_L6 t (r3 κ) again_1 t_1 ahead_1) (trans_pushed_L6 t r3' again_1 t_1 ahead_1) := by
  unfold trans_pushed_L6
  exact LFix_ch (fun κ => (trans_pushed_L6_cn (r3 κ) t).mono) (trans_pushed_L6_cn r3' t).mono (fun g h hg x => trans_pushed_L6_B_ch r3 r3' h_r3 (fun κ again_1 t_1 ahead_1 => g κ (again_1, t_1, ahead_1)) (fun again_1 t_1 ahead_1 => h (again_1, t_1, ahead_1)) (fun again_1 t_1 ahead_1 => hg (again_1, t_1, ahead_1)) t x.1 x.2.1 x.2.2) _
theorem trans_pushed_L24_B_ch (r18 : Nat → Tf4) (r18' : Tf4) (h_r18 : ∀ a0 a1 a2 a3 a4 a5 a6 a7, ChO (fun κ => r18 κ a0 a1 a2 a3 a4 a5 a6 a7) (r18' a0 a1 a2 a3 a4 a5 a6 a7)) (r24 : Nat → Int → Tp7 → Option Tp5) (r24' : Int → Tp7 → Option Tp5) (h_r24 : ∀ a0 a1, ChO (fun κ => r24 κ a0 a1) (r24' a0 a1)) (t : Tp5) (ahead : Tp7) (t_3 : Int) (out_4 : Int) (out_5 : Int) (out_6 : Int) (out_7 : Tp8) (out_8 : Tp7) (out_9 : Tp6) (out_10 : Tp7) (y'_4 : Tp8) (y'_5 : Tp8) (t_4 : Int) (says : Tp7) : ChO (fun κ => trans_pushed_L24_B t ahead t_3 out_4 out_5 out_6 out_7 out_8 out_9 out_10 (r18 κ) y'_4 y'_5 (r24 κ) t_4 says) (trans_pushed_L24_B t ahead t_3 out_4 out_5 out_6 out_7 out_8 out_9 out_10 r18' y'_4 y'_5 r24' t_4 says) := by
  unfold trans_pushed_L24_B
  repeat' with_reducible first | exact ChO.const _ | exact h_r18 _ _ _ _ _ _ _ _ | exact h_r24 _ _ | (apply trans_pushed_L9_ch <;> assumption) | (apply trans_pushed_L6_ch <;> assumption) | apply ChO.ite | apply ChO.G | apply ChO.both | (apply ChO.bind; intro _)
theorem trans_pushed_L24_cn (r18 : Tf4) (t : Tp5) (ahead : Tp7) (t_3 : Int) (out_4 : Int) (out_5 : Int) (out_6 : Int) (out_7 : Tp8) (out_8 : Tp7) (out_9 : Tp6) (out_10 : Tp7) (y'_4 : Tp8) (y'_5 : Tp8) : Cn (trans_pushed_L24_F t ahead t_3 out_4 out_5 out_6 out_7 out_8 out_9 out_10 r18 y'_4 y'_5) := fun g h hg x => trans_pushed_L24_B_ch (fun _ => r18) r18 (fun _ _ _ _ _ _ _ _ => ChO.const _) (fun κ t_4 says => g κ (t_4, says)) (fun t_4 says => h (t_4, says)) (fun t_4 says => hg (t_4, says)) t ahead t_3 out_4 out_5 out_6 out_7 out_8 out_9 out_10 y'_4 y'_5 x.1 x.2
theorem trans_pushed_L24_eq (r18 : Tf4) (t : Tp5) (ahead : Tp7) (t_3 : Int) (out_4 : Int) (out_5 : Int) (out_6 : Int) (out_7 : Tp8) (out_8 : Tp7) (out_9 : Tp6) (out_10 : Tp7) (y'_4 : Tp8) (y'_5 : Tp8) (t_4 : Int) (says : Tp7) : trans_pushed_L24 t ahead t_3 out_4 out_5 out_6 out_7 out_8 out_9 out_10 r18 y'_4 y'_5 t_4 says = trans_pushed_L24_B t ahead t_3 out_4 out_5 out_6 out_7 out_8 out_9 out_10 r18 y'_4 y'_5 (trans_pushed_L24 t ahead t_3 out_4 out_5 out_6 out_7 out_8 out_9 out_10 r18 y'_4 y'_5) t_4 says := LFix_eq (trans_pushed_L24_cn r18 t ahead t_3 out_4 out_5 out_6 out_7 out_8 out_9 out_10 y'_4 y'_5) (t_4, says)
theorem trans_pushed_L24_ch (r18 : Nat → Tf4) (r18' : Tf4) (h_r18 : ∀ a0 a1 a2 a3 a4 a5 a6 a7, ChO (fun κ => r18 κ a0 a1 a2 a3 a4 a5 a6 a7) (r18' a0 a1 a2 a3 a4 a5 a6 a7)) (t : Tp5) (ahead : Tp7) (t_3 : Int) (out_4 : Int) (out_5 : Int) (out_6 : Int) (out_7 : Tp8) (out_8 : Tp7) (out_9 : Tp6) (out_10 : Tp7) (y'_4 : Tp8) (y'_5 : Tp8) (t_4 : Int) (says : Tp7) : ChO (fun κ => trans_pushed_L24 t ahead t_3 out_4 out_5 out_6 out_7 out_8 out_9 out_10 (r18 κ) y'_4 y'_5 t_4 says) (trans_pushed_L24 t ahead t_3 out_4 out_5 out_6 out_7 out_8 out_9 out_10 r18' y'_4 y'_5 t_4 says) := by
  unfold trans_pushed_L24
  exact LFix_ch (fun κ => (trans_pushed_L24_cn (r18 κ) t ahead t_3 out_4 out_5 out_6 out_7 out_8 out_9 out_10 y'_4 y'_5).mono) (trans_pushed_L24_cn r18' t ahead t_3 out_4 out_5 out_6 out_7 out_8 out_9 out_10 y'_4 y'_5).mono (fun g h hg x => trans_pushed_L24_B_ch r18 r18' h_r18 (fun κ t_4 says => g κ (t_4, says)) (fun t_4 says => h (t_4, says)) (fun t_4 says => hg (t_4, says)) t ahead t_3 out_4 out_5 out_6 out_7 out_8 out_9 out_10 y'_4 y'_5 x.1 x.2) _
theorem trans_pushed_L18_B_ch (r18 : Nat → Tf4) (r18' : Tf4) (h_r18 : ∀ a0 a1 a2 a3 a4 a5 a6 a7, ChO (fun κ => r18 κ a0 a1 a2 a3 a4 a5 a6 a7) (r18' a0 a1 a2 a3 a4 a5 a6 a7)) (t : Tp5) (ahead : Tp7) (t_3 : Int) (out_4 : Int) (out_5 : Int) (out_6 : Int) (out_7 : Tp8) (out_8 : Tp7) (out_9 : Tp6) (out_10 : Tp7) : ChO (fun κ => trans_pushed_L18_B t ahead (r18 κ) t_3 out_4 out_5 out_6 out_7 out_8 out_9 out_10) (trans_pushed_L18_B t ahead r18' t_3 out_4 out_5 out_6 out_7 out_8 out_9 out_10) := by
  unfold trans_pushed_L18_B
  repeat' with_reducible first | exact ChO.const _ | exact h_r18 _ _ _ _ _ _ _ _ | (apply trans_pushed_L9_ch <;> assumption) | (apply trans_pushed_L6_ch <;> assumption) | (apply trans_pushed_L24_ch <;> assumption) | apply ChO.ite | apply ChO.G | apply ChO.both | (apply ChO.bind; intro _)
theorem trans_pushed_L18_cn  (t : Tp5) (ahead : Tp7) : Cn (trans_pushed_L18_F t ahead) := fun g h hg x => trans_pushed_L18_B_ch  (fun κ t_3 out_4 out_5 out_6 out_7 out_8 out_9 out_10 => g κ (t_3, out_4, out_5, out_6, out_7, out_8, out_9, out_10)) (fun t_3 out_4 out_5 out_6 out_7 out_8 out_9 out_10 => h (t_3, out_4, out_5, out_6, out_7, out_8, out_9, out_10)) (fun t_3 out_4 out_5 out_6 out_7 out_8 out_9 out_10 => hg (t_3, out_4, out_5, out_6, out_7, out_8, out_9, out_10)) t ahead x.1 x.2.1 x.2.2.1 x.2.2.2.1 x.2.2.2.2.1 x.2.2.2.2.2.1 x.2.2.2.2.2.2.1 x.2.2.2.2.2.2.2
theorem trans_pushed_L18_eq  (t : Tp5) (ahead : Tp7) (t_3 : Int) (out_4 : Int) (out_5 : Int) (out_6 : Int) (out_7 : Tp8) (out_8 : Tp7) (out_9 : Tp6) (out_10 : Tp7) : trans_pushed_L18 t ahead t_3 out_4 out_5 out_6 out_7 out_8 out_9 out_10 = trans_pushed_L18_B t ahead (trans_pushed_L18 t ahead) t_3 out_4 out_5 out_6 out_7 out_8 out_9 out_10 := LFix_eq (trans_pushed_L18_cn t ahead) (t_3, out_4, out_5, out_6, out_7, out_8, out_9, out_10)
theorem trans_pushed_L3_B_ch (r3 : Nat → Bool → Tp7 → Option Tp5) (r3' : Bool → Tp7 → Option Tp5) (h_r3 : ∀ a0 a1, ChO (fun κ => r3 κ a0 a1) (r3' a0 a1)) (t : Tp5) (again : Bool) (ahead : Tp7) : ChO (fun κ => trans_pushed_L3_B t (r3 κ) again ahead) (trans_pushed_L3_B t r3' again ahead) := by
  unfold trans_pushed_L3_B
  repeat' with_reducible first | exact ChO.const _ | exact h_r3 _ _ | (apply trans_pushed_L9_ch <;> assumption) | (apply trans_pushed_L6_ch <;> assumption) | (apply trans_pushed_L24_ch <;> assumption) | apply ChO.ite | apply ChO.G | apply ChO.both | (apply ChO.bind; intro _)
theorem trans_pushed_L3_cn  (t : Tp5) : Cn (trans_pushed_L3_F t) := fun g h hg x => trans_pushed_L3_B_ch  (fun κ again ahead => g κ (again, ahead)) (fun again ahead => h (again, ahead)) (fun again ahead => hg (again, ahead)) t x.1 x.2
theorem trans_pushed_L3_eq  (t : Tp5) (again : Bool) (ahead : Tp7) : trans_pushed_L3 t again ahead = trans_pushed_L3_B t (trans_pushed_L3 t) again ahead := LFix_eq (trans_pushed_L3_cn t) (again, ahead)

noncomputable def slices_Equal_L4_B (s1 : Tp8) (s2 : Tp8) (r4 : Int → Option (Bool)) (t : Int) : Option (Bool) :=
  if (decide (t < (s1.length : Int))) = true then
  G (0 ≤ t ∧ t < (s1.length : Int)) (
  G (0 ≤ t ∧ t < (s2.length : Int)) (
  if (decide (¬ (ix s1 t) = (ix s2 t))) = true then
  some false else
  G (fits (t + (1 : Int))) (
  r4 (t + (1 : Int))))) else
  some true
noncomputable def slices_Equal_L4_F (s1 : Tp8) (s2 : Tp8) : (Int → Option (Bool)) → Int → Option (Bool) :=
  fun rec x => slices_Equal_L4_B s1 s2 (fun t => rec t) x
noncomputable def slices_Equal_L4 (s1 : Tp8) (s2 : Tp8) (t : Int) : Option (Bool) := LFix (slices_Equal_L4_F s1 s2 ) t
noncomputable def slices_Equal (s1 : Tp8) (s2 : Tp8) : Option (Bool) :=
  if (decide (¬ (s1.length : Int) = (s2.length : Int))) = true then
  some false else
  slices_Equal_L4 s1 s2 (0 : Int)
theorem slices_Equal_L4_B_ch (r4 : Nat → Int → Option (Bool)) (r4' : Int → Option (Bool)) (h_r4 : ∀ a0, ChO (fun κ => r4 κ a0) (r4' a0)) (s1 : Tp8) (s2 : Tp8) (t : Int) : ChO (fun κ => slices_Equal_L4_B s1 s2 (r4 κ) t) (slices_Equal_L4_B s1 s2 r4' t) := by
  unfold slices_Equal_L4_B
  repeat' with_reducible first | exact ChO.const _ | exact h_r4 _ | apply ChO.ite | apply ChO.G | apply ChO.both | (apply ChO.bind; intro _)
theorem slices_Equal_L4_cn  (s1 : Tp8) (s2 : Tp8) : Cn (slices_Equal_L4_F s1 s2) := fun g h hg x => slices_Equal_L4_B_ch  (fun κ t => g κ t) (fun t => h t) (fun t => hg t) s1 s2 x
theorem slices_Equal_L4_eq  (s1 : Tp8) (s2 : Tp8) (t : Int) : slices_Equal_L4 s1 s2 t = slices_Equal_L4_B s1 s2 (slices_Equal_L4 s1 s2) t := LFix_eq (slices_Equal_L4_cn s1 s2) t

noncomputable def trans_classes_1_L4_B (p : Int) (q : Int) (t : Tp8) (t_1 : Tp5) (r4 : Int → Option (Bool)) (t_2 : Int) : Option (Bool) :=
  if (decide (t_2 < t_1.1)) = true then
  G (0 ≤ p ∧ p < (t_1.2.2.2.2.1.length : Int)) (
  G (0 ≤ t_2 ∧ t_2 < ((ix t_1.2.2.2.2.1 p).length : Int)) (
  G (0 ≤ ix (ix t_1.2.2.2.2.1 p) t_2 ∧ ix (ix t_1.2.2.2.2.1 p) t_2 < (t.length : Int)) (
  G (0 ≤ q ∧ q < (t_1.2.2.2.2.1.length : Int)) (
  G (0 ≤ t_2 ∧ t_2 < ((ix t_1.2.2.2.2.1 q).length : Int)) (
  G (0 ≤ ix (ix t_1.2.2.2.2.1 q) t_2 ∧ ix (ix t_1.2.2.2.2.1 q) t_2 < (t.length : Int)) (
  if (decide (¬ (ix t (ix (ix t_1.2.2.2.2.1 p) t_2)) = (ix t (ix (ix t_1.2.2.2.2.1 q) t_2)))) = true then
  some false else
  G (0 ≤ p ∧ p < (t_1.2.2.2.2.2.1.length : Int)) (
  G (0 ≤ t_2 ∧ t_2 < ((ix t_1.2.2.2.2.2.1 p).length : Int)) (
  G (0 ≤ q ∧ q < (t_1.2.2.2.2.2.1.length : Int)) (
  G (0 ≤ t_2 ∧ t_2 < ((ix t_1.2.2.2.2.2.1 q).length : Int)) (
  (slices_Equal (ix (ix t_1.2.2.2.2.2.1 p) t_2) (ix (ix t_1.2.2.2.2.2.1 q) t_2)).bind (fun y'_1 =>
  if (!y'_1) = true then
  some false else
  G (fits (t_2 + (1 : Int))) (
  r4 (t_2 + (1 : Int)))))))))))))) else
  some true
noncomputable def trans_classes_1_L4_F (p : Int) (q : Int) (t : Tp8) (t_1 : Tp5) : (Int → Option (Bool)) → Int → Option (Bool) :=
  fun rec x => trans_classes_1_L4_B p q t t_1 (fun t_2 => rec t_2) x
noncomputable def trans_classes_1_L4 (p : Int) (q : Int) (t : Tp8) (t_1 : Tp5) (t_2 : Int) : Option (Bool) := LFix (trans_classes_1_L4_F p q t t_1 ) t_2
noncomputable def trans_classes_1 (p : Int) (q : Int) (t : Tp8) (t_1 : Tp5) : Option (Bool) :=
  G (0 ≤ p ∧ p < (t.length : Int)) (
  G (0 ≤ q ∧ q < (t.length : Int)) (
  if (decide (¬ (ix t p) = (ix t q))) = true then
  some false else
  G (0 ≤ p ∧ p < (t_1.2.2.2.2.2.2.1.length : Int)) (
  G (0 ≤ q ∧ q < (t_1.2.2.2.2.2.2.1.length : Int)) (
  (slices_Equal (ix t_1.2.2.2.2.2.2.1 p) (ix t_1.2.2.2.2.2.2.1 q)).bind (fun y' =>
  if (!y') = true then
  some false else
  trans_classes_1_L4 p q t t_1 (0 : Int))))))
theorem trans_classes_1_L4_B_ch (r4 : Nat → Int → Option (Bool)) (r4' : Int → Option (Bool)) (h_r4 : ∀ a0, ChO (fun κ => r4 κ a0) (r4' a0)) (p : Int) (q : Int) (t : Tp8) (t_1 : Tp5) (t_2 : Int) : ChO (fun κ => trans_classes_1_L4_B p q t t_1 (r4 κ) t_2) (trans_classes_1_L4_B p q t t_1 r4' t_2) := by
  unfold trans_classes_1_L4_B
  repeat' with_reducible first | exact ChO.const _ | exact h_r4 _ | apply ChO.ite | apply ChO.G | apply ChO.both | (apply ChO.bind; intro _)
theorem trans_classes_1_L4_cn  (p : Int) (q : Int) (t : Tp8) (t_1 : Tp5) : Cn (trans_classes_1_L4_F p q t t_1) := fun g h hg x => trans_classes_1_L4_B_ch  (fun κ t_2 => g κ t_2) (fun t_2 => h t_2) (fun t_2 => hg t_2) p q t t_1 x
theorem trans_classes_1_L4_eq  (p : Int) (q : Int) (t : Tp8) (t_1 : Tp5) (t_2 : Int) : trans_classes_1_L4 p q t t_1 t_2 = trans_classes_1_L4_B p q t t_1 (trans_classes_1_L4 p q t t_1) t_2 := LFix_eq (trans_classes_1_L4_cn p q t t_1) t_2

noncomputable def trans_classes_2 (p : Int) (t : Int) (c : Tp8) (c_1 : Tp5) : Option (Bool × Tp8 × Int × Int × Int × Tp8 × Tp7 × Tp6 × Tp7 × Unit) :=
  (trans_classes_1 p t c c_1).bind (fun y' =>
  some (y', c, c_1))

noncomputable def slices_IndexFunc_4_L2_B (s : Tp8) (r2 : Tf8) (f : Int) (t : Int) (l : Tp8) (l_1 : Tp5) : Option Tp3 :=
  if (decide (t < (s.length : Int))) = true then
  G (0 ≤ t ∧ t < (s.length : Int)) (
  (trans_classes_2 (ix s t) f l l_1).bind (fun y'_4 =>
  if y'_4.1 = true then
  some (t, y'_4.2.1, y'_4.2.2) else
  G (fits (t + (1 : Int))) (
  r2 f (t + (1 : Int)) y'_4.2.1 y'_4.2.2))) else
  some ((-1 : Int), l, l_1)
noncomputable def slices_IndexFunc_4_L2_F (s : Tp8) : (Int × Int × Tp8 × Int × Int × Int × Tp8 × Tp7 × Tp6 × Tp7 × Unit → Option Tp3) → Int × Int × Tp8 × Int × Int × Int × Tp8 × Tp7 × Tp6 × Tp7 × Unit → Option Tp3 :=
  fun rec x => slices_IndexFunc_4_L2_B s (fun f t l l_1 => rec (f, t, l, l_1)) x.1 x.2.1 x.2.2.1 x.2.2.2
noncomputable def slices_IndexFunc_4_L2 (s : Tp8) (f : Int) (t : Int) (l : Tp8) (l_1 : Tp5) : Option Tp3 := LFix (slices_IndexFunc_4_L2_F s ) (f, t, l, l_1)
noncomputable def slices_IndexFunc_4 (s : Tp8) (c : Int) (c_1 : Tp8) (c_2 : Tp5) : Option Tp3 :=
  slices_IndexFunc_4_L2 s c (0 : Int) c_1 c_2
theorem slices_IndexFunc_4_L2_B_ch (r2 : Nat → Tf8) (r2' : Tf8) (h_r2 : ∀ a0 a1 a2 a3, ChO (fun κ => r2 κ a0 a1 a2 a3) (r2' a0 a1 a2 a3)) (s : Tp8) (f : Int) (t : Int) (l : Tp8) (l_1 : Tp5) : ChO (fun κ => slices_IndexFunc_4_L2_B s (r2 κ) f t l l_1) (slices_IndexFunc_4_L2_B s r2' f t l l_1) := by
  unfold slices_IndexFunc_4_L2_B
  repeat' with_reducible first | exact ChO.const _ | exact h_r2 _ _ _ _ | apply ChO.ite | apply ChO.G | apply ChO.both | (apply ChO.bind; intro _)
theorem slices_IndexFunc_4_L2_cn  (s : Tp8) : Cn (slices_IndexFunc_4_L2_F s) := fun g h hg x => slices_IndexFunc_4_L2_B_ch  (fun κ f t l l_1 => g κ (f, t, l, l_1)) (fun f t l l_1 => h (f, t, l, l_1)) (fun f t l l_1 => hg (f, t, l, l_1)) s x.1 x.2.1 x.2.2.1 x.2.2.2
theorem slices_IndexFunc_4_L2_eq  (s : Tp8) (f : Int) (t : Int) (l : Tp8) (l_1 : Tp5) : slices_IndexFunc_4_L2 s f t l l_1 = slices_IndexFunc_4_L2_B s (slices_IndexFunc_4_L2 s) f t l l_1 := LFix_eq (slices_IndexFunc_4_L2_cn s) (f, t, l, l_1)

noncomputable def slices_IndexFunc_5_L2_B (s : Tp8) (r2 : Tf9) (f : Int) (t : Int) (l : Tp8) (l_1 : Tp5) : Option Tp2 :=
  if (decide (t < (s.length : Int))) = true then
  G (0 ≤ t ∧ t < (s.length : Int)) (
  G ((t).toNat < s.length) (
  (trans_classes_2 (ix s t) f l l_1).bind (fun y'_4 =>
  if y'_4.1 = true then
  some (t, s, y'_4.2.1, y'_4.2.2) else
  G (fits (t + (1 : Int))) (
  r2 f (t + (1 : Int)) y'_4.2.1 y'_4.2.2)))) else
  some ((-1 : Int), s, l, l_1)
noncomputable def slices_IndexFunc_5_L2_F (s : Tp8) : (Int × Int × Tp8 × Int × Int × Int × Tp8 × Tp7 × Tp6 × Tp7 × Unit → Option Tp2) → Int × Int × Tp8 × Int × Int × Int × Tp8 × Tp7 × Tp6 × Tp7 × Unit → Option Tp2 :=
  fun rec x => slices_IndexFunc_5_L2_B s (fun f t l l_1 => rec (f, t, l, l_1)) x.1 x.2.1 x.2.2.1 x.2.2.2
noncomputable def slices_IndexFunc_5_L2 (s : Tp8) (f : Int) (t : Int) (l : Tp8) (l_1 : Tp5) : Option Tp2 := LFix (slices_IndexFunc_5_L2_F s ) (f, t, l, l_1)
noncomputable def slices_IndexFunc_5 (c : Int) (s : Tp8) (c_1 : Tp8) (c_2 : Tp5) : Option Tp2 :=
  slices_IndexFunc_5_L2 s c (0 : Int) c_1 c_2
theorem slices_IndexFunc_5_L2_B_ch (r2 : Nat → Tf9) (r2' : Tf9) (h_r2 : ∀ a0 a1 a2 a3, ChO (fun κ => r2 κ a0 a1 a2 a3) (r2' a0 a1 a2 a3)) (s : Tp8) (f : Int) (t : Int) (l : Tp8) (l_1 : Tp5) : ChO (fun κ => slices_IndexFunc_5_L2_B s (r2 κ) f t l l_1) (slices_IndexFunc_5_L2_B s r2' f t l l_1) := by
  unfold slices_IndexFunc_5_L2_B
  repeat' with_reducible first | exact ChO.const _ | exact h_r2 _ _ _ _ | apply ChO.ite | apply ChO.G | apply ChO.both | (apply ChO.bind; intro _)
theorem slices_IndexFunc_5_L2_cn  (s : Tp8) : Cn (slices_IndexFunc_5_L2_F s) := fun g h hg x => slices_IndexFunc_5_L2_B_ch  (fun κ f t l l_1 => g κ (f, t, l, l_1)) (fun f t l l_1 => h (f, t, l, l_1)) (fun f t l l_1 => hg (f, t, l, l_1)) s x.1 x.2.1 x.2.2.1 x.2.2.2
theorem slices_IndexFunc_5_L2_eq  (s : Tp8) (f : Int) (t : Int) (l : Tp8) (l_1 : Tp5) : slices_IndexFunc_5_L2 s f t l l_1 = slices_IndexFunc_5_L2_B s (slices_IndexFunc_5_L2 s) f t l l_1 := LFix_eq (slices_IndexFunc_5_L2_cn s) (f, t, l, l_1)

noncomputable def trans_classes_2_1 (p : Int) (c : Tp5) (c_1 : Int) (l : Tp8) : Option (Bool × Tp5 × Int × Tp8) :=
  (trans_classes_1 p c_1 l c).bind (fun y' =>
  some (y', c, c_1, l))

noncomputable def slices_IndexFunc_6_L2_B (s : Tp8) (r2 : Tf10) (t : Int) (l_1 : Tp5) (l_2 : Int) (l_3 : Tp8) : Option Tp1 :=
  if (decide (t < (s.length : Int))) = true then
  G (0 ≤ t ∧ t < (s.length : Int)) (
  G ((t).toNat < s.length) (
  (trans_classes_2_1 (ix s t) l_1 l_2 l_3).bind (fun y'_5 =>
  if y'_5.1 = true then
  some (t, s, y'_5.2.1, y'_5.2.2.1, y'_5.2.2.2) else
  G (fits (t + (1 : Int))) (
  r2 (t + (1 : Int)) y'_5.2.1 y'_5.2.2.1 y'_5.2.2.2)))) else
  some ((-1 : Int), s, l_1, l_2, l_3)
noncomputable def slices_IndexFunc_6_L2_F (s : Tp8) : (Int × Tp5 × Int × Tp8 → Option Tp1) → Int × Tp5 × Int × Tp8 → Option Tp1 :=
  fun rec x => slices_IndexFunc_6_L2_B s (fun t l_1 l_2 l_3 => rec (t, l_1, l_2, l_3)) x.1 x.2.1 x.2.2.1 x.2.2.2
noncomputable def slices_IndexFunc_6_L2 (s : Tp8) (t : Int) (l_1 : Tp5) (l_2 : Int) (l_3 : Tp8) : Option Tp1 := LFix (slices_IndexFunc_6_L2_F s ) (t, l_1, l_2, l_3)
noncomputable def slices_IndexFunc_6 (s : Tp8) (c : Tp5) (c_1 : Int) (l : Tp8) : Option Tp1 :=
  slices_IndexFunc_6_L2 s (0 : Int) c c_1 l
theorem slices_IndexFunc_6_L2_B_ch (r2 : Nat → Tf10) (r2' : Tf10) (h_r2 : ∀ a0 a1 a2 a3, ChO (fun κ => r2 κ a0 a1 a2 a3) (r2' a0 a1 a2 a3)) (s : Tp8) (t : Int) (l_1 : Tp5) (l_2 : Int) (l_3 : Tp8) : ChO (fun κ => slices_IndexFunc_6_L2_B s (r2 κ) t l_1 l_2 l_3) (slices_IndexFunc_6_L2_B s r2' t l_1 l_2 l_3) := by
  unfold slices_IndexFunc_6_L2_B
  repeat' with_reducible first | exact ChO.const _ | exact h_r2 _ _ _ _ | apply ChO.ite | apply ChO.G | apply ChO.both | (apply ChO.bind; intro _)
theorem slices_IndexFunc_6_L2_cn  (s : Tp8) : Cn (slices_IndexFunc_6_L2_F s) := fun g h hg x => slices_IndexFunc_6_L2_B_ch  (fun κ t l_1 l_2 l_3 => g κ (t, l_1, l_2, l_3)) (fun t l_1 l_2 l_3 => h (t, l_1, l_2, l_3)) (fun t l_1 l_2 l_3 => hg (t, l_1, l_2, l_3)) s x.1 x.2.1 x.2.2.1 x.2.2.2
theorem slices_IndexFunc_6_L2_eq  (s : Tp8) (t : Int) (l_1 : Tp5) (l_2 : Int) (l_3 : Tp8) : slices_IndexFunc_6_L2 s t l_1 l_2 l_3 = slices_IndexFunc_6_L2_B s (slices_IndexFunc_6_L2 s) t l_1 l_2 l_3 := LFix_eq (slices_IndexFunc_6_L2_cn s) (t, l_1, l_2, l_3)

noncomputable def trans_classes_J12 (t_2 : Int) (next' : Tp8) (r7 : (Int → Tp8 → Tp5 → Tp8 → Tp8 → Option Tp8)) (y'_2 : Tp5) (y'_3 : Int) (y'_4 : Tp8) (k : Int) (firsts_1 : Tp8) : Option Tp8 :=
  G (0 ≤ y'_3 ∧ y'_3 < (next'.length : Int)) (
  G ((y'_3).toNat < next'.length) (
  G (fits (t_2 + (1 : Int))) (
  r7 (t_2 + (1 : Int)) (next'.set (y'_3).toNat k) y'_2 y'_4 firsts_1)))
noncomputable def trans_classes_L7_B (t_1 : Tp5) (count : Int) (l : Tp8) (r3 : (Tp5 → Int → Tp8 → Option Tp8)) (r7 : Tf6) (t_2 : Int) (next' : Tp8) (same : Tp5) (l_1 : Tp8) (firsts : Tp8) : Option Tp8 :=
  if (decide (t_2 < (l.length : Int))) = true then
  (slices_IndexFunc_6 firsts same t_2 l_1).bind (fun y'_6 =>
  if (decide (y'_6.1 < (0 : Int))) = true then
  G (room y'_6.2.1 ([y'_6.2.2.2.1]) 8) (
  trans_classes_J12 t_2 next' r7 y'_6.2.2.1 y'_6.2.2.2.1 y'_6.2.2.2.2 (y'_6.2.1.length : Int) (y'_6.2.1 ++ ([y'_6.2.2.2.1]))) else
  trans_classes_J12 t_2 next' r7 y'_6.2.2.1 y'_6.2.2.2.1 y'_6.2.2.2.2 y'_6.1 y'_6.2.1) else
  if (decide ((firsts.length : Int) = count)) = true then
  some next' else
  r3 t_1 (firsts.length : Int) next'
noncomputable def trans_classes_L7_F (t_1 : Tp5) (count : Int) (l : Tp8) (r3 : (Tp5 → Int → Tp8 → Option Tp8)) : (Int × Tp8 × Tp5 × Tp8 × Tp8 → Option Tp8) → Int × Tp8 × Tp5 × Tp8 × Tp8 → Option Tp8 :=
  fun rec x => trans_classes_L7_B t_1 count l r3 (fun t_2 next' same l_1 firsts => rec (t_2, next', same, l_1, firsts)) x.1 x.2.1 x.2.2.1 x.2.2.2.1 x.2.2.2.2
noncomputable def trans_classes_L7 (t_1 : Tp5) (count : Int) (l : Tp8) (r3 : (Tp5 → Int → Tp8 → Option Tp8)) (t_2 : Int) (next' : Tp8) (same : Tp5) (l_1 : Tp8) (firsts : Tp8) : Option Tp8 := LFix (trans_classes_L7_F t_1 count l r3 ) (t_2, next', same, l_1, firsts)
noncomputable def trans_classes_L3_B  (r3 : Tp5 → Int → Tp8 → Option Tp8) (t_1 : Tp5) (count : Int) (l : Tp8) : Option Tp8 :=
  G (mkOK (l.length : Int) (l.length : Int) 8) (
  trans_classes_L7 t_1 count l r3 (0 : Int) (List.replicate ((l.length : Int)).toNat (0 : Int)) t_1 l ([]))
noncomputable def trans_classes_L3_F  : (Tp5 × Int × Tp8 → Option Tp8) → Tp5 × Int × Tp8 → Option Tp8 :=
  fun rec x => trans_classes_L3_B (fun t_1 count l => rec (t_1, count, l)) x.1 x.2.1 x.2.2
noncomputable def trans_classes_L3  (t_1 : Tp5) (count : Int) (l : Tp8) : Option Tp8 := LFix (trans_classes_L3_F ) (t_1, count, l)
noncomputable def trans_classes (t : Tp5) : Option Tp8 :=
  G (mkOK (t.2.2.2.2.1.length : Int) (t.2.2.2.2.1.length : Int) 8) (
  trans_classes_L3 (t.1, (t.2.1, (t.2.2.1, (t.2.2.2.1, (t.2.2.2.2.1, (t.2.2.2.2.2.1, (t.2.2.2.2.2.2.1, ()))))))) (1 : Int) (List.replicate ((t.2.2.2.2.1.length : Int)).toNat (0 : Int)))
theorem trans_classes_J12_ch (r7 : Nat → Tf6) (r7' : Tf6) (h_r7 : ∀ a0 a1 a2 a3 a4, ChO (fun κ => r7 κ a0 a1 a2 a3 a4) (r7' a0 a1 a2 a3 a4)) (t_2 : Int) (next' : Tp8) (y'_2 : Tp5) (y'_3 : Int) (y'_4 : Tp8) (k : Int) (firsts_1 : Tp8) : ChO (fun κ => trans_classes_J12 t_2 next' (r7 κ) y'_2 y'_3 y'_4 k firsts_1) (trans_classes_J12 t_2 next' r7' y'_2 y'_3 y'_4 k firsts_1) := by
  unfold trans_classes_J12
  repeat' with_reducible first | exact ChO.const _ | exact h_r7 _ _ _ _ _ | apply ChO.ite | apply ChO.G | apply ChO.both | (apply ChO.bind; intro _)
theorem trans_classes_L7_B_ch (r3 : Nat → Tp5 → Int → Tp8 → Option Tp8) (r3' : Tp5 → Int → Tp8 → Option Tp8) (h_r3 : ∀ a0 a1 a2, ChO (fun κ => r3 κ a0 a1 a2) (r3' a0 a1 a2)) (r7 : Nat → Tf6) (r7' : Tf6) (h_r7 : ∀ a0 a1 a2 a3 a4, ChO (fun κ => r7 κ a0 a1 a2 a3 a4) (r7' a0 a1 a2 a3 a4)) (t_1 : Tp5) (count : Int) (l : Tp8) (t_2 : Int) (next' : Tp8) (same : Tp5) (l_1 : Tp8) (firsts : Tp8) : ChO (fun κ => trans_classes_L7_B t_1 count l (r3 κ) (r7 κ) t_2 next' same l_1 firsts) (trans_classes_L7_B t_1 count l r3' r7' t_2 next' same l_1 firsts) := by
  unfold trans_classes_L7_B
  repeat' with_reducible first | exact ChO.const _ | exact h_r3 _ _ _ | exact h_r7 _ _ _ _ _ | (apply trans_classes_J12_ch <;> assumption) | apply ChO.ite | apply ChO.G | apply ChO.both | (apply ChO.bind; intro _)
theorem trans_classes_L7_cn (r3 : Tp5 → Int → Tp8 → Option Tp8) (t_1 : Tp5) (count : Int) (l : Tp8) : Cn (trans_classes_L7_F t_1 count l r3) := fun g h hg x => trans_classes_L7_B_ch (fun _ => r3) r3 (fun _ _ _ => ChO.const _) (fun κ t_2 next' same l_1 firsts => g κ (t_2, next', same, l_1, firsts)) (fun t_2 next' same l_1 firsts => h (t_2, next', same, l_1, firsts)) (fun t_2 next' same l_1 firsts => hg (t_2, next', same, l_1, firsts)) t_1 count l x.1 x.2.1 x.2.2.1 x.2.2.2.1 x.2.2.2.2
theorem trans_classes_L7_eq (r3 : Tp5 → Int → Tp8 → Option Tp8) (t_1 : Tp5) (count : Int) (l : Tp8) (t_2 : Int) (next' : Tp8) (same : Tp5) (l_1 : Tp8) (firsts : Tp8) : trans_classes_L7 t_1 count l r3 t_2 next' same l_1 firsts = trans_classes_L7_B t_1 count l r3 (trans_classes_L7 t_1 count l r3) t_2 next' same l_1 firsts := LFix_eq (trans_classes_L7_cn r3 t_1 count l) (t_2, next', same, l_1, firsts)
theorem trans_classes_L7_ch (r3 : Nat → Tp5 → Int → Tp8 → Option Tp8) (r3' : Tp5 → Int → Tp8 → Option Tp8) (h_r3 : ∀ a0 a1 a2, ChO (fun κ => r3 κ a0 a1 a2) (r3' a0 a1 a2)) (t_1 : Tp5) (count : Int) (l : Tp8) (t_2 : Int) (next' : Tp8) (same : Tp5) (l_1 : Tp8) (firsts : Tp8) : ChO (fun κ => trans_classes_L7 t_1 count l (r3 κ) t_2 next' same l_1 firsts) (trans_classes_L7 t_1 count l r3' t_2 next' same l_1 firsts) := by
  unfold trans_classes_L7
  exact LFix_ch (fun κ => (trans_classes_L7_cn (r3 κ) t_1 count l).mono) (trans_classes_L7_cn r3' t_1 count l).mono (fun g h hg x => trans_classes_L7_B_ch r3 r3' h_r3 (fun κ t_2 next' same l_1 firsts => g κ (t_2, next', same, l_1, firsts)) (fun t_2 next' same l_1 firsts => h (t_2, next', same, l_1, firsts)) (fun t_2 next' same l_1 firsts => hg (t_2, next', same, l_1, firsts)) t_1 count l x.1 x.2.1 x.2.2.1 x.2.2.2.1 x.2.2.2.2) _
theorem trans_classes_L3_B_ch (r3 : Nat → Tp5 → Int → Tp8 → Option Tp8) (r3' : Tp5 → Int → Tp8 → Option Tp8) (h_r3 : ∀ a0 a1 a2, ChO (fun κ => r3 κ a0 a1 a2) (r3' a0 a1 a2)) (t_1 : Tp5) (count : Int) (l : Tp8) : ChO (fun κ => trans_classes_L3_B (r3 κ) t_1 count l) (trans_classes_L3_B r3' t_1 count l) := by
  unfold trans_classes_L3_B
  repeat' with_reducible first | exact ChO.const _ | exact h_r3 _ _ _ | (apply trans_classes_J12_ch <;> assumption) | (apply trans_classes_L7_ch <;> assumption) | apply ChO.ite | apply ChO.G | apply ChO.both | (apply ChO.bind; intro _)
theorem trans_classes_L3_cn   : Cn (trans_classes_L3_F) := fun g h hg x => trans_classes_L3_B_ch  (fun κ t_1 count l => g κ (t_1, count, l)) (fun t_1 count l => h (t_1, count, l)) (fun t_1 count l => hg (t_1, count, l))  x.1 x.2.1 x.2.2
theorem trans_classes_L3_eq   (t_1 : Tp5) (count : Int) (l : Tp8) : trans_classes_L3 t_1 count l = trans_classes_L3_B (trans_classes_L3) t_1 count l := LFix_eq (trans_classes_L3_cn ) (t_1, count, l)

noncomputable def trans_least_J18 (t_1 : Int) (next' : Tp8) (r12 : (Int → Tp8 → Tp8 → Tp8 → Tp8 → Option Tp5)) (n : Int) (number_4 : Tp8) (number_5 : Tp8) (row_2 : Tp8) : Option Tp5 :=
  G (0 ≤ t_1 ∧ t_1 < (next'.length : Int)) (
  G ((t_1).toNat < next'.length) (
  G (fits (t_1 + (1 : Int))) (
  r12 (t_1 + (1 : Int)) number_4 number_5 row_2 (next'.set (t_1).toNat n))))
noncomputable def trans_least_L12_B (y' : Tp5) (y'_1 : Tp8) (i : Int) (row : Tp8) (out : Int) (out_1 : Int) (out_2 : Int) (out_3 : Tp8) (out_4 : Tp7) (out_5 : Tp6) (out_6 : Tp7) (r7 : (Int → Tp8 → Tp8 → Tp8 → Int → Int → Int → Tp8 → Tp7 → Tp6 → Tp7 → Option Tp5)) (r12 : Tf7) (t_1 : Int) (number_2 : Tp8) (number_3 : Tp8) (row_1 : Tp8) (next' : Tp8) : Option Tp5 :=
  if (decide (t_1 < ((ix y'.2.2.2.2.1 (ix row i)).length : Int))) = true then
  G (0 ≤ t_1 ∧ t_1 < ((ix y'.2.2.2.2.1 (ix row i)).length : Int)) (
  G (0 ≤ ix (ix y'.2.2.2.2.1 (ix row i)) t_1 ∧ ix (ix y'.2.2.2.2.1 (ix row i)) t_1 < (y'_1.length : Int)) (
  G ((ix (ix y'.2.2.2.2.1 (ix row i)) t_1).toNat < y'_1.length) (
  if (!(mhas number_2 (ix y'_1 (ix (ix y'.2.2.2.2.1 (ix row i)) t_1)))) = true then
  G (0 ≤ ix (ix y'.2.2.2.2.1 (ix row i)) t_1 ∧ ix (ix y'.2.2.2.2.1 (ix row i)) t_1 < (y'_1.length : Int)) (
  G ((ix (ix y'.2.2.2.2.1 (ix row i)) t_1).toNat < y'_1.length) (
  G (room row_1 ([ix (ix y'.2.2.2.2.1 (ix row i)) t_1]) 8) (
  trans_least_J18 t_1 next' r12 (row_1.length : Int) (mputK number_2 (ix y'_1 (ix (ix y'.2.2.2.2.1 (ix row i)) t_1))) (mputV number_2 number_3 (ix y'_1 (ix (ix y'.2.2.2.2.1 (ix row i)) t_1)) (row_1.length : Int)) (row_1 ++ ([ix (ix y'.2.2.2.2.1 (ix row i)) t_1]))))) else
  trans_least_J18 t_1 next' r12 (mget number_2 number_3 (ix y'_1 (ix (ix y'.2.2.2.2.1 (ix row i)) t_1)) (0 : Int)) number_2 number_3 row_1))) else
  G (room out_4 ([next']) 24) (
  G (0 ≤ ix row i ∧ ix row i < (y'.2.2.2.2.2.1.length : Int)) (
  G (room out_5 ([ix y'.2.2.2.2.2.1 (ix row i)]) 24) (
  G (0 ≤ ix row i ∧ ix row i < (y'.2.2.2.2.2.2.1.length : Int)) (
  G (room out_6 ([ix y'.2.2.2.2.2.2.1 (ix row i)]) 24) (
  G (fits (i + (1 : Int))) (
  r7 (i + (1 : Int)) number_2 number_3 row_1 out out_1 out_2 out_3 (out_4 ++ ([next'])) (out_5 ++ ([ix y'.2.2.2.2.2.1 (ix row i)])) (out_6 ++ ([ix y'.2.2.2.2.2.2.1 (ix row i)]))))))))
noncomputable def trans_least_L12_F (y' : Tp5) (y'_1 : Tp8) (i : Int) (row : Tp8) (out : Int) (out_1 : Int) (out_2 : Int) (out_3 : Tp8) (out_4 : Tp7) (out_5 : Tp6) (out_6 : Tp7) (r7 : (Int → Tp8 → Tp8 → Tp8 → Int → Int → Int → Tp8 → Tp7 → Tp6 → Tp7 → Option Tp5)) : (Int × Tp8 × Tp8 × Tp8 × Tp8 → Option Tp5) → Int × Tp8 × Tp8 × Tp8 × Tp8 → Option Tp5 :=
  fun rec x => trans_least_L12_B y' y'_1 i row out out_1 out_2 out_3 out_4 out_5 out_6 r7 (fun t_1 number_2 number_3 row_1 next' => rec (t_1, number_2, number_3, row_1, next')) x.1 x.2.1 x.2.2.1 x.2.2.2.1 x.2.2.2.2
noncomputable def trans_least_L12 (y' : Tp5) (y'_1 : Tp8) (i : Int) (row : Tp8) (out : Int) (out_1 : Int) (out_2 : Int) (out_3 : Tp8) (out_4 : Tp7) (out_5 : Tp6) (out_6 : Tp7) (r7 : (Int → Tp8 → Tp8 → Tp8 → Int → Int → Int → Tp8 → Tp7 → Tp6 → Tp7 → Option Tp5)) (t_1 : Int) (number_2 : Tp8) (number_3 : Tp8) (row_1 : Tp8) (next' : Tp8) : Option Tp5 := LFix (trans_least_L12_F y' y'_1 i row out out_1 out_2 out_3 out_4 out_5 out_6 r7 ) (t_1, number_2, number_3, row_1, next')
noncomputable def trans_least_L7_B (y' : Tp5) (y'_1 : Tp8) (r7 : Tf1) (i : Int) (number : Tp8) (number_1 : Tp8) (row : Tp8) (out : Int) (out_1 : Int) (out_2 : Int) (out_3 : Tp8) (out_4 : Tp7) (out_5 : Tp6) (out_6 : Tp7) : Option Tp5 :=
  if (decide (i < (row.length : Int))) = true then
  G (0 ≤ i ∧ i < (row.length : Int)) (
  G ((i).toNat < row.length) (
  G (mkOK y'.1 y'.1 8) (
  G (0 ≤ ix row i ∧ ix row i < (y'.2.2.2.2.1.length : Int)) (
  trans_least_L12 y' y'_1 i row out out_1 out_2 out_3 out_4 out_5 out_6 r7 (0 : Int) number number_1 row (List.replicate (y'.1).toNat (0 : Int)))))) else
  some (out, (out_1, (out_2, (out_3, (out_4, (out_5, (out_6, ())))))))
noncomputable def trans_least_L7_F (y' : Tp5) (y'_1 : Tp8) : (Int × Tp8 × Tp8 × Tp8 × Int × Int × Int × Tp8 × Tp7 × Tp6 × Tp7 → Option Tp5) → Int × Tp8 × Tp8 × Tp8 × Int × Int × Int × Tp8 × Tp7 × Tp6 × Tp7 → Option Tp5 :=
  fun rec x => trans_least_L7_B y' y'_1 (fun i number number_1 row out out_1 out_2 out_3 out_4 out_5 out_6 => rec (i, number, number_1, row, out, out_1, out_2, out_3, out_4, out_5, out_6)) x.1 x.2.1 x.2.2.1 x.2.2.2.1 x.2.2.2.2.1 x.2.2.2.2.2.1 x.2.2.2.2.2.2.1 x.2.2.2.2.2.2.2.1 x.2.2.2.2.2.2.2.2.1 x.2.2.2.2.2.2.2.2.2.1 x.2.2.2.2.2.2.2.2.2.2
noncomputable def trans_least_L7 (y' : Tp5) (y'_1 : Tp8) (i : Int) (number : Tp8) (number_1 : Tp8) (row : Tp8) (out : Int) (out_1 : Int) (out_2 : Int) (out_3 : Tp8) (out_4 : Tp7) (out_5 : Tp6) (out_6 : Tp7) : Option Tp5 := LFix (trans_least_L7_F y' y'_1 ) (i, number, number_1, row, out, out_1, out_2, out_3, out_4, out_5, out_6)
noncomputable def trans_least (t : Tp5) : Option Tp5 :=
  (trans_pushed (t.1, (t.2.1, (t.2.2.1, (t.2.2.2.1, (t.2.2.2.2.1, (t.2.2.2.2.2.1, (t.2.2.2.2.2.2.1, ())))))))).bind (fun y' =>
  (trans_classes (y'.1, (y'.2.1, (y'.2.2.1, (y'.2.2.2.1, (y'.2.2.2.2.1, (y'.2.2.2.2.2.1, (y'.2.2.2.2.2.2.1, ())))))))).bind (fun y'_1 =>
  G (0 ≤ y'.2.2.1 ∧ y'.2.2.1 < (y'_1.length : Int)) (
  G ((y'.2.2.1).toNat < y'_1.length) (
  trans_least_L7 y' y'_1 (0 : Int) (mputK ([] : List Int) (ix y'_1 y'.2.2.1)) (mputV ([] : List Int) ([] : List Int) (ix y'_1 y'.2.2.1) (0 : Int)) ([y'.2.2.1]) y'.1 y'.2.1 (0 : Int) y'.2.2.2.1 ([] : List Tp8) ([] : List Tp7) ([] : List Tp8)))))
theorem trans_least_J18_ch (r12 : Nat → Tf7) (r12' : Tf7) (h_r12 : ∀ a0 a1 a2 a3 a4, ChO (fun κ => r12 κ a0 a1 a2 a3 a4) (r12' a0 a1 a2 a3 a4)) (t_1 : Int) (next' : Tp8) (n : Int) (number_4 : Tp8) (number_5 : Tp8) (row_2 : Tp8) : ChO (fun κ => trans_least_J18 t_1 next' (r12 κ) n number_4 number_5 row_2) (trans_least_J18 t_1 next' r12' n number_4 number_5 row_2) := by
  unfold trans_least_J18
  repeat' with_reducible first | exact ChO.const _ | exact h_r12 _ _ _ _ _ | apply ChO.ite | apply ChO.G | apply ChO.both | (apply ChO.bind; intro _)
theorem trans_least_L12_B_ch (r7 : Nat → Tf1) (r7' : Tf1) (h_r7 : ∀ a0 a1 a2 a3 a4 a5 a6 a7 a8 a9 a10, ChO (fun κ => r7 κ a0 a1 a2 a3 a4 a5 a6 a7 a8 a9 a10) (r7' a0 a1 a2 a3 a4 a5 a6 a7 a8 a9 a10)) (r12 : Nat → Tf7) (r12' : Tf7) (h_r12 : ∀ a0 a1 a2 a3 a4, ChO (fun κ => r12 κ a0 a1 a2 a3 a4) (r12' a0 a1 a2 a3 a4)) (y' : Tp5) (y'_1 : Tp8) (i : Int) (row : Tp8) (out : Int) (out_1 : Int) (out_2 : Int) (out_3 : Tp8) (out_4 : Tp7) (out_5 : Tp6) (out_6 : Tp7) (t_1 : Int) (number_2 : Tp8) (number_3 : Tp8) (row_1 : Tp8) (next' : Tp8) : ChO (fun κ => trans_least_L12_B y' y'_1 i row out out_1 out_2 out_3 out_4 out_5 out_6 (r7 κ) (r12 κ) t_1 number_2 number_3 row_1 next') (trans_least_L12_B y' y'_1 i row out out_1 out_2 out_3 out_4 out_5 out_6 r7' r12' t_1 number_2 number_3 row_1 next') := by
  unfold trans_least_L12_B
  repeat' with_reducible first | exact ChO.const _ | exact h_r7 _ _ _ _ _ _ _ _ _ _ _ | exact h_r12 _ _ _ _ _ | (apply trans_least_J18_ch <;> assumption) | apply ChO.ite | apply ChO.G | apply ChO.both | (apply ChO.bind; intro _)
theorem trans_least_L12_cn (r7 : Tf1) (y' : Tp5) (y'_1 : Tp8) (i : Int) (row : Tp8) (out : Int) (out_1 : Int) (out_2 : Int) (out_3 : Tp8) (out_4 : Tp7) (out_5 : Tp6) (out_6 : Tp7) : Cn (trans_least_L12_F y' y'_1 i row out out_1 out_2 out_3 out_4 out_5 out_6 r7) := fun g h hg x => trans_least_L12_B_ch (fun _ => r7) r7 (fun _ _ _ _ _ _ _ _ _ _ _ => ChO.const _) (fun κ t_1 number_2 number_3 row_1 next' => g κ (t_1, number_2, number_3, row_1, next')) (fun t_1 number_2 number_3 row_1 next' => h (t_1, number_2, number_3, row_1, next')) (fun t_1 number_2 number_3 row_1 next' => hg (t_1, number_2, number_3, row_1, next')) y' y'_1 i row out out_1 out_2 out_3 out_4 out_5 out_6 x.1 x.2.1 x.2.2.1 x.2.2.2.1 x.2.2.2.2
theorem trans_least_L12_eq (r7 : Tf1) (y' : Tp5) (y'_1 : Tp8) (i : Int) (row : Tp8) (out : Int) (out_1 : Int) (out_2 : Int) (out_3 : Tp8) (out_4 : Tp7) (out_5 : Tp6) (out_6 : Tp7) (t_1 : Int) (number_2 : Tp8) (number_3 : Tp8) (row_1 : Tp8) (next' : Tp8) : trans_least_L12 y' y'_1 i row out out_1 out_2 out_3 out_4 out_5 out_6 r7 t_1 number_2 number_3 row_1 next' = trans_least_L12_B y' y'_1 i row out out_1 out_2 out_3 out_4 out_5 out_6 r7 (trans_least_L12 y' y'_1 i row out out_1 out_2 out_3 out_4 out_5 out_6 r7) t_1 number_2 number_3 row_1 next' := LFix_eq (trans_least_L12_cn r7 y' y'_1 i row out out_1 out_2 out_3 out_4 out_5 out_6) (t_1, number_2, number_3, row_1, next')
theorem trans_least_L12_ch (r7 : Nat → Tf1) (r7' : Tf1) (h_r7 : ∀ a0 a1 a2 a3 a4 a5 a6 a7 a8 a9 a10, ChO (fun κ => r7 κ a0 a1 a2 a3 a4 a5 a6 a7 a8 a9 a10) (r7' a0 a1 a2 a3 a4 a5 a6 a7 a8 a9 a10)) (y' : Tp5) (y'_1 : Tp8) (i : Int) (row : Tp8) (out : Int) (out_1 : Int) (out_2 : Int) (out_3 : Tp8) (out_4 : Tp7) (out_5 : Tp6) (out_6 : Tp7) (t_1 : Int) (number_2 : Tp8) (number_3 : Tp8) (row_1 : Tp8) (next' : Tp8) : ChO (fun κ => trans_least_L12 y' y'_1 i row out out_1 out_2 out_3 out_4 out_5 out_6 (r7 κ) t_1 number_2 number_3 row_1 next') (trans_least_L12 y' y'_1 i row out out_1 out_2 out_3 out_4 out_5 out_6 r7' t_1 number_2 number_3 row_1 next') := by
  unfold trans_least_L12
  exact LFix_ch (fun κ => (trans_least_L12_cn (r7 κ) y' y'_1 i row out out_1 out_2 out_3 out_4 out_5 out_6).mono) (trans_least_L12_cn r7' y' y'_1 i row out out_1 out_2 out_3 out_4 out_5 out_6).mono (fun g h hg x => trans_least_L12_B_ch r7 r7' h_r7 (fun κ t_1 number_2 number_3 row_1 next' => g κ (t_1, number_2, number_3, row_1, next')) (fun t_1 number_2 number_3 row_1 next' => h (t_1, number_2, number_3, row_1, next')) (fun t_1 number_2 number_3 row_1 next' => hg (t_1, number_2, number_3, row_1, next')) y' y'_1 i row out out_1 out_2 out_3 out_4 out_5 out_6 x.1 x.2.1 x.2.2.1 x.2.2.2.1 x.2.2.2.2) _
theorem trans_least_L7_B_ch (r7 : Nat → Tf1) (r7' : Tf1) (h_r7 : ∀ a0 a1 a2 a3 a4 a5 a6 a7 a8 a9 a10, ChO (fun κ => r7 κ a0 a1 a2 a3 a4 a5 a6 a7 a8 a9 a10) (r7' a0 a1 a2 a3 a4 a5 a6 a7 a8 a9 a10)) (y' : Tp5) (y'_1 : Tp8) (i : Int) (number : Tp8) (number_1 : Tp8) (row : Tp8) (out : Int) (out_1 : Int) (out_2 : Int) (out_3 : Tp8) (out_4 : Tp7) (out_5 : Tp6) (out_6 : Tp7) : ChO (fun κ => trans_least_L7_B y' y'_1 (r7 κ) i number number_1 row out out_1 out_2 out_3 out_4 out_5 out_6) (trans_least_L7_B y' y'_1 r7' i number number_1 row out out_1 out_2 out_3 out_4 out_5 out_6) := by
  unfold trans_least_L7_B
  repeat' with_reducible first | exact ChO.const _ | exact h_r7 _ _ _ _ _ _ _ _ _ _ _ | (apply trans_least_J18_ch <;> assumption) | (apply trans_least_L12_ch <;> assumption) | apply ChO.ite | apply ChO.G | apply ChO.both | (apply ChO.bind; intro _)
theorem trans_least_L7_cn  (y' : Tp5) (y'_1 : Tp8) : Cn (trans_least_L7_F y' y'_1) := fun g h hg x => trans_least_L7_B_ch  (fun κ i number number_1 row out out_1 out_2 out_3 out_4 out_5 out_6 => g κ (i, number, number_1, row, out, out_1, out_2, out_3, out_4, out_5, out_6)) (fun i number number_1 row out out_1 out_2 out_3 out_4 out_5 out_6 => h (i, number, number_1, row, out, out_1, out_2, out_3, out_4, out_5, out_6)) (fun i number number_1 row out out_1 out_2 out_3 out_4 out_5 out_6 => hg (i, number, number_1, row, out, out_1, out_2, out_3, out_4, out_5, out_6)) y' y'_1 x.1 x.2.1 x.2.2.1 x.2.2.2.1 x.2.2.2.2.1 x.2.2.2.2.2.1 x.2.2.2.2.2.2.1 x.2.2.2.2.2.2.2.1 x.2.2.2.2.2.2.2.2.1 x.2.2.2.2.2.2.2.2.2.1 x.2.2.2.2.2.2.2.2.2.2
theorem trans_least_L7_eq  (y' : Tp5) (y'_1 : Tp8) (i : Int) (number : Tp8) (number_1 : Tp8) (row : Tp8) (out : Int) (out_1 : Int) (out_2 : Int) (out_3 : Tp8) (out_4 : Tp7) (out_5 : Tp6) (out_6 : Tp7) : trans_least_L7 y' y'_1 i number number_1 row out out_1 out_2 out_3 out_4 out_5 out_6 = trans_least_L7_B y' y'_1 (trans_least_L7 y' y'_1) i number number_1 row out out_1 out_2 out_3 out_4 out_5 out_6 := LFix_eq (trans_least_L7_cn y' y'_1) (i, number, number_1, row, out, out_1, out_2, out_3, out_4, out_5, out_6)

noncomputable def trans_told (t : Tp5) : Option Tp4 :=
  if (decide ((6 : Int) < (t.2.2.2.2.1.length : Int))) = true then
  some (((0 : Int), ((0 : Int), ((0 : Int), ([], ([], ([], ([], ()))))))), (7 : Int)) else
  (trans_long (t.1, (t.2.1, (t.2.2.1, (t.2.2.2.1, (t.2.2.2.2.1, (t.2.2.2.2.2.1, (t.2.2.2.2.2.2.1, ())))))))).bind (fun y' =>
  if y' = true then
  some (((0 : Int), ((0 : Int), ((0 : Int), ([], ([], ([], ([], ()))))))), (7 : Int)) else
  some ((t.1, (t.2.1, (t.2.2.1, (t.2.2.2.1, (t.2.2.2.2.1, (t.2.2.2.2.2.1, (t.2.2.2.2.2.2.1, ()))))))), (0 : Int)))

noncomputable def trans_Behind_J27 (t_3 : Int) (r17 : (Tp5 → Int → Int → Int → Int → Tp8 → Tp7 → Tp6 → Tp7 → Option Tp4)) (u_3 : Tp5) (out_15 : Int) (out_16 : Int) (out_17 : Int) (out_18 : Tp8) (l_3 : Tp7) (l_4 : Tp6) (l_5 : Tp7) : Option Tp4 :=
  G (fits (t_3 + (1 : Int))) (
  r17 u_3 (t_3 + (1 : Int)) out_15 out_16 out_17 out_18 l_3 l_4 l_5)
noncomputable def trans_Behind_L21_B (t : Tp5) (u : Tp5) (t_2 : Int) (u_2 : Tp5) (t_3 : Int) (out_11 : Int) (out_12 : Int) (out_13 : Int) (out_14 : Tp8) (l : Tp7) (l_1 : Tp6) (l_2 : Tp7) (r17 : (Tp5 → Int → Int → Int → Int → Tp8 → Tp7 → Tp6 → Tp7 → Option Tp4)) (r21 : Int → Tp8 → Tp7 → Option Tp4) (t_4 : Int) (next'_1 : Tp8) (says_1 : Tp7) : Option Tp4 :=
  if (decide (t_4 < ((ix t.2.2.2.2.1 t_2).length : Int))) = true then
  G (0 ≤ t_4 ∧ t_4 < ((ix t.2.2.2.2.1 t_2).length : Int)) (
  G (0 ≤ t_2 ∧ t_2 < (t.2.2.2.2.2.1.length : Int)) (
  G (0 ≤ t_4 ∧ t_4 < ((ix t.2.2.2.2.2.1 t_2).length : Int)) (
  (trans_run u_2 t_3 (ix (ix t.2.2.2.2.2.1 t_2) t_4)).bind (fun y'_8 =>
  G (fits ((ix (ix t.2.2.2.2.1 t_2) t_4) * (u.2.2.2.2.1.length : Int))) (
  G (fits (((ix (ix t.2.2.2.2.1 t_2) t_4) * (u.2.2.2.2.1.length : Int)) + y'_8.1)) (
  G (0 ≤ t_4 ∧ t_4 < (next'_1.length : Int)) (
  G ((t_4).toNat < next'_1.length) (
  G (0 ≤ t_4 ∧ t_4 < (says_1.length : Int)) (
  G ((t_4).toNat < says_1.length) (
  G (fits (t_4 + (1 : Int))) (
  r21 (t_4 + (1 : Int)) (next'_1.set (t_4).toNat (((ix (ix t.2.2.2.2.1 t_2) t_4) * (u.2.2.2.2.1.length : Int)) + y'_8.1)) (says_1.set (t_4).toNat y'_8.2)))))))))))) else
  G (0 ≤ t_2 ∧ t_2 < (t.2.2.2.2.2.2.1.length : Int)) (
  (trans_run u_2 t_3 (ix t.2.2.2.2.2.2.1 t_2)).bind (fun y'_27 =>
  G (0 ≤ y'_27.1 ∧ y'_27.1 < (u_2.2.2.2.2.2.2.1.length : Int)) (
  both [Tc1, (.int .i64)] (
  both [Tc1, (.int .i64)] (
  G (room l ([next'_1]) 24) (
  both [Tc1, (.int .i64)] (
  both [Tc1, (.int .i64)] (
  G (room l_1 ([says_1]) 24) (
  (slices_Concat ([y'_27.2, ix u_2.2.2.2.2.2.2.1 y'_27.1])).bind (fun y'_12 =>
  G (room l_2 ([y'_12]) 24) (
  trans_Behind_J27 t_3 r17 u_2 out_11 out_12 out_13 out_14 (l ++ ([next'_1])) (l_1 ++ ([says_1])) (l_2 ++ ([y'_12])))))) (
  G (room l_1 ([says_1]) 24) (
  (slices_Concat ([y'_27.2, ix u_2.2.2.2.2.2.2.1 y'_27.1])).bind (fun y'_13 =>
  G (room l_2 ([y'_13]) 24) (
  trans_Behind_J27 t_3 r17 u_2 out_11 out_12 out_13 out_14 (l ++ ([next'_1])) (l_1 ++ ([says_1])) (l_2 ++ ([y'_13]))))))) (
  G (room l_1 ([says_1]) 24) (
  (slices_Concat ([y'_27.2, ix u_2.2.2.2.2.2.2.1 y'_27.1])).bind (fun y'_14 =>
  G (room l_2 ([y'_14]) 24) (
  trans_Behind_J27 t_3 r17 u_2 out_11 out_12 out_13 out_14 (l ++ ([next'_1])) (l_1 ++ ([says_1])) (l_2 ++ ([y'_14])))))))) (
  both [Tc1, (.int .i64)] (
  both [Tc1, (.int .i64)] (
  G (room l ([next'_1]) 24) (
  both [Tc1, (.int .i64)] (
  G (room l_1 ([says_1]) 24) (
  (slices_Concat ([y'_27.2, ix u_2.2.2.2.2.2.2.1 y'_27.1])).bind (fun y'_15 =>
  G (room l_2 ([y'_15]) 24) (
  trans_Behind_J27 t_3 r17 u_2 out_11 out_12 out_13 out_14 (l ++ ([next'_1])) (l_1 ++ ([says_1])) (l_2 ++ ([y'_15])))))) (
  G (room l_1 ([says_1]) 24) (
  (slices_Concat ([y'_27.2, ix u_2.2.2.2.2.2.2.1 y'_27.1])).bind (fun y'_16 =>
  G (room l_2 ([y'_16]) 24) (
  trans_Behind_J27 t_3 r17 u_2 out_11 out_12 out_13 out_14 (l ++ ([next'_1])) (l_1 ++ ([says_1])) (l_2 ++ ([y'_16])))))))) (
  G (room l ([next'_1]) 24) (
  G (room l_1 ([says_1]) 24) (
  (slices_Concat ([y'_27.2, ix u_2.2.2.2.2.2.2.1 y'_27.1])).bind (fun y'_17 =>
  G (room l_2 ([y'_17]) 24) (
  trans_Behind_J27 t_3 r17 u_2 out_11 out_12 out_13 out_14 (l ++ ([next'_1])) (l_1 ++ ([says_1])) (l_2 ++ ([y'_17])))))))) (
  both [Tc1, (.int .i64)] (
  G (room l ([next'_1]) 24) (
  G (room l_1 ([says_1]) 24) (
  (slices_Concat ([y'_27.2, ix u_2.2.2.2.2.2.2.1 y'_27.1])).bind (fun y'_18 =>
  G (room l_2 ([y'_18]) 24) (
  trans_Behind_J27 t_3 r17 u_2 out_11 out_12 out_13 out_14 (l ++ ([next'_1])) (l_1 ++ ([says_1])) (l_2 ++ ([y'_18]))))))) (
  G (room l ([next'_1]) 24) (
  G (room l_1 ([says_1]) 24) (
  (slices_Concat ([y'_27.2, ix u_2.2.2.2.2.2.2.1 y'_27.1])).bind (fun y'_19 =>
  G (room l_2 ([y'_19]) 24) (
  trans_Behind_J27 t_3 r17 u_2 out_11 out_12 out_13 out_14 (l ++ ([next'_1])) (l_1 ++ ([says_1])) (l_2 ++ ([y'_19])))))))))) (
  both [Tc1, (.int .i64)] (
  both [Tc1, (.int .i64)] (
  both [Tc1, (.int .i64)] (
  G (room l ([next'_1]) 24) (
  both [Tc1, (.int .i64)] (
  G (room l_1 ([says_1]) 24) (
  (slices_Concat ([y'_27.2, ix u_2.2.2.2.2.2.2.1 y'_27.1])).bind (fun y'_20 =>
  G (room l_2 ([y'_20]) 24) (
  trans_Behind_J27 t_3 r17 u_2 out_11 out_12 out_13 out_14 (l ++ ([next'_1])) (l_1 ++ ([says_1])) (l_2 ++ ([y'_20])))))) (
  G (room l_1 ([says_1]) 24) (
  (slices_Concat ([y'_27.2, ix u_2.2.2.2.2.2.2.1 y'_27.1])).bind (fun y'_21 =>
  G (room l_2 ([y'_21]) 24) (
  trans_Behind_J27 t_3 r17 u_2 out_11 out_12 out_13 out_14 (l ++ ([next'_1])) (l_1 ++ ([says_1])) (l_2 ++ ([y'_21])))))))) (
  G (room l ([next'_1]) 24) (
  G (room l_1 ([says_1]) 24) (
  (slices_Concat ([y'_27.2, ix u_2.2.2.2.2.2.2.1 y'_27.1])).bind (fun y'_22 =>
  G (room l_2 ([y'_22]) 24) (
  trans_Behind_J27 t_3 r17 u_2 out_11 out_12 out_13 out_14 (l ++ ([next'_1])) (l_1 ++ ([says_1])) (l_2 ++ ([y'_22])))))))) (
  G (room l ([next'_1]) 24) (
  G (room l_1 ([says_1]) 24) (
  (slices_Concat ([y'_27.2, ix u_2.2.2.2.2.2.2.1 y'_27.1])).bind (fun y'_23 =>
  G (room l_2 ([y'_23]) 24) (
  trans_Behind_J27 t_3 r17 u_2 out_11 out_12 out_13 out_14 (l ++ ([next'_1])) (l_1 ++ ([says_1])) (l_2 ++ ([y'_23])))))))) (
  both [Tc1, (.int .i64)] (
  both [Tc1, (.int .i64)] (
  G (room l ([next'_1]) 24) (
  G (room l_1 ([says_1]) 24) (
  (slices_Concat ([y'_27.2, ix u_2.2.2.2.2.2.2.1 y'_27.1])).bind (fun y'_24 =>
  G (room l_2 ([y'_24]) 24) (
  trans_Behind_J27 t_3 r17 u_2 out_11 out_12 out_13 out_14 (l ++ ([next'_1])) (l_1 ++ ([says_1])) (l_2 ++ ([y'_24]))))))) (
  G (room l ([next'_1]) 24) (
  G (room l_1 ([says_1]) 24) (
  (slices_Concat ([y'_27.2, ix u_2.2.2.2.2.2.2.1 y'_27.1])).bind (fun y'_25 =>
  G (room l_2 ([y'_25]) 24) (
  trans_Behind_J27 t_3 r17 u_2 out_11 out_12 out_13 out_14 (l ++ ([next'_1])) (l_1 ++ ([says_1])) (l_2 ++ ([y'_25])))))))) (
  G (room l ([next'_1]) 24) (
  G (room l_1 ([says_1]) 24) (
  (slices_Concat ([y'_27.2, ix u_2.2.2.2.2.2.2.1 y'_27.1])).bind (fun y'_26 =>
  G (room l_2 ([y'_26]) 24) (
  trans_Behind_J27 t_3 r17 u_2 out_11 out_12 out_13 out_14 (l ++ ([next'_1])) (l_1 ++ ([says_1])) (l_2 ++ ([y'_26]))))))))))))
noncomputable def trans_Behind_L21_F (t : Tp5) (u : Tp5) (t_2 : Int) (u_2 : Tp5) (t_3 : Int) (out_11 : Int) (out_12 : Int) (out_13 : Int) (out_14 : Tp8) (l : Tp7) (l_1 : Tp6) (l_2 : Tp7) (r17 : (Tp5 → Int → Int → Int → Int → Tp8 → Tp7 → Tp6 → Tp7 → Option Tp4)) : (Int × Tp8 × Tp7 → Option Tp4) → Int × Tp8 × Tp7 → Option Tp4 :=
  fun rec x => trans_Behind_L21_B t u t_2 u_2 t_3 out_11 out_12 out_13 out_14 l l_1 l_2 r17 (fun t_4 next'_1 says_1 => rec (t_4, next'_1, says_1)) x.1 x.2.1 x.2.2
noncomputable def trans_Behind_L21 (t : Tp5) (u : Tp5) (t_2 : Int) (u_2 : Tp5) (t_3 : Int) (out_11 : Int) (out_12 : Int) (out_13 : Int) (out_14 : Tp8) (l : Tp7) (l_1 : Tp6) (l_2 : Tp7) (r17 : (Tp5 → Int → Int → Int → Int → Tp8 → Tp7 → Tp6 → Tp7 → Option Tp4)) (t_4 : Int) (next'_1 : Tp8) (says_1 : Tp7) : Option Tp4 := LFix (trans_Behind_L21_F t u t_2 u_2 t_3 out_11 out_12 out_13 out_14 l l_1 l_2 r17 ) (t_4, next'_1, says_1)
noncomputable def trans_Behind_J19 (t : Tp5) (u : Tp5) (t_2 : Int) (u_2 : Tp5) (t_3 : Int) (out_11 : Int) (out_12 : Int) (out_13 : Int) (out_14 : Tp8) (l : Tp7) (l_1 : Tp6) (l_2 : Tp7) (r17 : (Tp5 → Int → Int → Int → Int → Tp8 → Tp7 → Tp6 → Tp7 → Option Tp4)) (next' : Tp8) (says : Tp7) : Option Tp4 :=
  G (0 ≤ t_2 ∧ t_2 < (t.2.2.2.2.1.length : Int)) (
  trans_Behind_L21 t u t_2 u_2 t_3 out_11 out_12 out_13 out_14 l l_1 l_2 r17 (0 : Int) next' says)
noncomputable def trans_Behind_L17_B (t : Tp5) (u : Tp5) (t_2 : Int) (r14 : (Tp5 → Int → Int → Int → Int → Tp8 → Tp7 → Tp6 → Tp7 → Option Tp4)) (r17 : Tf3) (u_2 : Tp5) (t_3 : Int) (out_11 : Int) (out_12 : Int) (out_13 : Int) (out_14 : Tp8) (l : Tp7) (l_1 : Tp6) (l_2 : Tp7) : Option Tp4 :=
  if (decide (t_3 < (u.2.2.2.2.1.length : Int))) = true then
  both [Tc1, (.int .i64)] (
  G (mkOK t.1 t.1 8) (
  G (mkOK t.1 t.1 24) (
  trans_Behind_J19 t u t_2 u_2 t_3 out_11 out_12 out_13 out_14 l l_1 l_2 r17 (List.replicate (t.1).toNat (0 : Int)) (List.replicate (t.1).toNat ([] : List Int))))) (
  G (mkOK t.1 t.1 24) (
  G (mkOK t.1 t.1 8) (
  trans_Behind_J19 t u t_2 u_2 t_3 out_11 out_12 out_13 out_14 l l_1 l_2 r17 (List.replicate (t.1).toNat (0 : Int)) (List.replicate (t.1).toNat ([] : List Int))))) else
  G (fits (t_2 + (1 : Int))) (
  r14 u_2 (t_2 + (1 : Int)) out_11 out_12 out_13 out_14 l l_1 l_2)
noncomputable def trans_Behind_L17_F (t : Tp5) (u : Tp5) (t_2 : Int) (r14 : (Tp5 → Int → Int → Int → Int → Tp8 → Tp7 → Tp6 → Tp7 → Option Tp4)) : (Tp5 × Int × Int × Int × Int × Tp8 × Tp7 × Tp6 × Tp7 → Option Tp4) → Tp5 × Int × Int × Int × Int × Tp8 × Tp7 × Tp6 × Tp7 → Option Tp4 :=
  fun rec x => trans_Behind_L17_B t u t_2 r14 (fun u_2 t_3 out_11 out_12 out_13 out_14 l l_1 l_2 => rec (u_2, t_3, out_11, out_12, out_13, out_14, l, l_1, l_2)) x.1 x.2.1 x.2.2.1 x.2.2.2.1 x.2.2.2.2.1 x.2.2.2.2.2.1 x.2.2.2.2.2.2.1 x.2.2.2.2.2.2.2.1 x.2.2.2.2.2.2.2.2
noncomputable def trans_Behind_L17 (t : Tp5) (u : Tp5) (t_2 : Int) (r14 : (Tp5 → Int → Int → Int → Int → Tp8 → Tp7 → Tp6 → Tp7 → Option Tp4)) (u_2 : Tp5) (t_3 : Int) (out_11 : Int) (out_12 : Int) (out_13 : Int) (out_14 : Tp8) (l : Tp7) (l_1 : Tp6) (l_2 : Tp7) : Option Tp4 := LFix (trans_Behind_L17_F t u t_2 r14 ) (u_2, t_3, out_11, out_12, out_13, out_14, l, l_1, l_2)
noncomputable def trans_Behind_L14_B (t : Tp5) (u : Tp5) (r14 : Tf3) (u_1 : Tp5) (t_2 : Int) (out_4 : Int) (out_5 : Int) (out_6 : Int) (out_7 : Tp8) (out_8 : Tp7) (out_9 : Tp6) (out_10 : Tp7) : Option Tp4 :=
  if (decide (t_2 < (t.2.2.2.2.1.length : Int))) = true then
  trans_Behind_L17 t u t_2 r14 u_1 (0 : Int) out_4 out_5 out_6 out_7 out_8 out_9 out_10 else
  (trans_least (out_4, (out_5, (out_6, (out_7, (out_8, (out_9, (out_10, ())))))))).bind (fun y'_28 =>
  (trans_told y'_28).bind (fun y'_32 =>
  some ((y'_32.1.1, (y'_32.1.2.1, (y'_32.1.2.2.1, (y'_32.1.2.2.2.1, (y'_32.1.2.2.2.2.1, (y'_32.1.2.2.2.2.2.1, (y'_32.1.2.2.2.2.2.2.1, ()))))))), y'_32.2)))
noncomputable def trans_Behind_L14_F (t : Tp5) (u : Tp5) : (Tp5 × Int × Int × Int × Int × Tp8 × Tp7 × Tp6 × Tp7 → Option Tp4) → Tp5 × Int × Int × Int × Int × Tp8 × Tp7 × Tp6 × Tp7 → Option Tp4 :=
  fun rec x => trans_Behind_L14_B t u (fun u_1 t_2 out_4 out_5 out_6 out_7 out_8 out_9 out_10 => rec (u_1, t_2, out_4, out_5, out_6, out_7, out_8, out_9, out_10)) x.1 x.2.1 x.2.2.1 x.2.2.2.1 x.2.2.2.2.1 x.2.2.2.2.2.1 x.2.2.2.2.2.2.1 x.2.2.2.2.2.2.2.1 x.2.2.2.2.2.2.2.2
noncomputable def trans_Behind_L14 (t : Tp5) (u : Tp5) (u_1 : Tp5) (t_2 : Int) (out_4 : Int) (out_5 : Int) (out_6 : Int) (out_7 : Tp8) (out_8 : Tp7) (out_9 : Tp6) (out_10 : Tp7) : Option Tp4 := LFix (trans_Behind_L14_F t u ) (u_1, t_2, out_4, out_5, out_6, out_7, out_8, out_9, out_10)
noncomputable def trans_Behind_J12 (t : Tp5) (u : Tp5) (out : Int) (out_1 : Int) (out_2 : Int) (out_3 : Tp8) : Option Tp4 :=
  trans_Behind_L14 t u (u.1, (u.2.1, (u.2.2.1, (u.2.2.2.1, (u.2.2.2.2.1, (u.2.2.2.2.2.1, (u.2.2.2.2.2.2.1, ()))))))) (0 : Int) out out_1 out_2 out_3 ([] : List Tp8) ([] : List Tp7) ([] : List Tp8)
noncomputable def trans_Behind_L2_B (t : Tp5) (u : Tp5) (r2 : Int → Option Tp4) (t_1 : Int) : Option Tp4 :=
  if (decide (t_1 < (([(t.1, (t.2.1, (t.2.2.1, (t.2.2.2.1, (t.2.2.2.2.1, (t.2.2.2.2.2.1, (t.2.2.2.2.2.2.1, ()))))))), (u.1, (u.2.1, (u.2.2.1, (u.2.2.2.1, (u.2.2.2.2.1, (u.2.2.2.2.2.1, (u.2.2.2.2.2.2.1, ())))))))]).length : Int))) = true then
  G (0 ≤ t_1 ∧ t_1 < (([(t.1, (t.2.1, (t.2.2.1, (t.2.2.2.1, (t.2.2.2.2.1, (t.2.2.2.2.2.1, (t.2.2.2.2.2.2.1, ()))))))), (u.1, (u.2.1, (u.2.2.1, (u.2.2.2.1, (u.2.2.2.2.1, (u.2.2.2.2.2.1, (u.2.2.2.2.2.2.1, ())))))))]).length : Int)) (
  G ((t_1).toNat < ([(t.1, (t.2.1, (t.2.2.1, (t.2.2.2.1, (t.2.2.2.2.1, (t.2.2.2.2.2.1, (t.2.2.2.2.2.2.1, ()))))))), (u.1, (u.2.1, (u.2.2.1, (u.2.2.2.1, (u.2.2.2.2.1, (u.2.2.2.2.2.1, (u.2.2.2.2.2.2.1, ())))))))]).length) (
  (trans_Check ((ix ([(t.1, (t.2.1, (t.2.2.1, (t.2.2.2.1, (t.2.2.2.2.1, (t.2.2.2.2.2.1, (t.2.2.2.2.2.2.1, ()))))))), (u.1, (u.2.1, (u.2.2.1, (u.2.2.2.1, (u.2.2.2.2.1, (u.2.2.2.2.2.1, (u.2.2.2.2.2.2.1, ())))))))]) t_1).1, (((ix ([(t.1, (t.2.1, (t.2.2.1, (t.2.2.2.1, (t.2.2.2.2.1, (t.2.2.2.2.2.1, (t.2.2.2.2.2.2.1, ()))))))), (u.1, (u.2.1, (u.2.2.1, (u.2.2.2.1, (u.2.2.2.2.1, (u.2.2.2.2.2.1, (u.2.2.2.2.2.2.1, ())))))))]) t_1).2).1, ((((ix ([(t.1, (t.2.1, (t.2.2.1, (t.2.2.2.1, (t.2.2.2.2.1, (t.2.2.2.2.2.1, (t.2.2.2.2.2.2.1, ()))))))), (u.1, (u.2.1, (u.2.2.1, (u.2.2.2.1, (u.2.2.2.2.1, (u.2.2.2.2.2.1, (u.2.2.2.2.2.2.1, ())))))))]) t_1).2).2).1, (((((ix ([(t.1, (t.2.1, (t.2.2.1, (t.2.2.2.1, (t.2.2.2.2.1, (t.2.2.2.2.2.1, (t.2.2.2.2.2.2.1, ()))))))), (u.1, (u.2.1, (u.2.2.1, (u.2.2.2.1, (u.2.2.2.2.1, (u.2.2.2.2.2.1, (u.2.2.2.2.2.2.1, ())))))))]) t_1).2).2).2).1, ((((((ix ([(t.1, (t.2.1, (t.2.2.1, (t.2.2.2.1, (t.2.2.2.2.1, (t.2.2.2.2.2.1, (t.2.2.2.2.2.2.1, ()))))))), (u.1, (u.2.1, (u.2.2.1, (u.2.2.2.1, (u.2.2.2.2.1, (u.2.2.2.2.2.1, (u.2.2.2.2.2.2.1, ())))))))]) t_1).2).2).2).2).1, (((((((ix ([(t.1, (t.2.1, (t.2.2.1, (t.2.2.2.1, (t.2.2.2.2.1, (t.2.2.2.2.2.1, (t.2.2.2.2.2.2.1, ()))))))), (u.1, (u.2.1, (u.2.2.1, (u.2.2.2.1, (u.2.2.2.2.1, (u.2.2.2.2.2.1, (u.2.2.2.2.2.2.1, ())))))))]) t_1).2).2).2).2).2).1, ((((((((ix ([(t.1, (t.2.1, (t.2.2.1, (t.2.2.2.1, (t.2.2.2.2.1, (t.2.2.2.2.2.1, (t.2.2.2.2.2.2.1, ()))))))), (u.1, (u.2.1, (u.2.2.1, (u.2.2.2.1, (u.2.2.2.2.1, (u.2.2.2.2.2.1, (u.2.2.2.2.2.2.1, ())))))))]) t_1).2).2).2).2).2).2).1, ())))))))).bind (fun y' =>
  if (decide (¬ y' = (0 : Int))) = true then
  some (((0 : Int), ((0 : Int), ((0 : Int), ([], ([], ([], ([], ()))))))), y') else
  G (fits (t_1 + (1 : Int))) (
  r2 (t_1 + (1 : Int)))))) else
  if (decide (¬ t.2.1 = u.1)) = true then
  some (((0 : Int), ((0 : Int), ((0 : Int), ([], ([], ([], ([], ()))))))), (3 : Int)) else
  (trans_run (u.1, (u.2.1, (u.2.2.1, (u.2.2.2.1, (u.2.2.2.2.1, (u.2.2.2.2.2.1, (u.2.2.2.2.2.2.1, ()))))))) u.2.2.1 t.2.2.2.1).bind (fun y'_35 =>
  G (fits (t.2.2.1 * (u.2.2.2.2.1.length : Int))) (
  G (fits ((t.2.2.1 * (u.2.2.2.2.1.length : Int)) + y'_35.1)) (
  both [Tc1, (.int .i64)] (
  both [Tc1, (.int .i64)] (
  (slices_Concat ([u.2.2.2.1, y'_35.2])).bind (fun y'_4 =>
  trans_Behind_J12 t u t.1 u.2.1 ((t.2.2.1 * (u.2.2.2.2.1.length : Int)) + y'_35.1) y'_4)) (
  (slices_Concat ([u.2.2.2.1, y'_35.2])).bind (fun y'_33 =>
  trans_Behind_J12 t u t.1 u.2.1 ((t.2.2.1 * (u.2.2.2.2.1.length : Int)) + y'_35.1) y'_33))) (
  (slices_Concat ([u.2.2.2.1, y'_35.2])).bind (fun y'_34 =>
  trans_Behind_J12 t u t.1 u.2.1 ((t.2.2.1 * (u.2.2.2.2.1.length : Int)) + y'_35.1) y'_34)))))
noncomputable def trans_Behind_L2_F (t : Tp5) (u : Tp5) : (Int → Option Tp4) → Int → Option Tp4 :=
  fun rec x => trans_Behind_L2_B t u (fun t_1 => rec t_1) x
noncomputable def trans_Behind_L2 (t : Tp5) (u : Tp5) (t_1 : Int) : Option Tp4 := LFix (trans_Behind_L2_F t u ) t_1
noncomputable def trans_Behind (t : Tp5) (u : Tp5) : Option Tp4 :=
  trans_Behind_L2 t u (0 : Int)
theorem trans_Behind_J27_ch (r17 : Nat → Tf3) (r17' : Tf3) (h_r17 : ∀ a0 a1 a2 a3 a4 a5 a6 a7 a8, ChO (fun κ => r17 κ a0 a1 a2 a3 a4 a5 a6 a7 a8) (r17' a0 a1 a2 a3 a4 a5 a6 a7 a8)) (t_3 : Int) (u_3 : Tp5) (out_15 : Int) (out_16 : Int) (out_17 : Int) (out_18 : Tp8) (l_3 : Tp7) (l_4 : Tp6) (l_5 : Tp7) : ChO (fun κ => trans_Behind_J27 t_3 (r17 κ) u_3 out_15 out_16 out_17 out_18 l_3 l_4 l_5) (trans_Behind_J27 t_3 r17' u_3 out_15 out_16 out_17 out_18 l_3 l_4 l_5) := by
  unfold trans_Behind_J27
  repeat' with_reducible first | exact ChO.const _ | exact h_r17 _ _ _ _ _ _ _ _ _ | apply ChO.ite | apply ChO.G | apply ChO.both | (apply ChO.bind; intro _)
theorem trans_Behind_L21_B_ch (r17 : Nat → Tf3) (r17' : Tf3) (h_r17 : ∀ a0 a1 a2 a3 a4 a5 a6 a7 a8, ChO (fun κ => r17 κ a0 a1 a2 a3 a4 a5 a6 a7 a8) (r17' a0 a1 a2 a3 a4 a5 a6 a7 a8)) (r21 : Nat → Int → Tp8 → Tp7 → Option Tp4) (r21' : Int → Tp8 → Tp7 → Option Tp4) (h_r21 : ∀ a0 a1 a2, ChO (fun κ => r21 κ a0 a1 a2) (r21' a0 a1 a2)) (t : Tp5) (u : Tp5) (t_2 : Int) (u_2 : Tp5) (t_3 : Int) (out_11 : Int) (out_12 : Int) (out_13 : Int) (out_14 : Tp8) (l : Tp7) (l_1 : Tp6) (l_2 : Tp7) (t_4 : Int) (next'_1 : Tp8) (says_1 : Tp7) : ChO (fun κ => trans_Behind_L21_B t u t_2 u_2 t_3 out_11 out_12 out_13 out_14 l l_1 l_2 (r17 κ) (r21 κ) t_4 next'_1 says_1) (trans_Behind_L21_B t u t_2 u_2 t_3 out_11 out_12 out_13 out_14 l l_1 l_2 r17' r21' t_4 next'_1 says_1) := by
  unfold trans_Behind_L21_B
  repeat' with_reducible first | exact ChO.const _ | exact h_r17 _ _ _ _ _ _ _ _ _ | exact h_r21 _ _ _ | (apply trans_Behind_J27_ch <;> assumption) | apply ChO.ite | apply ChO.G | apply ChO.both | (apply ChO.bind; intro _)
theorem trans_Behind_L21_cn (r17 : Tf3) (t : Tp5) (u : Tp5) (t_2 : Int) (u_2 : Tp5) (t_3 : Int) (out_11 : Int) (out_12 : Int) (out_13 : Int) (out_14 : Tp8) (l : Tp7) (l_1 : Tp6) (l_2 : Tp7) : Cn (trans_Behind_L21_F t u t_2 u_2 t_3 out_11 out_12 out_13 out_14 l l_1 l_2 r17) := fun g h hg x => trans_Behind_L21_B_ch (fun _ => r17) r17 (fun _ _ _ _ _ _ _ _ _ => ChO.const _) (fun κ t_4 next'_1 says_1 => g κ (t_4, next'_1, says_1)) (fun t_4 next'_1 says_1 => h (t_4, next'_1, says_1)) (fun t_4 next'_1 says_1 => hg (t_4, next'_1, says_1)) t u t_2 u_2 t_3 out_11 out_12 out_13 out_14 l l_1 l_2 x.1 x.2.1 x.2.2
theorem trans_Behind_L21_eq (r17 : Tf3) (t : Tp5) (u : Tp5) (t_2 : Int) (u_2 : Tp5) (t_3 : Int) (out_11 : Int) (out_12 : Int) (out_13 : Int) (out_14 : Tp8) (l : Tp7) (l_1 : Tp6) (l_2 : Tp7) (t_4 : Int) (next'_1 : Tp8) (says_1 : Tp7) : trans_Behind_L21 t u t_2 u_2 t_3 out_11 out_12 out_13 out_14 l l_1 l_2 r17 t_4 next'_1 says_1 = trans_Behind_L21_B t u t_2 u_2 t_3 out_11 out_12 out_13 out_14 l l_1 l_2 r17 (trans_Behind_L21 t u t_2 u_2 t_3 out_11 out_12 out_13 out_14 l l_1 l_2 r17) t_4 next'_1 says_1 := LFix_eq (trans_Behind_L21_cn r17 t u t_2 u_2 t_3 out_11 out_12 out_13 out_14 l l_1 l_2) (t_4, next'_1, says_1)
theorem trans_Behind_L21_ch (r17 : Nat → Tf3) (r17' : Tf3) (h_r17 : ∀ a0 a1 a2 a3 a4 a5 a6 a7 a8, ChO (fun κ => r17 κ a0 a1 a2 a3 a4 a5 a6 a7 a8) (r17' a0 a1 a2 a3 a4 a5 a6 a7 a8)) (t : Tp5) (u : Tp5) (t_2 : Int) (u_2 : Tp5) (t_3 : Int) (out_11 : Int) (out_12 : Int) (out_13 : Int) (out_14 : Tp8) (l : Tp7) (l_1 : Tp6) (l_2 : Tp7) (t_4 : Int) (next'_1 : Tp8) (says_1 : Tp7) : ChO (fun κ => trans_Behind_L21 t u t_2 u_2 t_3 out_11 out_12 out_13 out_14 l l_1 l_2 (r17 κ) t_4 next'_1 says_1) (trans_Behind_L21 t u t_2 u_2 t_3 out_11 out_12 out_13 out_14 l l_1 l_2 r17' t_4 next'_1 says_1) := by
  unfold trans_Behind_L21
  exact LFix_ch (fun κ => (trans_Behind_L21_cn (r17 κ) t u t_2 u_2 t_3 out_11 out_12 out_13 out_14 l l_1 l_2).mono) (trans_Behind_L21_cn r17' t u t_2 u_2 t_3 out_11 out_12 out_13 out_14 l l_1 l_2).mono (fun g h hg x => trans_Behind_L21_B_ch r17 r17' h_r17 (fun κ t_4 next'_1 says_1 => g κ (t_4, next'_1, says_1)) (fun t_4 next'_1 says_1 => h (t_4, next'_1, says_1)) (fun t_4 next'_1 says_1 => hg (t_4, next'_1, says_1)) t u t_2 u_2 t_3 out_11 out_12 out_13 out_14 l l_1 l_2 x.1 x.2.1 x.2.2) _
theorem trans_Behind_J19_ch (r17 : Nat → Tf3) (r17' : Tf3) (h_r17 : ∀ a0 a1 a2 a3 a4 a5 a6 a7 a8, ChO (fun κ => r17 κ a0 a1 a2 a3 a4 a5 a6 a7 a8) (r17' a0 a1 a2 a3 a4 a5 a6 a7 a8)) (t : Tp5) (u : Tp5) (t_2 : Int) (u_2 : Tp5) (t_3 : Int) (out_11 : Int) (out_12 : Int) (out_13 : Int) (out_14 : Tp8) (l : Tp7) (l_1 : Tp6) (l_2 : Tp7) (next' : Tp8) (says : Tp7) : ChO (fun κ => trans_Behind_J19 t u t_2 u_2 t_3 out_11 out_12 out_13 out_14 l l_1 l_2 (r17 κ) next' says) (trans_Behind_J19 t u t_2 u_2 t_3 out_11 out_12 out_13 out_14 l l_1 l_2 r17' next' says) := by
  unfold trans_Behind_J19
  repeat' with_reducible first | exact ChO.const _ | exact h_r17 _ _ _ _ _ _ _ _ _ | (apply trans_Behind_J27_ch <;> assumption) | (apply trans_Behind_L21_ch <;> assumption) | apply ChO.ite | apply ChO.G | apply ChO.both | (apply ChO.bind; intro _)
theorem trans_Behind_L17_B_ch (r14 : Nat → Tf3) (r14' : Tf3) (h_r14 : ∀ a0 a1 a2 a3 a4 a5 a6 a7 a8, ChO (fun κ => r14 κ a0 a1 a2 a3 a4 a5 a6 a7 a8) (r14' a0 a1 a2 a3 a4 a5 a6 a7 a8)) (r17 : Nat → Tf3) (r17' : Tf3) (h_r17 : ∀ a0 a1 a2 a3 a4 a5 a6 a7 a8, ChO (fun κ => r17 κ a0 a1 a2 a3 a4 a5 a6 a7 a8) (r17' a0 a1 a2 a3 a4 a5 a6 a7 a8)) (t : Tp5) (u : Tp5) (t_2 : Int) (u_2 : Tp5) (t_3 : Int) (out_11 : Int) (out_12 : Int) (out_13 : Int) (out_14 : Tp8) (l : Tp7) (l_1 : Tp6) (l_2 : Tp7) : ChO (fun κ => trans_Behind_L17_B t u t_2 (r14 κ) (r17 κ) u_2 t_3 out_11 out_12 out_13 out_14 l l_1 l_2) (trans_Behind_L17_B t u t_2 r14' r17' u_2 t_3 out_11 out_12 out_13 out_14 l l_1 l_2) := by
  unfold trans_Behind_L17_B
  repeat' with_reducible first | exact ChO.const _ | exact h_r14 _ _ _ _ _ _ _ _ _ | exact h_r17 _ _ _ _ _ _ _ _ _ | (apply trans_Behind_J27_ch <;> assumption) | (apply trans_Behind_L21_ch <;> assumption) | (apply trans_Behind_J19_ch <;> assumption) | apply ChO.ite | apply ChO.G | apply ChO.both | (apply ChO.bind; intro _)
theorem trans_Behind_L17_cn (r14 : Tf3) (t : Tp5) (u : Tp5) (t_2 : Int) : Cn (trans_Behind_L17_F t u t_2 r14) := fun g h hg x => trans_Behind_L17_B_ch (fun _ => r14) r14 (fun _ _ _ _ _ _ _ _ _ => ChO.const _) (fun κ u_2 t_3 out_11 out_12 out_13 out_14 l l_1 l_2 => g κ (u_2, t_3, out_11, out_12, out_13, out_14, l, l_1, l_2)) (fun u_2 t_3 out_11 out_12 out_13 out_14 l l_1 l_2 => h (u_2, t_3, out_11, out_12, out_13, out_14, l, l_1, l_2)) (fun u_2 t_3 out_11 out_12 out_13 out_14 l l_1 l_2 => hg (u_2, t_3, out_11, out_12, out_13, out_14, l, l_1, l_2)) t u t_2 x.1 x.2.1 x.2.2.1 x.2.2.2.1 x.2.2.2.2.1 x.2.2.2.2.2.1 x.2.2.2.2.2.2.1 x.2.2.2.2.2.2.2.1 x.2.2.2.2.2.2.2.2
theorem trans_Behind_L17_eq (r14 : Tf3) (t : Tp5) (u : Tp5) (t_2 : Int) (u_2 : Tp5) (t_3 : Int) (out_11 : Int) (out_12 : Int) (out_13 : Int) (out_14 : Tp8) (l : Tp7) (l_1 : Tp6) (l_2 : Tp7) : trans_Behind_L17 t u t_2 r14 u_2 t_3 out_11 out_12 out_13 out_14 l l_1 l_2 = trans_Behind_L17_B t u t_2 r14 (trans_Behind_L17 t u t_2 r14) u_2 t_3 out_11 out_12 out_13 out_14 l l_1 l_2 := LFix_eq (trans_Behind_L17_cn r14 t u t_2) (u_2, t_3, out_11, out_12, out_13, out_14, l, l_1, l_2)
theorem trans_Behind_L17_ch (r14 : Nat → Tf3) (r14' : Tf3) (h_r14 : ∀ a0 a1 a2 a3 a4 a5 a6 a7 a8, ChO (fun κ => r14 κ a0 a1 a2 a3 a4 a5 a6 a7 a8) (r14' a0 a1 a2 a3 a4 a5 a6 a7 a8)) (t : Tp5) (u : Tp5) (t_2 : Int) (u_2 : Tp5) (t_3 : Int) (out_11 : Int) (out_12 : Int) (out_13 : Int) (out_14 : Tp8) (l : Tp7) (l_1 : Tp6) (l_2 : Tp7) : ChO (fun κ => trans_Behind_L17 t u t_2 (r14 κ) u_2 t_3 out_11 out_12 out_13 out_14 l l_1 l_2) (trans_Behind_L17 t u t_2 r14' u_2 t_3 out_11 out_12 out_13 out_14 l l_1 l_2) := by
  unfold trans_Behind_L17
  exact LFix_ch (fun κ => (trans_Behind_L17_cn (r14 κ) t u t_2).mono) (trans_Behind_L17_cn r14' t u t_2).mono (fun g h hg x => trans_Behind_L17_B_ch r14 r14' h_r14 (fun κ u_2 t_3 out_11 out_12 out_13 out_14 l l_1 l_2 => g κ (u_2, t_3, out_11, out_12, out_13, out_14, l, l_1, l_2)) (fun u_2 t_3 out_11 out_12 out_13 out_14 l l_1 l_2 => h (u_2, t_3, out_11, out_12, out_13, out_14, l, l_1, l_2)) (fun u_2 t_3 out_11 out_12 out_13 out_14 l l_1 l_2 => hg (u_2, t_3, out_11, out_12, out_13, out_14, l, l_1, l_2)) t u t_2 x.1 x.2.1 x.2.2.1 x.2.2.2.1 x.2.2.2.2.1 x.2.2.2.2.2.1 x.2.2.2.2.2.2.1 x.2.2.2.2.2.2.2.1 x.2.2.2.2.2.2.2.2) _
theorem trans_Behind_L14_B_ch (r14 : Nat → Tf3) (r14' : Tf3) (h_r14 : ∀ a0 a1 a2 a3 a4 a5 a6 a7 a8, ChO (fun κ => r14 κ a0 a1 a2 a3 a4 a5 a6 a7 a8) (r14' a0 a1 a2 a3 a4 a5 a6 a7 a8)) (t : Tp5) (u : Tp5) (u_1 : Tp5) (t_2 : Int) (out_4 : Int) (out_5 : Int) (out_6 : Int) (out_7 : Tp8) (out_8 : Tp7) (out_9 : Tp6) (out_10 : Tp7) : ChO (fun κ => trans_Behind_L14_B t u (r14 κ) u_1 t_2 out_4 out_5 out_6 out_7 out_8 out_9 out_10) (trans_Behind_L14_B t u r14' u_1 t_2 out_4 out_5 out_6 out_7 out_8 out_9 out_10) := by
  unfold trans_Behind_L14_B
  repeat' with_reducible first | exact ChO.const _ | exact h_r14 _ _ _ _ _ _ _ _ _ | (apply trans_Behind_J27_ch <;> assumption) | (apply trans_Behind_L21_ch <;> assumption) | (apply trans_Behind_J19_ch <;> assumption) | (apply trans_Behind_L17_ch <;> assumption) | apply ChO.ite | apply ChO.G | apply ChO.both | (apply ChO.bind; intro _)
theorem trans_Behind_L14_cn  (t : Tp5) (u : Tp5) : Cn (trans_Behind_L14_F t u) := fun g h hg x => trans_Behind_L14_B_ch  (fun κ u_1 t_2 out_4 out_5 out_6 out_7 out_8 out_9 out_10 => g κ (u_1, t_2, out_4, out_5, out_6, out_7, out_8, out_9, out_10)) (fun u_1 t_2 out_4 out_5 out_6 out_7 out_8 out_9 out_10 => h (u_1, t_2, out_4, out_5, out_6, out_7, out_8, out_9, out_10)) (fun u_1 t_2 out_4 out_5 out_6 out_7 out_8 out_9 out_10 => hg (u_1, t_2, out_4, out_5, out_6, out_7, out_8, out_9, out_10)) t u x.1 x.2.1 x.2.2.1 x.2.2.2.1 x.2.2.2.2.1 x.2.2.2.2.2.1 x.2.2.2.2.2.2.1 x.2.2.2.2.2.2.2.1 x.2.2.2.2.2.2.2.2
theorem trans_Behind_L14_eq  (t : Tp5) (u : Tp5) (u_1 : Tp5) (t_2 : Int) (out_4 : Int) (out_5 : Int) (out_6 : Int) (out_7 : Tp8) (out_8 : Tp7) (out_9 : Tp6) (out_10 : Tp7) : trans_Behind_L14 t u u_1 t_2 out_4 out_5 out_6 out_7 out_8 out_9 out_10 = trans_Behind_L14_B t u (trans_Behind_L14 t u) u_1 t_2 out_4 out_5 out_6 out_7 out_8 out_9 out_10 := LFix_eq (trans_Behind_L14_cn t u) (u_1, t_2, out_4, out_5, out_6, out_7, out_8, out_9, out_10)
theorem trans_Behind_L2_B_ch (r2 : Nat → Int → Option Tp4) (r2' : Int → Option Tp4) (h_r2 : ∀ a0, ChO (fun κ => r2 κ a0) (r2' a0)) (t : Tp5) (u : Tp5) (t_1 : Int) : ChO (fun κ => trans_Behind_L2_B t u (r2 κ) t_1) (trans_Behind_L2_B t u r2' t_1) := by
  unfold trans_Behind_L2_B
  repeat' with_reducible first | exact ChO.const _ | exact h_r2 _ | (apply trans_Behind_J27_ch <;> assumption) | (apply trans_Behind_L21_ch <;> assumption) | (apply trans_Behind_J19_ch <;> assumption) | (apply trans_Behind_L17_ch <;> assumption) | apply ChO.ite | apply ChO.G | apply ChO.both | (apply ChO.bind; intro _)
theorem trans_Behind_L2_cn  (t : Tp5) (u : Tp5) : Cn (trans_Behind_L2_F t u) := fun g h hg x => trans_Behind_L2_B_ch  (fun κ t_1 => g κ t_1) (fun t_1 => h t_1) (fun t_1 => hg t_1) t u x
theorem trans_Behind_L2_eq  (t : Tp5) (u : Tp5) (t_1 : Int) : trans_Behind_L2 t u t_1 = trans_Behind_L2_B t u (trans_Behind_L2 t u) t_1 := LFix_eq (trans_Behind_L2_cn t u) t_1

noncomputable def r16_Words_L5_B (t : Tp5) (r5 : Int → Tp7 → Option Tp7) (q : Int) (l : Tp7) : Option Tp7 :=
  if (decide (q < (t.2.2.2.2.2.1.length : Int))) = true then
  G (0 ≤ q ∧ q < (t.2.2.2.2.2.1.length : Int)) (
  G (room l (ix t.2.2.2.2.2.1 q) 24) (
  G (fits (q + (1 : Int))) (
  r5 (q + (1 : Int)) (l ++ (ix t.2.2.2.2.2.1 q))))) else
  some l
noncomputable def r16_Words_L5_F (t : Tp5) : (Int × Tp7 → Option Tp7) → Int × Tp7 → Option Tp7 :=
  fun rec x => r16_Words_L5_B t (fun q l => rec (q, l)) x.1 x.2
noncomputable def r16_Words_L5 (t : Tp5) (q : Int) (l : Tp7) : Option Tp7 := LFix (r16_Words_L5_F t ) (q, l)
noncomputable def r16_Words (t : Tp5) : Option Tp7 :=
  G (room ([] : List Tp8) ([t.2.2.2.1]) 24) (
  G (room ([t.2.2.2.1]) t.2.2.2.2.2.2.1 24) (
  r16_Words_L5 t (0 : Int) (([t.2.2.2.1]) ++ t.2.2.2.2.2.2.1)))
theorem r16_Words_L5_B_ch (r5 : Nat → Int → Tp7 → Option Tp7) (r5' : Int → Tp7 → Option Tp7) (h_r5 : ∀ a0 a1, ChO (fun κ => r5 κ a0 a1) (r5' a0 a1)) (t : Tp5) (q : Int) (l : Tp7) : ChO (fun κ => r16_Words_L5_B t (r5 κ) q l) (r16_Words_L5_B t r5' q l) := by
  unfold r16_Words_L5_B
  repeat' with_reducible first | exact ChO.const _ | exact h_r5 _ _ | apply ChO.ite | apply ChO.G | apply ChO.both | (apply ChO.bind; intro _)
theorem r16_Words_L5_cn  (t : Tp5) : Cn (r16_Words_L5_F t) := fun g h hg x => r16_Words_L5_B_ch  (fun κ q l => g κ (q, l)) (fun q l => h (q, l)) (fun q l => hg (q, l)) t x.1 x.2
theorem r16_Words_L5_eq  (t : Tp5) (q : Int) (l : Tp7) : r16_Words_L5 t q l = r16_Words_L5_B t (r16_Words_L5 t) q l := LFix_eq (r16_Words_L5_cn t) (q, l)

noncomputable def r16_Long_L3_B (y' : Tp7) (r3 : Int → Option (Bool)) (i : Int) : Option (Bool) :=
  if (decide (i < (y'.length : Int))) = true then
  G (0 ≤ i ∧ i < (y'.length : Int)) (
  G ((i).toNat < y'.length) (
  if (decide ((8 : Int) < ((ix y' i).length : Int))) = true then
  some true else
  G (fits (i + (1 : Int))) (
  r3 (i + (1 : Int))))) else
  some false
noncomputable def r16_Long_L3_F (y' : Tp7) : (Int → Option (Bool)) → Int → Option (Bool) :=
  fun rec x => r16_Long_L3_B y' (fun i => rec i) x
noncomputable def r16_Long_L3 (y' : Tp7) (i : Int) : Option (Bool) := LFix (r16_Long_L3_F y' ) i
noncomputable def r16_Long (t : Tp5) : Option (Bool) :=
  (r16_Words (t.1, (t.2.1, (t.2.2.1, (t.2.2.2.1, (t.2.2.2.2.1, (t.2.2.2.2.2.1, (t.2.2.2.2.2.2.1, ())))))))).bind (fun y' =>
  r16_Long_L3 y' (0 : Int))
theorem r16_Long_L3_B_ch (r3 : Nat → Int → Option (Bool)) (r3' : Int → Option (Bool)) (h_r3 : ∀ a0, ChO (fun κ => r3 κ a0) (r3' a0)) (y' : Tp7) (i : Int) : ChO (fun κ => r16_Long_L3_B y' (r3 κ) i) (r16_Long_L3_B y' r3' i) := by
  unfold r16_Long_L3_B
  repeat' with_reducible first | exact ChO.const _ | exact h_r3 _ | apply ChO.ite | apply ChO.G | apply ChO.both | (apply ChO.bind; intro _)
theorem r16_Long_L3_cn  (y' : Tp7) : Cn (r16_Long_L3_F y') := fun g h hg x => r16_Long_L3_B_ch  (fun κ i => g κ i) (fun i => h i) (fun i => hg i) y' x
theorem r16_Long_L3_eq  (y' : Tp7) (i : Int) : r16_Long_L3 y' i = r16_Long_L3_B y' (r16_Long_L3 y') i := LFix_eq (r16_Long_L3_cn y') i

noncomputable def r16_letters_L2_B (w : Tp8) (out : Int) (r2 : Int → Option (Int)) (i : Int) : Option (Int) :=
  if (decide (i < (w.length : Int))) = true then
  G (0 ≤ i ∧ i < (w.length : Int)) (
  if (decide ((ix w i) < (0 : Int))) = true then
  some (2 : Int) else
  G (0 ≤ i ∧ i < (w.length : Int)) (
  if (decide (out ≤ (ix w i))) = true then
  some (2 : Int) else
  G (fits (i + (1 : Int))) (
  r2 (i + (1 : Int))))) else
  some (0 : Int)
noncomputable def r16_letters_L2_F (w : Tp8) (out : Int) : (Int → Option (Int)) → Int → Option (Int) :=
  fun rec x => r16_letters_L2_B w out (fun i => rec i) x
noncomputable def r16_letters_L2 (w : Tp8) (out : Int) (i : Int) : Option (Int) := LFix (r16_letters_L2_F w out ) i
noncomputable def r16_letters (w : Tp8) (out : Int) : Option (Int) :=
  r16_letters_L2 w out (0 : Int)
theorem r16_letters_L2_B_ch (r2 : Nat → Int → Option (Int)) (r2' : Int → Option (Int)) (h_r2 : ∀ a0, ChO (fun κ => r2 κ a0) (r2' a0)) (w : Tp8) (out : Int) (i : Int) : ChO (fun κ => r16_letters_L2_B w out (r2 κ) i) (r16_letters_L2_B w out r2' i) := by
  unfold r16_letters_L2_B
  repeat' with_reducible first | exact ChO.const _ | exact h_r2 _ | apply ChO.ite | apply ChO.G | apply ChO.both | (apply ChO.bind; intro _)
theorem r16_letters_L2_cn  (w : Tp8) (out : Int) : Cn (r16_letters_L2_F w out) := fun g h hg x => r16_letters_L2_B_ch  (fun κ i => g κ i) (fun i => h i) (fun i => hg i) w out x
theorem r16_letters_L2_eq  (w : Tp8) (out : Int) (i : Int) : r16_letters_L2 w out i = r16_letters_L2_B w out (r16_letters_L2 w out) i := LFix_eq (r16_letters_L2_cn w out) i

noncomputable def r16_Check_L19_B (t : Tp5) (q_1 : Int) (r16 : (Int → Option (Int))) (r19 : Int → Option (Int)) (a : Int) : Option (Int) :=
  if (decide (a < t.1)) = true then
  G (0 ≤ q_1 ∧ q_1 < (t.2.2.2.2.1.length : Int)) (
  G (0 ≤ a ∧ a < ((ix t.2.2.2.2.1 q_1).length : Int)) (
  if (decide ((ix (ix t.2.2.2.2.1 q_1) a) < (0 : Int))) = true then
  some (2 : Int) else
  G (0 ≤ q_1 ∧ q_1 < (t.2.2.2.2.1.length : Int)) (
  G (0 ≤ a ∧ a < ((ix t.2.2.2.2.1 q_1).length : Int)) (
  if (decide ((t.2.2.2.2.1.length : Int) ≤ (ix (ix t.2.2.2.2.1 q_1) a))) = true then
  some (2 : Int) else
  G (fits (a + (1 : Int))) (
  r19 (a + (1 : Int))))))) else
  G (fits (q_1 + (1 : Int))) (
  r16 (q_1 + (1 : Int)))
noncomputable def r16_Check_L19_F (t : Tp5) (q_1 : Int) (r16 : (Int → Option (Int))) : (Int → Option (Int)) → Int → Option (Int) :=
  fun rec x => r16_Check_L19_B t q_1 r16 (fun a => rec a) x
noncomputable def r16_Check_L19 (t : Tp5) (q_1 : Int) (r16 : (Int → Option (Int))) (a : Int) : Option (Int) := LFix (r16_Check_L19_F t q_1 r16 ) a
noncomputable def r16_Check_L28_B (t : Tp5) (y'_1 : Tp7) (r28 : Int → Option (Int)) (i : Int) : Option (Int) :=
  if (decide (i < (y'_1.length : Int))) = true then
  G (0 ≤ i ∧ i < (y'_1.length : Int)) (
  G ((i).toNat < y'_1.length) (
  (r16_letters (ix y'_1 i) t.2.1).bind (fun y'_2 =>
  if (decide (¬ y'_2 = (0 : Int))) = true then
  some y'_2 else
  G (fits (i + (1 : Int))) (
  r28 (i + (1 : Int)))))) else
  some (0 : Int)
noncomputable def r16_Check_L28_F (t : Tp5) (y'_1 : Tp7) : (Int → Option (Int)) → Int → Option (Int) :=
  fun rec x => r16_Check_L28_B t y'_1 (fun i => rec i) x
noncomputable def r16_Check_L28 (t : Tp5) (y'_1 : Tp7) (i : Int) : Option (Int) := LFix (r16_Check_L28_F t y'_1 ) i
noncomputable def r16_Check_L16_B (t : Tp5) (r16 : Int → Option (Int)) (q_1 : Int) : Option (Int) :=
  if (decide (q_1 < (t.2.2.2.2.1.length : Int))) = true then
  r16_Check_L19 t q_1 r16 (0 : Int) else
  (r16_Long (t.1, (t.2.1, (t.2.2.1, (t.2.2.2.1, (t.2.2.2.2.1, (t.2.2.2.2.2.1, (t.2.2.2.2.2.2.1, ())))))))).bind (fun y' =>
  if y' = true then
  some (1 : Int) else
  (r16_Words (t.1, (t.2.1, (t.2.2.1, (t.2.2.2.1, (t.2.2.2.2.1, (t.2.2.2.2.2.1, (t.2.2.2.2.2.2.1, ())))))))).bind (fun y'_1 =>
  r16_Check_L28 t y'_1 (0 : Int)))
noncomputable def r16_Check_L16_F (t : Tp5) : (Int → Option (Int)) → Int → Option (Int) :=
  fun rec x => r16_Check_L16_B t (fun q_1 => rec q_1) x
noncomputable def r16_Check_L16 (t : Tp5) (q_1 : Int) : Option (Int) := LFix (r16_Check_L16_F t ) q_1
noncomputable def r16_Check_L9_B (t : Tp5) (r9 : Int → Option (Int)) (q : Int) : Option (Int) :=
  if (decide (q < (t.2.2.2.2.1.length : Int))) = true then
  G (0 ≤ q ∧ q < (t.2.2.2.2.1.length : Int)) (
  if (decide (¬ ((ix t.2.2.2.2.1 q).length : Int) = t.1)) = true then
  some (3 : Int) else
  G (0 ≤ q ∧ q < (t.2.2.2.2.2.1.length : Int)) (
  if (decide (¬ ((ix t.2.2.2.2.2.1 q).length : Int) = t.1)) = true then
  some (3 : Int) else
  G (fits (q + (1 : Int))) (
  r9 (q + (1 : Int))))) else
  if (decide (t.2.2.1 < (0 : Int))) = true then
  some (2 : Int) else
  if (decide ((t.2.2.2.2.1.length : Int) ≤ t.2.2.1)) = true then
  some (2 : Int) else
  r16_Check_L16 t (0 : Int)
noncomputable def r16_Check_L9_F (t : Tp5) : (Int → Option (Int)) → Int → Option (Int) :=
  fun rec x => r16_Check_L9_B t (fun q => rec q) x
noncomputable def r16_Check_L9 (t : Tp5) (q : Int) : Option (Int) := LFix (r16_Check_L9_F t ) q
noncomputable def r16_Check (t : Tp5) : Option (Int) :=
  if (decide (t.1 < (1 : Int))) = true then
  some (2 : Int) else
  if (decide ((4 : Int) < t.1)) = true then
  some (2 : Int) else
  if (decide (t.2.1 < (1 : Int))) = true then
  some (2 : Int) else
  if (decide ((4 : Int) < t.2.1)) = true then
  some (2 : Int) else
  if (decide ((t.2.2.2.2.1.length : Int) < (1 : Int))) = true then
  some (1 : Int) else
  if (decide ((6 : Int) < (t.2.2.2.2.1.length : Int))) = true then
  some (1 : Int) else
  if (decide (¬ (t.2.2.2.2.2.1.length : Int) = (t.2.2.2.2.1.length : Int))) = true then
  some (3 : Int) else
  if (decide (¬ (t.2.2.2.2.2.2.1.length : Int) = (t.2.2.2.2.1.length : Int))) = true then
  some (3 : Int) else
  r16_Check_L9 t (0 : Int)
theorem r16_Check_L19_B_ch (r16 : Nat → Int → Option (Int)) (r16' : Int → Option (Int)) (h_r16 : ∀ a0, ChO (fun κ => r16 κ a0) (r16' a0)) (r19 : Nat → Int → Option (Int)) (r19' : Int → Option (Int)) (h_r19 : ∀ a0, ChO (fun κ => r19 κ a0) (r19' a0)) (t : Tp5) (q_1 : Int) (a : Int) : ChO (fun κ => r16_Check_L19_B t q_1 (r16 κ) (r19 κ) a) (r16_Check_L19_B t q_1 r16' r19' a) := by
  unfold r16_Check_L19_B
  repeat' with_reducible first | exact ChO.const _ | exact h_r16 _ | exact h_r19 _ | apply ChO.ite | apply ChO.G | apply ChO.both | (apply ChO.bind; intro _)
theorem r16_Check_L19_cn (r16 : Int → Option (Int)) (t : Tp5) (q_1 : Int) : Cn (r16_Check_L19_F t q_1 r16) := fun g h hg x => r16_Check_L19_B_ch (fun _ => r16) r16 (fun _ => ChO.const _) (fun κ a => g κ a) (fun a => h a) (fun a => hg a) t q_1 x
theorem r16_Check_L19_eq (r16 : Int → Option (Int)) (t : Tp5) (q_1 : Int) (a : Int) : r16_Check_L19 t q_1 r16 a = r16_Check_L19_B t q_1 r16 (r16_Check_L19 t q_1 r16) a := LFix_eq (r16_Check_L19_cn r16 t q_1) a
theorem r16_Check_L19_ch (r16 : Nat → Int → Option (Int)) (r16' : Int → Option (Int)) (h_r16 : ∀ a0, ChO (fun κ => r16 κ a0) (r16' a0)) (t : Tp5) (q_1 : Int) (a : Int) : ChO (fun κ => r16_Check_L19 t q_1 (r16 κ) a) (r16_Check_L19 t q_1 r16' a) := by
  unfold r16_Check_L19
  exact LFix_ch (fun κ => (r16_Check_L19_cn (r16 κ) t q_1).mono) (r16_Check_L19_cn r16' t q_1).mono (fun g h hg x => r16_Check_L19_B_ch r16 r16' h_r16 (fun κ a => g κ a) (fun a => h a) (fun a => hg a) t q_1 x) _
theorem r16_Check_L28_B_ch (r28 : Nat → Int → Option (Int)) (r28' : Int → Option (Int)) (h_r28 : ∀ a0, ChO (fun κ => r28 κ a0) (r28' a0)) (t : Tp5) (y'_1 : Tp7) (i : Int) : ChO (fun κ => r16_Check_L28_B t y'_1 (r28 κ) i) (r16_Check_L28_B t y'_1 r28' i) := by
  unfold r16_Check_L28_B
  repeat' with_reducible first | exact ChO.const _ | exact h_r28 _ | (apply r16_Check_L19_ch <;> assumption) | apply ChO.ite | apply ChO.G | apply ChO.both | (apply ChO.bind; intro _)
theorem r16_Check_L28_cn  (t : Tp5) (y'_1 : Tp7) : Cn (r16_Check_L28_F t y'_1) := fun g h hg x => r16_Check_L28_B_ch  (fun κ i => g κ i) (fun i => h i) (fun i => hg i) t y'_1 x
theorem r16_Check_L28_eq  (t : Tp5) (y'_1 : Tp7) (i : Int) : r16_Check_L28 t y'_1 i = r16_Check_L28_B t y'_1 (r16_Check_L28 t y'_1) i := LFix_eq (r16_Check_L28_cn t y'_1) i
theorem r16_Check_L16_B_ch (r16 : Nat → Int → Option (Int)) (r16' : Int → Option (Int)) (h_r16 : ∀ a0, ChO (fun κ => r16 κ a0) (r16' a0)) (t : Tp5) (q_1 : Int) : ChO (fun κ => r16_Check_L16_B t (r16 κ) q_1) (r16_Check_L16_B t r16' q_1) := by
  unfold r16_Check_L16_B
  repeat' with_reducible first | exact ChO.const _ | exact h_r16 _ | (apply r16_Check_L19_ch <;> assumption) | apply ChO.ite | apply ChO.G | apply ChO.both | (apply ChO.bind; intro _)
theorem r16_Check_L16_cn  (t : Tp5) : Cn (r16_Check_L16_F t) := fun g h hg x => r16_Check_L16_B_ch  (fun κ q_1 => g κ q_1) (fun q_1 => h q_1) (fun q_1 => hg q_1) t x
theorem r16_Check_L16_eq  (t : Tp5) (q_1 : Int) : r16_Check_L16 t q_1 = r16_Check_L16_B t (r16_Check_L16 t) q_1 := LFix_eq (r16_Check_L16_cn t) q_1
theorem r16_Check_L9_B_ch (r9 : Nat → Int → Option (Int)) (r9' : Int → Option (Int)) (h_r9 : ∀ a0, ChO (fun κ => r9 κ a0) (r9' a0)) (t : Tp5) (q : Int) : ChO (fun κ => r16_Check_L9_B t (r9 κ) q) (r16_Check_L9_B t r9' q) := by
  unfold r16_Check_L9_B
  repeat' with_reducible first | exact ChO.const _ | exact h_r9 _ | (apply r16_Check_L19_ch <;> assumption) | apply ChO.ite | apply ChO.G | apply ChO.both | (apply ChO.bind; intro _)
theorem r16_Check_L9_cn  (t : Tp5) : Cn (r16_Check_L9_F t) := fun g h hg x => r16_Check_L9_B_ch  (fun κ q => g κ q) (fun q => h q) (fun q => hg q) t x
theorem r16_Check_L9_eq  (t : Tp5) (q : Int) : r16_Check_L9 t q = r16_Check_L9_B t (r16_Check_L9 t) q := LFix_eq (r16_Check_L9_cn t) q

noncomputable def r16_from_L3_B (u : Tp5) (w : Tp8) (r3 : Int → Int → Tp8 → Option (Int × Tp8)) (q_1 : Int) (i : Int) (out : Tp8) : Option (Int × Tp8) :=
  if (decide (i < (w.length : Int))) = true then
  G (0 ≤ q_1 ∧ q_1 < (u.2.2.2.2.2.1.length : Int)) (
  G (0 ≤ i ∧ i < (w.length : Int)) (
  G (0 ≤ ix w i ∧ ix w i < ((ix u.2.2.2.2.2.1 q_1).length : Int)) (
  G (room out (ix (ix u.2.2.2.2.2.1 q_1) (ix w i)) 8) (
  G (0 ≤ q_1 ∧ q_1 < (u.2.2.2.2.1.length : Int)) (
  G (0 ≤ i ∧ i < (w.length : Int)) (
  G (0 ≤ ix w i ∧ ix w i < ((ix u.2.2.2.2.1 q_1).length : Int)) (
  G (fits (i + (1 : Int))) (
  r3 (ix (ix u.2.2.2.2.1 q_1) (ix w i)) (i + (1 : Int)) (out ++ (ix (ix u.2.2.2.2.2.1 q_1) (ix w i))))))))))) else
  some (q_1, out)
noncomputable def r16_from_L3_F (u : Tp5) (w : Tp8) : (Int × Int × Tp8 → Option (Int × Tp8)) → Int × Int × Tp8 → Option (Int × Tp8) :=
  fun rec x => r16_from_L3_B u w (fun q_1 i out => rec (q_1, i, out)) x.1 x.2.1 x.2.2
noncomputable def r16_from_L3 (u : Tp5) (w : Tp8) (q_1 : Int) (i : Int) (out : Tp8) : Option (Int × Tp8) := LFix (r16_from_L3_F u w ) (q_1, i, out)
noncomputable def r16_from (u : Tp5) (q : Int) (w : Tp8) : Option (Int × Tp8) :=
  r16_from_L3 u w q (0 : Int) ([])
theorem r16_from_L3_B_ch (r3 : Nat → Int → Int → Tp8 → Option (Int × Tp8)) (r3' : Int → Int → Tp8 → Option (Int × Tp8)) (h_r3 : ∀ a0 a1 a2, ChO (fun κ => r3 κ a0 a1 a2) (r3' a0 a1 a2)) (u : Tp5) (w : Tp8) (q_1 : Int) (i : Int) (out : Tp8) : ChO (fun κ => r16_from_L3_B u w (r3 κ) q_1 i out) (r16_from_L3_B u w r3' q_1 i out) := by
  unfold r16_from_L3_B
  repeat' with_reducible first | exact ChO.const _ | exact h_r3 _ _ _ | apply ChO.ite | apply ChO.G | apply ChO.both | (apply ChO.bind; intro _)
theorem r16_from_L3_cn  (u : Tp5) (w : Tp8) : Cn (r16_from_L3_F u w) := fun g h hg x => r16_from_L3_B_ch  (fun κ q_1 i out => g κ (q_1, i, out)) (fun q_1 i out => h (q_1, i, out)) (fun q_1 i out => hg (q_1, i, out)) u w x.1 x.2.1 x.2.2
theorem r16_from_L3_eq  (u : Tp5) (w : Tp8) (q_1 : Int) (i : Int) (out : Tp8) : r16_from_L3 u w q_1 i out = r16_from_L3_B u w (r16_from_L3 u w) q_1 i out := LFix_eq (r16_from_L3_cn u w) (q_1, i, out)

noncomputable def r16_begin_L2_B (a : Tp8) (b : Tp8) (r2 : Int → Option (Int)) (n : Int) : Option (Int) :=
  if (decide (n < (a.length : Int))) = true then
  if (decide (n < (b.length : Int))) = true then
  G (0 ≤ n ∧ n < (a.length : Int)) (
  G (0 ≤ n ∧ n < (b.length : Int)) (
  if (decide ((ix a n) = (ix b n))) = true then
  G (fits (n + (1 : Int))) (
  r2 (n + (1 : Int))) else
  some n)) else
  some n else
  some n
noncomputable def r16_begin_L2_F (a : Tp8) (b : Tp8) : (Int → Option (Int)) → Int → Option (Int) :=
  fun rec x => r16_begin_L2_B a b (fun n => rec n) x
noncomputable def r16_begin_L2 (a : Tp8) (b : Tp8) (n : Int) : Option (Int) := LFix (r16_begin_L2_F a b ) n
noncomputable def r16_begin (a : Tp8) (b : Tp8) : Option (Int) :=
  r16_begin_L2 a b (0 : Int)
theorem r16_begin_L2_B_ch (r2 : Nat → Int → Option (Int)) (r2' : Int → Option (Int)) (h_r2 : ∀ a0, ChO (fun κ => r2 κ a0) (r2' a0)) (a : Tp8) (b : Tp8) (n : Int) : ChO (fun κ => r16_begin_L2_B a b (r2 κ) n) (r16_begin_L2_B a b r2' n) := by
  unfold r16_begin_L2_B
  repeat' with_reducible first | exact ChO.const _ | exact h_r2 _ | apply ChO.ite | apply ChO.G | apply ChO.both | (apply ChO.bind; intro _)
theorem r16_begin_L2_cn  (a : Tp8) (b : Tp8) : Cn (r16_begin_L2_F a b) := fun g h hg x => r16_begin_L2_B_ch  (fun κ n => g κ n) (fun n => h n) (fun n => hg n) a b x
theorem r16_begin_L2_eq  (a : Tp8) (b : Tp8) (n : Int) : r16_begin_L2 a b n = r16_begin_L2_B a b (r16_begin_L2 a b) n := LFix_eq (r16_begin_L2_cn a b) n

noncomputable def r16_Pushed_L11_B (t : Tp5) (q : Int) (r8 : (Bool → Int → Tp7 → Option Tp5)) (r11 : Bool → Int → Tp7 → Option Tp5) (again_2 : Bool) (a : Int) (ahead_2 : Tp7) : Option Tp5 :=
  if (decide (a < t.1)) = true then
  G (0 ≤ q ∧ q < (t.2.2.2.2.2.1.length : Int)) (
  G (0 ≤ a ∧ a < ((ix t.2.2.2.2.2.1 q).length : Int)) (
  G (room ([] : List Int) (ix (ix t.2.2.2.2.2.1 q) a) 8) (
  G (0 ≤ q ∧ q < (t.2.2.2.2.1.length : Int)) (
  G (0 ≤ a ∧ a < ((ix t.2.2.2.2.1 q).length : Int)) (
  G (0 ≤ ix (ix t.2.2.2.2.1 q) a ∧ ix (ix t.2.2.2.2.1 q) a < (ahead_2.length : Int)) (
  G ((ix (ix t.2.2.2.2.1 q) a).toNat < ahead_2.length) (
  G (room (([] : List Int) ++ (ix (ix t.2.2.2.2.2.1 q) a)) (ix ahead_2 (ix (ix t.2.2.2.2.1 q) a)) 8) (
  G (0 ≤ q ∧ q < (ahead_2.length : Int)) (
  G ((q).toNat < ahead_2.length) (
  (r16_begin (ix ahead_2 q) ((([] : List Int) ++ (ix (ix t.2.2.2.2.2.1 q) a)) ++ (ix ahead_2 (ix (ix t.2.2.2.2.1 q) a)))).bind (fun y' =>
  G (0 ≤ q ∧ q < (ahead_2.length : Int)) (
  G ((q).toNat < ahead_2.length) (
  if (decide (y' < ((ix ahead_2 q).length : Int))) = true then
  G (0 ≤ q ∧ q < (ahead_2.length : Int)) (
  G ((q).toNat < ahead_2.length) (
  G (0 ≤ (0 : Int) ∧ (0 : Int) ≤ y' ∧ y' ≤ ((ix ahead_2 q).length : Int)) (
  G (0 ≤ q ∧ q < (ahead_2.length : Int)) (
  G ((q).toNat < ahead_2.length) (
  G (fits (a + (1 : Int))) (
  r11 true (a + (1 : Int)) (ahead_2.set (q).toNat (cut (ix ahead_2 q) (0 : Int) y')))))))) else
  G (fits (a + (1 : Int))) (
  r11 again_2 (a + (1 : Int)) ahead_2)))))))))))))) else
  G (fits (q + (1 : Int))) (
  r8 again_2 (q + (1 : Int)) ahead_2)
noncomputable def r16_Pushed_L11_F (t : Tp5) (q : Int) (r8 : (Bool → Int → Tp7 → Option Tp5)) : (Bool × Int × Tp7 → Option Tp5) → Bool × Int × Tp7 → Option Tp5 :=
  fun rec x => r16_Pushed_L11_B t q r8 (fun again_2 a ahead_2 => rec (again_2, a, ahead_2)) x.1 x.2.1 x.2.2
noncomputable def r16_Pushed_L11 (t : Tp5) (q : Int) (r8 : (Bool → Int → Tp7 → Option Tp5)) (again_2 : Bool) (a : Int) (ahead_2 : Tp7) : Option Tp5 := LFix (r16_Pushed_L11_F t q r8 ) (again_2, a, ahead_2)
noncomputable def r16_Pushed_L8_B (t : Tp5) (r5 : (Bool → Tp7 → Option Tp5)) (r8 : Bool → Int → Tp7 → Option Tp5) (again_1 : Bool) (q : Int) (ahead_1 : Tp7) : Option Tp5 :=
  if (decide (q < (t.2.2.2.2.1.length : Int))) = true then
  r16_Pushed_L11 t q r8 again_1 (0 : Int) ahead_1 else
  r5 again_1 ahead_1
noncomputable def r16_Pushed_L8_F (t : Tp5) (r5 : (Bool → Tp7 → Option Tp5)) : (Bool × Int × Tp7 → Option Tp5) → Bool × Int × Tp7 → Option Tp5 :=
  fun rec x => r16_Pushed_L8_B t r5 (fun again_1 q ahead_1 => rec (again_1, q, ahead_1)) x.1 x.2.1 x.2.2
noncomputable def r16_Pushed_L8 (t : Tp5) (r5 : (Bool → Tp7 → Option Tp5)) (again_1 : Bool) (q : Int) (ahead_1 : Tp7) : Option Tp5 := LFix (r16_Pushed_L8_F t r5 ) (again_1, q, ahead_1)
noncomputable def r16_Pushed_L27_B (t : Tp5) (ahead : Tp7) (q_1 : Int) (out : Int) (out_1 : Int) (out_2 : Int) (out_3 : Tp7) (l : Tp8) (out_4 : Tp6) (out_5 : Tp7) (r23 : (Int → Int → Int → Int → Tp7 → Tp8 → Tp6 → Tp7 → Option Tp5)) (r27 : Int → Tp7 → Option Tp5) (a_1 : Int) (says : Tp7) : Option Tp5 :=
  if (decide (a_1 < t.1)) = true then
  G (0 ≤ q_1 ∧ q_1 < (t.2.2.2.2.2.1.length : Int)) (
  G (0 ≤ a_1 ∧ a_1 < ((ix t.2.2.2.2.2.1 q_1).length : Int)) (
  G (room ([] : List Int) (ix (ix t.2.2.2.2.2.1 q_1) a_1) 8) (
  G (0 ≤ q_1 ∧ q_1 < (t.2.2.2.2.1.length : Int)) (
  G (0 ≤ a_1 ∧ a_1 < ((ix t.2.2.2.2.1 q_1).length : Int)) (
  G (0 ≤ ix (ix t.2.2.2.2.1 q_1) a_1 ∧ ix (ix t.2.2.2.2.1 q_1) a_1 < (ahead.length : Int)) (
  G ((ix (ix t.2.2.2.2.1 q_1) a_1).toNat < ahead.length) (
  G (room (([] : List Int) ++ (ix (ix t.2.2.2.2.2.1 q_1) a_1)) (ix ahead (ix (ix t.2.2.2.2.1 q_1) a_1)) 8) (
  G (0 ≤ q_1 ∧ q_1 < (ahead.length : Int)) (
  G ((q_1).toNat < ahead.length) (
  G (0 ≤ ((ix ahead q_1).length : Int) ∧ ((ix ahead q_1).length : Int) ≤ (((([] : List Int) ++ (ix (ix t.2.2.2.2.2.1 q_1) a_1)) ++ (ix ahead (ix (ix t.2.2.2.2.1 q_1) a_1))).length : Int)) (
  G (room says ([(((([] : List Int) ++ (ix (ix t.2.2.2.2.2.1 q_1) a_1)) ++ (ix ahead (ix (ix t.2.2.2.2.1 q_1) a_1))).drop ((((ix ahead q_1).length : Int)).toNat)).take (((([] : List Int) ++ (ix (ix t.2.2.2.2.2.1 q_1) a_1)) ++ (ix ahead (ix (ix t.2.2.2.2.1 q_1) a_1))).length - (((ix ahead q_1).length : Int)).toNat)]) 24) (
  G (fits (a_1 + (1 : Int))) (
  r27 (a_1 + (1 : Int)) (says ++ ([(((([] : List Int) ++ (ix (ix t.2.2.2.2.2.1 q_1) a_1)) ++ (ix ahead (ix (ix t.2.2.2.2.1 q_1) a_1))).drop ((((ix ahead q_1).length : Int)).toNat)).take (((([] : List Int) ++ (ix (ix t.2.2.2.2.2.1 q_1) a_1)) ++ (ix ahead (ix (ix t.2.2.2.2.1 q_1) a_1))).length - (((ix ahead q_1).length : Int)).toNat)]))))))))))))))) else
  G (room out_4 ([says]) 24) (
  G (0 ≤ q_1 ∧ q_1 < (t.2.2.2.2.2.2.1.length : Int)) (
  G (0 ≤ q_1 ∧ q_1 < (ahead.length : Int)) (
  G ((q_1).toNat < ahead.length) (
  G (0 ≤ ((ix ahead q_1).length : Int) ∧ ((ix ahead q_1).length : Int) ≤ ((ix t.2.2.2.2.2.2.1 q_1).length : Int) ∧ ((ix t.2.2.2.2.2.2.1 q_1).length : Int) ≤ ((ix t.2.2.2.2.2.2.1 q_1).length : Int)) (
  G (room out_5 ([cut (ix t.2.2.2.2.2.2.1 q_1) ((ix ahead q_1).length : Int) ((ix t.2.2.2.2.2.2.1 q_1).length : Int)]) 24) (
  G (fits (q_1 + (1 : Int))) (
  r23 (q_1 + (1 : Int)) out out_1 out_2 out_3 l (out_4 ++ ([says])) (out_5 ++ ([cut (ix t.2.2.2.2.2.2.1 q_1) ((ix ahead q_1).length : Int) ((ix t.2.2.2.2.2.2.1 q_1).length : Int)])))))))))
noncomputable def r16_Pushed_L27_F (t : Tp5) (ahead : Tp7) (q_1 : Int) (out : Int) (out_1 : Int) (out_2 : Int) (out_3 : Tp7) (l : Tp8) (out_4 : Tp6) (out_5 : Tp7) (r23 : (Int → Int → Int → Int → Tp7 → Tp8 → Tp6 → Tp7 → Option Tp5)) : (Int × Tp7 → Option Tp5) → Int × Tp7 → Option Tp5 :=
  fun rec x => r16_Pushed_L27_B t ahead q_1 out out_1 out_2 out_3 l out_4 out_5 r23 (fun a_1 says => rec (a_1, says)) x.1 x.2
noncomputable def r16_Pushed_L27 (t : Tp5) (ahead : Tp7) (q_1 : Int) (out : Int) (out_1 : Int) (out_2 : Int) (out_3 : Tp7) (l : Tp8) (out_4 : Tp6) (out_5 : Tp7) (r23 : (Int → Int → Int → Int → Tp7 → Tp8 → Tp6 → Tp7 → Option Tp5)) (a_1 : Int) (says : Tp7) : Option Tp5 := LFix (r16_Pushed_L27_F t ahead q_1 out out_1 out_2 out_3 l out_4 out_5 r23 ) (a_1, says)
noncomputable def r16_Pushed_L23_B (t : Tp5) (ahead : Tp7) (r23 : Tf5) (q_1 : Int) (out : Int) (out_1 : Int) (out_2 : Int) (out_3 : Tp7) (l : Tp8) (out_4 : Tp6) (out_5 : Tp7) : Option Tp5 :=
  if (decide (q_1 < (t.2.2.2.2.1.length : Int))) = true then
  r16_Pushed_L27 t ahead q_1 out out_1 out_2 out_3 l out_4 out_5 r23 (0 : Int) ([]) else
  some (out, (out_1, (out_2, (l, (out_3, (out_4, (out_5, ())))))))
noncomputable def r16_Pushed_L23_F (t : Tp5) (ahead : Tp7) : (Int × Int × Int × Int × Tp7 × Tp8 × Tp6 × Tp7 → Option Tp5) → Int × Int × Int × Int × Tp7 × Tp8 × Tp6 × Tp7 → Option Tp5 :=
  fun rec x => r16_Pushed_L23_B t ahead (fun q_1 out out_1 out_2 out_3 l out_4 out_5 => rec (q_1, out, out_1, out_2, out_3, l, out_4, out_5)) x.1 x.2.1 x.2.2.1 x.2.2.2.1 x.2.2.2.2.1 x.2.2.2.2.2.1 x.2.2.2.2.2.2.1 x.2.2.2.2.2.2.2
noncomputable def r16_Pushed_L23 (t : Tp5) (ahead : Tp7) (q_1 : Int) (out : Int) (out_1 : Int) (out_2 : Int) (out_3 : Tp7) (l : Tp8) (out_4 : Tp6) (out_5 : Tp7) : Option Tp5 := LFix (r16_Pushed_L23_F t ahead ) (q_1, out, out_1, out_2, out_3, l, out_4, out_5)
noncomputable def r16_Pushed_L5_B (t : Tp5) (r5 : Bool → Tp7 → Option Tp5) (again : Bool) (ahead : Tp7) : Option Tp5 :=
  if again = true then
  r16_Pushed_L8 t r5 false (0 : Int) ahead else
  G (room ([] : List Int) t.2.2.2.1 8) (
  G (0 ≤ t.2.2.1 ∧ t.2.2.1 < (ahead.length : Int)) (
  G ((t.2.2.1).toNat < ahead.length) (
  G (room t.2.2.2.1 (ix ahead t.2.2.1) 8) (
  r16_Pushed_L23 t ahead (0 : Int) t.1 t.2.1 t.2.2.1 t.2.2.2.2.1 (t.2.2.2.1 ++ (ix ahead t.2.2.1)) ([] : List Tp7) ([] : List Tp8)))))
noncomputable def r16_Pushed_L5_F (t : Tp5) : (Bool × Tp7 → Option Tp5) → Bool × Tp7 → Option Tp5 :=
  fun rec x => r16_Pushed_L5_B t (fun again ahead => rec (again, ahead)) x.1 x.2
noncomputable def r16_Pushed_L5 (t : Tp5) (again : Bool) (ahead : Tp7) : Option Tp5 := LFix (r16_Pushed_L5_F t ) (again, ahead)
noncomputable def r16_Pushed (t : Tp5) : Option Tp5 :=
  G (mkOK (t.2.2.2.2.1.length : Int) (t.2.2.2.2.1.length : Int) 24) (
  r16_Pushed_L5 t true (t.2.2.2.2.2.2.1.take (List.replicate ((t.2.2.2.2.1.length : Int)).toNat ([] : List Int)).length ++ (List.replicate ((t.2.2.2.2.1.length : Int)).toNat ([] : List Int)).drop t.2.2.2.2.2.2.1.length))
theorem r16_Pushed_L11_B_ch (r8 : Nat → Bool → Int → Tp7 → Option Tp5) (r8' : Bool → Int → Tp7 → Option Tp5) (h_r8 : ∀ a0 a1 a2, ChO (fun κ => r8 κ a0 a1 a2) (r8' a0 a1 a2)) (r11 : Nat → Bool → Int → Tp7 → Option Tp5) (r11' : Bool → Int → Tp7 → Option Tp5) (h_r11 : ∀ a0 a1 a2, ChO (fun κ => r11 κ a0 a1 a2) (r11' a0 a1 a2)) (t : Tp5) (q : Int) (again_2 : Bool) (a : Int) (ahead_2 : Tp7) : ChO (fun κ => r16_Pushed_L11_B t q (r8 κ) (r11 κ) again_2 a ahead_2) (r16_Pushed_L11_B t q r8' r11' again_2 a ahead_2) := by
  unfold r16_Pushed_L11_B
  repeat' with_reducible first | exact ChO.const _ | exact h_r8 _ _ _ | exact h_r11 _ _ _ | apply ChO.ite | apply ChO.G | apply ChO.both | (apply ChO.bind; intro _)
theorem r16_Pushed_L11_cn (r8 : Bool → Int → Tp7 → Option Tp5) (t : Tp5) (q : Int) : Cn (r16_Pushed_L11_F t q r8) := fun g h hg x => r16_Pushed_L11_B_ch (fun _ => r8) r8 (fun _ _ _ => ChO.const _) (fun κ again_2 a ahead_2 => g κ (again_2, a, ahead_2)) (fun again_2 a ahead_2 => h (again_2, a, ahead_2)) (fun again_2 a ahead_2 => hg (again_2, a, ahead_2)) t q x.1 x.2.1 x.2.2
theorem r16_Pushed_L11_eq (r8 : Bool → Int → Tp7 → Option Tp5) (t : Tp5) (q : Int) (again_2 : Bool) (a : Int) (ahead_2 : Tp7) : r16_Pushed_L11 t q r8 again_2 a ahead_2 = r16_Pushed_L11_B t q r8 (r16_Pushed_L11 t q r8) again_2 a ahead_2 := LFix_eq (r16_Pushed_L11_cn r8 t q) (again_2, a, ahead_2)
theorem r16_Pushed_L11_ch (r8 : Nat → Bool → Int → Tp7 → Option Tp5) (r8' : Bool → Int → Tp7 → Option Tp5) (h_r8 : ∀ a0 a1 a2, ChO (fun κ => r8 κ a0 a1 a2) (r8' a0 a1 a2)) (t : Tp5) (q : Int) (again_2 : Bool) (a : Int) (ahead_2 : Tp7) : ChO (fun κ => r16_Pushed_L11 t q (r8 κ) again_2 a ahead_2) (r16_Pushed_L11 t q r8' again_2 a ahead_2) := by
  unfold r16_Pushed_L11
  exact LFix_ch (fun κ => (r16_Pushed_L11_cn (r8 κ) t q).mono) (r16_Pushed_L11_cn r8' t q).mono (fun g h hg x => r16_Pushed_L11_B_ch r8 r8' h_r8 (fun κ again_2 a ahead_2 => g κ (again_2, a, ahead_2)) (fun again_2 a ahead_2 => h (again_2, a, ahead_2)) (fun again_2 a ahead_2 => hg (again_2, a, ahead_2)) t q x.1 x.2.1 x.2.2) _
theorem r16_Pushed_L8_B_ch (r5 : Nat → Bool → Tp7 → Option Tp5) (r5' : Bool → Tp7 → Option Tp5) (h_r5 : ∀ a0 a1, ChO (fun κ => r5 κ a0 a1) (r5' a0 a1)) (r8 : Nat → Bool → Int → Tp7 → Option Tp5) (r8' : Bool → Int → Tp7 → Option Tp5) (h_r8 : ∀ a0 a1 a2, ChO (fun κ => r8 κ a0 a1 a2) (r8' a0 a1 a2)) (t : Tp5) (again_1 : Bool) (q : Int) (ahead_1 : Tp7) : ChO (fun κ => r16_Pushed_L8_B t (r5 κ) (r8 κ) again_1 q ahead_1) (r16_Pushed_L8_B t r5' r8' again_1 q ahead_1) := by
  unfold r16_Pushed_L8_B
  repeat' with_reducible first | exact ChO.const _ | exact h_r5 _ _ | exact h_r8 _ _ _ | (apply r16_Pushed_L11_ch <;> assumption) | apply ChO.ite | apply ChO.G | apply ChO.both | (apply ChO.bind; intro _)
theorem r16_Pushed_L8_cn (r5 : Bool → Tp7 → Option Tp5) (t : Tp5) : Cn (r16_Pushed_L8_F t r5) := fun g h hg x => r16_Pushed_L8_B_ch (fun _ => r5) r5 (fun _ _ => ChO.const _) (fun κ again_1 q ahead_1 => g κ (again_1, q, ahead_1)) (fun again_1 q ahead_1 => h (again_1, q, ahead_1)) (fun again_1 q ahead_1 => hg (again_1, q, ahead_1)) t x.1 x.2.1 x.2.2
theorem r16_Pushed_L8_eq (r5 : Bool → Tp7 → Option Tp5) (t : Tp5) (again_1 : Bool) (q : Int) (ahead_1 : Tp7) : r16_Pushed_L8 t r5 again_1 q ahead_1 = r16_Pushed_L8_B t r5 (r16_Pushed_L8 t r5) again_1 q ahead_1 := LFix_eq (r16_Pushed_L8_cn r5 t) (again_1, q, ahead_1)
theorem r16_Pushed_L8_ch (r5 : Nat → Bool → Tp7 → Option Tp5) (r5' : Bool → Tp7 → Option Tp5) (h_r5 : ∀ a0 a1, ChO (fun κ => r5 κ a0 a1) (r5' a0 a1)) (t : Tp5) (again_1 : Bool) (q : Int) (ahead_1 : Tp7) : ChO (fun κ => r16_Pushed_L8 t (r5 κ) again_1 q ahead_1) (r16_Pushed_L8 t r5' again_1 q ahead_1) := by
  unfold r16_Pushed_L8
  exact LFix_ch (fun κ => (r16_Pushed_L8_cn (r5 κ) t).mono) (r16_Pushed_L8_cn r5' t).mono (fun g h hg x => r16_Pushed_L8_B_ch r5 r5' h_r5 (fun κ again_1 q ahead_1 => g κ (again_1, q, ahead_1)) (fun again_1 q ahead_1 => h (again_1, q, ahead_1)) (fun again_1 q ahead_1 => hg (again_1, q, ahead_1)) t x.1 x.2.1 x.2.2) _
theorem r16_Pushed_L27_B_ch (r23 : Nat → Tf5) (r23' : Tf5) (h_r23 : ∀ a0 a1 a2 a3 a4 a5 a6 a7, ChO (fun κ => r23 κ a0 a1 a2 a3 a4 a5 a6 a7) (r23' a0 a1 a2 a3 a4 a5 a6 a7)) (r27 : Nat → Int → Tp7 → Option Tp5) (r27' : Int → Tp7 → Option Tp5) (h_r27 : ∀ a0 a1, ChO (fun κ => r27 κ a0 a1) (r27' a0 a1)) (t : Tp5) (ahead : Tp7) (q_1 : Int) (out : Int) (out_1 : Int) (out_2 : Int) (out_3 : Tp7) (l : Tp8) (out_4 : Tp6) (out_5 : Tp7) (a_1 : Int) (says : Tp7) : ChO (fun κ => r16_Pushed_L27_B t ahead q_1 out out_1 out_2 out_3 l out_4 out_5 (r23 κ) (r27 κ) a_1 says) (r16_Pushed_L27_B t ahead q_1 out out_1 out_2 out_3 l out_4 out_5 r23' r27' a_1 says) := by
  unfold r16_Pushed_L27_B
  repeat' with_reducible first | exact ChO.const _ | exact h_r23 _ _ _ _ _ _ _ _ | exact h_r27 _ _ | (apply r16_Pushed_L11_ch <;> assumption) | (apply r16_Pushed_L8_ch <;> assumption) | apply ChO.ite | apply ChO.G | apply ChO.both | (apply ChO.bind; intro _)
theorem r16_Pushed_L27_cn (r23 : Tf5) (t : Tp5) (ahead : Tp7) (q_1 : Int) (out : Int) (out_1 : Int) (out_2 : Int) (out_3 : Tp7) (l : Tp8) (out_4 : Tp6) (out_5 : Tp7) : Cn (r16_Pushed_L27_F t ahead q_1 out out_1 out_2 out_3 l out_4 out_5 r23) := fun g h hg x => r16_Pushed_L27_B_ch (fun _ => r23) r23 (fun _ _ _ _ _ _ _ _ => ChO.const _) (fun κ a_1 says => g κ (a_1, says)) (fun a_1 says => h (a_1, says)) (fun a_1 says => hg (a_1, says)) t ahead q_1 out out_1 out_2 out_3 l out_4 out_5 x.1 x.2
theorem r16_Pushed_L27_eq (r23 : Tf5) (t : Tp5) (ahead : Tp7) (q_1 : Int) (out : Int) (out_1 : Int) (out_2 : Int) (out_3 : Tp7) (l : Tp8) (out_4 : Tp6) (out_5 : Tp7) (a_1 : Int) (says : Tp7) : r16_Pushed_L27 t ahead q_1 out out_1 out_2 out_3 l out_4 out_5 r23 a_1 says = r16_Pushed_L27_B t ahead q_1 out out_1 out_2 out_3 l out_4 out_5 r23 (r16_Pushed_L27 t ahead q_1 out out_1 out_2 out_3 l out_4 out_5 r23) a_1 says := LFix_eq (r16_Pushed_L27_cn r23 t ahead q_1 out out_1 out_2 out_3 l out_4 out_5) (a_1, says)
theorem r16_Pushed_L27_ch (r23 : Nat → Tf5) (r23' : Tf5) (h_r23 : ∀ a0 a1 a2 a3 a4 a5 a6 a7, ChO (fun κ => r23 κ a0 a1 a2 a3 a4 a5 a6 a7) (r23' a0 a1 a2 a3 a4 a5 a6 a7)) (t : Tp5) (ahead : Tp7) (q_1 : Int) (out : Int) (out_1 : Int) (out_2 : Int) (out_3 : Tp7) (l : Tp8) (out_4 : Tp6) (out_5 : Tp7) (a_1 : Int) (says : Tp7) : ChO (fun κ => r16_Pushed_L27 t ahead q_1 out out_1 out_2 out_3 l out_4 out_5 (r23 κ) a_1 says) (r16_Pushed_L27 t ahead q_1 out out_1 out_2 out_3 l out_4 out_5 r23' a_1 says) := by
  unfold r16_Pushed_L27
  exact LFix_ch (fun κ => (r16_Pushed_L27_cn (r23 κ) t ahead q_1 out out_1 out_2 out_3 l out_4 out_5).mono) (r16_Pushed_L27_cn r23' t ahead q_1 out out_1 out_2 out_3 l out_4 out_5).mono (fun g h hg x => r16_Pushed_L27_B_ch r23 r23' h_r23 (fun κ a_1 says => g κ (a_1, says)) (fun a_1 says => h (a_1, says)) (fun a_1 says => hg (a_1, says)) t ahead q_1 out out_1 out_2 out_3 l out_4 out_5 x.1 x.2) _
theorem r16_Pushed_L23_B_ch (r23 : Nat → Tf5) (r23' : Tf5) (h_r23 : ∀ a0 a1 a2 a3 a4 a5 a6 a7, ChO (fun κ => r23 κ a0 a1 a2 a3 a4 a5 a6 a7) (r23' a0 a1 a2 a3 a4 a5 a6 a7)) (t : Tp5) (ahead : Tp7) (q_1 : Int) (out : Int) (out_1 : Int) (out_2 : Int) (out_3 : Tp7) (l : Tp8) (out_4 : Tp6) (out_5 : Tp7) : ChO (fun κ => r16_Pushed_L23_B t ahead (r23 κ) q_1 out out_1 out_2 out_3 l out_4 out_5) (r16_Pushed_L23_B t ahead r23' q_1 out out_1 out_2 out_3 l out_4 out_5) := by
  unfold r16_Pushed_L23_B
  repeat' with_reducible first | exact ChO.const _ | exact h_r23 _ _ _ _ _ _ _ _ | (apply r16_Pushed_L11_ch <;> assumption) | (apply r16_Pushed_L8_ch <;> assumption) | (apply r16_Pushed_L27_ch <;> assumption) | apply ChO.ite | apply ChO.G | apply ChO.both | (apply ChO.bind; intro _)
theorem r16_Pushed_L23_cn  (t : Tp5) (ahead : Tp7) : Cn (r16_Pushed_L23_F t ahead) := fun g h hg x => r16_Pushed_L23_B_ch  (fun κ q_1 out out_1 out_2 out_3 l out_4 out_5 => g κ (q_1, out, out_1, out_2, out_3, l, out_4, out_5)) (fun q_1 out out_1 out_2 out_3 l out_4 out_5 => h (q_1, out, out_1, out_2, out_3, l, out_4, out_5)) (fun q_1 out out_1 out_2 out_3 l out_4 out_5 => hg (q_1, out, out_1, out_2, out_3, l, out_4, out_5)) t ahead x.1 x.2.1 x.2.2.1 x.2.2.2.1 x.2.2.2.2.1 x.2.2.2.2.2.1 x.2.2.2.2.2.2.1 x.2.2.2.2.2.2.2
theorem r16_Pushed_L23_eq  (t : Tp5) (ahead : Tp7) (q_1 : Int) (out : Int) (out_1 : Int) (out_2 : Int) (out_3 : Tp7) (l : Tp8) (out_4 : Tp6) (out_5 : Tp7) : r16_Pushed_L23 t ahead q_1 out out_1 out_2 out_3 l out_4 out_5 = r16_Pushed_L23_B t ahead (r16_Pushed_L23 t ahead) q_1 out out_1 out_2 out_3 l out_4 out_5 := LFix_eq (r16_Pushed_L23_cn t ahead) (q_1, out, out_1, out_2, out_3, l, out_4, out_5)
theorem r16_Pushed_L5_B_ch (r5 : Nat → Bool → Tp7 → Option Tp5) (r5' : Bool → Tp7 → Option Tp5) (h_r5 : ∀ a0 a1, ChO (fun κ => r5 κ a0 a1) (r5' a0 a1)) (t : Tp5) (again : Bool) (ahead : Tp7) : ChO (fun κ => r16_Pushed_L5_B t (r5 κ) again ahead) (r16_Pushed_L5_B t r5' again ahead) := by
  unfold r16_Pushed_L5_B
  repeat' with_reducible first | exact ChO.const _ | exact h_r5 _ _ | (apply r16_Pushed_L11_ch <;> assumption) | (apply r16_Pushed_L8_ch <;> assumption) | (apply r16_Pushed_L27_ch <;> assumption) | apply ChO.ite | apply ChO.G | apply ChO.both | (apply ChO.bind; intro _)
theorem r16_Pushed_L5_cn  (t : Tp5) : Cn (r16_Pushed_L5_F t) := fun g h hg x => r16_Pushed_L5_B_ch  (fun κ again ahead => g κ (again, ahead)) (fun again ahead => h (again, ahead)) (fun again ahead => hg (again, ahead)) t x.1 x.2
theorem r16_Pushed_L5_eq  (t : Tp5) (again : Bool) (ahead : Tp7) : r16_Pushed_L5 t again ahead = r16_Pushed_L5_B t (r16_Pushed_L5 t) again ahead := LFix_eq (r16_Pushed_L5_cn t) (again, ahead)

noncomputable def r1_Words_L4_B (a : Tp8) (b : Tp8) (r4 : Int → Option (Bool)) (i : Int) : Option (Bool) :=
  if (decide (i < (a.length : Int))) = true then
  G (0 ≤ i ∧ i < (a.length : Int)) (
  G (0 ≤ i ∧ i < (b.length : Int)) (
  if (decide (¬ (ix a i) = (ix b i))) = true then
  some false else
  G (fits (i + (1 : Int))) (
  r4 (i + (1 : Int))))) else
  some true
noncomputable def r1_Words_L4_F (a : Tp8) (b : Tp8) : (Int → Option (Bool)) → Int → Option (Bool) :=
  fun rec x => r1_Words_L4_B a b (fun i => rec i) x
noncomputable def r1_Words_L4 (a : Tp8) (b : Tp8) (i : Int) : Option (Bool) := LFix (r1_Words_L4_F a b ) i
noncomputable def r1_Words (a : Tp8) (b : Tp8) : Option (Bool) :=
  if (decide (¬ (a.length : Int) = (b.length : Int))) = true then
  some false else
  r1_Words_L4 a b (0 : Int)
theorem r1_Words_L4_B_ch (r4 : Nat → Int → Option (Bool)) (r4' : Int → Option (Bool)) (h_r4 : ∀ a0, ChO (fun κ => r4 κ a0) (r4' a0)) (a : Tp8) (b : Tp8) (i : Int) : ChO (fun κ => r1_Words_L4_B a b (r4 κ) i) (r1_Words_L4_B a b r4' i) := by
  unfold r1_Words_L4_B
  repeat' with_reducible first | exact ChO.const _ | exact h_r4 _ | apply ChO.ite | apply ChO.G | apply ChO.both | (apply ChO.bind; intro _)
theorem r1_Words_L4_cn  (a : Tp8) (b : Tp8) : Cn (r1_Words_L4_F a b) := fun g h hg x => r1_Words_L4_B_ch  (fun κ i => g κ i) (fun i => h i) (fun i => hg i) a b x
theorem r1_Words_L4_eq  (a : Tp8) (b : Tp8) (i : Int) : r1_Words_L4 a b i = r1_Words_L4_B a b (r1_Words_L4 a b) i := LFix_eq (r1_Words_L4_cn a b) i

noncomputable def r16_alike_L5_B (t : Tp5) (class' : Tp8) (p : Int) (q : Int) (r5 : Int → Option (Bool)) (a : Int) : Option (Bool) :=
  if (decide (a < t.1)) = true then
  G (0 ≤ p ∧ p < (t.2.2.2.2.2.1.length : Int)) (
  G (0 ≤ a ∧ a < ((ix t.2.2.2.2.2.1 p).length : Int)) (
  G (0 ≤ q ∧ q < (t.2.2.2.2.2.1.length : Int)) (
  G (0 ≤ a ∧ a < ((ix t.2.2.2.2.2.1 q).length : Int)) (
  (r1_Words (ix (ix t.2.2.2.2.2.1 p) a) (ix (ix t.2.2.2.2.2.1 q) a)).bind (fun y'_1 =>
  if (!y'_1) = true then
  some false else
  G (0 ≤ p ∧ p < (t.2.2.2.2.1.length : Int)) (
  G (0 ≤ a ∧ a < ((ix t.2.2.2.2.1 p).length : Int)) (
  G (0 ≤ ix (ix t.2.2.2.2.1 p) a ∧ ix (ix t.2.2.2.2.1 p) a < (class'.length : Int)) (
  G (0 ≤ q ∧ q < (t.2.2.2.2.1.length : Int)) (
  G (0 ≤ a ∧ a < ((ix t.2.2.2.2.1 q).length : Int)) (
  G (0 ≤ ix (ix t.2.2.2.2.1 q) a ∧ ix (ix t.2.2.2.2.1 q) a < (class'.length : Int)) (
  if (decide (¬ (ix class' (ix (ix t.2.2.2.2.1 p) a)) = (ix class' (ix (ix t.2.2.2.2.1 q) a)))) = true then
  some false else
  G (fits (a + (1 : Int))) (
  r5 (a + (1 : Int)))))))))))))) else
  some true
noncomputable def r16_alike_L5_F (t : Tp5) (class' : Tp8) (p : Int) (q : Int) : (Int → Option (Bool)) → Int → Option (Bool) :=
  fun rec x => r16_alike_L5_B t class' p q (fun a => rec a) x
noncomputable def r16_alike_L5 (t : Tp5) (class' : Tp8) (p : Int) (q : Int) (a : Int) : Option (Bool) := LFix (r16_alike_L5_F t class' p q ) a
noncomputable def r16_alike (t : Tp5) (class' : Tp8) (p : Int) (q : Int) : Option (Bool) :=
  G (0 ≤ p ∧ p < (t.2.2.2.2.2.2.1.length : Int)) (
  G (0 ≤ q ∧ q < (t.2.2.2.2.2.2.1.length : Int)) (
  (r1_Words (ix t.2.2.2.2.2.2.1 p) (ix t.2.2.2.2.2.2.1 q)).bind (fun y' =>
  G (0 ≤ p ∧ p < (class'.length : Int)) (
  G (0 ≤ q ∧ q < (class'.length : Int)) (
  if (decide (¬ (ix class' p) = (ix class' q))) = true then
  some false else
  if (!y') = true then
  some false else
  r16_alike_L5 t class' p q (0 : Int))))))
theorem r16_alike_L5_B_ch (r5 : Nat → Int → Option (Bool)) (r5' : Int → Option (Bool)) (h_r5 : ∀ a0, ChO (fun κ => r5 κ a0) (r5' a0)) (t : Tp5) (class' : Tp8) (p : Int) (q : Int) (a : Int) : ChO (fun κ => r16_alike_L5_B t class' p q (r5 κ) a) (r16_alike_L5_B t class' p q r5' a) := by
  unfold r16_alike_L5_B
  repeat' with_reducible first | exact ChO.const _ | exact h_r5 _ | apply ChO.ite | apply ChO.G | apply ChO.both | (apply ChO.bind; intro _)
theorem r16_alike_L5_cn  (t : Tp5) (class' : Tp8) (p : Int) (q : Int) : Cn (r16_alike_L5_F t class' p q) := fun g h hg x => r16_alike_L5_B_ch  (fun κ a => g κ a) (fun a => h a) (fun a => hg a) t class' p q x
theorem r16_alike_L5_eq  (t : Tp5) (class' : Tp8) (p : Int) (q : Int) (a : Int) : r16_alike_L5 t class' p q a = r16_alike_L5_B t class' p q (r16_alike_L5 t class' p q) a := LFix_eq (r16_alike_L5_cn t class' p q) a

noncomputable def r16_Least_J16 (q : Int) (next' : Tp8) (r8 : (Int → Tp8 → Tp8 → Option Tp5)) (k_1 : Int) (firsts_1 : Tp8) : Option Tp5 :=
  G (0 ≤ q ∧ q < (next'.length : Int)) (
  G ((q).toNat < next'.length) (
  G (fits (q + (1 : Int))) (
  r8 (q + (1 : Int)) (next'.set (q).toNat k_1) firsts_1)))
noncomputable def r16_Least_J14 (q : Int) (next' : Tp8) (firsts : Tp8) (r8 : (Int → Tp8 → Tp8 → Option Tp5)) (k_1 : Int) : Option Tp5 :=
  if (decide (k_1 = (firsts.length : Int))) = true then
  G (room firsts ([q]) 8) (
  r16_Least_J16 q next' r8 k_1 (firsts ++ ([q]))) else
  r16_Least_J16 q next' r8 k_1 firsts
noncomputable def r16_Least_L11_B (y' : Tp5) (class' : Tp8) (q : Int) (next' : Tp8) (firsts : Tp8) (r8 : (Int → Tp8 → Tp8 → Option Tp5)) (r11 : Int → Option Tp5) (k : Int) : Option Tp5 :=
  if (decide (k < (firsts.length : Int))) = true then
  G (0 ≤ k ∧ k < (firsts.length : Int)) (
  G ((k).toNat < firsts.length) (
  (r16_alike (y'.1, (y'.2.1, (y'.2.2.1, (y'.2.2.2.1, (y'.2.2.2.2.1, (y'.2.2.2.2.2.1, (y'.2.2.2.2.2.2.1, ()))))))) class' (ix firsts k) q).bind (fun y'_1 =>
  if y'_1 = true then
  r16_Least_J14 q next' firsts r8 k else
  G (fits (k + (1 : Int))) (
  r11 (k + (1 : Int)))))) else
  r16_Least_J14 q next' firsts r8 k
noncomputable def r16_Least_L11_F (y' : Tp5) (class' : Tp8) (q : Int) (next' : Tp8) (firsts : Tp8) (r8 : (Int → Tp8 → Tp8 → Option Tp5)) : (Int → Option Tp5) → Int → Option Tp5 :=
  fun rec x => r16_Least_L11_B y' class' q next' firsts r8 (fun k => rec k) x
noncomputable def r16_Least_L11 (y' : Tp5) (class' : Tp8) (q : Int) (next' : Tp8) (firsts : Tp8) (r8 : (Int → Tp8 → Tp8 → Option Tp5)) (k : Int) : Option Tp5 := LFix (r16_Least_L11_F y' class' q next' firsts r8 ) k
noncomputable def r16_Least_J40 (y' : Tp5) (next' : Tp8) (i_1 : Int) (row : Tp8) (a : Int) (next'_1 : Tp8) (r35 : (Int → Tp8 → Tp8 → Tp8 → Option Tp5)) (number_3 : Tp8) (row_2 : Tp8) : Option Tp5 :=
  G (0 ≤ ix (ix y'.2.2.2.2.1 (ix row i_1)) a ∧ ix (ix y'.2.2.2.2.1 (ix row i_1)) a < (next'.length : Int)) (
  G ((ix (ix y'.2.2.2.2.1 (ix row i_1)) a).toNat < next'.length) (
  G (0 ≤ ix next' (ix (ix y'.2.2.2.2.1 (ix row i_1)) a) ∧ ix next' (ix (ix y'.2.2.2.2.1 (ix row i_1)) a) < (number_3.length : Int)) (
  G ((ix next' (ix (ix y'.2.2.2.2.1 (ix row i_1)) a)).toNat < number_3.length) (
  G (room next'_1 ([ix number_3 (ix next' (ix (ix y'.2.2.2.2.1 (ix row i_1)) a))]) 8) (
  G (fits (a + (1 : Int))) (
  r35 (a + (1 : Int)) number_3 row_2 (next'_1 ++ ([ix number_3 (ix next' (ix (ix y'.2.2.2.2.1 (ix row i_1)) a))]))))))))
noncomputable def r16_Least_L35_B (y' : Tp5) (next' : Tp8) (i_1 : Int) (row : Tp8) (out : Int) (out_1 : Int) (out_2 : Int) (out_3 : Tp8) (out_4 : Tp7) (out_5 : Tp6) (out_6 : Tp7) (r30 : (Int → Tp8 → Tp8 → Int → Int → Int → Tp8 → Tp7 → Tp6 → Tp7 → Option Tp5)) (r35 : Tf11) (a : Int) (number_2 : Tp8) (row_1 : Tp8) (next'_1 : Tp8) : Option Tp5 :=
  if (decide (a < y'.1)) = true then
  G (0 ≤ ix row i_1 ∧ ix row i_1 < (y'.2.2.2.2.1.length : Int)) (
  G (0 ≤ a ∧ a < ((ix y'.2.2.2.2.1 (ix row i_1)).length : Int)) (
  G (0 ≤ ix (ix y'.2.2.2.2.1 (ix row i_1)) a ∧ ix (ix y'.2.2.2.2.1 (ix row i_1)) a < (next'.length : Int)) (
  G ((ix (ix y'.2.2.2.2.1 (ix row i_1)) a).toNat < next'.length) (
  G (0 ≤ ix next' (ix (ix y'.2.2.2.2.1 (ix row i_1)) a) ∧ ix next' (ix (ix y'.2.2.2.2.1 (ix row i_1)) a) < (number_2.length : Int)) (
  G ((ix next' (ix (ix y'.2.2.2.2.1 (ix row i_1)) a)).toNat < number_2.length) (
  if (decide ((ix number_2 (ix next' (ix (ix y'.2.2.2.2.1 (ix row i_1)) a))) < (0 : Int))) = true then
  G (0 ≤ ix (ix y'.2.2.2.2.1 (ix row i_1)) a ∧ ix (ix y'.2.2.2.2.1 (ix row i_1)) a < (next'.length : Int)) (
  G ((ix (ix y'.2.2.2.2.1 (ix row i_1)) a).toNat < next'.length) (
  G (0 ≤ ix next' (ix (ix y'.2.2.2.2.1 (ix row i_1)) a) ∧ ix next' (ix (ix y'.2.2.2.2.1 (ix row i_1)) a) < (number_2.length : Int)) (
  G ((ix next' (ix (ix y'.2.2.2.2.1 (ix row i_1)) a)).toNat < number_2.length) (
  G (room row_1 ([ix (ix y'.2.2.2.2.1 (ix row i_1)) a]) 8) (
  r16_Least_J40 y' next' i_1 row a next'_1 r35 (number_2.set (ix next' (ix (ix y'.2.2.2.2.1 (ix row i_1)) a)).toNat (row_1.length : Int)) (row_1 ++ ([ix (ix y'.2.2.2.2.1 (ix row i_1)) a]))))))) else
  r16_Least_J40 y' next' i_1 row a next'_1 r35 number_2 row_1)))))) else
  G (room out_4 ([next'_1]) 24) (
  G (0 ≤ ix row i_1 ∧ ix row i_1 < (y'.2.2.2.2.2.1.length : Int)) (
  G (room out_5 ([ix y'.2.2.2.2.2.1 (ix row i_1)]) 24) (
  G (0 ≤ ix row i_1 ∧ ix row i_1 < (y'.2.2.2.2.2.2.1.length : Int)) (
  G (room out_6 ([ix y'.2.2.2.2.2.2.1 (ix row i_1)]) 24) (
  G (fits (i_1 + (1 : Int))) (
  r30 (i_1 + (1 : Int)) number_2 row_1 out out_1 out_2 out_3 (out_4 ++ ([next'_1])) (out_5 ++ ([ix y'.2.2.2.2.2.1 (ix row i_1)])) (out_6 ++ ([ix y'.2.2.2.2.2.2.1 (ix row i_1)]))))))))
noncomputable def r16_Least_L35_F (y' : Tp5) (next' : Tp8) (i_1 : Int) (row : Tp8) (out : Int) (out_1 : Int) (out_2 : Int) (out_3 : Tp8) (out_4 : Tp7) (out_5 : Tp6) (out_6 : Tp7) (r30 : (Int → Tp8 → Tp8 → Int → Int → Int → Tp8 → Tp7 → Tp6 → Tp7 → Option Tp5)) : (Int × Tp8 × Tp8 × Tp8 → Option Tp5) → Int × Tp8 × Tp8 × Tp8 → Option Tp5 :=
  fun rec x => r16_Least_L35_B y' next' i_1 row out out_1 out_2 out_3 out_4 out_5 out_6 r30 (fun a number_2 row_1 next'_1 => rec (a, number_2, row_1, next'_1)) x.1 x.2.1 x.2.2.1 x.2.2.2
noncomputable def r16_Least_L35 (y' : Tp5) (next' : Tp8) (i_1 : Int) (row : Tp8) (out : Int) (out_1 : Int) (out_2 : Int) (out_3 : Tp8) (out_4 : Tp7) (out_5 : Tp6) (out_6 : Tp7) (r30 : (Int → Tp8 → Tp8 → Int → Int → Int → Tp8 → Tp7 → Tp6 → Tp7 → Option Tp5)) (a : Int) (number_2 : Tp8) (row_1 : Tp8) (next'_1 : Tp8) : Option Tp5 := LFix (r16_Least_L35_F y' next' i_1 row out out_1 out_2 out_3 out_4 out_5 out_6 r30 ) (a, number_2, row_1, next'_1)
noncomputable def r16_Least_L30_B (y' : Tp5) (next' : Tp8) (r30 : Tf2) (i_1 : Int) (number_1 : Tp8) (row : Tp8) (out : Int) (out_1 : Int) (out_2 : Int) (out_3 : Tp8) (out_4 : Tp7) (out_5 : Tp6) (out_6 : Tp7) : Option Tp5 :=
  if (decide (i_1 < (row.length : Int))) = true then
  G (0 ≤ i_1 ∧ i_1 < (row.length : Int)) (
  G ((i_1).toNat < row.length) (
  r16_Least_L35 y' next' i_1 row out out_1 out_2 out_3 out_4 out_5 out_6 r30 (0 : Int) number_1 row ([]))) else
  some (out, (out_1, (out_2, (out_3, (out_4, (out_5, (out_6, ())))))))
noncomputable def r16_Least_L30_F (y' : Tp5) (next' : Tp8) : (Int × Tp8 × Tp8 × Int × Int × Int × Tp8 × Tp7 × Tp6 × Tp7 → Option Tp5) → Int × Tp8 × Tp8 × Int × Int × Int × Tp8 × Tp7 × Tp6 × Tp7 → Option Tp5 :=
  fun rec x => r16_Least_L30_B y' next' (fun i_1 number_1 row out out_1 out_2 out_3 out_4 out_5 out_6 => rec (i_1, number_1, row, out, out_1, out_2, out_3, out_4, out_5, out_6)) x.1 x.2.1 x.2.2.1 x.2.2.2.1 x.2.2.2.2.1 x.2.2.2.2.2.1 x.2.2.2.2.2.2.1 x.2.2.2.2.2.2.2.1 x.2.2.2.2.2.2.2.2.1 x.2.2.2.2.2.2.2.2.2
noncomputable def r16_Least_L30 (y' : Tp5) (next' : Tp8) (i_1 : Int) (number_1 : Tp8) (row : Tp8) (out : Int) (out_1 : Int) (out_2 : Int) (out_3 : Tp8) (out_4 : Tp7) (out_5 : Tp6) (out_6 : Tp7) : Option Tp5 := LFix (r16_Least_L30_F y' next' ) (i_1, number_1, row, out, out_1, out_2, out_3, out_4, out_5, out_6)
noncomputable def r16_Least_L23_B (y' : Tp5) (next' : Tp8) (r23 : Int → Tp8 → Option Tp5) (i : Int) (number : Tp8) : Option Tp5 :=
  if (decide (i < (y'.2.2.2.2.1.length : Int))) = true then
  G (0 ≤ i ∧ i < (number.length : Int)) (
  G ((i).toNat < number.length) (
  G (fits (i + (1 : Int))) (
  r23 (i + (1 : Int)) (number.set (i).toNat (-1 : Int))))) else
  G (0 ≤ y'.2.2.1 ∧ y'.2.2.1 < (next'.length : Int)) (
  G ((y'.2.2.1).toNat < next'.length) (
  G (0 ≤ ix next' y'.2.2.1 ∧ ix next' y'.2.2.1 < (number.length : Int)) (
  G ((ix next' y'.2.2.1).toNat < number.length) (
  r16_Least_L30 y' next' (0 : Int) (number.set (ix next' y'.2.2.1).toNat (0 : Int)) ([y'.2.2.1]) y'.1 y'.2.1 (0 : Int) y'.2.2.2.1 ([] : List Tp8) ([] : List Tp7) ([] : List Tp8)))))
noncomputable def r16_Least_L23_F (y' : Tp5) (next' : Tp8) : (Int × Tp8 → Option Tp5) → Int × Tp8 → Option Tp5 :=
  fun rec x => r16_Least_L23_B y' next' (fun i number => rec (i, number)) x.1 x.2
noncomputable def r16_Least_L23 (y' : Tp5) (next' : Tp8) (i : Int) (number : Tp8) : Option Tp5 := LFix (r16_Least_L23_F y' next' ) (i, number)
noncomputable def r16_Least_L8_B (y' : Tp5) (count : Int) (class' : Tp8) (r5 : (Int → Tp8 → Option Tp5)) (r8 : Int → Tp8 → Tp8 → Option Tp5) (q : Int) (next' : Tp8) (firsts : Tp8) : Option Tp5 :=
  if (decide (q < (y'.2.2.2.2.1.length : Int))) = true then
  r16_Least_L11 y' class' q next' firsts r8 (0 : Int) else
  if (decide ((firsts.length : Int) = count)) = true then
  G (mkOK (y'.2.2.2.2.1.length : Int) (y'.2.2.2.2.1.length : Int) 8) (
  r16_Least_L23 y' next' (0 : Int) (List.replicate ((y'.2.2.2.2.1.length : Int)).toNat (0 : Int))) else
  r5 (firsts.length : Int) next'
noncomputable def r16_Least_L8_F (y' : Tp5) (count : Int) (class' : Tp8) (r5 : (Int → Tp8 → Option Tp5)) : (Int × Tp8 × Tp8 → Option Tp5) → Int × Tp8 × Tp8 → Option Tp5 :=
  fun rec x => r16_Least_L8_B y' count class' r5 (fun q next' firsts => rec (q, next', firsts)) x.1 x.2.1 x.2.2
noncomputable def r16_Least_L8 (y' : Tp5) (count : Int) (class' : Tp8) (r5 : (Int → Tp8 → Option Tp5)) (q : Int) (next' : Tp8) (firsts : Tp8) : Option Tp5 := LFix (r16_Least_L8_F y' count class' r5 ) (q, next', firsts)
noncomputable def r16_Least_L5_B (y' : Tp5) (r5 : Int → Tp8 → Option Tp5) (count : Int) (class' : Tp8) : Option Tp5 :=
  G (mkOK (y'.2.2.2.2.1.length : Int) (y'.2.2.2.2.1.length : Int) 8) (
  r16_Least_L8 y' count class' r5 (0 : Int) (List.replicate ((y'.2.2.2.2.1.length : Int)).toNat (0 : Int)) ([]))
noncomputable def r16_Least_L5_F (y' : Tp5) : (Int × Tp8 → Option Tp5) → Int × Tp8 → Option Tp5 :=
  fun rec x => r16_Least_L5_B y' (fun count class' => rec (count, class')) x.1 x.2
noncomputable def r16_Least_L5 (y' : Tp5) (count : Int) (class' : Tp8) : Option Tp5 := LFix (r16_Least_L5_F y' ) (count, class')
noncomputable def r16_Least (t : Tp5) : Option Tp5 :=
  (r16_Pushed (t.1, (t.2.1, (t.2.2.1, (t.2.2.2.1, (t.2.2.2.2.1, (t.2.2.2.2.2.1, (t.2.2.2.2.2.2.1, ())))))))).bind (fun y' =>
  G (mkOK (y'.2.2.2.2.1.length : Int) (y'.2.2.2.2.1.length : Int) 8) (
  r16_Least_L5 y' (0 : Int) (List.replicate ((y'.2.2.2.2.1.length : Int)).toNat (0 : Int))))
theorem r16_Least_J16_ch (r8 : Nat → Int → Tp8 → Tp8 → Option Tp5) (r8' : Int → Tp8 → Tp8 → Option Tp5) (h_r8 : ∀ a0 a1 a2, ChO (fun κ => r8 κ a0 a1 a2) (r8' a0 a1 a2)) (q : Int) (next' : Tp8) (k_1 : Int) (firsts_1 : Tp8) : ChO (fun κ => r16_Least_J16 q next' (r8 κ) k_1 firsts_1) (r16_Least_J16 q next' r8' k_1 firsts_1) := by
  unfold r16_Least_J16
  repeat' with_reducible first | exact ChO.const _ | exact h_r8 _ _ _ | apply ChO.ite | apply ChO.G | apply ChO.both | (apply ChO.bind; intro _)
theorem r16_Least_J14_ch (r8 : Nat → Int → Tp8 → Tp8 → Option Tp5) (r8' : Int → Tp8 → Tp8 → Option Tp5) (h_r8 : ∀ a0 a1 a2, ChO (fun κ => r8 κ a0 a1 a2) (r8' a0 a1 a2)) (q : Int) (next' : Tp8) (firsts : Tp8) (k_1 : Int) : ChO (fun κ => r16_Least_J14 q next' firsts (r8 κ) k_1) (r16_Least_J14 q next' firsts r8' k_1) := by
  unfold r16_Least_J14
  repeat' with_reducible first | exact ChO.const _ | exact h_r8 _ _ _ | (apply r16_Least_J16_ch <;> assumption) | apply ChO.ite | apply ChO.G | apply ChO.both | (apply ChO.bind; intro _)
theorem r16_Least_L11_B_ch (r8 : Nat → Int → Tp8 → Tp8 → Option Tp5) (r8' : Int → Tp8 → Tp8 → Option Tp5) (h_r8 : ∀ a0 a1 a2, ChO (fun κ => r8 κ a0 a1 a2) (r8' a0 a1 a2)) (r11 : Nat → Int → Option Tp5) (r11' : Int → Option Tp5) (h_r11 : ∀ a0, ChO (fun κ => r11 κ a0) (r11' a0)) (y' : Tp5) (class' : Tp8) (q : Int) (next' : Tp8) (firsts : Tp8) (k : Int) : ChO (fun κ => r16_Least_L11_B y' class' q next' firsts (r8 κ) (r11 κ) k) (r16_Least_L11_B y' class' q next' firsts r8' r11' k) := by
  unfold r16_Least_L11_B
  repeat' with_reducible first | exact ChO.const _ | exact h_r8 _ _ _ | exact h_r11 _ | (apply r16_Least_J16_ch <;> assumption) | (apply r16_Least_J14_ch <;> assumption) | apply ChO.ite | apply ChO.G | apply ChO.both | (apply ChO.bind; intro _)
theorem r16_Least_L11_cn (r8 : Int → Tp8 → Tp8 → Option Tp5) (y' : Tp5) (class' : Tp8) (q : Int) (next' : Tp8) (firsts : Tp8) : Cn (r16_Least_L11_F y' class' q next' firsts r8) := fun g h hg x => r16_Least_L11_B_ch (fun _ => r8) r8 (fun _ _ _ => ChO.const _) (fun κ k => g κ k) (fun k => h k) (fun k => hg k) y' class' q next' firsts x
theorem r16_Least_L11_eq (r8 : Int → Tp8 → Tp8 → Option Tp5) (y' : Tp5) (class' : Tp8) (q : Int) (next' : Tp8) (firsts : Tp8) (k : Int) : r16_Least_L11 y' class' q next' firsts r8 k = r16_Least_L11_B y' class' q next' firsts r8 (r16_Least_L11 y' class' q next' firsts r8) k := LFix_eq (r16_Least_L11_cn r8 y' class' q next' firsts) k
theorem r16_Least_L11_ch (r8 : Nat → Int → Tp8 → Tp8 → Option Tp5) (r8' : Int → Tp8 → Tp8 → Option Tp5) (h_r8 : ∀ a0 a1 a2, ChO (fun κ => r8 κ a0 a1 a2) (r8' a0 a1 a2)) (y' : Tp5) (class' : Tp8) (q : Int) (next' : Tp8) (firsts : Tp8) (k : Int) : ChO (fun κ => r16_Least_L11 y' class' q next' firsts (r8 κ) k) (r16_Least_L11 y' class' q next' firsts r8' k) := by
  unfold r16_Least_L11
  exact LFix_ch (fun κ => (r16_Least_L11_cn (r8 κ) y' class' q next' firsts).mono) (r16_Least_L11_cn r8' y' class' q next' firsts).mono (fun g h hg x => r16_Least_L11_B_ch r8 r8' h_r8 (fun κ k => g κ k) (fun k => h k) (fun k => hg k) y' class' q next' firsts x) _
theorem r16_Least_J40_ch (r35 : Nat → Tf11) (r35' : Tf11) (h_r35 : ∀ a0 a1 a2 a3, ChO (fun κ => r35 κ a0 a1 a2 a3) (r35' a0 a1 a2 a3)) (y' : Tp5) (next' : Tp8) (i_1 : Int) (row : Tp8) (a : Int) (next'_1 : Tp8) (number_3 : Tp8) (row_2 : Tp8) : ChO (fun κ => r16_Least_J40 y' next' i_1 row a next'_1 (r35 κ) number_3 row_2) (r16_Least_J40 y' next' i_1 row a next'_1 r35' number_3 row_2) := by
  unfold r16_Least_J40
  repeat' with_reducible first | exact ChO.const _ | exact h_r35 _ _ _ _ | (apply r16_Least_J16_ch <;> assumption) | (apply r16_Least_J14_ch <;> assumption) | (apply r16_Least_L11_ch <;> assumption) | apply ChO.ite | apply ChO.G | apply ChO.both | (apply ChO.bind; intro _)
theorem r16_Least_L35_B_ch (r30 : Nat → Tf2) (r30' : Tf2) (h_r30 : ∀ a0 a1 a2 a3 a4 a5 a6 a7 a8 a9, ChO (fun κ => r30 κ a0 a1 a2 a3 a4 a5 a6 a7 a8 a9) (r30' a0 a1 a2 a3 a4 a5 a6 a7 a8 a9)) (r35 : Nat → Tf11) (r35' : Tf11) (h_r35 : ∀ a0 a1 a2 a3, ChO (fun κ => r35 κ a0 a1 a2 a3) (r35' a0 a1 a2 a3)) (y' : Tp5) (next' : Tp8) (i_1 : Int) (row : Tp8) (out : Int) (out_1 : Int) (out_2 : Int) (out_3 : Tp8) (out_4 : Tp7) (out_5 : Tp6) (out_6 : Tp7) (a : Int) (number_2 : Tp8) (row_1 : Tp8) (next'_1 : Tp8) : ChO (fun κ => r16_Least_L35_B y' next' i_1 row out out_1 out_2 out_3 out_4 out_5 out_6 (r30 κ) (r35 κ) a number_2 row_1 next'_1) (r16_Least_L35_B y' next' i_1 row out out_1 out_2 out_3 out_4 out_5 out_6 r30' r35' a number_2 row_1 next'_1) := by
  unfold r16_Least_L35_B
  repeat' with_reducible first | exact ChO.const _ | exact h_r30 _ _ _ _ _ _ _ _ _ _ | exact h_r35 _ _ _ _ | (apply r16_Least_J16_ch <;> assumption) | (apply r16_Least_J14_ch <;> assumption) | (apply r16_Least_L11_ch <;> assumption) | (apply r16_Least_J40_ch <;> assumption) | apply ChO.ite | apply ChO.G | apply ChO.both | (apply ChO.bind; intro _)
theorem r16_Least_L35_cn (r30 : Tf2) (y' : Tp5) (next' : Tp8) (i_1 : Int) (row : Tp8) (out : Int) (out_1 : Int) (out_2 : Int) (out_3 : Tp8) (out_4 : Tp7) (out_5 : Tp6) (out_6 : Tp7) : Cn (r16_Least_L35_F y' next' i_1 row out out_1 out_2 out_3 out_4 out_5 out_6 r30) := fun g h hg x => r16_Least_L35_B_ch (fun _ => r30) r30 (fun _ _ _ _ _ _ _ _ _ _ => ChO.const _) (fun κ a number_2 row_1 next'_1 => g κ (a, number_2, row_1, next'_1)) (fun a number_2 row_1 next'_1 => h (a, number_2, row_1, next'_1)) (fun a number_2 row_1 next'_1 => hg (a, number_2, row_1, next'_1)) y' next' i_1 row out out_1 out_2 out_3 out_4 out_5 out_6 x.1 x.2.1 x.2.2.1 x.2.2.2
theorem r16_Least_L35_eq (r30 : Tf2) (y' : Tp5) (next' : Tp8) (i_1 : Int) (row : Tp8) (out : Int) (out_1 : Int) (out_2 : Int) (out_3 : Tp8) (out_4 : Tp7) (out_5 : Tp6) (out_6 : Tp7) (a : Int) (number_2 : Tp8) (row_1 : Tp8) (next'_1 : Tp8) : r16_Least_L35 y' next' i_1 row out out_1 out_2 out_3 out_4 out_5 out_6 r30 a number_2 row_1 next'_1 = r16_Least_L35_B y' next' i_1 row out out_1 out_2 out_3 out_4 out_5 out_6 r30 (r16_Least_L35 y' next' i_1 row out out_1 out_2 out_3 out_4 out_5 out_6 r30) a number_2 row_1 next'_1 := LFix_eq (r16_Least_L35_cn r30 y' next' i_1 row out out_1 out_2 out_3 out_4 out_5 out_6) (a, number_2, row_1, next'_1)
theorem r16_Least_L35_ch (r30 : Nat → Tf2) (r30' : Tf2) (h_r30 : ∀ a0 a1 a2 a3 a4 a5 a6 a7 a8 a9, ChO (fun κ => r30 κ a0 a1 a2 a3 a4 a5 a6 a7 a8 a9) (r30' a0 a1 a2 a3 a4 a5 a6 a7 a8 a9)) (y' : Tp5) (next' : Tp8) (i_1 : Int) (row : Tp8) (out : Int) (out_1 : Int) (out_2 : Int) (out_3 : Tp8) (out_4 : Tp7) (out_5 : Tp6) (out_6 : Tp7) (a : Int) (number_2 : Tp8) (row_1 : Tp8) (next'_1 : Tp8) : ChO (fun κ => r16_Least_L35 y' next' i_1 row out out_1 out_2 out_3 out_4 out_5 out_6 (r30 κ) a number_2 row_1 next'_1) (r16_Least_L35 y' next' i_1 row out out_1 out_2 out_3 out_4 out_5 out_6 r30' a number_2 row_1 next'_1) := by
  unfold r16_Least_L35
  exact LFix_ch (fun κ => (r16_Least_L35_cn (r30 κ) y' next' i_1 row out out_1 out_2 out_3 out_4 out_5 out_6).mono) (r16_Least_L35_cn r30' y' next' i_1 row out out_1 out_2 out_3 out_4 out_5 out_6).mono (fun g h hg x => r16_Least_L35_B_ch r30 r30' h_r30 (fun κ a number_2 row_1 next'_1 => g κ (a, number_2, row_1, next'_1)) (fun a number_2 row_1 next'_1 => h (a, number_2, row_1, next'_1)) (fun a number_2 row_1 next'_1 => hg (a, number_2, row_1, next'_1)) y' next' i_1 row out out_1 out_2 out_3 out_4 out_5 out_6 x.1 x.2.1 x.2.2.1 x.2.2.2) _
theorem r16_Least_L30_B_ch (r30 : Nat → Tf2) (r30' : Tf2) (h_r30 : ∀ a0 a1 a2 a3 a4 a5 a6 a7 a8 a9, ChO (fun κ => r30 κ a0 a1 a2 a3 a4 a5 a6 a7 a8 a9) (r30' a0 a1 a2 a3 a4 a5 a6 a7 a8 a9)) (y' : Tp5) (next' : Tp8) (i_1 : Int) (number_1 : Tp8) (row : Tp8) (out : Int) (out_1 : Int) (out_2 : Int) (out_3 : Tp8) (out_4 : Tp7) (out_5 : Tp6) (out_6 : Tp7) : ChO (fun κ => r16_Least_L30_B y' next' (r30 κ) i_1 number_1 row out out_1 out_2 out_3 out_4 out_5 out_6) (r16_Least_L30_B y' next' r30' i_1 number_1 row out out_1 out_2 out_3 out_4 out_5 out_6) := by
  unfold r16_Least_L30_B
  repeat' with_reducible first | exact ChO.const _ | exact h_r30 _ _ _ _ _ _ _ _ _ _ | (apply r16_Least_J16_ch <;> assumption) | (apply r16_Least_J14_ch <;> assumption) | (apply r16_Least_L11_ch <;> assumption) | (apply r16_Least_J40_ch <;> assumption) | (apply r16_Least_L35_ch <;> assumption) | apply ChO.ite | apply ChO.G | apply ChO.both | (apply ChO.bind; intro _)
theorem r16_Least_L30_cn  (y' : Tp5) (next' : Tp8) : Cn (r16_Least_L30_F y' next') := fun g h hg x => r16_Least_L30_B_ch  (fun κ i_1 number_1 row out out_1 out_2 out_3 out_4 out_5 out_6 => g κ (i_1, number_1, row, out, out_1, out_2, out_3, out_4, out_5, out_6)) (fun i_1 number_1 row out out_1 out_2 out_3 out_4 out_5 out_6 => h (i_1, number_1, row, out, out_1, out_2, out_3, out_4, out_5, out_6)) (fun i_1 number_1 row out out_1 out_2 out_3 out_4 out_5 out_6 => hg (i_1, number_1, row, out, out_1, out_2, out_3, out_4, out_5, out_6)) y' next' x.1 x.2.1 x.2.2.1 x.2.2.2.1 x.2.2.2.2.1 x.2.2.2.2.2.1 x.2.2.2.2.2.2.1 x.2.2.2.2.2.2.2.1 x.2.2.2.2.2.2.2.2.1 x.2.2.2.2.2.2.2.2.2
theorem r16_Least_L30_eq  (y' : Tp5) (next' : Tp8) (i_1 : Int) (number_1 : Tp8) (row : Tp8) (out : Int) (out_1 : Int) (out_2 : Int) (out_3 : Tp8) (out_4 : Tp7) (out_5 : Tp6) (out_6 : Tp7) : r16_Least_L30 y' next' i_1 number_1 row out out_1 out_2 out_3 out_4 out_5 out_6 = r16_Least_L30_B y' next' (r16_Least_L30 y' next') i_1 number_1 row out out_1 out_2 out_3 out_4 out_5 out_6 := LFix_eq (r16_Least_L30_cn y' next') (i_1, number_1, row, out, out_1, out_2, out_3, out_4, out_5, out_6)
theorem r16_Least_L23_B_ch (r23 : Nat → Int → Tp8 → Option Tp5) (r23' : Int → Tp8 → Option Tp5) (h_r23 : ∀ a0 a1, ChO (fun κ => r23 κ a0 a1) (r23' a0 a1)) (y' : Tp5) (next' : Tp8) (i : Int) (number : Tp8) : ChO (fun κ => r16_Least_L23_B y' next' (r23 κ) i number) (r16_Least_L23_B y' next' r23' i number) := by
  unfold r16_Least_L23_B
  repeat' with_reducible first | exact ChO.const _ | exact h_r23 _ _ | (apply r16_Least_J16_ch <;> assumption) | (apply r16_Least_J14_ch <;> assumption) | (apply r16_Least_L11_ch <;> assumption) | (apply r16_Least_J40_ch <;> assumption) | (apply r16_Least_L35_ch <;> assumption) | apply ChO.ite | apply ChO.G | apply ChO.both | (apply ChO.bind; intro _)
theorem r16_Least_L23_cn  (y' : Tp5) (next' : Tp8) : Cn (r16_Least_L23_F y' next') := fun g h hg x => r16_Least_L23_B_ch  (fun κ i number => g κ (i, number)) (fun i number => h (i, number)) (fun i number => hg (i, number)) y' next' x.1 x.2
theorem r16_Least_L23_eq  (y' : Tp5) (next' : Tp8) (i : Int) (number : Tp8) : r16_Least_L23 y' next' i number = r16_Least_L23_B y' next' (r16_Least_L23 y' next') i number := LFix_eq (r16_Least_L23_cn y' next') (i, number)
theorem r16_Least_L8_B_ch (r5 : Nat → Int → Tp8 → Option Tp5) (r5' : Int → Tp8 → Option Tp5) (h_r5 : ∀ a0 a1, ChO (fun κ => r5 κ a0 a1) (r5' a0 a1)) (r8 : Nat → Int → Tp8 → Tp8 → Option Tp5) (r8' : Int → Tp8 → Tp8 → Option Tp5) (h_r8 : ∀ a0 a1 a2, ChO (fun κ => r8 κ a0 a1 a2) (r8' a0 a1 a2)) (y' : Tp5) (count : Int) (class' : Tp8) (q : Int) (next' : Tp8) (firsts : Tp8) : ChO (fun κ => r16_Least_L8_B y' count class' (r5 κ) (r8 κ) q next' firsts) (r16_Least_L8_B y' count class' r5' r8' q next' firsts) := by
  unfold r16_Least_L8_B
  repeat' with_reducible first | exact ChO.const _ | exact h_r5 _ _ | exact h_r8 _ _ _ | (apply r16_Least_J16_ch <;> assumption) | (apply r16_Least_J14_ch <;> assumption) | (apply r16_Least_L11_ch <;> assumption) | (apply r16_Least_J40_ch <;> assumption) | (apply r16_Least_L35_ch <;> assumption) | apply ChO.ite | apply ChO.G | apply ChO.both | (apply ChO.bind; intro _)
theorem r16_Least_L8_cn (r5 : Int → Tp8 → Option Tp5) (y' : Tp5) (count : Int) (class' : Tp8) : Cn (r16_Least_L8_F y' count class' r5) := fun g h hg x => r16_Least_L8_B_ch (fun _ => r5) r5 (fun _ _ => ChO.const _) (fun κ q next' firsts => g κ (q, next', firsts)) (fun q next' firsts => h (q, next', firsts)) (fun q next' firsts => hg (q, next', firsts)) y' count class' x.1 x.2.1 x.2.2
theorem r16_Least_L8_eq (r5 : Int → Tp8 → Option Tp5) (y' : Tp5) (count : Int) (class' : Tp8) (q : Int) (next' : Tp8) (firsts : Tp8) : r16_Least_L8 y' count class' r5 q next' firsts = r16_Least_L8_B y' count class' r5 (r16_Least_L8 y' count class' r5) q next' firsts := LFix_eq (r16_Least_L8_cn r5 y' count class') (q, next', firsts)
theorem r16_Least_L8_ch (r5 : Nat → Int → Tp8 → Option Tp5) (r5' : Int → Tp8 → Option Tp5) (h_r5 : ∀ a0 a1, ChO (fun κ => r5 κ a0 a1) (r5' a0 a1)) (y' : Tp5) (count : Int) (class' : Tp8) (q : Int) (next' : Tp8) (firsts : Tp8) : ChO (fun κ => r16_Least_L8 y' count class' (r5 κ) q next' firsts) (r16_Least_L8 y' count class' r5' q next' firsts) := by
  unfold r16_Least_L8
  exact LFix_ch (fun κ => (r16_Least_L8_cn (r5 κ) y' count class').mono) (r16_Least_L8_cn r5' y' count class').mono (fun g h hg x => r16_Least_L8_B_ch r5 r5' h_r5 (fun κ q next' firsts => g κ (q, next', firsts)) (fun q next' firsts => h (q, next', firsts)) (fun q next' firsts => hg (q, next', firsts)) y' count class' x.1 x.2.1 x.2.2) _
theorem r16_Least_L5_B_ch (r5 : Nat → Int → Tp8 → Option Tp5) (r5' : Int → Tp8 → Option Tp5) (h_r5 : ∀ a0 a1, ChO (fun κ => r5 κ a0 a1) (r5' a0 a1)) (y' : Tp5) (count : Int) (class' : Tp8) : ChO (fun κ => r16_Least_L5_B y' (r5 κ) count class') (r16_Least_L5_B y' r5' count class') := by
  unfold r16_Least_L5_B
  repeat' with_reducible first | exact ChO.const _ | exact h_r5 _ _ | (apply r16_Least_J16_ch <;> assumption) | (apply r16_Least_J14_ch <;> assumption) | (apply r16_Least_L11_ch <;> assumption) | (apply r16_Least_J40_ch <;> assumption) | (apply r16_Least_L35_ch <;> assumption) | (apply r16_Least_L8_ch <;> assumption) | apply ChO.ite | apply ChO.G | apply ChO.both | (apply ChO.bind; intro _)
theorem r16_Least_L5_cn  (y' : Tp5) : Cn (r16_Least_L5_F y') := fun g h hg x => r16_Least_L5_B_ch  (fun κ count class' => g κ (count, class')) (fun count class' => h (count, class')) (fun count class' => hg (count, class')) y' x.1 x.2
theorem r16_Least_L5_eq  (y' : Tp5) (count : Int) (class' : Tp8) : r16_Least_L5 y' count class' = r16_Least_L5_B y' (r16_Least_L5 y') count class' := LFix_eq (r16_Least_L5_cn y') (count, class')

noncomputable def r16_Behind_L16_B (t : Tp5) (u : Tp5) (p : Int) (r : Int) (out_6 : Int) (out_7 : Int) (out_8 : Int) (l_1 : Tp8) (l_2 : Tp7) (l_3 : Tp6) (l_4 : Tp7) (r11 : (Int → Int → Int → Int → Tp8 → Tp7 → Tp6 → Tp7 → Option Tp5)) (r16 : Int → Tp8 → Tp7 → Option Tp5) (a : Int) (next' : Tp8) (row : Tp7) : Option Tp5 :=
  if (decide (a < t.1)) = true then
  G (0 ≤ p ∧ p < (t.2.2.2.2.2.1.length : Int)) (
  G (0 ≤ a ∧ a < ((ix t.2.2.2.2.2.1 p).length : Int)) (
  (r16_from (u.1, (u.2.1, (u.2.2.1, (u.2.2.2.1, (u.2.2.2.2.1, (u.2.2.2.2.2.1, (u.2.2.2.2.2.2.1, ()))))))) r (ix (ix t.2.2.2.2.2.1 p) a)).bind (fun y'_6 =>
  G (0 ≤ p ∧ p < (t.2.2.2.2.1.length : Int)) (
  G (0 ≤ a ∧ a < ((ix t.2.2.2.2.1 p).length : Int)) (
  G (fits ((ix (ix t.2.2.2.2.1 p) a) * (u.2.2.2.2.1.length : Int))) (
  G (fits (((ix (ix t.2.2.2.2.1 p) a) * (u.2.2.2.2.1.length : Int)) + y'_6.1)) (
  G (room next' ([((ix (ix t.2.2.2.2.1 p) a) * (u.2.2.2.2.1.length : Int)) + y'_6.1]) 8) (
  G (room row ([y'_6.2]) 24) (
  G (fits (a + (1 : Int))) (
  r16 (a + (1 : Int)) (next' ++ ([((ix (ix t.2.2.2.2.1 p) a) * (u.2.2.2.2.1.length : Int)) + y'_6.1])) (row ++ ([y'_6.2])))))))))))) else
  G (0 ≤ p ∧ p < (t.2.2.2.2.2.2.1.length : Int)) (
  (r16_from (u.1, (u.2.1, (u.2.2.1, (u.2.2.2.1, (u.2.2.2.2.1, (u.2.2.2.2.2.1, (u.2.2.2.2.2.2.1, ()))))))) r (ix t.2.2.2.2.2.2.1 p)).bind (fun y'_10 =>
  G (0 ≤ y'_10.1 ∧ y'_10.1 < (u.2.2.2.2.2.2.1.length : Int)) (
  G (room y'_10.2 (ix u.2.2.2.2.2.2.1 y'_10.1) 8) (
  G (room l_2 ([next']) 24) (
  G (room l_3 ([row]) 24) (
  G (room l_4 ([y'_10.2 ++ (ix u.2.2.2.2.2.2.1 y'_10.1)]) 24) (
  G (fits (r + (1 : Int))) (
  r11 (r + (1 : Int)) out_6 out_7 out_8 l_1 (l_2 ++ ([next'])) (l_3 ++ ([row])) (l_4 ++ ([y'_10.2 ++ (ix u.2.2.2.2.2.2.1 y'_10.1)]))))))))))
noncomputable def r16_Behind_L16_F (t : Tp5) (u : Tp5) (p : Int) (r : Int) (out_6 : Int) (out_7 : Int) (out_8 : Int) (l_1 : Tp8) (l_2 : Tp7) (l_3 : Tp6) (l_4 : Tp7) (r11 : (Int → Int → Int → Int → Tp8 → Tp7 → Tp6 → Tp7 → Option Tp5)) : (Int × Tp8 × Tp7 → Option Tp5) → Int × Tp8 × Tp7 → Option Tp5 :=
  fun rec x => r16_Behind_L16_B t u p r out_6 out_7 out_8 l_1 l_2 l_3 l_4 r11 (fun a next' row => rec (a, next', row)) x.1 x.2.1 x.2.2
noncomputable def r16_Behind_L16 (t : Tp5) (u : Tp5) (p : Int) (r : Int) (out_6 : Int) (out_7 : Int) (out_8 : Int) (l_1 : Tp8) (l_2 : Tp7) (l_3 : Tp6) (l_4 : Tp7) (r11 : (Int → Int → Int → Int → Tp8 → Tp7 → Tp6 → Tp7 → Option Tp5)) (a : Int) (next' : Tp8) (row : Tp7) : Option Tp5 := LFix (r16_Behind_L16_F t u p r out_6 out_7 out_8 l_1 l_2 l_3 l_4 r11 ) (a, next', row)
noncomputable def r16_Behind_L11_B (t : Tp5) (u : Tp5) (p : Int) (r8 : (Int → Int → Int → Int → Tp8 → Tp7 → Tp6 → Tp7 → Option Tp5)) (r11 : Tf4) (r : Int) (out_6 : Int) (out_7 : Int) (out_8 : Int) (l_1 : Tp8) (l_2 : Tp7) (l_3 : Tp6) (l_4 : Tp7) : Option Tp5 :=
  if (decide (r < (u.2.2.2.2.1.length : Int))) = true then
  r16_Behind_L16 t u p r out_6 out_7 out_8 l_1 l_2 l_3 l_4 r11 (0 : Int) ([]) ([]) else
  G (fits (p + (1 : Int))) (
  r8 (p + (1 : Int)) out_6 out_7 out_8 l_1 l_2 l_3 l_4)
noncomputable def r16_Behind_L11_F (t : Tp5) (u : Tp5) (p : Int) (r8 : (Int → Int → Int → Int → Tp8 → Tp7 → Tp6 → Tp7 → Option Tp5)) : (Int × Int × Int × Int × Tp8 × Tp7 × Tp6 × Tp7 → Option Tp5) → Int × Int × Int × Int × Tp8 × Tp7 × Tp6 × Tp7 → Option Tp5 :=
  fun rec x => r16_Behind_L11_B t u p r8 (fun r out_6 out_7 out_8 l_1 l_2 l_3 l_4 => rec (r, out_6, out_7, out_8, l_1, l_2, l_3, l_4)) x.1 x.2.1 x.2.2.1 x.2.2.2.1 x.2.2.2.2.1 x.2.2.2.2.2.1 x.2.2.2.2.2.2.1 x.2.2.2.2.2.2.2
noncomputable def r16_Behind_L11 (t : Tp5) (u : Tp5) (p : Int) (r8 : (Int → Int → Int → Int → Tp8 → Tp7 → Tp6 → Tp7 → Option Tp5)) (r : Int) (out_6 : Int) (out_7 : Int) (out_8 : Int) (l_1 : Tp8) (l_2 : Tp7) (l_3 : Tp6) (l_4 : Tp7) : Option Tp5 := LFix (r16_Behind_L11_F t u p r8 ) (r, out_6, out_7, out_8, l_1, l_2, l_3, l_4)
noncomputable def r16_Behind_L8_B (t : Tp5) (u : Tp5) (r8 : Tf4) (p : Int) (out : Int) (out_1 : Int) (out_2 : Int) (l : Tp8) (out_3 : Tp7) (out_4 : Tp6) (out_5 : Tp7) : Option Tp5 :=
  if (decide (p < (t.2.2.2.2.1.length : Int))) = true then
  r16_Behind_L11 t u p r8 (0 : Int) out out_1 out_2 l out_3 out_4 out_5 else
  (r16_Least (out, (out_1, (out_2, (l, (out_3, (out_4, (out_5, ())))))))).bind (fun y'_11 =>
  some (y'_11.1, (y'_11.2.1, (y'_11.2.2.1, (y'_11.2.2.2.1, (y'_11.2.2.2.2.1, (y'_11.2.2.2.2.2.1, (y'_11.2.2.2.2.2.2.1, ()))))))))
noncomputable def r16_Behind_L8_F (t : Tp5) (u : Tp5) : (Int × Int × Int × Int × Tp8 × Tp7 × Tp6 × Tp7 → Option Tp5) → Int × Int × Int × Int × Tp8 × Tp7 × Tp6 × Tp7 → Option Tp5 :=
  fun rec x => r16_Behind_L8_B t u (fun p out out_1 out_2 l out_3 out_4 out_5 => rec (p, out, out_1, out_2, l, out_3, out_4, out_5)) x.1 x.2.1 x.2.2.1 x.2.2.2.1 x.2.2.2.2.1 x.2.2.2.2.2.1 x.2.2.2.2.2.2.1 x.2.2.2.2.2.2.2
noncomputable def r16_Behind_L8 (t : Tp5) (u : Tp5) (p : Int) (out : Int) (out_1 : Int) (out_2 : Int) (l : Tp8) (out_3 : Tp7) (out_4 : Tp6) (out_5 : Tp7) : Option Tp5 := LFix (r16_Behind_L8_F t u ) (p, out, out_1, out_2, l, out_3, out_4, out_5)
noncomputable def r16_Behind (t : Tp5) (u : Tp5) : Option Tp5 :=
  (r16_from (u.1, (u.2.1, (u.2.2.1, (u.2.2.2.1, (u.2.2.2.2.1, (u.2.2.2.2.2.1, (u.2.2.2.2.2.2.1, ()))))))) u.2.2.1 t.2.2.2.1).bind (fun y'_12 =>
  G (room ([] : List Int) u.2.2.2.1 8) (
  G (room u.2.2.2.1 y'_12.2 8) (
  G (fits (t.2.2.1 * (u.2.2.2.2.1.length : Int))) (
  G (fits ((t.2.2.1 * (u.2.2.2.2.1.length : Int)) + y'_12.1)) (
  r16_Behind_L8 t u (0 : Int) t.1 u.2.1 ((t.2.2.1 * (u.2.2.2.2.1.length : Int)) + y'_12.1) (u.2.2.2.1 ++ y'_12.2) ([] : List Tp8) ([] : List Tp7) ([] : List Tp8))))))
theorem r16_Behind_L16_B_ch (r11 : Nat → Tf4) (r11' : Tf4) (h_r11 : ∀ a0 a1 a2 a3 a4 a5 a6 a7, ChO (fun κ => r11 κ a0 a1 a2 a3 a4 a5 a6 a7) (r11' a0 a1 a2 a3 a4 a5 a6 a7)) (r16 : Nat → Int → Tp8 → Tp7 → Option Tp5) (r16' : Int → Tp8 → Tp7 → Option Tp5) (h_r16 : ∀ a0 a1 a2, ChO (fun κ => r16 κ a0 a1 a2) (r16' a0 a1 a2)) (t : Tp5) (u : Tp5) (p : Int) (r : Int) (out_6 : Int) (out_7 : Int) (out_8 : Int) (l_1 : Tp8) (l_2 : Tp7) (l_3 : Tp6) (l_4 : Tp7) (a : Int) (next' : Tp8) (row : Tp7) : ChO (fun κ => r16_Behind_L16_B t u p r out_6 out_7 out_8 l_1 l_2 l_3 l_4 (r11 κ) (r16 κ) a next' row) (r16_Behind_L16_B t u p r out_6 out_7 out_8 l_1 l_2 l_3 l_4 r11' r16' a next' row) := by
  unfold r16_Behind_L16_B
  repeat' with_reducible first | exact ChO.const _ | exact h_r11 _ _ _ _ _ _ _ _ | exact h_r16 _ _ _ | apply ChO.ite | apply ChO.G | apply ChO.both | (apply ChO.bind; intro _)
theorem r16_Behind_L16_cn (r11 : Tf4) (t : Tp5) (u : Tp5) (p : Int) (r : Int) (out_6 : Int) (out_7 : Int) (out_8 : Int) (l_1 : Tp8) (l_2 : Tp7) (l_3 : Tp6) (l_4 : Tp7) : Cn (r16_Behind_L16_F t u p r out_6 out_7 out_8 l_1 l_2 l_3 l_4 r11) := fun g h hg x => r16_Behind_L16_B_ch (fun _ => r11) r11 (fun _ _ _ _ _ _ _ _ => ChO.const _) (fun κ a next' row => g κ (a, next', row)) (fun a next' row => h (a, next', row)) (fun a next' row => hg (a, next', row)) t u p r out_6 out_7 out_8 l_1 l_2 l_3 l_4 x.1 x.2.1 x.2.2
theorem r16_Behind_L16_eq (r11 : Tf4) (t : Tp5) (u : Tp5) (p : Int) (r : Int) (out_6 : Int) (out_7 : Int) (out_8 : Int) (l_1 : Tp8) (l_2 : Tp7) (l_3 : Tp6) (l_4 : Tp7) (a : Int) (next' : Tp8) (row : Tp7) : r16_Behind_L16 t u p r out_6 out_7 out_8 l_1 l_2 l_3 l_4 r11 a next' row = r16_Behind_L16_B t u p r out_6 out_7 out_8 l_1 l_2 l_3 l_4 r11 (r16_Behind_L16 t u p r out_6 out_7 out_8 l_1 l_2 l_3 l_4 r11) a next' row := LFix_eq (r16_Behind_L16_cn r11 t u p r out_6 out_7 out_8 l_1 l_2 l_3 l_4) (a, next', row)
theorem r16_Behind_L16_ch (r11 : Nat → Tf4) (r11' : Tf4) (h_r11 : ∀ a0 a1 a2 a3 a4 a5 a6 a7, ChO (fun κ => r11 κ a0 a1 a2 a3 a4 a5 a6 a7) (r11' a0 a1 a2 a3 a4 a5 a6 a7)) (t : Tp5) (u : Tp5) (p : Int) (r : Int) (out_6 : Int) (out_7 : Int) (out_8 : Int) (l_1 : Tp8) (l_2 : Tp7) (l_3 : Tp6) (l_4 : Tp7) (a : Int) (next' : Tp8) (row : Tp7) : ChO (fun κ => r16_Behind_L16 t u p r out_6 out_7 out_8 l_1 l_2 l_3 l_4 (r11 κ) a next' row) (r16_Behind_L16 t u p r out_6 out_7 out_8 l_1 l_2 l_3 l_4 r11' a next' row) := by
  unfold r16_Behind_L16
  exact LFix_ch (fun κ => (r16_Behind_L16_cn (r11 κ) t u p r out_6 out_7 out_8 l_1 l_2 l_3 l_4).mono) (r16_Behind_L16_cn r11' t u p r out_6 out_7 out_8 l_1 l_2 l_3 l_4).mono (fun g h hg x => r16_Behind_L16_B_ch r11 r11' h_r11 (fun κ a next' row => g κ (a, next', row)) (fun a next' row => h (a, next', row)) (fun a next' row => hg (a, next', row)) t u p r out_6 out_7 out_8 l_1 l_2 l_3 l_4 x.1 x.2.1 x.2.2) _
theorem r16_Behind_L11_B_ch (r8 : Nat → Tf4) (r8' : Tf4) (h_r8 : ∀ a0 a1 a2 a3 a4 a5 a6 a7, ChO (fun κ => r8 κ a0 a1 a2 a3 a4 a5 a6 a7) (r8' a0 a1 a2 a3 a4 a5 a6 a7)) (r11 : Nat → Tf4) (r11' : Tf4) (h_r11 : ∀ a0 a1 a2 a3 a4 a5 a6 a7, ChO (fun κ => r11 κ a0 a1 a2 a3 a4 a5 a6 a7) (r11' a0 a1 a2 a3 a4 a5 a6 a7)) (t : Tp5) (u : Tp5) (p : Int) (r : Int) (out_6 : Int) (out_7 : Int) (out_8 : Int) (l_1 : Tp8) (l_2 : Tp7) (l_3 : Tp6) (l_4 : Tp7) : ChO (fun κ => r16_Behind_L11_B t u p (r8 κ) (r11 κ) r out_6 out_7 out_8 l_1 l_2 l_3 l_4) (r16_Behind_L11_B t u p r8' r11' r out_6 out_7 out_8 l_1 l_2 l_3 l_4) := by
  unfold r16_Behind_L11_B
  repeat' with_reducible first | exact ChO.const _ | exact h_r8 _ _ _ _ _ _ _ _ | exact h_r11 _ _ _ _ _ _ _ _ | (apply r16_Behind_L16_ch <;> assumption) | apply ChO.ite | apply ChO.G | apply ChO.both | (apply ChO.bind; intro _)
theorem r16_Behind_L11_cn (r8 : Tf4) (t : Tp5) (u : Tp5) (p : Int) : Cn (r16_Behind_L11_F t u p r8) := fun g h hg x => r16_Behind_L11_B_ch (fun _ => r8) r8 (fun _ _ _ _ _ _ _ _ => ChO.const _) (fun κ r out_6 out_7 out_8 l_1 l_2 l_3 l_4 => g κ (r, out_6, out_7, out_8, l_1, l_2, l_3, l_4)) (fun r out_6 out_7 out_8 l_1 l_2 l_3 l_4 => h (r, out_6, out_7, out_8, l_1, l_2, l_3, l_4)) (fun r out_6 out_7 out_8 l_1 l_2 l_3 l_4 => hg (r, out_6, out_7, out_8, l_1, l_2, l_3, l_4)) t u p x.1 x.2.1 x.2.2.1 x.2.2.2.1 x.2.2.2.2.1 x.2.2.2.2.2.1 x.2.2.2.2.2.2.1 x.2.2.2.2.2.2.2
theorem r16_Behind_L11_eq (r8 : Tf4) (t : Tp5) (u : Tp5) (p : Int) (r : Int) (out_6 : Int) (out_7 : Int) (out_8 : Int) (l_1 : Tp8) (l_2 : Tp7) (l_3 : Tp6) (l_4 : Tp7) : r16_Behind_L11 t u p r8 r out_6 out_7 out_8 l_1 l_2 l_3 l_4 = r16_Behind_L11_B t u p r8 (r16_Behind_L11 t u p r8) r out_6 out_7 out_8 l_1 l_2 l_3 l_4 := LFix_eq (r16_Behind_L11_cn r8 t u p) (r, out_6, out_7, out_8, l_1, l_2, l_3, l_4)
theorem r16_Behind_L11_ch (r8 : Nat → Tf4) (r8' : Tf4) (h_r8 : ∀ a0 a1 a2 a3 a4 a5 a6 a7, ChO (fun κ => r8 κ a0 a1 a2 a3 a4 a5 a6 a7) (r8' a0 a1 a2 a3 a4 a5 a6 a7)) (t : Tp5) (u : Tp5) (p : Int) (r : Int) (out_6 : Int) (out_7 : Int) (out_8 : Int) (l_1 : Tp8) (l_2 : Tp7) (l_3 : Tp6) (l_4 : Tp7) : ChO (fun κ => r16_Behind_L11 t u p (r8 κ) r out_6 out_7 out_8 l_1 l_2 l_3 l_4) (r16_Behind_L11 t u p r8' r out_6 out_7 out_8 l_1 l_2 l_3 l_4) := by
  unfold r16_Behind_L11
  exact LFix_ch (fun κ => (r16_Behind_L11_cn (r8 κ) t u p).mono) (r16_Behind_L11_cn r8' t u p).mono (fun g h hg x => r16_Behind_L11_B_ch r8 r8' h_r8 (fun κ r out_6 out_7 out_8 l_1 l_2 l_3 l_4 => g κ (r, out_6, out_7, out_8, l_1, l_2, l_3, l_4)) (fun r out_6 out_7 out_8 l_1 l_2 l_3 l_4 => h (r, out_6, out_7, out_8, l_1, l_2, l_3, l_4)) (fun r out_6 out_7 out_8 l_1 l_2 l_3 l_4 => hg (r, out_6, out_7, out_8, l_1, l_2, l_3, l_4)) t u p x.1 x.2.1 x.2.2.1 x.2.2.2.1 x.2.2.2.2.1 x.2.2.2.2.2.1 x.2.2.2.2.2.2.1 x.2.2.2.2.2.2.2) _
theorem r16_Behind_L8_B_ch (r8 : Nat → Tf4) (r8' : Tf4) (h_r8 : ∀ a0 a1 a2 a3 a4 a5 a6 a7, ChO (fun κ => r8 κ a0 a1 a2 a3 a4 a5 a6 a7) (r8' a0 a1 a2 a3 a4 a5 a6 a7)) (t : Tp5) (u : Tp5) (p : Int) (out : Int) (out_1 : Int) (out_2 : Int) (l : Tp8) (out_3 : Tp7) (out_4 : Tp6) (out_5 : Tp7) : ChO (fun κ => r16_Behind_L8_B t u (r8 κ) p out out_1 out_2 l out_3 out_4 out_5) (r16_Behind_L8_B t u r8' p out out_1 out_2 l out_3 out_4 out_5) := by
  unfold r16_Behind_L8_B
  repeat' with_reducible first | exact ChO.const _ | exact h_r8 _ _ _ _ _ _ _ _ | (apply r16_Behind_L16_ch <;> assumption) | (apply r16_Behind_L11_ch <;> assumption) | apply ChO.ite | apply ChO.G | apply ChO.both | (apply ChO.bind; intro _)
theorem r16_Behind_L8_cn  (t : Tp5) (u : Tp5) : Cn (r16_Behind_L8_F t u) := fun g h hg x => r16_Behind_L8_B_ch  (fun κ p out out_1 out_2 l out_3 out_4 out_5 => g κ (p, out, out_1, out_2, l, out_3, out_4, out_5)) (fun p out out_1 out_2 l out_3 out_4 out_5 => h (p, out, out_1, out_2, l, out_3, out_4, out_5)) (fun p out out_1 out_2 l out_3 out_4 out_5 => hg (p, out, out_1, out_2, l, out_3, out_4, out_5)) t u x.1 x.2.1 x.2.2.1 x.2.2.2.1 x.2.2.2.2.1 x.2.2.2.2.2.1 x.2.2.2.2.2.2.1 x.2.2.2.2.2.2.2
theorem r16_Behind_L8_eq  (t : Tp5) (u : Tp5) (p : Int) (out : Int) (out_1 : Int) (out_2 : Int) (l : Tp8) (out_3 : Tp7) (out_4 : Tp6) (out_5 : Tp7) : r16_Behind_L8 t u p out out_1 out_2 l out_3 out_4 out_5 = r16_Behind_L8_B t u (r16_Behind_L8 t u) p out out_1 out_2 l out_3 out_4 out_5 := LFix_eq (r16_Behind_L8_cn t u) (p, out, out_1, out_2, l, out_3, out_4, out_5)

noncomputable def law_noTrans (t : Tp5) : Option (Bool) :=
  if (decide (t.1 = (0 : Int))) = true then
  if (decide (t.2.1 = (0 : Int))) = true then
  if (decide (t.2.2.1 = (0 : Int))) = true then
  G (fits ((t.2.2.2.1.length : Int) + (t.2.2.2.2.1.length : Int))) (
  G (fits (((t.2.2.2.1.length : Int) + (t.2.2.2.2.1.length : Int)) + (t.2.2.2.2.2.1.length : Int))) (
  G (fits ((((t.2.2.2.1.length : Int) + (t.2.2.2.2.1.length : Int)) + (t.2.2.2.2.2.1.length : Int)) + (t.2.2.2.2.2.2.1.length : Int))) (
  some (decide (((((t.2.2.2.1.length : Int) + (t.2.2.2.2.1.length : Int)) + (t.2.2.2.2.2.1.length : Int)) + (t.2.2.2.2.2.2.1.length : Int)) = (0 : Int)))))) else
  some false else
  some false else
  some false

noncomputable def r1_May_L6_B (letters : Int) (w : Tp8) (r6 : Int → Option (Int)) (i : Int) : Option (Int) :=
  if (decide (i < (w.length : Int))) = true then
  G (0 ≤ i ∧ i < (w.length : Int)) (
  if (decide ((ix w i) < (0 : Int))) = true then
  some (2 : Int) else
  G (0 ≤ i ∧ i < (w.length : Int)) (
  if (decide (letters ≤ (ix w i))) = true then
  some (2 : Int) else
  G (fits (i + (1 : Int))) (
  r6 (i + (1 : Int))))) else
  some (0 : Int)
noncomputable def r1_May_L6_F (letters : Int) (w : Tp8) : (Int → Option (Int)) → Int → Option (Int) :=
  fun rec x => r1_May_L6_B letters w (fun i => rec i) x
noncomputable def r1_May_L6 (letters : Int) (w : Tp8) (i : Int) : Option (Int) := LFix (r1_May_L6_F letters w ) i
noncomputable def r1_May (letters : Int) (w : Tp8) : Option (Int) :=
  if (decide (letters < (1 : Int))) = true then
  some (2 : Int) else
  if (decide ((4 : Int) < letters)) = true then
  some (2 : Int) else
  if (decide ((60 : Int) < (w.length : Int))) = true then
  some (1 : Int) else
  r1_May_L6 letters w (0 : Int)
theorem r1_May_L6_B_ch (r6 : Nat → Int → Option (Int)) (r6' : Int → Option (Int)) (h_r6 : ∀ a0, ChO (fun κ => r6 κ a0) (r6' a0)) (letters : Int) (w : Tp8) (i : Int) : ChO (fun κ => r1_May_L6_B letters w (r6 κ) i) (r1_May_L6_B letters w r6' i) := by
  unfold r1_May_L6_B
  repeat' with_reducible first | exact ChO.const _ | exact h_r6 _ | apply ChO.ite | apply ChO.G | apply ChO.both | (apply ChO.bind; intro _)
theorem r1_May_L6_cn  (letters : Int) (w : Tp8) : Cn (r1_May_L6_F letters w) := fun g h hg x => r1_May_L6_B_ch  (fun κ i => g κ i) (fun i => h i) (fun i => hg i) letters w x
theorem r1_May_L6_eq  (letters : Int) (w : Tp8) (i : Int) : r1_May_L6 letters w i = r1_May_L6_B letters w (r1_May_L6 letters w) i := LFix_eq (r1_May_L6_cn letters w) i

noncomputable def r16_Run_L4_B (t : Tp5) (w : Tp8) (r4 : Int → Int → Tp8 → Option Tp8) (q : Int) (i : Int) (out : Tp8) : Option Tp8 :=
  if (decide (i < (w.length : Int))) = true then
  G (0 ≤ q ∧ q < (t.2.2.2.2.2.1.length : Int)) (
  G (0 ≤ i ∧ i < (w.length : Int)) (
  G (0 ≤ ix w i ∧ ix w i < ((ix t.2.2.2.2.2.1 q).length : Int)) (
  G (room out (ix (ix t.2.2.2.2.2.1 q) (ix w i)) 8) (
  G (0 ≤ q ∧ q < (t.2.2.2.2.1.length : Int)) (
  G (0 ≤ i ∧ i < (w.length : Int)) (
  G (0 ≤ ix w i ∧ ix w i < ((ix t.2.2.2.2.1 q).length : Int)) (
  G (fits (i + (1 : Int))) (
  r4 (ix (ix t.2.2.2.2.1 q) (ix w i)) (i + (1 : Int)) (out ++ (ix (ix t.2.2.2.2.2.1 q) (ix w i))))))))))) else
  G (0 ≤ q ∧ q < (t.2.2.2.2.2.2.1.length : Int)) (
  G (room out (ix t.2.2.2.2.2.2.1 q) 8) (
  some (out ++ (ix t.2.2.2.2.2.2.1 q))))
noncomputable def r16_Run_L4_F (t : Tp5) (w : Tp8) : (Int × Int × Tp8 → Option Tp8) → Int × Int × Tp8 → Option Tp8 :=
  fun rec x => r16_Run_L4_B t w (fun q i out => rec (q, i, out)) x.1 x.2.1 x.2.2
noncomputable def r16_Run_L4 (t : Tp5) (w : Tp8) (q : Int) (i : Int) (out : Tp8) : Option Tp8 := LFix (r16_Run_L4_F t w ) (q, i, out)
noncomputable def r16_Run (t : Tp5) (w : Tp8) : Option Tp8 :=
  G (room ([] : List Int) t.2.2.2.1 8) (
  r16_Run_L4 t w t.2.2.1 (0 : Int) (([] : List Int) ++ t.2.2.2.1))
theorem r16_Run_L4_B_ch (r4 : Nat → Int → Int → Tp8 → Option Tp8) (r4' : Int → Int → Tp8 → Option Tp8) (h_r4 : ∀ a0 a1 a2, ChO (fun κ => r4 κ a0 a1 a2) (r4' a0 a1 a2)) (t : Tp5) (w : Tp8) (q : Int) (i : Int) (out : Tp8) : ChO (fun κ => r16_Run_L4_B t w (r4 κ) q i out) (r16_Run_L4_B t w r4' q i out) := by
  unfold r16_Run_L4_B
  repeat' with_reducible first | exact ChO.const _ | exact h_r4 _ _ _ | apply ChO.ite | apply ChO.G | apply ChO.both | (apply ChO.bind; intro _)
theorem r16_Run_L4_cn  (t : Tp5) (w : Tp8) : Cn (r16_Run_L4_F t w) := fun g h hg x => r16_Run_L4_B_ch  (fun κ q i out => g κ (q, i, out)) (fun q i out => h (q, i, out)) (fun q i out => hg (q, i, out)) t w x.1 x.2.1 x.2.2
theorem r16_Run_L4_eq  (t : Tp5) (w : Tp8) (q : Int) (i : Int) (out : Tp8) : r16_Run_L4 t w q i out = r16_Run_L4_B t w (r16_Run_L4 t w) q i out := LFix_eq (r16_Run_L4_cn t w) (q, i, out)

noncomputable def r16_Same_L12_B (t : Tp5) (u : Tp5) (r12 : Int → Option (Bool)) (q : Int) : Option (Bool) :=
  if (decide (q < (t.2.2.2.2.1.length : Int))) = true then
  G (0 ≤ q ∧ q < (t.2.2.2.2.1.length : Int)) (
  G (0 ≤ q ∧ q < (u.2.2.2.2.1.length : Int)) (
  (r1_Words (ix t.2.2.2.2.1 q) (ix u.2.2.2.2.1 q)).bind (fun y'_3 =>
  if (!y'_3) = true then
  some false else
  G (0 ≤ q ∧ q < (t.2.2.2.2.2.1.length : Int)) (
  G (0 ≤ q ∧ q < (u.2.2.2.2.2.1.length : Int)) (
  if (decide (¬ ((ix t.2.2.2.2.2.1 q).length : Int) = ((ix u.2.2.2.2.2.1 q).length : Int))) = true then
  some false else
  G (fits (q + (1 : Int))) (
  r12 (q + (1 : Int)))))))) else
  some true
noncomputable def r16_Same_L12_F (t : Tp5) (u : Tp5) : (Int → Option (Bool)) → Int → Option (Bool) :=
  fun rec x => r16_Same_L12_B t u (fun q => rec q) x
noncomputable def r16_Same_L12 (t : Tp5) (u : Tp5) (q : Int) : Option (Bool) := LFix (r16_Same_L12_F t u ) q
noncomputable def r16_Same_L6_B (t : Tp5) (u : Tp5) (y' : Tp7) (y'_1 : Tp7) (r6 : Int → Option (Bool)) (i : Int) : Option (Bool) :=
  if (decide (i < (y'.length : Int))) = true then
  G (0 ≤ i ∧ i < (y'.length : Int)) (
  G ((i).toNat < y'.length) (
  G (0 ≤ i ∧ i < (y'_1.length : Int)) (
  G ((i).toNat < y'_1.length) (
  (r1_Words (ix y' i) (ix y'_1 i)).bind (fun y'_2 =>
  if (!y'_2) = true then
  some false else
  G (fits (i + (1 : Int))) (
  r6 (i + (1 : Int)))))))) else
  r16_Same_L12 t u (0 : Int)
noncomputable def r16_Same_L6_F (t : Tp5) (u : Tp5) (y' : Tp7) (y'_1 : Tp7) : (Int → Option (Bool)) → Int → Option (Bool) :=
  fun rec x => r16_Same_L6_B t u y' y'_1 (fun i => rec i) x
noncomputable def r16_Same_L6 (t : Tp5) (u : Tp5) (y' : Tp7) (y'_1 : Tp7) (i : Int) : Option (Bool) := LFix (r16_Same_L6_F t u y' y'_1 ) i
noncomputable def r16_Same (t : Tp5) (u : Tp5) : Option (Bool) :=
  (r16_Words (t.1, (t.2.1, (t.2.2.1, (t.2.2.2.1, (t.2.2.2.2.1, (t.2.2.2.2.2.1, (t.2.2.2.2.2.2.1, ())))))))).bind (fun y' =>
  (r16_Words (u.1, (u.2.1, (u.2.2.1, (u.2.2.2.1, (u.2.2.2.2.1, (u.2.2.2.2.2.1, (u.2.2.2.2.2.2.1, ())))))))).bind (fun y'_1 =>
  if (decide (¬ t.1 = u.1)) = true then
  some false else
  if (decide (¬ t.2.1 = u.2.1)) = true then
  some false else
  if (decide (¬ t.2.2.1 = u.2.2.1)) = true then
  some false else
  if (decide (¬ (t.2.2.2.2.1.length : Int) = (u.2.2.2.2.1.length : Int))) = true then
  some false else
  if (decide (¬ (t.2.2.2.2.2.2.1.length : Int) = (u.2.2.2.2.2.2.1.length : Int))) = true then
  some false else
  if (decide (¬ (t.2.2.2.2.2.1.length : Int) = (u.2.2.2.2.2.1.length : Int))) = true then
  some false else
  if (decide (¬ (y'.length : Int) = (y'_1.length : Int))) = true then
  some false else
  r16_Same_L6 t u y' y'_1 (0 : Int)))
theorem r16_Same_L12_B_ch (r12 : Nat → Int → Option (Bool)) (r12' : Int → Option (Bool)) (h_r12 : ∀ a0, ChO (fun κ => r12 κ a0) (r12' a0)) (t : Tp5) (u : Tp5) (q : Int) : ChO (fun κ => r16_Same_L12_B t u (r12 κ) q) (r16_Same_L12_B t u r12' q) := by
  unfold r16_Same_L12_B
  repeat' with_reducible first | exact ChO.const _ | exact h_r12 _ | apply ChO.ite | apply ChO.G | apply ChO.both | (apply ChO.bind; intro _)
theorem r16_Same_L12_cn  (t : Tp5) (u : Tp5) : Cn (r16_Same_L12_F t u) := fun g h hg x => r16_Same_L12_B_ch  (fun κ q => g κ q) (fun q => h q) (fun q => hg q) t u x
theorem r16_Same_L12_eq  (t : Tp5) (u : Tp5) (q : Int) : r16_Same_L12 t u q = r16_Same_L12_B t u (r16_Same_L12 t u) q := LFix_eq (r16_Same_L12_cn t u) q
theorem r16_Same_L6_B_ch (r6 : Nat → Int → Option (Bool)) (r6' : Int → Option (Bool)) (h_r6 : ∀ a0, ChO (fun κ => r6 κ a0) (r6' a0)) (t : Tp5) (u : Tp5) (y' : Tp7) (y'_1 : Tp7) (i : Int) : ChO (fun κ => r16_Same_L6_B t u y' y'_1 (r6 κ) i) (r16_Same_L6_B t u y' y'_1 r6' i) := by
  unfold r16_Same_L6_B
  repeat' with_reducible first | exact ChO.const _ | exact h_r6 _ | apply ChO.ite | apply ChO.G | apply ChO.both | (apply ChO.bind; intro _)
theorem r16_Same_L6_cn  (t : Tp5) (u : Tp5) (y' : Tp7) (y'_1 : Tp7) : Cn (r16_Same_L6_F t u y' y'_1) := fun g h hg x => r16_Same_L6_B_ch  (fun κ i => g κ i) (fun i => h i) (fun i => hg i) t u y' y'_1 x
theorem r16_Same_L6_eq  (t : Tp5) (u : Tp5) (y' : Tp7) (y'_1 : Tp7) (i : Int) : r16_Same_L6 t u y' y'_1 i = r16_Same_L6_B t u y' y'_1 (r16_Same_L6 t u y' y'_1) i := LFix_eq (r16_Same_L6_cn t u y' y'_1) i

noncomputable def law_TransBehind_J14 (t : Tp5) (u : Tp5) (w : Tp8) (y' : Tp5) (y'_1 : Int) (no_2 : Int) : Option (Bool) :=
  if (decide (¬ no_2 = (0 : Int))) = true then
  (law_noTrans (y'.1, (y'.2.1, (y'.2.2.1, (y'.2.2.2.1, (y'.2.2.2.2.1, (y'.2.2.2.2.2.1, (y'.2.2.2.2.2.2.1, ())))))))).bind (fun y'_7 =>
  if (decide (y'_1 = no_2)) = true then
  some y'_7 else
  some false) else
  (r1_May t.1 w).bind (fun y'_8 =>
  if (decide (¬ y'_8 = (0 : Int))) = true then
  some true else
  (r16_Run (t.1, (t.2.1, (t.2.2.1, (t.2.2.2.1, (t.2.2.2.2.1, (t.2.2.2.2.2.1, (t.2.2.2.2.2.2.1, ()))))))) w).bind (fun y'_9 =>
  (r16_Run (u.1, (u.2.1, (u.2.2.1, (u.2.2.2.1, (u.2.2.2.2.1, (u.2.2.2.2.2.1, (u.2.2.2.2.2.2.1, ()))))))) y'_9).bind (fun y'_10 =>
  (r16_Run (y'.1, (y'.2.1, (y'.2.2.1, (y'.2.2.2.1, (y'.2.2.2.2.1, (y'.2.2.2.2.2.1, (y'.2.2.2.2.2.2.1, ()))))))) w).bind (fun y'_11 =>
  (r1_Words y'_10 y'_11).bind (fun y'_12 =>
  some y'_12)))))
noncomputable def law_TransBehind_J10 (t : Tp5) (u : Tp5) (w : Tp8) (y' : Tp5) (y'_1 : Int) (no_1 : Int) (y'_5 : Tp5) (t_2 : Bool) : Option (Bool) :=
  if t_2 = true then
  law_TransBehind_J14 t u w y' y'_1 (7 : Int) else
  (r16_Same (y'.1, (y'.2.1, (y'.2.2.1, (y'.2.2.2.1, (y'.2.2.2.2.1, (y'.2.2.2.2.2.1, (y'.2.2.2.2.2.2.1, ()))))))) (y'_5.1, (y'_5.2.1, (y'_5.2.2.1, (y'_5.2.2.2.1, (y'_5.2.2.2.2.1, (y'_5.2.2.2.2.2.1, (y'_5.2.2.2.2.2.2.1, ())))))))).bind (fun y'_13 =>
  if (decide (¬ y'_1 = (0 : Int))) = true then
  some false else
  if (!y'_13) = true then
  some false else
  law_TransBehind_J14 t u w y' y'_1 no_1)
noncomputable def law_TransBehind_J6 (t : Tp5) (u : Tp5) (w : Tp8) (y' : Tp5) (y'_1 : Int) (no_1 : Int) : Option (Bool) :=
  if (decide (no_1 = (0 : Int))) = true then
  (r16_Behind (t.1, (t.2.1, (t.2.2.1, (t.2.2.2.1, (t.2.2.2.2.1, (t.2.2.2.2.2.1, (t.2.2.2.2.2.2.1, ()))))))) (u.1, (u.2.1, (u.2.2.1, (u.2.2.2.1, (u.2.2.2.2.1, (u.2.2.2.2.2.1, (u.2.2.2.2.2.2.1, ())))))))).bind (fun y'_5 =>
  (r16_Long (y'_5.1, (y'_5.2.1, (y'_5.2.2.1, (y'_5.2.2.2.1, (y'_5.2.2.2.2.1, (y'_5.2.2.2.2.2.1, (y'_5.2.2.2.2.2.2.1, ())))))))).bind (fun y'_6 =>
  if y'_6 = true then
  law_TransBehind_J10 t u w y' y'_1 no_1 y'_5 true else
  law_TransBehind_J10 t u w y' y'_1 no_1 y'_5 (decide ((6 : Int) < (y'_5.2.2.2.2.1.length : Int))))) else
  law_TransBehind_J14 t u w y' y'_1 no_1
noncomputable def law_TransBehind_J5 (t : Tp5) (u : Tp5) (w : Tp8) (y' : Tp5) (y'_1 : Int) (no : Int) (t_1 : Bool) : Option (Bool) :=
  if t_1 = true then
  law_TransBehind_J6 t u w y' y'_1 (3 : Int) else
  law_TransBehind_J6 t u w y' y'_1 no
noncomputable def law_TransBehind_J4 (t : Tp5) (u : Tp5) (w : Tp8) (y' : Tp5) (y'_1 : Int) (no : Int) : Option (Bool) :=
  if (decide (no = (0 : Int))) = true then
  law_TransBehind_J5 t u w y' y'_1 no (decide (¬ t.2.1 = u.1)) else
  law_TransBehind_J5 t u w y' y'_1 no false
noncomputable def law_TransBehind (t : Tp5) (u : Tp5) (w : Tp8) : Option (Bool) :=
  (trans_Behind (t.1, (t.2.1, (t.2.2.1, (t.2.2.2.1, (t.2.2.2.2.1, (t.2.2.2.2.2.1, (t.2.2.2.2.2.2.1, ()))))))) (u.1, (u.2.1, (u.2.2.1, (u.2.2.2.1, (u.2.2.2.2.1, (u.2.2.2.2.2.1, (u.2.2.2.2.2.2.1, ())))))))).bind (fun y'_14 =>
  (r16_Check (t.1, (t.2.1, (t.2.2.1, (t.2.2.2.1, (t.2.2.2.2.1, (t.2.2.2.2.2.1, (t.2.2.2.2.2.2.1, ())))))))).bind (fun y'_3 =>
  if (decide (y'_3 = (0 : Int))) = true then
  (r16_Check (u.1, (u.2.1, (u.2.2.1, (u.2.2.2.1, (u.2.2.2.2.1, (u.2.2.2.2.2.1, (u.2.2.2.2.2.2.1, ())))))))).bind (fun y'_4 =>
  law_TransBehind_J4 t u w y'_14.1 y'_14.2 y'_4) else
  law_TransBehind_J4 t u w y'_14.1 y'_14.2 y'_3))

end Go.Proofs.Ytncddfoonaonlaa.transBehindW
