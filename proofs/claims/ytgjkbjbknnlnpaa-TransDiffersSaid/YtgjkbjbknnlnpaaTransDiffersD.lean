/- What the functions that 'TransDiffers' reaches compute: plain functions. -/
import Derived.Test.YtgjkbjbknnlnpaaEv14n21
set_option maxHeartbeats 1000000
set_option maxRecDepth 20000
set_option linter.unusedSimpArgs false
set_option linter.unusedVariables false
set_option linter.unusedSectionVars false
namespace Go.Proofs.Ytgjkbjbknnlnpaa.transDiffersW
open Go Go.Ab
noncomputable def trans_Check_1 (q : Int) (t : Int) : Option (Bool) :=
  if (decide (q < (0 : Int))) = true then
  some true else
  some (decide (t ≤ q))

noncomputable def slices_IndexFunc_1_L2_B (s : (List Int)) (c : Int) (r2 : Int → Option (Int)) (t : Int) : Option (Int) :=
  if (decide (t < (s.length : Int))) = true then
  G (0 ≤ t ∧ t < (s.length : Int)) (
  (trans_Check_1 (ix s t) c).bind (fun y' =>
  if y' = true then
  some t else
  G (fits (t + (1 : Int))) (
  r2 (t + (1 : Int))))) else
  some (-1 : Int)
noncomputable def slices_IndexFunc_1_L2_F (s : (List Int)) (c : Int) : (Int → Option (Int)) → Int → Option (Int) :=
  fun rec x => slices_IndexFunc_1_L2_B s c (fun t => rec t) x
noncomputable def slices_IndexFunc_1_L2 (s : (List Int)) (c : Int) (t : Int) : Option (Int) := LFix (slices_IndexFunc_1_L2_F s c ) t
noncomputable def slices_IndexFunc_1 (s : (List Int)) (c : Int) : Option (Int) :=
  slices_IndexFunc_1_L2 s c (0 : Int)
theorem slices_IndexFunc_1_L2_B_ch (r2 : Nat → Int → Option (Int)) (r2' : Int → Option (Int)) (h_r2 : ∀ a0, ChO (fun κ => r2 κ a0) (r2' a0)) (s : (List Int)) (c : Int) (t : Int) : ChO (fun κ => slices_IndexFunc_1_L2_B s c (r2 κ) t) (slices_IndexFunc_1_L2_B s c r2' t) := by
  unfold slices_IndexFunc_1_L2_B
  repeat' with_reducible first | exact ChO.const _ | exact h_r2 _ | apply ChO.ite | apply ChO.G | apply ChO.both | (apply ChO.bind; intro _)
theorem slices_IndexFunc_1_L2_cn  (s : (List Int)) (c : Int) : Cn (slices_IndexFunc_1_L2_F s c) := fun g h hg x => slices_IndexFunc_1_L2_B_ch  (fun κ t => g κ t) (fun t => h t) (fun t => hg t) s c x
theorem slices_IndexFunc_1_L2_eq  (s : (List Int)) (c : Int) (t : Int) : slices_IndexFunc_1_L2 s c t = slices_IndexFunc_1_L2_B s c (slices_IndexFunc_1_L2 s c) t := LFix_eq (slices_IndexFunc_1_L2_cn s c) t

noncomputable def slices_ContainsFunc_1 (s : (List Int)) (c : Int) : Option (Bool) :=
  (slices_IndexFunc_1 s c).bind (fun y' =>
  some (decide ((0 : Int) ≤ y')))

noncomputable def trans_Check_2 (r : (List Int)) (c : Int) : Option (Bool × Int) :=
  (slices_ContainsFunc_1 r c).bind (fun y' =>
  some (y', c))

noncomputable def slices_IndexFunc_L2_B (s : (List (List Int))) (r2 : Int → Int → Option (Int × Int)) (t : Int) (l : Int) : Option (Int × Int) :=
  if (decide (t < (s.length : Int))) = true then
  G (0 ≤ t ∧ t < (s.length : Int)) (
  (trans_Check_2 (ix s t) l).bind (fun y'_3 =>
  if y'_3.1 = true then
  some (t, y'_3.2) else
  G (fits (t + (1 : Int))) (
  r2 (t + (1 : Int)) y'_3.2))) else
  some ((-1 : Int), l)
noncomputable def slices_IndexFunc_L2_F (s : (List (List Int))) : (Int × Int → Option (Int × Int)) → Int × Int → Option (Int × Int) :=
  fun rec x => slices_IndexFunc_L2_B s (fun t l => rec (t, l)) x.1 x.2
noncomputable def slices_IndexFunc_L2 (s : (List (List Int))) (t : Int) (l : Int) : Option (Int × Int) := LFix (slices_IndexFunc_L2_F s ) (t, l)
noncomputable def slices_IndexFunc (s : (List (List Int))) (c : Int) : Option (Int × Int) :=
  slices_IndexFunc_L2 s (0 : Int) c
theorem slices_IndexFunc_L2_B_ch (r2 : Nat → Int → Int → Option (Int × Int)) (r2' : Int → Int → Option (Int × Int)) (h_r2 : ∀ a0 a1, ChO (fun κ => r2 κ a0 a1) (r2' a0 a1)) (s : (List (List Int))) (t : Int) (l : Int) : ChO (fun κ => slices_IndexFunc_L2_B s (r2 κ) t l) (slices_IndexFunc_L2_B s r2' t l) := by
  unfold slices_IndexFunc_L2_B
  repeat' with_reducible first | exact ChO.const _ | exact h_r2 _ _ | apply ChO.ite | apply ChO.G | apply ChO.both | (apply ChO.bind; intro _)
theorem slices_IndexFunc_L2_cn  (s : (List (List Int))) : Cn (slices_IndexFunc_L2_F s) := fun g h hg x => slices_IndexFunc_L2_B_ch  (fun κ t l => g κ (t, l)) (fun t l => h (t, l)) (fun t l => hg (t, l)) s x.1 x.2
theorem slices_IndexFunc_L2_eq  (s : (List (List Int))) (t : Int) (l : Int) : slices_IndexFunc_L2 s t l = slices_IndexFunc_L2_B s (slices_IndexFunc_L2 s) t l := LFix_eq (slices_IndexFunc_L2_cn s) (t, l)

noncomputable def slices_ContainsFunc (s : (List (List Int))) (c : Int) : Option (Bool × Int) :=
  (slices_IndexFunc s c).bind (fun y'_3 =>
  some (decide ((0 : Int) ≤ y'_3.1), y'_3.2))

noncomputable def trans_said_L3_B (t : (Int × Int × Int × (List Int) × (List (List Int)) × (List (List (List Int))) × (List (List Int)) × Unit)) (r3 : Int → (List (List Int)) → Option (List (List Int))) (t_1 : Int) (l : (List (List Int))) : Option (List (List Int)) :=
  if (decide (t_1 < (t.2.2.2.2.2.1.length : Int))) = true then
  G (0 ≤ t_1 ∧ t_1 < (t.2.2.2.2.2.1.length : Int)) (
  G (room l (ix t.2.2.2.2.2.1 t_1) 24) (
  G (fits (t_1 + (1 : Int))) (
  r3 (t_1 + (1 : Int)) (l ++ (ix t.2.2.2.2.2.1 t_1))))) else
  some l
noncomputable def trans_said_L3_F (t : (Int × Int × Int × (List Int) × (List (List Int)) × (List (List (List Int))) × (List (List Int)) × Unit)) : (Int × (List (List Int)) → Option (List (List Int))) → Int × (List (List Int)) → Option (List (List Int)) :=
  fun rec x => trans_said_L3_B t (fun t_1 l => rec (t_1, l)) x.1 x.2
noncomputable def trans_said_L3 (t : (Int × Int × Int × (List Int) × (List (List Int)) × (List (List (List Int))) × (List (List Int)) × Unit)) (t_1 : Int) (l : (List (List Int))) : Option (List (List Int)) := LFix (trans_said_L3_F t ) (t_1, l)
noncomputable def trans_said (t : (Int × Int × Int × (List Int) × (List (List Int)) × (List (List (List Int))) × (List (List Int)) × Unit)) : Option (List (List Int)) :=
  G (room ([t.2.2.2.1]) t.2.2.2.2.2.2.1 24) (
  trans_said_L3 t (0 : Int) (([t.2.2.2.1]) ++ t.2.2.2.2.2.2.1))
theorem trans_said_L3_B_ch (r3 : Nat → Int → (List (List Int)) → Option (List (List Int))) (r3' : Int → (List (List Int)) → Option (List (List Int))) (h_r3 : ∀ a0 a1, ChO (fun κ => r3 κ a0 a1) (r3' a0 a1)) (t : (Int × Int × Int × (List Int) × (List (List Int)) × (List (List (List Int))) × (List (List Int)) × Unit)) (t_1 : Int) (l : (List (List Int))) : ChO (fun κ => trans_said_L3_B t (r3 κ) t_1 l) (trans_said_L3_B t r3' t_1 l) := by
  unfold trans_said_L3_B
  repeat' with_reducible first | exact ChO.const _ | exact h_r3 _ _ | apply ChO.ite | apply ChO.G | apply ChO.both | (apply ChO.bind; intro _)
theorem trans_said_L3_cn  (t : (Int × Int × Int × (List Int) × (List (List Int)) × (List (List (List Int))) × (List (List Int)) × Unit)) : Cn (trans_said_L3_F t) := fun g h hg x => trans_said_L3_B_ch  (fun κ t_1 l => g κ (t_1, l)) (fun t_1 l => h (t_1, l)) (fun t_1 l => hg (t_1, l)) t x.1 x.2
theorem trans_said_L3_eq  (t : (Int × Int × Int × (List Int) × (List (List Int)) × (List (List (List Int))) × (List (List Int)) × Unit)) (t_1 : Int) (l : (List (List Int))) : trans_said_L3 t t_1 l = trans_said_L3_B t (trans_said_L3 t) t_1 l := LFix_eq (trans_said_L3_cn t) (t_1, l)

noncomputable def trans_long_1 (w : (List Int)) : Option (Bool) :=
  some (decide ((8 : Int) < (w.length : Int)))

noncomputable def slices_IndexFunc_2_L2_B (s : (List (List Int))) (r2 : Int → Option (Int)) (t : Int) : Option (Int) :=
  if (decide (t < (s.length : Int))) = true then
  G (0 ≤ t ∧ t < (s.length : Int)) (
  (trans_long_1 (ix s t)).bind (fun y' =>
  if y' = true then
  some t else
  G (fits (t + (1 : Int))) (
  r2 (t + (1 : Int))))) else
  some (-1 : Int)
noncomputable def slices_IndexFunc_2_L2_F (s : (List (List Int))) : (Int → Option (Int)) → Int → Option (Int) :=
  fun rec x => slices_IndexFunc_2_L2_B s (fun t => rec t) x
noncomputable def slices_IndexFunc_2_L2 (s : (List (List Int))) (t : Int) : Option (Int) := LFix (slices_IndexFunc_2_L2_F s ) t
noncomputable def slices_IndexFunc_2 (s : (List (List Int))) : Option (Int) :=
  slices_IndexFunc_2_L2 s (0 : Int)
theorem slices_IndexFunc_2_L2_B_ch (r2 : Nat → Int → Option (Int)) (r2' : Int → Option (Int)) (h_r2 : ∀ a0, ChO (fun κ => r2 κ a0) (r2' a0)) (s : (List (List Int))) (t : Int) : ChO (fun κ => slices_IndexFunc_2_L2_B s (r2 κ) t) (slices_IndexFunc_2_L2_B s r2' t) := by
  unfold slices_IndexFunc_2_L2_B
  repeat' with_reducible first | exact ChO.const _ | exact h_r2 _ | apply ChO.ite | apply ChO.G | apply ChO.both | (apply ChO.bind; intro _)
theorem slices_IndexFunc_2_L2_cn  (s : (List (List Int))) : Cn (slices_IndexFunc_2_L2_F s) := fun g h hg x => slices_IndexFunc_2_L2_B_ch  (fun κ t => g κ t) (fun t => h t) (fun t => hg t) s x
theorem slices_IndexFunc_2_L2_eq  (s : (List (List Int))) (t : Int) : slices_IndexFunc_2_L2 s t = slices_IndexFunc_2_L2_B s (slices_IndexFunc_2_L2 s) t := LFix_eq (slices_IndexFunc_2_L2_cn s) t

noncomputable def slices_ContainsFunc_2 (s : (List (List Int))) : Option (Bool) :=
  (slices_IndexFunc_2 s).bind (fun y' =>
  some (decide ((0 : Int) ≤ y')))

noncomputable def trans_long (t : (Int × Int × Int × (List Int) × (List (List Int)) × (List (List (List Int))) × (List (List Int)) × Unit)) : Option (Bool) :=
  (trans_said (t.1, (t.2.1, (t.2.2.1, (t.2.2.2.1, (t.2.2.2.2.1, (t.2.2.2.2.2.1, (t.2.2.2.2.2.2.1, ())))))))).bind (fun y' =>
  (slices_ContainsFunc_2 y').bind (fun y'_1 =>
  some y'_1))

noncomputable def trans_Check_3 (a : Int) (t : (Int × Int × Int × (List Int) × (List (List Int)) × (List (List (List Int))) × (List (List Int)) × Unit)) : Option (Bool) :=
  if (decide (a < (0 : Int))) = true then
  some true else
  some (decide (t.2.1 ≤ a))

noncomputable def slices_IndexFunc_3_L2_B (s : (List Int)) (c : (Int × Int × Int × (List Int) × (List (List Int)) × (List (List (List Int))) × (List (List Int)) × Unit)) (r2 : Int → Option (Int)) (t : Int) : Option (Int) :=
  if (decide (t < (s.length : Int))) = true then
  G (0 ≤ t ∧ t < (s.length : Int)) (
  (trans_Check_3 (ix s t) c).bind (fun y' =>
  if y' = true then
  some t else
  G (fits (t + (1 : Int))) (
  r2 (t + (1 : Int))))) else
  some (-1 : Int)
noncomputable def slices_IndexFunc_3_L2_F (s : (List Int)) (c : (Int × Int × Int × (List Int) × (List (List Int)) × (List (List (List Int))) × (List (List Int)) × Unit)) : (Int → Option (Int)) → Int → Option (Int) :=
  fun rec x => slices_IndexFunc_3_L2_B s c (fun t => rec t) x
noncomputable def slices_IndexFunc_3_L2 (s : (List Int)) (c : (Int × Int × Int × (List Int) × (List (List Int)) × (List (List (List Int))) × (List (List Int)) × Unit)) (t : Int) : Option (Int) := LFix (slices_IndexFunc_3_L2_F s c ) t
noncomputable def slices_IndexFunc_3 (s : (List Int)) (c : (Int × Int × Int × (List Int) × (List (List Int)) × (List (List (List Int))) × (List (List Int)) × Unit)) : Option (Int) :=
  slices_IndexFunc_3_L2 s c (0 : Int)
theorem slices_IndexFunc_3_L2_B_ch (r2 : Nat → Int → Option (Int)) (r2' : Int → Option (Int)) (h_r2 : ∀ a0, ChO (fun κ => r2 κ a0) (r2' a0)) (s : (List Int)) (c : (Int × Int × Int × (List Int) × (List (List Int)) × (List (List (List Int))) × (List (List Int)) × Unit)) (t : Int) : ChO (fun κ => slices_IndexFunc_3_L2_B s c (r2 κ) t) (slices_IndexFunc_3_L2_B s c r2' t) := by
  unfold slices_IndexFunc_3_L2_B
  repeat' with_reducible first | exact ChO.const _ | exact h_r2 _ | apply ChO.ite | apply ChO.G | apply ChO.both | (apply ChO.bind; intro _)
theorem slices_IndexFunc_3_L2_cn  (s : (List Int)) (c : (Int × Int × Int × (List Int) × (List (List Int)) × (List (List (List Int))) × (List (List Int)) × Unit)) : Cn (slices_IndexFunc_3_L2_F s c) := fun g h hg x => slices_IndexFunc_3_L2_B_ch  (fun κ t => g κ t) (fun t => h t) (fun t => hg t) s c x
theorem slices_IndexFunc_3_L2_eq  (s : (List Int)) (c : (Int × Int × Int × (List Int) × (List (List Int)) × (List (List (List Int))) × (List (List Int)) × Unit)) (t : Int) : slices_IndexFunc_3_L2 s c t = slices_IndexFunc_3_L2_B s c (slices_IndexFunc_3_L2 s c) t := LFix_eq (slices_IndexFunc_3_L2_cn s c) t

noncomputable def slices_ContainsFunc_3 (s : (List Int)) (c : (Int × Int × Int × (List Int) × (List (List Int)) × (List (List (List Int))) × (List (List Int)) × Unit)) : Option (Bool) :=
  (slices_IndexFunc_3 s c).bind (fun y' =>
  some (decide ((0 : Int) ≤ y')))

noncomputable def trans_Check_L24_B (t : (Int × Int × Int × (List Int) × (List (List Int)) × (List (List (List Int))) × (List (List Int)) × Unit)) (y'_5 : (List (List Int))) (r24 : Int → Option (Int)) (t_3 : Int) : Option (Int) :=
  if (decide (t_3 < (y'_5.length : Int))) = true then
  G (0 ≤ t_3 ∧ t_3 < (y'_5.length : Int)) (
  G ((t_3).toNat < y'_5.length) (
  (slices_ContainsFunc_3 (ix y'_5 t_3) (t.1, (t.2.1, (t.2.2.1, (t.2.2.2.1, (t.2.2.2.2.1, (t.2.2.2.2.2.1, (t.2.2.2.2.2.2.1, ())))))))).bind (fun y'_6 =>
  if y'_6 = true then
  some (2 : Int) else
  G (fits (t_3 + (1 : Int))) (
  r24 (t_3 + (1 : Int)))))) else
  some (0 : Int)
noncomputable def trans_Check_L24_F (t : (Int × Int × Int × (List Int) × (List (List Int)) × (List (List (List Int))) × (List (List Int)) × Unit)) (y'_5 : (List (List Int))) : (Int → Option (Int)) → Int → Option (Int) :=
  fun rec x => trans_Check_L24_B t y'_5 (fun t_3 => rec t_3) x
noncomputable def trans_Check_L24 (t : (Int × Int × Int × (List Int) × (List (List Int)) × (List (List (List Int))) × (List (List Int)) × Unit)) (y'_5 : (List (List Int))) (t_3 : Int) : Option (Int) := LFix (trans_Check_L24_F t y'_5 ) t_3
noncomputable def trans_Check_L13_B (t : (Int × Int × Int × (List Int) × (List (List Int)) × (List (List (List Int))) × (List (List Int)) × Unit)) (r13 : Int → Option (Int)) (t_2 : Int) : Option (Int) :=
  if (decide (t_2 < (t.2.2.2.2.1.length : Int))) = true then
  G (0 ≤ t_2 ∧ t_2 < (t.2.2.2.2.1.length : Int)) (
  if (decide (¬ ((ix t.2.2.2.2.1 t_2).length : Int) = t.1)) = true then
  some (3 : Int) else
  G (0 ≤ t_2 ∧ t_2 < (t.2.2.2.2.2.1.length : Int)) (
  if (decide (¬ ((ix t.2.2.2.2.2.1 t_2).length : Int) = t.1)) = true then
  some (3 : Int) else
  G (fits (t_2 + (1 : Int))) (
  r13 (t_2 + (1 : Int))))) else
  (trans_Check_1 t.2.2.1 (t.2.2.2.2.1.length : Int)).bind (fun y' =>
  if y' = true then
  some (2 : Int) else
  (slices_ContainsFunc t.2.2.2.2.1 (t.2.2.2.2.1.length : Int)).bind (fun y'_7 =>
  if y'_7.1 = true then
  some (2 : Int) else
  (trans_long (t.1, (t.2.1, (t.2.2.1, (t.2.2.2.1, (t.2.2.2.2.1, (t.2.2.2.2.2.1, (t.2.2.2.2.2.2.1, ())))))))).bind (fun y'_4 =>
  if y'_4 = true then
  some (1 : Int) else
  (trans_said (t.1, (t.2.1, (t.2.2.1, (t.2.2.2.1, (t.2.2.2.2.1, (t.2.2.2.2.2.1, (t.2.2.2.2.2.2.1, ())))))))).bind (fun y'_5 =>
  trans_Check_L24 t y'_5 (0 : Int)))))
noncomputable def trans_Check_L13_F (t : (Int × Int × Int × (List Int) × (List (List Int)) × (List (List (List Int))) × (List (List Int)) × Unit)) : (Int → Option (Int)) → Int → Option (Int) :=
  fun rec x => trans_Check_L13_B t (fun t_2 => rec t_2) x
noncomputable def trans_Check_L13 (t : (Int × Int × Int × (List Int) × (List (List Int)) × (List (List (List Int))) × (List (List Int)) × Unit)) (t_2 : Int) : Option (Int) := LFix (trans_Check_L13_F t ) t_2
noncomputable def trans_Check_L2_B (t : (Int × Int × Int × (List Int) × (List (List Int)) × (List (List (List Int))) × (List (List Int)) × Unit)) (r2 : Int → Option (Int)) (t_1 : Int) : Option (Int) :=
  if (decide (t_1 < (([t.1, t.2.1]).length : Int))) = true then
  G (0 ≤ t_1 ∧ t_1 < (([t.1, t.2.1]).length : Int)) (
  G ((t_1).toNat < ([t.1, t.2.1]).length) (
  if (decide ((ix ([t.1, t.2.1]) t_1) < (1 : Int))) = true then
  some (2 : Int) else
  if (decide ((4 : Int) < (ix ([t.1, t.2.1]) t_1))) = true then
  some (2 : Int) else
  G (fits (t_1 + (1 : Int))) (
  r2 (t_1 + (1 : Int))))) else
  if (decide ((t.2.2.2.2.1.length : Int) < (1 : Int))) = true then
  some (1 : Int) else
  if (decide ((6 : Int) < (t.2.2.2.2.1.length : Int))) = true then
  some (1 : Int) else
  if (decide (¬ (t.2.2.2.2.2.1.length : Int) = (t.2.2.2.2.1.length : Int))) = true then
  some (3 : Int) else
  if (decide (¬ (t.2.2.2.2.2.2.1.length : Int) = (t.2.2.2.2.1.length : Int))) = true then
  some (3 : Int) else
  trans_Check_L13 t (0 : Int)
noncomputable def trans_Check_L2_F (t : (Int × Int × Int × (List Int) × (List (List Int)) × (List (List (List Int))) × (List (List Int)) × Unit)) : (Int → Option (Int)) → Int → Option (Int) :=
  fun rec x => trans_Check_L2_B t (fun t_1 => rec t_1) x
noncomputable def trans_Check_L2 (t : (Int × Int × Int × (List Int) × (List (List Int)) × (List (List (List Int))) × (List (List Int)) × Unit)) (t_1 : Int) : Option (Int) := LFix (trans_Check_L2_F t ) t_1
noncomputable def trans_Check (t : (Int × Int × Int × (List Int) × (List (List Int)) × (List (List (List Int))) × (List (List Int)) × Unit)) : Option (Int) :=
  trans_Check_L2 t (0 : Int)
theorem trans_Check_L24_B_ch (r24 : Nat → Int → Option (Int)) (r24' : Int → Option (Int)) (h_r24 : ∀ a0, ChO (fun κ => r24 κ a0) (r24' a0)) (t : (Int × Int × Int × (List Int) × (List (List Int)) × (List (List (List Int))) × (List (List Int)) × Unit)) (y'_5 : (List (List Int))) (t_3 : Int) : ChO (fun κ => trans_Check_L24_B t y'_5 (r24 κ) t_3) (trans_Check_L24_B t y'_5 r24' t_3) := by
  unfold trans_Check_L24_B
  repeat' with_reducible first | exact ChO.const _ | exact h_r24 _ | apply ChO.ite | apply ChO.G | apply ChO.both | (apply ChO.bind; intro _)
theorem trans_Check_L24_cn  (t : (Int × Int × Int × (List Int) × (List (List Int)) × (List (List (List Int))) × (List (List Int)) × Unit)) (y'_5 : (List (List Int))) : Cn (trans_Check_L24_F t y'_5) := fun g h hg x => trans_Check_L24_B_ch  (fun κ t_3 => g κ t_3) (fun t_3 => h t_3) (fun t_3 => hg t_3) t y'_5 x
theorem trans_Check_L24_eq  (t : (Int × Int × Int × (List Int) × (List (List Int)) × (List (List (List Int))) × (List (List Int)) × Unit)) (y'_5 : (List (List Int))) (t_3 : Int) : trans_Check_L24 t y'_5 t_3 = trans_Check_L24_B t y'_5 (trans_Check_L24 t y'_5) t_3 := LFix_eq (trans_Check_L24_cn t y'_5) t_3
theorem trans_Check_L13_B_ch (r13 : Nat → Int → Option (Int)) (r13' : Int → Option (Int)) (h_r13 : ∀ a0, ChO (fun κ => r13 κ a0) (r13' a0)) (t : (Int × Int × Int × (List Int) × (List (List Int)) × (List (List (List Int))) × (List (List Int)) × Unit)) (t_2 : Int) : ChO (fun κ => trans_Check_L13_B t (r13 κ) t_2) (trans_Check_L13_B t r13' t_2) := by
  unfold trans_Check_L13_B
  repeat' with_reducible first | exact ChO.const _ | exact h_r13 _ | apply ChO.ite | apply ChO.G | apply ChO.both | (apply ChO.bind; intro _)
theorem trans_Check_L13_cn  (t : (Int × Int × Int × (List Int) × (List (List Int)) × (List (List (List Int))) × (List (List Int)) × Unit)) : Cn (trans_Check_L13_F t) := fun g h hg x => trans_Check_L13_B_ch  (fun κ t_2 => g κ t_2) (fun t_2 => h t_2) (fun t_2 => hg t_2) t x
theorem trans_Check_L13_eq  (t : (Int × Int × Int × (List Int) × (List (List Int)) × (List (List (List Int))) × (List (List Int)) × Unit)) (t_2 : Int) : trans_Check_L13 t t_2 = trans_Check_L13_B t (trans_Check_L13 t) t_2 := LFix_eq (trans_Check_L13_cn t) t_2
theorem trans_Check_L2_B_ch (r2 : Nat → Int → Option (Int)) (r2' : Int → Option (Int)) (h_r2 : ∀ a0, ChO (fun κ => r2 κ a0) (r2' a0)) (t : (Int × Int × Int × (List Int) × (List (List Int)) × (List (List (List Int))) × (List (List Int)) × Unit)) (t_1 : Int) : ChO (fun κ => trans_Check_L2_B t (r2 κ) t_1) (trans_Check_L2_B t r2' t_1) := by
  unfold trans_Check_L2_B
  repeat' with_reducible first | exact ChO.const _ | exact h_r2 _ | apply ChO.ite | apply ChO.G | apply ChO.both | (apply ChO.bind; intro _)
theorem trans_Check_L2_cn  (t : (Int × Int × Int × (List Int) × (List (List Int)) × (List (List (List Int))) × (List (List Int)) × Unit)) : Cn (trans_Check_L2_F t) := fun g h hg x => trans_Check_L2_B_ch  (fun κ t_1 => g κ t_1) (fun t_1 => h t_1) (fun t_1 => hg t_1) t x
theorem trans_Check_L2_eq  (t : (Int × Int × Int × (List Int) × (List (List Int)) × (List (List (List Int))) × (List (List Int)) × Unit)) (t_1 : Int) : trans_Check_L2 t t_1 = trans_Check_L2_B t (trans_Check_L2 t) t_1 := LFix_eq (trans_Check_L2_cn t) t_1

noncomputable def trans_run_L3_B (t : (Int × Int × Int × (List Int) × (List (List Int)) × (List (List (List Int))) × (List (List Int)) × Unit)) (w : (List Int)) (r3 : Int → Int → (List Int) → Option (Int × (List Int))) (q_1 : Int) (t_1 : Int) (out : (List Int)) : Option (Int × (List Int)) :=
  if (decide (t_1 < (w.length : Int))) = true then
  G (0 ≤ t_1 ∧ t_1 < (w.length : Int)) (
  G (0 ≤ q_1 ∧ q_1 < (t.2.2.2.2.2.1.length : Int)) (
  G (0 ≤ ix w t_1 ∧ ix w t_1 < ((ix t.2.2.2.2.2.1 q_1).length : Int)) (
  G (room out (ix (ix t.2.2.2.2.2.1 q_1) (ix w t_1)) 8) (
  G (0 ≤ q_1 ∧ q_1 < (t.2.2.2.2.1.length : Int)) (
  G (0 ≤ ix w t_1 ∧ ix w t_1 < ((ix t.2.2.2.2.1 q_1).length : Int)) (
  G (fits (t_1 + (1 : Int))) (
  r3 (ix (ix t.2.2.2.2.1 q_1) (ix w t_1)) (t_1 + (1 : Int)) (out ++ (ix (ix t.2.2.2.2.2.1 q_1) (ix w t_1)))))))))) else
  some (q_1, out)
noncomputable def trans_run_L3_F (t : (Int × Int × Int × (List Int) × (List (List Int)) × (List (List (List Int))) × (List (List Int)) × Unit)) (w : (List Int)) : (Int × Int × (List Int) → Option (Int × (List Int))) → Int × Int × (List Int) → Option (Int × (List Int)) :=
  fun rec x => trans_run_L3_B t w (fun q_1 t_1 out => rec (q_1, t_1, out)) x.1 x.2.1 x.2.2
noncomputable def trans_run_L3 (t : (Int × Int × Int × (List Int) × (List (List Int)) × (List (List (List Int))) × (List (List Int)) × Unit)) (w : (List Int)) (q_1 : Int) (t_1 : Int) (out : (List Int)) : Option (Int × (List Int)) := LFix (trans_run_L3_F t w ) (q_1, t_1, out)
noncomputable def trans_run (t : (Int × Int × Int × (List Int) × (List (List Int)) × (List (List (List Int))) × (List (List Int)) × Unit)) (q : Int) (w : (List Int)) : Option (Int × (List Int)) :=
  trans_run_L3 t w q (0 : Int) ([])
theorem trans_run_L3_B_ch (r3 : Nat → Int → Int → (List Int) → Option (Int × (List Int))) (r3' : Int → Int → (List Int) → Option (Int × (List Int))) (h_r3 : ∀ a0 a1 a2, ChO (fun κ => r3 κ a0 a1 a2) (r3' a0 a1 a2)) (t : (Int × Int × Int × (List Int) × (List (List Int)) × (List (List (List Int))) × (List (List Int)) × Unit)) (w : (List Int)) (q_1 : Int) (t_1 : Int) (out : (List Int)) : ChO (fun κ => trans_run_L3_B t w (r3 κ) q_1 t_1 out) (trans_run_L3_B t w r3' q_1 t_1 out) := by
  unfold trans_run_L3_B
  repeat' with_reducible first | exact ChO.const _ | exact h_r3 _ _ _ | apply ChO.ite | apply ChO.G | apply ChO.both | (apply ChO.bind; intro _)
theorem trans_run_L3_cn  (t : (Int × Int × Int × (List Int) × (List (List Int)) × (List (List (List Int))) × (List (List Int)) × Unit)) (w : (List Int)) : Cn (trans_run_L3_F t w) := fun g h hg x => trans_run_L3_B_ch  (fun κ q_1 t_1 out => g κ (q_1, t_1, out)) (fun q_1 t_1 out => h (q_1, t_1, out)) (fun q_1 t_1 out => hg (q_1, t_1, out)) t w x.1 x.2.1 x.2.2
theorem trans_run_L3_eq  (t : (Int × Int × Int × (List Int) × (List (List Int)) × (List (List (List Int))) × (List (List Int)) × Unit)) (w : (List Int)) (q_1 : Int) (t_1 : Int) (out : (List Int)) : trans_run_L3 t w q_1 t_1 out = trans_run_L3_B t w (trans_run_L3 t w) q_1 t_1 out := LFix_eq (trans_run_L3_cn t w) (q_1, t_1, out)

noncomputable def slices_Grow (n : Int) : Option (List Int) :=
  if (decide (n < (0 : Int))) = true then
  none else
  G (fits ((0 : Int) - (0 : Int))) (
  G (fits (n - ((0 : Int) - (0 : Int)))) (
  if (decide ((0 : Int) < (n - ((0 : Int) - (0 : Int))))) = true then
  G ((0 : Int) = (0 : Int)) (
  G (0 < n - ((0 : Int) - (0 : Int)) ∧ (n - ((0 : Int) - (0 : Int))) * 8 ≤ 140737488355328) (
  G (0 ≤ (0 : Int) ∧ (0 : Int) ≤ ((List.replicate (n - ((0 : Int) - (0 : Int))).toNat (0 : Int)).length : Int)) (
  some ((List.replicate (n - ((0 : Int) - (0 : Int))).toNat (0 : Int)).take ((0 : Int)).toNat)))) else
  some ([])))

noncomputable def slices_Concat_L11_B (slices : (List (List Int))) (r11 : Int → (List Int) → Option (List Int)) (t_1 : Int) (newslice : (List Int)) : Option (List Int) :=
  if (decide (t_1 < (slices.length : Int))) = true then
  G (0 ≤ t_1 ∧ t_1 < (slices.length : Int)) (
  G (room newslice (ix slices t_1) 8) (
  G (fits (t_1 + (1 : Int))) (
  r11 (t_1 + (1 : Int)) (newslice ++ (ix slices t_1))))) else
  some newslice
noncomputable def slices_Concat_L11_F (slices : (List (List Int))) : (Int × (List Int) → Option (List Int)) → Int × (List Int) → Option (List Int) :=
  fun rec x => slices_Concat_L11_B slices (fun t_1 newslice => rec (t_1, newslice)) x.1 x.2
noncomputable def slices_Concat_L11 (slices : (List (List Int))) (t_1 : Int) (newslice : (List Int)) : Option (List Int) := LFix (slices_Concat_L11_F slices ) (t_1, newslice)
noncomputable def slices_Concat_L3_B (slices : (List (List Int))) (r3 : Int → Int → Option (List Int)) (size : Int) (t : Int) : Option (List Int) :=
  if (decide (t < (slices.length : Int))) = true then
  G (0 ≤ t ∧ t < (slices.length : Int)) (
  G (fits (size + ((ix slices t).length : Int))) (
  if (decide ((size + ((ix slices t).length : Int)) < (0 : Int))) = true then
  none else
  G (fits (t + (1 : Int))) (
  r3 (size + ((ix slices t).length : Int)) (t + (1 : Int))))) else
  (slices_Grow size).bind (fun y' =>
  slices_Concat_L11 slices (0 : Int) y')
noncomputable def slices_Concat_L3_F (slices : (List (List Int))) : (Int × Int → Option (List Int)) → Int × Int → Option (List Int) :=
  fun rec x => slices_Concat_L3_B slices (fun size t => rec (size, t)) x.1 x.2
noncomputable def slices_Concat_L3 (slices : (List (List Int))) (size : Int) (t : Int) : Option (List Int) := LFix (slices_Concat_L3_F slices ) (size, t)
noncomputable def slices_Concat (slices : (List (List Int))) : Option (List Int) :=
  slices_Concat_L3 slices (0 : Int) (0 : Int)
theorem slices_Concat_L11_B_ch (r11 : Nat → Int → (List Int) → Option (List Int)) (r11' : Int → (List Int) → Option (List Int)) (h_r11 : ∀ a0 a1, ChO (fun κ => r11 κ a0 a1) (r11' a0 a1)) (slices : (List (List Int))) (t_1 : Int) (newslice : (List Int)) : ChO (fun κ => slices_Concat_L11_B slices (r11 κ) t_1 newslice) (slices_Concat_L11_B slices r11' t_1 newslice) := by
  unfold slices_Concat_L11_B
  repeat' with_reducible first | exact ChO.const _ | exact h_r11 _ _ | apply ChO.ite | apply ChO.G | apply ChO.both | (apply ChO.bind; intro _)
theorem slices_Concat_L11_cn  (slices : (List (List Int))) : Cn (slices_Concat_L11_F slices) := fun g h hg x => slices_Concat_L11_B_ch  (fun κ t_1 newslice => g κ (t_1, newslice)) (fun t_1 newslice => h (t_1, newslice)) (fun t_1 newslice => hg (t_1, newslice)) slices x.1 x.2
theorem slices_Concat_L11_eq  (slices : (List (List Int))) (t_1 : Int) (newslice : (List Int)) : slices_Concat_L11 slices t_1 newslice = slices_Concat_L11_B slices (slices_Concat_L11 slices) t_1 newslice := LFix_eq (slices_Concat_L11_cn slices) (t_1, newslice)
theorem slices_Concat_L3_B_ch (r3 : Nat → Int → Int → Option (List Int)) (r3' : Int → Int → Option (List Int)) (h_r3 : ∀ a0 a1, ChO (fun κ => r3 κ a0 a1) (r3' a0 a1)) (slices : (List (List Int))) (size : Int) (t : Int) : ChO (fun κ => slices_Concat_L3_B slices (r3 κ) size t) (slices_Concat_L3_B slices r3' size t) := by
  unfold slices_Concat_L3_B
  repeat' with_reducible first | exact ChO.const _ | exact h_r3 _ _ | apply ChO.ite | apply ChO.G | apply ChO.both | (apply ChO.bind; intro _)
theorem slices_Concat_L3_cn  (slices : (List (List Int))) : Cn (slices_Concat_L3_F slices) := fun g h hg x => slices_Concat_L3_B_ch  (fun κ size t => g κ (size, t)) (fun size t => h (size, t)) (fun size t => hg (size, t)) slices x.1 x.2
theorem slices_Concat_L3_eq  (slices : (List (List Int))) (size : Int) (t : Int) : slices_Concat_L3 slices size t = slices_Concat_L3_B slices (slices_Concat_L3 slices) size t := LFix_eq (slices_Concat_L3_cn slices) (size, t)

noncomputable def trans_whole (t : (Int × Int × Int × (List Int) × (List (List Int)) × (List (List (List Int))) × (List (List Int)) × Unit)) (w : (List Int)) : Option (List Int) :=
  (trans_run (t.1, (t.2.1, (t.2.2.1, (t.2.2.2.1, (t.2.2.2.2.1, (t.2.2.2.2.2.1, (t.2.2.2.2.2.2.1, ()))))))) t.2.2.1 w).bind (fun y'_4 =>
  G (0 ≤ y'_4.1 ∧ y'_4.1 < (t.2.2.2.2.2.2.1.length : Int)) (
  (slices_Concat ([t.2.2.2.1, y'_4.2, ix t.2.2.2.2.2.2.1 y'_4.1])).bind (fun y'_3 =>
  some y'_3)))

noncomputable def slices_Equal_L4_B (s1 : (List Int)) (s2 : (List Int)) (r4 : Int → Option (Bool)) (t : Int) : Option (Bool) :=
  if (decide (t < (s1.length : Int))) = true then
  G (0 ≤ t ∧ t < (s1.length : Int)) (
  G (0 ≤ t ∧ t < (s2.length : Int)) (
  if (decide (¬ (ix s1 t) = (ix s2 t))) = true then
  some false else
  G (fits (t + (1 : Int))) (
  r4 (t + (1 : Int))))) else
  some true
noncomputable def slices_Equal_L4_F (s1 : (List Int)) (s2 : (List Int)) : (Int → Option (Bool)) → Int → Option (Bool) :=
  fun rec x => slices_Equal_L4_B s1 s2 (fun t => rec t) x
noncomputable def slices_Equal_L4 (s1 : (List Int)) (s2 : (List Int)) (t : Int) : Option (Bool) := LFix (slices_Equal_L4_F s1 s2 ) t
noncomputable def slices_Equal (s1 : (List Int)) (s2 : (List Int)) : Option (Bool) :=
  if (decide (¬ (s1.length : Int) = (s2.length : Int))) = true then
  some false else
  slices_Equal_L4 s1 s2 (0 : Int)
theorem slices_Equal_L4_B_ch (r4 : Nat → Int → Option (Bool)) (r4' : Int → Option (Bool)) (h_r4 : ∀ a0, ChO (fun κ => r4 κ a0) (r4' a0)) (s1 : (List Int)) (s2 : (List Int)) (t : Int) : ChO (fun κ => slices_Equal_L4_B s1 s2 (r4 κ) t) (slices_Equal_L4_B s1 s2 r4' t) := by
  unfold slices_Equal_L4_B
  repeat' with_reducible first | exact ChO.const _ | exact h_r4 _ | apply ChO.ite | apply ChO.G | apply ChO.both | (apply ChO.bind; intro _)
theorem slices_Equal_L4_cn  (s1 : (List Int)) (s2 : (List Int)) : Cn (slices_Equal_L4_F s1 s2) := fun g h hg x => slices_Equal_L4_B_ch  (fun κ t => g κ t) (fun t => h t) (fun t => hg t) s1 s2 x
theorem slices_Equal_L4_eq  (s1 : (List Int)) (s2 : (List Int)) (t : Int) : slices_Equal_L4 s1 s2 t = slices_Equal_L4_B s1 s2 (slices_Equal_L4 s1 s2) t := LFix_eq (slices_Equal_L4_cn s1 s2) t

noncomputable def slices_Clone (s : (List Int)) : Option (List Int) :=
  if s.length = 0 then both [(.list (.int .i64))] (
  some ([])) (
  G (room ([] : List Int) s 8) (
  some (([] : List Int) ++ s))) else
  G (room ([] : List Int) s 8) (
  some (([] : List Int) ++ s))

noncomputable def trans_Differ_L22_B (t : (Int × Int × Int × (List Int) × (List (List Int)) × (List (List (List Int))) × (List (List Int)) × Unit)) (l : (List (List Int))) (r12 : ((List (Int × Int × Unit)) → (List Int) → (List (List Int)) → Option ((List Int) × Bool × Int))) (seen_2 : (List (Int × Int × Unit))) (seen_3 : (List Int)) (r22 : Int → (List (List Int)) → Option ((List Int) × Bool × Int)) (t_2 : Int) (l_1 : (List (List Int))) : Option ((List Int) × Bool × Int) :=
  if (decide (t_2 < t.1)) = true then
  (slices_Clone (ix l (0 : Int))).bind (fun y'_10 =>
  G (room y'_10 ([t_2]) 8) (
  G (room l_1 ([y'_10 ++ ([t_2])]) 24) (
  G (fits (t_2 + (1 : Int))) (
  r22 (t_2 + (1 : Int)) (l_1 ++ ([y'_10 ++ ([t_2])])))))) else
  G (0 ≤ (1 : Int) ∧ (1 : Int) ≤ (l_1.length : Int)) (
  r12 seen_2 seen_3 (l_1.drop ((1 : Int)).toNat))
noncomputable def trans_Differ_L22_F (t : (Int × Int × Int × (List Int) × (List (List Int)) × (List (List (List Int))) × (List (List Int)) × Unit)) (l : (List (List Int))) (r12 : ((List (Int × Int × Unit)) → (List Int) → (List (List Int)) → Option ((List Int) × Bool × Int))) (seen_2 : (List (Int × Int × Unit))) (seen_3 : (List Int)) : (Int × (List (List Int)) → Option ((List Int) × Bool × Int)) → Int × (List (List Int)) → Option ((List Int) × Bool × Int) :=
  fun rec x => trans_Differ_L22_B t l r12 seen_2 seen_3 (fun t_2 l_1 => rec (t_2, l_1)) x.1 x.2
noncomputable def trans_Differ_L22 (t : (Int × Int × Int × (List Int) × (List (List Int)) × (List (List (List Int))) × (List (List Int)) × Unit)) (l : (List (List Int))) (r12 : ((List (Int × Int × Unit)) → (List Int) → (List (List Int)) → Option ((List Int) × Bool × Int))) (seen_2 : (List (Int × Int × Unit))) (seen_3 : (List Int)) (t_2 : Int) (l_1 : (List (List Int))) : Option ((List Int) × Bool × Int) := LFix (trans_Differ_L22_F t l r12 seen_2 seen_3 ) (t_2, l_1)
noncomputable def trans_Differ_J19 (t : (Int × Int × Int × (List Int) × (List (List Int)) × (List (List (List Int))) × (List (List Int)) × Unit)) (l : (List (List Int))) (r12 : ((List (Int × Int × Unit)) → (List Int) → (List (List Int)) → Option ((List Int) × Bool × Int))) (y'_4 : Int) (y'_7 : Int) (seen_2 : (List (Int × Int × Unit))) (seen_3 : (List Int)) : Option ((List Int) × Bool × Int) :=
  if (decide ((1 : Int) < (mget seen_2 seen_3 (y'_4, (y'_7, ())) (0 : Int)))) = true then
  G (0 ≤ (1 : Int) ∧ (1 : Int) ≤ (l.length : Int)) (
  r12 seen_2 seen_3 (l.drop ((1 : Int)).toNat)) else
  trans_Differ_L22 t l r12 seen_2 seen_3 (0 : Int) l
noncomputable def trans_Differ_L12_B (t : (Int × Int × Int × (List Int) × (List (List Int)) × (List (List (List Int))) × (List (List Int)) × Unit)) (u : (Int × Int × Int × (List Int) × (List (List Int)) × (List (List (List Int))) × (List (List Int)) × Unit)) (r12 : (List (Int × Int × Unit)) → (List Int) → (List (List Int)) → Option ((List Int) × Bool × Int)) (seen : (List (Int × Int × Unit))) (seen_1 : (List Int)) (l : (List (List Int))) : Option ((List Int) × Bool × Int) :=
  if (decide ((0 : Int) < (l.length : Int))) = true then
  G (0 ≤ (0 : Int) ∧ (0 : Int) < (l.length : Int)) (
  G (((0 : Int)).toNat < l.length) (
  (trans_whole (t.1, (t.2.1, (t.2.2.1, (t.2.2.2.1, (t.2.2.2.2.1, (t.2.2.2.2.2.1, (t.2.2.2.2.2.2.1, ()))))))) (ix l (0 : Int))).bind (fun y'_1 =>
  (trans_whole (u.1, (u.2.1, (u.2.2.1, (u.2.2.2.1, (u.2.2.2.2.1, (u.2.2.2.2.2.1, (u.2.2.2.2.2.2.1, ()))))))) (ix l (0 : Int))).bind (fun y'_2 =>
  (slices_Equal y'_1 y'_2).bind (fun y'_3 =>
  if (!y'_3) = true then
  some (ix l (0 : Int), true, (0 : Int)) else
  (trans_run (t.1, (t.2.1, (t.2.2.1, (t.2.2.2.1, (t.2.2.2.2.1, (t.2.2.2.2.2.1, (t.2.2.2.2.2.2.1, ()))))))) t.2.2.1 (ix l (0 : Int))).bind (fun y'_12 =>
  (trans_run (u.1, (u.2.1, (u.2.2.1, (u.2.2.2.1, (u.2.2.2.2.1, (u.2.2.2.2.2.1, (u.2.2.2.2.2.2.1, ()))))))) u.2.2.1 (ix l (0 : Int))).bind (fun y'_11 =>
  both [(.list (.int .i64)), .bool, (.int .i64)] (
  G (fits ((mget seen seen_1 (y'_12.1, (y'_11.1, ())) (0 : Int)) + (1 : Int))) (
  G (0 ≤ mpos seen (y'_12.1, (y'_11.1, ())) ∧ mpos seen (y'_12.1, (y'_11.1, ())) < ((mputZ seen seen_1 (y'_12.1, (y'_11.1, ())) (0 : Int)).length : Int)) (
  trans_Differ_J19 t l r12 y'_12.1 y'_11.1 (mputK seen (y'_12.1, (y'_11.1, ()))) ((mputZ seen seen_1 (y'_12.1, (y'_11.1, ())) (0 : Int)).set (mpos seen (y'_12.1, (y'_11.1, ()))).toNat ((mget seen seen_1 (y'_12.1, (y'_11.1, ())) (0 : Int)) + (1 : Int)))))) (
  G (fits ((mget (mputK seen (y'_12.1, (y'_11.1, ()))) (mputZ seen seen_1 (y'_12.1, (y'_11.1, ())) (0 : Int)) (y'_12.1, (y'_11.1, ())) (0 : Int)) + (1 : Int))) (
  G (0 ≤ mpos seen (y'_12.1, (y'_11.1, ())) ∧ mpos seen (y'_12.1, (y'_11.1, ())) < ((mputZ seen seen_1 (y'_12.1, (y'_11.1, ())) (0 : Int)).length : Int)) (
  trans_Differ_J19 t l r12 y'_12.1 y'_11.1 (mputK seen (y'_12.1, (y'_11.1, ()))) ((mputZ seen seen_1 (y'_12.1, (y'_11.1, ())) (0 : Int)).set (mpos seen (y'_12.1, (y'_11.1, ()))).toNat ((mget (mputK seen (y'_12.1, (y'_11.1, ()))) (mputZ seen seen_1 (y'_12.1, (y'_11.1, ())) (0 : Int)) (y'_12.1, (y'_11.1, ())) (0 : Int)) + (1 : Int))))))))))))) else
  some ([], false, (0 : Int))
noncomputable def trans_Differ_L12_F (t : (Int × Int × Int × (List Int) × (List (List Int)) × (List (List (List Int))) × (List (List Int)) × Unit)) (u : (Int × Int × Int × (List Int) × (List (List Int)) × (List (List (List Int))) × (List (List Int)) × Unit)) : ((List (Int × Int × Unit)) × (List Int) × (List (List Int)) → Option ((List Int) × Bool × Int)) → (List (Int × Int × Unit)) × (List Int) × (List (List Int)) → Option ((List Int) × Bool × Int) :=
  fun rec x => trans_Differ_L12_B t u (fun seen seen_1 l => rec (seen, seen_1, l)) x.1 x.2.1 x.2.2
noncomputable def trans_Differ_L12 (t : (Int × Int × Int × (List Int) × (List (List Int)) × (List (List (List Int))) × (List (List Int)) × Unit)) (u : (Int × Int × Int × (List Int) × (List (List Int)) × (List (List (List Int))) × (List (List Int)) × Unit)) (seen : (List (Int × Int × Unit))) (seen_1 : (List Int)) (l : (List (List Int))) : Option ((List Int) × Bool × Int) := LFix (trans_Differ_L12_F t u ) (seen, seen_1, l)
noncomputable def trans_Differ_L2_B (t : (Int × Int × Int × (List Int) × (List (List Int)) × (List (List (List Int))) × (List (List Int)) × Unit)) (u : (Int × Int × Int × (List Int) × (List (List Int)) × (List (List (List Int))) × (List (List Int)) × Unit)) (r2 : Int → Option ((List Int) × Bool × Int)) (t_1 : Int) : Option ((List Int) × Bool × Int) :=
  if (decide (t_1 < (([(t.1, (t.2.1, (t.2.2.1, (t.2.2.2.1, (t.2.2.2.2.1, (t.2.2.2.2.2.1, (t.2.2.2.2.2.2.1, ()))))))), (u.1, (u.2.1, (u.2.2.1, (u.2.2.2.1, (u.2.2.2.2.1, (u.2.2.2.2.2.1, (u.2.2.2.2.2.2.1, ())))))))]).length : Int))) = true then
  G (0 ≤ t_1 ∧ t_1 < (([(t.1, (t.2.1, (t.2.2.1, (t.2.2.2.1, (t.2.2.2.2.1, (t.2.2.2.2.2.1, (t.2.2.2.2.2.2.1, ()))))))), (u.1, (u.2.1, (u.2.2.1, (u.2.2.2.1, (u.2.2.2.2.1, (u.2.2.2.2.2.1, (u.2.2.2.2.2.2.1, ())))))))]).length : Int)) (
  G ((t_1).toNat < ([(t.1, (t.2.1, (t.2.2.1, (t.2.2.2.1, (t.2.2.2.2.1, (t.2.2.2.2.2.1, (t.2.2.2.2.2.2.1, ()))))))), (u.1, (u.2.1, (u.2.2.1, (u.2.2.2.1, (u.2.2.2.2.1, (u.2.2.2.2.2.1, (u.2.2.2.2.2.2.1, ())))))))]).length) (
  (trans_Check ((ix ([(t.1, (t.2.1, (t.2.2.1, (t.2.2.2.1, (t.2.2.2.2.1, (t.2.2.2.2.2.1, (t.2.2.2.2.2.2.1, ()))))))), (u.1, (u.2.1, (u.2.2.1, (u.2.2.2.1, (u.2.2.2.2.1, (u.2.2.2.2.2.1, (u.2.2.2.2.2.2.1, ())))))))]) t_1).1, (((ix ([(t.1, (t.2.1, (t.2.2.1, (t.2.2.2.1, (t.2.2.2.2.1, (t.2.2.2.2.2.1, (t.2.2.2.2.2.2.1, ()))))))), (u.1, (u.2.1, (u.2.2.1, (u.2.2.2.1, (u.2.2.2.2.1, (u.2.2.2.2.2.1, (u.2.2.2.2.2.2.1, ())))))))]) t_1).2).1, ((((ix ([(t.1, (t.2.1, (t.2.2.1, (t.2.2.2.1, (t.2.2.2.2.1, (t.2.2.2.2.2.1, (t.2.2.2.2.2.2.1, ()))))))), (u.1, (u.2.1, (u.2.2.1, (u.2.2.2.1, (u.2.2.2.2.1, (u.2.2.2.2.2.1, (u.2.2.2.2.2.2.1, ())))))))]) t_1).2).2).1, (((((ix ([(t.1, (t.2.1, (t.2.2.1, (t.2.2.2.1, (t.2.2.2.2.1, (t.2.2.2.2.2.1, (t.2.2.2.2.2.2.1, ()))))))), (u.1, (u.2.1, (u.2.2.1, (u.2.2.2.1, (u.2.2.2.2.1, (u.2.2.2.2.2.1, (u.2.2.2.2.2.2.1, ())))))))]) t_1).2).2).2).1, ((((((ix ([(t.1, (t.2.1, (t.2.2.1, (t.2.2.2.1, (t.2.2.2.2.1, (t.2.2.2.2.2.1, (t.2.2.2.2.2.2.1, ()))))))), (u.1, (u.2.1, (u.2.2.1, (u.2.2.2.1, (u.2.2.2.2.1, (u.2.2.2.2.2.1, (u.2.2.2.2.2.2.1, ())))))))]) t_1).2).2).2).2).1, (((((((ix ([(t.1, (t.2.1, (t.2.2.1, (t.2.2.2.1, (t.2.2.2.2.1, (t.2.2.2.2.2.1, (t.2.2.2.2.2.2.1, ()))))))), (u.1, (u.2.1, (u.2.2.1, (u.2.2.2.1, (u.2.2.2.2.1, (u.2.2.2.2.2.1, (u.2.2.2.2.2.2.1, ())))))))]) t_1).2).2).2).2).2).1, ((((((((ix ([(t.1, (t.2.1, (t.2.2.1, (t.2.2.2.1, (t.2.2.2.2.1, (t.2.2.2.2.2.1, (t.2.2.2.2.2.2.1, ()))))))), (u.1, (u.2.1, (u.2.2.1, (u.2.2.2.1, (u.2.2.2.2.1, (u.2.2.2.2.2.1, (u.2.2.2.2.2.2.1, ())))))))]) t_1).2).2).2).2).2).2).1, ())))))))).bind (fun y' =>
  if (decide (¬ y' = (0 : Int))) = true then
  some ([], false, y') else
  G (fits (t_1 + (1 : Int))) (
  r2 (t_1 + (1 : Int)))))) else
  if (decide (¬ t.1 = u.1)) = true then
  some ([], false, (3 : Int)) else
  if (decide (¬ t.2.1 = u.2.1)) = true then
  some ([], false, (3 : Int)) else
  trans_Differ_L12 t u ([] : List (Int × Int × Unit)) ([] : List Int) ([([] : List Int)])
noncomputable def trans_Differ_L2_F (t : (Int × Int × Int × (List Int) × (List (List Int)) × (List (List (List Int))) × (List (List Int)) × Unit)) (u : (Int × Int × Int × (List Int) × (List (List Int)) × (List (List (List Int))) × (List (List Int)) × Unit)) : (Int → Option ((List Int) × Bool × Int)) → Int → Option ((List Int) × Bool × Int) :=
  fun rec x => trans_Differ_L2_B t u (fun t_1 => rec t_1) x
noncomputable def trans_Differ_L2 (t : (Int × Int × Int × (List Int) × (List (List Int)) × (List (List (List Int))) × (List (List Int)) × Unit)) (u : (Int × Int × Int × (List Int) × (List (List Int)) × (List (List (List Int))) × (List (List Int)) × Unit)) (t_1 : Int) : Option ((List Int) × Bool × Int) := LFix (trans_Differ_L2_F t u ) t_1
noncomputable def trans_Differ (t : (Int × Int × Int × (List Int) × (List (List Int)) × (List (List (List Int))) × (List (List Int)) × Unit)) (u : (Int × Int × Int × (List Int) × (List (List Int)) × (List (List (List Int))) × (List (List Int)) × Unit)) : Option ((List Int) × Bool × Int) :=
  trans_Differ_L2 t u (0 : Int)
theorem trans_Differ_L22_B_ch (r12 : Nat → (List (Int × Int × Unit)) → (List Int) → (List (List Int)) → Option ((List Int) × Bool × Int)) (r12' : (List (Int × Int × Unit)) → (List Int) → (List (List Int)) → Option ((List Int) × Bool × Int)) (h_r12 : ∀ a0 a1 a2, ChO (fun κ => r12 κ a0 a1 a2) (r12' a0 a1 a2)) (r22 : Nat → Int → (List (List Int)) → Option ((List Int) × Bool × Int)) (r22' : Int → (List (List Int)) → Option ((List Int) × Bool × Int)) (h_r22 : ∀ a0 a1, ChO (fun κ => r22 κ a0 a1) (r22' a0 a1)) (t : (Int × Int × Int × (List Int) × (List (List Int)) × (List (List (List Int))) × (List (List Int)) × Unit)) (l : (List (List Int))) (seen_2 : (List (Int × Int × Unit))) (seen_3 : (List Int)) (t_2 : Int) (l_1 : (List (List Int))) : ChO (fun κ => trans_Differ_L22_B t l (r12 κ) seen_2 seen_3 (r22 κ) t_2 l_1) (trans_Differ_L22_B t l r12' seen_2 seen_3 r22' t_2 l_1) := by
  unfold trans_Differ_L22_B
  repeat' with_reducible first | exact ChO.const _ | exact h_r12 _ _ _ | exact h_r22 _ _ | apply ChO.ite | apply ChO.G | apply ChO.both | (apply ChO.bind; intro _)
theorem trans_Differ_L22_cn (r12 : (List (Int × Int × Unit)) → (List Int) → (List (List Int)) → Option ((List Int) × Bool × Int)) (t : (Int × Int × Int × (List Int) × (List (List Int)) × (List (List (List Int))) × (List (List Int)) × Unit)) (l : (List (List Int))) (seen_2 : (List (Int × Int × Unit))) (seen_3 : (List Int)) : Cn (trans_Differ_L22_F t l r12 seen_2 seen_3) := fun g h hg x => trans_Differ_L22_B_ch (fun _ => r12) r12 (fun _ _ _ => ChO.const _) (fun κ t_2 l_1 => g κ (t_2, l_1)) (fun t_2 l_1 => h (t_2, l_1)) (fun t_2 l_1 => hg (t_2, l_1)) t l seen_2 seen_3 x.1 x.2
theorem trans_Differ_L22_eq (r12 : (List (Int × Int × Unit)) → (List Int) → (List (List Int)) → Option ((List Int) × Bool × Int)) (t : (Int × Int × Int × (List Int) × (List (List Int)) × (List (List (List Int))) × (List (List Int)) × Unit)) (l : (List (List Int))) (seen_2 : (List (Int × Int × Unit))) (seen_3 : (List Int)) (t_2 : Int) (l_1 : (List (List Int))) : trans_Differ_L22 t l r12 seen_2 seen_3 t_2 l_1 = trans_Differ_L22_B t l r12 seen_2 seen_3 (trans_Differ_L22 t l r12 seen_2 seen_3) t_2 l_1 := LFix_eq (trans_Differ_L22_cn r12 t l seen_2 seen_3) (t_2, l_1)
theorem trans_Differ_L22_ch (r12 : Nat → (List (Int × Int × Unit)) → (List Int) → (List (List Int)) → Option ((List Int) × Bool × Int)) (r12' : (List (Int × Int × Unit)) → (List Int) → (List (List Int)) → Option ((List Int) × Bool × Int)) (h_r12 : ∀ a0 a1 a2, ChO (fun κ => r12 κ a0 a1 a2) (r12' a0 a1 a2)) (t : (Int × Int × Int × (List Int) × (List (List Int)) × (List (List (List Int))) × (List (List Int)) × Unit)) (l : (List (List Int))) (seen_2 : (List (Int × Int × Unit))) (seen_3 : (List Int)) (t_2 : Int) (l_1 : (List (List Int))) : ChO (fun κ => trans_Differ_L22 t l (r12 κ) seen_2 seen_3 t_2 l_1) (trans_Differ_L22 t l r12' seen_2 seen_3 t_2 l_1) := by
  unfold trans_Differ_L22
  exact LFix_ch (fun κ => (trans_Differ_L22_cn (r12 κ) t l seen_2 seen_3).mono) (trans_Differ_L22_cn r12' t l seen_2 seen_3).mono (fun g h hg x => trans_Differ_L22_B_ch r12 r12' h_r12 (fun κ t_2 l_1 => g κ (t_2, l_1)) (fun t_2 l_1 => h (t_2, l_1)) (fun t_2 l_1 => hg (t_2, l_1)) t l seen_2 seen_3 x.1 x.2) _
theorem trans_Differ_J19_ch (r12 : Nat → (List (Int × Int × Unit)) → (List Int) → (List (List Int)) → Option ((List Int) × Bool × Int)) (r12' : (List (Int × Int × Unit)) → (List Int) → (List (List Int)) → Option ((List Int) × Bool × Int)) (h_r12 : ∀ a0 a1 a2, ChO (fun κ => r12 κ a0 a1 a2) (r12' a0 a1 a2)) (t : (Int × Int × Int × (List Int) × (List (List Int)) × (List (List (List Int))) × (List (List Int)) × Unit)) (l : (List (List Int))) (y'_4 : Int) (y'_7 : Int) (seen_2 : (List (Int × Int × Unit))) (seen_3 : (List Int)) : ChO (fun κ => trans_Differ_J19 t l (r12 κ) y'_4 y'_7 seen_2 seen_3) (trans_Differ_J19 t l r12' y'_4 y'_7 seen_2 seen_3) := by
  unfold trans_Differ_J19
  repeat' with_reducible first | exact ChO.const _ | exact h_r12 _ _ _ | (apply trans_Differ_L22_ch <;> assumption) | apply ChO.ite | apply ChO.G | apply ChO.both | (apply ChO.bind; intro _)
theorem trans_Differ_L12_B_ch (r12 : Nat → (List (Int × Int × Unit)) → (List Int) → (List (List Int)) → Option ((List Int) × Bool × Int)) (r12' : (List (Int × Int × Unit)) → (List Int) → (List (List Int)) → Option ((List Int) × Bool × Int)) (h_r12 : ∀ a0 a1 a2, ChO (fun κ => r12 κ a0 a1 a2) (r12' a0 a1 a2)) (t : (Int × Int × Int × (List Int) × (List (List Int)) × (List (List (List Int))) × (List (List Int)) × Unit)) (u : (Int × Int × Int × (List Int) × (List (List Int)) × (List (List (List Int))) × (List (List Int)) × Unit)) (seen : (List (Int × Int × Unit))) (seen_1 : (List Int)) (l : (List (List Int))) : ChO (fun κ => trans_Differ_L12_B t u (r12 κ) seen seen_1 l) (trans_Differ_L12_B t u r12' seen seen_1 l) := by
  unfold trans_Differ_L12_B
  repeat' with_reducible first | exact ChO.const _ | exact h_r12 _ _ _ | (apply trans_Differ_L22_ch <;> assumption) | (apply trans_Differ_J19_ch <;> assumption) | apply ChO.ite | apply ChO.G | apply ChO.both | (apply ChO.bind; intro _)
theorem trans_Differ_L12_cn  (t : (Int × Int × Int × (List Int) × (List (List Int)) × (List (List (List Int))) × (List (List Int)) × Unit)) (u : (Int × Int × Int × (List Int) × (List (List Int)) × (List (List (List Int))) × (List (List Int)) × Unit)) : Cn (trans_Differ_L12_F t u) := fun g h hg x => trans_Differ_L12_B_ch  (fun κ seen seen_1 l => g κ (seen, seen_1, l)) (fun seen seen_1 l => h (seen, seen_1, l)) (fun seen seen_1 l => hg (seen, seen_1, l)) t u x.1 x.2.1 x.2.2
theorem trans_Differ_L12_eq  (t : (Int × Int × Int × (List Int) × (List (List Int)) × (List (List (List Int))) × (List (List Int)) × Unit)) (u : (Int × Int × Int × (List Int) × (List (List Int)) × (List (List (List Int))) × (List (List Int)) × Unit)) (seen : (List (Int × Int × Unit))) (seen_1 : (List Int)) (l : (List (List Int))) : trans_Differ_L12 t u seen seen_1 l = trans_Differ_L12_B t u (trans_Differ_L12 t u) seen seen_1 l := LFix_eq (trans_Differ_L12_cn t u) (seen, seen_1, l)
theorem trans_Differ_L2_B_ch (r2 : Nat → Int → Option ((List Int) × Bool × Int)) (r2' : Int → Option ((List Int) × Bool × Int)) (h_r2 : ∀ a0, ChO (fun κ => r2 κ a0) (r2' a0)) (t : (Int × Int × Int × (List Int) × (List (List Int)) × (List (List (List Int))) × (List (List Int)) × Unit)) (u : (Int × Int × Int × (List Int) × (List (List Int)) × (List (List (List Int))) × (List (List Int)) × Unit)) (t_1 : Int) : ChO (fun κ => trans_Differ_L2_B t u (r2 κ) t_1) (trans_Differ_L2_B t u r2' t_1) := by
  unfold trans_Differ_L2_B
  repeat' with_reducible first | exact ChO.const _ | exact h_r2 _ | (apply trans_Differ_L22_ch <;> assumption) | (apply trans_Differ_J19_ch <;> assumption) | apply ChO.ite | apply ChO.G | apply ChO.both | (apply ChO.bind; intro _)
theorem trans_Differ_L2_cn  (t : (Int × Int × Int × (List Int) × (List (List Int)) × (List (List (List Int))) × (List (List Int)) × Unit)) (u : (Int × Int × Int × (List Int) × (List (List Int)) × (List (List (List Int))) × (List (List Int)) × Unit)) : Cn (trans_Differ_L2_F t u) := fun g h hg x => trans_Differ_L2_B_ch  (fun κ t_1 => g κ t_1) (fun t_1 => h t_1) (fun t_1 => hg t_1) t u x
theorem trans_Differ_L2_eq  (t : (Int × Int × Int × (List Int) × (List (List Int)) × (List (List (List Int))) × (List (List Int)) × Unit)) (u : (Int × Int × Int × (List Int) × (List (List Int)) × (List (List (List Int))) × (List (List Int)) × Unit)) (t_1 : Int) : trans_Differ_L2 t u t_1 = trans_Differ_L2_B t u (trans_Differ_L2 t u) t_1 := LFix_eq (trans_Differ_L2_cn t u) t_1

noncomputable def r16_Words_L5_B (t : (Int × Int × Int × (List Int) × (List (List Int)) × (List (List (List Int))) × (List (List Int)) × Unit)) (r5 : Int → (List (List Int)) → Option (List (List Int))) (q : Int) (l : (List (List Int))) : Option (List (List Int)) :=
  if (decide (q < (t.2.2.2.2.2.1.length : Int))) = true then
  G (0 ≤ q ∧ q < (t.2.2.2.2.2.1.length : Int)) (
  G (room l (ix t.2.2.2.2.2.1 q) 24) (
  G (fits (q + (1 : Int))) (
  r5 (q + (1 : Int)) (l ++ (ix t.2.2.2.2.2.1 q))))) else
  some l
noncomputable def r16_Words_L5_F (t : (Int × Int × Int × (List Int) × (List (List Int)) × (List (List (List Int))) × (List (List Int)) × Unit)) : (Int × (List (List Int)) → Option (List (List Int))) → Int × (List (List Int)) → Option (List (List Int)) :=
  fun rec x => r16_Words_L5_B t (fun q l => rec (q, l)) x.1 x.2
noncomputable def r16_Words_L5 (t : (Int × Int × Int × (List Int) × (List (List Int)) × (List (List (List Int))) × (List (List Int)) × Unit)) (q : Int) (l : (List (List Int))) : Option (List (List Int)) := LFix (r16_Words_L5_F t ) (q, l)
noncomputable def r16_Words (t : (Int × Int × Int × (List Int) × (List (List Int)) × (List (List (List Int))) × (List (List Int)) × Unit)) : Option (List (List Int)) :=
  G (room ([] : List (List Int)) ([t.2.2.2.1]) 24) (
  G (room ([t.2.2.2.1]) t.2.2.2.2.2.2.1 24) (
  r16_Words_L5 t (0 : Int) (([t.2.2.2.1]) ++ t.2.2.2.2.2.2.1)))
theorem r16_Words_L5_B_ch (r5 : Nat → Int → (List (List Int)) → Option (List (List Int))) (r5' : Int → (List (List Int)) → Option (List (List Int))) (h_r5 : ∀ a0 a1, ChO (fun κ => r5 κ a0 a1) (r5' a0 a1)) (t : (Int × Int × Int × (List Int) × (List (List Int)) × (List (List (List Int))) × (List (List Int)) × Unit)) (q : Int) (l : (List (List Int))) : ChO (fun κ => r16_Words_L5_B t (r5 κ) q l) (r16_Words_L5_B t r5' q l) := by
  unfold r16_Words_L5_B
  repeat' with_reducible first | exact ChO.const _ | exact h_r5 _ _ | apply ChO.ite | apply ChO.G | apply ChO.both | (apply ChO.bind; intro _)
theorem r16_Words_L5_cn  (t : (Int × Int × Int × (List Int) × (List (List Int)) × (List (List (List Int))) × (List (List Int)) × Unit)) : Cn (r16_Words_L5_F t) := fun g h hg x => r16_Words_L5_B_ch  (fun κ q l => g κ (q, l)) (fun q l => h (q, l)) (fun q l => hg (q, l)) t x.1 x.2
theorem r16_Words_L5_eq  (t : (Int × Int × Int × (List Int) × (List (List Int)) × (List (List (List Int))) × (List (List Int)) × Unit)) (q : Int) (l : (List (List Int))) : r16_Words_L5 t q l = r16_Words_L5_B t (r16_Words_L5 t) q l := LFix_eq (r16_Words_L5_cn t) (q, l)

noncomputable def r16_Long_L3_B (y' : (List (List Int))) (r3 : Int → Option (Bool)) (i : Int) : Option (Bool) :=
  if (decide (i < (y'.length : Int))) = true then
  G (0 ≤ i ∧ i < (y'.length : Int)) (
  G ((i).toNat < y'.length) (
  if (decide ((8 : Int) < ((ix y' i).length : Int))) = true then
  some true else
  G (fits (i + (1 : Int))) (
  r3 (i + (1 : Int))))) else
  some false
noncomputable def r16_Long_L3_F (y' : (List (List Int))) : (Int → Option (Bool)) → Int → Option (Bool) :=
  fun rec x => r16_Long_L3_B y' (fun i => rec i) x
noncomputable def r16_Long_L3 (y' : (List (List Int))) (i : Int) : Option (Bool) := LFix (r16_Long_L3_F y' ) i
noncomputable def r16_Long (t : (Int × Int × Int × (List Int) × (List (List Int)) × (List (List (List Int))) × (List (List Int)) × Unit)) : Option (Bool) :=
  (r16_Words (t.1, (t.2.1, (t.2.2.1, (t.2.2.2.1, (t.2.2.2.2.1, (t.2.2.2.2.2.1, (t.2.2.2.2.2.2.1, ())))))))).bind (fun y' =>
  r16_Long_L3 y' (0 : Int))
theorem r16_Long_L3_B_ch (r3 : Nat → Int → Option (Bool)) (r3' : Int → Option (Bool)) (h_r3 : ∀ a0, ChO (fun κ => r3 κ a0) (r3' a0)) (y' : (List (List Int))) (i : Int) : ChO (fun κ => r16_Long_L3_B y' (r3 κ) i) (r16_Long_L3_B y' r3' i) := by
  unfold r16_Long_L3_B
  repeat' with_reducible first | exact ChO.const _ | exact h_r3 _ | apply ChO.ite | apply ChO.G | apply ChO.both | (apply ChO.bind; intro _)
theorem r16_Long_L3_cn  (y' : (List (List Int))) : Cn (r16_Long_L3_F y') := fun g h hg x => r16_Long_L3_B_ch  (fun κ i => g κ i) (fun i => h i) (fun i => hg i) y' x
theorem r16_Long_L3_eq  (y' : (List (List Int))) (i : Int) : r16_Long_L3 y' i = r16_Long_L3_B y' (r16_Long_L3 y') i := LFix_eq (r16_Long_L3_cn y') i

noncomputable def r16_letters_L2_B (w : (List Int)) (out : Int) (r2 : Int → Option (Int)) (i : Int) : Option (Int) :=
  if (decide (i < (w.length : Int))) = true then
  G (0 ≤ i ∧ i < (w.length : Int)) (
  if (decide ((ix w i) < (0 : Int))) = true then
  some (2 : Int) else
  G (0 ≤ i ∧ i < (w.length : Int)) (
  if (decide (out ≤ (ix w i))) = true then
  some (2 : Int) else
  G (fits (i + (1 : Int))) (
  r2 (i + (1 : Int))))) else
  some (0 : Int)
noncomputable def r16_letters_L2_F (w : (List Int)) (out : Int) : (Int → Option (Int)) → Int → Option (Int) :=
  fun rec x => r16_letters_L2_B w out (fun i => rec i) x
noncomputable def r16_letters_L2 (w : (List Int)) (out : Int) (i : Int) : Option (Int) := LFix (r16_letters_L2_F w out ) i
noncomputable def r16_letters (w : (List Int)) (out : Int) : Option (Int) :=
  r16_letters_L2 w out (0 : Int)
theorem r16_letters_L2_B_ch (r2 : Nat → Int → Option (Int)) (r2' : Int → Option (Int)) (h_r2 : ∀ a0, ChO (fun κ => r2 κ a0) (r2' a0)) (w : (List Int)) (out : Int) (i : Int) : ChO (fun κ => r16_letters_L2_B w out (r2 κ) i) (r16_letters_L2_B w out r2' i) := by
  unfold r16_letters_L2_B
  repeat' with_reducible first | exact ChO.const _ | exact h_r2 _ | apply ChO.ite | apply ChO.G | apply ChO.both | (apply ChO.bind; intro _)
theorem r16_letters_L2_cn  (w : (List Int)) (out : Int) : Cn (r16_letters_L2_F w out) := fun g h hg x => r16_letters_L2_B_ch  (fun κ i => g κ i) (fun i => h i) (fun i => hg i) w out x
theorem r16_letters_L2_eq  (w : (List Int)) (out : Int) (i : Int) : r16_letters_L2 w out i = r16_letters_L2_B w out (r16_letters_L2 w out) i := LFix_eq (r16_letters_L2_cn w out) i

noncomputable def r16_Check_L19_B (t : (Int × Int × Int × (List Int) × (List (List Int)) × (List (List (List Int))) × (List (List Int)) × Unit)) (q_1 : Int) (r16 : (Int → Option (Int))) (r19 : Int → Option (Int)) (a : Int) : Option (Int) :=
  if (decide (a < t.1)) = true then
  G (0 ≤ q_1 ∧ q_1 < (t.2.2.2.2.1.length : Int)) (
  G (0 ≤ a ∧ a < ((ix t.2.2.2.2.1 q_1).length : Int)) (
  if (decide ((ix (ix t.2.2.2.2.1 q_1) a) < (0 : Int))) = true then
  some (2 : Int) else
  G (0 ≤ q_1 ∧ q_1 < (t.2.2.2.2.1.length : Int)) (
  G (0 ≤ a ∧ a < ((ix t.2.2.2.2.1 q_1).length : Int)) (
  if (decide ((t.2.2.2.2.1.length : Int) ≤ (ix (ix t.2.2.2.2.1 q_1) a))) = true then
  some (2 : Int) else
  G (fits (a + (1 : Int))) (
  r19 (a + (1 : Int))))))) else
  G (fits (q_1 + (1 : Int))) (
  r16 (q_1 + (1 : Int)))
noncomputable def r16_Check_L19_F (t : (Int × Int × Int × (List Int) × (List (List Int)) × (List (List (List Int))) × (List (List Int)) × Unit)) (q_1 : Int) (r16 : (Int → Option (Int))) : (Int → Option (Int)) → Int → Option (Int) :=
  fun rec x => r16_Check_L19_B t q_1 r16 (fun a => rec a) x
noncomputable def r16_Check_L19 (t : (Int × Int × Int × (List Int) × (List (List Int)) × (List (List (List Int))) × (List (List Int)) × Unit)) (q_1 : Int) (r16 : (Int → Option (Int))) (a : Int) : Option (Int) := LFix (r16_Check_L19_F t q_1 r16 ) a
noncomputable def r16_Check_L28_B (t : (Int × Int × Int × (List Int) × (List (List Int)) × (List (List (List Int))) × (List (List Int)) × Unit)) (y'_1 : (List (List Int))) (r28 : Int → Option (Int)) (i : Int) : Option (Int) :=
  if (decide (i < (y'_1.length : Int))) = true then
  G (0 ≤ i ∧ i < (y'_1.length : Int)) (
  G ((i).toNat < y'_1.length) (
  (r16_letters (ix y'_1 i) t.2.1).bind (fun y'_2 =>
  if (decide (¬ y'_2 = (0 : Int))) = true then
  some y'_2 else
  G (fits (i + (1 : Int))) (
  r28 (i + (1 : Int)))))) else
  some (0 : Int)
noncomputable def r16_Check_L28_F (t : (Int × Int × Int × (List Int) × (List (List Int)) × (List (List (List Int))) × (List (List Int)) × Unit)) (y'_1 : (List (List Int))) : (Int → Option (Int)) → Int → Option (Int) :=
  fun rec x => r16_Check_L28_B t y'_1 (fun i => rec i) x
noncomputable def r16_Check_L28 (t : (Int × Int × Int × (List Int) × (List (List Int)) × (List (List (List Int))) × (List (List Int)) × Unit)) (y'_1 : (List (List Int))) (i : Int) : Option (Int) := LFix (r16_Check_L28_F t y'_1 ) i
noncomputable def r16_Check_L16_B (t : (Int × Int × Int × (List Int) × (List (List Int)) × (List (List (List Int))) × (List (List Int)) × Unit)) (r16 : Int → Option (Int)) (q_1 : Int) : Option (Int) :=
  if (decide (q_1 < (t.2.2.2.2.1.length : Int))) = true then
  r16_Check_L19 t q_1 r16 (0 : Int) else
  (r16_Long (t.1, (t.2.1, (t.2.2.1, (t.2.2.2.1, (t.2.2.2.2.1, (t.2.2.2.2.2.1, (t.2.2.2.2.2.2.1, ())))))))).bind (fun y' =>
  if y' = true then
  some (1 : Int) else
  (r16_Words (t.1, (t.2.1, (t.2.2.1, (t.2.2.2.1, (t.2.2.2.2.1, (t.2.2.2.2.2.1, (t.2.2.2.2.2.2.1, ())))))))).bind (fun y'_1 =>
  r16_Check_L28 t y'_1 (0 : Int)))
noncomputable def r16_Check_L16_F (t : (Int × Int × Int × (List Int) × (List (List Int)) × (List (List (List Int))) × (List (List Int)) × Unit)) : (Int → Option (Int)) → Int → Option (Int) :=
  fun rec x => r16_Check_L16_B t (fun q_1 => rec q_1) x
noncomputable def r16_Check_L16 (t : (Int × Int × Int × (List Int) × (List (List Int)) × (List (List (List Int))) × (List (List Int)) × Unit)) (q_1 : Int) : Option (Int) := LFix (r16_Check_L16_F t ) q_1
noncomputable def r16_Check_L9_B (t : (Int × Int × Int × (List Int) × (List (List Int)) × (List (List (List Int))) × (List (List Int)) × Unit)) (r9 : Int → Option (Int)) (q : Int) : Option (Int) :=
  if (decide (q < (t.2.2.2.2.1.length : Int))) = true then
  G (0 ≤ q ∧ q < (t.2.2.2.2.1.length : Int)) (
  if (decide (¬ ((ix t.2.2.2.2.1 q).length : Int) = t.1)) = true then
  some (3 : Int) else
  G (0 ≤ q ∧ q < (t.2.2.2.2.2.1.length : Int)) (
  if (decide (¬ ((ix t.2.2.2.2.2.1 q).length : Int) = t.1)) = true then
  some (3 : Int) else
  G (fits (q + (1 : Int))) (
  r9 (q + (1 : Int))))) else
  if (decide (t.2.2.1 < (0 : Int))) = true then
  some (2 : Int) else
  if (decide ((t.2.2.2.2.1.length : Int) ≤ t.2.2.1)) = true then
  some (2 : Int) else
  r16_Check_L16 t (0 : Int)
noncomputable def r16_Check_L9_F (t : (Int × Int × Int × (List Int) × (List (List Int)) × (List (List (List Int))) × (List (List Int)) × Unit)) : (Int → Option (Int)) → Int → Option (Int) :=
  fun rec x => r16_Check_L9_B t (fun q => rec q) x
noncomputable def r16_Check_L9 (t : (Int × Int × Int × (List Int) × (List (List Int)) × (List (List (List Int))) × (List (List Int)) × Unit)) (q : Int) : Option (Int) := LFix (r16_Check_L9_F t ) q
noncomputable def r16_Check (t : (Int × Int × Int × (List Int) × (List (List Int)) × (List (List (List Int))) × (List (List Int)) × Unit)) : Option (Int) :=
  if (decide (t.1 < (1 : Int))) = true then
  some (2 : Int) else
  if (decide ((4 : Int) < t.1)) = true then
  some (2 : Int) else
  if (decide (t.2.1 < (1 : Int))) = true then
  some (2 : Int) else
  if (decide ((4 : Int) < t.2.1)) = true then
  some (2 : Int) else
  if (decide ((t.2.2.2.2.1.length : Int) < (1 : Int))) = true then
  some (1 : Int) else
  if (decide ((6 : Int) < (t.2.2.2.2.1.length : Int))) = true then
  some (1 : Int) else
  if (decide (¬ (t.2.2.2.2.2.1.length : Int) = (t.2.2.2.2.1.length : Int))) = true then
  some (3 : Int) else
  if (decide (¬ (t.2.2.2.2.2.2.1.length : Int) = (t.2.2.2.2.1.length : Int))) = true then
  some (3 : Int) else
  r16_Check_L9 t (0 : Int)
theorem r16_Check_L19_B_ch (r16 : Nat → Int → Option (Int)) (r16' : Int → Option (Int)) (h_r16 : ∀ a0, ChO (fun κ => r16 κ a0) (r16' a0)) (r19 : Nat → Int → Option (Int)) (r19' : Int → Option (Int)) (h_r19 : ∀ a0, ChO (fun κ => r19 κ a0) (r19' a0)) (t : (Int × Int × Int × (List Int) × (List (List Int)) × (List (List (List Int))) × (List (List Int)) × Unit)) (q_1 : Int) (a : Int) : ChO (fun κ => r16_Check_L19_B t q_1 (r16 κ) (r19 κ) a) (r16_Check_L19_B t q_1 r16' r19' a) := by
  unfold r16_Check_L19_B
  repeat' with_reducible first | exact ChO.const _ | exact h_r16 _ | exact h_r19 _ | apply ChO.ite | apply ChO.G | apply ChO.both | (apply ChO.bind; intro _)
theorem r16_Check_L19_cn (r16 : Int → Option (Int)) (t : (Int × Int × Int × (List Int) × (List (List Int)) × (List (List (List Int))) × (List (List Int)) × Unit)) (q_1 : Int) : Cn (r16_Check_L19_F t q_1 r16) := fun g h hg x => r16_Check_L19_B_ch (fun _ => r16) r16 (fun _ => ChO.const _) (fun κ a => g κ a) (fun a => h a) (fun a => hg a) t q_1 x
theorem r16_Check_L19_eq (r16 : Int → Option (Int)) (t : (Int × Int × Int × (List Int) × (List (List Int)) × (List (List (List Int))) × (List (List Int)) × Unit)) (q_1 : Int) (a : Int) : r16_Check_L19 t q_1 r16 a = r16_Check_L19_B t q_1 r16 (r16_Check_L19 t q_1 r16) a := LFix_eq (r16_Check_L19_cn r16 t q_1) a
theorem r16_Check_L19_ch (r16 : Nat → Int → Option (Int)) (r16' : Int → Option (Int)) (h_r16 : ∀ a0, ChO (fun κ => r16 κ a0) (r16' a0)) (t : (Int × Int × Int × (List Int) × (List (List Int)) × (List (List (List Int))) × (List (List Int)) × Unit)) (q_1 : Int) (a : Int) : ChO (fun κ => r16_Check_L19 t q_1 (r16 κ) a) (r16_Check_L19 t q_1 r16' a) := by
  unfold r16_Check_L19
  exact LFix_ch (fun κ => (r16_Check_L19_cn (r16 κ) t q_1).mono) (r16_Check_L19_cn r16' t q_1).mono (fun g h hg x => r16_Check_L19_B_ch r16 r16' h_r16 (fun κ a => g κ a) (fun a => h a) (fun a => hg a) t q_1 x) _
theorem r16_Check_L28_B_ch (r28 : Nat → Int → Option (Int)) (r28' : Int → Option (Int)) (h_r28 : ∀ a0, ChO (fun κ => r28 κ a0) (r28' a0)) (t : (Int × Int × Int × (List Int) × (List (List Int)) × (List (List (List Int))) × (List (List Int)) × Unit)) (y'_1 : (List (List Int))) (i : Int) : ChO (fun κ => r16_Check_L28_B t y'_1 (r28 κ) i) (r16_Check_L28_B t y'_1 r28' i) := by
  unfold r16_Check_L28_B
  repeat' with_reducible first | exact ChO.const _ | exact h_r28 _ | (apply r16_Check_L19_ch <;> assumption) | apply ChO.ite | apply ChO.G | apply ChO.both | (apply ChO.bind; intro _)
theorem r16_Check_L28_cn  (t : (Int × Int × Int × (List Int) × (List (List Int)) × (List (List (List Int))) × (List (List Int)) × Unit)) (y'_1 : (List (List Int))) : Cn (r16_Check_L28_F t y'_1) := fun g h hg x => r16_Check_L28_B_ch  (fun κ i => g κ i) (fun i => h i) (fun i => hg i) t y'_1 x
theorem r16_Check_L28_eq  (t : (Int × Int × Int × (List Int) × (List (List Int)) × (List (List (List Int))) × (List (List Int)) × Unit)) (y'_1 : (List (List Int))) (i : Int) : r16_Check_L28 t y'_1 i = r16_Check_L28_B t y'_1 (r16_Check_L28 t y'_1) i := LFix_eq (r16_Check_L28_cn t y'_1) i
theorem r16_Check_L16_B_ch (r16 : Nat → Int → Option (Int)) (r16' : Int → Option (Int)) (h_r16 : ∀ a0, ChO (fun κ => r16 κ a0) (r16' a0)) (t : (Int × Int × Int × (List Int) × (List (List Int)) × (List (List (List Int))) × (List (List Int)) × Unit)) (q_1 : Int) : ChO (fun κ => r16_Check_L16_B t (r16 κ) q_1) (r16_Check_L16_B t r16' q_1) := by
  unfold r16_Check_L16_B
  repeat' with_reducible first | exact ChO.const _ | exact h_r16 _ | (apply r16_Check_L19_ch <;> assumption) | apply ChO.ite | apply ChO.G | apply ChO.both | (apply ChO.bind; intro _)
theorem r16_Check_L16_cn  (t : (Int × Int × Int × (List Int) × (List (List Int)) × (List (List (List Int))) × (List (List Int)) × Unit)) : Cn (r16_Check_L16_F t) := fun g h hg x => r16_Check_L16_B_ch  (fun κ q_1 => g κ q_1) (fun q_1 => h q_1) (fun q_1 => hg q_1) t x
theorem r16_Check_L16_eq  (t : (Int × Int × Int × (List Int) × (List (List Int)) × (List (List (List Int))) × (List (List Int)) × Unit)) (q_1 : Int) : r16_Check_L16 t q_1 = r16_Check_L16_B t (r16_Check_L16 t) q_1 := LFix_eq (r16_Check_L16_cn t) q_1
theorem r16_Check_L9_B_ch (r9 : Nat → Int → Option (Int)) (r9' : Int → Option (Int)) (h_r9 : ∀ a0, ChO (fun κ => r9 κ a0) (r9' a0)) (t : (Int × Int × Int × (List Int) × (List (List Int)) × (List (List (List Int))) × (List (List Int)) × Unit)) (q : Int) : ChO (fun κ => r16_Check_L9_B t (r9 κ) q) (r16_Check_L9_B t r9' q) := by
  unfold r16_Check_L9_B
  repeat' with_reducible first | exact ChO.const _ | exact h_r9 _ | (apply r16_Check_L19_ch <;> assumption) | apply ChO.ite | apply ChO.G | apply ChO.both | (apply ChO.bind; intro _)
theorem r16_Check_L9_cn  (t : (Int × Int × Int × (List Int) × (List (List Int)) × (List (List (List Int))) × (List (List Int)) × Unit)) : Cn (r16_Check_L9_F t) := fun g h hg x => r16_Check_L9_B_ch  (fun κ q => g κ q) (fun q => h q) (fun q => hg q) t x
theorem r16_Check_L9_eq  (t : (Int × Int × Int × (List Int) × (List (List Int)) × (List (List (List Int))) × (List (List Int)) × Unit)) (q : Int) : r16_Check_L9 t q = r16_Check_L9_B t (r16_Check_L9 t) q := LFix_eq (r16_Check_L9_cn t) q

noncomputable def r16_Run_L4_B (t : (Int × Int × Int × (List Int) × (List (List Int)) × (List (List (List Int))) × (List (List Int)) × Unit)) (w : (List Int)) (r4 : Int → Int → (List Int) → Option (List Int)) (q : Int) (i : Int) (out : (List Int)) : Option (List Int) :=
  if (decide (i < (w.length : Int))) = true then
  G (0 ≤ q ∧ q < (t.2.2.2.2.2.1.length : Int)) (
  G (0 ≤ i ∧ i < (w.length : Int)) (
  G (0 ≤ ix w i ∧ ix w i < ((ix t.2.2.2.2.2.1 q).length : Int)) (
  G (room out (ix (ix t.2.2.2.2.2.1 q) (ix w i)) 8) (
  G (0 ≤ q ∧ q < (t.2.2.2.2.1.length : Int)) (
  G (0 ≤ i ∧ i < (w.length : Int)) (
  G (0 ≤ ix w i ∧ ix w i < ((ix t.2.2.2.2.1 q).length : Int)) (
  G (fits (i + (1 : Int))) (
  r4 (ix (ix t.2.2.2.2.1 q) (ix w i)) (i + (1 : Int)) (out ++ (ix (ix t.2.2.2.2.2.1 q) (ix w i))))))))))) else
  G (0 ≤ q ∧ q < (t.2.2.2.2.2.2.1.length : Int)) (
  G (room out (ix t.2.2.2.2.2.2.1 q) 8) (
  some (out ++ (ix t.2.2.2.2.2.2.1 q))))
noncomputable def r16_Run_L4_F (t : (Int × Int × Int × (List Int) × (List (List Int)) × (List (List (List Int))) × (List (List Int)) × Unit)) (w : (List Int)) : (Int × Int × (List Int) → Option (List Int)) → Int × Int × (List Int) → Option (List Int) :=
  fun rec x => r16_Run_L4_B t w (fun q i out => rec (q, i, out)) x.1 x.2.1 x.2.2
noncomputable def r16_Run_L4 (t : (Int × Int × Int × (List Int) × (List (List Int)) × (List (List (List Int))) × (List (List Int)) × Unit)) (w : (List Int)) (q : Int) (i : Int) (out : (List Int)) : Option (List Int) := LFix (r16_Run_L4_F t w ) (q, i, out)
noncomputable def r16_Run (t : (Int × Int × Int × (List Int) × (List (List Int)) × (List (List (List Int))) × (List (List Int)) × Unit)) (w : (List Int)) : Option (List Int) :=
  G (room ([] : List Int) t.2.2.2.1 8) (
  r16_Run_L4 t w t.2.2.1 (0 : Int) (([] : List Int) ++ t.2.2.2.1))
theorem r16_Run_L4_B_ch (r4 : Nat → Int → Int → (List Int) → Option (List Int)) (r4' : Int → Int → (List Int) → Option (List Int)) (h_r4 : ∀ a0 a1 a2, ChO (fun κ => r4 κ a0 a1 a2) (r4' a0 a1 a2)) (t : (Int × Int × Int × (List Int) × (List (List Int)) × (List (List (List Int))) × (List (List Int)) × Unit)) (w : (List Int)) (q : Int) (i : Int) (out : (List Int)) : ChO (fun κ => r16_Run_L4_B t w (r4 κ) q i out) (r16_Run_L4_B t w r4' q i out) := by
  unfold r16_Run_L4_B
  repeat' with_reducible first | exact ChO.const _ | exact h_r4 _ _ _ | apply ChO.ite | apply ChO.G | apply ChO.both | (apply ChO.bind; intro _)
theorem r16_Run_L4_cn  (t : (Int × Int × Int × (List Int) × (List (List Int)) × (List (List (List Int))) × (List (List Int)) × Unit)) (w : (List Int)) : Cn (r16_Run_L4_F t w) := fun g h hg x => r16_Run_L4_B_ch  (fun κ q i out => g κ (q, i, out)) (fun q i out => h (q, i, out)) (fun q i out => hg (q, i, out)) t w x.1 x.2.1 x.2.2
theorem r16_Run_L4_eq  (t : (Int × Int × Int × (List Int) × (List (List Int)) × (List (List (List Int))) × (List (List Int)) × Unit)) (w : (List Int)) (q : Int) (i : Int) (out : (List Int)) : r16_Run_L4 t w q i out = r16_Run_L4_B t w (r16_Run_L4 t w) q i out := LFix_eq (r16_Run_L4_cn t w) (q, i, out)

noncomputable def r1_Words_L4_B (a : (List Int)) (b : (List Int)) (r4 : Int → Option (Bool)) (i : Int) : Option (Bool) :=
  if (decide (i < (a.length : Int))) = true then
  G (0 ≤ i ∧ i < (a.length : Int)) (
  G (0 ≤ i ∧ i < (b.length : Int)) (
  if (decide (¬ (ix a i) = (ix b i))) = true then
  some false else
  G (fits (i + (1 : Int))) (
  r4 (i + (1 : Int))))) else
  some true
noncomputable def r1_Words_L4_F (a : (List Int)) (b : (List Int)) : (Int → Option (Bool)) → Int → Option (Bool) :=
  fun rec x => r1_Words_L4_B a b (fun i => rec i) x
noncomputable def r1_Words_L4 (a : (List Int)) (b : (List Int)) (i : Int) : Option (Bool) := LFix (r1_Words_L4_F a b ) i
noncomputable def r1_Words (a : (List Int)) (b : (List Int)) : Option (Bool) :=
  if (decide (¬ (a.length : Int) = (b.length : Int))) = true then
  some false else
  r1_Words_L4 a b (0 : Int)
theorem r1_Words_L4_B_ch (r4 : Nat → Int → Option (Bool)) (r4' : Int → Option (Bool)) (h_r4 : ∀ a0, ChO (fun κ => r4 κ a0) (r4' a0)) (a : (List Int)) (b : (List Int)) (i : Int) : ChO (fun κ => r1_Words_L4_B a b (r4 κ) i) (r1_Words_L4_B a b r4' i) := by
  unfold r1_Words_L4_B
  repeat' with_reducible first | exact ChO.const _ | exact h_r4 _ | apply ChO.ite | apply ChO.G | apply ChO.both | (apply ChO.bind; intro _)
theorem r1_Words_L4_cn  (a : (List Int)) (b : (List Int)) : Cn (r1_Words_L4_F a b) := fun g h hg x => r1_Words_L4_B_ch  (fun κ i => g κ i) (fun i => h i) (fun i => hg i) a b x
theorem r1_Words_L4_eq  (a : (List Int)) (b : (List Int)) (i : Int) : r1_Words_L4 a b i = r1_Words_L4_B a b (r1_Words_L4 a b) i := LFix_eq (r1_Words_L4_cn a b) i

noncomputable def r16_State_L3_B (t : (Int × Int × Int × (List Int) × (List (List Int)) × (List (List (List Int))) × (List (List Int)) × Unit)) (w : (List Int)) (r3 : Int → Int → Option (Int)) (q : Int) (i : Int) : Option (Int) :=
  if (decide (i < (w.length : Int))) = true then
  G (0 ≤ q ∧ q < (t.2.2.2.2.1.length : Int)) (
  G (0 ≤ i ∧ i < (w.length : Int)) (
  G (0 ≤ ix w i ∧ ix w i < ((ix t.2.2.2.2.1 q).length : Int)) (
  G (fits (i + (1 : Int))) (
  r3 (ix (ix t.2.2.2.2.1 q) (ix w i)) (i + (1 : Int)))))) else
  some q
noncomputable def r16_State_L3_F (t : (Int × Int × Int × (List Int) × (List (List Int)) × (List (List (List Int))) × (List (List Int)) × Unit)) (w : (List Int)) : (Int × Int → Option (Int)) → Int × Int → Option (Int) :=
  fun rec x => r16_State_L3_B t w (fun q i => rec (q, i)) x.1 x.2
noncomputable def r16_State_L3 (t : (Int × Int × Int × (List Int) × (List (List Int)) × (List (List (List Int))) × (List (List Int)) × Unit)) (w : (List Int)) (q : Int) (i : Int) : Option (Int) := LFix (r16_State_L3_F t w ) (q, i)
noncomputable def r16_State (t : (Int × Int × Int × (List Int) × (List (List Int)) × (List (List (List Int))) × (List (List Int)) × Unit)) (w : (List Int)) : Option (Int) :=
  r16_State_L3 t w t.2.2.1 (0 : Int)
theorem r16_State_L3_B_ch (r3 : Nat → Int → Int → Option (Int)) (r3' : Int → Int → Option (Int)) (h_r3 : ∀ a0 a1, ChO (fun κ => r3 κ a0 a1) (r3' a0 a1)) (t : (Int × Int × Int × (List Int) × (List (List Int)) × (List (List (List Int))) × (List (List Int)) × Unit)) (w : (List Int)) (q : Int) (i : Int) : ChO (fun κ => r16_State_L3_B t w (r3 κ) q i) (r16_State_L3_B t w r3' q i) := by
  unfold r16_State_L3_B
  repeat' with_reducible first | exact ChO.const _ | exact h_r3 _ _ | apply ChO.ite | apply ChO.G | apply ChO.both | (apply ChO.bind; intro _)
theorem r16_State_L3_cn  (t : (Int × Int × Int × (List Int) × (List (List Int)) × (List (List (List Int))) × (List (List Int)) × Unit)) (w : (List Int)) : Cn (r16_State_L3_F t w) := fun g h hg x => r16_State_L3_B_ch  (fun κ q i => g κ (q, i)) (fun q i => h (q, i)) (fun q i => hg (q, i)) t w x.1 x.2
theorem r16_State_L3_eq  (t : (Int × Int × Int × (List Int) × (List (List Int)) × (List (List (List Int))) × (List (List Int)) × Unit)) (w : (List Int)) (q : Int) (i : Int) : r16_State_L3 t w q i = r16_State_L3_B t w (r16_State_L3 t w) q i := LFix_eq (r16_State_L3_cn t w) (q, i)

noncomputable def r16_Differ_L17_B (t : (Int × Int × Int × (List Int) × (List (List Int)) × (List (List (List Int))) × (List (List Int)) × Unit)) (u : (Int × Int × Int × (List Int) × (List (List Int)) × (List (List (List Int))) × (List (List Int)) × Unit)) (i : Int) (seen : (List Bool)) (r5 : (Int → (List Bool) → (List (List Int)) → Option ((List Int) × Bool))) (y'_3 : Int) (y'_4 : Int) (r17 : Int → (List (List Int)) → Option ((List Int) × Bool)) (k : Int) (l_1 : (List (List Int))) : Option ((List Int) × Bool) :=
  if (decide (k < t.1)) = true then
  G (0 ≤ i ∧ i < (l_1.length : Int)) (
  G ((i).toNat < l_1.length) (
  G (room ([] : List Int) (ix l_1 i) 8) (
  G (room (([] : List Int) ++ (ix l_1 i)) ([k]) 8) (
  G (room l_1 ([(([] : List Int) ++ (ix l_1 i)) ++ ([k])]) 24) (
  G (fits (k + (1 : Int))) (
  r17 (k + (1 : Int)) (l_1 ++ ([(([] : List Int) ++ (ix l_1 i)) ++ ([k])])))))))) else
  G (fits (i + (1 : Int))) (
  r5 (i + (1 : Int)) (seen.set ((y'_3 * (u.2.2.2.2.1.length : Int)) + y'_4).toNat true) l_1)
noncomputable def r16_Differ_L17_F (t : (Int × Int × Int × (List Int) × (List (List Int)) × (List (List (List Int))) × (List (List Int)) × Unit)) (u : (Int × Int × Int × (List Int) × (List (List Int)) × (List (List (List Int))) × (List (List Int)) × Unit)) (i : Int) (seen : (List Bool)) (r5 : (Int → (List Bool) → (List (List Int)) → Option ((List Int) × Bool))) (y'_3 : Int) (y'_4 : Int) : (Int × (List (List Int)) → Option ((List Int) × Bool)) → Int × (List (List Int)) → Option ((List Int) × Bool) :=
  fun rec x => r16_Differ_L17_B t u i seen r5 y'_3 y'_4 (fun k l_1 => rec (k, l_1)) x.1 x.2
noncomputable def r16_Differ_L17 (t : (Int × Int × Int × (List Int) × (List (List Int)) × (List (List (List Int))) × (List (List Int)) × Unit)) (u : (Int × Int × Int × (List Int) × (List (List Int)) × (List (List (List Int))) × (List (List Int)) × Unit)) (i : Int) (seen : (List Bool)) (r5 : (Int → (List Bool) → (List (List Int)) → Option ((List Int) × Bool))) (y'_3 : Int) (y'_4 : Int) (k : Int) (l_1 : (List (List Int))) : Option ((List Int) × Bool) := LFix (r16_Differ_L17_F t u i seen r5 y'_3 y'_4 ) (k, l_1)
noncomputable def r16_Differ_L5_B (t : (Int × Int × Int × (List Int) × (List (List Int)) × (List (List (List Int))) × (List (List Int)) × Unit)) (u : (Int × Int × Int × (List Int) × (List (List Int)) × (List (List (List Int))) × (List (List Int)) × Unit)) (r5 : Int → (List Bool) → (List (List Int)) → Option ((List Int) × Bool)) (i : Int) (seen : (List Bool)) (l : (List (List Int))) : Option ((List Int) × Bool) :=
  if (decide (i < (l.length : Int))) = true then
  G (0 ≤ i ∧ i < (l.length : Int)) (
  G ((i).toNat < l.length) (
  (r16_Run (t.1, (t.2.1, (t.2.2.1, (t.2.2.2.1, (t.2.2.2.2.1, (t.2.2.2.2.2.1, (t.2.2.2.2.2.2.1, ()))))))) (ix l i)).bind (fun y' =>
  G (0 ≤ i ∧ i < (l.length : Int)) (
  G ((i).toNat < l.length) (
  (r16_Run (u.1, (u.2.1, (u.2.2.1, (u.2.2.2.1, (u.2.2.2.2.1, (u.2.2.2.2.2.1, (u.2.2.2.2.2.2.1, ()))))))) (ix l i)).bind (fun y'_1 =>
  (r1_Words y' y'_1).bind (fun y'_2 =>
  if (!y'_2) = true then
  G (0 ≤ i ∧ i < (l.length : Int)) (
  G ((i).toNat < l.length) (
  some (ix l i, true))) else
  G (0 ≤ i ∧ i < (l.length : Int)) (
  G ((i).toNat < l.length) (
  (r16_State (t.1, (t.2.1, (t.2.2.1, (t.2.2.2.1, (t.2.2.2.2.1, (t.2.2.2.2.2.1, (t.2.2.2.2.2.2.1, ()))))))) (ix l i)).bind (fun y'_3 =>
  G (0 ≤ i ∧ i < (l.length : Int)) (
  G ((i).toNat < l.length) (
  (r16_State (u.1, (u.2.1, (u.2.2.1, (u.2.2.2.1, (u.2.2.2.2.1, (u.2.2.2.2.2.1, (u.2.2.2.2.2.2.1, ()))))))) (ix l i)).bind (fun y'_4 =>
  G (fits (y'_3 * (u.2.2.2.2.1.length : Int))) (
  G (fits ((y'_3 * (u.2.2.2.2.1.length : Int)) + y'_4)) (
  G (0 ≤ (y'_3 * (u.2.2.2.2.1.length : Int)) + y'_4 ∧ (y'_3 * (u.2.2.2.2.1.length : Int)) + y'_4 < (seen.length : Int)) (
  G (((y'_3 * (u.2.2.2.2.1.length : Int)) + y'_4).toNat < seen.length) (
  if (ix seen ((y'_3 * (u.2.2.2.2.1.length : Int)) + y'_4)) = true then
  G (fits (i + (1 : Int))) (
  r5 (i + (1 : Int)) seen l) else
  G (fits (y'_3 * (u.2.2.2.2.1.length : Int))) (
  G (fits ((y'_3 * (u.2.2.2.2.1.length : Int)) + y'_4)) (
  G (0 ≤ (y'_3 * (u.2.2.2.2.1.length : Int)) + y'_4 ∧ (y'_3 * (u.2.2.2.2.1.length : Int)) + y'_4 < (seen.length : Int)) (
  G (((y'_3 * (u.2.2.2.2.1.length : Int)) + y'_4).toNat < seen.length) (
  r16_Differ_L17 t u i seen r5 y'_3 y'_4 (0 : Int) l))))))))))))))))))))) else
  some ([], false)
noncomputable def r16_Differ_L5_F (t : (Int × Int × Int × (List Int) × (List (List Int)) × (List (List (List Int))) × (List (List Int)) × Unit)) (u : (Int × Int × Int × (List Int) × (List (List Int)) × (List (List (List Int))) × (List (List Int)) × Unit)) : (Int × (List Bool) × (List (List Int)) → Option ((List Int) × Bool)) → Int × (List Bool) × (List (List Int)) → Option ((List Int) × Bool) :=
  fun rec x => r16_Differ_L5_B t u (fun i seen l => rec (i, seen, l)) x.1 x.2.1 x.2.2
noncomputable def r16_Differ_L5 (t : (Int × Int × Int × (List Int) × (List (List Int)) × (List (List (List Int))) × (List (List Int)) × Unit)) (u : (Int × Int × Int × (List Int) × (List (List Int)) × (List (List (List Int))) × (List (List Int)) × Unit)) (i : Int) (seen : (List Bool)) (l : (List (List Int))) : Option ((List Int) × Bool) := LFix (r16_Differ_L5_F t u ) (i, seen, l)
noncomputable def r16_Differ (t : (Int × Int × Int × (List Int) × (List (List Int)) × (List (List (List Int))) × (List (List Int)) × Unit)) (u : (Int × Int × Int × (List Int) × (List (List Int)) × (List (List (List Int))) × (List (List Int)) × Unit)) : Option ((List Int) × Bool) :=
  G (fits ((t.2.2.2.2.1.length : Int) * (u.2.2.2.2.1.length : Int))) (
  G (mkOK ((t.2.2.2.2.1.length : Int) * (u.2.2.2.2.1.length : Int)) ((t.2.2.2.2.1.length : Int) * (u.2.2.2.2.1.length : Int)) 1) (
  r16_Differ_L5 t u (0 : Int) (List.replicate ((t.2.2.2.2.1.length : Int) * (u.2.2.2.2.1.length : Int)).toNat (false : Bool)) ([([] : List Int)])))
theorem r16_Differ_L17_B_ch (r5 : Nat → Int → (List Bool) → (List (List Int)) → Option ((List Int) × Bool)) (r5' : Int → (List Bool) → (List (List Int)) → Option ((List Int) × Bool)) (h_r5 : ∀ a0 a1 a2, ChO (fun κ => r5 κ a0 a1 a2) (r5' a0 a1 a2)) (r17 : Nat → Int → (List (List Int)) → Option ((List Int) × Bool)) (r17' : Int → (List (List Int)) → Option ((List Int) × Bool)) (h_r17 : ∀ a0 a1, ChO (fun κ => r17 κ a0 a1) (r17' a0 a1)) (t : (Int × Int × Int × (List Int) × (List (List Int)) × (List (List (List Int))) × (List (List Int)) × Unit)) (u : (Int × Int × Int × (List Int) × (List (List Int)) × (List (List (List Int))) × (List (List Int)) × Unit)) (i : Int) (seen : (List Bool)) (y'_3 : Int) (y'_4 : Int) (k : Int) (l_1 : (List (List Int))) : ChO (fun κ => r16_Differ_L17_B t u i seen (r5 κ) y'_3 y'_4 (r17 κ) k l_1) (r16_Differ_L17_B t u i seen r5' y'_3 y'_4 r17' k l_1) := by
  unfold r16_Differ_L17_B
  repeat' with_reducible first | exact ChO.const _ | exact h_r5 _ _ _ | exact h_r17 _ _ | apply ChO.ite | apply ChO.G | apply ChO.both | (apply ChO.bind; intro _)
theorem r16_Differ_L17_cn (r5 : Int → (List Bool) → (List (List Int)) → Option ((List Int) × Bool)) (t : (Int × Int × Int × (List Int) × (List (List Int)) × (List (List (List Int))) × (List (List Int)) × Unit)) (u : (Int × Int × Int × (List Int) × (List (List Int)) × (List (List (List Int))) × (List (List Int)) × Unit)) (i : Int) (seen : (List Bool)) (y'_3 : Int) (y'_4 : Int) : Cn (r16_Differ_L17_F t u i seen r5 y'_3 y'_4) := fun g h hg x => r16_Differ_L17_B_ch (fun _ => r5) r5 (fun _ _ _ => ChO.const _) (fun κ k l_1 => g κ (k, l_1)) (fun k l_1 => h (k, l_1)) (fun k l_1 => hg (k, l_1)) t u i seen y'_3 y'_4 x.1 x.2
theorem r16_Differ_L17_eq (r5 : Int → (List Bool) → (List (List Int)) → Option ((List Int) × Bool)) (t : (Int × Int × Int × (List Int) × (List (List Int)) × (List (List (List Int))) × (List (List Int)) × Unit)) (u : (Int × Int × Int × (List Int) × (List (List Int)) × (List (List (List Int))) × (List (List Int)) × Unit)) (i : Int) (seen : (List Bool)) (y'_3 : Int) (y'_4 : Int) (k : Int) (l_1 : (List (List Int))) : r16_Differ_L17 t u i seen r5 y'_3 y'_4 k l_1 = r16_Differ_L17_B t u i seen r5 y'_3 y'_4 (r16_Differ_L17 t u i seen r5 y'_3 y'_4) k l_1 := LFix_eq (r16_Differ_L17_cn r5 t u i seen y'_3 y'_4) (k, l_1)
theorem r16_Differ_L17_ch (r5 : Nat → Int → (List Bool) → (List (List Int)) → Option ((List Int) × Bool)) (r5' : Int → (List Bool) → (List (List Int)) → Option ((List Int) × Bool)) (h_r5 : ∀ a0 a1 a2, ChO (fun κ => r5 κ a0 a1 a2) (r5' a0 a1 a2)) (t : (Int × Int × Int × (List Int) × (List (List Int)) × (List (List (List Int))) × (List (List Int)) × Unit)) (u : (Int × Int × Int × (List Int) × (List (List Int)) × (List (List (List Int))) × (List (List Int)) × Unit)) (i : Int) (seen : (List Bool)) (y'_3 : Int) (y'_4 : Int) (k : Int) (l_1 : (List (List Int))) : ChO (fun κ => r16_Differ_L17 t u i seen (r5 κ) y'_3 y'_4 k l_1) (r16_Differ_L17 t u i seen r5' y'_3 y'_4 k l_1) := by
  unfold r16_Differ_L17
  exact LFix_ch (fun κ => (r16_Differ_L17_cn (r5 κ) t u i seen y'_3 y'_4).mono) (r16_Differ_L17_cn r5' t u i seen y'_3 y'_4).mono (fun g h hg x => r16_Differ_L17_B_ch r5 r5' h_r5 (fun κ k l_1 => g κ (k, l_1)) (fun k l_1 => h (k, l_1)) (fun k l_1 => hg (k, l_1)) t u i seen y'_3 y'_4 x.1 x.2) _
theorem r16_Differ_L5_B_ch (r5 : Nat → Int → (List Bool) → (List (List Int)) → Option ((List Int) × Bool)) (r5' : Int → (List Bool) → (List (List Int)) → Option ((List Int) × Bool)) (h_r5 : ∀ a0 a1 a2, ChO (fun κ => r5 κ a0 a1 a2) (r5' a0 a1 a2)) (t : (Int × Int × Int × (List Int) × (List (List Int)) × (List (List (List Int))) × (List (List Int)) × Unit)) (u : (Int × Int × Int × (List Int) × (List (List Int)) × (List (List (List Int))) × (List (List Int)) × Unit)) (i : Int) (seen : (List Bool)) (l : (List (List Int))) : ChO (fun κ => r16_Differ_L5_B t u (r5 κ) i seen l) (r16_Differ_L5_B t u r5' i seen l) := by
  unfold r16_Differ_L5_B
  repeat' with_reducible first | exact ChO.const _ | exact h_r5 _ _ _ | (apply r16_Differ_L17_ch <;> assumption) | apply ChO.ite | apply ChO.G | apply ChO.both | (apply ChO.bind; intro _)
theorem r16_Differ_L5_cn  (t : (Int × Int × Int × (List Int) × (List (List Int)) × (List (List (List Int))) × (List (List Int)) × Unit)) (u : (Int × Int × Int × (List Int) × (List (List Int)) × (List (List (List Int))) × (List (List Int)) × Unit)) : Cn (r16_Differ_L5_F t u) := fun g h hg x => r16_Differ_L5_B_ch  (fun κ i seen l => g κ (i, seen, l)) (fun i seen l => h (i, seen, l)) (fun i seen l => hg (i, seen, l)) t u x.1 x.2.1 x.2.2
theorem r16_Differ_L5_eq  (t : (Int × Int × Int × (List Int) × (List (List Int)) × (List (List (List Int))) × (List (List Int)) × Unit)) (u : (Int × Int × Int × (List Int) × (List (List Int)) × (List (List (List Int))) × (List (List Int)) × Unit)) (i : Int) (seen : (List Bool)) (l : (List (List Int))) : r16_Differ_L5 t u i seen l = r16_Differ_L5_B t u (r16_Differ_L5 t u) i seen l := LFix_eq (r16_Differ_L5_cn t u) (i, seen, l)

noncomputable def r1_May_L6_B (letters : Int) (w : (List Int)) (r6 : Int → Option (Int)) (i : Int) : Option (Int) :=
  if (decide (i < (w.length : Int))) = true then
  G (0 ≤ i ∧ i < (w.length : Int)) (
  if (decide ((ix w i) < (0 : Int))) = true then
  some (2 : Int) else
  G (0 ≤ i ∧ i < (w.length : Int)) (
  if (decide (letters ≤ (ix w i))) = true then
  some (2 : Int) else
  G (fits (i + (1 : Int))) (
  r6 (i + (1 : Int))))) else
  some (0 : Int)
noncomputable def r1_May_L6_F (letters : Int) (w : (List Int)) : (Int → Option (Int)) → Int → Option (Int) :=
  fun rec x => r1_May_L6_B letters w (fun i => rec i) x
noncomputable def r1_May_L6 (letters : Int) (w : (List Int)) (i : Int) : Option (Int) := LFix (r1_May_L6_F letters w ) i
noncomputable def r1_May (letters : Int) (w : (List Int)) : Option (Int) :=
  if (decide (letters < (1 : Int))) = true then
  some (2 : Int) else
  if (decide ((4 : Int) < letters)) = true then
  some (2 : Int) else
  if (decide ((60 : Int) < (w.length : Int))) = true then
  some (1 : Int) else
  r1_May_L6 letters w (0 : Int)
theorem r1_May_L6_B_ch (r6 : Nat → Int → Option (Int)) (r6' : Int → Option (Int)) (h_r6 : ∀ a0, ChO (fun κ => r6 κ a0) (r6' a0)) (letters : Int) (w : (List Int)) (i : Int) : ChO (fun κ => r1_May_L6_B letters w (r6 κ) i) (r1_May_L6_B letters w r6' i) := by
  unfold r1_May_L6_B
  repeat' with_reducible first | exact ChO.const _ | exact h_r6 _ | apply ChO.ite | apply ChO.G | apply ChO.both | (apply ChO.bind; intro _)
theorem r1_May_L6_cn  (letters : Int) (w : (List Int)) : Cn (r1_May_L6_F letters w) := fun g h hg x => r1_May_L6_B_ch  (fun κ i => g κ i) (fun i => h i) (fun i => hg i) letters w x
theorem r1_May_L6_eq  (letters : Int) (w : (List Int)) (i : Int) : r1_May_L6 letters w i = r1_May_L6_B letters w (r1_May_L6 letters w) i := LFix_eq (r1_May_L6_cn letters w) i

noncomputable def law_TransDiffers_J6 (t : (Int × Int × Int × (List Int) × (List (List Int)) × (List (List (List Int))) × (List (List Int)) × Unit)) (u : (Int × Int × Int × (List Int) × (List (List Int)) × (List (List (List Int))) × (List (List Int)) × Unit)) (w : (List Int)) (y' : (List Int)) (y'_1 : Bool) (y'_2 : Int) (no_1 : Int) : Option (Bool) :=
  if (decide (¬ no_1 = (0 : Int))) = true then
  if (decide (y'_2 = no_1)) = true then
  if (!y'_1) = true then
  some (decide ((y'.length : Int) = (0 : Int))) else
  some false else
  some false else
  (r16_Differ (t.1, (t.2.1, (t.2.2.1, (t.2.2.2.1, (t.2.2.2.2.1, (t.2.2.2.2.2.1, (t.2.2.2.2.2.2.1, ()))))))) (u.1, (u.2.1, (u.2.2.1, (u.2.2.2.1, (u.2.2.2.2.1, (u.2.2.2.2.2.1, (u.2.2.2.2.2.2.1, ())))))))).bind (fun y'_14 =>
  (r1_Words y' y'_14.1).bind (fun y'_9 =>
  if (decide (¬ y'_2 = (0 : Int))) = true then
  some false else
  if (decide (¬ y'_1 = y'_14.2)) = true then
  some false else
  if (!y'_9) = true then
  some false else
  (r1_May t.1 w).bind (fun y'_10 =>
  if (decide (¬ y'_10 = (0 : Int))) = true then
  some true else
  if y'_1 = true then
  some true else
  (r16_Run (t.1, (t.2.1, (t.2.2.1, (t.2.2.2.1, (t.2.2.2.2.1, (t.2.2.2.2.2.1, (t.2.2.2.2.2.2.1, ()))))))) w).bind (fun y'_11 =>
  (r16_Run (u.1, (u.2.1, (u.2.2.1, (u.2.2.2.1, (u.2.2.2.2.1, (u.2.2.2.2.2.1, (u.2.2.2.2.2.2.1, ()))))))) w).bind (fun y'_12 =>
  (r1_Words y'_11 y'_12).bind (fun y'_13 =>
  some y'_13))))))
noncomputable def law_TransDiffers_J5 (t : (Int × Int × Int × (List Int) × (List (List Int)) × (List (List (List Int))) × (List (List Int)) × Unit)) (u : (Int × Int × Int × (List Int) × (List (List Int)) × (List (List (List Int))) × (List (List Int)) × Unit)) (w : (List Int)) (y' : (List Int)) (y'_1 : Bool) (y'_2 : Int) (no : Int) (t_1 : Bool) : Option (Bool) :=
  if t_1 = true then
  law_TransDiffers_J6 t u w y' y'_1 y'_2 (3 : Int) else
  law_TransDiffers_J6 t u w y' y'_1 y'_2 no
noncomputable def law_TransDiffers_J4 (t : (Int × Int × Int × (List Int) × (List (List Int)) × (List (List (List Int))) × (List (List Int)) × Unit)) (u : (Int × Int × Int × (List Int) × (List (List Int)) × (List (List (List Int))) × (List (List Int)) × Unit)) (w : (List Int)) (y' : (List Int)) (y'_1 : Bool) (y'_2 : Int) (no : Int) : Option (Bool) :=
  if (decide (no = (0 : Int))) = true then
  if (decide (¬ t.1 = u.1)) = true then
  law_TransDiffers_J5 t u w y' y'_1 y'_2 no true else
  law_TransDiffers_J5 t u w y' y'_1 y'_2 no (decide (¬ t.2.1 = u.2.1)) else
  law_TransDiffers_J5 t u w y' y'_1 y'_2 no false
noncomputable def law_TransDiffers (t : (Int × Int × Int × (List Int) × (List (List Int)) × (List (List (List Int))) × (List (List Int)) × Unit)) (u : (Int × Int × Int × (List Int) × (List (List Int)) × (List (List (List Int))) × (List (List Int)) × Unit)) (w : (List Int)) : Option (Bool) :=
  (trans_Differ (t.1, (t.2.1, (t.2.2.1, (t.2.2.2.1, (t.2.2.2.2.1, (t.2.2.2.2.2.1, (t.2.2.2.2.2.2.1, ()))))))) (u.1, (u.2.1, (u.2.2.1, (u.2.2.2.1, (u.2.2.2.2.1, (u.2.2.2.2.2.1, (u.2.2.2.2.2.2.1, ())))))))).bind (fun y'_15 =>
  (r16_Check (t.1, (t.2.1, (t.2.2.1, (t.2.2.2.1, (t.2.2.2.2.1, (t.2.2.2.2.2.1, (t.2.2.2.2.2.2.1, ())))))))).bind (fun y'_4 =>
  if (decide (y'_4 = (0 : Int))) = true then
  (r16_Check (u.1, (u.2.1, (u.2.2.1, (u.2.2.2.1, (u.2.2.2.2.1, (u.2.2.2.2.2.1, (u.2.2.2.2.2.2.1, ())))))))).bind (fun y'_5 =>
  law_TransDiffers_J4 t u w y'_15.1 y'_15.2.1 y'_15.2.2 y'_5) else
  law_TransDiffers_J4 t u w y'_15.1 y'_15.2.1 y'_15.2.2 y'_4))

end Go.Proofs.Ytgjkbjbknnlnpaa.transDiffersW
