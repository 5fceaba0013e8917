/- What the functions that 'DetMade' reaches compute: plain functions. -/
import Derived.Test.YtglnbcpiibkieaaEv11n21
set_option maxHeartbeats 1000000
set_option maxRecDepth 20000
set_option linter.unusedSimpArgs false
set_option linter.unusedVariables false
namespace Go.Proofs.Ytglnbcpiibkieaa.detMadeW
open Go Go.Ab
noncomputable def law_list (l : (List Int)) : Option (List Int) :=
  G (fits ((l.length : Int) + (3 : Int))) (
  G (mkOK (l.length : Int) ((l.length : Int) + (3 : Int)) 8) (
  some (l.take (List.replicate ((l.length : Int)).toNat (0 : Int)).length ++ (List.replicate ((l.length : Int)).toNat (0 : Int)).drop l.length)))

noncomputable def law_auto (a : (Int × Int × (List Int) × (List (Int × Int × Int × Unit)) × (List Int) × Unit)) : Option (Int × Int × (List Int) × (List (Int × Int × Int × Unit)) × (List Int) × Unit) :=
  (law_list a.2.2.1).bind (fun y' =>
  (law_list a.2.2.2.2.1).bind (fun y'_1 =>
  G (room ([] : List (Int × Int × Int × Unit)) a.2.2.2.1 24) (
  some (a.1, (a.2.1, (y', (([] : List (Int × Int × Int × Unit)) ++ a.2.2.2.1, (y'_1, ()))))))))

noncomputable def buchi_Check_1 (q : Int) (t : (Int × Int × (List Int) × (List (Int × Int × Int × Unit)) × (List Int) × Unit)) : Option (Bool) :=
  if (decide (q < (0 : Int))) = true then
  some true else
  some (decide (t.2.1 ≤ q))

noncomputable def slices_IndexFunc_L2_B (s : (List Int)) (c : (Int × Int × (List Int) × (List (Int × Int × Int × Unit)) × (List Int) × Unit)) (r2 : Int → Option (Int)) (t : Int) : Option (Int) :=
  if (decide (t < (s.length : Int))) = true then
  G (0 ≤ t ∧ t < (s.length : Int)) (
  (buchi_Check_1 (ix s t) c).bind (fun y' =>
  if y' = true then
  some t else
  G (fits (t + (1 : Int))) (
  r2 (t + (1 : Int))))) else
  some (-1 : Int)
noncomputable def slices_IndexFunc_L2_F (s : (List Int)) (c : (Int × Int × (List Int) × (List (Int × Int × Int × Unit)) × (List Int) × Unit)) : (Int → Option (Int)) → Int → Option (Int) :=
  fun rec x => slices_IndexFunc_L2_B s c (fun t => rec t) x
noncomputable def slices_IndexFunc_L2 (s : (List Int)) (c : (Int × Int × (List Int) × (List (Int × Int × Int × Unit)) × (List Int) × Unit)) (t : Int) : Option (Int) := LFix (slices_IndexFunc_L2_F s c ) t
noncomputable def slices_IndexFunc (s : (List Int)) (c : (Int × Int × (List Int) × (List (Int × Int × Int × Unit)) × (List Int) × Unit)) : Option (Int) :=
  slices_IndexFunc_L2 s c (0 : Int)
theorem slices_IndexFunc_L2_B_ch (r2 : Nat → Int → Option (Int)) (r2' : Int → Option (Int)) (h_r2 : ∀ a0, ChO (fun κ => r2 κ a0) (r2' a0)) (s : (List Int)) (c : (Int × Int × (List Int) × (List (Int × Int × Int × Unit)) × (List Int) × Unit)) (t : Int) : ChO (fun κ => slices_IndexFunc_L2_B s c (r2 κ) t) (slices_IndexFunc_L2_B s c r2' t) := by
  unfold slices_IndexFunc_L2_B
  repeat' with_reducible first | exact ChO.const _ | exact h_r2 _ | apply ChO.ite | apply ChO.G | apply ChO.both | (apply ChO.bind; intro _)
theorem slices_IndexFunc_L2_cn  (s : (List Int)) (c : (Int × Int × (List Int) × (List (Int × Int × Int × Unit)) × (List Int) × Unit)) : Cn (slices_IndexFunc_L2_F s c) := fun g h hg x => slices_IndexFunc_L2_B_ch  (fun κ t => g κ t) (fun t => h t) (fun t => hg t) s c x
theorem slices_IndexFunc_L2_eq  (s : (List Int)) (c : (Int × Int × (List Int) × (List (Int × Int × Int × Unit)) × (List Int) × Unit)) (t : Int) : slices_IndexFunc_L2 s c t = slices_IndexFunc_L2_B s c (slices_IndexFunc_L2 s c) t := LFix_eq (slices_IndexFunc_L2_cn s c) t

noncomputable def slices_ContainsFunc (s : (List Int)) (c : (Int × Int × (List Int) × (List (Int × Int × Int × Unit)) × (List Int) × Unit)) : Option (Bool) :=
  (slices_IndexFunc s c).bind (fun y' =>
  some (decide ((0 : Int) ≤ y')))

noncomputable def buchi_Check_2 (x' : (Int × Int × Int × Unit)) (t : (Int × Int × (List Int) × (List (Int × Int × Int × Unit)) × (List Int) × Unit)) (c : (Int × Int × (List Int) × (List (Int × Int × Int × Unit)) × (List Int) × Unit)) : Option (Bool × Int × Int × (List Int) × (List (Int × Int × Int × Unit)) × (List Int) × Unit) :=
  (buchi_Check_1 x'.1 c).bind (fun y' =>
  if y' = true then
  some (true, c) else
  (buchi_Check_1 x'.2.2.1 c).bind (fun y'_1 =>
  if y'_1 = true then
  some (true, c) else
  if (decide (x'.2.1 < (0 : Int))) = true then
  some (true, c) else
  some (decide (t.1 ≤ x'.2.1), c)))

noncomputable def slices_IndexFunc_1_L2_B (s : (List (Int × Int × Int × Unit))) (r2 : (Int × Int × (List Int) × (List (Int × Int × Int × Unit)) × (List Int) × Unit) → Int → (Int × Int × (List Int) × (List (Int × Int × Int × Unit)) × (List Int) × Unit) → Option (Int × Int × Int × (List Int) × (List (Int × Int × Int × Unit)) × (List Int) × Unit)) (f : (Int × Int × (List Int) × (List (Int × Int × Int × Unit)) × (List Int) × Unit)) (t : Int) (l : (Int × Int × (List Int) × (List (Int × Int × Int × Unit)) × (List Int) × Unit)) : Option (Int × Int × Int × (List Int) × (List (Int × Int × Int × Unit)) × (List Int) × Unit) :=
  if (decide (t < (s.length : Int))) = true then
  G (0 ≤ t ∧ t < (s.length : Int)) (
  (buchi_Check_2 (ix s t) f l).bind (fun y'_3 =>
  if y'_3.1 = true then
  some (t, y'_3.2) else
  G (fits (t + (1 : Int))) (
  r2 f (t + (1 : Int)) y'_3.2))) else
  some ((-1 : Int), l)
noncomputable def slices_IndexFunc_1_L2_F (s : (List (Int × Int × Int × Unit))) : ((Int × Int × (List Int) × (List (Int × Int × Int × Unit)) × (List Int) × Unit) × Int × Int × Int × (List Int) × (List (Int × Int × Int × Unit)) × (List Int) × Unit → Option (Int × Int × Int × (List Int) × (List (Int × Int × Int × Unit)) × (List Int) × Unit)) → (Int × Int × (List Int) × (List (Int × Int × Int × Unit)) × (List Int) × Unit) × Int × Int × Int × (List Int) × (List (Int × Int × Int × Unit)) × (List Int) × Unit → Option (Int × Int × Int × (List Int) × (List (Int × Int × Int × Unit)) × (List Int) × Unit) :=
  fun rec x => slices_IndexFunc_1_L2_B s (fun f t l => rec (f, t, l)) x.1 x.2.1 x.2.2
noncomputable def slices_IndexFunc_1_L2 (s : (List (Int × Int × Int × Unit))) (f : (Int × Int × (List Int) × (List (Int × Int × Int × Unit)) × (List Int) × Unit)) (t : Int) (l : (Int × Int × (List Int) × (List (Int × Int × Int × Unit)) × (List Int) × Unit)) : Option (Int × Int × Int × (List Int) × (List (Int × Int × Int × Unit)) × (List Int) × Unit) := LFix (slices_IndexFunc_1_L2_F s ) (f, t, l)
noncomputable def slices_IndexFunc_1 (s : (List (Int × Int × Int × Unit))) (c : (Int × Int × (List Int) × (List (Int × Int × Int × Unit)) × (List Int) × Unit)) (c_1 : (Int × Int × (List Int) × (List (Int × Int × Int × Unit)) × (List Int) × Unit)) : Option (Int × Int × Int × (List Int) × (List (Int × Int × Int × Unit)) × (List Int) × Unit) :=
  slices_IndexFunc_1_L2 s c (0 : Int) c_1
theorem slices_IndexFunc_1_L2_B_ch (r2 : Nat → (Int × Int × (List Int) × (List (Int × Int × Int × Unit)) × (List Int) × Unit) → Int → (Int × Int × (List Int) × (List (Int × Int × Int × Unit)) × (List Int) × Unit) → Option (Int × Int × Int × (List Int) × (List (Int × Int × Int × Unit)) × (List Int) × Unit)) (r2' : (Int × Int × (List Int) × (List (Int × Int × Int × Unit)) × (List Int) × Unit) → Int → (Int × Int × (List Int) × (List (Int × Int × Int × Unit)) × (List Int) × Unit) → Option (Int × Int × Int × (List Int) × (List (Int × Int × Int × Unit)) × (List Int) × Unit)) (h_r2 : ∀ a0 a1 a2, ChO (fun κ => r2 κ a0 a1 a2) (r2' a0 a1 a2)) (s : (List (Int × Int × Int × Unit))) (f : (Int × Int × (List Int) × (List (Int × Int × Int × Unit)) × (List Int) × Unit)) (t : Int) (l : (Int × Int × (List Int) × (List (Int × Int × Int × Unit)) × (List Int) × Unit)) : ChO (fun κ => slices_IndexFunc_1_L2_B s (r2 κ) f t l) (slices_IndexFunc_1_L2_B s r2' f t l) := by
  unfold slices_IndexFunc_1_L2_B
  repeat' with_reducible first | exact ChO.const _ | exact h_r2 _ _ _ | apply ChO.ite | apply ChO.G | apply ChO.both | (apply ChO.bind; intro _)
theorem slices_IndexFunc_1_L2_cn  (s : (List (Int × Int × Int × Unit))) : Cn (slices_IndexFunc_1_L2_F s) := fun g h hg x => slices_IndexFunc_1_L2_B_ch  (fun κ f t l => g κ (f, t, l)) (fun f t l => h (f, t, l)) (fun f t l => hg (f, t, l)) s x.1 x.2.1 x.2.2
theorem slices_IndexFunc_1_L2_eq  (s : (List (Int × Int × Int × Unit))) (f : (Int × Int × (List Int) × (List (Int × Int × Int × Unit)) × (List Int) × Unit)) (t : Int) (l : (Int × Int × (List Int) × (List (Int × Int × Int × Unit)) × (List Int) × Unit)) : slices_IndexFunc_1_L2 s f t l = slices_IndexFunc_1_L2_B s (slices_IndexFunc_1_L2 s) f t l := LFix_eq (slices_IndexFunc_1_L2_cn s) (f, t, l)

noncomputable def slices_ContainsFunc_1 (s : (List (Int × Int × Int × Unit))) (c : (Int × Int × (List Int) × (List (Int × Int × Int × Unit)) × (List Int) × Unit)) (c_1 : (Int × Int × (List Int) × (List (Int × Int × Int × Unit)) × (List Int) × Unit)) : Option (Bool × Int × Int × (List Int) × (List (Int × Int × Int × Unit)) × (List Int) × Unit) :=
  (slices_IndexFunc_1 s c c_1).bind (fun y'_3 =>
  some (decide ((0 : Int) ≤ y'_3.1), y'_3.2))

noncomputable def buchi_rising_L2_B (l : (List Int)) (r2 : Int → Option (Bool)) (t : Int) : Option (Bool) :=
  if (decide (t < (l.length : Int))) = true then
  if (decide ((0 : Int) < t)) = true then
  G (fits (t - (1 : Int))) (
  G (0 ≤ t - (1 : Int) ∧ t - (1 : Int) < (l.length : Int)) (
  G (0 ≤ t ∧ t < (l.length : Int)) (
  if (decide ((ix l t) ≤ (ix l (t - (1 : Int))))) = true then
  some false else
  G (fits (t + (1 : Int))) (
  r2 (t + (1 : Int)))))) else
  G (fits (t + (1 : Int))) (
  r2 (t + (1 : Int))) else
  some true
noncomputable def buchi_rising_L2_F (l : (List Int)) : (Int → Option (Bool)) → Int → Option (Bool) :=
  fun rec x => buchi_rising_L2_B l (fun t => rec t) x
noncomputable def buchi_rising_L2 (l : (List Int)) (t : Int) : Option (Bool) := LFix (buchi_rising_L2_F l ) t
noncomputable def buchi_rising (l : (List Int)) : Option (Bool) :=
  buchi_rising_L2 l (0 : Int)
theorem buchi_rising_L2_B_ch (r2 : Nat → Int → Option (Bool)) (r2' : Int → Option (Bool)) (h_r2 : ∀ a0, ChO (fun κ => r2 κ a0) (r2' a0)) (l : (List Int)) (t : Int) : ChO (fun κ => buchi_rising_L2_B l (r2 κ) t) (buchi_rising_L2_B l r2' t) := by
  unfold buchi_rising_L2_B
  repeat' with_reducible first | exact ChO.const _ | exact h_r2 _ | apply ChO.ite | apply ChO.G | apply ChO.both | (apply ChO.bind; intro _)
theorem buchi_rising_L2_cn  (l : (List Int)) : Cn (buchi_rising_L2_F l) := fun g h hg x => buchi_rising_L2_B_ch  (fun κ t => g κ t) (fun t => h t) (fun t => hg t) l x
theorem buchi_rising_L2_eq  (l : (List Int)) (t : Int) : buchi_rising_L2 l t = buchi_rising_L2_B l (buchi_rising_L2 l) t := LFix_eq (buchi_rising_L2_cn l) t

noncomputable def cmp_isNaN (x' : Int) : Option (Bool) :=
  some (decide (¬ x' = x'))

noncomputable def cmp_Compare (x' : Int) (y' : Int) : Option (Int) :=
  (cmp_isNaN x').bind (fun y'_1 =>
  (cmp_isNaN y').bind (fun y'_2 =>
  if y'_1 = true then
  if y'_2 = true then
  some (0 : Int) else
  some (-1 : Int) else
  if y'_2 = true then
  some (1 : Int) else
  if (decide (x' < y')) = true then
  some (-1 : Int) else
  if (decide (y' < x')) = true then
  some (1 : Int) else
  some (0 : Int)))

noncomputable def cmp_Or_L3_B (vals : (List Int)) (r3 : Int → Option (Int)) (t : Int) : Option (Int) :=
  if (decide (t < (vals.length : Int))) = true then
  G (0 ≤ t ∧ t < (vals.length : Int)) (
  if (decide (¬ (ix vals t) = (0 : Int))) = true then
  some (ix vals t) else
  G (fits (t + (1 : Int))) (
  r3 (t + (1 : Int)))) else
  some (0 : Int)
noncomputable def cmp_Or_L3_F (vals : (List Int)) : (Int → Option (Int)) → Int → Option (Int) :=
  fun rec x => cmp_Or_L3_B vals (fun t => rec t) x
noncomputable def cmp_Or_L3 (vals : (List Int)) (t : Int) : Option (Int) := LFix (cmp_Or_L3_F vals ) t
noncomputable def cmp_Or (vals : (List Int)) : Option (Int) :=
  cmp_Or_L3 vals (0 : Int)
theorem cmp_Or_L3_B_ch (r3 : Nat → Int → Option (Int)) (r3' : Int → Option (Int)) (h_r3 : ∀ a0, ChO (fun κ => r3 κ a0) (r3' a0)) (vals : (List Int)) (t : Int) : ChO (fun κ => cmp_Or_L3_B vals (r3 κ) t) (cmp_Or_L3_B vals r3' t) := by
  unfold cmp_Or_L3_B
  repeat' with_reducible first | exact ChO.const _ | exact h_r3 _ | apply ChO.ite | apply ChO.G | apply ChO.both | (apply ChO.bind; intro _)
theorem cmp_Or_L3_cn  (vals : (List Int)) : Cn (cmp_Or_L3_F vals) := fun g h hg x => cmp_Or_L3_B_ch  (fun κ t => g κ t) (fun t => h t) (fun t => hg t) vals x
theorem cmp_Or_L3_eq  (vals : (List Int)) (t : Int) : cmp_Or_L3 vals t = cmp_Or_L3_B vals (cmp_Or_L3 vals) t := LFix_eq (cmp_Or_L3_cn vals) t

noncomputable def buchi_order (x' : (Int × Int × Int × Unit)) (y' : (Int × Int × Int × Unit)) : Option (Int) :=
  (cmp_Compare x'.1 y'.1).bind (fun y'_1 =>
  (cmp_Compare x'.2.1 y'.2.1).bind (fun y'_2 =>
  (cmp_Compare x'.2.2.1 y'.2.2.1).bind (fun y'_3 =>
  (cmp_Or ([y'_1, y'_2, y'_3])).bind (fun y'_4 =>
  some y'_4))))

noncomputable def buchi_Check_L11_B (a : (Int × Int × (List Int) × (List (Int × Int × Int × Unit)) × (List Int) × Unit)) (r11 : Int → Option (Int)) (t : Int) : Option (Int) :=
  if (decide (t < (a.2.2.2.1.length : Int))) = true then
  if (decide ((0 : Int) < t)) = true then
  G (fits (t - (1 : Int))) (
  G (0 ≤ t - (1 : Int) ∧ t - (1 : Int) < (a.2.2.2.1.length : Int)) (
  G (0 ≤ t ∧ t < (a.2.2.2.1.length : Int)) (
  (buchi_order (ix a.2.2.2.1 (t - (1 : Int))) (ix a.2.2.2.1 t)).bind (fun y'_7 =>
  if (decide ((0 : Int) ≤ y'_7)) = true then
  some (3 : Int) else
  G (fits (t + (1 : Int))) (
  r11 (t + (1 : Int))))))) else
  G (fits (t + (1 : Int))) (
  r11 (t + (1 : Int))) else
  some (0 : Int)
noncomputable def buchi_Check_L11_F (a : (Int × Int × (List Int) × (List (Int × Int × Int × Unit)) × (List Int) × Unit)) : (Int → Option (Int)) → Int → Option (Int) :=
  fun rec x => buchi_Check_L11_B a (fun t => rec t) x
noncomputable def buchi_Check_L11 (a : (Int × Int × (List Int) × (List (Int × Int × Int × Unit)) × (List Int) × Unit)) (t : Int) : Option (Int) := LFix (buchi_Check_L11_F a ) t
noncomputable def buchi_Check (a : (Int × Int × (List Int) × (List (Int × Int × Int × Unit)) × (List Int) × Unit)) : Option (Int) :=
  if (decide (a.1 < (1 : Int))) = true then
  some (2 : Int) else
  if (decide ((4 : Int) < a.1)) = true then
  some (2 : Int) else
  if (decide (a.2.1 < (1 : Int))) = true then
  some (1 : Int) else
  if (decide ((300 : Int) < a.2.1)) = true then
  some (1 : Int) else
  if (decide ((40000 : Int) < (a.2.2.2.1.length : Int))) = true then
  some (1 : Int) else
  (slices_ContainsFunc a.2.2.1 (a.1, (a.2.1, (a.2.2.1, (a.2.2.2.1, (a.2.2.2.2.1, ())))))).bind (fun y' =>
  if y' = true then
  some (2 : Int) else
  (slices_ContainsFunc a.2.2.2.2.1 (a.1, (a.2.1, (a.2.2.1, (a.2.2.2.1, (a.2.2.2.2.1, ())))))).bind (fun y'_1 =>
  if y'_1 = true then
  some (2 : Int) else
  (slices_ContainsFunc_1 a.2.2.2.1 (a.1, (a.2.1, (a.2.2.1, (a.2.2.2.1, (a.2.2.2.2.1, ()))))) (a.1, (a.2.1, (a.2.2.1, (a.2.2.2.1, (a.2.2.2.2.1, ())))))).bind (fun y'_8 =>
  if y'_8.1 = true then
  some (2 : Int) else
  (buchi_rising a.2.2.1).bind (fun y'_5 =>
  if (!y'_5) = true then
  some (3 : Int) else
  (buchi_rising a.2.2.2.2.1).bind (fun y'_6 =>
  if (!y'_6) = true then
  some (3 : Int) else
  buchi_Check_L11 a (0 : Int))))))
theorem buchi_Check_L11_B_ch (r11 : Nat → Int → Option (Int)) (r11' : Int → Option (Int)) (h_r11 : ∀ a0, ChO (fun κ => r11 κ a0) (r11' a0)) (a : (Int × Int × (List Int) × (List (Int × Int × Int × Unit)) × (List Int) × Unit)) (t : Int) : ChO (fun κ => buchi_Check_L11_B a (r11 κ) t) (buchi_Check_L11_B a r11' t) := by
  unfold buchi_Check_L11_B
  repeat' with_reducible first | exact ChO.const _ | exact h_r11 _ | apply ChO.ite | apply ChO.G | apply ChO.both | (apply ChO.bind; intro _)
theorem buchi_Check_L11_cn  (a : (Int × Int × (List Int) × (List (Int × Int × Int × Unit)) × (List Int) × Unit)) : Cn (buchi_Check_L11_F a) := fun g h hg x => buchi_Check_L11_B_ch  (fun κ t => g κ t) (fun t => h t) (fun t => hg t) a x
theorem buchi_Check_L11_eq  (a : (Int × Int × (List Int) × (List (Int × Int × Int × Unit)) × (List Int) × Unit)) (t : Int) : buchi_Check_L11 a t = buchi_Check_L11_B a (buchi_Check_L11 a) t := LFix_eq (buchi_Check_L11_cn a) t

noncomputable def det_Made_1_L3_B (l : (List Int)) (r3 : Int → Int → Option (Int)) (n : Int) (t : Int) : Option (Int) :=
  if (decide (t < (l.length : Int))) = true then
  G (0 ≤ t ∧ t < (l.length : Int)) (
  G (0 ≤ ix l t) (
  G (fits (t + (1 : Int))) (
  r3 (ior .i64 n (ishl .i64 (1 : Int) (ix l t))) (t + (1 : Int))))) else
  some n
noncomputable def det_Made_1_L3_F (l : (List Int)) : (Int × Int → Option (Int)) → Int × Int → Option (Int) :=
  fun rec x => det_Made_1_L3_B l (fun n t => rec (n, t)) x.1 x.2
noncomputable def det_Made_1_L3 (l : (List Int)) (n : Int) (t : Int) : Option (Int) := LFix (det_Made_1_L3_F l ) (n, t)
noncomputable def det_Made_1 (l : (List Int)) : Option (Int) :=
  det_Made_1_L3 l (0 : Int) (0 : Int)
theorem det_Made_1_L3_B_ch (r3 : Nat → Int → Int → Option (Int)) (r3' : Int → Int → Option (Int)) (h_r3 : ∀ a0 a1, ChO (fun κ => r3 κ a0 a1) (r3' a0 a1)) (l : (List Int)) (n : Int) (t : Int) : ChO (fun κ => det_Made_1_L3_B l (r3 κ) n t) (det_Made_1_L3_B l r3' n t) := by
  unfold det_Made_1_L3_B
  repeat' with_reducible first | exact ChO.const _ | exact h_r3 _ _ | apply ChO.ite | apply ChO.G | apply ChO.both | (apply ChO.bind; intro _)
theorem det_Made_1_L3_cn  (l : (List Int)) : Cn (det_Made_1_L3_F l) := fun g h hg x => det_Made_1_L3_B_ch  (fun κ n t => g κ (n, t)) (fun n t => h (n, t)) (fun n t => hg (n, t)) l x.1 x.2
theorem det_Made_1_L3_eq  (l : (List Int)) (n : Int) (t : Int) : det_Made_1_L3 l n t = det_Made_1_L3_B l (det_Made_1_L3 l) n t := LFix_eq (det_Made_1_L3_cn l) (n, t)

noncomputable def det_Made_2_J5 (t : (Int × Int × (List Int) × (List (Int × Int × Int × Unit)) × (List Int) × Unit)) (to : Int) (t_1 : Int) (r3 : (Int → Int → Option (Int))) (t_2 : Bool) : Option (Int) :=
  if t_2 = true then
  G (0 ≤ (((ix t.2.2.2.1 t_1).2).2).1) (
  G (fits (t_1 + (1 : Int))) (
  r3 (ior .i64 to (ishl .i64 (1 : Int) ((((ix t.2.2.2.1 t_1).2).2).1))) (t_1 + (1 : Int)))) else
  G (fits (t_1 + (1 : Int))) (
  r3 to (t_1 + (1 : Int)))
noncomputable def det_Made_2_L3_B (s : Int) (l : Int) (t : (Int × Int × (List Int) × (List (Int × Int × Int × Unit)) × (List Int) × Unit)) (r3 : Int → Int → Option (Int)) (to : Int) (t_1 : Int) : Option (Int) :=
  if (decide (t_1 < (t.2.2.2.1.length : Int))) = true then
  G (0 ≤ t_1 ∧ t_1 < (t.2.2.2.1.length : Int)) (
  if (decide ((((ix t.2.2.2.1 t_1).2).1) = l)) = true then
  G (0 ≤ (ix t.2.2.2.1 t_1).1) (
  det_Made_2_J5 t to t_1 r3 (decide ((iand .i64 (ishr .i64 s ((ix t.2.2.2.1 t_1).1)) (1 : Int)) = (1 : Int)))) else
  det_Made_2_J5 t to t_1 r3 false) else
  some to
noncomputable def det_Made_2_L3_F (s : Int) (l : Int) (t : (Int × Int × (List Int) × (List (Int × Int × Int × Unit)) × (List Int) × Unit)) : (Int × Int → Option (Int)) → Int × Int → Option (Int) :=
  fun rec x => det_Made_2_L3_B s l t (fun to t_1 => rec (to, t_1)) x.1 x.2
noncomputable def det_Made_2_L3 (s : Int) (l : Int) (t : (Int × Int × (List Int) × (List (Int × Int × Int × Unit)) × (List Int) × Unit)) (to : Int) (t_1 : Int) : Option (Int) := LFix (det_Made_2_L3_F s l t ) (to, t_1)
noncomputable def det_Made_2 (s : Int) (l : Int) (t : (Int × Int × (List Int) × (List (Int × Int × Int × Unit)) × (List Int) × Unit)) : Option (Int) :=
  det_Made_2_L3 s l t (0 : Int) (0 : Int)
theorem det_Made_2_J5_ch (r3 : Nat → Int → Int → Option (Int)) (r3' : Int → Int → Option (Int)) (h_r3 : ∀ a0 a1, ChO (fun κ => r3 κ a0 a1) (r3' a0 a1)) (t : (Int × Int × (List Int) × (List (Int × Int × Int × Unit)) × (List Int) × Unit)) (to : Int) (t_1 : Int) (t_2 : Bool) : ChO (fun κ => det_Made_2_J5 t to t_1 (r3 κ) t_2) (det_Made_2_J5 t to t_1 r3' t_2) := by
  unfold det_Made_2_J5
  repeat' with_reducible first | exact ChO.const _ | exact h_r3 _ _ | apply ChO.ite | apply ChO.G | apply ChO.both | (apply ChO.bind; intro _)
theorem det_Made_2_L3_B_ch (r3 : Nat → Int → Int → Option (Int)) (r3' : Int → Int → Option (Int)) (h_r3 : ∀ a0 a1, ChO (fun κ => r3 κ a0 a1) (r3' a0 a1)) (s : Int) (l : Int) (t : (Int × Int × (List Int) × (List (Int × Int × Int × Unit)) × (List Int) × Unit)) (to : Int) (t_1 : Int) : ChO (fun κ => det_Made_2_L3_B s l t (r3 κ) to t_1) (det_Made_2_L3_B s l t r3' to t_1) := by
  unfold det_Made_2_L3_B
  repeat' with_reducible first | exact ChO.const _ | exact h_r3 _ _ | (apply det_Made_2_J5_ch <;> assumption) | apply ChO.ite | apply ChO.G | apply ChO.both | (apply ChO.bind; intro _)
theorem det_Made_2_L3_cn  (s : Int) (l : Int) (t : (Int × Int × (List Int) × (List (Int × Int × Int × Unit)) × (List Int) × Unit)) : Cn (det_Made_2_L3_F s l t) := fun g h hg x => det_Made_2_L3_B_ch  (fun κ to t_1 => g κ (to, t_1)) (fun to t_1 => h (to, t_1)) (fun to t_1 => hg (to, t_1)) s l t x.1 x.2
theorem det_Made_2_L3_eq  (s : Int) (l : Int) (t : (Int × Int × (List Int) × (List (Int × Int × Int × Unit)) × (List Int) × Unit)) (to : Int) (t_1 : Int) : det_Made_2_L3 s l t to t_1 = det_Made_2_L3_B s l t (det_Made_2_L3 s l t) to t_1 := LFix_eq (det_Made_2_L3_cn s l t) (to, t_1)

noncomputable def det_Made_3 (s : Int) (t : Int) : Option (Int) :=
  some (imin (iand .i64 s t) (1 : Int))

noncomputable def det_Explore_J17 (t : Int) (row : (List Int)) (r8 : (Int → (List Int) → (List Int) → (List Int) → (List Int) → Option ((Int × Int × (List (List Int)) × (List Int) × Unit) × Bool))) (n : Int) (number_4 : (List Int)) (number_5 : (List Int)) (l_2 : (List Int)) : Option ((Int × Int × (List (List Int)) × (List Int) × Unit) × Bool) :=
  G (0 ≤ t ∧ t < (row.length : Int)) (
  G ((t).toNat < row.length) (
  G (fits (t + (1 : Int))) (
  r8 (t + (1 : Int)) number_4 number_5 l_2 (row.set (t).toNat n))))
noncomputable def det_Explore_L8_B (letters : Int) (c : (Int × Int × (List Int) × (List (Int × Int × Int × Unit)) × (List Int) × Unit)) (c_1 : Int) (most : Int) (d : Int) (d_1 : Int) (l : (List Int)) (d_2 : (List (List Int))) (d_3 : (List Int)) (r4 : (Int → Int → (List Int) → (List Int) → (List Int) → (List (List Int)) → (List Int) → Option ((Int × Int × (List (List Int)) × (List Int) × Unit) × Bool))) (r8 : Int → (List Int) → (List Int) → (List Int) → (List Int) → Option ((Int × Int × (List (List Int)) × (List Int) × Unit) × Bool)) (t : Int) (number_2 : (List Int)) (number_3 : (List Int)) (l_1 : (List Int)) (row : (List Int)) : Option ((Int × Int × (List (List Int)) × (List Int) × Unit) × Bool) :=
  if (decide (t < letters)) = true then
  (det_Made_2 (ix l (d_2.length : Int)) t c).bind (fun y' =>
  if (!(mhas number_2 y')) = true then
  if (decide ((l_1.length : Int) = most)) = true then
  some (((0 : Int), ((0 : Int), ([], ([], ())))), false) else
  G (room l_1 ([y']) 8) (
  det_Explore_J17 t row r8 (l_1.length : Int) (mputK number_2 y') (mputV number_2 number_3 y' (l_1.length : Int)) (l_1 ++ ([y']))) else
  det_Explore_J17 t row r8 (mget number_2 number_3 y' (0 : Int)) number_2 number_3 l_1) else
  G (room d_2 ([row]) 24) (
  (det_Made_3 (ix l (d_2.length : Int)) c_1).bind (fun y'_1 =>
  G (room d_3 ([y'_1]) 8) (
  r4 d d_1 number_2 number_3 l_1 (d_2 ++ ([row])) (d_3 ++ ([y'_1])))))
noncomputable def det_Explore_L8_F (letters : Int) (c : (Int × Int × (List Int) × (List (Int × Int × Int × Unit)) × (List Int) × Unit)) (c_1 : Int) (most : Int) (d : Int) (d_1 : Int) (l : (List Int)) (d_2 : (List (List Int))) (d_3 : (List Int)) (r4 : (Int → Int → (List Int) → (List Int) → (List Int) → (List (List Int)) → (List Int) → Option ((Int × Int × (List (List Int)) × (List Int) × Unit) × Bool))) : (Int × (List Int) × (List Int) × (List Int) × (List Int) → Option ((Int × Int × (List (List Int)) × (List Int) × Unit) × Bool)) → Int × (List Int) × (List Int) × (List Int) × (List Int) → Option ((Int × Int × (List (List Int)) × (List Int) × Unit) × Bool) :=
  fun rec x => det_Explore_L8_B letters c c_1 most d d_1 l d_2 d_3 r4 (fun t number_2 number_3 l_1 row => rec (t, number_2, number_3, l_1, row)) x.1 x.2.1 x.2.2.1 x.2.2.2.1 x.2.2.2.2
noncomputable def det_Explore_L8 (letters : Int) (c : (Int × Int × (List Int) × (List (Int × Int × Int × Unit)) × (List Int) × Unit)) (c_1 : Int) (most : Int) (d : Int) (d_1 : Int) (l : (List Int)) (d_2 : (List (List Int))) (d_3 : (List Int)) (r4 : (Int → Int → (List Int) → (List Int) → (List Int) → (List (List Int)) → (List Int) → Option ((Int × Int × (List (List Int)) × (List Int) × Unit) × Bool))) (t : Int) (number_2 : (List Int)) (number_3 : (List Int)) (l_1 : (List Int)) (row : (List Int)) : Option ((Int × Int × (List (List Int)) × (List Int) × Unit) × Bool) := LFix (det_Explore_L8_F letters c c_1 most d d_1 l d_2 d_3 r4 ) (t, number_2, number_3, l_1, row)
noncomputable def det_Explore_L4_B (letters : Int) (c : (Int × Int × (List Int) × (List (Int × Int × Int × Unit)) × (List Int) × Unit)) (c_1 : Int) (most : Int) (r4 : Int → Int → (List Int) → (List Int) → (List Int) → (List (List Int)) → (List Int) → Option ((Int × Int × (List (List Int)) × (List Int) × Unit) × Bool)) (d : Int) (d_1 : Int) (number : (List Int)) (number_1 : (List Int)) (l : (List Int)) (d_2 : (List (List Int))) (d_3 : (List Int)) : Option ((Int × Int × (List (List Int)) × (List Int) × Unit) × Bool) :=
  if (decide ((d_2.length : Int) < (l.length : Int))) = true then
  G (0 ≤ (d_2.length : Int) ∧ (d_2.length : Int) < (l.length : Int)) (
  G (((d_2.length : Int)).toNat < l.length) (
  G (mkOK letters letters 8) (
  det_Explore_L8 letters c c_1 most d d_1 l d_2 d_3 r4 (0 : Int) number number_1 l (List.replicate (letters).toNat (0 : Int))))) else
  some ((d, (d_1, (d_2, (d_3, ())))), true)
noncomputable def det_Explore_L4_F (letters : Int) (c : (Int × Int × (List Int) × (List (Int × Int × Int × Unit)) × (List Int) × Unit)) (c_1 : Int) (most : Int) : (Int × Int × (List Int) × (List Int) × (List Int) × (List (List Int)) × (List Int) → Option ((Int × Int × (List (List Int)) × (List Int) × Unit) × Bool)) → Int × Int × (List Int) × (List Int) × (List Int) × (List (List Int)) × (List Int) → Option ((Int × Int × (List (List Int)) × (List Int) × Unit) × Bool) :=
  fun rec x => det_Explore_L4_B letters c c_1 most (fun d d_1 number number_1 l d_2 d_3 => rec (d, d_1, number, number_1, l, d_2, d_3)) x.1 x.2.1 x.2.2.1 x.2.2.2.1 x.2.2.2.2.1 x.2.2.2.2.2.1 x.2.2.2.2.2.2
noncomputable def det_Explore_L4 (letters : Int) (c : (Int × Int × (List Int) × (List (Int × Int × Int × Unit)) × (List Int) × Unit)) (c_1 : Int) (most : Int) (d : Int) (d_1 : Int) (number : (List Int)) (number_1 : (List Int)) (l : (List Int)) (d_2 : (List (List Int))) (d_3 : (List Int)) : Option ((Int × Int × (List (List Int)) × (List Int) × Unit) × Bool) := LFix (det_Explore_L4_F letters c c_1 most ) (d, d_1, number, number_1, l, d_2, d_3)
noncomputable def det_Explore (letters : Int) (first : Int) (c : (Int × Int × (List Int) × (List (Int × Int × Int × Unit)) × (List Int) × Unit)) (c_1 : Int) (most : Int) : Option ((Int × Int × (List (List Int)) × (List Int) × Unit) × Bool) :=
  det_Explore_L4 letters c c_1 most letters (0 : Int) (mputK ([] : List Int) first) (mputV ([] : List Int) ([] : List Int) first (0 : Int)) ([first]) ([] : List (List Int)) ([] : List Int)
theorem det_Explore_J17_ch (r8 : Nat → Int → (List Int) → (List Int) → (List Int) → (List Int) → Option ((Int × Int × (List (List Int)) × (List Int) × Unit) × Bool)) (r8' : Int → (List Int) → (List Int) → (List Int) → (List Int) → Option ((Int × Int × (List (List Int)) × (List Int) × Unit) × Bool)) (h_r8 : ∀ a0 a1 a2 a3 a4, ChO (fun κ => r8 κ a0 a1 a2 a3 a4) (r8' a0 a1 a2 a3 a4)) (t : Int) (row : (List Int)) (n : Int) (number_4 : (List Int)) (number_5 : (List Int)) (l_2 : (List Int)) : ChO (fun κ => det_Explore_J17 t row (r8 κ) n number_4 number_5 l_2) (det_Explore_J17 t row r8' n number_4 number_5 l_2) := by
  unfold det_Explore_J17
  repeat' with_reducible first | exact ChO.const _ | exact h_r8 _ _ _ _ _ | apply ChO.ite | apply ChO.G | apply ChO.both | (apply ChO.bind; intro _)
theorem det_Explore_L8_B_ch (r4 : Nat → Int → Int → (List Int) → (List Int) → (List Int) → (List (List Int)) → (List Int) → Option ((Int × Int × (List (List Int)) × (List Int) × Unit) × Bool)) (r4' : Int → Int → (List Int) → (List Int) → (List Int) → (List (List Int)) → (List Int) → Option ((Int × Int × (List (List Int)) × (List Int) × Unit) × Bool)) (h_r4 : ∀ a0 a1 a2 a3 a4 a5 a6, ChO (fun κ => r4 κ a0 a1 a2 a3 a4 a5 a6) (r4' a0 a1 a2 a3 a4 a5 a6)) (r8 : Nat → Int → (List Int) → (List Int) → (List Int) → (List Int) → Option ((Int × Int × (List (List Int)) × (List Int) × Unit) × Bool)) (r8' : Int → (List Int) → (List Int) → (List Int) → (List Int) → Option ((Int × Int × (List (List Int)) × (List Int) × Unit) × Bool)) (h_r8 : ∀ a0 a1 a2 a3 a4, ChO (fun κ => r8 κ a0 a1 a2 a3 a4) (r8' a0 a1 a2 a3 a4)) (letters : Int) (c : (Int × Int × (List Int) × (List (Int × Int × Int × Unit)) × (List Int) × Unit)) (c_1 : Int) (most : Int) (d : Int) (d_1 : Int) (l : (List Int)) (d_2 : (List (List Int))) (d_3 : (List Int)) (t : Int) (number_2 : (List Int)) (number_3 : (List Int)) (l_1 : (List Int)) (row : (List Int)) : ChO (fun κ => det_Explore_L8_B letters c c_1 most d d_1 l d_2 d_3 (r4 κ) (r8 κ) t number_2 number_3 l_1 row) (det_Explore_L8_B letters c c_1 most d d_1 l d_2 d_3 r4' r8' t number_2 number_3 l_1 row) := by
  unfold det_Explore_L8_B
  repeat' with_reducible first | exact ChO.const _ | exact h_r4 _ _ _ _ _ _ _ | exact h_r8 _ _ _ _ _ | (apply det_Explore_J17_ch <;> assumption) | apply ChO.ite | apply ChO.G | apply ChO.both | (apply ChO.bind; intro _)
theorem det_Explore_L8_cn (r4 : Int → Int → (List Int) → (List Int) → (List Int) → (List (List Int)) → (List Int) → Option ((Int × Int × (List (List Int)) × (List Int) × Unit) × Bool)) (letters : Int) (c : (Int × Int × (List Int) × (List (Int × Int × Int × Unit)) × (List Int) × Unit)) (c_1 : Int) (most : Int) (d : Int) (d_1 : Int) (l : (List Int)) (d_2 : (List (List Int))) (d_3 : (List Int)) : Cn (det_Explore_L8_F letters c c_1 most d d_1 l d_2 d_3 r4) := fun g h hg x => det_Explore_L8_B_ch (fun _ => r4) r4 (fun _ _ _ _ _ _ _ => ChO.const _) (fun κ t number_2 number_3 l_1 row => g κ (t, number_2, number_3, l_1, row)) (fun t number_2 number_3 l_1 row => h (t, number_2, number_3, l_1, row)) (fun t number_2 number_3 l_1 row => hg (t, number_2, number_3, l_1, row)) letters c c_1 most d d_1 l d_2 d_3 x.1 x.2.1 x.2.2.1 x.2.2.2.1 x.2.2.2.2
theorem det_Explore_L8_eq (r4 : Int → Int → (List Int) → (List Int) → (List Int) → (List (List Int)) → (List Int) → Option ((Int × Int × (List (List Int)) × (List Int) × Unit) × Bool)) (letters : Int) (c : (Int × Int × (List Int) × (List (Int × Int × Int × Unit)) × (List Int) × Unit)) (c_1 : Int) (most : Int) (d : Int) (d_1 : Int) (l : (List Int)) (d_2 : (List (List Int))) (d_3 : (List Int)) (t : Int) (number_2 : (List Int)) (number_3 : (List Int)) (l_1 : (List Int)) (row : (List Int)) : det_Explore_L8 letters c c_1 most d d_1 l d_2 d_3 r4 t number_2 number_3 l_1 row = det_Explore_L8_B letters c c_1 most d d_1 l d_2 d_3 r4 (det_Explore_L8 letters c c_1 most d d_1 l d_2 d_3 r4) t number_2 number_3 l_1 row := LFix_eq (det_Explore_L8_cn r4 letters c c_1 most d d_1 l d_2 d_3) (t, number_2, number_3, l_1, row)
theorem det_Explore_L8_ch (r4 : Nat → Int → Int → (List Int) → (List Int) → (List Int) → (List (List Int)) → (List Int) → Option ((Int × Int × (List (List Int)) × (List Int) × Unit) × Bool)) (r4' : Int → Int → (List Int) → (List Int) → (List Int) → (List (List Int)) → (List Int) → Option ((Int × Int × (List (List Int)) × (List Int) × Unit) × Bool)) (h_r4 : ∀ a0 a1 a2 a3 a4 a5 a6, ChO (fun κ => r4 κ a0 a1 a2 a3 a4 a5 a6) (r4' a0 a1 a2 a3 a4 a5 a6)) (letters : Int) (c : (Int × Int × (List Int) × (List (Int × Int × Int × Unit)) × (List Int) × Unit)) (c_1 : Int) (most : Int) (d : Int) (d_1 : Int) (l : (List Int)) (d_2 : (List (List Int))) (d_3 : (List Int)) (t : Int) (number_2 : (List Int)) (number_3 : (List Int)) (l_1 : (List Int)) (row : (List Int)) : ChO (fun κ => det_Explore_L8 letters c c_1 most d d_1 l d_2 d_3 (r4 κ) t number_2 number_3 l_1 row) (det_Explore_L8 letters c c_1 most d d_1 l d_2 d_3 r4' t number_2 number_3 l_1 row) := by
  unfold det_Explore_L8
  exact LFix_ch (fun κ => (det_Explore_L8_cn (r4 κ) letters c c_1 most d d_1 l d_2 d_3).mono) (det_Explore_L8_cn r4' letters c c_1 most d d_1 l d_2 d_3).mono (fun g h hg x => det_Explore_L8_B_ch r4 r4' h_r4 (fun κ t number_2 number_3 l_1 row => g κ (t, number_2, number_3, l_1, row)) (fun t number_2 number_3 l_1 row => h (t, number_2, number_3, l_1, row)) (fun t number_2 number_3 l_1 row => hg (t, number_2, number_3, l_1, row)) letters c c_1 most d d_1 l d_2 d_3 x.1 x.2.1 x.2.2.1 x.2.2.2.1 x.2.2.2.2) _
theorem det_Explore_L4_B_ch (r4 : Nat → Int → Int → (List Int) → (List Int) → (List Int) → (List (List Int)) → (List Int) → Option ((Int × Int × (List (List Int)) × (List Int) × Unit) × Bool)) (r4' : Int → Int → (List Int) → (List Int) → (List Int) → (List (List Int)) → (List Int) → Option ((Int × Int × (List (List Int)) × (List Int) × Unit) × Bool)) (h_r4 : ∀ a0 a1 a2 a3 a4 a5 a6, ChO (fun κ => r4 κ a0 a1 a2 a3 a4 a5 a6) (r4' a0 a1 a2 a3 a4 a5 a6)) (letters : Int) (c : (Int × Int × (List Int) × (List (Int × Int × Int × Unit)) × (List Int) × Unit)) (c_1 : Int) (most : Int) (d : Int) (d_1 : Int) (number : (List Int)) (number_1 : (List Int)) (l : (List Int)) (d_2 : (List (List Int))) (d_3 : (List Int)) : ChO (fun κ => det_Explore_L4_B letters c c_1 most (r4 κ) d d_1 number number_1 l d_2 d_3) (det_Explore_L4_B letters c c_1 most r4' d d_1 number number_1 l d_2 d_3) := by
  unfold det_Explore_L4_B
  repeat' with_reducible first | exact ChO.const _ | exact h_r4 _ _ _ _ _ _ _ | (apply det_Explore_J17_ch <;> assumption) | (apply det_Explore_L8_ch <;> assumption) | apply ChO.ite | apply ChO.G | apply ChO.both | (apply ChO.bind; intro _)
theorem det_Explore_L4_cn  (letters : Int) (c : (Int × Int × (List Int) × (List (Int × Int × Int × Unit)) × (List Int) × Unit)) (c_1 : Int) (most : Int) : Cn (det_Explore_L4_F letters c c_1 most) := fun g h hg x => det_Explore_L4_B_ch  (fun κ d d_1 number number_1 l d_2 d_3 => g κ (d, d_1, number, number_1, l, d_2, d_3)) (fun d d_1 number number_1 l d_2 d_3 => h (d, d_1, number, number_1, l, d_2, d_3)) (fun d d_1 number number_1 l d_2 d_3 => hg (d, d_1, number, number_1, l, d_2, d_3)) letters c c_1 most x.1 x.2.1 x.2.2.1 x.2.2.2.1 x.2.2.2.2.1 x.2.2.2.2.2.1 x.2.2.2.2.2.2
theorem det_Explore_L4_eq  (letters : Int) (c : (Int × Int × (List Int) × (List (Int × Int × Int × Unit)) × (List Int) × Unit)) (c_1 : Int) (most : Int) (d : Int) (d_1 : Int) (number : (List Int)) (number_1 : (List Int)) (l : (List Int)) (d_2 : (List (List Int))) (d_3 : (List Int)) : det_Explore_L4 letters c c_1 most d d_1 number number_1 l d_2 d_3 = det_Explore_L4_B letters c c_1 most (det_Explore_L4 letters c c_1 most) d d_1 number number_1 l d_2 d_3 := LFix_eq (det_Explore_L4_cn letters c c_1 most) (d, d_1, number, number_1, l, d_2, d_3)

noncomputable def slices_Clone (s : (List Int)) : Option (List Int) :=
  if s.length = 0 then both [(.list (.int .i64))] (
  some ([])) (
  G (room ([] : List Int) s 8) (
  some (([] : List Int) ++ s))) else
  G (room ([] : List Int) s 8) (
  some (([] : List Int) ++ s))

noncomputable def det_Classes_J17 (class' : (List Int)) (t : Int) (next' : (List Int)) (r6 : (Int → (List (Int × (List UInt8) × Unit)) → (List Int) → (List Int) → Option (List Int))) (b : (List Int)) (number_2 : (List (Int × (List UInt8) × Unit))) (number_3 : (List Int)) : Option (List Int) :=
  G (0 ≤ t ∧ t < (next'.length : Int)) (
  G ((t).toNat < next'.length) (
  G (fits (t + (1 : Int))) (
  r6 (t + (1 : Int)) number_2 number_3 (next'.set (t).toNat (mget number_2 number_3 (ix class' t, (bstr b, ())) (0 : Int))))))
noncomputable def det_Classes_L10_B (d : (Int × Int × (List (List Int)) × (List Int) × Unit)) (class' : (List Int)) (t : Int) (number : (List (Int × (List UInt8) × Unit))) (number_1 : (List Int)) (next' : (List Int)) (r6 : (Int → (List (Int × (List UInt8) × Unit)) → (List Int) → (List Int) → Option (List Int))) (r10 : Int → (List Int) → Option (List Int)) (t_1 : Int) (b : (List Int)) : Option (List Int) :=
  if (decide (t_1 < ((ix d.2.2.1 t).length : Int))) = true then
  G (0 ≤ t_1 ∧ t_1 < ((ix d.2.2.1 t).length : Int)) (
  G (0 ≤ ix (ix d.2.2.1 t) t_1 ∧ ix (ix d.2.2.1 t) t_1 < (class'.length : Int)) (
  G ((ix (ix d.2.2.1 t) t_1).toNat < class'.length) (
  G (0 ≤ ix (ix d.2.2.1 t) t_1 ∧ ix (ix d.2.2.1 t) t_1 < (class'.length : Int)) (
  G ((ix (ix d.2.2.1 t) t_1).toNat < class'.length) (
  G (0 ≤ (8 : Int)) (
  G (room b ([IntKind.wrap .u8 (ix class' (ix (ix d.2.2.1 t) t_1)), IntKind.wrap .u8 (ishr .i64 (ix class' (ix (ix d.2.2.1 t) t_1)) (8 : Int))]) 1) (
  G (fits (t_1 + (1 : Int))) (
  r10 (t_1 + (1 : Int)) (b ++ ([IntKind.wrap .u8 (ix class' (ix (ix d.2.2.1 t) t_1)), IntKind.wrap .u8 (ishr .i64 (ix class' (ix (ix d.2.2.1 t) t_1)) (8 : Int))])))))))))) else
  G (0 ≤ t ∧ t < (class'.length : Int)) (
  G ((t).toNat < class'.length) (
  if (!(mhas number (ix class' t, (bstr b, ())))) = true then
  det_Classes_J17 class' t next' r6 b (mputK number (ix class' t, (bstr b, ()))) (mputV number number_1 (ix class' t, (bstr b, ())) (number.length : Int)) else
  det_Classes_J17 class' t next' r6 b number number_1))
noncomputable def det_Classes_L10_F (d : (Int × Int × (List (List Int)) × (List Int) × Unit)) (class' : (List Int)) (t : Int) (number : (List (Int × (List UInt8) × Unit))) (number_1 : (List Int)) (next' : (List Int)) (r6 : (Int → (List (Int × (List UInt8) × Unit)) → (List Int) → (List Int) → Option (List Int))) : (Int × (List Int) → Option (List Int)) → Int × (List Int) → Option (List Int) :=
  fun rec x => det_Classes_L10_B d class' t number number_1 next' r6 (fun t_1 b => rec (t_1, b)) x.1 x.2
noncomputable def det_Classes_L10 (d : (Int × Int × (List (List Int)) × (List Int) × Unit)) (class' : (List Int)) (t : Int) (number : (List (Int × (List UInt8) × Unit))) (number_1 : (List Int)) (next' : (List Int)) (r6 : (Int → (List (Int × (List UInt8) × Unit)) → (List Int) → (List Int) → Option (List Int))) (t_1 : Int) (b : (List Int)) : Option (List Int) := LFix (det_Classes_L10_F d class' t number number_1 next' r6 ) (t_1, b)
noncomputable def det_Classes_L6_B (d : (Int × Int × (List (List Int)) × (List Int) × Unit)) (count : Int) (class' : (List Int)) (r3 : (Int → (List Int) → Option (List Int))) (r6 : Int → (List (Int × (List UInt8) × Unit)) → (List Int) → (List Int) → Option (List Int)) (t : Int) (number : (List (Int × (List UInt8) × Unit))) (number_1 : (List Int)) (next' : (List Int)) : Option (List Int) :=
  if (decide (t < (d.2.2.1.length : Int))) = true then
  G (0 ≤ t ∧ t < (d.2.2.1.length : Int)) (
  det_Classes_L10 d class' t number number_1 next' r6 (0 : Int) ([])) else
  if (decide ((number.length : Int) = count)) = true then
  some next' else
  r3 (number.length : Int) next'
noncomputable def det_Classes_L6_F (d : (Int × Int × (List (List Int)) × (List Int) × Unit)) (count : Int) (class' : (List Int)) (r3 : (Int → (List Int) → Option (List Int))) : (Int × (List (Int × (List UInt8) × Unit)) × (List Int) × (List Int) → Option (List Int)) → Int × (List (Int × (List UInt8) × Unit)) × (List Int) × (List Int) → Option (List Int) :=
  fun rec x => det_Classes_L6_B d count class' r3 (fun t number number_1 next' => rec (t, number, number_1, next')) x.1 x.2.1 x.2.2.1 x.2.2.2
noncomputable def det_Classes_L6 (d : (Int × Int × (List (List Int)) × (List Int) × Unit)) (count : Int) (class' : (List Int)) (r3 : (Int → (List Int) → Option (List Int))) (t : Int) (number : (List (Int × (List UInt8) × Unit))) (number_1 : (List Int)) (next' : (List Int)) : Option (List Int) := LFix (det_Classes_L6_F d count class' r3 ) (t, number, number_1, next')
noncomputable def det_Classes_L3_B (d : (Int × Int × (List (List Int)) × (List Int) × Unit)) (r3 : Int → (List Int) → Option (List Int)) (count : Int) (class' : (List Int)) : Option (List Int) :=
  G (mkOK (class'.length : Int) (class'.length : Int) 8) (
  det_Classes_L6 d count class' r3 (0 : Int) ([] : List (Int × (List UInt8) × Unit)) ([] : List Int) (List.replicate ((class'.length : Int)).toNat (0 : Int)))
noncomputable def det_Classes_L3_F (d : (Int × Int × (List (List Int)) × (List Int) × Unit)) : (Int × (List Int) → Option (List Int)) → Int × (List Int) → Option (List Int) :=
  fun rec x => det_Classes_L3_B d (fun count class' => rec (count, class')) x.1 x.2
noncomputable def det_Classes_L3 (d : (Int × Int × (List (List Int)) × (List Int) × Unit)) (count : Int) (class' : (List Int)) : Option (List Int) := LFix (det_Classes_L3_F d ) (count, class')
noncomputable def det_Classes (d : (Int × Int × (List (List Int)) × (List Int) × Unit)) : Option (List Int) :=
  (slices_Clone d.2.2.2.1).bind (fun y' =>
  det_Classes_L3 d (0 : Int) y')
theorem det_Classes_J17_ch (r6 : Nat → Int → (List (Int × (List UInt8) × Unit)) → (List Int) → (List Int) → Option (List Int)) (r6' : Int → (List (Int × (List UInt8) × Unit)) → (List Int) → (List Int) → Option (List Int)) (h_r6 : ∀ a0 a1 a2 a3, ChO (fun κ => r6 κ a0 a1 a2 a3) (r6' a0 a1 a2 a3)) (class' : (List Int)) (t : Int) (next' : (List Int)) (b : (List Int)) (number_2 : (List (Int × (List UInt8) × Unit))) (number_3 : (List Int)) : ChO (fun κ => det_Classes_J17 class' t next' (r6 κ) b number_2 number_3) (det_Classes_J17 class' t next' r6' b number_2 number_3) := by
  unfold det_Classes_J17
  repeat' with_reducible first | exact ChO.const _ | exact h_r6 _ _ _ _ | apply ChO.ite | apply ChO.G | apply ChO.both | (apply ChO.bind; intro _)
theorem det_Classes_L10_B_ch (r6 : Nat → Int → (List (Int × (List UInt8) × Unit)) → (List Int) → (List Int) → Option (List Int)) (r6' : Int → (List (Int × (List UInt8) × Unit)) → (List Int) → (List Int) → Option (List Int)) (h_r6 : ∀ a0 a1 a2 a3, ChO (fun κ => r6 κ a0 a1 a2 a3) (r6' a0 a1 a2 a3)) (r10 : Nat → Int → (List Int) → Option (List Int)) (r10' : Int → (List Int) → Option (List Int)) (h_r10 : ∀ a0 a1, ChO (fun κ => r10 κ a0 a1) (r10' a0 a1)) (d : (Int × Int × (List (List Int)) × (List Int) × Unit)) (class' : (List Int)) (t : Int) (number : (List (Int × (List UInt8) × Unit))) (number_1 : (List Int)) (next' : (List Int)) (t_1 : Int) (b : (List Int)) : ChO (fun κ => det_Classes_L10_B d class' t number number_1 next' (r6 κ) (r10 κ) t_1 b) (det_Classes_L10_B d class' t number number_1 next' r6' r10' t_1 b) := by
  unfold det_Classes_L10_B
  repeat' with_reducible first | exact ChO.const _ | exact h_r6 _ _ _ _ | exact h_r10 _ _ | (apply det_Classes_J17_ch <;> assumption) | apply ChO.ite | apply ChO.G | apply ChO.both | (apply ChO.bind; intro _)
theorem det_Classes_L10_cn (r6 : Int → (List (Int × (List UInt8) × Unit)) → (List Int) → (List Int) → Option (List Int)) (d : (Int × Int × (List (List Int)) × (List Int) × Unit)) (class' : (List Int)) (t : Int) (number : (List (Int × (List UInt8) × Unit))) (number_1 : (List Int)) (next' : (List Int)) : Cn (det_Classes_L10_F d class' t number number_1 next' r6) := fun g h hg x => det_Classes_L10_B_ch (fun _ => r6) r6 (fun _ _ _ _ => ChO.const _) (fun κ t_1 b => g κ (t_1, b)) (fun t_1 b => h (t_1, b)) (fun t_1 b => hg (t_1, b)) d class' t number number_1 next' x.1 x.2
theorem det_Classes_L10_eq (r6 : Int → (List (Int × (List UInt8) × Unit)) → (List Int) → (List Int) → Option (List Int)) (d : (Int × Int × (List (List Int)) × (List Int) × Unit)) (class' : (List Int)) (t : Int) (number : (List (Int × (List UInt8) × Unit))) (number_1 : (List Int)) (next' : (List Int)) (t_1 : Int) (b : (List Int)) : det_Classes_L10 d class' t number number_1 next' r6 t_1 b = det_Classes_L10_B d class' t number number_1 next' r6 (det_Classes_L10 d class' t number number_1 next' r6) t_1 b := LFix_eq (det_Classes_L10_cn r6 d class' t number number_1 next') (t_1, b)
theorem det_Classes_L10_ch (r6 : Nat → Int → (List (Int × (List UInt8) × Unit)) → (List Int) → (List Int) → Option (List Int)) (r6' : Int → (List (Int × (List UInt8) × Unit)) → (List Int) → (List Int) → Option (List Int)) (h_r6 : ∀ a0 a1 a2 a3, ChO (fun κ => r6 κ a0 a1 a2 a3) (r6' a0 a1 a2 a3)) (d : (Int × Int × (List (List Int)) × (List Int) × Unit)) (class' : (List Int)) (t : Int) (number : (List (Int × (List UInt8) × Unit))) (number_1 : (List Int)) (next' : (List Int)) (t_1 : Int) (b : (List Int)) : ChO (fun κ => det_Classes_L10 d class' t number number_1 next' (r6 κ) t_1 b) (det_Classes_L10 d class' t number number_1 next' r6' t_1 b) := by
  unfold det_Classes_L10
  exact LFix_ch (fun κ => (det_Classes_L10_cn (r6 κ) d class' t number number_1 next').mono) (det_Classes_L10_cn r6' d class' t number number_1 next').mono (fun g h hg x => det_Classes_L10_B_ch r6 r6' h_r6 (fun κ t_1 b => g κ (t_1, b)) (fun t_1 b => h (t_1, b)) (fun t_1 b => hg (t_1, b)) d class' t number number_1 next' x.1 x.2) _
theorem det_Classes_L6_B_ch (r3 : Nat → Int → (List Int) → Option (List Int)) (r3' : Int → (List Int) → Option (List Int)) (h_r3 : ∀ a0 a1, ChO (fun κ => r3 κ a0 a1) (r3' a0 a1)) (r6 : Nat → Int → (List (Int × (List UInt8) × Unit)) → (List Int) → (List Int) → Option (List Int)) (r6' : Int → (List (Int × (List UInt8) × Unit)) → (List Int) → (List Int) → Option (List Int)) (h_r6 : ∀ a0 a1 a2 a3, ChO (fun κ => r6 κ a0 a1 a2 a3) (r6' a0 a1 a2 a3)) (d : (Int × Int × (List (List Int)) × (List Int) × Unit)) (count : Int) (class' : (List Int)) (t : Int) (number : (List (Int × (List UInt8) × Unit))) (number_1 : (List Int)) (next' : (List Int)) : ChO (fun κ => det_Classes_L6_B d count class' (r3 κ) (r6 κ) t number number_1 next') (det_Classes_L6_B d count class' r3' r6' t number number_1 next') := by
  unfold det_Classes_L6_B
  repeat' with_reducible first | exact ChO.const _ | exact h_r3 _ _ | exact h_r6 _ _ _ _ | (apply det_Classes_J17_ch <;> assumption) | (apply det_Classes_L10_ch <;> assumption) | apply ChO.ite | apply ChO.G | apply ChO.both | (apply ChO.bind; intro _)
theorem det_Classes_L6_cn (r3 : Int → (List Int) → Option (List Int)) (d : (Int × Int × (List (List Int)) × (List Int) × Unit)) (count : Int) (class' : (List Int)) : Cn (det_Classes_L6_F d count class' r3) := fun g h hg x => det_Classes_L6_B_ch (fun _ => r3) r3 (fun _ _ => ChO.const _) (fun κ t number number_1 next' => g κ (t, number, number_1, next')) (fun t number number_1 next' => h (t, number, number_1, next')) (fun t number number_1 next' => hg (t, number, number_1, next')) d count class' x.1 x.2.1 x.2.2.1 x.2.2.2
theorem det_Classes_L6_eq (r3 : Int → (List Int) → Option (List Int)) (d : (Int × Int × (List (List Int)) × (List Int) × Unit)) (count : Int) (class' : (List Int)) (t : Int) (number : (List (Int × (List UInt8) × Unit))) (number_1 : (List Int)) (next' : (List Int)) : det_Classes_L6 d count class' r3 t number number_1 next' = det_Classes_L6_B d count class' r3 (det_Classes_L6 d count class' r3) t number number_1 next' := LFix_eq (det_Classes_L6_cn r3 d count class') (t, number, number_1, next')
theorem det_Classes_L6_ch (r3 : Nat → Int → (List Int) → Option (List Int)) (r3' : Int → (List Int) → Option (List Int)) (h_r3 : ∀ a0 a1, ChO (fun κ => r3 κ a0 a1) (r3' a0 a1)) (d : (Int × Int × (List (List Int)) × (List Int) × Unit)) (count : Int) (class' : (List Int)) (t : Int) (number : (List (Int × (List UInt8) × Unit))) (number_1 : (List Int)) (next' : (List Int)) : ChO (fun κ => det_Classes_L6 d count class' (r3 κ) t number number_1 next') (det_Classes_L6 d count class' r3' t number number_1 next') := by
  unfold det_Classes_L6
  exact LFix_ch (fun κ => (det_Classes_L6_cn (r3 κ) d count class').mono) (det_Classes_L6_cn r3' d count class').mono (fun g h hg x => det_Classes_L6_B_ch r3 r3' h_r3 (fun κ t number number_1 next' => g κ (t, number, number_1, next')) (fun t number number_1 next' => h (t, number, number_1, next')) (fun t number number_1 next' => hg (t, number, number_1, next')) d count class' x.1 x.2.1 x.2.2.1 x.2.2.2) _
theorem det_Classes_L3_B_ch (r3 : Nat → Int → (List Int) → Option (List Int)) (r3' : Int → (List Int) → Option (List Int)) (h_r3 : ∀ a0 a1, ChO (fun κ => r3 κ a0 a1) (r3' a0 a1)) (d : (Int × Int × (List (List Int)) × (List Int) × Unit)) (count : Int) (class' : (List Int)) : ChO (fun κ => det_Classes_L3_B d (r3 κ) count class') (det_Classes_L3_B d r3' count class') := by
  unfold det_Classes_L3_B
  repeat' with_reducible first | exact ChO.const _ | exact h_r3 _ _ | (apply det_Classes_J17_ch <;> assumption) | (apply det_Classes_L10_ch <;> assumption) | (apply det_Classes_L6_ch <;> assumption) | apply ChO.ite | apply ChO.G | apply ChO.both | (apply ChO.bind; intro _)
theorem det_Classes_L3_cn  (d : (Int × Int × (List (List Int)) × (List Int) × Unit)) : Cn (det_Classes_L3_F d) := fun g h hg x => det_Classes_L3_B_ch  (fun κ count class' => g κ (count, class')) (fun count class' => h (count, class')) (fun count class' => hg (count, class')) d x.1 x.2
theorem det_Classes_L3_eq  (d : (Int × Int × (List (List Int)) × (List Int) × Unit)) (count : Int) (class' : (List Int)) : det_Classes_L3 d count class' = det_Classes_L3_B d (det_Classes_L3 d) count class' := LFix_eq (det_Classes_L3_cn d) (count, class')

noncomputable def det_Smallest_1 (c : Int) (a : Int) (t : (List Int)) (t_1 : (Int × Int × (List (List Int)) × (List Int) × Unit)) (t_2 : (List Int)) : Option (Int) :=
  G (0 ≤ c ∧ c < (t_2.length : Int)) (
  G (0 ≤ ix t_2 c ∧ ix t_2 c < (t_1.2.2.1.length : Int)) (
  G (0 ≤ a ∧ a < ((ix t_1.2.2.1 (ix t_2 c)).length : Int)) (
  G (0 ≤ ix (ix t_1.2.2.1 (ix t_2 c)) a ∧ ix (ix t_1.2.2.1 (ix t_2 c)) a < (t.length : Int)) (
  some (ix t (ix (ix t_1.2.2.1 (ix t_2 c)) a))))))

noncomputable def det_Smallest_2 (c : Int) (t : (Int × Int × (List (List Int)) × (List Int) × Unit)) (t_1 : (List Int)) : Option (Int) :=
  G (0 ≤ c ∧ c < (t_1.length : Int)) (
  G (0 ≤ ix t_1 c ∧ ix t_1 c < (t.2.2.2.1.length : Int)) (
  some (ix t.2.2.2.1 (ix t_1 c))))

noncomputable def det_Explore_1_J17 (t : Int) (row : (List Int)) (r8 : (Int → (List Int) → (List Int) → (List Int) → (List Int) → Option ((Int × Int × (List (List Int)) × (List Int) × Unit) × Bool))) (n : Int) (number_4 : (List Int)) (number_5 : (List Int)) (l_2 : (List Int)) : Option ((Int × Int × (List (List Int)) × (List Int) × Unit) × Bool) :=
  G (0 ≤ t ∧ t < (row.length : Int)) (
  G ((t).toNat < row.length) (
  G (fits (t + (1 : Int))) (
  r8 (t + (1 : Int)) number_4 number_5 l_2 (row.set (t).toNat n))))
noncomputable def det_Explore_1_L8_B (letters : Int) (c : (List Int)) (c_1 : (Int × Int × (List (List Int)) × (List Int) × Unit)) (c_2 : (List Int)) (c_3 : (Int × Int × (List (List Int)) × (List Int) × Unit)) (c_4 : (List Int)) (most : Int) (d : Int) (d_1 : Int) (l : (List Int)) (d_2 : (List (List Int))) (d_3 : (List Int)) (r4 : (Int → Int → (List Int) → (List Int) → (List Int) → (List (List Int)) → (List Int) → Option ((Int × Int × (List (List Int)) × (List Int) × Unit) × Bool))) (r8 : Int → (List Int) → (List Int) → (List Int) → (List Int) → Option ((Int × Int × (List (List Int)) × (List Int) × Unit) × Bool)) (t : Int) (number_2 : (List Int)) (number_3 : (List Int)) (l_1 : (List Int)) (row : (List Int)) : Option ((Int × Int × (List (List Int)) × (List Int) × Unit) × Bool) :=
  if (decide (t < letters)) = true then
  (det_Smallest_1 (ix l (d_2.length : Int)) t c c_1 c_2).bind (fun y' =>
  if (!(mhas number_2 y')) = true then
  if (decide ((l_1.length : Int) = most)) = true then
  some (((0 : Int), ((0 : Int), ([], ([], ())))), false) else
  G (room l_1 ([y']) 8) (
  det_Explore_1_J17 t row r8 (l_1.length : Int) (mputK number_2 y') (mputV number_2 number_3 y' (l_1.length : Int)) (l_1 ++ ([y']))) else
  det_Explore_1_J17 t row r8 (mget number_2 number_3 y' (0 : Int)) number_2 number_3 l_1) else
  G (room d_2 ([row]) 24) (
  (det_Smallest_2 (ix l (d_2.length : Int)) c_3 c_4).bind (fun y'_1 =>
  G (room d_3 ([y'_1]) 8) (
  r4 d d_1 number_2 number_3 l_1 (d_2 ++ ([row])) (d_3 ++ ([y'_1])))))
noncomputable def det_Explore_1_L8_F (letters : Int) (c : (List Int)) (c_1 : (Int × Int × (List (List Int)) × (List Int) × Unit)) (c_2 : (List Int)) (c_3 : (Int × Int × (List (List Int)) × (List Int) × Unit)) (c_4 : (List Int)) (most : Int) (d : Int) (d_1 : Int) (l : (List Int)) (d_2 : (List (List Int))) (d_3 : (List Int)) (r4 : (Int → Int → (List Int) → (List Int) → (List Int) → (List (List Int)) → (List Int) → Option ((Int × Int × (List (List Int)) × (List Int) × Unit) × Bool))) : (Int × (List Int) × (List Int) × (List Int) × (List Int) → Option ((Int × Int × (List (List Int)) × (List Int) × Unit) × Bool)) → Int × (List Int) × (List Int) × (List Int) × (List Int) → Option ((Int × Int × (List (List Int)) × (List Int) × Unit) × Bool) :=
  fun rec x => det_Explore_1_L8_B letters c c_1 c_2 c_3 c_4 most d d_1 l d_2 d_3 r4 (fun t number_2 number_3 l_1 row => rec (t, number_2, number_3, l_1, row)) x.1 x.2.1 x.2.2.1 x.2.2.2.1 x.2.2.2.2
noncomputable def det_Explore_1_L8 (letters : Int) (c : (List Int)) (c_1 : (Int × Int × (List (List Int)) × (List Int) × Unit)) (c_2 : (List Int)) (c_3 : (Int × Int × (List (List Int)) × (List Int) × Unit)) (c_4 : (List Int)) (most : Int) (d : Int) (d_1 : Int) (l : (List Int)) (d_2 : (List (List Int))) (d_3 : (List Int)) (r4 : (Int → Int → (List Int) → (List Int) → (List Int) → (List (List Int)) → (List Int) → Option ((Int × Int × (List (List Int)) × (List Int) × Unit) × Bool))) (t : Int) (number_2 : (List Int)) (number_3 : (List Int)) (l_1 : (List Int)) (row : (List Int)) : Option ((Int × Int × (List (List Int)) × (List Int) × Unit) × Bool) := LFix (det_Explore_1_L8_F letters c c_1 c_2 c_3 c_4 most d d_1 l d_2 d_3 r4 ) (t, number_2, number_3, l_1, row)
noncomputable def det_Explore_1_L4_B (letters : Int) (c : (List Int)) (c_1 : (Int × Int × (List (List Int)) × (List Int) × Unit)) (c_2 : (List Int)) (c_3 : (Int × Int × (List (List Int)) × (List Int) × Unit)) (c_4 : (List Int)) (most : Int) (r4 : Int → Int → (List Int) → (List Int) → (List Int) → (List (List Int)) → (List Int) → Option ((Int × Int × (List (List Int)) × (List Int) × Unit) × Bool)) (d : Int) (d_1 : Int) (number : (List Int)) (number_1 : (List Int)) (l : (List Int)) (d_2 : (List (List Int))) (d_3 : (List Int)) : Option ((Int × Int × (List (List Int)) × (List Int) × Unit) × Bool) :=
  if (decide ((d_2.length : Int) < (l.length : Int))) = true then
  G (0 ≤ (d_2.length : Int) ∧ (d_2.length : Int) < (l.length : Int)) (
  G (((d_2.length : Int)).toNat < l.length) (
  G (mkOK letters letters 8) (
  det_Explore_1_L8 letters c c_1 c_2 c_3 c_4 most d d_1 l d_2 d_3 r4 (0 : Int) number number_1 l (List.replicate (letters).toNat (0 : Int))))) else
  some ((d, (d_1, (d_2, (d_3, ())))), true)
noncomputable def det_Explore_1_L4_F (letters : Int) (c : (List Int)) (c_1 : (Int × Int × (List (List Int)) × (List Int) × Unit)) (c_2 : (List Int)) (c_3 : (Int × Int × (List (List Int)) × (List Int) × Unit)) (c_4 : (List Int)) (most : Int) : (Int × Int × (List Int) × (List Int) × (List Int) × (List (List Int)) × (List Int) → Option ((Int × Int × (List (List Int)) × (List Int) × Unit) × Bool)) → Int × Int × (List Int) × (List Int) × (List Int) × (List (List Int)) × (List Int) → Option ((Int × Int × (List (List Int)) × (List Int) × Unit) × Bool) :=
  fun rec x => det_Explore_1_L4_B letters c c_1 c_2 c_3 c_4 most (fun d d_1 number number_1 l d_2 d_3 => rec (d, d_1, number, number_1, l, d_2, d_3)) x.1 x.2.1 x.2.2.1 x.2.2.2.1 x.2.2.2.2.1 x.2.2.2.2.2.1 x.2.2.2.2.2.2
noncomputable def det_Explore_1_L4 (letters : Int) (c : (List Int)) (c_1 : (Int × Int × (List (List Int)) × (List Int) × Unit)) (c_2 : (List Int)) (c_3 : (Int × Int × (List (List Int)) × (List Int) × Unit)) (c_4 : (List Int)) (most : Int) (d : Int) (d_1 : Int) (number : (List Int)) (number_1 : (List Int)) (l : (List Int)) (d_2 : (List (List Int))) (d_3 : (List Int)) : Option ((Int × Int × (List (List Int)) × (List Int) × Unit) × Bool) := LFix (det_Explore_1_L4_F letters c c_1 c_2 c_3 c_4 most ) (d, d_1, number, number_1, l, d_2, d_3)
noncomputable def det_Explore_1 (letters : Int) (first : Int) (c : (List Int)) (c_1 : (Int × Int × (List (List Int)) × (List Int) × Unit)) (c_2 : (List Int)) (c_3 : (Int × Int × (List (List Int)) × (List Int) × Unit)) (c_4 : (List Int)) (most : Int) : Option ((Int × Int × (List (List Int)) × (List Int) × Unit) × Bool) :=
  det_Explore_1_L4 letters c c_1 c_2 c_3 c_4 most letters (0 : Int) (mputK ([] : List Int) first) (mputV ([] : List Int) ([] : List Int) first (0 : Int)) ([first]) ([] : List (List Int)) ([] : List Int)
theorem det_Explore_1_J17_ch (r8 : Nat → Int → (List Int) → (List Int) → (List Int) → (List Int) → Option ((Int × Int × (List (List Int)) × (List Int) × Unit) × Bool)) (r8' : Int → (List Int) → (List Int) → (List Int) → (List Int) → Option ((Int × Int × (List (List Int)) × (List Int) × Unit) × Bool)) (h_r8 : ∀ a0 a1 a2 a3 a4, ChO (fun κ => r8 κ a0 a1 a2 a3 a4) (r8' a0 a1 a2 a3 a4)) (t : Int) (row : (List Int)) (n : Int) (number_4 : (List Int)) (number_5 : (List Int)) (l_2 : (List Int)) : ChO (fun κ => det_Explore_1_J17 t row (r8 κ) n number_4 number_5 l_2) (det_Explore_1_J17 t row r8' n number_4 number_5 l_2) := by
  unfold det_Explore_1_J17
  repeat' with_reducible first | exact ChO.const _ | exact h_r8 _ _ _ _ _ | apply ChO.ite | apply ChO.G | apply ChO.both | (apply ChO.bind; intro _)
theorem det_Explore_1_L8_B_ch (r4 : Nat → Int → Int → (List Int) → (List Int) → (List Int) → (List (List Int)) → (List Int) → Option ((Int × Int × (List (List Int)) × (List Int) × Unit) × Bool)) (r4' : Int → Int → (List Int) → (List Int) → (List Int) → (List (List Int)) → (List Int) → Option ((Int × Int × (List (List Int)) × (List Int) × Unit) × Bool)) (h_r4 : ∀ a0 a1 a2 a3 a4 a5 a6, ChO (fun κ => r4 κ a0 a1 a2 a3 a4 a5 a6) (r4' a0 a1 a2 a3 a4 a5 a6)) (r8 : Nat → Int → (List Int) → (List Int) → (List Int) → (List Int) → Option ((Int × Int × (List (List Int)) × (List Int) × Unit) × Bool)) (r8' : Int → (List Int) → (List Int) → (List Int) → (List Int) → Option ((Int × Int × (List (List Int)) × (List Int) × Unit) × Bool)) (h_r8 : ∀ a0 a1 a2 a3 a4, ChO (fun κ => r8 κ a0 a1 a2 a3 a4) (r8' a0 a1 a2 a3 a4)) (letters : Int) (c : (List Int)) (c_1 : (Int × Int × (List (List Int)) × (List Int) × Unit)) (c_2 : (List Int)) (c_3 : (Int × Int × (List (List Int)) × (List Int) × Unit)) (c_4 : (List Int)) (most : Int) (d : Int) (d_1 : Int) (l : (List Int)) (d_2 : (List (List Int))) (d_3 : (List Int)) (t : Int) (number_2 : (List Int)) (number_3 : (List Int)) (l_1 : (List Int)) (row : (List Int)) : ChO (fun κ => det_Explore_1_L8_B letters c c_1 c_2 c_3 c_4 most d d_1 l d_2 d_3 (r4 κ) (r8 κ) t number_2 number_3 l_1 row) (det_Explore_1_L8_B letters c c_1 c_2 c_3 c_4 most d d_1 l d_2 d_3 r4' r8' t number_2 number_3 l_1 row) := by
  unfold det_Explore_1_L8_B
  repeat' with_reducible first | exact ChO.const _ | exact h_r4 _ _ _ _ _ _ _ | exact h_r8 _ _ _ _ _ | (apply det_Explore_1_J17_ch <;> assumption) | apply ChO.ite | apply ChO.G | apply ChO.both | (apply ChO.bind; intro _)
theorem det_Explore_1_L8_cn (r4 : Int → Int → (List Int) → (List Int) → (List Int) → (List (List Int)) → (List Int) → Option ((Int × Int × (List (List Int)) × (List Int) × Unit) × Bool)) (letters : Int) (c : (List Int)) (c_1 : (Int × Int × (List (List Int)) × (List Int) × Unit)) (c_2 : (List Int)) (c_3 : (Int × Int × (List (List Int)) × (List Int) × Unit)) (c_4 : (List Int)) (most : Int) (d : Int) (d_1 : Int) (l : (List Int)) (d_2 : (List (List Int))) (d_3 : (List Int)) : Cn (det_Explore_1_L8_F letters c c_1 c_2 c_3 c_4 most d d_1 l d_2 d_3 r4) := fun g h hg x => det_Explore_1_L8_B_ch (fun _ => r4) r4 (fun _ _ _ _ _ _ _ => ChO.const _) (fun κ t number_2 number_3 l_1 row => g κ (t, number_2, number_3, l_1, row)) (fun t number_2 number_3 l_1 row => h (t, number_2, number_3, l_1, row)) (fun t number_2 number_3 l_1 row => hg (t, number_2, number_3, l_1, row)) letters c c_1 c_2 c_3 c_4 most d d_1 l d_2 d_3 x.1 x.2.1 x.2.2.1 x.2.2.2.1 x.2.2.2.2
theorem det_Explore_1_L8_eq (r4 : Int → Int → (List Int) → (List Int) → (List Int) → (List (List Int)) → (List Int) → Option ((Int × Int × (List (List Int)) × (List Int) × Unit) × Bool)) (letters : Int) (c : (List Int)) (c_1 : (Int × Int × (List (List Int)) × (List Int) × Unit)) (c_2 : (List Int)) (c_3 : (Int × Int × (List (List Int)) × (List Int) × Unit)) (c_4 : (List Int)) (most : Int) (d : Int) (d_1 : Int) (l : (List Int)) (d_2 : (List (List Int))) (d_3 : (List Int)) (t : Int) (number_2 : (List Int)) (number_3 : (List Int)) (l_1 : (List Int)) (row : (List Int)) : det_Explore_1_L8 letters c c_1 c_2 c_3 c_4 most d d_1 l d_2 d_3 r4 t number_2 number_3 l_1 row = det_Explore_1_L8_B letters c c_1 c_2 c_3 c_4 most d d_1 l d_2 d_3 r4 (det_Explore_1_L8 letters c c_1 c_2 c_3 c_4 most d d_1 l d_2 d_3 r4) t number_2 number_3 l_1 row := LFix_eq (det_Explore_1_L8_cn r4 letters c c_1 c_2 c_3 c_4 most d d_1 l d_2 d_3) (t, number_2, number_3, l_1, row)
theorem det_Explore_1_L8_ch (r4 : Nat → Int → Int → (List Int) → (List Int) → (List Int) → (List (List Int)) → (List Int) → Option ((Int × Int × (List (List Int)) × (List Int) × Unit) × Bool)) (r4' : Int → Int → (List Int) → (List Int) → (List Int) → (List (List Int)) → (List Int) → Option ((Int × Int × (List (List Int)) × (List Int) × Unit) × Bool)) (h_r4 : ∀ a0 a1 a2 a3 a4 a5 a6, ChO (fun κ => r4 κ a0 a1 a2 a3 a4 a5 a6) (r4' a0 a1 a2 a3 a4 a5 a6)) (letters : Int) (c : (List Int)) (c_1 : (Int × Int × (List (List Int)) × (List Int) × Unit)) (c_2 : (List Int)) (c_3 : (Int × Int × (List (List Int)) × (List Int) × Unit)) (c_4 : (List Int)) (most : Int) (d : Int) (d_1 : Int) (l : (List Int)) (d_2 : (List (List Int))) (d_3 : (List Int)) (t : Int) (number_2 : (List Int)) (number_3 : (List Int)) (l_1 : (List Int)) (row : (List Int)) : ChO (fun κ => det_Explore_1_L8 letters c c_1 c_2 c_3 c_4 most d d_1 l d_2 d_3 (r4 κ) t number_2 number_3 l_1 row) (det_Explore_1_L8 letters c c_1 c_2 c_3 c_4 most d d_1 l d_2 d_3 r4' t number_2 number_3 l_1 row) := by
  unfold det_Explore_1_L8
  exact LFix_ch (fun κ => (det_Explore_1_L8_cn (r4 κ) letters c c_1 c_2 c_3 c_4 most d d_1 l d_2 d_3).mono) (det_Explore_1_L8_cn r4' letters c c_1 c_2 c_3 c_4 most d d_1 l d_2 d_3).mono (fun g h hg x => det_Explore_1_L8_B_ch r4 r4' h_r4 (fun κ t number_2 number_3 l_1 row => g κ (t, number_2, number_3, l_1, row)) (fun t number_2 number_3 l_1 row => h (t, number_2, number_3, l_1, row)) (fun t number_2 number_3 l_1 row => hg (t, number_2, number_3, l_1, row)) letters c c_1 c_2 c_3 c_4 most d d_1 l d_2 d_3 x.1 x.2.1 x.2.2.1 x.2.2.2.1 x.2.2.2.2) _
theorem det_Explore_1_L4_B_ch (r4 : Nat → Int → Int → (List Int) → (List Int) → (List Int) → (List (List Int)) → (List Int) → Option ((Int × Int × (List (List Int)) × (List Int) × Unit) × Bool)) (r4' : Int → Int → (List Int) → (List Int) → (List Int) → (List (List Int)) → (List Int) → Option ((Int × Int × (List (List Int)) × (List Int) × Unit) × Bool)) (h_r4 : ∀ a0 a1 a2 a3 a4 a5 a6, ChO (fun κ => r4 κ a0 a1 a2 a3 a4 a5 a6) (r4' a0 a1 a2 a3 a4 a5 a6)) (letters : Int) (c : (List Int)) (c_1 : (Int × Int × (List (List Int)) × (List Int) × Unit)) (c_2 : (List Int)) (c_3 : (Int × Int × (List (List Int)) × (List Int) × Unit)) (c_4 : (List Int)) (most : Int) (d : Int) (d_1 : Int) (number : (List Int)) (number_1 : (List Int)) (l : (List Int)) (d_2 : (List (List Int))) (d_3 : (List Int)) : ChO (fun κ => det_Explore_1_L4_B letters c c_1 c_2 c_3 c_4 most (r4 κ) d d_1 number number_1 l d_2 d_3) (det_Explore_1_L4_B letters c c_1 c_2 c_3 c_4 most r4' d d_1 number number_1 l d_2 d_3) := by
  unfold det_Explore_1_L4_B
  repeat' with_reducible first | exact ChO.const _ | exact h_r4 _ _ _ _ _ _ _ | (apply det_Explore_1_J17_ch <;> assumption) | (apply det_Explore_1_L8_ch <;> assumption) | apply ChO.ite | apply ChO.G | apply ChO.both | (apply ChO.bind; intro _)
theorem det_Explore_1_L4_cn  (letters : Int) (c : (List Int)) (c_1 : (Int × Int × (List (List Int)) × (List Int) × Unit)) (c_2 : (List Int)) (c_3 : (Int × Int × (List (List Int)) × (List Int) × Unit)) (c_4 : (List Int)) (most : Int) : Cn (det_Explore_1_L4_F letters c c_1 c_2 c_3 c_4 most) := fun g h hg x => det_Explore_1_L4_B_ch  (fun κ d d_1 number number_1 l d_2 d_3 => g κ (d, d_1, number, number_1, l, d_2, d_3)) (fun d d_1 number number_1 l d_2 d_3 => h (d, d_1, number, number_1, l, d_2, d_3)) (fun d d_1 number number_1 l d_2 d_3 => hg (d, d_1, number, number_1, l, d_2, d_3)) letters c c_1 c_2 c_3 c_4 most x.1 x.2.1 x.2.2.1 x.2.2.2.1 x.2.2.2.2.1 x.2.2.2.2.2.1 x.2.2.2.2.2.2
theorem det_Explore_1_L4_eq  (letters : Int) (c : (List Int)) (c_1 : (Int × Int × (List (List Int)) × (List Int) × Unit)) (c_2 : (List Int)) (c_3 : (Int × Int × (List (List Int)) × (List Int) × Unit)) (c_4 : (List Int)) (most : Int) (d : Int) (d_1 : Int) (number : (List Int)) (number_1 : (List Int)) (l : (List Int)) (d_2 : (List (List Int))) (d_3 : (List Int)) : det_Explore_1_L4 letters c c_1 c_2 c_3 c_4 most d d_1 number number_1 l d_2 d_3 = det_Explore_1_L4_B letters c c_1 c_2 c_3 c_4 most (det_Explore_1_L4 letters c c_1 c_2 c_3 c_4 most) d d_1 number number_1 l d_2 d_3 := LFix_eq (det_Explore_1_L4_cn letters c c_1 c_2 c_3 c_4 most) (d, d_1, number, number_1, l, d_2, d_3)

noncomputable def det_Smallest_J8 (out : Int) (out_1 : Int) (out_2 : (List (List Int))) (out_3 : (List Int)) : Option (Int × Int × (List (List Int)) × (List Int) × Unit) :=
  some (out, (out_1, (out_2, (out_3, ()))))
noncomputable def det_Smallest_L4_B (d : (Int × Int × (List (List Int)) × (List Int) × Unit)) (y' : (List Int)) (r4 : Int → (List Int) → Option (Int × Int × (List (List Int)) × (List Int) × Unit)) (t : Int) (l : (List Int)) : Option (Int × Int × (List (List Int)) × (List Int) × Unit) :=
  if (decide (t < (y'.length : Int))) = true then
  G (0 ≤ t ∧ t < (y'.length : Int)) (
  G ((t).toNat < y'.length) (
  G (0 ≤ ix y' t ∧ ix y' t < (l.length : Int)) (
  G ((ix y' t).toNat < l.length) (
  G (fits (t + (1 : Int))) (
  r4 (t + (1 : Int)) (l.set (ix y' t).toNat t)))))) else
  G (0 ≤ d.2.1 ∧ d.2.1 < (y'.length : Int)) (
  G ((d.2.1).toNat < y'.length) (
  G (fits ((y'.length : Int) + (1 : Int))) (
  both [(.pair (.int .i64) (.pair (.int .i64) (.pair (.list (.list (.int .i64))) (.pair (.list (.int .i64)) .unit))))] (
  (det_Explore_1 d.1 (ix y' d.2.1) y' (d.1, (d.2.1, (d.2.2.1, (d.2.2.2.1, ())))) l (d.1, (d.2.1, (d.2.2.1, (d.2.2.2.1, ())))) l ((y'.length : Int) + (1 : Int))).bind (fun y'_4 =>
  det_Smallest_J8 y'_4.1.1 y'_4.1.2.1 y'_4.1.2.2.1 y'_4.1.2.2.2.1)) (
  (det_Explore_1 d.1 (ix y' d.2.1) y' (d.1, (d.2.1, (d.2.2.1, (d.2.2.2.1, ())))) l (d.1, (d.2.1, (d.2.2.1, (d.2.2.2.1, ())))) l ((y'.length : Int) + (1 : Int))).bind (fun y'_8 =>
  det_Smallest_J8 y'_8.1.1 y'_8.1.2.1 y'_8.1.2.2.1 y'_8.1.2.2.2.1)))))
noncomputable def det_Smallest_L4_F (d : (Int × Int × (List (List Int)) × (List Int) × Unit)) (y' : (List Int)) : (Int × (List Int) → Option (Int × Int × (List (List Int)) × (List Int) × Unit)) → Int × (List Int) → Option (Int × Int × (List (List Int)) × (List Int) × Unit) :=
  fun rec x => det_Smallest_L4_B d y' (fun t l => rec (t, l)) x.1 x.2
noncomputable def det_Smallest_L4 (d : (Int × Int × (List (List Int)) × (List Int) × Unit)) (y' : (List Int)) (t : Int) (l : (List Int)) : Option (Int × Int × (List (List Int)) × (List Int) × Unit) := LFix (det_Smallest_L4_F d y' ) (t, l)
noncomputable def det_Smallest (d : (Int × Int × (List (List Int)) × (List Int) × Unit)) : Option (Int × Int × (List (List Int)) × (List Int) × Unit) :=
  (det_Classes (d.1, (d.2.1, (d.2.2.1, (d.2.2.2.1, ()))))).bind (fun y' =>
  G (mkOK (y'.length : Int) (y'.length : Int) 8) (
  det_Smallest_L4 d y' (0 : Int) (List.replicate ((y'.length : Int)).toNat (0 : Int))))
theorem det_Smallest_L4_B_ch (r4 : Nat → Int → (List Int) → Option (Int × Int × (List (List Int)) × (List Int) × Unit)) (r4' : Int → (List Int) → Option (Int × Int × (List (List Int)) × (List Int) × Unit)) (h_r4 : ∀ a0 a1, ChO (fun κ => r4 κ a0 a1) (r4' a0 a1)) (d : (Int × Int × (List (List Int)) × (List Int) × Unit)) (y' : (List Int)) (t : Int) (l : (List Int)) : ChO (fun κ => det_Smallest_L4_B d y' (r4 κ) t l) (det_Smallest_L4_B d y' r4' t l) := by
  unfold det_Smallest_L4_B
  repeat' with_reducible first | exact ChO.const _ | exact h_r4 _ _ | apply ChO.ite | apply ChO.G | apply ChO.both | (apply ChO.bind; intro _)
theorem det_Smallest_L4_cn  (d : (Int × Int × (List (List Int)) × (List Int) × Unit)) (y' : (List Int)) : Cn (det_Smallest_L4_F d y') := fun g h hg x => det_Smallest_L4_B_ch  (fun κ t l => g κ (t, l)) (fun t l => h (t, l)) (fun t l => hg (t, l)) d y' x.1 x.2
theorem det_Smallest_L4_eq  (d : (Int × Int × (List (List Int)) × (List Int) × Unit)) (y' : (List Int)) (t : Int) (l : (List Int)) : det_Smallest_L4 d y' t l = det_Smallest_L4_B d y' (det_Smallest_L4 d y') t l := LFix_eq (det_Smallest_L4_cn d y') (t, l)

noncomputable def det_Made_J8 (d : Int) (d_1 : Int) (d_2 : (List (List Int))) (d_3 : (List Int)) : Option ((Int × Int × (List (List Int)) × (List Int) × Unit) × Int) :=
  (det_Smallest (d, (d_1, (d_2, (d_3, ()))))).bind (fun y'_6 =>
  some ((y'_6.1, (y'_6.2.1, (y'_6.2.2.1, (y'_6.2.2.2.1, ())))), (0 : Int)))
noncomputable def det_Made (a : (Int × Int × (List Int) × (List (Int × Int × Int × Unit)) × (List Int) × Unit)) : Option ((Int × Int × (List (List Int)) × (List Int) × Unit) × Int) :=
  (buchi_Check (a.1, (a.2.1, (a.2.2.1, (a.2.2.2.1, (a.2.2.2.2.1, ())))))).bind (fun y' =>
  if (decide (¬ y' = (0 : Int))) = true then
  some (((0 : Int), ((0 : Int), ([], ([], ())))), y') else
  if (decide ((8 : Int) < a.2.1)) = true then
  some (((0 : Int), ((0 : Int), ([], ([], ())))), (1 : Int)) else
  (det_Made_1 a.2.2.2.2.1).bind (fun y'_1 =>
  both [(.pair (.int .i64) (.pair (.int .i64) (.pair (.list (.list (.int .i64))) (.pair (.list (.int .i64)) .unit)))), (.int .i64)] (
  (det_Made_1 a.2.2.1).bind (fun y'_2 =>
  both [(.pair (.int .i64) (.pair (.int .i64) (.pair (.list (.list (.int .i64))) (.pair (.list (.int .i64)) .unit)))), (.int .i64)] (
  (det_Explore a.1 y'_2 (a.1, (a.2.1, (a.2.2.1, (a.2.2.2.1, (a.2.2.2.2.1, ()))))) y'_1 (3000 : Int)).bind (fun y'_7 =>
  det_Made_J8 y'_7.1.1 y'_7.1.2.1 y'_7.1.2.2.1 y'_7.1.2.2.2.1)) (
  (det_Explore a.1 y'_2 (a.1, (a.2.1, (a.2.2.1, (a.2.2.2.1, (a.2.2.2.2.1, ()))))) y'_1 (3000 : Int)).bind (fun y'_11 =>
  det_Made_J8 y'_11.1.1 y'_11.1.2.1 y'_11.1.2.2.1 y'_11.1.2.2.2.1)))) (
  (det_Made_1 a.2.2.1).bind (fun y'_12 =>
  (det_Explore a.1 y'_12 (a.1, (a.2.1, (a.2.2.1, (a.2.2.2.1, (a.2.2.2.2.1, ()))))) y'_1 (3000 : Int)).bind (fun y'_16 =>
  det_Made_J8 y'_16.1.1 y'_16.1.2.1 y'_16.1.2.2.1 y'_16.1.2.2.2.1)))))

noncomputable def r1_Words_L4_B (a : (List Int)) (b : (List Int)) (r4 : Int → Option (Bool)) (i : Int) : Option (Bool) :=
  if (decide (i < (a.length : Int))) = true then
  G (0 ≤ i ∧ i < (a.length : Int)) (
  G (0 ≤ i ∧ i < (b.length : Int)) (
  if (decide (¬ (ix a i) = (ix b i))) = true then
  some false else
  G (fits (i + (1 : Int))) (
  r4 (i + (1 : Int))))) else
  some true
noncomputable def r1_Words_L4_F (a : (List Int)) (b : (List Int)) : (Int → Option (Bool)) → Int → Option (Bool) :=
  fun rec x => r1_Words_L4_B a b (fun i => rec i) x
noncomputable def r1_Words_L4 (a : (List Int)) (b : (List Int)) (i : Int) : Option (Bool) := LFix (r1_Words_L4_F a b ) i
noncomputable def r1_Words (a : (List Int)) (b : (List Int)) : Option (Bool) :=
  if (decide (¬ (a.length : Int) = (b.length : Int))) = true then
  some false else
  r1_Words_L4 a b (0 : Int)
theorem r1_Words_L4_B_ch (r4 : Nat → Int → Option (Bool)) (r4' : Int → Option (Bool)) (h_r4 : ∀ a0, ChO (fun κ => r4 κ a0) (r4' a0)) (a : (List Int)) (b : (List Int)) (i : Int) : ChO (fun κ => r1_Words_L4_B a b (r4 κ) i) (r1_Words_L4_B a b r4' i) := by
  unfold r1_Words_L4_B
  repeat' with_reducible first | exact ChO.const _ | exact h_r4 _ | apply ChO.ite | apply ChO.G | apply ChO.both | (apply ChO.bind; intro _)
theorem r1_Words_L4_cn  (a : (List Int)) (b : (List Int)) : Cn (r1_Words_L4_F a b) := fun g h hg x => r1_Words_L4_B_ch  (fun κ i => g κ i) (fun i => h i) (fun i => hg i) a b x
theorem r1_Words_L4_eq  (a : (List Int)) (b : (List Int)) (i : Int) : r1_Words_L4 a b i = r1_Words_L4_B a b (r1_Words_L4 a b) i := LFix_eq (r1_Words_L4_cn a b) i

noncomputable def law_sameAuto_L6_B (a : (Int × Int × (List Int) × (List (Int × Int × Int × Unit)) × (List Int) × Unit)) (b : (Int × Int × (List Int) × (List (Int × Int × Int × Unit)) × (List Int) × Unit)) (r6 : Int → Option (Bool)) (i : Int) : Option (Bool) :=
  if (decide (i < (a.2.2.2.1.length : Int))) = true then
  G (0 ≤ i ∧ i < (a.2.2.2.1.length : Int)) (
  G (0 ≤ i ∧ i < (b.2.2.2.1.length : Int)) (
  if (!(eqB (ix a.2.2.2.1 i) (ix b.2.2.2.1 i))) = true then
  some false else
  G (fits (i + (1 : Int))) (
  r6 (i + (1 : Int))))) else
  some true
noncomputable def law_sameAuto_L6_F (a : (Int × Int × (List Int) × (List (Int × Int × Int × Unit)) × (List Int) × Unit)) (b : (Int × Int × (List Int) × (List (Int × Int × Int × Unit)) × (List Int) × Unit)) : (Int → Option (Bool)) → Int → Option (Bool) :=
  fun rec x => law_sameAuto_L6_B a b (fun i => rec i) x
noncomputable def law_sameAuto_L6 (a : (Int × Int × (List Int) × (List (Int × Int × Int × Unit)) × (List Int) × Unit)) (b : (Int × Int × (List Int) × (List (Int × Int × Int × Unit)) × (List Int) × Unit)) (i : Int) : Option (Bool) := LFix (law_sameAuto_L6_F a b ) i
noncomputable def law_sameAuto (a : (Int × Int × (List Int) × (List (Int × Int × Int × Unit)) × (List Int) × Unit)) (b : (Int × Int × (List Int) × (List (Int × Int × Int × Unit)) × (List Int) × Unit)) : Option (Bool) :=
  (r1_Words a.2.2.1 b.2.2.1).bind (fun y' =>
  (r1_Words a.2.2.2.2.1 b.2.2.2.2.1).bind (fun y'_1 =>
  if (decide (¬ a.1 = b.1)) = true then
  some false else
  if (decide (¬ a.2.1 = b.2.1)) = true then
  some false else
  if (!y') = true then
  some false else
  if (!y'_1) = true then
  some false else
  if (decide (¬ (a.2.2.2.1.length : Int) = (b.2.2.2.1.length : Int))) = true then
  some false else
  law_sameAuto_L6 a b (0 : Int)))
theorem law_sameAuto_L6_B_ch (r6 : Nat → Int → Option (Bool)) (r6' : Int → Option (Bool)) (h_r6 : ∀ a0, ChO (fun κ => r6 κ a0) (r6' a0)) (a : (Int × Int × (List Int) × (List (Int × Int × Int × Unit)) × (List Int) × Unit)) (b : (Int × Int × (List Int) × (List (Int × Int × Int × Unit)) × (List Int) × Unit)) (i : Int) : ChO (fun κ => law_sameAuto_L6_B a b (r6 κ) i) (law_sameAuto_L6_B a b r6' i) := by
  unfold law_sameAuto_L6_B
  repeat' with_reducible first | exact ChO.const _ | exact h_r6 _ | apply ChO.ite | apply ChO.G | apply ChO.both | (apply ChO.bind; intro _)
theorem law_sameAuto_L6_cn  (a : (Int × Int × (List Int) × (List (Int × Int × Int × Unit)) × (List Int) × Unit)) (b : (Int × Int × (List Int) × (List (Int × Int × Int × Unit)) × (List Int) × Unit)) : Cn (law_sameAuto_L6_F a b) := fun g h hg x => law_sameAuto_L6_B_ch  (fun κ i => g κ i) (fun i => h i) (fun i => hg i) a b x
theorem law_sameAuto_L6_eq  (a : (Int × Int × (List Int) × (List (Int × Int × Int × Unit)) × (List Int) × Unit)) (b : (Int × Int × (List Int) × (List (Int × Int × Int × Unit)) × (List Int) × Unit)) (i : Int) : law_sameAuto_L6 a b i = law_sameAuto_L6_B a b (law_sameAuto_L6 a b) i := LFix_eq (law_sameAuto_L6_cn a b) i

noncomputable def law_noDet (d : (Int × Int × (List (List Int)) × (List Int) × Unit)) : Option (Bool) :=
  if (decide (d.1 = (0 : Int))) = true then
  if (decide (d.2.1 = (0 : Int))) = true then
  G (fits ((d.2.2.1.length : Int) + (d.2.2.2.1.length : Int))) (
  some (decide (((d.2.2.1.length : Int) + (d.2.2.2.1.length : Int)) = (0 : Int)))) else
  some false else
  some false

noncomputable def r7_Ahead (x' : (Int × Int × Int × Unit)) (y' : (Int × Int × Int × Unit)) : Option (Bool) :=
  if (decide (¬ x'.1 = y'.1)) = true then
  some (decide (x'.1 < y'.1)) else
  if (decide (¬ x'.2.1 = y'.2.1)) = true then
  some (decide (x'.2.1 < y'.2.1)) else
  some (decide (x'.2.2.1 < y'.2.2.1))

noncomputable def r7_Check_L32_B (a : (Int × Int × (List Int) × (List (Int × Int × Int × Unit)) × (List Int) × Unit)) (r32 : Int → Option (Int)) (i_5 : Int) : Option (Int) :=
  if (decide (i_5 < (a.2.2.2.1.length : Int))) = true then
  G (fits (i_5 - (1 : Int))) (
  G (0 ≤ i_5 - (1 : Int) ∧ i_5 - (1 : Int) < (a.2.2.2.1.length : Int)) (
  G (0 ≤ i_5 ∧ i_5 < (a.2.2.2.1.length : Int)) (
  (r7_Ahead (ix a.2.2.2.1 (i_5 - (1 : Int))) (ix a.2.2.2.1 i_5)).bind (fun y' =>
  if (!y') = true then
  some (3 : Int) else
  G (fits (i_5 + (1 : Int))) (
  r32 (i_5 + (1 : Int))))))) else
  some (0 : Int)
noncomputable def r7_Check_L32_F (a : (Int × Int × (List Int) × (List (Int × Int × Int × Unit)) × (List Int) × Unit)) : (Int → Option (Int)) → Int → Option (Int) :=
  fun rec x => r7_Check_L32_B a (fun i_5 => rec i_5) x
noncomputable def r7_Check_L32 (a : (Int × Int × (List Int) × (List (Int × Int × Int × Unit)) × (List Int) × Unit)) (i_5 : Int) : Option (Int) := LFix (r7_Check_L32_F a ) i_5
noncomputable def r7_Check_L27_B (a : (Int × Int × (List Int) × (List (Int × Int × Int × Unit)) × (List Int) × Unit)) (r27 : Int → Option (Int)) (i_4 : Int) : Option (Int) :=
  if (decide (i_4 < (a.2.2.2.2.1.length : Int))) = true then
  G (fits (i_4 - (1 : Int))) (
  G (0 ≤ i_4 - (1 : Int) ∧ i_4 - (1 : Int) < (a.2.2.2.2.1.length : Int)) (
  G (0 ≤ i_4 ∧ i_4 < (a.2.2.2.2.1.length : Int)) (
  if (decide ((ix a.2.2.2.2.1 i_4) ≤ (ix a.2.2.2.2.1 (i_4 - (1 : Int))))) = true then
  some (3 : Int) else
  G (fits (i_4 + (1 : Int))) (
  r27 (i_4 + (1 : Int)))))) else
  r7_Check_L32 a (1 : Int)
noncomputable def r7_Check_L27_F (a : (Int × Int × (List Int) × (List (Int × Int × Int × Unit)) × (List Int) × Unit)) : (Int → Option (Int)) → Int → Option (Int) :=
  fun rec x => r7_Check_L27_B a (fun i_4 => rec i_4) x
noncomputable def r7_Check_L27 (a : (Int × Int × (List Int) × (List (Int × Int × Int × Unit)) × (List Int) × Unit)) (i_4 : Int) : Option (Int) := LFix (r7_Check_L27_F a ) i_4
noncomputable def r7_Check_L22_B (a : (Int × Int × (List Int) × (List (Int × Int × Int × Unit)) × (List Int) × Unit)) (r22 : Int → Option (Int)) (i_3 : Int) : Option (Int) :=
  if (decide (i_3 < (a.2.2.1.length : Int))) = true then
  G (fits (i_3 - (1 : Int))) (
  G (0 ≤ i_3 - (1 : Int) ∧ i_3 - (1 : Int) < (a.2.2.1.length : Int)) (
  G (0 ≤ i_3 ∧ i_3 < (a.2.2.1.length : Int)) (
  if (decide ((ix a.2.2.1 i_3) ≤ (ix a.2.2.1 (i_3 - (1 : Int))))) = true then
  some (3 : Int) else
  G (fits (i_3 + (1 : Int))) (
  r22 (i_3 + (1 : Int)))))) else
  r7_Check_L27 a (1 : Int)
noncomputable def r7_Check_L22_F (a : (Int × Int × (List Int) × (List (Int × Int × Int × Unit)) × (List Int) × Unit)) : (Int → Option (Int)) → Int → Option (Int) :=
  fun rec x => r7_Check_L22_B a (fun i_3 => rec i_3) x
noncomputable def r7_Check_L22 (a : (Int × Int × (List Int) × (List (Int × Int × Int × Unit)) × (List Int) × Unit)) (i_3 : Int) : Option (Int) := LFix (r7_Check_L22_F a ) i_3
noncomputable def r7_Check_L16_B (a : (Int × Int × (List Int) × (List (Int × Int × Int × Unit)) × (List Int) × Unit)) (r16 : Int → Option (Int)) (i_2 : Int) : Option (Int) :=
  if (decide (i_2 < (a.2.2.2.1.length : Int))) = true then
  G (0 ≤ i_2 ∧ i_2 < (a.2.2.2.1.length : Int)) (
  if (decide (((ix a.2.2.2.1 i_2).1) < (0 : Int))) = true then
  some (2 : Int) else
  if (decide (a.2.1 ≤ ((ix a.2.2.2.1 i_2).1))) = true then
  some (2 : Int) else
  if (decide (((((ix a.2.2.2.1 i_2).2).2).1) < (0 : Int))) = true then
  some (2 : Int) else
  if (decide (a.2.1 ≤ ((((ix a.2.2.2.1 i_2).2).2).1))) = true then
  some (2 : Int) else
  if (decide ((((ix a.2.2.2.1 i_2).2).1) < (0 : Int))) = true then
  some (2 : Int) else
  if (decide (a.1 ≤ (((ix a.2.2.2.1 i_2).2).1))) = true then
  some (2 : Int) else
  G (fits (i_2 + (1 : Int))) (
  r16 (i_2 + (1 : Int)))) else
  r7_Check_L22 a (1 : Int)
noncomputable def r7_Check_L16_F (a : (Int × Int × (List Int) × (List (Int × Int × Int × Unit)) × (List Int) × Unit)) : (Int → Option (Int)) → Int → Option (Int) :=
  fun rec x => r7_Check_L16_B a (fun i_2 => rec i_2) x
noncomputable def r7_Check_L16 (a : (Int × Int × (List Int) × (List (Int × Int × Int × Unit)) × (List Int) × Unit)) (i_2 : Int) : Option (Int) := LFix (r7_Check_L16_F a ) i_2
noncomputable def r7_Check_L11_B (a : (Int × Int × (List Int) × (List (Int × Int × Int × Unit)) × (List Int) × Unit)) (r11 : Int → Option (Int)) (i_1 : Int) : Option (Int) :=
  if (decide (i_1 < (a.2.2.2.2.1.length : Int))) = true then
  G (0 ≤ i_1 ∧ i_1 < (a.2.2.2.2.1.length : Int)) (
  if (decide ((ix a.2.2.2.2.1 i_1) < (0 : Int))) = true then
  some (2 : Int) else
  G (0 ≤ i_1 ∧ i_1 < (a.2.2.2.2.1.length : Int)) (
  if (decide (a.2.1 ≤ (ix a.2.2.2.2.1 i_1))) = true then
  some (2 : Int) else
  G (fits (i_1 + (1 : Int))) (
  r11 (i_1 + (1 : Int))))) else
  r7_Check_L16 a (0 : Int)
noncomputable def r7_Check_L11_F (a : (Int × Int × (List Int) × (List (Int × Int × Int × Unit)) × (List Int) × Unit)) : (Int → Option (Int)) → Int → Option (Int) :=
  fun rec x => r7_Check_L11_B a (fun i_1 => rec i_1) x
noncomputable def r7_Check_L11 (a : (Int × Int × (List Int) × (List (Int × Int × Int × Unit)) × (List Int) × Unit)) (i_1 : Int) : Option (Int) := LFix (r7_Check_L11_F a ) i_1
noncomputable def r7_Check_L6_B (a : (Int × Int × (List Int) × (List (Int × Int × Int × Unit)) × (List Int) × Unit)) (r6 : Int → Option (Int)) (i : Int) : Option (Int) :=
  if (decide (i < (a.2.2.1.length : Int))) = true then
  G (0 ≤ i ∧ i < (a.2.2.1.length : Int)) (
  if (decide ((ix a.2.2.1 i) < (0 : Int))) = true then
  some (2 : Int) else
  G (0 ≤ i ∧ i < (a.2.2.1.length : Int)) (
  if (decide (a.2.1 ≤ (ix a.2.2.1 i))) = true then
  some (2 : Int) else
  G (fits (i + (1 : Int))) (
  r6 (i + (1 : Int))))) else
  r7_Check_L11 a (0 : Int)
noncomputable def r7_Check_L6_F (a : (Int × Int × (List Int) × (List (Int × Int × Int × Unit)) × (List Int) × Unit)) : (Int → Option (Int)) → Int → Option (Int) :=
  fun rec x => r7_Check_L6_B a (fun i => rec i) x
noncomputable def r7_Check_L6 (a : (Int × Int × (List Int) × (List (Int × Int × Int × Unit)) × (List Int) × Unit)) (i : Int) : Option (Int) := LFix (r7_Check_L6_F a ) i
noncomputable def r7_Check (a : (Int × Int × (List Int) × (List (Int × Int × Int × Unit)) × (List Int) × Unit)) : Option (Int) :=
  if (decide (a.1 < (1 : Int))) = true then
  some (2 : Int) else
  if (decide ((4 : Int) < a.1)) = true then
  some (2 : Int) else
  if (decide (a.2.1 < (1 : Int))) = true then
  some (1 : Int) else
  if (decide ((300 : Int) < a.2.1)) = true then
  some (1 : Int) else
  if (decide ((40000 : Int) < (a.2.2.2.1.length : Int))) = true then
  some (1 : Int) else
  r7_Check_L6 a (0 : Int)
theorem r7_Check_L32_B_ch (r32 : Nat → Int → Option (Int)) (r32' : Int → Option (Int)) (h_r32 : ∀ a0, ChO (fun κ => r32 κ a0) (r32' a0)) (a : (Int × Int × (List Int) × (List (Int × Int × Int × Unit)) × (List Int) × Unit)) (i_5 : Int) : ChO (fun κ => r7_Check_L32_B a (r32 κ) i_5) (r7_Check_L32_B a r32' i_5) := by
  unfold r7_Check_L32_B
  repeat' with_reducible first | exact ChO.const _ | exact h_r32 _ | apply ChO.ite | apply ChO.G | apply ChO.both | (apply ChO.bind; intro _)
theorem r7_Check_L32_cn  (a : (Int × Int × (List Int) × (List (Int × Int × Int × Unit)) × (List Int) × Unit)) : Cn (r7_Check_L32_F a) := fun g h hg x => r7_Check_L32_B_ch  (fun κ i_5 => g κ i_5) (fun i_5 => h i_5) (fun i_5 => hg i_5) a x
theorem r7_Check_L32_eq  (a : (Int × Int × (List Int) × (List (Int × Int × Int × Unit)) × (List Int) × Unit)) (i_5 : Int) : r7_Check_L32 a i_5 = r7_Check_L32_B a (r7_Check_L32 a) i_5 := LFix_eq (r7_Check_L32_cn a) i_5
theorem r7_Check_L27_B_ch (r27 : Nat → Int → Option (Int)) (r27' : Int → Option (Int)) (h_r27 : ∀ a0, ChO (fun κ => r27 κ a0) (r27' a0)) (a : (Int × Int × (List Int) × (List (Int × Int × Int × Unit)) × (List Int) × Unit)) (i_4 : Int) : ChO (fun κ => r7_Check_L27_B a (r27 κ) i_4) (r7_Check_L27_B a r27' i_4) := by
  unfold r7_Check_L27_B
  repeat' with_reducible first | exact ChO.const _ | exact h_r27 _ | apply ChO.ite | apply ChO.G | apply ChO.both | (apply ChO.bind; intro _)
theorem r7_Check_L27_cn  (a : (Int × Int × (List Int) × (List (Int × Int × Int × Unit)) × (List Int) × Unit)) : Cn (r7_Check_L27_F a) := fun g h hg x => r7_Check_L27_B_ch  (fun κ i_4 => g κ i_4) (fun i_4 => h i_4) (fun i_4 => hg i_4) a x
theorem r7_Check_L27_eq  (a : (Int × Int × (List Int) × (List (Int × Int × Int × Unit)) × (List Int) × Unit)) (i_4 : Int) : r7_Check_L27 a i_4 = r7_Check_L27_B a (r7_Check_L27 a) i_4 := LFix_eq (r7_Check_L27_cn a) i_4
theorem r7_Check_L22_B_ch (r22 : Nat → Int → Option (Int)) (r22' : Int → Option (Int)) (h_r22 : ∀ a0, ChO (fun κ => r22 κ a0) (r22' a0)) (a : (Int × Int × (List Int) × (List (Int × Int × Int × Unit)) × (List Int) × Unit)) (i_3 : Int) : ChO (fun κ => r7_Check_L22_B a (r22 κ) i_3) (r7_Check_L22_B a r22' i_3) := by
  unfold r7_Check_L22_B
  repeat' with_reducible first | exact ChO.const _ | exact h_r22 _ | apply ChO.ite | apply ChO.G | apply ChO.both | (apply ChO.bind; intro _)
theorem r7_Check_L22_cn  (a : (Int × Int × (List Int) × (List (Int × Int × Int × Unit)) × (List Int) × Unit)) : Cn (r7_Check_L22_F a) := fun g h hg x => r7_Check_L22_B_ch  (fun κ i_3 => g κ i_3) (fun i_3 => h i_3) (fun i_3 => hg i_3) a x
theorem r7_Check_L22_eq  (a : (Int × Int × (List Int) × (List (Int × Int × Int × Unit)) × (List Int) × Unit)) (i_3 : Int) : r7_Check_L22 a i_3 = r7_Check_L22_B a (r7_Check_L22 a) i_3 := LFix_eq (r7_Check_L22_cn a) i_3
theorem r7_Check_L16_B_ch (r16 : Nat → Int → Option (Int)) (r16' : Int → Option (Int)) (h_r16 : ∀ a0, ChO (fun κ => r16 κ a0) (r16' a0)) (a : (Int × Int × (List Int) × (List (Int × Int × Int × Unit)) × (List Int) × Unit)) (i_2 : Int) : ChO (fun κ => r7_Check_L16_B a (r16 κ) i_2) (r7_Check_L16_B a r16' i_2) := by
  unfold r7_Check_L16_B
  repeat' with_reducible first | exact ChO.const _ | exact h_r16 _ | apply ChO.ite | apply ChO.G | apply ChO.both | (apply ChO.bind; intro _)
theorem r7_Check_L16_cn  (a : (Int × Int × (List Int) × (List (Int × Int × Int × Unit)) × (List Int) × Unit)) : Cn (r7_Check_L16_F a) := fun g h hg x => r7_Check_L16_B_ch  (fun κ i_2 => g κ i_2) (fun i_2 => h i_2) (fun i_2 => hg i_2) a x
theorem r7_Check_L16_eq  (a : (Int × Int × (List Int) × (List (Int × Int × Int × Unit)) × (List Int) × Unit)) (i_2 : Int) : r7_Check_L16 a i_2 = r7_Check_L16_B a (r7_Check_L16 a) i_2 := LFix_eq (r7_Check_L16_cn a) i_2
theorem r7_Check_L11_B_ch (r11 : Nat → Int → Option (Int)) (r11' : Int → Option (Int)) (h_r11 : ∀ a0, ChO (fun κ => r11 κ a0) (r11' a0)) (a : (Int × Int × (List Int) × (List (Int × Int × Int × Unit)) × (List Int) × Unit)) (i_1 : Int) : ChO (fun κ => r7_Check_L11_B a (r11 κ) i_1) (r7_Check_L11_B a r11' i_1) := by
  unfold r7_Check_L11_B
  repeat' with_reducible first | exact ChO.const _ | exact h_r11 _ | apply ChO.ite | apply ChO.G | apply ChO.both | (apply ChO.bind; intro _)
theorem r7_Check_L11_cn  (a : (Int × Int × (List Int) × (List (Int × Int × Int × Unit)) × (List Int) × Unit)) : Cn (r7_Check_L11_F a) := fun g h hg x => r7_Check_L11_B_ch  (fun κ i_1 => g κ i_1) (fun i_1 => h i_1) (fun i_1 => hg i_1) a x
theorem r7_Check_L11_eq  (a : (Int × Int × (List Int) × (List (Int × Int × Int × Unit)) × (List Int) × Unit)) (i_1 : Int) : r7_Check_L11 a i_1 = r7_Check_L11_B a (r7_Check_L11 a) i_1 := LFix_eq (r7_Check_L11_cn a) i_1
theorem r7_Check_L6_B_ch (r6 : Nat → Int → Option (Int)) (r6' : Int → Option (Int)) (h_r6 : ∀ a0, ChO (fun κ => r6 κ a0) (r6' a0)) (a : (Int × Int × (List Int) × (List (Int × Int × Int × Unit)) × (List Int) × Unit)) (i : Int) : ChO (fun κ => r7_Check_L6_B a (r6 κ) i) (r7_Check_L6_B a r6' i) := by
  unfold r7_Check_L6_B
  repeat' with_reducible first | exact ChO.const _ | exact h_r6 _ | apply ChO.ite | apply ChO.G | apply ChO.both | (apply ChO.bind; intro _)
theorem r7_Check_L6_cn  (a : (Int × Int × (List Int) × (List (Int × Int × Int × Unit)) × (List Int) × Unit)) : Cn (r7_Check_L6_F a) := fun g h hg x => r7_Check_L6_B_ch  (fun κ i => g κ i) (fun i => h i) (fun i => hg i) a x
theorem r7_Check_L6_eq  (a : (Int × Int × (List Int) × (List (Int × Int × Int × Unit)) × (List Int) × Unit)) (i : Int) : r7_Check_L6 a i = r7_Check_L6_B a (r7_Check_L6 a) i := LFix_eq (r7_Check_L6_cn a) i

noncomputable def r3_Classes_J14_1 (d : (Int × Int × (List (List Int)) × (List Int) × Unit)) (class' : (List Int)) (q : Int) (first : (List Int)) (k : Int) (a : Int) (r14 : (Bool → Int → Option (List Int))) (t_1 : Bool) : Option (List Int) :=
  G (0 ≤ ix first k ∧ ix first k < (d.2.2.1.length : Int)) (
  G (0 ≤ a ∧ a < ((ix d.2.2.1 (ix first k)).length : Int)) (
  G (0 ≤ ix (ix d.2.2.1 (ix first k)) a ∧ ix (ix d.2.2.1 (ix first k)) a < (class'.length : Int)) (
  G ((ix (ix d.2.2.1 (ix first k)) a).toNat < class'.length) (
  G (0 ≤ q ∧ q < (d.2.2.1.length : Int)) (
  G (0 ≤ a ∧ a < ((ix d.2.2.1 q).length : Int)) (
  G (0 ≤ ix (ix d.2.2.1 q) a ∧ ix (ix d.2.2.1 q) a < (class'.length : Int)) (
  G ((ix (ix d.2.2.1 q) a).toNat < class'.length) (
  G (fits (a + (1 : Int))) (
  r14 (decide ((ix class' (ix (ix d.2.2.1 (ix first k)) a)) = (ix class' (ix (ix d.2.2.1 q) a)))) (a + (1 : Int)))))))))))
noncomputable def r3_Classes_J21 (q : Int) (next' : (List Int)) (r7 : (Int → Int → (List Int) → (List Int) → Option (List Int))) (k_1 : Int) (n_1 : Int) (first_1 : (List Int)) : Option (List Int) :=
  G (0 ≤ q ∧ q < (next'.length : Int)) (
  G ((q).toNat < next'.length) (
  G (fits (q + (1 : Int))) (
  r7 n_1 (q + (1 : Int)) (next'.set (q).toNat k_1) first_1)))
noncomputable def r3_Classes_J18 (n : Int) (q : Int) (next' : (List Int)) (first : (List Int)) (r7 : (Int → Int → (List Int) → (List Int) → Option (List Int))) (k_1 : Int) : Option (List Int) :=
  if (decide (k_1 = n)) = true then
  G (room first ([q]) 8) (
  G (fits (n + (1 : Int))) (
  r3_Classes_J21 q next' r7 k_1 (n + (1 : Int)) (first ++ ([q])))) else
  r3_Classes_J21 q next' r7 k_1 n first
noncomputable def r3_Classes_J14 (d : (Int × Int × (List (List Int)) × (List Int) × Unit)) (class' : (List Int)) (n : Int) (q : Int) (next' : (List Int)) (first : (List Int)) (r7 : (Int → Int → (List Int) → (List Int) → Option (List Int))) (k : Int) (r10 : (Int → Option (List Int))) (same : Bool) (a : Int) (r14 : (Bool → Int → Option (List Int))) (t : Bool) : Option (List Int) :=
  if t = true then
  r3_Classes_J14_1 d class' q first k a r14 t else
  if same = true then
  r3_Classes_J18 n q next' first r7 k else
  G (fits (k + (1 : Int))) (
  r10 (k + (1 : Int)))
noncomputable def r3_Classes_L14_B (d : (Int × Int × (List (List Int)) × (List Int) × Unit)) (class' : (List Int)) (n : Int) (q : Int) (next' : (List Int)) (first : (List Int)) (r7 : (Int → Int → (List Int) → (List Int) → Option (List Int))) (k : Int) (r10 : (Int → Option (List Int))) (r14 : Bool → Int → Option (List Int)) (same : Bool) (a : Int) : Option (List Int) :=
  if (decide (a < d.1)) = true then
  r3_Classes_J14 d class' n q next' first r7 k r10 same a r14 same else
  r3_Classes_J14 d class' n q next' first r7 k r10 same a r14 false
noncomputable def r3_Classes_L14_F (d : (Int × Int × (List (List Int)) × (List Int) × Unit)) (class' : (List Int)) (n : Int) (q : Int) (next' : (List Int)) (first : (List Int)) (r7 : (Int → Int → (List Int) → (List Int) → Option (List Int))) (k : Int) (r10 : (Int → Option (List Int))) : (Bool × Int → Option (List Int)) → Bool × Int → Option (List Int) :=
  fun rec x => r3_Classes_L14_B d class' n q next' first r7 k r10 (fun same a => rec (same, a)) x.1 x.2
noncomputable def r3_Classes_L14 (d : (Int × Int × (List (List Int)) × (List Int) × Unit)) (class' : (List Int)) (n : Int) (q : Int) (next' : (List Int)) (first : (List Int)) (r7 : (Int → Int → (List Int) → (List Int) → Option (List Int))) (k : Int) (r10 : (Int → Option (List Int))) (same : Bool) (a : Int) : Option (List Int) := LFix (r3_Classes_L14_F d class' n q next' first r7 k r10 ) (same, a)
noncomputable def r3_Classes_L10_B (d : (Int × Int × (List (List Int)) × (List Int) × Unit)) (class' : (List Int)) (n : Int) (q : Int) (next' : (List Int)) (first : (List Int)) (r7 : (Int → Int → (List Int) → (List Int) → Option (List Int))) (r10 : Int → Option (List Int)) (k : Int) : Option (List Int) :=
  if (decide (k < n)) = true then
  G (0 ≤ k ∧ k < (first.length : Int)) (
  G ((k).toNat < first.length) (
  G (0 ≤ ix first k ∧ ix first k < (class'.length : Int)) (
  G ((ix first k).toNat < class'.length) (
  G (0 ≤ q ∧ q < (class'.length : Int)) (
  G ((q).toNat < class'.length) (
  r3_Classes_L14 d class' n q next' first r7 k r10 (decide ((ix class' (ix first k)) = (ix class' q))) (0 : Int))))))) else
  r3_Classes_J18 n q next' first r7 k
noncomputable def r3_Classes_L10_F (d : (Int × Int × (List (List Int)) × (List Int) × Unit)) (class' : (List Int)) (n : Int) (q : Int) (next' : (List Int)) (first : (List Int)) (r7 : (Int → Int → (List Int) → (List Int) → Option (List Int))) : (Int → Option (List Int)) → Int → Option (List Int) :=
  fun rec x => r3_Classes_L10_B d class' n q next' first r7 (fun k => rec k) x
noncomputable def r3_Classes_L10 (d : (Int × Int × (List (List Int)) × (List Int) × Unit)) (class' : (List Int)) (n : Int) (q : Int) (next' : (List Int)) (first : (List Int)) (r7 : (Int → Int → (List Int) → (List Int) → Option (List Int))) (k : Int) : Option (List Int) := LFix (r3_Classes_L10_F d class' n q next' first r7 ) k
noncomputable def r3_Classes_L7_B (d : (Int × Int × (List (List Int)) × (List Int) × Unit)) (count : Int) (class' : (List Int)) (r3 : (Int → (List Int) → Option (List Int))) (r7 : Int → Int → (List Int) → (List Int) → Option (List Int)) (n : Int) (q : Int) (next' : (List Int)) (first : (List Int)) : Option (List Int) :=
  if (decide (q < (class'.length : Int))) = true then
  r3_Classes_L10 d class' n q next' first r7 (0 : Int) else
  if (decide (n = count)) = true then
  some next' else
  r3 n next'
noncomputable def r3_Classes_L7_F (d : (Int × Int × (List (List Int)) × (List Int) × Unit)) (count : Int) (class' : (List Int)) (r3 : (Int → (List Int) → Option (List Int))) : (Int × Int × (List Int) × (List Int) → Option (List Int)) → Int × Int × (List Int) × (List Int) → Option (List Int) :=
  fun rec x => r3_Classes_L7_B d count class' r3 (fun n q next' first => rec (n, q, next', first)) x.1 x.2.1 x.2.2.1 x.2.2.2
noncomputable def r3_Classes_L7 (d : (Int × Int × (List (List Int)) × (List Int) × Unit)) (count : Int) (class' : (List Int)) (r3 : (Int → (List Int) → Option (List Int))) (n : Int) (q : Int) (next' : (List Int)) (first : (List Int)) : Option (List Int) := LFix (r3_Classes_L7_F d count class' r3 ) (n, q, next', first)
noncomputable def r3_Classes_L3_B (d : (Int × Int × (List (List Int)) × (List Int) × Unit)) (r3 : Int → (List Int) → Option (List Int)) (count : Int) (class' : (List Int)) : Option (List Int) :=
  G (mkOK (class'.length : Int) (class'.length : Int) 8) (
  r3_Classes_L7 d count class' r3 (0 : Int) (0 : Int) (List.replicate ((class'.length : Int)).toNat (0 : Int)) ([]))
noncomputable def r3_Classes_L3_F (d : (Int × Int × (List (List Int)) × (List Int) × Unit)) : (Int × (List Int) → Option (List Int)) → Int × (List Int) → Option (List Int) :=
  fun rec x => r3_Classes_L3_B d (fun count class' => rec (count, class')) x.1 x.2
noncomputable def r3_Classes_L3 (d : (Int × Int × (List (List Int)) × (List Int) × Unit)) (count : Int) (class' : (List Int)) : Option (List Int) := LFix (r3_Classes_L3_F d ) (count, class')
noncomputable def r3_Classes (d : (Int × Int × (List (List Int)) × (List Int) × Unit)) : Option (List Int) :=
  G (room ([] : List Int) d.2.2.2.1 8) (
  r3_Classes_L3 d (0 : Int) (([] : List Int) ++ d.2.2.2.1))
theorem r3_Classes_J14_1_ch (r14 : Nat → Bool → Int → Option (List Int)) (r14' : Bool → Int → Option (List Int)) (h_r14 : ∀ a0 a1, ChO (fun κ => r14 κ a0 a1) (r14' a0 a1)) (d : (Int × Int × (List (List Int)) × (List Int) × Unit)) (class' : (List Int)) (q : Int) (first : (List Int)) (k : Int) (a : Int) (t_1 : Bool) : ChO (fun κ => r3_Classes_J14_1 d class' q first k a (r14 κ) t_1) (r3_Classes_J14_1 d class' q first k a r14' t_1) := by
  unfold r3_Classes_J14_1
  repeat' with_reducible first | exact ChO.const _ | exact h_r14 _ _ | apply ChO.ite | apply ChO.G | apply ChO.both | (apply ChO.bind; intro _)
theorem r3_Classes_J21_ch (r7 : Nat → Int → Int → (List Int) → (List Int) → Option (List Int)) (r7' : Int → Int → (List Int) → (List Int) → Option (List Int)) (h_r7 : ∀ a0 a1 a2 a3, ChO (fun κ => r7 κ a0 a1 a2 a3) (r7' a0 a1 a2 a3)) (q : Int) (next' : (List Int)) (k_1 : Int) (n_1 : Int) (first_1 : (List Int)) : ChO (fun κ => r3_Classes_J21 q next' (r7 κ) k_1 n_1 first_1) (r3_Classes_J21 q next' r7' k_1 n_1 first_1) := by
  unfold r3_Classes_J21
  repeat' with_reducible first | exact ChO.const _ | exact h_r7 _ _ _ _ | (apply r3_Classes_J14_1_ch <;> assumption) | apply ChO.ite | apply ChO.G | apply ChO.both | (apply ChO.bind; intro _)
theorem r3_Classes_J18_ch (r7 : Nat → Int → Int → (List Int) → (List Int) → Option (List Int)) (r7' : Int → Int → (List Int) → (List Int) → Option (List Int)) (h_r7 : ∀ a0 a1 a2 a3, ChO (fun κ => r7 κ a0 a1 a2 a3) (r7' a0 a1 a2 a3)) (n : Int) (q : Int) (next' : (List Int)) (first : (List Int)) (k_1 : Int) : ChO (fun κ => r3_Classes_J18 n q next' first (r7 κ) k_1) (r3_Classes_J18 n q next' first r7' k_1) := by
  unfold r3_Classes_J18
  repeat' with_reducible first | exact ChO.const _ | exact h_r7 _ _ _ _ | (apply r3_Classes_J14_1_ch <;> assumption) | (apply r3_Classes_J21_ch <;> assumption) | apply ChO.ite | apply ChO.G | apply ChO.both | (apply ChO.bind; intro _)
theorem r3_Classes_J14_ch (r7 : Nat → Int → Int → (List Int) → (List Int) → Option (List Int)) (r7' : Int → Int → (List Int) → (List Int) → Option (List Int)) (h_r7 : ∀ a0 a1 a2 a3, ChO (fun κ => r7 κ a0 a1 a2 a3) (r7' a0 a1 a2 a3)) (r10 : Nat → Int → Option (List Int)) (r10' : Int → Option (List Int)) (h_r10 : ∀ a0, ChO (fun κ => r10 κ a0) (r10' a0)) (r14 : Nat → Bool → Int → Option (List Int)) (r14' : Bool → Int → Option (List Int)) (h_r14 : ∀ a0 a1, ChO (fun κ => r14 κ a0 a1) (r14' a0 a1)) (d : (Int × Int × (List (List Int)) × (List Int) × Unit)) (class' : (List Int)) (n : Int) (q : Int) (next' : (List Int)) (first : (List Int)) (k : Int) (same : Bool) (a : Int) (t : Bool) : ChO (fun κ => r3_Classes_J14 d class' n q next' first (r7 κ) k (r10 κ) same a (r14 κ) t) (r3_Classes_J14 d class' n q next' first r7' k r10' same a r14' t) := by
  unfold r3_Classes_J14
  repeat' with_reducible first | exact ChO.const _ | exact h_r7 _ _ _ _ | exact h_r10 _ | exact h_r14 _ _ | (apply r3_Classes_J14_1_ch <;> assumption) | (apply r3_Classes_J21_ch <;> assumption) | (apply r3_Classes_J18_ch <;> assumption) | apply ChO.ite | apply ChO.G | apply ChO.both | (apply ChO.bind; intro _)
theorem r3_Classes_L14_B_ch (r7 : Nat → Int → Int → (List Int) → (List Int) → Option (List Int)) (r7' : Int → Int → (List Int) → (List Int) → Option (List Int)) (h_r7 : ∀ a0 a1 a2 a3, ChO (fun κ => r7 κ a0 a1 a2 a3) (r7' a0 a1 a2 a3)) (r10 : Nat → Int → Option (List Int)) (r10' : Int → Option (List Int)) (h_r10 : ∀ a0, ChO (fun κ => r10 κ a0) (r10' a0)) (r14 : Nat → Bool → Int → Option (List Int)) (r14' : Bool → Int → Option (List Int)) (h_r14 : ∀ a0 a1, ChO (fun κ => r14 κ a0 a1) (r14' a0 a1)) (d : (Int × Int × (List (List Int)) × (List Int) × Unit)) (class' : (List Int)) (n : Int) (q : Int) (next' : (List Int)) (first : (List Int)) (k : Int) (same : Bool) (a : Int) : ChO (fun κ => r3_Classes_L14_B d class' n q next' first (r7 κ) k (r10 κ) (r14 κ) same a) (r3_Classes_L14_B d class' n q next' first r7' k r10' r14' same a) := by
  unfold r3_Classes_L14_B
  repeat' with_reducible first | exact ChO.const _ | exact h_r7 _ _ _ _ | exact h_r10 _ | exact h_r14 _ _ | (apply r3_Classes_J14_1_ch <;> assumption) | (apply r3_Classes_J21_ch <;> assumption) | (apply r3_Classes_J18_ch <;> assumption) | (apply r3_Classes_J14_ch <;> assumption) | apply ChO.ite | apply ChO.G | apply ChO.both | (apply ChO.bind; intro _)
theorem r3_Classes_L14_cn (r7 : Int → Int → (List Int) → (List Int) → Option (List Int)) (r10 : Int → Option (List Int)) (d : (Int × Int × (List (List Int)) × (List Int) × Unit)) (class' : (List Int)) (n : Int) (q : Int) (next' : (List Int)) (first : (List Int)) (k : Int) : Cn (r3_Classes_L14_F d class' n q next' first r7 k r10) := fun g h hg x => r3_Classes_L14_B_ch (fun _ => r7) r7 (fun _ _ _ _ => ChO.const _) (fun _ => r10) r10 (fun _ => ChO.const _) (fun κ same a => g κ (same, a)) (fun same a => h (same, a)) (fun same a => hg (same, a)) d class' n q next' first k x.1 x.2
theorem r3_Classes_L14_eq (r7 : Int → Int → (List Int) → (List Int) → Option (List Int)) (r10 : Int → Option (List Int)) (d : (Int × Int × (List (List Int)) × (List Int) × Unit)) (class' : (List Int)) (n : Int) (q : Int) (next' : (List Int)) (first : (List Int)) (k : Int) (same : Bool) (a : Int) : r3_Classes_L14 d class' n q next' first r7 k r10 same a = r3_Classes_L14_B d class' n q next' first r7 k r10 (r3_Classes_L14 d class' n q next' first r7 k r10) same a := LFix_eq (r3_Classes_L14_cn r7 r10 d class' n q next' first k) (same, a)
theorem r3_Classes_L14_ch (r7 : Nat → Int → Int → (List Int) → (List Int) → Option (List Int)) (r7' : Int → Int → (List Int) → (List Int) → Option (List Int)) (h_r7 : ∀ a0 a1 a2 a3, ChO (fun κ => r7 κ a0 a1 a2 a3) (r7' a0 a1 a2 a3)) (r10 : Nat → Int → Option (List Int)) (r10' : Int → Option (List Int)) (h_r10 : ∀ a0, ChO (fun κ => r10 κ a0) (r10' a0)) (d : (Int × Int × (List (List Int)) × (List Int) × Unit)) (class' : (List Int)) (n : Int) (q : Int) (next' : (List Int)) (first : (List Int)) (k : Int) (same : Bool) (a : Int) : ChO (fun κ => r3_Classes_L14 d class' n q next' first (r7 κ) k (r10 κ) same a) (r3_Classes_L14 d class' n q next' first r7' k r10' same a) := by
  unfold r3_Classes_L14
  exact LFix_ch (fun κ => (r3_Classes_L14_cn (r7 κ) (r10 κ) d class' n q next' first k).mono) (r3_Classes_L14_cn r7' r10' d class' n q next' first k).mono (fun g h hg x => r3_Classes_L14_B_ch r7 r7' h_r7 r10 r10' h_r10 (fun κ same a => g κ (same, a)) (fun same a => h (same, a)) (fun same a => hg (same, a)) d class' n q next' first k x.1 x.2) _
theorem r3_Classes_L10_B_ch (r7 : Nat → Int → Int → (List Int) → (List Int) → Option (List Int)) (r7' : Int → Int → (List Int) → (List Int) → Option (List Int)) (h_r7 : ∀ a0 a1 a2 a3, ChO (fun κ => r7 κ a0 a1 a2 a3) (r7' a0 a1 a2 a3)) (r10 : Nat → Int → Option (List Int)) (r10' : Int → Option (List Int)) (h_r10 : ∀ a0, ChO (fun κ => r10 κ a0) (r10' a0)) (d : (Int × Int × (List (List Int)) × (List Int) × Unit)) (class' : (List Int)) (n : Int) (q : Int) (next' : (List Int)) (first : (List Int)) (k : Int) : ChO (fun κ => r3_Classes_L10_B d class' n q next' first (r7 κ) (r10 κ) k) (r3_Classes_L10_B d class' n q next' first r7' r10' k) := by
  unfold r3_Classes_L10_B
  repeat' with_reducible first | exact ChO.const _ | exact h_r7 _ _ _ _ | exact h_r10 _ | (apply r3_Classes_J14_1_ch <;> assumption) | (apply r3_Classes_J21_ch <;> assumption) | (apply r3_Classes_J18_ch <;> assumption) | (apply r3_Classes_J14_ch <;> assumption) | (apply r3_Classes_L14_ch <;> assumption) | apply ChO.ite | apply ChO.G | apply ChO.both | (apply ChO.bind; intro _)
theorem r3_Classes_L10_cn (r7 : Int → Int → (List Int) → (List Int) → Option (List Int)) (d : (Int × Int × (List (List Int)) × (List Int) × Unit)) (class' : (List Int)) (n : Int) (q : Int) (next' : (List Int)) (first : (List Int)) : Cn (r3_Classes_L10_F d class' n q next' first r7) := fun g h hg x => r3_Classes_L10_B_ch (fun _ => r7) r7 (fun _ _ _ _ => ChO.const _) (fun κ k => g κ k) (fun k => h k) (fun k => hg k) d class' n q next' first x
theorem r3_Classes_L10_eq (r7 : Int → Int → (List Int) → (List Int) → Option (List Int)) (d : (Int × Int × (List (List Int)) × (List Int) × Unit)) (class' : (List Int)) (n : Int) (q : Int) (next' : (List Int)) (first : (List Int)) (k : Int) : r3_Classes_L10 d class' n q next' first r7 k = r3_Classes_L10_B d class' n q next' first r7 (r3_Classes_L10 d class' n q next' first r7) k := LFix_eq (r3_Classes_L10_cn r7 d class' n q next' first) k
theorem r3_Classes_L10_ch (r7 : Nat → Int → Int → (List Int) → (List Int) → Option (List Int)) (r7' : Int → Int → (List Int) → (List Int) → Option (List Int)) (h_r7 : ∀ a0 a1 a2 a3, ChO (fun κ => r7 κ a0 a1 a2 a3) (r7' a0 a1 a2 a3)) (d : (Int × Int × (List (List Int)) × (List Int) × Unit)) (class' : (List Int)) (n : Int) (q : Int) (next' : (List Int)) (first : (List Int)) (k : Int) : ChO (fun κ => r3_Classes_L10 d class' n q next' first (r7 κ) k) (r3_Classes_L10 d class' n q next' first r7' k) := by
  unfold r3_Classes_L10
  exact LFix_ch (fun κ => (r3_Classes_L10_cn (r7 κ) d class' n q next' first).mono) (r3_Classes_L10_cn r7' d class' n q next' first).mono (fun g h hg x => r3_Classes_L10_B_ch r7 r7' h_r7 (fun κ k => g κ k) (fun k => h k) (fun k => hg k) d class' n q next' first x) _
theorem r3_Classes_L7_B_ch (r3 : Nat → Int → (List Int) → Option (List Int)) (r3' : Int → (List Int) → Option (List Int)) (h_r3 : ∀ a0 a1, ChO (fun κ => r3 κ a0 a1) (r3' a0 a1)) (r7 : Nat → Int → Int → (List Int) → (List Int) → Option (List Int)) (r7' : Int → Int → (List Int) → (List Int) → Option (List Int)) (h_r7 : ∀ a0 a1 a2 a3, ChO (fun κ => r7 κ a0 a1 a2 a3) (r7' a0 a1 a2 a3)) (d : (Int × Int × (List (List Int)) × (List Int) × Unit)) (count : Int) (class' : (List Int)) (n : Int) (q : Int) (next' : (List Int)) (first : (List Int)) : ChO (fun κ => r3_Classes_L7_B d count class' (r3 κ) (r7 κ) n q next' first) (r3_Classes_L7_B d count class' r3' r7' n q next' first) := by
  unfold r3_Classes_L7_B
  repeat' with_reducible first | exact ChO.const _ | exact h_r3 _ _ | exact h_r7 _ _ _ _ | (apply r3_Classes_J14_1_ch <;> assumption) | (apply r3_Classes_J21_ch <;> assumption) | (apply r3_Classes_J18_ch <;> assumption) | (apply r3_Classes_J14_ch <;> assumption) | (apply r3_Classes_L14_ch <;> assumption) | (apply r3_Classes_L10_ch <;> assumption) | apply ChO.ite | apply ChO.G | apply ChO.both | (apply ChO.bind; intro _)
theorem r3_Classes_L7_cn (r3 : Int → (List Int) → Option (List Int)) (d : (Int × Int × (List (List Int)) × (List Int) × Unit)) (count : Int) (class' : (List Int)) : Cn (r3_Classes_L7_F d count class' r3) := fun g h hg x => r3_Classes_L7_B_ch (fun _ => r3) r3 (fun _ _ => ChO.const _) (fun κ n q next' first => g κ (n, q, next', first)) (fun n q next' first => h (n, q, next', first)) (fun n q next' first => hg (n, q, next', first)) d count class' x.1 x.2.1 x.2.2.1 x.2.2.2
theorem r3_Classes_L7_eq (r3 : Int → (List Int) → Option (List Int)) (d : (Int × Int × (List (List Int)) × (List Int) × Unit)) (count : Int) (class' : (List Int)) (n : Int) (q : Int) (next' : (List Int)) (first : (List Int)) : r3_Classes_L7 d count class' r3 n q next' first = r3_Classes_L7_B d count class' r3 (r3_Classes_L7 d count class' r3) n q next' first := LFix_eq (r3_Classes_L7_cn r3 d count class') (n, q, next', first)
theorem r3_Classes_L7_ch (r3 : Nat → Int → (List Int) → Option (List Int)) (r3' : Int → (List Int) → Option (List Int)) (h_r3 : ∀ a0 a1, ChO (fun κ => r3 κ a0 a1) (r3' a0 a1)) (d : (Int × Int × (List (List Int)) × (List Int) × Unit)) (count : Int) (class' : (List Int)) (n : Int) (q : Int) (next' : (List Int)) (first : (List Int)) : ChO (fun κ => r3_Classes_L7 d count class' (r3 κ) n q next' first) (r3_Classes_L7 d count class' r3' n q next' first) := by
  unfold r3_Classes_L7
  exact LFix_ch (fun κ => (r3_Classes_L7_cn (r3 κ) d count class').mono) (r3_Classes_L7_cn r3' d count class').mono (fun g h hg x => r3_Classes_L7_B_ch r3 r3' h_r3 (fun κ n q next' first => g κ (n, q, next', first)) (fun n q next' first => h (n, q, next', first)) (fun n q next' first => hg (n, q, next', first)) d count class' x.1 x.2.1 x.2.2.1 x.2.2.2) _
theorem r3_Classes_L3_B_ch (r3 : Nat → Int → (List Int) → Option (List Int)) (r3' : Int → (List Int) → Option (List Int)) (h_r3 : ∀ a0 a1, ChO (fun κ => r3 κ a0 a1) (r3' a0 a1)) (d : (Int × Int × (List (List Int)) × (List Int) × Unit)) (count : Int) (class' : (List Int)) : ChO (fun κ => r3_Classes_L3_B d (r3 κ) count class') (r3_Classes_L3_B d r3' count class') := by
  unfold r3_Classes_L3_B
  repeat' with_reducible first | exact ChO.const _ | exact h_r3 _ _ | (apply r3_Classes_J14_1_ch <;> assumption) | (apply r3_Classes_J21_ch <;> assumption) | (apply r3_Classes_J18_ch <;> assumption) | (apply r3_Classes_J14_ch <;> assumption) | (apply r3_Classes_L14_ch <;> assumption) | (apply r3_Classes_L10_ch <;> assumption) | (apply r3_Classes_L7_ch <;> assumption) | apply ChO.ite | apply ChO.G | apply ChO.both | (apply ChO.bind; intro _)
theorem r3_Classes_L3_cn  (d : (Int × Int × (List (List Int)) × (List Int) × Unit)) : Cn (r3_Classes_L3_F d) := fun g h hg x => r3_Classes_L3_B_ch  (fun κ count class' => g κ (count, class')) (fun count class' => h (count, class')) (fun count class' => hg (count, class')) d x.1 x.2
theorem r3_Classes_L3_eq  (d : (Int × Int × (List (List Int)) × (List Int) × Unit)) (count : Int) (class' : (List Int)) : r3_Classes_L3 d count class' = r3_Classes_L3_B d (r3_Classes_L3 d) count class' := LFix_eq (r3_Classes_L3_cn d) (count, class')

noncomputable def r3_Least_J20 (d : (Int × Int × (List (List Int)) × (List Int) × Unit)) (y' : (List Int)) (i_1 : Int) (a : Int) (row_1 : (List Int)) (next' : (List Int)) (r15 : (Int → (List Int) → (List Int) → (List Int) → Option (Int × Int × (List (List Int)) × (List Int) × Unit))) (number_3 : (List Int)) (row_2 : (List Int)) : Option (Int × Int × (List (List Int)) × (List Int) × Unit) :=
  G (0 ≤ ix (ix d.2.2.1 (ix row_1 i_1)) a ∧ ix (ix d.2.2.1 (ix row_1 i_1)) a < (y'.length : Int)) (
  G ((ix (ix d.2.2.1 (ix row_1 i_1)) a).toNat < y'.length) (
  G (0 ≤ ix y' (ix (ix d.2.2.1 (ix row_1 i_1)) a) ∧ ix y' (ix (ix d.2.2.1 (ix row_1 i_1)) a) < (number_3.length : Int)) (
  G ((ix y' (ix (ix d.2.2.1 (ix row_1 i_1)) a)).toNat < number_3.length) (
  G (0 ≤ a ∧ a < (next'.length : Int)) (
  G ((a).toNat < next'.length) (
  G (fits (a + (1 : Int))) (
  r15 (a + (1 : Int)) number_3 row_2 (next'.set (a).toNat (ix number_3 (ix y' (ix (ix d.2.2.1 (ix row_1 i_1)) a)))))))))))
noncomputable def r3_Least_L15_B (d : (Int × Int × (List (List Int)) × (List Int) × Unit)) (y' : (List Int)) (i_1 : Int) (out : Int) (out_1 : Int) (out_2 : (List (List Int))) (out_3 : (List Int)) (r11 : (Int → (List Int) → (List Int) → Int → Int → (List (List Int)) → (List Int) → Option (Int × Int × (List (List Int)) × (List Int) × Unit))) (r15 : Int → (List Int) → (List Int) → (List Int) → Option (Int × Int × (List (List Int)) × (List Int) × Unit)) (a : Int) (number_2 : (List Int)) (row_1 : (List Int)) (next' : (List Int)) : Option (Int × Int × (List (List Int)) × (List Int) × Unit) :=
  if (decide (a < d.1)) = true then
  G (0 ≤ i_1 ∧ i_1 < (row_1.length : Int)) (
  G ((i_1).toNat < row_1.length) (
  G (0 ≤ ix row_1 i_1 ∧ ix row_1 i_1 < (d.2.2.1.length : Int)) (
  G (0 ≤ a ∧ a < ((ix d.2.2.1 (ix row_1 i_1)).length : Int)) (
  G (0 ≤ ix (ix d.2.2.1 (ix row_1 i_1)) a ∧ ix (ix d.2.2.1 (ix row_1 i_1)) a < (y'.length : Int)) (
  G ((ix (ix d.2.2.1 (ix row_1 i_1)) a).toNat < y'.length) (
  G (0 ≤ ix y' (ix (ix d.2.2.1 (ix row_1 i_1)) a) ∧ ix y' (ix (ix d.2.2.1 (ix row_1 i_1)) a) < (number_2.length : Int)) (
  G ((ix y' (ix (ix d.2.2.1 (ix row_1 i_1)) a)).toNat < number_2.length) (
  if (decide ((ix number_2 (ix y' (ix (ix d.2.2.1 (ix row_1 i_1)) a))) < (0 : Int))) = true then
  G (0 ≤ ix (ix d.2.2.1 (ix row_1 i_1)) a ∧ ix (ix d.2.2.1 (ix row_1 i_1)) a < (y'.length : Int)) (
  G ((ix (ix d.2.2.1 (ix row_1 i_1)) a).toNat < y'.length) (
  G (0 ≤ ix y' (ix (ix d.2.2.1 (ix row_1 i_1)) a) ∧ ix y' (ix (ix d.2.2.1 (ix row_1 i_1)) a) < (number_2.length : Int)) (
  G ((ix y' (ix (ix d.2.2.1 (ix row_1 i_1)) a)).toNat < number_2.length) (
  G (room row_1 ([ix (ix d.2.2.1 (ix row_1 i_1)) a]) 8) (
  r3_Least_J20 d y' i_1 a row_1 next' r15 (number_2.set (ix y' (ix (ix d.2.2.1 (ix row_1 i_1)) a)).toNat (row_1.length : Int)) (row_1 ++ ([ix (ix d.2.2.1 (ix row_1 i_1)) a]))))))) else
  r3_Least_J20 d y' i_1 a row_1 next' r15 number_2 row_1)))))))) else
  G (room out_2 ([next']) 24) (
  G (0 ≤ i_1 ∧ i_1 < (row_1.length : Int)) (
  G ((i_1).toNat < row_1.length) (
  G (0 ≤ ix row_1 i_1 ∧ ix row_1 i_1 < (d.2.2.2.1.length : Int)) (
  G (room out_3 ([ix d.2.2.2.1 (ix row_1 i_1)]) 8) (
  G (fits (i_1 + (1 : Int))) (
  r11 (i_1 + (1 : Int)) number_2 row_1 out out_1 (out_2 ++ ([next'])) (out_3 ++ ([ix d.2.2.2.1 (ix row_1 i_1)]))))))))
noncomputable def r3_Least_L15_F (d : (Int × Int × (List (List Int)) × (List Int) × Unit)) (y' : (List Int)) (i_1 : Int) (out : Int) (out_1 : Int) (out_2 : (List (List Int))) (out_3 : (List Int)) (r11 : (Int → (List Int) → (List Int) → Int → Int → (List (List Int)) → (List Int) → Option (Int × Int × (List (List Int)) × (List Int) × Unit))) : (Int × (List Int) × (List Int) × (List Int) → Option (Int × Int × (List (List Int)) × (List Int) × Unit)) → Int × (List Int) × (List Int) × (List Int) → Option (Int × Int × (List (List Int)) × (List Int) × Unit) :=
  fun rec x => r3_Least_L15_B d y' i_1 out out_1 out_2 out_3 r11 (fun a number_2 row_1 next' => rec (a, number_2, row_1, next')) x.1 x.2.1 x.2.2.1 x.2.2.2
noncomputable def r3_Least_L15 (d : (Int × Int × (List (List Int)) × (List Int) × Unit)) (y' : (List Int)) (i_1 : Int) (out : Int) (out_1 : Int) (out_2 : (List (List Int))) (out_3 : (List Int)) (r11 : (Int → (List Int) → (List Int) → Int → Int → (List (List Int)) → (List Int) → Option (Int × Int × (List (List Int)) × (List Int) × Unit))) (a : Int) (number_2 : (List Int)) (row_1 : (List Int)) (next' : (List Int)) : Option (Int × Int × (List (List Int)) × (List Int) × Unit) := LFix (r3_Least_L15_F d y' i_1 out out_1 out_2 out_3 r11 ) (a, number_2, row_1, next')
noncomputable def r3_Least_L11_B (d : (Int × Int × (List (List Int)) × (List Int) × Unit)) (y' : (List Int)) (r11 : Int → (List Int) → (List Int) → Int → Int → (List (List Int)) → (List Int) → Option (Int × Int × (List (List Int)) × (List Int) × Unit)) (i_1 : Int) (number_1 : (List Int)) (row : (List Int)) (out : Int) (out_1 : Int) (out_2 : (List (List Int))) (out_3 : (List Int)) : Option (Int × Int × (List (List Int)) × (List Int) × Unit) :=
  if (decide (i_1 < (row.length : Int))) = true then
  G (mkOK d.1 d.1 8) (
  r3_Least_L15 d y' i_1 out out_1 out_2 out_3 r11 (0 : Int) number_1 row (List.replicate (d.1).toNat (0 : Int))) else
  some (out, (out_1, (out_2, (out_3, ()))))
noncomputable def r3_Least_L11_F (d : (Int × Int × (List (List Int)) × (List Int) × Unit)) (y' : (List Int)) : (Int × (List Int) × (List Int) × Int × Int × (List (List Int)) × (List Int) → Option (Int × Int × (List (List Int)) × (List Int) × Unit)) → Int × (List Int) × (List Int) × Int × Int × (List (List Int)) × (List Int) → Option (Int × Int × (List (List Int)) × (List Int) × Unit) :=
  fun rec x => r3_Least_L11_B d y' (fun i_1 number_1 row out out_1 out_2 out_3 => rec (i_1, number_1, row, out, out_1, out_2, out_3)) x.1 x.2.1 x.2.2.1 x.2.2.2.1 x.2.2.2.2.1 x.2.2.2.2.2.1 x.2.2.2.2.2.2
noncomputable def r3_Least_L11 (d : (Int × Int × (List (List Int)) × (List Int) × Unit)) (y' : (List Int)) (i_1 : Int) (number_1 : (List Int)) (row : (List Int)) (out : Int) (out_1 : Int) (out_2 : (List (List Int))) (out_3 : (List Int)) : Option (Int × Int × (List (List Int)) × (List Int) × Unit) := LFix (r3_Least_L11_F d y' ) (i_1, number_1, row, out, out_1, out_2, out_3)
noncomputable def r3_Least_L4_B (d : (Int × Int × (List (List Int)) × (List Int) × Unit)) (y' : (List Int)) (r4 : Int → (List Int) → Option (Int × Int × (List (List Int)) × (List Int) × Unit)) (i : Int) (number : (List Int)) : Option (Int × Int × (List (List Int)) × (List Int) × Unit) :=
  if (decide (i < (number.length : Int))) = true then
  G (0 ≤ i ∧ i < (number.length : Int)) (
  G ((i).toNat < number.length) (
  G (fits (i + (1 : Int))) (
  r4 (i + (1 : Int)) (number.set (i).toNat (-1 : Int))))) else
  G (0 ≤ d.2.1 ∧ d.2.1 < (y'.length : Int)) (
  G ((d.2.1).toNat < y'.length) (
  G (0 ≤ ix y' d.2.1 ∧ ix y' d.2.1 < (number.length : Int)) (
  G ((ix y' d.2.1).toNat < number.length) (
  r3_Least_L11 d y' (0 : Int) (number.set (ix y' d.2.1).toNat (0 : Int)) ([d.2.1]) d.1 (0 : Int) ([] : List (List Int)) ([] : List Int)))))
noncomputable def r3_Least_L4_F (d : (Int × Int × (List (List Int)) × (List Int) × Unit)) (y' : (List Int)) : (Int × (List Int) → Option (Int × Int × (List (List Int)) × (List Int) × Unit)) → Int × (List Int) → Option (Int × Int × (List (List Int)) × (List Int) × Unit) :=
  fun rec x => r3_Least_L4_B d y' (fun i number => rec (i, number)) x.1 x.2
noncomputable def r3_Least_L4 (d : (Int × Int × (List (List Int)) × (List Int) × Unit)) (y' : (List Int)) (i : Int) (number : (List Int)) : Option (Int × Int × (List (List Int)) × (List Int) × Unit) := LFix (r3_Least_L4_F d y' ) (i, number)
noncomputable def r3_Least (d : (Int × Int × (List (List Int)) × (List Int) × Unit)) : Option (Int × Int × (List (List Int)) × (List Int) × Unit) :=
  (r3_Classes (d.1, (d.2.1, (d.2.2.1, (d.2.2.2.1, ()))))).bind (fun y' =>
  G (mkOK (y'.length : Int) (y'.length : Int) 8) (
  r3_Least_L4 d y' (0 : Int) (List.replicate ((y'.length : Int)).toNat (0 : Int))))
theorem r3_Least_J20_ch (r15 : Nat → Int → (List Int) → (List Int) → (List Int) → Option (Int × Int × (List (List Int)) × (List Int) × Unit)) (r15' : Int → (List Int) → (List Int) → (List Int) → Option (Int × Int × (List (List Int)) × (List Int) × Unit)) (h_r15 : ∀ a0 a1 a2 a3, ChO (fun κ => r15 κ a0 a1 a2 a3) (r15' a0 a1 a2 a3)) (d : (Int × Int × (List (List Int)) × (List Int) × Unit)) (y' : (List Int)) (i_1 : Int) (a : Int) (row_1 : (List Int)) (next' : (List Int)) (number_3 : (List Int)) (row_2 : (List Int)) : ChO (fun κ => r3_Least_J20 d y' i_1 a row_1 next' (r15 κ) number_3 row_2) (r3_Least_J20 d y' i_1 a row_1 next' r15' number_3 row_2) := by
  unfold r3_Least_J20
  repeat' with_reducible first | exact ChO.const _ | exact h_r15 _ _ _ _ | apply ChO.ite | apply ChO.G | apply ChO.both | (apply ChO.bind; intro _)
theorem r3_Least_L15_B_ch (r11 : Nat → Int → (List Int) → (List Int) → Int → Int → (List (List Int)) → (List Int) → Option (Int × Int × (List (List Int)) × (List Int) × Unit)) (r11' : Int → (List Int) → (List Int) → Int → Int → (List (List Int)) → (List Int) → Option (Int × Int × (List (List Int)) × (List Int) × Unit)) (h_r11 : ∀ a0 a1 a2 a3 a4 a5 a6, ChO (fun κ => r11 κ a0 a1 a2 a3 a4 a5 a6) (r11' a0 a1 a2 a3 a4 a5 a6)) (r15 : Nat → Int → (List Int) → (List Int) → (List Int) → Option (Int × Int × (List (List Int)) × (List Int) × Unit)) (r15' : Int → (List Int) → (List Int) → (List Int) → Option (Int × Int × (List (List Int)) × (List Int) × Unit)) (h_r15 : ∀ a0 a1 a2 a3, ChO (fun κ => r15 κ a0 a1 a2 a3) (r15' a0 a1 a2 a3)) (d : (Int × Int × (List (List Int)) × (List Int) × Unit)) (y' : (List Int)) (i_1 : Int) (out : Int) (out_1 : Int) (out_2 : (List (List Int))) (out_3 : (List Int)) (a : Int) (number_2 : (List Int)) (row_1 : (List Int)) (next' : (List Int)) : ChO (fun κ => r3_Least_L15_B d y' i_1 out out_1 out_2 out_3 (r11 κ) (r15 κ) a number_2 row_1 next') (r3_Least_L15_B d y' i_1 out out_1 out_2 out_3 r11' r15' a number_2 row_1 next') := by
  unfold r3_Least_L15_B
  repeat' with_reducible first | exact ChO.const _ | exact h_r11 _ _ _ _ _ _ _ | exact h_r15 _ _ _ _ | (apply r3_Least_J20_ch <;> assumption) | apply ChO.ite | apply ChO.G | apply ChO.both | (apply ChO.bind; intro _)
theorem r3_Least_L15_cn (r11 : Int → (List Int) → (List Int) → Int → Int → (List (List Int)) → (List Int) → Option (Int × Int × (List (List Int)) × (List Int) × Unit)) (d : (Int × Int × (List (List Int)) × (List Int) × Unit)) (y' : (List Int)) (i_1 : Int) (out : Int) (out_1 : Int) (out_2 : (List (List Int))) (out_3 : (List Int)) : Cn (r3_Least_L15_F d y' i_1 out out_1 out_2 out_3 r11) := fun g h hg x => r3_Least_L15_B_ch (fun _ => r11) r11 (fun _ _ _ _ _ _ _ => ChO.const _) (fun κ a number_2 row_1 next' => g κ (a, number_2, row_1, next')) (fun a number_2 row_1 next' => h (a, number_2, row_1, next')) (fun a number_2 row_1 next' => hg (a, number_2, row_1, next')) d y' i_1 out out_1 out_2 out_3 x.1 x.2.1 x.2.2.1 x.2.2.2
theorem r3_Least_L15_eq (r11 : Int → (List Int) → (List Int) → Int → Int → (List (List Int)) → (List Int) → Option (Int × Int × (List (List Int)) × (List Int) × Unit)) (d : (Int × Int × (List (List Int)) × (List Int) × Unit)) (y' : (List Int)) (i_1 : Int) (out : Int) (out_1 : Int) (out_2 : (List (List Int))) (out_3 : (List Int)) (a : Int) (number_2 : (List Int)) (row_1 : (List Int)) (next' : (List Int)) : r3_Least_L15 d y' i_1 out out_1 out_2 out_3 r11 a number_2 row_1 next' = r3_Least_L15_B d y' i_1 out out_1 out_2 out_3 r11 (r3_Least_L15 d y' i_1 out out_1 out_2 out_3 r11) a number_2 row_1 next' := LFix_eq (r3_Least_L15_cn r11 d y' i_1 out out_1 out_2 out_3) (a, number_2, row_1, next')
theorem r3_Least_L15_ch (r11 : Nat → Int → (List Int) → (List Int) → Int → Int → (List (List Int)) → (List Int) → Option (Int × Int × (List (List Int)) × (List Int) × Unit)) (r11' : Int → (List Int) → (List Int) → Int → Int → (List (List Int)) → (List Int) → Option (Int × Int × (List (List Int)) × (List Int) × Unit)) (h_r11 : ∀ a0 a1 a2 a3 a4 a5 a6, ChO (fun κ => r11 κ a0 a1 a2 a3 a4 a5 a6) (r11' a0 a1 a2 a3 a4 a5 a6)) (d : (Int × Int × (List (List Int)) × (List Int) × Unit)) (y' : (List Int)) (i_1 : Int) (out : Int) (out_1 : Int) (out_2 : (List (List Int))) (out_3 : (List Int)) (a : Int) (number_2 : (List Int)) (row_1 : (List Int)) (next' : (List Int)) : ChO (fun κ => r3_Least_L15 d y' i_1 out out_1 out_2 out_3 (r11 κ) a number_2 row_1 next') (r3_Least_L15 d y' i_1 out out_1 out_2 out_3 r11' a number_2 row_1 next') := by
  unfold r3_Least_L15
  exact LFix_ch (fun κ => (r3_Least_L15_cn (r11 κ) d y' i_1 out out_1 out_2 out_3).mono) (r3_Least_L15_cn r11' d y' i_1 out out_1 out_2 out_3).mono (fun g h hg x => r3_Least_L15_B_ch r11 r11' h_r11 (fun κ a number_2 row_1 next' => g κ (a, number_2, row_1, next')) (fun a number_2 row_1 next' => h (a, number_2, row_1, next')) (fun a number_2 row_1 next' => hg (a, number_2, row_1, next')) d y' i_1 out out_1 out_2 out_3 x.1 x.2.1 x.2.2.1 x.2.2.2) _
theorem r3_Least_L11_B_ch (r11 : Nat → Int → (List Int) → (List Int) → Int → Int → (List (List Int)) → (List Int) → Option (Int × Int × (List (List Int)) × (List Int) × Unit)) (r11' : Int → (List Int) → (List Int) → Int → Int → (List (List Int)) → (List Int) → Option (Int × Int × (List (List Int)) × (List Int) × Unit)) (h_r11 : ∀ a0 a1 a2 a3 a4 a5 a6, ChO (fun κ => r11 κ a0 a1 a2 a3 a4 a5 a6) (r11' a0 a1 a2 a3 a4 a5 a6)) (d : (Int × Int × (List (List Int)) × (List Int) × Unit)) (y' : (List Int)) (i_1 : Int) (number_1 : (List Int)) (row : (List Int)) (out : Int) (out_1 : Int) (out_2 : (List (List Int))) (out_3 : (List Int)) : ChO (fun κ => r3_Least_L11_B d y' (r11 κ) i_1 number_1 row out out_1 out_2 out_3) (r3_Least_L11_B d y' r11' i_1 number_1 row out out_1 out_2 out_3) := by
  unfold r3_Least_L11_B
  repeat' with_reducible first | exact ChO.const _ | exact h_r11 _ _ _ _ _ _ _ | (apply r3_Least_J20_ch <;> assumption) | (apply r3_Least_L15_ch <;> assumption) | apply ChO.ite | apply ChO.G | apply ChO.both | (apply ChO.bind; intro _)
theorem r3_Least_L11_cn  (d : (Int × Int × (List (List Int)) × (List Int) × Unit)) (y' : (List Int)) : Cn (r3_Least_L11_F d y') := fun g h hg x => r3_Least_L11_B_ch  (fun κ i_1 number_1 row out out_1 out_2 out_3 => g κ (i_1, number_1, row, out, out_1, out_2, out_3)) (fun i_1 number_1 row out out_1 out_2 out_3 => h (i_1, number_1, row, out, out_1, out_2, out_3)) (fun i_1 number_1 row out out_1 out_2 out_3 => hg (i_1, number_1, row, out, out_1, out_2, out_3)) d y' x.1 x.2.1 x.2.2.1 x.2.2.2.1 x.2.2.2.2.1 x.2.2.2.2.2.1 x.2.2.2.2.2.2
theorem r3_Least_L11_eq  (d : (Int × Int × (List (List Int)) × (List Int) × Unit)) (y' : (List Int)) (i_1 : Int) (number_1 : (List Int)) (row : (List Int)) (out : Int) (out_1 : Int) (out_2 : (List (List Int))) (out_3 : (List Int)) : r3_Least_L11 d y' i_1 number_1 row out out_1 out_2 out_3 = r3_Least_L11_B d y' (r3_Least_L11 d y') i_1 number_1 row out out_1 out_2 out_3 := LFix_eq (r3_Least_L11_cn d y') (i_1, number_1, row, out, out_1, out_2, out_3)
theorem r3_Least_L4_B_ch (r4 : Nat → Int → (List Int) → Option (Int × Int × (List (List Int)) × (List Int) × Unit)) (r4' : Int → (List Int) → Option (Int × Int × (List (List Int)) × (List Int) × Unit)) (h_r4 : ∀ a0 a1, ChO (fun κ => r4 κ a0 a1) (r4' a0 a1)) (d : (Int × Int × (List (List Int)) × (List Int) × Unit)) (y' : (List Int)) (i : Int) (number : (List Int)) : ChO (fun κ => r3_Least_L4_B d y' (r4 κ) i number) (r3_Least_L4_B d y' r4' i number) := by
  unfold r3_Least_L4_B
  repeat' with_reducible first | exact ChO.const _ | exact h_r4 _ _ | (apply r3_Least_J20_ch <;> assumption) | (apply r3_Least_L15_ch <;> assumption) | apply ChO.ite | apply ChO.G | apply ChO.both | (apply ChO.bind; intro _)
theorem r3_Least_L4_cn  (d : (Int × Int × (List (List Int)) × (List Int) × Unit)) (y' : (List Int)) : Cn (r3_Least_L4_F d y') := fun g h hg x => r3_Least_L4_B_ch  (fun κ i number => g κ (i, number)) (fun i number => h (i, number)) (fun i number => hg (i, number)) d y' x.1 x.2
theorem r3_Least_L4_eq  (d : (Int × Int × (List (List Int)) × (List Int) × Unit)) (y' : (List Int)) (i : Int) (number : (List Int)) : r3_Least_L4 d y' i number = r3_Least_L4_B d y' (r3_Least_L4 d y') i number := LFix_eq (r3_Least_L4_cn d y') (i, number)

noncomputable def r3_Made_J31 (a : (Int × Int × (List Int) × (List (Int × Int × Int × Unit)) × (List Int) × Unit)) (s : Int) (j : Int) (r28 : (Int → Int → Option (Int × Int × (List (List Int)) × (List Int) × Unit))) (t : Bool) : Option (Int × Int × (List (List Int)) × (List Int) × Unit) :=
  if t = true then
  G (0 ≤ (((ix a.2.2.2.1 j).2).2).1) (
  G (fits (j + (1 : Int))) (
  r28 (ior .i64 s (ishl .i64 (1 : Int) ((((ix a.2.2.2.1 j).2).2).1))) (j + (1 : Int)))) else
  G (fits (j + (1 : Int))) (
  r28 s (j + (1 : Int)))
noncomputable def r3_Made_J35 (k : Int) (next' : (List Int)) (r24 : (Int → (List Int) → (List Int) → (List Int) → Option (Int × Int × (List (List Int)) × (List Int) × Unit))) (s : Int) (number_3 : (List Int)) (row_2 : (List Int)) : Option (Int × Int × (List (List Int)) × (List Int) × Unit) :=
  G (0 ≤ s ∧ s < (number_3.length : Int)) (
  G ((s).toNat < number_3.length) (
  G (room next' ([ix number_3 s]) 8) (
  G (fits (k + (1 : Int))) (
  r24 (k + (1 : Int)) number_3 row_2 (next' ++ ([ix number_3 s]))))))
noncomputable def r3_Made_L28_B (a : (Int × Int × (List Int) × (List (Int × Int × Int × Unit)) × (List Int) × Unit)) (i_3 : Int) (k : Int) (number_2 : (List Int)) (row_1 : (List Int)) (next' : (List Int)) (r24 : (Int → (List Int) → (List Int) → (List Int) → Option (Int × Int × (List (List Int)) × (List Int) × Unit))) (r28 : Int → Int → Option (Int × Int × (List (List Int)) × (List Int) × Unit)) (s : Int) (j : Int) : Option (Int × Int × (List (List Int)) × (List Int) × Unit) :=
  if (decide (j < (a.2.2.2.1.length : Int))) = true then
  G (0 ≤ j ∧ j < (a.2.2.2.1.length : Int)) (
  if (decide ((((ix a.2.2.2.1 j).2).1) = k)) = true then
  G (0 ≤ i_3 ∧ i_3 < (row_1.length : Int)) (
  G ((i_3).toNat < row_1.length) (
  G (0 ≤ (ix a.2.2.2.1 j).1) (
  r3_Made_J31 a s j r28 (decide ((iand .i64 (ishr .i64 (ix row_1 i_3) ((ix a.2.2.2.1 j).1)) (1 : Int)) = (1 : Int)))))) else
  r3_Made_J31 a s j r28 false) else
  G (0 ≤ s ∧ s < (number_2.length : Int)) (
  G ((s).toNat < number_2.length) (
  if (decide ((ix number_2 s) < (0 : Int))) = true then
  G (0 ≤ s ∧ s < (number_2.length : Int)) (
  G ((s).toNat < number_2.length) (
  G (room row_1 ([s]) 8) (
  r3_Made_J35 k next' r24 s (number_2.set (s).toNat (row_1.length : Int)) (row_1 ++ ([s]))))) else
  r3_Made_J35 k next' r24 s number_2 row_1))
noncomputable def r3_Made_L28_F (a : (Int × Int × (List Int) × (List (Int × Int × Int × Unit)) × (List Int) × Unit)) (i_3 : Int) (k : Int) (number_2 : (List Int)) (row_1 : (List Int)) (next' : (List Int)) (r24 : (Int → (List Int) → (List Int) → (List Int) → Option (Int × Int × (List (List Int)) × (List Int) × Unit))) : (Int × Int → Option (Int × Int × (List (List Int)) × (List Int) × Unit)) → Int × Int → Option (Int × Int × (List (List Int)) × (List Int) × Unit) :=
  fun rec x => r3_Made_L28_B a i_3 k number_2 row_1 next' r24 (fun s j => rec (s, j)) x.1 x.2
noncomputable def r3_Made_L28 (a : (Int × Int × (List Int) × (List (Int × Int × Int × Unit)) × (List Int) × Unit)) (i_3 : Int) (k : Int) (number_2 : (List Int)) (row_1 : (List Int)) (next' : (List Int)) (r24 : (Int → (List Int) → (List Int) → (List Int) → Option (Int × Int × (List (List Int)) × (List Int) × Unit))) (s : Int) (j : Int) : Option (Int × Int × (List (List Int)) × (List Int) × Unit) := LFix (r3_Made_L28_F a i_3 k number_2 row_1 next' r24 ) (s, j)
noncomputable def r3_Made_L24_B (a : (Int × Int × (List Int) × (List (Int × Int × Int × Unit)) × (List Int) × Unit)) (final : Int) (i_3 : Int) (out : Int) (out_1 : Int) (out_2 : (List (List Int))) (out_3 : (List Int)) (r20 : (Int → (List Int) → (List Int) → Int → Int → (List (List Int)) → (List Int) → Option (Int × Int × (List (List Int)) × (List Int) × Unit))) (r24 : Int → (List Int) → (List Int) → (List Int) → Option (Int × Int × (List (List Int)) × (List Int) × Unit)) (k : Int) (number_2 : (List Int)) (row_1 : (List Int)) (next' : (List Int)) : Option (Int × Int × (List (List Int)) × (List Int) × Unit) :=
  if (decide (k < a.1)) = true then
  r3_Made_L28 a i_3 k number_2 row_1 next' r24 (0 : Int) (0 : Int) else
  G (room out_2 ([next']) 24) (
  G (0 ≤ i_3 ∧ i_3 < (row_1.length : Int)) (
  G ((i_3).toNat < row_1.length) (
  if (decide (¬ (iand .i64 (ix row_1 i_3) final) = (0 : Int))) = true then
  G (room out_3 ([(1 : Int)]) 8) (
  G (fits (i_3 + (1 : Int))) (
  r20 (i_3 + (1 : Int)) number_2 row_1 out out_1 (out_2 ++ ([next'])) (out_3 ++ ([(1 : Int)])))) else
  G (room out_3 ([(0 : Int)]) 8) (
  G (fits (i_3 + (1 : Int))) (
  r20 (i_3 + (1 : Int)) number_2 row_1 out out_1 (out_2 ++ ([next'])) (out_3 ++ ([(0 : Int)])))))))
noncomputable def r3_Made_L24_F (a : (Int × Int × (List Int) × (List (Int × Int × Int × Unit)) × (List Int) × Unit)) (final : Int) (i_3 : Int) (out : Int) (out_1 : Int) (out_2 : (List (List Int))) (out_3 : (List Int)) (r20 : (Int → (List Int) → (List Int) → Int → Int → (List (List Int)) → (List Int) → Option (Int × Int × (List (List Int)) × (List Int) × Unit))) : (Int × (List Int) × (List Int) × (List Int) → Option (Int × Int × (List (List Int)) × (List Int) × Unit)) → Int × (List Int) × (List Int) × (List Int) → Option (Int × Int × (List (List Int)) × (List Int) × Unit) :=
  fun rec x => r3_Made_L24_B a final i_3 out out_1 out_2 out_3 r20 (fun k number_2 row_1 next' => rec (k, number_2, row_1, next')) x.1 x.2.1 x.2.2.1 x.2.2.2
noncomputable def r3_Made_L24 (a : (Int × Int × (List Int) × (List (Int × Int × Int × Unit)) × (List Int) × Unit)) (final : Int) (i_3 : Int) (out : Int) (out_1 : Int) (out_2 : (List (List Int))) (out_3 : (List Int)) (r20 : (Int → (List Int) → (List Int) → Int → Int → (List (List Int)) → (List Int) → Option (Int × Int × (List (List Int)) × (List Int) × Unit))) (k : Int) (number_2 : (List Int)) (row_1 : (List Int)) (next' : (List Int)) : Option (Int × Int × (List (List Int)) × (List Int) × Unit) := LFix (r3_Made_L24_F a final i_3 out out_1 out_2 out_3 r20 ) (k, number_2, row_1, next')
noncomputable def r3_Made_L20_B (a : (Int × Int × (List Int) × (List (Int × Int × Int × Unit)) × (List Int) × Unit)) (final : Int) (r20 : Int → (List Int) → (List Int) → Int → Int → (List (List Int)) → (List Int) → Option (Int × Int × (List (List Int)) × (List Int) × Unit)) (i_3 : Int) (number_1 : (List Int)) (row : (List Int)) (out : Int) (out_1 : Int) (out_2 : (List (List Int))) (out_3 : (List Int)) : Option (Int × Int × (List (List Int)) × (List Int) × Unit) :=
  if (decide (i_3 < (row.length : Int))) = true then
  r3_Made_L24 a final i_3 out out_1 out_2 out_3 r20 (0 : Int) number_1 row ([]) else
  (r3_Least (out, (out_1, (out_2, (out_3, ()))))).bind (fun y' =>
  some (y'.1, (y'.2.1, (y'.2.2.1, (y'.2.2.2.1, ())))))
noncomputable def r3_Made_L20_F (a : (Int × Int × (List Int) × (List (Int × Int × Int × Unit)) × (List Int) × Unit)) (final : Int) : (Int × (List Int) × (List Int) × Int × Int × (List (List Int)) × (List Int) → Option (Int × Int × (List (List Int)) × (List Int) × Unit)) → Int × (List Int) × (List Int) × Int × Int × (List (List Int)) × (List Int) → Option (Int × Int × (List (List Int)) × (List Int) × Unit) :=
  fun rec x => r3_Made_L20_B a final (fun i_3 number_1 row out out_1 out_2 out_3 => rec (i_3, number_1, row, out, out_1, out_2, out_3)) x.1 x.2.1 x.2.2.1 x.2.2.2.1 x.2.2.2.2.1 x.2.2.2.2.2.1 x.2.2.2.2.2.2
noncomputable def r3_Made_L20 (a : (Int × Int × (List Int) × (List (Int × Int × Int × Unit)) × (List Int) × Unit)) (final : Int) (i_3 : Int) (number_1 : (List Int)) (row : (List Int)) (out : Int) (out_1 : Int) (out_2 : (List (List Int))) (out_3 : (List Int)) : Option (Int × Int × (List (List Int)) × (List Int) × Unit) := LFix (r3_Made_L20_F a final ) (i_3, number_1, row, out, out_1, out_2, out_3)
noncomputable def r3_Made_L13_B (a : (Int × Int × (List Int) × (List (Int × Int × Int × Unit)) × (List Int) × Unit)) (first : Int) (final : Int) (r13 : Int → (List Int) → Option (Int × Int × (List (List Int)) × (List Int) × Unit)) (i_2 : Int) (number : (List Int)) : Option (Int × Int × (List (List Int)) × (List Int) × Unit) :=
  if (decide (i_2 < (number.length : Int))) = true then
  G (0 ≤ i_2 ∧ i_2 < (number.length : Int)) (
  G ((i_2).toNat < number.length) (
  G (fits (i_2 + (1 : Int))) (
  r13 (i_2 + (1 : Int)) (number.set (i_2).toNat (-1 : Int))))) else
  G (0 ≤ first ∧ first < (number.length : Int)) (
  G ((first).toNat < number.length) (
  r3_Made_L20 a final (0 : Int) (number.set (first).toNat (0 : Int)) ([first]) a.1 (0 : Int) ([] : List (List Int)) ([] : List Int)))
noncomputable def r3_Made_L13_F (a : (Int × Int × (List Int) × (List (Int × Int × Int × Unit)) × (List Int) × Unit)) (first : Int) (final : Int) : (Int × (List Int) → Option (Int × Int × (List (List Int)) × (List Int) × Unit)) → Int × (List Int) → Option (Int × Int × (List (List Int)) × (List Int) × Unit) :=
  fun rec x => r3_Made_L13_B a first final (fun i_2 number => rec (i_2, number)) x.1 x.2
noncomputable def r3_Made_L13 (a : (Int × Int × (List Int) × (List (Int × Int × Int × Unit)) × (List Int) × Unit)) (first : Int) (final : Int) (i_2 : Int) (number : (List Int)) : Option (Int × Int × (List (List Int)) × (List Int) × Unit) := LFix (r3_Made_L13_F a first final ) (i_2, number)
noncomputable def r3_Made_L8_B (a : (Int × Int × (List Int) × (List (Int × Int × Int × Unit)) × (List Int) × Unit)) (first : Int) (r8 : Int → Int → Option (Int × Int × (List (List Int)) × (List Int) × Unit)) (final : Int) (i_1 : Int) : Option (Int × Int × (List (List Int)) × (List Int) × Unit) :=
  if (decide (i_1 < (a.2.2.2.2.1.length : Int))) = true then
  G (0 ≤ i_1 ∧ i_1 < (a.2.2.2.2.1.length : Int)) (
  G (0 ≤ ix a.2.2.2.2.1 i_1) (
  G (fits (i_1 + (1 : Int))) (
  r8 (ior .i64 final (ishl .i64 (1 : Int) (ix a.2.2.2.2.1 i_1))) (i_1 + (1 : Int))))) else
  G (mkOK (256 : Int) (256 : Int) 8) (
  r3_Made_L13 a first final (0 : Int) (List.replicate ((256 : Int)).toNat (0 : Int)))
noncomputable def r3_Made_L8_F (a : (Int × Int × (List Int) × (List (Int × Int × Int × Unit)) × (List Int) × Unit)) (first : Int) : (Int × Int → Option (Int × Int × (List (List Int)) × (List Int) × Unit)) → Int × Int → Option (Int × Int × (List (List Int)) × (List Int) × Unit) :=
  fun rec x => r3_Made_L8_B a first (fun final i_1 => rec (final, i_1)) x.1 x.2
noncomputable def r3_Made_L8 (a : (Int × Int × (List Int) × (List (Int × Int × Int × Unit)) × (List Int) × Unit)) (first : Int) (final : Int) (i_1 : Int) : Option (Int × Int × (List (List Int)) × (List Int) × Unit) := LFix (r3_Made_L8_F a first ) (final, i_1)
noncomputable def r3_Made_L3_B (a : (Int × Int × (List Int) × (List (Int × Int × Int × Unit)) × (List Int) × Unit)) (r3 : Int → Int → Option (Int × Int × (List (List Int)) × (List Int) × Unit)) (first : Int) (i : Int) : Option (Int × Int × (List (List Int)) × (List Int) × Unit) :=
  if (decide (i < (a.2.2.1.length : Int))) = true then
  G (0 ≤ i ∧ i < (a.2.2.1.length : Int)) (
  G (0 ≤ ix a.2.2.1 i) (
  G (fits (i + (1 : Int))) (
  r3 (ior .i64 first (ishl .i64 (1 : Int) (ix a.2.2.1 i))) (i + (1 : Int))))) else
  r3_Made_L8 a first (0 : Int) (0 : Int)
noncomputable def r3_Made_L3_F (a : (Int × Int × (List Int) × (List (Int × Int × Int × Unit)) × (List Int) × Unit)) : (Int × Int → Option (Int × Int × (List (List Int)) × (List Int) × Unit)) → Int × Int → Option (Int × Int × (List (List Int)) × (List Int) × Unit) :=
  fun rec x => r3_Made_L3_B a (fun first i => rec (first, i)) x.1 x.2
noncomputable def r3_Made_L3 (a : (Int × Int × (List Int) × (List (Int × Int × Int × Unit)) × (List Int) × Unit)) (first : Int) (i : Int) : Option (Int × Int × (List (List Int)) × (List Int) × Unit) := LFix (r3_Made_L3_F a ) (first, i)
noncomputable def r3_Made (a : (Int × Int × (List Int) × (List (Int × Int × Int × Unit)) × (List Int) × Unit)) : Option (Int × Int × (List (List Int)) × (List Int) × Unit) :=
  r3_Made_L3 a (0 : Int) (0 : Int)
theorem r3_Made_J31_ch (r28 : Nat → Int → Int → Option (Int × Int × (List (List Int)) × (List Int) × Unit)) (r28' : Int → Int → Option (Int × Int × (List (List Int)) × (List Int) × Unit)) (h_r28 : ∀ a0 a1, ChO (fun κ => r28 κ a0 a1) (r28' a0 a1)) (a : (Int × Int × (List Int) × (List (Int × Int × Int × Unit)) × (List Int) × Unit)) (s : Int) (j : Int) (t : Bool) : ChO (fun κ => r3_Made_J31 a s j (r28 κ) t) (r3_Made_J31 a s j r28' t) := by
  unfold r3_Made_J31
  repeat' with_reducible first | exact ChO.const _ | exact h_r28 _ _ | apply ChO.ite | apply ChO.G | apply ChO.both | (apply ChO.bind; intro _)
theorem r3_Made_J35_ch (r24 : Nat → Int → (List Int) → (List Int) → (List Int) → Option (Int × Int × (List (List Int)) × (List Int) × Unit)) (r24' : Int → (List Int) → (List Int) → (List Int) → Option (Int × Int × (List (List Int)) × (List Int) × Unit)) (h_r24 : ∀ a0 a1 a2 a3, ChO (fun κ => r24 κ a0 a1 a2 a3) (r24' a0 a1 a2 a3)) (k : Int) (next' : (List Int)) (s : Int) (number_3 : (List Int)) (row_2 : (List Int)) : ChO (fun κ => r3_Made_J35 k next' (r24 κ) s number_3 row_2) (r3_Made_J35 k next' r24' s number_3 row_2) := by
  unfold r3_Made_J35
  repeat' with_reducible first | exact ChO.const _ | exact h_r24 _ _ _ _ | (apply r3_Made_J31_ch <;> assumption) | apply ChO.ite | apply ChO.G | apply ChO.both | (apply ChO.bind; intro _)
theorem r3_Made_L28_B_ch (r24 : Nat → Int → (List Int) → (List Int) → (List Int) → Option (Int × Int × (List (List Int)) × (List Int) × Unit)) (r24' : Int → (List Int) → (List Int) → (List Int) → Option (Int × Int × (List (List Int)) × (List Int) × Unit)) (h_r24 : ∀ a0 a1 a2 a3, ChO (fun κ => r24 κ a0 a1 a2 a3) (r24' a0 a1 a2 a3)) (r28 : Nat → Int → Int → Option (Int × Int × (List (List Int)) × (List Int) × Unit)) (r28' : Int → Int → Option (Int × Int × (List (List Int)) × (List Int) × Unit)) (h_r28 : ∀ a0 a1, ChO (fun κ => r28 κ a0 a1) (r28' a0 a1)) (a : (Int × Int × (List Int) × (List (Int × Int × Int × Unit)) × (List Int) × Unit)) (i_3 : Int) (k : Int) (number_2 : (List Int)) (row_1 : (List Int)) (next' : (List Int)) (s : Int) (j : Int) : ChO (fun κ => r3_Made_L28_B a i_3 k number_2 row_1 next' (r24 κ) (r28 κ) s j) (r3_Made_L28_B a i_3 k number_2 row_1 next' r24' r28' s j) := by
  unfold r3_Made_L28_B
  repeat' with_reducible first | exact ChO.const _ | exact h_r24 _ _ _ _ | exact h_r28 _ _ | (apply r3_Made_J31_ch <;> assumption) | (apply r3_Made_J35_ch <;> assumption) | apply ChO.ite | apply ChO.G | apply ChO.both | (apply ChO.bind; intro _)
theorem r3_Made_L28_cn (r24 : Int → (List Int) → (List Int) → (List Int) → Option (Int × Int × (List (List Int)) × (List Int) × Unit)) (a : (Int × Int × (List Int) × (List (Int × Int × Int × Unit)) × (List Int) × Unit)) (i_3 : Int) (k : Int) (number_2 : (List Int)) (row_1 : (List Int)) (next' : (List Int)) : Cn (r3_Made_L28_F a i_3 k number_2 row_1 next' r24) := fun g h hg x => r3_Made_L28_B_ch (fun _ => r24) r24 (fun _ _ _ _ => ChO.const _) (fun κ s j => g κ (s, j)) (fun s j => h (s, j)) (fun s j => hg (s, j)) a i_3 k number_2 row_1 next' x.1 x.2
theorem r3_Made_L28_eq (r24 : Int → (List Int) → (List Int) → (List Int) → Option (Int × Int × (List (List Int)) × (List Int) × Unit)) (a : (Int × Int × (List Int) × (List (Int × Int × Int × Unit)) × (List Int) × Unit)) (i_3 : Int) (k : Int) (number_2 : (List Int)) (row_1 : (List Int)) (next' : (List Int)) (s : Int) (j : Int) : r3_Made_L28 a i_3 k number_2 row_1 next' r24 s j = r3_Made_L28_B a i_3 k number_2 row_1 next' r24 (r3_Made_L28 a i_3 k number_2 row_1 next' r24) s j := LFix_eq (r3_Made_L28_cn r24 a i_3 k number_2 row_1 next') (s, j)
theorem r3_Made_L28_ch (r24 : Nat → Int → (List Int) → (List Int) → (List Int) → Option (Int × Int × (List (List Int)) × (List Int) × Unit)) (r24' : Int → (List Int) → (List Int) → (List Int) → Option (Int × Int × (List (List Int)) × (List Int) × Unit)) (h_r24 : ∀ a0 a1 a2 a3, ChO (fun κ => r24 κ a0 a1 a2 a3) (r24' a0 a1 a2 a3)) (a : (Int × Int × (List Int) × (List (Int × Int × Int × Unit)) × (List Int) × Unit)) (i_3 : Int) (k : Int) (number_2 : (List Int)) (row_1 : (List Int)) (next' : (List Int)) (s : Int) (j : Int) : ChO (fun κ => r3_Made_L28 a i_3 k number_2 row_1 next' (r24 κ) s j) (r3_Made_L28 a i_3 k number_2 row_1 next' r24' s j) := by
  unfold r3_Made_L28
  exact LFix_ch (fun κ => (r3_Made_L28_cn (r24 κ) a i_3 k number_2 row_1 next').mono) (r3_Made_L28_cn r24' a i_3 k number_2 row_1 next').mono (fun g h hg x => r3_Made_L28_B_ch r24 r24' h_r24 (fun κ s j => g κ (s, j)) (fun s j => h (s, j)) (fun s j => hg (s, j)) a i_3 k number_2 row_1 next' x.1 x.2) _
theorem r3_Made_L24_B_ch (r20 : Nat → Int → (List Int) → (List Int) → Int → Int → (List (List Int)) → (List Int) → Option (Int × Int × (List (List Int)) × (List Int) × Unit)) (r20' : Int → (List Int) → (List Int) → Int → Int → (List (List Int)) → (List Int) → Option (Int × Int × (List (List Int)) × (List Int) × Unit)) (h_r20 : ∀ a0 a1 a2 a3 a4 a5 a6, ChO (fun κ => r20 κ a0 a1 a2 a3 a4 a5 a6) (r20' a0 a1 a2 a3 a4 a5 a6)) (r24 : Nat → Int → (List Int) → (List Int) → (List Int) → Option (Int × Int × (List (List Int)) × (List Int) × Unit)) (r24' : Int → (List Int) → (List Int) → (List Int) → Option (Int × Int × (List (List Int)) × (List Int) × Unit)) (h_r24 : ∀ a0 a1 a2 a3, ChO (fun κ => r24 κ a0 a1 a2 a3) (r24' a0 a1 a2 a3)) (a : (Int × Int × (List Int) × (List (Int × Int × Int × Unit)) × (List Int) × Unit)) (final : Int) (i_3 : Int) (out : Int) (out_1 : Int) (out_2 : (List (List Int))) (out_3 : (List Int)) (k : Int) (number_2 : (List Int)) (row_1 : (List Int)) (next' : (List Int)) : ChO (fun κ => r3_Made_L24_B a final i_3 out out_1 out_2 out_3 (r20 κ) (r24 κ) k number_2 row_1 next') (r3_Made_L24_B a final i_3 out out_1 out_2 out_3 r20' r24' k number_2 row_1 next') := by
  unfold r3_Made_L24_B
  repeat' with_reducible first | exact ChO.const _ | exact h_r20 _ _ _ _ _ _ _ | exact h_r24 _ _ _ _ | (apply r3_Made_J31_ch <;> assumption) | (apply r3_Made_J35_ch <;> assumption) | (apply r3_Made_L28_ch <;> assumption) | apply ChO.ite | apply ChO.G | apply ChO.both | (apply ChO.bind; intro _)
theorem r3_Made_L24_cn (r20 : Int → (List Int) → (List Int) → Int → Int → (List (List Int)) → (List Int) → Option (Int × Int × (List (List Int)) × (List Int) × Unit)) (a : (Int × Int × (List Int) × (List (Int × Int × Int × Unit)) × (List Int) × Unit)) (final : Int) (i_3 : Int) (out : Int) (out_1 : Int) (out_2 : (List (List Int))) (out_3 : (List Int)) : Cn (r3_Made_L24_F a final i_3 out out_1 out_2 out_3 r20) := fun g h hg x => r3_Made_L24_B_ch (fun _ => r20) r20 (fun _ _ _ _ _ _ _ => ChO.const _) (fun κ k number_2 row_1 next' => g κ (k, number_2, row_1, next')) (fun k number_2 row_1 next' => h (k, number_2, row_1, next')) (fun k number_2 row_1 next' => hg (k, number_2, row_1, next')) a final i_3 out out_1 out_2 out_3 x.1 x.2.1 x.2.2.1 x.2.2.2
theorem r3_Made_L24_eq (r20 : Int → (List Int) → (List Int) → Int → Int → (List (List Int)) → (List Int) → Option (Int × Int × (List (List Int)) × (List Int) × Unit)) (a : (Int × Int × (List Int) × (List (Int × Int × Int × Unit)) × (List Int) × Unit)) (final : Int) (i_3 : Int) (out : Int) (out_1 : Int) (out_2 : (List (List Int))) (out_3 : (List Int)) (k : Int) (number_2 : (List Int)) (row_1 : (List Int)) (next' : (List Int)) : r3_Made_L24 a final i_3 out out_1 out_2 out_3 r20 k number_2 row_1 next' = r3_Made_L24_B a final i_3 out out_1 out_2 out_3 r20 (r3_Made_L24 a final i_3 out out_1 out_2 out_3 r20) k number_2 row_1 next' := LFix_eq (r3_Made_L24_cn r20 a final i_3 out out_1 out_2 out_3) (k, number_2, row_1, next')
theorem r3_Made_L24_ch (r20 : Nat → Int → (List Int) → (List Int) → Int → Int → (List (List Int)) → (List Int) → Option (Int × Int × (List (List Int)) × (List Int) × Unit)) (r20' : Int → (List Int) → (List Int) → Int → Int → (List (List Int)) → (List Int) → Option (Int × Int × (List (List Int)) × (List Int) × Unit)) (h_r20 : ∀ a0 a1 a2 a3 a4 a5 a6, ChO (fun κ => r20 κ a0 a1 a2 a3 a4 a5 a6) (r20' a0 a1 a2 a3 a4 a5 a6)) (a : (Int × Int × (List Int) × (List (Int × Int × Int × Unit)) × (List Int) × Unit)) (final : Int) (i_3 : Int) (out : Int) (out_1 : Int) (out_2 : (List (List Int))) (out_3 : (List Int)) (k : Int) (number_2 : (List Int)) (row_1 : (List Int)) (next' : (List Int)) : ChO (fun κ => r3_Made_L24 a final i_3 out out_1 out_2 out_3 (r20 κ) k number_2 row_1 next') (r3_Made_L24 a final i_3 out out_1 out_2 out_3 r20' k number_2 row_1 next') := by
  unfold r3_Made_L24
  exact LFix_ch (fun κ => (r3_Made_L24_cn (r20 κ) a final i_3 out out_1 out_2 out_3).mono) (r3_Made_L24_cn r20' a final i_3 out out_1 out_2 out_3).mono (fun g h hg x => r3_Made_L24_B_ch r20 r20' h_r20 (fun κ k number_2 row_1 next' => g κ (k, number_2, row_1, next')) (fun k number_2 row_1 next' => h (k, number_2, row_1, next')) (fun k number_2 row_1 next' => hg (k, number_2, row_1, next')) a final i_3 out out_1 out_2 out_3 x.1 x.2.1 x.2.2.1 x.2.2.2) _
theorem r3_Made_L20_B_ch (r20 : Nat → Int → (List Int) → (List Int) → Int → Int → (List (List Int)) → (List Int) → Option (Int × Int × (List (List Int)) × (List Int) × Unit)) (r20' : Int → (List Int) → (List Int) → Int → Int → (List (List Int)) → (List Int) → Option (Int × Int × (List (List Int)) × (List Int) × Unit)) (h_r20 : ∀ a0 a1 a2 a3 a4 a5 a6, ChO (fun κ => r20 κ a0 a1 a2 a3 a4 a5 a6) (r20' a0 a1 a2 a3 a4 a5 a6)) (a : (Int × Int × (List Int) × (List (Int × Int × Int × Unit)) × (List Int) × Unit)) (final : Int) (i_3 : Int) (number_1 : (List Int)) (row : (List Int)) (out : Int) (out_1 : Int) (out_2 : (List (List Int))) (out_3 : (List Int)) : ChO (fun κ => r3_Made_L20_B a final (r20 κ) i_3 number_1 row out out_1 out_2 out_3) (r3_Made_L20_B a final r20' i_3 number_1 row out out_1 out_2 out_3) := by
  unfold r3_Made_L20_B
  repeat' with_reducible first | exact ChO.const _ | exact h_r20 _ _ _ _ _ _ _ | (apply r3_Made_J31_ch <;> assumption) | (apply r3_Made_J35_ch <;> assumption) | (apply r3_Made_L28_ch <;> assumption) | (apply r3_Made_L24_ch <;> assumption) | apply ChO.ite | apply ChO.G | apply ChO.both | (apply ChO.bind; intro _)
theorem r3_Made_L20_cn  (a : (Int × Int × (List Int) × (List (Int × Int × Int × Unit)) × (List Int) × Unit)) (final : Int) : Cn (r3_Made_L20_F a final) := fun g h hg x => r3_Made_L20_B_ch  (fun κ i_3 number_1 row out out_1 out_2 out_3 => g κ (i_3, number_1, row, out, out_1, out_2, out_3)) (fun i_3 number_1 row out out_1 out_2 out_3 => h (i_3, number_1, row, out, out_1, out_2, out_3)) (fun i_3 number_1 row out out_1 out_2 out_3 => hg (i_3, number_1, row, out, out_1, out_2, out_3)) a final x.1 x.2.1 x.2.2.1 x.2.2.2.1 x.2.2.2.2.1 x.2.2.2.2.2.1 x.2.2.2.2.2.2
theorem r3_Made_L20_eq  (a : (Int × Int × (List Int) × (List (Int × Int × Int × Unit)) × (List Int) × Unit)) (final : Int) (i_3 : Int) (number_1 : (List Int)) (row : (List Int)) (out : Int) (out_1 : Int) (out_2 : (List (List Int))) (out_3 : (List Int)) : r3_Made_L20 a final i_3 number_1 row out out_1 out_2 out_3 = r3_Made_L20_B a final (r3_Made_L20 a final) i_3 number_1 row out out_1 out_2 out_3 := LFix_eq (r3_Made_L20_cn a final) (i_3, number_1, row, out, out_1, out_2, out_3)
theorem r3_Made_L13_B_ch (r13 : Nat → Int → (List Int) → Option (Int × Int × (List (List Int)) × (List Int) × Unit)) (r13' : Int → (List Int) → Option (Int × Int × (List (List Int)) × (List Int) × Unit)) (h_r13 : ∀ a0 a1, ChO (fun κ => r13 κ a0 a1) (r13' a0 a1)) (a : (Int × Int × (List Int) × (List (Int × Int × Int × Unit)) × (List Int) × Unit)) (first : Int) (final : Int) (i_2 : Int) (number : (List Int)) : ChO (fun κ => r3_Made_L13_B a first final (r13 κ) i_2 number) (r3_Made_L13_B a first final r13' i_2 number) := by
  unfold r3_Made_L13_B
  repeat' with_reducible first | exact ChO.const _ | exact h_r13 _ _ | (apply r3_Made_J31_ch <;> assumption) | (apply r3_Made_J35_ch <;> assumption) | (apply r3_Made_L28_ch <;> assumption) | (apply r3_Made_L24_ch <;> assumption) | apply ChO.ite | apply ChO.G | apply ChO.both | (apply ChO.bind; intro _)
theorem r3_Made_L13_cn  (a : (Int × Int × (List Int) × (List (Int × Int × Int × Unit)) × (List Int) × Unit)) (first : Int) (final : Int) : Cn (r3_Made_L13_F a first final) := fun g h hg x => r3_Made_L13_B_ch  (fun κ i_2 number => g κ (i_2, number)) (fun i_2 number => h (i_2, number)) (fun i_2 number => hg (i_2, number)) a first final x.1 x.2
theorem r3_Made_L13_eq  (a : (Int × Int × (List Int) × (List (Int × Int × Int × Unit)) × (List Int) × Unit)) (first : Int) (final : Int) (i_2 : Int) (number : (List Int)) : r3_Made_L13 a first final i_2 number = r3_Made_L13_B a first final (r3_Made_L13 a first final) i_2 number := LFix_eq (r3_Made_L13_cn a first final) (i_2, number)
theorem r3_Made_L8_B_ch (r8 : Nat → Int → Int → Option (Int × Int × (List (List Int)) × (List Int) × Unit)) (r8' : Int → Int → Option (Int × Int × (List (List Int)) × (List Int) × Unit)) (h_r8 : ∀ a0 a1, ChO (fun κ => r8 κ a0 a1) (r8' a0 a1)) (a : (Int × Int × (List Int) × (List (Int × Int × Int × Unit)) × (List Int) × Unit)) (first : Int) (final : Int) (i_1 : Int) : ChO (fun κ => r3_Made_L8_B a first (r8 κ) final i_1) (r3_Made_L8_B a first r8' final i_1) := by
  unfold r3_Made_L8_B
  repeat' with_reducible first | exact ChO.const _ | exact h_r8 _ _ | (apply r3_Made_J31_ch <;> assumption) | (apply r3_Made_J35_ch <;> assumption) | (apply r3_Made_L28_ch <;> assumption) | (apply r3_Made_L24_ch <;> assumption) | apply ChO.ite | apply ChO.G | apply ChO.both | (apply ChO.bind; intro _)
theorem r3_Made_L8_cn  (a : (Int × Int × (List Int) × (List (Int × Int × Int × Unit)) × (List Int) × Unit)) (first : Int) : Cn (r3_Made_L8_F a first) := fun g h hg x => r3_Made_L8_B_ch  (fun κ final i_1 => g κ (final, i_1)) (fun final i_1 => h (final, i_1)) (fun final i_1 => hg (final, i_1)) a first x.1 x.2
theorem r3_Made_L8_eq  (a : (Int × Int × (List Int) × (List (Int × Int × Int × Unit)) × (List Int) × Unit)) (first : Int) (final : Int) (i_1 : Int) : r3_Made_L8 a first final i_1 = r3_Made_L8_B a first (r3_Made_L8 a first) final i_1 := LFix_eq (r3_Made_L8_cn a first) (final, i_1)
theorem r3_Made_L3_B_ch (r3 : Nat → Int → Int → Option (Int × Int × (List (List Int)) × (List Int) × Unit)) (r3' : Int → Int → Option (Int × Int × (List (List Int)) × (List Int) × Unit)) (h_r3 : ∀ a0 a1, ChO (fun κ => r3 κ a0 a1) (r3' a0 a1)) (a : (Int × Int × (List Int) × (List (Int × Int × Int × Unit)) × (List Int) × Unit)) (first : Int) (i : Int) : ChO (fun κ => r3_Made_L3_B a (r3 κ) first i) (r3_Made_L3_B a r3' first i) := by
  unfold r3_Made_L3_B
  repeat' with_reducible first | exact ChO.const _ | exact h_r3 _ _ | (apply r3_Made_J31_ch <;> assumption) | (apply r3_Made_J35_ch <;> assumption) | (apply r3_Made_L28_ch <;> assumption) | (apply r3_Made_L24_ch <;> assumption) | apply ChO.ite | apply ChO.G | apply ChO.both | (apply ChO.bind; intro _)
theorem r3_Made_L3_cn  (a : (Int × Int × (List Int) × (List (Int × Int × Int × Unit)) × (List Int) × Unit)) : Cn (r3_Made_L3_F a) := fun g h hg x => r3_Made_L3_B_ch  (fun κ first i => g κ (first, i)) (fun first i => h (first, i)) (fun first i => hg (first, i)) a x.1 x.2
theorem r3_Made_L3_eq  (a : (Int × Int × (List Int) × (List (Int × Int × Int × Unit)) × (List Int) × Unit)) (first : Int) (i : Int) : r3_Made_L3 a first i = r3_Made_L3_B a (r3_Made_L3 a) first i := LFix_eq (r3_Made_L3_cn a) (first, i)

noncomputable def r3_Same_L14_B (a : (Int × Int × (List (List Int)) × (List Int) × Unit)) (b : (Int × Int × (List (List Int)) × (List Int) × Unit)) (i_1 : Int) (r9 : (Int → Option (Bool))) (r14 : Int → Option (Bool)) (k : Int) : Option (Bool) :=
  G (0 ≤ i_1 ∧ i_1 < (a.2.2.1.length : Int)) (
  if (decide (k < ((ix a.2.2.1 i_1).length : Int))) = true then
  G (0 ≤ i_1 ∧ i_1 < (a.2.2.1.length : Int)) (
  G (0 ≤ k ∧ k < ((ix a.2.2.1 i_1).length : Int)) (
  G (0 ≤ i_1 ∧ i_1 < (b.2.2.1.length : Int)) (
  G (0 ≤ k ∧ k < ((ix b.2.2.1 i_1).length : Int)) (
  if (decide (¬ (ix (ix a.2.2.1 i_1) k) = (ix (ix b.2.2.1 i_1) k))) = true then
  some false else
  G (fits (k + (1 : Int))) (
  r14 (k + (1 : Int))))))) else
  G (fits (i_1 + (1 : Int))) (
  r9 (i_1 + (1 : Int))))
noncomputable def r3_Same_L14_F (a : (Int × Int × (List (List Int)) × (List Int) × Unit)) (b : (Int × Int × (List (List Int)) × (List Int) × Unit)) (i_1 : Int) (r9 : (Int → Option (Bool))) : (Int → Option (Bool)) → Int → Option (Bool) :=
  fun rec x => r3_Same_L14_B a b i_1 r9 (fun k => rec k) x
noncomputable def r3_Same_L14 (a : (Int × Int × (List (List Int)) × (List Int) × Unit)) (b : (Int × Int × (List (List Int)) × (List Int) × Unit)) (i_1 : Int) (r9 : (Int → Option (Bool))) (k : Int) : Option (Bool) := LFix (r3_Same_L14_F a b i_1 r9 ) k
noncomputable def r3_Same_L9_B (a : (Int × Int × (List (List Int)) × (List Int) × Unit)) (b : (Int × Int × (List (List Int)) × (List Int) × Unit)) (r9 : Int → Option (Bool)) (i_1 : Int) : Option (Bool) :=
  if (decide (i_1 < (a.2.2.1.length : Int))) = true then
  G (0 ≤ i_1 ∧ i_1 < (a.2.2.1.length : Int)) (
  G (0 ≤ i_1 ∧ i_1 < (b.2.2.1.length : Int)) (
  if (decide (¬ ((ix a.2.2.1 i_1).length : Int) = ((ix b.2.2.1 i_1).length : Int))) = true then
  some false else
  r3_Same_L14 a b i_1 r9 (0 : Int))) else
  some true
noncomputable def r3_Same_L9_F (a : (Int × Int × (List (List Int)) × (List Int) × Unit)) (b : (Int × Int × (List (List Int)) × (List Int) × Unit)) : (Int → Option (Bool)) → Int → Option (Bool) :=
  fun rec x => r3_Same_L9_B a b (fun i_1 => rec i_1) x
noncomputable def r3_Same_L9 (a : (Int × Int × (List (List Int)) × (List Int) × Unit)) (b : (Int × Int × (List (List Int)) × (List Int) × Unit)) (i_1 : Int) : Option (Bool) := LFix (r3_Same_L9_F a b ) i_1
noncomputable def r3_Same_L4_B (a : (Int × Int × (List (List Int)) × (List Int) × Unit)) (b : (Int × Int × (List (List Int)) × (List Int) × Unit)) (r4 : Int → Option (Bool)) (i : Int) : Option (Bool) :=
  if (decide (i < (a.2.2.2.1.length : Int))) = true then
  G (0 ≤ i ∧ i < (a.2.2.2.1.length : Int)) (
  G (0 ≤ i ∧ i < (b.2.2.2.1.length : Int)) (
  if (decide (¬ (ix a.2.2.2.1 i) = (ix b.2.2.2.1 i))) = true then
  some false else
  G (fits (i + (1 : Int))) (
  r4 (i + (1 : Int))))) else
  r3_Same_L9 a b (0 : Int)
noncomputable def r3_Same_L4_F (a : (Int × Int × (List (List Int)) × (List Int) × Unit)) (b : (Int × Int × (List (List Int)) × (List Int) × Unit)) : (Int → Option (Bool)) → Int → Option (Bool) :=
  fun rec x => r3_Same_L4_B a b (fun i => rec i) x
noncomputable def r3_Same_L4 (a : (Int × Int × (List (List Int)) × (List Int) × Unit)) (b : (Int × Int × (List (List Int)) × (List Int) × Unit)) (i : Int) : Option (Bool) := LFix (r3_Same_L4_F a b ) i
noncomputable def r3_Same (a : (Int × Int × (List (List Int)) × (List Int) × Unit)) (b : (Int × Int × (List (List Int)) × (List Int) × Unit)) : Option (Bool) :=
  if (decide (¬ a.1 = b.1)) = true then
  some false else
  if (decide (¬ a.2.1 = b.2.1)) = true then
  some false else
  if (decide (¬ (a.2.2.1.length : Int) = (b.2.2.1.length : Int))) = true then
  some false else
  if (decide (¬ (a.2.2.2.1.length : Int) = (b.2.2.2.1.length : Int))) = true then
  some false else
  r3_Same_L4 a b (0 : Int)
theorem r3_Same_L14_B_ch (r9 : Nat → Int → Option (Bool)) (r9' : Int → Option (Bool)) (h_r9 : ∀ a0, ChO (fun κ => r9 κ a0) (r9' a0)) (r14 : Nat → Int → Option (Bool)) (r14' : Int → Option (Bool)) (h_r14 : ∀ a0, ChO (fun κ => r14 κ a0) (r14' a0)) (a : (Int × Int × (List (List Int)) × (List Int) × Unit)) (b : (Int × Int × (List (List Int)) × (List Int) × Unit)) (i_1 : Int) (k : Int) : ChO (fun κ => r3_Same_L14_B a b i_1 (r9 κ) (r14 κ) k) (r3_Same_L14_B a b i_1 r9' r14' k) := by
  unfold r3_Same_L14_B
  repeat' with_reducible first | exact ChO.const _ | exact h_r9 _ | exact h_r14 _ | apply ChO.ite | apply ChO.G | apply ChO.both | (apply ChO.bind; intro _)
theorem r3_Same_L14_cn (r9 : Int → Option (Bool)) (a : (Int × Int × (List (List Int)) × (List Int) × Unit)) (b : (Int × Int × (List (List Int)) × (List Int) × Unit)) (i_1 : Int) : Cn (r3_Same_L14_F a b i_1 r9) := fun g h hg x => r3_Same_L14_B_ch (fun _ => r9) r9 (fun _ => ChO.const _) (fun κ k => g κ k) (fun k => h k) (fun k => hg k) a b i_1 x
theorem r3_Same_L14_eq (r9 : Int → Option (Bool)) (a : (Int × Int × (List (List Int)) × (List Int) × Unit)) (b : (Int × Int × (List (List Int)) × (List Int) × Unit)) (i_1 : Int) (k : Int) : r3_Same_L14 a b i_1 r9 k = r3_Same_L14_B a b i_1 r9 (r3_Same_L14 a b i_1 r9) k := LFix_eq (r3_Same_L14_cn r9 a b i_1) k
theorem r3_Same_L14_ch (r9 : Nat → Int → Option (Bool)) (r9' : Int → Option (Bool)) (h_r9 : ∀ a0, ChO (fun κ => r9 κ a0) (r9' a0)) (a : (Int × Int × (List (List Int)) × (List Int) × Unit)) (b : (Int × Int × (List (List Int)) × (List Int) × Unit)) (i_1 : Int) (k : Int) : ChO (fun κ => r3_Same_L14 a b i_1 (r9 κ) k) (r3_Same_L14 a b i_1 r9' k) := by
  unfold r3_Same_L14
  exact LFix_ch (fun κ => (r3_Same_L14_cn (r9 κ) a b i_1).mono) (r3_Same_L14_cn r9' a b i_1).mono (fun g h hg x => r3_Same_L14_B_ch r9 r9' h_r9 (fun κ k => g κ k) (fun k => h k) (fun k => hg k) a b i_1 x) _
theorem r3_Same_L9_B_ch (r9 : Nat → Int → Option (Bool)) (r9' : Int → Option (Bool)) (h_r9 : ∀ a0, ChO (fun κ => r9 κ a0) (r9' a0)) (a : (Int × Int × (List (List Int)) × (List Int) × Unit)) (b : (Int × Int × (List (List Int)) × (List Int) × Unit)) (i_1 : Int) : ChO (fun κ => r3_Same_L9_B a b (r9 κ) i_1) (r3_Same_L9_B a b r9' i_1) := by
  unfold r3_Same_L9_B
  repeat' with_reducible first | exact ChO.const _ | exact h_r9 _ | (apply r3_Same_L14_ch <;> assumption) | apply ChO.ite | apply ChO.G | apply ChO.both | (apply ChO.bind; intro _)
theorem r3_Same_L9_cn  (a : (Int × Int × (List (List Int)) × (List Int) × Unit)) (b : (Int × Int × (List (List Int)) × (List Int) × Unit)) : Cn (r3_Same_L9_F a b) := fun g h hg x => r3_Same_L9_B_ch  (fun κ i_1 => g κ i_1) (fun i_1 => h i_1) (fun i_1 => hg i_1) a b x
theorem r3_Same_L9_eq  (a : (Int × Int × (List (List Int)) × (List Int) × Unit)) (b : (Int × Int × (List (List Int)) × (List Int) × Unit)) (i_1 : Int) : r3_Same_L9 a b i_1 = r3_Same_L9_B a b (r3_Same_L9 a b) i_1 := LFix_eq (r3_Same_L9_cn a b) i_1
theorem r3_Same_L4_B_ch (r4 : Nat → Int → Option (Bool)) (r4' : Int → Option (Bool)) (h_r4 : ∀ a0, ChO (fun κ => r4 κ a0) (r4' a0)) (a : (Int × Int × (List (List Int)) × (List Int) × Unit)) (b : (Int × Int × (List (List Int)) × (List Int) × Unit)) (i : Int) : ChO (fun κ => r3_Same_L4_B a b (r4 κ) i) (r3_Same_L4_B a b r4' i) := by
  unfold r3_Same_L4_B
  repeat' with_reducible first | exact ChO.const _ | exact h_r4 _ | (apply r3_Same_L14_ch <;> assumption) | apply ChO.ite | apply ChO.G | apply ChO.both | (apply ChO.bind; intro _)
theorem r3_Same_L4_cn  (a : (Int × Int × (List (List Int)) × (List Int) × Unit)) (b : (Int × Int × (List (List Int)) × (List Int) × Unit)) : Cn (r3_Same_L4_F a b) := fun g h hg x => r3_Same_L4_B_ch  (fun κ i => g κ i) (fun i => h i) (fun i => hg i) a b x
theorem r3_Same_L4_eq  (a : (Int × Int × (List (List Int)) × (List Int) × Unit)) (b : (Int × Int × (List (List Int)) × (List Int) × Unit)) (i : Int) : r3_Same_L4 a b i = r3_Same_L4_B a b (r3_Same_L4 a b) i := LFix_eq (r3_Same_L4_cn a b) i

noncomputable def r1_May_L6_B (letters : Int) (w : (List Int)) (r6 : Int → Option (Int)) (i : Int) : Option (Int) :=
  if (decide (i < (w.length : Int))) = true then
  G (0 ≤ i ∧ i < (w.length : Int)) (
  if (decide ((ix w i) < (0 : Int))) = true then
  some (2 : Int) else
  G (0 ≤ i ∧ i < (w.length : Int)) (
  if (decide (letters ≤ (ix w i))) = true then
  some (2 : Int) else
  G (fits (i + (1 : Int))) (
  r6 (i + (1 : Int))))) else
  some (0 : Int)
noncomputable def r1_May_L6_F (letters : Int) (w : (List Int)) : (Int → Option (Int)) → Int → Option (Int) :=
  fun rec x => r1_May_L6_B letters w (fun i => rec i) x
noncomputable def r1_May_L6 (letters : Int) (w : (List Int)) (i : Int) : Option (Int) := LFix (r1_May_L6_F letters w ) i
noncomputable def r1_May (letters : Int) (w : (List Int)) : Option (Int) :=
  if (decide (letters < (1 : Int))) = true then
  some (2 : Int) else
  if (decide ((4 : Int) < letters)) = true then
  some (2 : Int) else
  if (decide ((60 : Int) < (w.length : Int))) = true then
  some (1 : Int) else
  r1_May_L6 letters w (0 : Int)
theorem r1_May_L6_B_ch (r6 : Nat → Int → Option (Int)) (r6' : Int → Option (Int)) (h_r6 : ∀ a0, ChO (fun κ => r6 κ a0) (r6' a0)) (letters : Int) (w : (List Int)) (i : Int) : ChO (fun κ => r1_May_L6_B letters w (r6 κ) i) (r1_May_L6_B letters w r6' i) := by
  unfold r1_May_L6_B
  repeat' with_reducible first | exact ChO.const _ | exact h_r6 _ | apply ChO.ite | apply ChO.G | apply ChO.both | (apply ChO.bind; intro _)
theorem r1_May_L6_cn  (letters : Int) (w : (List Int)) : Cn (r1_May_L6_F letters w) := fun g h hg x => r1_May_L6_B_ch  (fun κ i => g κ i) (fun i => h i) (fun i => hg i) letters w x
theorem r1_May_L6_eq  (letters : Int) (w : (List Int)) (i : Int) : r1_May_L6 letters w i = r1_May_L6_B letters w (r1_May_L6 letters w) i := LFix_eq (r1_May_L6_cn letters w) i

noncomputable def r3_After_L2_B (d : (Int × Int × (List (List Int)) × (List Int) × Unit)) (w : (List Int)) (r2 : Int → Int → Option (Int)) (q_1 : Int) (i : Int) : Option (Int) :=
  if (decide (i < (w.length : Int))) = true then
  G (0 ≤ q_1 ∧ q_1 < (d.2.2.1.length : Int)) (
  G (0 ≤ i ∧ i < (w.length : Int)) (
  G (0 ≤ ix w i ∧ ix w i < ((ix d.2.2.1 q_1).length : Int)) (
  G (fits (i + (1 : Int))) (
  r2 (ix (ix d.2.2.1 q_1) (ix w i)) (i + (1 : Int)))))) else
  some q_1
noncomputable def r3_After_L2_F (d : (Int × Int × (List (List Int)) × (List Int) × Unit)) (w : (List Int)) : (Int × Int → Option (Int)) → Int × Int → Option (Int) :=
  fun rec x => r3_After_L2_B d w (fun q_1 i => rec (q_1, i)) x.1 x.2
noncomputable def r3_After_L2 (d : (Int × Int × (List (List Int)) × (List Int) × Unit)) (w : (List Int)) (q_1 : Int) (i : Int) : Option (Int) := LFix (r3_After_L2_F d w ) (q_1, i)
noncomputable def r3_After (d : (Int × Int × (List (List Int)) × (List Int) × Unit)) (q : Int) (w : (List Int)) : Option (Int) :=
  r3_After_L2 d w q (0 : Int)
theorem r3_After_L2_B_ch (r2 : Nat → Int → Int → Option (Int)) (r2' : Int → Int → Option (Int)) (h_r2 : ∀ a0 a1, ChO (fun κ => r2 κ a0 a1) (r2' a0 a1)) (d : (Int × Int × (List (List Int)) × (List Int) × Unit)) (w : (List Int)) (q_1 : Int) (i : Int) : ChO (fun κ => r3_After_L2_B d w (r2 κ) q_1 i) (r3_After_L2_B d w r2' q_1 i) := by
  unfold r3_After_L2_B
  repeat' with_reducible first | exact ChO.const _ | exact h_r2 _ _ | apply ChO.ite | apply ChO.G | apply ChO.both | (apply ChO.bind; intro _)
theorem r3_After_L2_cn  (d : (Int × Int × (List (List Int)) × (List Int) × Unit)) (w : (List Int)) : Cn (r3_After_L2_F d w) := fun g h hg x => r3_After_L2_B_ch  (fun κ q_1 i => g κ (q_1, i)) (fun q_1 i => h (q_1, i)) (fun q_1 i => hg (q_1, i)) d w x.1 x.2
theorem r3_After_L2_eq  (d : (Int × Int × (List (List Int)) × (List Int) × Unit)) (w : (List Int)) (q_1 : Int) (i : Int) : r3_After_L2 d w q_1 i = r3_After_L2_B d w (r3_After_L2 d w) q_1 i := LFix_eq (r3_After_L2_cn d w) (q_1, i)

noncomputable def r3_Accepts (d : (Int × Int × (List (List Int)) × (List Int) × Unit)) (w : (List Int)) : Option (Bool) :=
  (r3_After (d.1, (d.2.1, (d.2.2.1, (d.2.2.2.1, ())))) d.2.1 w).bind (fun y' =>
  G (0 ≤ y' ∧ y' < (d.2.2.2.1.length : Int)) (
  some (decide ((ix d.2.2.2.1 y') = (1 : Int)))))

noncomputable def r3_Reach_J14 (a : (Int × Int × (List Int) × (List (Int × Int × Int × Unit)) × (List Int) × Unit)) (k : Int) (next' : (List Bool)) (r11 : (Int → (List Bool) → Option (Bool))) (t : Bool) : Option (Bool) :=
  if t = true then
  G (0 ≤ (((ix a.2.2.2.1 k).2).2).1 ∧ (((ix a.2.2.2.1 k).2).2).1 < (next'.length : Int)) (
  G (((((ix a.2.2.2.1 k).2).2).1).toNat < next'.length) (
  G (fits (k + (1 : Int))) (
  r11 (k + (1 : Int)) (next'.set ((((ix a.2.2.2.1 k).2).2).1).toNat true)))) else
  G (fits (k + (1 : Int))) (
  r11 (k + (1 : Int)) next')
noncomputable def r3_Reach_L11_B (a : (Int × Int × (List Int) × (List (Int × Int × Int × Unit)) × (List Int) × Unit)) (w : (List Int)) (i_1 : Int) (now_1 : (List Bool)) (r7 : (Int → (List Bool) → Option (Bool))) (r11 : Int → (List Bool) → Option (Bool)) (k : Int) (next' : (List Bool)) : Option (Bool) :=
  if (decide (k < (a.2.2.2.1.length : Int))) = true then
  G (0 ≤ k ∧ k < (a.2.2.2.1.length : Int)) (
  G (0 ≤ i_1 ∧ i_1 < (w.length : Int)) (
  if (decide ((((ix a.2.2.2.1 k).2).1) = (ix w i_1))) = true then
  G (0 ≤ (ix a.2.2.2.1 k).1 ∧ (ix a.2.2.2.1 k).1 < (now_1.length : Int)) (
  G (((ix a.2.2.2.1 k).1).toNat < now_1.length) (
  r3_Reach_J14 a k next' r11 (ix now_1 ((ix a.2.2.2.1 k).1)))) else
  r3_Reach_J14 a k next' r11 false)) else
  G (fits (i_1 + (1 : Int))) (
  r7 (i_1 + (1 : Int)) next')
noncomputable def r3_Reach_L11_F (a : (Int × Int × (List Int) × (List (Int × Int × Int × Unit)) × (List Int) × Unit)) (w : (List Int)) (i_1 : Int) (now_1 : (List Bool)) (r7 : (Int → (List Bool) → Option (Bool))) : (Int × (List Bool) → Option (Bool)) → Int × (List Bool) → Option (Bool) :=
  fun rec x => r3_Reach_L11_B a w i_1 now_1 r7 (fun k next' => rec (k, next')) x.1 x.2
noncomputable def r3_Reach_L11 (a : (Int × Int × (List Int) × (List (Int × Int × Int × Unit)) × (List Int) × Unit)) (w : (List Int)) (i_1 : Int) (now_1 : (List Bool)) (r7 : (Int → (List Bool) → Option (Bool))) (k : Int) (next' : (List Bool)) : Option (Bool) := LFix (r3_Reach_L11_F a w i_1 now_1 r7 ) (k, next')
noncomputable def r3_Reach_L18_B (a : (Int × Int × (List Int) × (List (Int × Int × Int × Unit)) × (List Int) × Unit)) (now_1 : (List Bool)) (r18 : Int → Option (Bool)) (i_2 : Int) : Option (Bool) :=
  if (decide (i_2 < (a.2.2.2.2.1.length : Int))) = true then
  G (0 ≤ i_2 ∧ i_2 < (a.2.2.2.2.1.length : Int)) (
  G (0 ≤ ix a.2.2.2.2.1 i_2 ∧ ix a.2.2.2.2.1 i_2 < (now_1.length : Int)) (
  G ((ix a.2.2.2.2.1 i_2).toNat < now_1.length) (
  if (ix now_1 (ix a.2.2.2.2.1 i_2)) = true then
  some true else
  G (fits (i_2 + (1 : Int))) (
  r18 (i_2 + (1 : Int)))))) else
  some false
noncomputable def r3_Reach_L18_F (a : (Int × Int × (List Int) × (List (Int × Int × Int × Unit)) × (List Int) × Unit)) (now_1 : (List Bool)) : (Int → Option (Bool)) → Int → Option (Bool) :=
  fun rec x => r3_Reach_L18_B a now_1 (fun i_2 => rec i_2) x
noncomputable def r3_Reach_L18 (a : (Int × Int × (List Int) × (List (Int × Int × Int × Unit)) × (List Int) × Unit)) (now_1 : (List Bool)) (i_2 : Int) : Option (Bool) := LFix (r3_Reach_L18_F a now_1 ) i_2
noncomputable def r3_Reach_L7_B (a : (Int × Int × (List Int) × (List (Int × Int × Int × Unit)) × (List Int) × Unit)) (w : (List Int)) (r7 : Int → (List Bool) → Option (Bool)) (i_1 : Int) (now_1 : (List Bool)) : Option (Bool) :=
  if (decide (i_1 < (w.length : Int))) = true then
  G (mkOK a.2.1 a.2.1 1) (
  r3_Reach_L11 a w i_1 now_1 r7 (0 : Int) (List.replicate (a.2.1).toNat (false : Bool))) else
  r3_Reach_L18 a now_1 (0 : Int)
noncomputable def r3_Reach_L7_F (a : (Int × Int × (List Int) × (List (Int × Int × Int × Unit)) × (List Int) × Unit)) (w : (List Int)) : (Int × (List Bool) → Option (Bool)) → Int × (List Bool) → Option (Bool) :=
  fun rec x => r3_Reach_L7_B a w (fun i_1 now_1 => rec (i_1, now_1)) x.1 x.2
noncomputable def r3_Reach_L7 (a : (Int × Int × (List Int) × (List (Int × Int × Int × Unit)) × (List Int) × Unit)) (w : (List Int)) (i_1 : Int) (now_1 : (List Bool)) : Option (Bool) := LFix (r3_Reach_L7_F a w ) (i_1, now_1)
noncomputable def r3_Reach_L3_B (a : (Int × Int × (List Int) × (List (Int × Int × Int × Unit)) × (List Int) × Unit)) (w : (List Int)) (r3 : Int → (List Bool) → Option (Bool)) (i : Int) (now : (List Bool)) : Option (Bool) :=
  if (decide (i < (a.2.2.1.length : Int))) = true then
  G (0 ≤ i ∧ i < (a.2.2.1.length : Int)) (
  G (0 ≤ ix a.2.2.1 i ∧ ix a.2.2.1 i < (now.length : Int)) (
  G ((ix a.2.2.1 i).toNat < now.length) (
  G (fits (i + (1 : Int))) (
  r3 (i + (1 : Int)) (now.set (ix a.2.2.1 i).toNat true))))) else
  r3_Reach_L7 a w (0 : Int) now
noncomputable def r3_Reach_L3_F (a : (Int × Int × (List Int) × (List (Int × Int × Int × Unit)) × (List Int) × Unit)) (w : (List Int)) : (Int × (List Bool) → Option (Bool)) → Int × (List Bool) → Option (Bool) :=
  fun rec x => r3_Reach_L3_B a w (fun i now => rec (i, now)) x.1 x.2
noncomputable def r3_Reach_L3 (a : (Int × Int × (List Int) × (List (Int × Int × Int × Unit)) × (List Int) × Unit)) (w : (List Int)) (i : Int) (now : (List Bool)) : Option (Bool) := LFix (r3_Reach_L3_F a w ) (i, now)
noncomputable def r3_Reach (a : (Int × Int × (List Int) × (List (Int × Int × Int × Unit)) × (List Int) × Unit)) (w : (List Int)) : Option (Bool) :=
  G (mkOK a.2.1 a.2.1 1) (
  r3_Reach_L3 a w (0 : Int) (List.replicate (a.2.1).toNat (false : Bool)))
theorem r3_Reach_J14_ch (r11 : Nat → Int → (List Bool) → Option (Bool)) (r11' : Int → (List Bool) → Option (Bool)) (h_r11 : ∀ a0 a1, ChO (fun κ => r11 κ a0 a1) (r11' a0 a1)) (a : (Int × Int × (List Int) × (List (Int × Int × Int × Unit)) × (List Int) × Unit)) (k : Int) (next' : (List Bool)) (t : Bool) : ChO (fun κ => r3_Reach_J14 a k next' (r11 κ) t) (r3_Reach_J14 a k next' r11' t) := by
  unfold r3_Reach_J14
  repeat' with_reducible first | exact ChO.const _ | exact h_r11 _ _ | apply ChO.ite | apply ChO.G | apply ChO.both | (apply ChO.bind; intro _)
theorem r3_Reach_L11_B_ch (r7 : Nat → Int → (List Bool) → Option (Bool)) (r7' : Int → (List Bool) → Option (Bool)) (h_r7 : ∀ a0 a1, ChO (fun κ => r7 κ a0 a1) (r7' a0 a1)) (r11 : Nat → Int → (List Bool) → Option (Bool)) (r11' : Int → (List Bool) → Option (Bool)) (h_r11 : ∀ a0 a1, ChO (fun κ => r11 κ a0 a1) (r11' a0 a1)) (a : (Int × Int × (List Int) × (List (Int × Int × Int × Unit)) × (List Int) × Unit)) (w : (List Int)) (i_1 : Int) (now_1 : (List Bool)) (k : Int) (next' : (List Bool)) : ChO (fun κ => r3_Reach_L11_B a w i_1 now_1 (r7 κ) (r11 κ) k next') (r3_Reach_L11_B a w i_1 now_1 r7' r11' k next') := by
  unfold r3_Reach_L11_B
  repeat' with_reducible first | exact ChO.const _ | exact h_r7 _ _ | exact h_r11 _ _ | (apply r3_Reach_J14_ch <;> assumption) | apply ChO.ite | apply ChO.G | apply ChO.both | (apply ChO.bind; intro _)
theorem r3_Reach_L11_cn (r7 : Int → (List Bool) → Option (Bool)) (a : (Int × Int × (List Int) × (List (Int × Int × Int × Unit)) × (List Int) × Unit)) (w : (List Int)) (i_1 : Int) (now_1 : (List Bool)) : Cn (r3_Reach_L11_F a w i_1 now_1 r7) := fun g h hg x => r3_Reach_L11_B_ch (fun _ => r7) r7 (fun _ _ => ChO.const _) (fun κ k next' => g κ (k, next')) (fun k next' => h (k, next')) (fun k next' => hg (k, next')) a w i_1 now_1 x.1 x.2
theorem r3_Reach_L11_eq (r7 : Int → (List Bool) → Option (Bool)) (a : (Int × Int × (List Int) × (List (Int × Int × Int × Unit)) × (List Int) × Unit)) (w : (List Int)) (i_1 : Int) (now_1 : (List Bool)) (k : Int) (next' : (List Bool)) : r3_Reach_L11 a w i_1 now_1 r7 k next' = r3_Reach_L11_B a w i_1 now_1 r7 (r3_Reach_L11 a w i_1 now_1 r7) k next' := LFix_eq (r3_Reach_L11_cn r7 a w i_1 now_1) (k, next')
theorem r3_Reach_L11_ch (r7 : Nat → Int → (List Bool) → Option (Bool)) (r7' : Int → (List Bool) → Option (Bool)) (h_r7 : ∀ a0 a1, ChO (fun κ => r7 κ a0 a1) (r7' a0 a1)) (a : (Int × Int × (List Int) × (List (Int × Int × Int × Unit)) × (List Int) × Unit)) (w : (List Int)) (i_1 : Int) (now_1 : (List Bool)) (k : Int) (next' : (List Bool)) : ChO (fun κ => r3_Reach_L11 a w i_1 now_1 (r7 κ) k next') (r3_Reach_L11 a w i_1 now_1 r7' k next') := by
  unfold r3_Reach_L11
  exact LFix_ch (fun κ => (r3_Reach_L11_cn (r7 κ) a w i_1 now_1).mono) (r3_Reach_L11_cn r7' a w i_1 now_1).mono (fun g h hg x => r3_Reach_L11_B_ch r7 r7' h_r7 (fun κ k next' => g κ (k, next')) (fun k next' => h (k, next')) (fun k next' => hg (k, next')) a w i_1 now_1 x.1 x.2) _
theorem r3_Reach_L18_B_ch (r18 : Nat → Int → Option (Bool)) (r18' : Int → Option (Bool)) (h_r18 : ∀ a0, ChO (fun κ => r18 κ a0) (r18' a0)) (a : (Int × Int × (List Int) × (List (Int × Int × Int × Unit)) × (List Int) × Unit)) (now_1 : (List Bool)) (i_2 : Int) : ChO (fun κ => r3_Reach_L18_B a now_1 (r18 κ) i_2) (r3_Reach_L18_B a now_1 r18' i_2) := by
  unfold r3_Reach_L18_B
  repeat' with_reducible first | exact ChO.const _ | exact h_r18 _ | (apply r3_Reach_J14_ch <;> assumption) | (apply r3_Reach_L11_ch <;> assumption) | apply ChO.ite | apply ChO.G | apply ChO.both | (apply ChO.bind; intro _)
theorem r3_Reach_L18_cn  (a : (Int × Int × (List Int) × (List (Int × Int × Int × Unit)) × (List Int) × Unit)) (now_1 : (List Bool)) : Cn (r3_Reach_L18_F a now_1) := fun g h hg x => r3_Reach_L18_B_ch  (fun κ i_2 => g κ i_2) (fun i_2 => h i_2) (fun i_2 => hg i_2) a now_1 x
theorem r3_Reach_L18_eq  (a : (Int × Int × (List Int) × (List (Int × Int × Int × Unit)) × (List Int) × Unit)) (now_1 : (List Bool)) (i_2 : Int) : r3_Reach_L18 a now_1 i_2 = r3_Reach_L18_B a now_1 (r3_Reach_L18 a now_1) i_2 := LFix_eq (r3_Reach_L18_cn a now_1) i_2
theorem r3_Reach_L7_B_ch (r7 : Nat → Int → (List Bool) → Option (Bool)) (r7' : Int → (List Bool) → Option (Bool)) (h_r7 : ∀ a0 a1, ChO (fun κ => r7 κ a0 a1) (r7' a0 a1)) (a : (Int × Int × (List Int) × (List (Int × Int × Int × Unit)) × (List Int) × Unit)) (w : (List Int)) (i_1 : Int) (now_1 : (List Bool)) : ChO (fun κ => r3_Reach_L7_B a w (r7 κ) i_1 now_1) (r3_Reach_L7_B a w r7' i_1 now_1) := by
  unfold r3_Reach_L7_B
  repeat' with_reducible first | exact ChO.const _ | exact h_r7 _ _ | (apply r3_Reach_J14_ch <;> assumption) | (apply r3_Reach_L11_ch <;> assumption) | apply ChO.ite | apply ChO.G | apply ChO.both | (apply ChO.bind; intro _)
theorem r3_Reach_L7_cn  (a : (Int × Int × (List Int) × (List (Int × Int × Int × Unit)) × (List Int) × Unit)) (w : (List Int)) : Cn (r3_Reach_L7_F a w) := fun g h hg x => r3_Reach_L7_B_ch  (fun κ i_1 now_1 => g κ (i_1, now_1)) (fun i_1 now_1 => h (i_1, now_1)) (fun i_1 now_1 => hg (i_1, now_1)) a w x.1 x.2
theorem r3_Reach_L7_eq  (a : (Int × Int × (List Int) × (List (Int × Int × Int × Unit)) × (List Int) × Unit)) (w : (List Int)) (i_1 : Int) (now_1 : (List Bool)) : r3_Reach_L7 a w i_1 now_1 = r3_Reach_L7_B a w (r3_Reach_L7 a w) i_1 now_1 := LFix_eq (r3_Reach_L7_cn a w) (i_1, now_1)
theorem r3_Reach_L3_B_ch (r3 : Nat → Int → (List Bool) → Option (Bool)) (r3' : Int → (List Bool) → Option (Bool)) (h_r3 : ∀ a0 a1, ChO (fun κ => r3 κ a0 a1) (r3' a0 a1)) (a : (Int × Int × (List Int) × (List (Int × Int × Int × Unit)) × (List Int) × Unit)) (w : (List Int)) (i : Int) (now : (List Bool)) : ChO (fun κ => r3_Reach_L3_B a w (r3 κ) i now) (r3_Reach_L3_B a w r3' i now) := by
  unfold r3_Reach_L3_B
  repeat' with_reducible first | exact ChO.const _ | exact h_r3 _ _ | (apply r3_Reach_J14_ch <;> assumption) | (apply r3_Reach_L11_ch <;> assumption) | apply ChO.ite | apply ChO.G | apply ChO.both | (apply ChO.bind; intro _)
theorem r3_Reach_L3_cn  (a : (Int × Int × (List Int) × (List (Int × Int × Int × Unit)) × (List Int) × Unit)) (w : (List Int)) : Cn (r3_Reach_L3_F a w) := fun g h hg x => r3_Reach_L3_B_ch  (fun κ i now => g κ (i, now)) (fun i now => h (i, now)) (fun i now => hg (i, now)) a w x.1 x.2
theorem r3_Reach_L3_eq  (a : (Int × Int × (List Int) × (List (Int × Int × Int × Unit)) × (List Int) × Unit)) (w : (List Int)) (i : Int) (now : (List Bool)) : r3_Reach_L3 a w i now = r3_Reach_L3_B a w (r3_Reach_L3 a w) i now := LFix_eq (r3_Reach_L3_cn a w) (i, now)

noncomputable def law_DetMade_J7 (a : (Int × Int × (List Int) × (List (Int × Int × Int × Unit)) × (List Int) × Unit)) (w : (List Int)) (y'_1 : (Int × Int × (List (List Int)) × (List Int) × Unit)) (y'_2 : Int) (y'_4 : Bool) (y'_5 : Bool) (no : Int) : Option (Bool) :=
  if (!y'_4) = true then
  some false else
  if (decide (¬ no = (0 : Int))) = true then
  if (decide (y'_2 = no)) = true then
  some y'_5 else
  some false else
  (r3_Made (a.1, (a.2.1, (a.2.2.1, (a.2.2.2.1, (a.2.2.2.2.1, ())))))).bind (fun y'_7 =>
  (r3_Same (y'_1.1, (y'_1.2.1, (y'_1.2.2.1, (y'_1.2.2.2.1, ())))) (y'_7.1, (y'_7.2.1, (y'_7.2.2.1, (y'_7.2.2.2.1, ()))))).bind (fun y'_8 =>
  if (decide (¬ y'_2 = (0 : Int))) = true then
  some false else
  if (!y'_8) = true then
  some false else
  (r1_May a.1 w).bind (fun y'_9 =>
  if (decide (¬ y'_9 = (0 : Int))) = true then
  some true else
  (r3_Accepts (y'_1.1, (y'_1.2.1, (y'_1.2.2.1, (y'_1.2.2.2.1, ())))) w).bind (fun y'_10 =>
  (r3_Reach (a.1, (a.2.1, (a.2.2.1, (a.2.2.2.1, (a.2.2.2.2.1, ()))))) w).bind (fun y'_11 =>
  some (decide (y'_10 = y'_11)))))))
noncomputable def law_DetMade_J6 (a : (Int × Int × (List Int) × (List (Int × Int × Int × Unit)) × (List Int) × Unit)) (w : (List Int)) (y'_1 : (Int × Int × (List (List Int)) × (List Int) × Unit)) (y'_2 : Int) (y'_4 : Bool) (y'_5 : Bool) (y'_6 : Int) (t : Bool) : Option (Bool) :=
  if t = true then
  law_DetMade_J7 a w y'_1 y'_2 y'_4 y'_5 (1 : Int) else
  law_DetMade_J7 a w y'_1 y'_2 y'_4 y'_5 y'_6
noncomputable def law_DetMade (a : (Int × Int × (List Int) × (List (Int × Int × Int × Unit)) × (List Int) × Unit)) (w : (List Int)) : Option (Bool) :=
  (law_auto (a.1, (a.2.1, (a.2.2.1, (a.2.2.2.1, (a.2.2.2.2.1, ())))))).bind (fun y' =>
  (det_Made (y'.1, (y'.2.1, (y'.2.2.1, (y'.2.2.2.1, (y'.2.2.2.2.1, ())))))).bind (fun y'_12 =>
  (law_sameAuto (y'.1, (y'.2.1, (y'.2.2.1, (y'.2.2.2.1, (y'.2.2.2.2.1, ()))))) (a.1, (a.2.1, (a.2.2.1, (a.2.2.2.1, (a.2.2.2.2.1, ())))))).bind (fun y'_4 =>
  (law_noDet (y'_12.1.1, (y'_12.1.2.1, (y'_12.1.2.2.1, (y'_12.1.2.2.2.1, ()))))).bind (fun y'_5 =>
  (r7_Check (a.1, (a.2.1, (a.2.2.1, (a.2.2.2.1, (a.2.2.2.2.1, ())))))).bind (fun y'_6 =>
  if (decide (y'_6 = (0 : Int))) = true then
  law_DetMade_J6 a w y'_12.1 y'_12.2 y'_4 y'_5 y'_6 (decide ((8 : Int) < a.2.1)) else
  law_DetMade_J6 a w y'_12.1 y'_12.2 y'_4 y'_5 y'_6 false)))))

end Go.Proofs.Ytglnbcpiibkieaa.detMadeW
