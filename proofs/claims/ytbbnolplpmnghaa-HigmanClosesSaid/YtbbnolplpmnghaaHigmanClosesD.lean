/- What the functions that 'HigmanCloses' reaches compute: plain functions. -/
import Derived.Test.YtbbnolplpmnghaaEv11n21
set_option maxHeartbeats 1000000
set_option maxRecDepth 20000
set_option linter.unusedSimpArgs false
set_option linter.unusedVariables false
namespace Go.Proofs.Ytbbnolplpmnghaa.higmanClosesW
open Go Go.Ab
noncomputable def det_Check_1 (r : (List Int)) (t : (Int × Int × (List (List Int)) × (List Int) × Unit)) : Option (Bool) :=
  some (decide (¬ (r.length : Int) = t.1))

noncomputable def slices_IndexFunc_L2_B (s : (List (List Int))) (c : (Int × Int × (List (List Int)) × (List Int) × Unit)) (r2 : Int → Option (Int)) (t : Int) : Option (Int) :=
  if (decide (t < (s.length : Int))) = true then
  G (0 ≤ t ∧ t < (s.length : Int)) (
  (det_Check_1 (ix s t) c).bind (fun y' =>
  if y' = true then
  some t else
  G (fits (t + (1 : Int))) (
  r2 (t + (1 : Int))))) else
  some (-1 : Int)
noncomputable def slices_IndexFunc_L2_F (s : (List (List Int))) (c : (Int × Int × (List (List Int)) × (List Int) × Unit)) : (Int → Option (Int)) → Int → Option (Int) :=
  fun rec x => slices_IndexFunc_L2_B s c (fun t => rec t) x
noncomputable def slices_IndexFunc_L2 (s : (List (List Int))) (c : (Int × Int × (List (List Int)) × (List Int) × Unit)) (t : Int) : Option (Int) := LFix (slices_IndexFunc_L2_F s c ) t
noncomputable def slices_IndexFunc (s : (List (List Int))) (c : (Int × Int × (List (List Int)) × (List Int) × Unit)) : Option (Int) :=
  slices_IndexFunc_L2 s c (0 : Int)
theorem slices_IndexFunc_L2_B_ch (r2 : Nat → Int → Option (Int)) (r2' : Int → Option (Int)) (h_r2 : ∀ a0, ChO (fun κ => r2 κ a0) (r2' a0)) (s : (List (List Int))) (c : (Int × Int × (List (List Int)) × (List Int) × Unit)) (t : Int) : ChO (fun κ => slices_IndexFunc_L2_B s c (r2 κ) t) (slices_IndexFunc_L2_B s c r2' t) := by
  unfold slices_IndexFunc_L2_B
  repeat' with_reducible first | exact ChO.const _ | exact h_r2 _ | apply ChO.ite | apply ChO.G | apply ChO.both | (apply ChO.bind; intro _)
theorem slices_IndexFunc_L2_cn  (s : (List (List Int))) (c : (Int × Int × (List (List Int)) × (List Int) × Unit)) : Cn (slices_IndexFunc_L2_F s c) := fun g h hg x => slices_IndexFunc_L2_B_ch  (fun κ t => g κ t) (fun t => h t) (fun t => hg t) s c x
theorem slices_IndexFunc_L2_eq  (s : (List (List Int))) (c : (Int × Int × (List (List Int)) × (List Int) × Unit)) (t : Int) : slices_IndexFunc_L2 s c t = slices_IndexFunc_L2_B s c (slices_IndexFunc_L2 s c) t := LFix_eq (slices_IndexFunc_L2_cn s c) t

noncomputable def slices_ContainsFunc (s : (List (List Int))) (c : (Int × Int × (List (List Int)) × (List Int) × Unit)) : Option (Bool) :=
  (slices_IndexFunc s c).bind (fun y' =>
  some (decide ((0 : Int) ≤ y')))

noncomputable def det_Check_2 (q : Int) (t : Int) : Option (Bool) :=
  if (decide (q < (0 : Int))) = true then
  some true else
  some (decide (t ≤ q))

noncomputable def slices_IndexFunc_2_L2_B (s : (List Int)) (c : Int) (r2 : Int → Option (Int)) (t : Int) : Option (Int) :=
  if (decide (t < (s.length : Int))) = true then
  G (0 ≤ t ∧ t < (s.length : Int)) (
  (det_Check_2 (ix s t) c).bind (fun y' =>
  if y' = true then
  some t else
  G (fits (t + (1 : Int))) (
  r2 (t + (1 : Int))))) else
  some (-1 : Int)
noncomputable def slices_IndexFunc_2_L2_F (s : (List Int)) (c : Int) : (Int → Option (Int)) → Int → Option (Int) :=
  fun rec x => slices_IndexFunc_2_L2_B s c (fun t => rec t) x
noncomputable def slices_IndexFunc_2_L2 (s : (List Int)) (c : Int) (t : Int) : Option (Int) := LFix (slices_IndexFunc_2_L2_F s c ) t
noncomputable def slices_IndexFunc_2 (s : (List Int)) (c : Int) : Option (Int) :=
  slices_IndexFunc_2_L2 s c (0 : Int)
theorem slices_IndexFunc_2_L2_B_ch (r2 : Nat → Int → Option (Int)) (r2' : Int → Option (Int)) (h_r2 : ∀ a0, ChO (fun κ => r2 κ a0) (r2' a0)) (s : (List Int)) (c : Int) (t : Int) : ChO (fun κ => slices_IndexFunc_2_L2_B s c (r2 κ) t) (slices_IndexFunc_2_L2_B s c r2' t) := by
  unfold slices_IndexFunc_2_L2_B
  repeat' with_reducible first | exact ChO.const _ | exact h_r2 _ | apply ChO.ite | apply ChO.G | apply ChO.both | (apply ChO.bind; intro _)
theorem slices_IndexFunc_2_L2_cn  (s : (List Int)) (c : Int) : Cn (slices_IndexFunc_2_L2_F s c) := fun g h hg x => slices_IndexFunc_2_L2_B_ch  (fun κ t => g κ t) (fun t => h t) (fun t => hg t) s c x
theorem slices_IndexFunc_2_L2_eq  (s : (List Int)) (c : Int) (t : Int) : slices_IndexFunc_2_L2 s c t = slices_IndexFunc_2_L2_B s c (slices_IndexFunc_2_L2 s c) t := LFix_eq (slices_IndexFunc_2_L2_cn s c) t

noncomputable def slices_ContainsFunc_2 (s : (List Int)) (c : Int) : Option (Bool) :=
  (slices_IndexFunc_2 s c).bind (fun y' =>
  some (decide ((0 : Int) ≤ y')))

noncomputable def det_Check_3 (r : (List Int)) (c : Int) : Option (Bool × Int) :=
  (slices_ContainsFunc_2 r c).bind (fun y' =>
  some (y', c))

noncomputable def slices_IndexFunc_1_L2_B (s : (List (List Int))) (r2 : Int → Int → Option (Int × Int)) (t : Int) (l : Int) : Option (Int × Int) :=
  if (decide (t < (s.length : Int))) = true then
  G (0 ≤ t ∧ t < (s.length : Int)) (
  (det_Check_3 (ix s t) l).bind (fun y'_3 =>
  if y'_3.1 = true then
  some (t, y'_3.2) else
  G (fits (t + (1 : Int))) (
  r2 (t + (1 : Int)) y'_3.2))) else
  some ((-1 : Int), l)
noncomputable def slices_IndexFunc_1_L2_F (s : (List (List Int))) : (Int × Int → Option (Int × Int)) → Int × Int → Option (Int × Int) :=
  fun rec x => slices_IndexFunc_1_L2_B s (fun t l => rec (t, l)) x.1 x.2
noncomputable def slices_IndexFunc_1_L2 (s : (List (List Int))) (t : Int) (l : Int) : Option (Int × Int) := LFix (slices_IndexFunc_1_L2_F s ) (t, l)
noncomputable def slices_IndexFunc_1 (s : (List (List Int))) (c : Int) : Option (Int × Int) :=
  slices_IndexFunc_1_L2 s (0 : Int) c
theorem slices_IndexFunc_1_L2_B_ch (r2 : Nat → Int → Int → Option (Int × Int)) (r2' : Int → Int → Option (Int × Int)) (h_r2 : ∀ a0 a1, ChO (fun κ => r2 κ a0 a1) (r2' a0 a1)) (s : (List (List Int))) (t : Int) (l : Int) : ChO (fun κ => slices_IndexFunc_1_L2_B s (r2 κ) t l) (slices_IndexFunc_1_L2_B s r2' t l) := by
  unfold slices_IndexFunc_1_L2_B
  repeat' with_reducible first | exact ChO.const _ | exact h_r2 _ _ | apply ChO.ite | apply ChO.G | apply ChO.both | (apply ChO.bind; intro _)
theorem slices_IndexFunc_1_L2_cn  (s : (List (List Int))) : Cn (slices_IndexFunc_1_L2_F s) := fun g h hg x => slices_IndexFunc_1_L2_B_ch  (fun κ t l => g κ (t, l)) (fun t l => h (t, l)) (fun t l => hg (t, l)) s x.1 x.2
theorem slices_IndexFunc_1_L2_eq  (s : (List (List Int))) (t : Int) (l : Int) : slices_IndexFunc_1_L2 s t l = slices_IndexFunc_1_L2_B s (slices_IndexFunc_1_L2 s) t l := LFix_eq (slices_IndexFunc_1_L2_cn s) (t, l)

noncomputable def slices_ContainsFunc_1 (s : (List (List Int))) (c : Int) : Option (Bool × Int) :=
  (slices_IndexFunc_1 s c).bind (fun y'_3 =>
  some (decide ((0 : Int) ≤ y'_3.1), y'_3.2))

noncomputable def det_Check_4 (m : Int) : Option (Bool) :=
  if (decide (¬ m = (0 : Int))) = true then
  some (decide (¬ m = (1 : Int))) else
  some false

noncomputable def slices_IndexFunc_3_L2_B (s : (List Int)) (r2 : Int → Option (Int)) (t : Int) : Option (Int) :=
  if (decide (t < (s.length : Int))) = true then
  G (0 ≤ t ∧ t < (s.length : Int)) (
  (det_Check_4 (ix s t)).bind (fun y' =>
  if y' = true then
  some t else
  G (fits (t + (1 : Int))) (
  r2 (t + (1 : Int))))) else
  some (-1 : Int)
noncomputable def slices_IndexFunc_3_L2_F (s : (List Int)) : (Int → Option (Int)) → Int → Option (Int) :=
  fun rec x => slices_IndexFunc_3_L2_B s (fun t => rec t) x
noncomputable def slices_IndexFunc_3_L2 (s : (List Int)) (t : Int) : Option (Int) := LFix (slices_IndexFunc_3_L2_F s ) t
noncomputable def slices_IndexFunc_3 (s : (List Int)) : Option (Int) :=
  slices_IndexFunc_3_L2 s (0 : Int)
theorem slices_IndexFunc_3_L2_B_ch (r2 : Nat → Int → Option (Int)) (r2' : Int → Option (Int)) (h_r2 : ∀ a0, ChO (fun κ => r2 κ a0) (r2' a0)) (s : (List Int)) (t : Int) : ChO (fun κ => slices_IndexFunc_3_L2_B s (r2 κ) t) (slices_IndexFunc_3_L2_B s r2' t) := by
  unfold slices_IndexFunc_3_L2_B
  repeat' with_reducible first | exact ChO.const _ | exact h_r2 _ | apply ChO.ite | apply ChO.G | apply ChO.both | (apply ChO.bind; intro _)
theorem slices_IndexFunc_3_L2_cn  (s : (List Int)) : Cn (slices_IndexFunc_3_L2_F s) := fun g h hg x => slices_IndexFunc_3_L2_B_ch  (fun κ t => g κ t) (fun t => h t) (fun t => hg t) s x
theorem slices_IndexFunc_3_L2_eq  (s : (List Int)) (t : Int) : slices_IndexFunc_3_L2 s t = slices_IndexFunc_3_L2_B s (slices_IndexFunc_3_L2 s) t := LFix_eq (slices_IndexFunc_3_L2_cn s) t

noncomputable def slices_ContainsFunc_3 (s : (List Int)) : Option (Bool) :=
  (slices_IndexFunc_3 s).bind (fun y' =>
  some (decide ((0 : Int) ≤ y')))

noncomputable def det_Check (d : (Int × Int × (List (List Int)) × (List Int) × Unit)) : Option (Int) :=
  if (decide (d.1 < (1 : Int))) = true then
  some (2 : Int) else
  if (decide ((4 : Int) < d.1)) = true then
  some (2 : Int) else
  if (decide ((d.2.2.1.length : Int) < (1 : Int))) = true then
  some (1 : Int) else
  if (decide ((3000 : Int) < (d.2.2.1.length : Int))) = true then
  some (1 : Int) else
  if (decide (¬ (d.2.2.2.1.length : Int) = (d.2.2.1.length : Int))) = true then
  some (3 : Int) else
  (slices_ContainsFunc d.2.2.1 (d.1, (d.2.1, (d.2.2.1, (d.2.2.2.1, ()))))).bind (fun y' =>
  if y' = true then
  some (3 : Int) else
  (det_Check_2 d.2.1 (d.2.2.1.length : Int)).bind (fun y'_1 =>
  if y'_1 = true then
  some (2 : Int) else
  (slices_ContainsFunc_1 d.2.2.1 (d.2.2.1.length : Int)).bind (fun y'_6 =>
  if y'_6.1 = true then
  some (2 : Int) else
  (slices_ContainsFunc_3 d.2.2.2.1).bind (fun y'_5 =>
  if y'_5 = true then
  some (2 : Int) else
  some (0 : Int)))))

noncomputable def higman_small (d : (Int × Int × (List (List Int)) × (List Int) × Unit)) : Option (Int) :=
  (det_Check (d.1, (d.2.1, (d.2.2.1, (d.2.2.2.1, ()))))).bind (fun y' =>
  if (decide (¬ y' = (0 : Int))) = true then
  some y' else
  if (decide ((5 : Int) < (d.2.2.1.length : Int))) = true then
  some (1 : Int) else
  some (0 : Int))

noncomputable def higman_Up_1 (set' : Int) (next' : Int) : Option (Int) :=
  some (ior .i64 set' next')

noncomputable def higman_sets_1_L3_B (set' : Int) (letter : Int) (t : (Int × Int × (List (List Int)) × (List Int) × Unit)) (r3 : Int → Int → Option (Int)) (next' : Int) (t_1 : Int) : Option (Int) :=
  if (decide (t_1 < (t.2.2.1.length : Int))) = true then
  G (0 ≤ t_1 ∧ t_1 < (t.2.2.1.length : Int)) (
  G (0 ≤ t_1) (
  if (decide ((iand .i64 (ishr .i64 set' t_1) (1 : Int)) = (1 : Int))) = true then
  G (0 ≤ letter ∧ letter < ((ix t.2.2.1 t_1).length : Int)) (
  G (0 ≤ ix (ix t.2.2.1 t_1) letter) (
  G (fits (t_1 + (1 : Int))) (
  r3 (ior .i64 next' (ishl .i64 (1 : Int) (ix (ix t.2.2.1 t_1) letter))) (t_1 + (1 : Int))))) else
  G (fits (t_1 + (1 : Int))) (
  r3 next' (t_1 + (1 : Int))))) else
  (higman_Up_1 set' next').bind (fun y' =>
  some y')
noncomputable def higman_sets_1_L3_F (set' : Int) (letter : Int) (t : (Int × Int × (List (List Int)) × (List Int) × Unit)) : (Int × Int → Option (Int)) → Int × Int → Option (Int) :=
  fun rec x => higman_sets_1_L3_B set' letter t (fun next' t_1 => rec (next', t_1)) x.1 x.2
noncomputable def higman_sets_1_L3 (set' : Int) (letter : Int) (t : (Int × Int × (List (List Int)) × (List Int) × Unit)) (next' : Int) (t_1 : Int) : Option (Int) := LFix (higman_sets_1_L3_F set' letter t ) (next', t_1)
noncomputable def higman_sets_1 (set' : Int) (letter : Int) (t : (Int × Int × (List (List Int)) × (List Int) × Unit)) : Option (Int) :=
  higman_sets_1_L3 set' letter t (0 : Int) (0 : Int)
theorem higman_sets_1_L3_B_ch (r3 : Nat → Int → Int → Option (Int)) (r3' : Int → Int → Option (Int)) (h_r3 : ∀ a0 a1, ChO (fun κ => r3 κ a0 a1) (r3' a0 a1)) (set' : Int) (letter : Int) (t : (Int × Int × (List (List Int)) × (List Int) × Unit)) (next' : Int) (t_1 : Int) : ChO (fun κ => higman_sets_1_L3_B set' letter t (r3 κ) next' t_1) (higman_sets_1_L3_B set' letter t r3' next' t_1) := by
  unfold higman_sets_1_L3_B
  repeat' with_reducible first | exact ChO.const _ | exact h_r3 _ _ | apply ChO.ite | apply ChO.G | apply ChO.both | (apply ChO.bind; intro _)
theorem higman_sets_1_L3_cn  (set' : Int) (letter : Int) (t : (Int × Int × (List (List Int)) × (List Int) × Unit)) : Cn (higman_sets_1_L3_F set' letter t) := fun g h hg x => higman_sets_1_L3_B_ch  (fun κ next' t_1 => g κ (next', t_1)) (fun next' t_1 => h (next', t_1)) (fun next' t_1 => hg (next', t_1)) set' letter t x.1 x.2
theorem higman_sets_1_L3_eq  (set' : Int) (letter : Int) (t : (Int × Int × (List (List Int)) × (List Int) × Unit)) (next' : Int) (t_1 : Int) : higman_sets_1_L3 set' letter t next' t_1 = higman_sets_1_L3_B set' letter t (higman_sets_1_L3 set' letter t) next' t_1 := LFix_eq (higman_sets_1_L3_cn set' letter t) (next', t_1)

noncomputable def higman_sets_2 (set' : Int) (t : Int) : Option (Int) :=
  if (decide (¬ (iand .i64 set' t) = (0 : Int))) = true then
  some (1 : Int) else
  some (0 : Int)

noncomputable def det_Explore_J17 (next'_1 : (Int × Int × (List (List Int)) × (List Int) × Unit)) (t : Int) (row : (List Int)) (r8 : ((Int × Int × (List (List Int)) × (List Int) × Unit) → Int → (List Int) → (List Int) → (List Int) → (List Int) → Option ((Int × Int × (List (List Int)) × (List Int) × Unit) × Bool))) (n : Int) (number_4 : (List Int)) (number_5 : (List Int)) (l_2 : (List Int)) : Option ((Int × Int × (List (List Int)) × (List Int) × Unit) × Bool) :=
  G (0 ≤ t ∧ t < (row.length : Int)) (
  G ((t).toNat < row.length) (
  G (fits (t + (1 : Int))) (
  r8 next'_1 (t + (1 : Int)) number_4 number_5 l_2 (row.set (t).toNat n))))
noncomputable def det_Explore_L8_B (letters : Int) (c_1 : Int) (most : Int) (d : Int) (d_1 : Int) (l : (List Int)) (d_2 : (List (List Int))) (d_3 : (List Int)) (r4 : ((Int × Int × (List (List Int)) × (List Int) × Unit) → Int → Int → (List Int) → (List Int) → (List Int) → (List (List Int)) → (List Int) → Option ((Int × Int × (List (List Int)) × (List Int) × Unit) × Bool))) (r8 : (Int × Int × (List (List Int)) × (List Int) × Unit) → Int → (List Int) → (List Int) → (List Int) → (List Int) → Option ((Int × Int × (List (List Int)) × (List Int) × Unit) × Bool)) (next'_1 : (Int × Int × (List (List Int)) × (List Int) × Unit)) (t : Int) (number_2 : (List Int)) (number_3 : (List Int)) (l_1 : (List Int)) (row : (List Int)) : Option ((Int × Int × (List (List Int)) × (List Int) × Unit) × Bool) :=
  if (decide (t < letters)) = true then
  (higman_sets_1 (ix l (d_2.length : Int)) t next'_1).bind (fun y' =>
  if (!(mhas number_2 y')) = true then
  if (decide ((l_1.length : Int) = most)) = true then
  some (((0 : Int), ((0 : Int), ([], ([], ())))), false) else
  G (room l_1 ([y']) 8) (
  det_Explore_J17 next'_1 t row r8 (l_1.length : Int) (mputK number_2 y') (mputV number_2 number_3 y' (l_1.length : Int)) (l_1 ++ ([y']))) else
  det_Explore_J17 next'_1 t row r8 (mget number_2 number_3 y' (0 : Int)) number_2 number_3 l_1) else
  G (room d_2 ([row]) 24) (
  (higman_sets_2 (ix l (d_2.length : Int)) c_1).bind (fun y'_1 =>
  G (room d_3 ([y'_1]) 8) (
  r4 next'_1 d d_1 number_2 number_3 l_1 (d_2 ++ ([row])) (d_3 ++ ([y'_1])))))
noncomputable def det_Explore_L8_F (letters : Int) (c_1 : Int) (most : Int) (d : Int) (d_1 : Int) (l : (List Int)) (d_2 : (List (List Int))) (d_3 : (List Int)) (r4 : ((Int × Int × (List (List Int)) × (List Int) × Unit) → Int → Int → (List Int) → (List Int) → (List Int) → (List (List Int)) → (List Int) → Option ((Int × Int × (List (List Int)) × (List Int) × Unit) × Bool))) : ((Int × Int × (List (List Int)) × (List Int) × Unit) × Int × (List Int) × (List Int) × (List Int) × (List Int) → Option ((Int × Int × (List (List Int)) × (List Int) × Unit) × Bool)) → (Int × Int × (List (List Int)) × (List Int) × Unit) × Int × (List Int) × (List Int) × (List Int) × (List Int) → Option ((Int × Int × (List (List Int)) × (List Int) × Unit) × Bool) :=
  fun rec x => det_Explore_L8_B letters c_1 most d d_1 l d_2 d_3 r4 (fun next'_1 t number_2 number_3 l_1 row => rec (next'_1, t, number_2, number_3, l_1, row)) x.1 x.2.1 x.2.2.1 x.2.2.2.1 x.2.2.2.2.1 x.2.2.2.2.2
noncomputable def det_Explore_L8 (letters : Int) (c_1 : Int) (most : Int) (d : Int) (d_1 : Int) (l : (List Int)) (d_2 : (List (List Int))) (d_3 : (List Int)) (r4 : ((Int × Int × (List (List Int)) × (List Int) × Unit) → Int → Int → (List Int) → (List Int) → (List Int) → (List (List Int)) → (List Int) → Option ((Int × Int × (List (List Int)) × (List Int) × Unit) × Bool))) (next'_1 : (Int × Int × (List (List Int)) × (List Int) × Unit)) (t : Int) (number_2 : (List Int)) (number_3 : (List Int)) (l_1 : (List Int)) (row : (List Int)) : Option ((Int × Int × (List (List Int)) × (List Int) × Unit) × Bool) := LFix (det_Explore_L8_F letters c_1 most d d_1 l d_2 d_3 r4 ) (next'_1, t, number_2, number_3, l_1, row)
noncomputable def det_Explore_L4_B (letters : Int) (c_1 : Int) (most : Int) (r4 : (Int × Int × (List (List Int)) × (List Int) × Unit) → Int → Int → (List Int) → (List Int) → (List Int) → (List (List Int)) → (List Int) → Option ((Int × Int × (List (List Int)) × (List Int) × Unit) × Bool)) (next' : (Int × Int × (List (List Int)) × (List Int) × Unit)) (d : Int) (d_1 : Int) (number : (List Int)) (number_1 : (List Int)) (l : (List Int)) (d_2 : (List (List Int))) (d_3 : (List Int)) : Option ((Int × Int × (List (List Int)) × (List Int) × Unit) × Bool) :=
  if (decide ((d_2.length : Int) < (l.length : Int))) = true then
  G (0 ≤ (d_2.length : Int) ∧ (d_2.length : Int) < (l.length : Int)) (
  G (((d_2.length : Int)).toNat < l.length) (
  G (mkOK letters letters 8) (
  det_Explore_L8 letters c_1 most d d_1 l d_2 d_3 r4 next' (0 : Int) number number_1 l (List.replicate (letters).toNat (0 : Int))))) else
  some ((d, (d_1, (d_2, (d_3, ())))), true)
noncomputable def det_Explore_L4_F (letters : Int) (c_1 : Int) (most : Int) : ((Int × Int × (List (List Int)) × (List Int) × Unit) × Int × Int × (List Int) × (List Int) × (List Int) × (List (List Int)) × (List Int) → Option ((Int × Int × (List (List Int)) × (List Int) × Unit) × Bool)) → (Int × Int × (List (List Int)) × (List Int) × Unit) × Int × Int × (List Int) × (List Int) × (List Int) × (List (List Int)) × (List Int) → Option ((Int × Int × (List (List Int)) × (List Int) × Unit) × Bool) :=
  fun rec x => det_Explore_L4_B letters c_1 most (fun next' d d_1 number number_1 l d_2 d_3 => rec (next', d, d_1, number, number_1, l, d_2, d_3)) x.1 x.2.1 x.2.2.1 x.2.2.2.1 x.2.2.2.2.1 x.2.2.2.2.2.1 x.2.2.2.2.2.2.1 x.2.2.2.2.2.2.2
noncomputable def det_Explore_L4 (letters : Int) (c_1 : Int) (most : Int) (next' : (Int × Int × (List (List Int)) × (List Int) × Unit)) (d : Int) (d_1 : Int) (number : (List Int)) (number_1 : (List Int)) (l : (List Int)) (d_2 : (List (List Int))) (d_3 : (List Int)) : Option ((Int × Int × (List (List Int)) × (List Int) × Unit) × Bool) := LFix (det_Explore_L4_F letters c_1 most ) (next', d, d_1, number, number_1, l, d_2, d_3)
noncomputable def det_Explore (letters : Int) (first : Int) (c : (Int × Int × (List (List Int)) × (List Int) × Unit)) (c_1 : Int) (most : Int) : Option ((Int × Int × (List (List Int)) × (List Int) × Unit) × Bool) :=
  det_Explore_L4 letters c_1 most c letters (0 : Int) (mputK ([] : List Int) first) (mputV ([] : List Int) ([] : List Int) first (0 : Int)) ([first]) ([] : List (List Int)) ([] : List Int)
theorem det_Explore_J17_ch (r8 : Nat → (Int × Int × (List (List Int)) × (List Int) × Unit) → Int → (List Int) → (List Int) → (List Int) → (List Int) → Option ((Int × Int × (List (List Int)) × (List Int) × Unit) × Bool)) (r8' : (Int × Int × (List (List Int)) × (List Int) × Unit) → Int → (List Int) → (List Int) → (List Int) → (List Int) → Option ((Int × Int × (List (List Int)) × (List Int) × Unit) × Bool)) (h_r8 : ∀ a0 a1 a2 a3 a4 a5, ChO (fun κ => r8 κ a0 a1 a2 a3 a4 a5) (r8' a0 a1 a2 a3 a4 a5)) (next'_1 : (Int × Int × (List (List Int)) × (List Int) × Unit)) (t : Int) (row : (List Int)) (n : Int) (number_4 : (List Int)) (number_5 : (List Int)) (l_2 : (List Int)) : ChO (fun κ => det_Explore_J17 next'_1 t row (r8 κ) n number_4 number_5 l_2) (det_Explore_J17 next'_1 t row r8' n number_4 number_5 l_2) := by
  unfold det_Explore_J17
  repeat' with_reducible first | exact ChO.const _ | exact h_r8 _ _ _ _ _ _ | apply ChO.ite | apply ChO.G | apply ChO.both | (apply ChO.bind; intro _)
theorem det_Explore_L8_B_ch (r4 : Nat → (Int × Int × (List (List Int)) × (List Int) × Unit) → Int → Int → (List Int) → (List Int) → (List Int) → (List (List Int)) → (List Int) → Option ((Int × Int × (List (List Int)) × (List Int) × Unit) × Bool)) (r4' : (Int × Int × (List (List Int)) × (List Int) × Unit) → Int → Int → (List Int) → (List Int) → (List Int) → (List (List Int)) → (List Int) → Option ((Int × Int × (List (List Int)) × (List Int) × Unit) × Bool)) (h_r4 : ∀ a0 a1 a2 a3 a4 a5 a6 a7, ChO (fun κ => r4 κ a0 a1 a2 a3 a4 a5 a6 a7) (r4' a0 a1 a2 a3 a4 a5 a6 a7)) (r8 : Nat → (Int × Int × (List (List Int)) × (List Int) × Unit) → Int → (List Int) → (List Int) → (List Int) → (List Int) → Option ((Int × Int × (List (List Int)) × (List Int) × Unit) × Bool)) (r8' : (Int × Int × (List (List Int)) × (List Int) × Unit) → Int → (List Int) → (List Int) → (List Int) → (List Int) → Option ((Int × Int × (List (List Int)) × (List Int) × Unit) × Bool)) (h_r8 : ∀ a0 a1 a2 a3 a4 a5, ChO (fun κ => r8 κ a0 a1 a2 a3 a4 a5) (r8' a0 a1 a2 a3 a4 a5)) (letters : Int) (c_1 : Int) (most : Int) (d : Int) (d_1 : Int) (l : (List Int)) (d_2 : (List (List Int))) (d_3 : (List Int)) (next'_1 : (Int × Int × (List (List Int)) × (List Int) × Unit)) (t : Int) (number_2 : (List Int)) (number_3 : (List Int)) (l_1 : (List Int)) (row : (List Int)) : ChO (fun κ => det_Explore_L8_B letters c_1 most d d_1 l d_2 d_3 (r4 κ) (r8 κ) next'_1 t number_2 number_3 l_1 row) (det_Explore_L8_B letters c_1 most d d_1 l d_2 d_3 r4' r8' next'_1 t number_2 number_3 l_1 row) := by
  unfold det_Explore_L8_B
  repeat' with_reducible first | exact ChO.const _ | exact h_r4 _ _ _ _ _ _ _ _ | exact h_r8 _ _ _ _ _ _ | (apply det_Explore_J17_ch <;> assumption) | apply ChO.ite | apply ChO.G | apply ChO.both | (apply ChO.bind; intro _)
theorem det_Explore_L8_cn (r4 : (Int × Int × (List (List Int)) × (List Int) × Unit) → Int → Int → (List Int) → (List Int) → (List Int) → (List (List Int)) → (List Int) → Option ((Int × Int × (List (List Int)) × (List Int) × Unit) × Bool)) (letters : Int) (c_1 : Int) (most : Int) (d : Int) (d_1 : Int) (l : (List Int)) (d_2 : (List (List Int))) (d_3 : (List Int)) : Cn (det_Explore_L8_F letters c_1 most d d_1 l d_2 d_3 r4) := fun g h hg x => det_Explore_L8_B_ch (fun _ => r4) r4 (fun _ _ _ _ _ _ _ _ => ChO.const _) (fun κ next'_1 t number_2 number_3 l_1 row => g κ (next'_1, t, number_2, number_3, l_1, row)) (fun next'_1 t number_2 number_3 l_1 row => h (next'_1, t, number_2, number_3, l_1, row)) (fun next'_1 t number_2 number_3 l_1 row => hg (next'_1, t, number_2, number_3, l_1, row)) letters c_1 most d d_1 l d_2 d_3 x.1 x.2.1 x.2.2.1 x.2.2.2.1 x.2.2.2.2.1 x.2.2.2.2.2
theorem det_Explore_L8_eq (r4 : (Int × Int × (List (List Int)) × (List Int) × Unit) → Int → Int → (List Int) → (List Int) → (List Int) → (List (List Int)) → (List Int) → Option ((Int × Int × (List (List Int)) × (List Int) × Unit) × Bool)) (letters : Int) (c_1 : Int) (most : Int) (d : Int) (d_1 : Int) (l : (List Int)) (d_2 : (List (List Int))) (d_3 : (List Int)) (next'_1 : (Int × Int × (List (List Int)) × (List Int) × Unit)) (t : Int) (number_2 : (List Int)) (number_3 : (List Int)) (l_1 : (List Int)) (row : (List Int)) : det_Explore_L8 letters c_1 most d d_1 l d_2 d_3 r4 next'_1 t number_2 number_3 l_1 row = det_Explore_L8_B letters c_1 most d d_1 l d_2 d_3 r4 (det_Explore_L8 letters c_1 most d d_1 l d_2 d_3 r4) next'_1 t number_2 number_3 l_1 row := LFix_eq (det_Explore_L8_cn r4 letters c_1 most d d_1 l d_2 d_3) (next'_1, t, number_2, number_3, l_1, row)
theorem det_Explore_L8_ch (r4 : Nat → (Int × Int × (List (List Int)) × (List Int) × Unit) → Int → Int → (List Int) → (List Int) → (List Int) → (List (List Int)) → (List Int) → Option ((Int × Int × (List (List Int)) × (List Int) × Unit) × Bool)) (r4' : (Int × Int × (List (List Int)) × (List Int) × Unit) → Int → Int → (List Int) → (List Int) → (List Int) → (List (List Int)) → (List Int) → Option ((Int × Int × (List (List Int)) × (List Int) × Unit) × Bool)) (h_r4 : ∀ a0 a1 a2 a3 a4 a5 a6 a7, ChO (fun κ => r4 κ a0 a1 a2 a3 a4 a5 a6 a7) (r4' a0 a1 a2 a3 a4 a5 a6 a7)) (letters : Int) (c_1 : Int) (most : Int) (d : Int) (d_1 : Int) (l : (List Int)) (d_2 : (List (List Int))) (d_3 : (List Int)) (next'_1 : (Int × Int × (List (List Int)) × (List Int) × Unit)) (t : Int) (number_2 : (List Int)) (number_3 : (List Int)) (l_1 : (List Int)) (row : (List Int)) : ChO (fun κ => det_Explore_L8 letters c_1 most d d_1 l d_2 d_3 (r4 κ) next'_1 t number_2 number_3 l_1 row) (det_Explore_L8 letters c_1 most d d_1 l d_2 d_3 r4' next'_1 t number_2 number_3 l_1 row) := by
  unfold det_Explore_L8
  exact LFix_ch (fun κ => (det_Explore_L8_cn (r4 κ) letters c_1 most d d_1 l d_2 d_3).mono) (det_Explore_L8_cn r4' letters c_1 most d d_1 l d_2 d_3).mono (fun g h hg x => det_Explore_L8_B_ch r4 r4' h_r4 (fun κ next'_1 t number_2 number_3 l_1 row => g κ (next'_1, t, number_2, number_3, l_1, row)) (fun next'_1 t number_2 number_3 l_1 row => h (next'_1, t, number_2, number_3, l_1, row)) (fun next'_1 t number_2 number_3 l_1 row => hg (next'_1, t, number_2, number_3, l_1, row)) letters c_1 most d d_1 l d_2 d_3 x.1 x.2.1 x.2.2.1 x.2.2.2.1 x.2.2.2.2.1 x.2.2.2.2.2) _
theorem det_Explore_L4_B_ch (r4 : Nat → (Int × Int × (List (List Int)) × (List Int) × Unit) → Int → Int → (List Int) → (List Int) → (List Int) → (List (List Int)) → (List Int) → Option ((Int × Int × (List (List Int)) × (List Int) × Unit) × Bool)) (r4' : (Int × Int × (List (List Int)) × (List Int) × Unit) → Int → Int → (List Int) → (List Int) → (List Int) → (List (List Int)) → (List Int) → Option ((Int × Int × (List (List Int)) × (List Int) × Unit) × Bool)) (h_r4 : ∀ a0 a1 a2 a3 a4 a5 a6 a7, ChO (fun κ => r4 κ a0 a1 a2 a3 a4 a5 a6 a7) (r4' a0 a1 a2 a3 a4 a5 a6 a7)) (letters : Int) (c_1 : Int) (most : Int) (next' : (Int × Int × (List (List Int)) × (List Int) × Unit)) (d : Int) (d_1 : Int) (number : (List Int)) (number_1 : (List Int)) (l : (List Int)) (d_2 : (List (List Int))) (d_3 : (List Int)) : ChO (fun κ => det_Explore_L4_B letters c_1 most (r4 κ) next' d d_1 number number_1 l d_2 d_3) (det_Explore_L4_B letters c_1 most r4' next' d d_1 number number_1 l d_2 d_3) := by
  unfold det_Explore_L4_B
  repeat' with_reducible first | exact ChO.const _ | exact h_r4 _ _ _ _ _ _ _ _ | (apply det_Explore_J17_ch <;> assumption) | (apply det_Explore_L8_ch <;> assumption) | apply ChO.ite | apply ChO.G | apply ChO.both | (apply ChO.bind; intro _)
theorem det_Explore_L4_cn  (letters : Int) (c_1 : Int) (most : Int) : Cn (det_Explore_L4_F letters c_1 most) := fun g h hg x => det_Explore_L4_B_ch  (fun κ next' d d_1 number number_1 l d_2 d_3 => g κ (next', d, d_1, number, number_1, l, d_2, d_3)) (fun next' d d_1 number number_1 l d_2 d_3 => h (next', d, d_1, number, number_1, l, d_2, d_3)) (fun next' d d_1 number number_1 l d_2 d_3 => hg (next', d, d_1, number, number_1, l, d_2, d_3)) letters c_1 most x.1 x.2.1 x.2.2.1 x.2.2.2.1 x.2.2.2.2.1 x.2.2.2.2.2.1 x.2.2.2.2.2.2.1 x.2.2.2.2.2.2.2
theorem det_Explore_L4_eq  (letters : Int) (c_1 : Int) (most : Int) (next' : (Int × Int × (List (List Int)) × (List Int) × Unit)) (d : Int) (d_1 : Int) (number : (List Int)) (number_1 : (List Int)) (l : (List Int)) (d_2 : (List (List Int))) (d_3 : (List Int)) : det_Explore_L4 letters c_1 most next' d d_1 number number_1 l d_2 d_3 = det_Explore_L4_B letters c_1 most (det_Explore_L4 letters c_1 most) next' d d_1 number number_1 l d_2 d_3 := LFix_eq (det_Explore_L4_cn letters c_1 most) (next', d, d_1, number, number_1, l, d_2, d_3)

noncomputable def slices_Clone (s : (List Int)) : Option (List Int) :=
  if s.length = 0 then both [(.list (.int .i64))] (
  some ([])) (
  G (room ([] : List Int) s 8) (
  some (([] : List Int) ++ s))) else
  G (room ([] : List Int) s 8) (
  some (([] : List Int) ++ s))

noncomputable def det_Classes_J17 (class' : (List Int)) (t : Int) (next' : (List Int)) (r6 : (Int → (List (Int × (List UInt8) × Unit)) → (List Int) → (List Int) → Option (List Int))) (b : (List Int)) (number_2 : (List (Int × (List UInt8) × Unit))) (number_3 : (List Int)) : Option (List Int) :=
  G (0 ≤ t ∧ t < (next'.length : Int)) (
  G ((t).toNat < next'.length) (
  G (fits (t + (1 : Int))) (
  r6 (t + (1 : Int)) number_2 number_3 (next'.set (t).toNat (mget number_2 number_3 (ix class' t, (bstr b, ())) (0 : Int))))))
noncomputable def det_Classes_L10_B (d : (Int × Int × (List (List Int)) × (List Int) × Unit)) (class' : (List Int)) (t : Int) (number : (List (Int × (List UInt8) × Unit))) (number_1 : (List Int)) (next' : (List Int)) (r6 : (Int → (List (Int × (List UInt8) × Unit)) → (List Int) → (List Int) → Option (List Int))) (r10 : Int → (List Int) → Option (List Int)) (t_1 : Int) (b : (List Int)) : Option (List Int) :=
  if (decide (t_1 < ((ix d.2.2.1 t).length : Int))) = true then
  G (0 ≤ t_1 ∧ t_1 < ((ix d.2.2.1 t).length : Int)) (
  G (0 ≤ ix (ix d.2.2.1 t) t_1 ∧ ix (ix d.2.2.1 t) t_1 < (class'.length : Int)) (
  G ((ix (ix d.2.2.1 t) t_1).toNat < class'.length) (
  G (0 ≤ ix (ix d.2.2.1 t) t_1 ∧ ix (ix d.2.2.1 t) t_1 < (class'.length : Int)) (
  G ((ix (ix d.2.2.1 t) t_1).toNat < class'.length) (
  G (0 ≤ (8 : Int)) (
  G (room b ([IntKind.wrap .u8 (ix class' (ix (ix d.2.2.1 t) t_1)), IntKind.wrap .u8 (ishr .i64 (ix class' (ix (ix d.2.2.1 t) t_1)) (8 : Int))]) 1) (
  G (fits (t_1 + (1 : Int))) (
  r10 (t_1 + (1 : Int)) (b ++ ([IntKind.wrap .u8 (ix class' (ix (ix d.2.2.1 t) t_1)), IntKind.wrap .u8 (ishr .i64 (ix class' (ix (ix d.2.2.1 t) t_1)) (8 : Int))])))))))))) else
  G (0 ≤ t ∧ t < (class'.length : Int)) (
  G ((t).toNat < class'.length) (
  if (!(mhas number (ix class' t, (bstr b, ())))) = true then
  det_Classes_J17 class' t next' r6 b (mputK number (ix class' t, (bstr b, ()))) (mputV number number_1 (ix class' t, (bstr b, ())) (number.length : Int)) else
  det_Classes_J17 class' t next' r6 b number number_1))
noncomputable def det_Classes_L10_F (d : (Int × Int × (List (List Int)) × (List Int) × Unit)) (class' : (List Int)) (t : Int) (number : (List (Int × (List UInt8) × Unit))) (number_1 : (List Int)) (next' : (List Int)) (r6 : (Int → (List (Int × (List UInt8) × Unit)) → (List Int) → (List Int) → Option (List Int))) : (Int × (List Int) → Option (List Int)) → Int × (List Int) → Option (List Int) :=
  fun rec x => det_Classes_L10_B d class' t number number_1 next' r6 (fun t_1 b => rec (t_1, b)) x.1 x.2
noncomputable def det_Classes_L10 (d : (Int × Int × (List (List Int)) × (List Int) × Unit)) (class' : (List Int)) (t : Int) (number : (List (Int × (List UInt8) × Unit))) (number_1 : (List Int)) (next' : (List Int)) (r6 : (Int → (List (Int × (List UInt8) × Unit)) → (List Int) → (List Int) → Option (List Int))) (t_1 : Int) (b : (List Int)) : Option (List Int) := LFix (det_Classes_L10_F d class' t number number_1 next' r6 ) (t_1, b)
noncomputable def det_Classes_L6_B (d : (Int × Int × (List (List Int)) × (List Int) × Unit)) (count : Int) (class' : (List Int)) (r3 : (Int → (List Int) → Option (List Int))) (r6 : Int → (List (Int × (List UInt8) × Unit)) → (List Int) → (List Int) → Option (List Int)) (t : Int) (number : (List (Int × (List UInt8) × Unit))) (number_1 : (List Int)) (next' : (List Int)) : Option (List Int) :=
  if (decide (t < (d.2.2.1.length : Int))) = true then
  G (0 ≤ t ∧ t < (d.2.2.1.length : Int)) (
  det_Classes_L10 d class' t number number_1 next' r6 (0 : Int) ([])) else
  if (decide ((number.length : Int) = count)) = true then
  some next' else
  r3 (number.length : Int) next'
noncomputable def det_Classes_L6_F (d : (Int × Int × (List (List Int)) × (List Int) × Unit)) (count : Int) (class' : (List Int)) (r3 : (Int → (List Int) → Option (List Int))) : (Int × (List (Int × (List UInt8) × Unit)) × (List Int) × (List Int) → Option (List Int)) → Int × (List (Int × (List UInt8) × Unit)) × (List Int) × (List Int) → Option (List Int) :=
  fun rec x => det_Classes_L6_B d count class' r3 (fun t number number_1 next' => rec (t, number, number_1, next')) x.1 x.2.1 x.2.2.1 x.2.2.2
noncomputable def det_Classes_L6 (d : (Int × Int × (List (List Int)) × (List Int) × Unit)) (count : Int) (class' : (List Int)) (r3 : (Int → (List Int) → Option (List Int))) (t : Int) (number : (List (Int × (List UInt8) × Unit))) (number_1 : (List Int)) (next' : (List Int)) : Option (List Int) := LFix (det_Classes_L6_F d count class' r3 ) (t, number, number_1, next')
noncomputable def det_Classes_L3_B (d : (Int × Int × (List (List Int)) × (List Int) × Unit)) (r3 : Int → (List Int) → Option (List Int)) (count : Int) (class' : (List Int)) : Option (List Int) :=
  G (mkOK (class'.length : Int) (class'.length : Int) 8) (
  det_Classes_L6 d count class' r3 (0 : Int) ([] : List (Int × (List UInt8) × Unit)) ([] : List Int) (List.replicate ((class'.length : Int)).toNat (0 : Int)))
noncomputable def det_Classes_L3_F (d : (Int × Int × (List (List Int)) × (List Int) × Unit)) : (Int × (List Int) → Option (List Int)) → Int × (List Int) → Option (List Int) :=
  fun rec x => det_Classes_L3_B d (fun count class' => rec (count, class')) x.1 x.2
noncomputable def det_Classes_L3 (d : (Int × Int × (List (List Int)) × (List Int) × Unit)) (count : Int) (class' : (List Int)) : Option (List Int) := LFix (det_Classes_L3_F d ) (count, class')
noncomputable def det_Classes (d : (Int × Int × (List (List Int)) × (List Int) × Unit)) : Option (List Int) :=
  (slices_Clone d.2.2.2.1).bind (fun y' =>
  det_Classes_L3 d (0 : Int) y')
theorem det_Classes_J17_ch (r6 : Nat → Int → (List (Int × (List UInt8) × Unit)) → (List Int) → (List Int) → Option (List Int)) (r6' : Int → (List (Int × (List UInt8) × Unit)) → (List Int) → (List Int) → Option (List Int)) (h_r6 : ∀ a0 a1 a2 a3, ChO (fun κ => r6 κ a0 a1 a2 a3) (r6' a0 a1 a2 a3)) (class' : (List Int)) (t : Int) (next' : (List Int)) (b : (List Int)) (number_2 : (List (Int × (List UInt8) × Unit))) (number_3 : (List Int)) : ChO (fun κ => det_Classes_J17 class' t next' (r6 κ) b number_2 number_3) (det_Classes_J17 class' t next' r6' b number_2 number_3) := by
  unfold det_Classes_J17
  repeat' with_reducible first | exact ChO.const _ | exact h_r6 _ _ _ _ | apply ChO.ite | apply ChO.G | apply ChO.both | (apply ChO.bind; intro _)
theorem det_Classes_L10_B_ch (r6 : Nat → Int → (List (Int × (List UInt8) × Unit)) → (List Int) → (List Int) → Option (List Int)) (r6' : Int → (List (Int × (List UInt8) × Unit)) → (List Int) → (List Int) → Option (List Int)) (h_r6 : ∀ a0 a1 a2 a3, ChO (fun κ => r6 κ a0 a1 a2 a3) (r6' a0 a1 a2 a3)) (r10 : Nat → Int → (List Int) → Option (List Int)) (r10' : Int → (List Int) → Option (List Int)) (h_r10 : ∀ a0 a1, ChO (fun κ => r10 κ a0 a1) (r10' a0 a1)) (d : (Int × Int × (List (List Int)) × (List Int) × Unit)) (class' : (List Int)) (t : Int) (number : (List (Int × (List UInt8) × Unit))) (number_1 : (List Int)) (next' : (List Int)) (t_1 : Int) (b : (List Int)) : ChO (fun κ => det_Classes_L10_B d class' t number number_1 next' (r6 κ) (r10 κ) t_1 b) (det_Classes_L10_B d class' t number number_1 next' r6' r10' t_1 b) := by
  unfold det_Classes_L10_B
  repeat' with_reducible first | exact ChO.const _ | exact h_r6 _ _ _ _ | exact h_r10 _ _ | (apply det_Classes_J17_ch <;> assumption) | apply ChO.ite | apply ChO.G | apply ChO.both | (apply ChO.bind; intro _)
theorem det_Classes_L10_cn (r6 : Int → (List (Int × (List UInt8) × Unit)) → (List Int) → (List Int) → Option (List Int)) (d : (Int × Int × (List (List Int)) × (List Int) × Unit)) (class' : (List Int)) (t : Int) (number : (List (Int × (List UInt8) × Unit))) (number_1 : (List Int)) (next' : (List Int)) : Cn (det_Classes_L10_F d class' t number number_1 next' r6) := fun g h hg x => det_Classes_L10_B_ch (fun _ => r6) r6 (fun _ _ _ _ => ChO.const _) (fun κ t_1 b => g κ (t_1, b)) (fun t_1 b => h (t_1, b)) (fun t_1 b => hg (t_1, b)) d class' t number number_1 next' x.1 x.2
theorem det_Classes_L10_eq (r6 : Int → (List (Int × (List UInt8) × Unit)) → (List Int) → (List Int) → Option (List Int)) (d : (Int × Int × (List (List Int)) × (List Int) × Unit)) (class' : (List Int)) (t : Int) (number : (List (Int × (List UInt8) × Unit))) (number_1 : (List Int)) (next' : (List Int)) (t_1 : Int) (b : (List Int)) : det_Classes_L10 d class' t number number_1 next' r6 t_1 b = det_Classes_L10_B d class' t number number_1 next' r6 (det_Classes_L10 d class' t number number_1 next' r6) t_1 b := LFix_eq (det_Classes_L10_cn r6 d class' t number number_1 next') (t_1, b)
theorem det_Classes_L10_ch (r6 : Nat → Int → (List (Int × (List UInt8) × Unit)) → (List Int) → (List Int) → Option (List Int)) (r6' : Int → (List (Int × (List UInt8) × Unit)) → (List Int) → (List Int) → Option (List Int)) (h_r6 : ∀ a0 a1 a2 a3, ChO (fun κ => r6 κ a0 a1 a2 a3) (r6' a0 a1 a2 a3)) (d : (Int × Int × (List (List Int)) × (List Int) × Unit)) (class' : (List Int)) (t : Int) (number : (List (Int × (List UInt8) × Unit))) (number_1 : (List Int)) (next' : (List Int)) (t_1 : Int) (b : (List Int)) : ChO (fun κ => det_Classes_L10 d class' t number number_1 next' (r6 κ) t_1 b) (det_Classes_L10 d class' t number number_1 next' r6' t_1 b) := by
  unfold det_Classes_L10
  exact LFix_ch (fun κ => (det_Classes_L10_cn (r6 κ) d class' t number number_1 next').mono) (det_Classes_L10_cn r6' d class' t number number_1 next').mono (fun g h hg x => det_Classes_L10_B_ch r6 r6' h_r6 (fun κ t_1 b => g κ (t_1, b)) (fun t_1 b => h (t_1, b)) (fun t_1 b => hg (t_1, b)) d class' t number number_1 next' x.1 x.2) _
theorem det_Classes_L6_B_ch (r3 : Nat → Int → (List Int) → Option (List Int)) (r3' : Int → (List Int) → Option (List Int)) (h_r3 : ∀ a0 a1, ChO (fun κ => r3 κ a0 a1) (r3' a0 a1)) (r6 : Nat → Int → (List (Int × (List UInt8) × Unit)) → (List Int) → (List Int) → Option (List Int)) (r6' : Int → (List (Int × (List UInt8) × Unit)) → (List Int) → (List Int) → Option (List Int)) (h_r6 : ∀ a0 a1 a2 a3, ChO (fun κ => r6 κ a0 a1 a2 a3) (r6' a0 a1 a2 a3)) (d : (Int × Int × (List (List Int)) × (List Int) × Unit)) (count : Int) (class' : (List Int)) (t : Int) (number : (List (Int × (List UInt8) × Unit))) (number_1 : (List Int)) (next' : (List Int)) : ChO (fun κ => det_Classes_L6_B d count class' (r3 κ) (r6 κ) t number number_1 next') (det_Classes_L6_B d count class' r3' r6' t number number_1 next') := by
  unfold det_Classes_L6_B
  repeat' with_reducible first | exact ChO.const _ | exact h_r3 _ _ | exact h_r6 _ _ _ _ | (apply det_Classes_J17_ch <;> assumption) | (apply det_Classes_L10_ch <;> assumption) | apply ChO.ite | apply ChO.G | apply ChO.both | (apply ChO.bind; intro _)
theorem det_Classes_L6_cn (r3 : Int → (List Int) → Option (List Int)) (d : (Int × Int × (List (List Int)) × (List Int) × Unit)) (count : Int) (class' : (List Int)) : Cn (det_Classes_L6_F d count class' r3) := fun g h hg x => det_Classes_L6_B_ch (fun _ => r3) r3 (fun _ _ => ChO.const _) (fun κ t number number_1 next' => g κ (t, number, number_1, next')) (fun t number number_1 next' => h (t, number, number_1, next')) (fun t number number_1 next' => hg (t, number, number_1, next')) d count class' x.1 x.2.1 x.2.2.1 x.2.2.2
theorem det_Classes_L6_eq (r3 : Int → (List Int) → Option (List Int)) (d : (Int × Int × (List (List Int)) × (List Int) × Unit)) (count : Int) (class' : (List Int)) (t : Int) (number : (List (Int × (List UInt8) × Unit))) (number_1 : (List Int)) (next' : (List Int)) : det_Classes_L6 d count class' r3 t number number_1 next' = det_Classes_L6_B d count class' r3 (det_Classes_L6 d count class' r3) t number number_1 next' := LFix_eq (det_Classes_L6_cn r3 d count class') (t, number, number_1, next')
theorem det_Classes_L6_ch (r3 : Nat → Int → (List Int) → Option (List Int)) (r3' : Int → (List Int) → Option (List Int)) (h_r3 : ∀ a0 a1, ChO (fun κ => r3 κ a0 a1) (r3' a0 a1)) (d : (Int × Int × (List (List Int)) × (List Int) × Unit)) (count : Int) (class' : (List Int)) (t : Int) (number : (List (Int × (List UInt8) × Unit))) (number_1 : (List Int)) (next' : (List Int)) : ChO (fun κ => det_Classes_L6 d count class' (r3 κ) t number number_1 next') (det_Classes_L6 d count class' r3' t number number_1 next') := by
  unfold det_Classes_L6
  exact LFix_ch (fun κ => (det_Classes_L6_cn (r3 κ) d count class').mono) (det_Classes_L6_cn r3' d count class').mono (fun g h hg x => det_Classes_L6_B_ch r3 r3' h_r3 (fun κ t number number_1 next' => g κ (t, number, number_1, next')) (fun t number number_1 next' => h (t, number, number_1, next')) (fun t number number_1 next' => hg (t, number, number_1, next')) d count class' x.1 x.2.1 x.2.2.1 x.2.2.2) _
theorem det_Classes_L3_B_ch (r3 : Nat → Int → (List Int) → Option (List Int)) (r3' : Int → (List Int) → Option (List Int)) (h_r3 : ∀ a0 a1, ChO (fun κ => r3 κ a0 a1) (r3' a0 a1)) (d : (Int × Int × (List (List Int)) × (List Int) × Unit)) (count : Int) (class' : (List Int)) : ChO (fun κ => det_Classes_L3_B d (r3 κ) count class') (det_Classes_L3_B d r3' count class') := by
  unfold det_Classes_L3_B
  repeat' with_reducible first | exact ChO.const _ | exact h_r3 _ _ | (apply det_Classes_J17_ch <;> assumption) | (apply det_Classes_L10_ch <;> assumption) | (apply det_Classes_L6_ch <;> assumption) | apply ChO.ite | apply ChO.G | apply ChO.both | (apply ChO.bind; intro _)
theorem det_Classes_L3_cn  (d : (Int × Int × (List (List Int)) × (List Int) × Unit)) : Cn (det_Classes_L3_F d) := fun g h hg x => det_Classes_L3_B_ch  (fun κ count class' => g κ (count, class')) (fun count class' => h (count, class')) (fun count class' => hg (count, class')) d x.1 x.2
theorem det_Classes_L3_eq  (d : (Int × Int × (List (List Int)) × (List Int) × Unit)) (count : Int) (class' : (List Int)) : det_Classes_L3 d count class' = det_Classes_L3_B d (det_Classes_L3 d) count class' := LFix_eq (det_Classes_L3_cn d) (count, class')

noncomputable def det_Smallest_1 (c : Int) (a : Int) (t : (List Int)) (t_1 : (Int × Int × (List (List Int)) × (List Int) × Unit)) (t_2 : (List Int)) : Option (Int) :=
  G (0 ≤ c ∧ c < (t_2.length : Int)) (
  G (0 ≤ ix t_2 c ∧ ix t_2 c < (t_1.2.2.1.length : Int)) (
  G (0 ≤ a ∧ a < ((ix t_1.2.2.1 (ix t_2 c)).length : Int)) (
  G (0 ≤ ix (ix t_1.2.2.1 (ix t_2 c)) a ∧ ix (ix t_1.2.2.1 (ix t_2 c)) a < (t.length : Int)) (
  some (ix t (ix (ix t_1.2.2.1 (ix t_2 c)) a))))))

noncomputable def det_Smallest_2 (c : Int) (t : (Int × Int × (List (List Int)) × (List Int) × Unit)) (t_1 : (List Int)) : Option (Int) :=
  G (0 ≤ c ∧ c < (t_1.length : Int)) (
  G (0 ≤ ix t_1 c ∧ ix t_1 c < (t.2.2.2.1.length : Int)) (
  some (ix t.2.2.2.1 (ix t_1 c))))

noncomputable def det_Explore_1_J17 (t : Int) (row : (List Int)) (r8 : (Int → (List Int) → (List Int) → (List Int) → (List Int) → Option ((Int × Int × (List (List Int)) × (List Int) × Unit) × Bool))) (n : Int) (number_4 : (List Int)) (number_5 : (List Int)) (l_2 : (List Int)) : Option ((Int × Int × (List (List Int)) × (List Int) × Unit) × Bool) :=
  G (0 ≤ t ∧ t < (row.length : Int)) (
  G ((t).toNat < row.length) (
  G (fits (t + (1 : Int))) (
  r8 (t + (1 : Int)) number_4 number_5 l_2 (row.set (t).toNat n))))
noncomputable def det_Explore_1_L8_B (letters : Int) (c : (List Int)) (c_1 : (Int × Int × (List (List Int)) × (List Int) × Unit)) (c_2 : (List Int)) (c_3 : (Int × Int × (List (List Int)) × (List Int) × Unit)) (c_4 : (List Int)) (most : Int) (d : Int) (d_1 : Int) (l : (List Int)) (d_2 : (List (List Int))) (d_3 : (List Int)) (r4 : (Int → Int → (List Int) → (List Int) → (List Int) → (List (List Int)) → (List Int) → Option ((Int × Int × (List (List Int)) × (List Int) × Unit) × Bool))) (r8 : Int → (List Int) → (List Int) → (List Int) → (List Int) → Option ((Int × Int × (List (List Int)) × (List Int) × Unit) × Bool)) (t : Int) (number_2 : (List Int)) (number_3 : (List Int)) (l_1 : (List Int)) (row : (List Int)) : Option ((Int × Int × (List (List Int)) × (List Int) × Unit) × Bool) :=
  if (decide (t < letters)) = true then
  (det_Smallest_1 (ix l (d_2.length : Int)) t c c_1 c_2).bind (fun y' =>
  if (!(mhas number_2 y')) = true then
  if (decide ((l_1.length : Int) = most)) = true then
  some (((0 : Int), ((0 : Int), ([], ([], ())))), false) else
  G (room l_1 ([y']) 8) (
  det_Explore_1_J17 t row r8 (l_1.length : Int) (mputK number_2 y') (mputV number_2 number_3 y' (l_1.length : Int)) (l_1 ++ ([y']))) else
  det_Explore_1_J17 t row r8 (mget number_2 number_3 y' (0 : Int)) number_2 number_3 l_1) else
  G (room d_2 ([row]) 24) (
  (det_Smallest_2 (ix l (d_2.length : Int)) c_3 c_4).bind (fun y'_1 =>
  G (room d_3 ([y'_1]) 8) (
  r4 d d_1 number_2 number_3 l_1 (d_2 ++ ([row])) (d_3 ++ ([y'_1])))))
noncomputable def det_Explore_1_L8_F (letters : Int) (c : (List Int)) (c_1 : (Int × Int × (List (List Int)) × (List Int) × Unit)) (c_2 : (List Int)) (c_3 : (Int × Int × (List (List Int)) × (List Int) × Unit)) (c_4 : (List Int)) (most : Int) (d : Int) (d_1 : Int) (l : (List Int)) (d_2 : (List (List Int))) (d_3 : (List Int)) (r4 : (Int → Int → (List Int) → (List Int) → (List Int) → (List (List Int)) → (List Int) → Option ((Int × Int × (List (List Int)) × (List Int) × Unit) × Bool))) : (Int × (List Int) × (List Int) × (List Int) × (List Int) → Option ((Int × Int × (List (List Int)) × (List Int) × Unit) × Bool)) → Int × (List Int) × (List Int) × (List Int) × (List Int) → Option ((Int × Int × (List (List Int)) × (List Int) × Unit) × Bool) :=
  fun rec x => det_Explore_1_L8_B letters c c_1 c_2 c_3 c_4 most d d_1 l d_2 d_3 r4 (fun t number_2 number_3 l_1 row => rec (t, number_2, number_3, l_1, row)) x.1 x.2.1 x.2.2.1 x.2.2.2.1 x.2.2.2.2
noncomputable def det_Explore_1_L8 (letters : Int) (c : (List Int)) (c_1 : (Int × Int × (List (List Int)) × (List Int) × Unit)) (c_2 : (List Int)) (c_3 : (Int × Int × (List (List Int)) × (List Int) × Unit)) (c_4 : (List Int)) (most : Int) (d : Int) (d_1 : Int) (l : (List Int)) (d_2 : (List (List Int))) (d_3 : (List Int)) (r4 : (Int → Int → (List Int) → (List Int) → (List Int) → (List (List Int)) → (List Int) → Option ((Int × Int × (List (List Int)) × (List Int) × Unit) × Bool))) (t : Int) (number_2 : (List Int)) (number_3 : (List Int)) (l_1 : (List Int)) (row : (List Int)) : Option ((Int × Int × (List (List Int)) × (List Int) × Unit) × Bool) := LFix (det_Explore_1_L8_F letters c c_1 c_2 c_3 c_4 most d d_1 l d_2 d_3 r4 ) (t, number_2, number_3, l_1, row)
noncomputable def det_Explore_1_L4_B (letters : Int) (c : (List Int)) (c_1 : (Int × Int × (List (List Int)) × (List Int) × Unit)) (c_2 : (List Int)) (c_3 : (Int × Int × (List (List Int)) × (List Int) × Unit)) (c_4 : (List Int)) (most : Int) (r4 : Int → Int → (List Int) → (List Int) → (List Int) → (List (List Int)) → (List Int) → Option ((Int × Int × (List (List Int)) × (List Int) × Unit) × Bool)) (d : Int) (d_1 : Int) (number : (List Int)) (number_1 : (List Int)) (l : (List Int)) (d_2 : (List (List Int))) (d_3 : (List Int)) : Option ((Int × Int × (List (List Int)) × (List Int) × Unit) × Bool) :=
  if (decide ((d_2.length : Int) < (l.length : Int))) = true then
  G (0 ≤ (d_2.length : Int) ∧ (d_2.length : Int) < (l.length : Int)) (
  G (((d_2.length : Int)).toNat < l.length) (
  G (mkOK letters letters 8) (
  det_Explore_1_L8 letters c c_1 c_2 c_3 c_4 most d d_1 l d_2 d_3 r4 (0 : Int) number number_1 l (List.replicate (letters).toNat (0 : Int))))) else
  some ((d, (d_1, (d_2, (d_3, ())))), true)
noncomputable def det_Explore_1_L4_F (letters : Int) (c : (List Int)) (c_1 : (Int × Int × (List (List Int)) × (List Int) × Unit)) (c_2 : (List Int)) (c_3 : (Int × Int × (List (List Int)) × (List Int) × Unit)) (c_4 : (List Int)) (most : Int) : (Int × Int × (List Int) × (List Int) × (List Int) × (List (List Int)) × (List Int) → Option ((Int × Int × (List (List Int)) × (List Int) × Unit) × Bool)) → Int × Int × (List Int) × (List Int) × (List Int) × (List (List Int)) × (List Int) → Option ((Int × Int × (List (List Int)) × (List Int) × Unit) × Bool) :=
  fun rec x => det_Explore_1_L4_B letters c c_1 c_2 c_3 c_4 most (fun d d_1 number number_1 l d_2 d_3 => rec (d, d_1, number, number_1, l, d_2, d_3)) x.1 x.2.1 x.2.2.1 x.2.2.2.1 x.2.2.2.2.1 x.2.2.2.2.2.1 x.2.2.2.2.2.2
noncomputable def det_Explore_1_L4 (letters : Int) (c : (List Int)) (c_1 : (Int × Int × (List (List Int)) × (List Int) × Unit)) (c_2 : (List Int)) (c_3 : (Int × Int × (List (List Int)) × (List Int) × Unit)) (c_4 : (List Int)) (most : Int) (d : Int) (d_1 : Int) (number : (List Int)) (number_1 : (List Int)) (l : (List Int)) (d_2 : (List (List Int))) (d_3 : (List Int)) : Option ((Int × Int × (List (List Int)) × (List Int) × Unit) × Bool) := LFix (det_Explore_1_L4_F letters c c_1 c_2 c_3 c_4 most ) (d, d_1, number, number_1, l, d_2, d_3)
noncomputable def det_Explore_1 (letters : Int) (first : Int) (c : (List Int)) (c_1 : (Int × Int × (List (List Int)) × (List Int) × Unit)) (c_2 : (List Int)) (c_3 : (Int × Int × (List (List Int)) × (List Int) × Unit)) (c_4 : (List Int)) (most : Int) : Option ((Int × Int × (List (List Int)) × (List Int) × Unit) × Bool) :=
  det_Explore_1_L4 letters c c_1 c_2 c_3 c_4 most letters (0 : Int) (mputK ([] : List Int) first) (mputV ([] : List Int) ([] : List Int) first (0 : Int)) ([first]) ([] : List (List Int)) ([] : List Int)
theorem det_Explore_1_J17_ch (r8 : Nat → Int → (List Int) → (List Int) → (List Int) → (List Int) → Option ((Int × Int × (List (List Int)) × (List Int) × Unit) × Bool)) (r8' : Int → (List Int) → (List Int) → (List Int) → (List Int) → Option ((Int × Int × (List (List Int)) × (List Int) × Unit) × Bool)) (h_r8 : ∀ a0 a1 a2 a3 a4, ChO (fun κ => r8 κ a0 a1 a2 a3 a4) (r8' a0 a1 a2 a3 a4)) (t : Int) (row : (List Int)) (n : Int) (number_4 : (List Int)) (number_5 : (List Int)) (l_2 : (List Int)) : ChO (fun κ => det_Explore_1_J17 t row (r8 κ) n number_4 number_5 l_2) (det_Explore_1_J17 t row r8' n number_4 number_5 l_2) := by
  unfold det_Explore_1_J17
  repeat' with_reducible first | exact ChO.const _ | exact h_r8 _ _ _ _ _ | apply ChO.ite | apply ChO.G | apply ChO.both | (apply ChO.bind; intro _)
theorem det_Explore_1_L8_B_ch (r4 : Nat → Int → Int → (List Int) → (List Int) → (List Int) → (List (List Int)) → (List Int) → Option ((Int × Int × (List (List Int)) × (List Int) × Unit) × Bool)) (r4' : Int → Int → (List Int) → (List Int) → (List Int) → (List (List Int)) → (List Int) → Option ((Int × Int × (List (List Int)) × (List Int) × Unit) × Bool)) (h_r4 : ∀ a0 a1 a2 a3 a4 a5 a6, ChO (fun κ => r4 κ a0 a1 a2 a3 a4 a5 a6) (r4' a0 a1 a2 a3 a4 a5 a6)) (r8 : Nat → Int → (List Int) → (List Int) → (List Int) → (List Int) → Option ((Int × Int × (List (List Int)) × (List Int) × Unit) × Bool)) (r8' : Int → (List Int) → (List Int) → (List Int) → (List Int) → Option ((Int × Int × (List (List Int)) × (List Int) × Unit) × Bool)) (h_r8 : ∀ a0 a1 a2 a3 a4, ChO (fun κ => r8 κ a0 a1 a2 a3 a4) (r8' a0 a1 a2 a3 a4)) (letters : Int) (c : (List Int)) (c_1 : (Int × Int × (List (List Int)) × (List Int) × Unit)) (c_2 : (List Int)) (c_3 : (Int × Int × (List (List Int)) × (List Int) × Unit)) (c_4 : (List Int)) (most : Int) (d : Int) (d_1 : Int) (l : (List Int)) (d_2 : (List (List Int))) (d_3 : (List Int)) (t : Int) (number_2 : (List Int)) (number_3 : (List Int)) (l_1 : (List Int)) (row : (List Int)) : ChO (fun κ => det_Explore_1_L8_B letters c c_1 c_2 c_3 c_4 most d d_1 l d_2 d_3 (r4 κ) (r8 κ) t number_2 number_3 l_1 row) (det_Explore_1_L8_B letters c c_1 c_2 c_3 c_4 most d d_1 l d_2 d_3 r4' r8' t number_2 number_3 l_1 row) := by
  unfold det_Explore_1_L8_B
  repeat' with_reducible first | exact ChO.const _ | exact h_r4 _ _ _ _ _ _ _ | exact h_r8 _ _ _ _ _ | (apply det_Explore_1_J17_ch <;> assumption) | apply ChO.ite | apply ChO.G | apply ChO.both | (apply ChO.bind; intro _)
theorem det_Explore_1_L8_cn (r4 : Int → Int → (List Int) → (List Int) → (List Int) → (List (List Int)) → (List Int) → Option ((Int × Int × (List (List Int)) × (List Int) × Unit) × Bool)) (letters : Int) (c : (List Int)) (c_1 : (Int × Int × (List (List Int)) × (List Int) × Unit)) (c_2 : (List Int)) (c_3 : (Int × Int × (List (List Int)) × (List Int) × Unit)) (c_4 : (List Int)) (most : Int) (d : Int) (d_1 : Int) (l : (List Int)) (d_2 : (List (List Int))) (d_3 : (List Int)) : Cn (det_Explore_1_L8_F letters c c_1 c_2 c_3 c_4 most d d_1 l d_2 d_3 r4) := fun g h hg x => det_Explore_1_L8_B_ch (fun _ => r4) r4 (fun _ _ _ _ _ _ _ => ChO.const _) (fun κ t number_2 number_3 l_1 row => g κ (t, number_2, number_3, l_1, row)) (fun t number_2 number_3 l_1 row => h (t, number_2, number_3, l_1, row)) (fun t number_2 number_3 l_1 row => hg (t, number_2, number_3, l_1, row)) letters c c_1 c_2 c_3 c_4 most d d_1 l d_2 d_3 x.1 x.2.1 x.2.2.1 x.2.2.2.1 x.2.2.2.2
theorem det_Explore_1_L8_eq (r4 : Int → Int → (List Int) → (List Int) → (List Int) → (List (List Int)) → (List Int) → Option ((Int × Int × (List (List Int)) × (List Int) × Unit) × Bool)) (letters : Int) (c : (List Int)) (c_1 : (Int × Int × (List (List Int)) × (List Int) × Unit)) (c_2 : (List Int)) (c_3 : (Int × Int × (List (List Int)) × (List Int) × Unit)) (c_4 : (List Int)) (most : Int) (d : Int) (d_1 : Int) (l : (List Int)) (d_2 : (List (List Int))) (d_3 : (List Int)) (t : Int) (number_2 : (List Int)) (number_3 : (List Int)) (l_1 : (List Int)) (row : (List Int)) : det_Explore_1_L8 letters c c_1 c_2 c_3 c_4 most d d_1 l d_2 d_3 r4 t number_2 number_3 l_1 row = det_Explore_1_L8_B letters c c_1 c_2 c_3 c_4 most d d_1 l d_2 d_3 r4 (det_Explore_1_L8 letters c c_1 c_2 c_3 c_4 most d d_1 l d_2 d_3 r4) t number_2 number_3 l_1 row := LFix_eq (det_Explore_1_L8_cn r4 letters c c_1 c_2 c_3 c_4 most d d_1 l d_2 d_3) (t, number_2, number_3, l_1, row)
theorem det_Explore_1_L8_ch (r4 : Nat → Int → Int → (List Int) → (List Int) → (List Int) → (List (List Int)) → (List Int) → Option ((Int × Int × (List (List Int)) × (List Int) × Unit) × Bool)) (r4' : Int → Int → (List Int) → (List Int) → (List Int) → (List (List Int)) → (List Int) → Option ((Int × Int × (List (List Int)) × (List Int) × Unit) × Bool)) (h_r4 : ∀ a0 a1 a2 a3 a4 a5 a6, ChO (fun κ => r4 κ a0 a1 a2 a3 a4 a5 a6) (r4' a0 a1 a2 a3 a4 a5 a6)) (letters : Int) (c : (List Int)) (c_1 : (Int × Int × (List (List Int)) × (List Int) × Unit)) (c_2 : (List Int)) (c_3 : (Int × Int × (List (List Int)) × (List Int) × Unit)) (c_4 : (List Int)) (most : Int) (d : Int) (d_1 : Int) (l : (List Int)) (d_2 : (List (List Int))) (d_3 : (List Int)) (t : Int) (number_2 : (List Int)) (number_3 : (List Int)) (l_1 : (List Int)) (row : (List Int)) : ChO (fun κ => det_Explore_1_L8 letters c c_1 c_2 c_3 c_4 most d d_1 l d_2 d_3 (r4 κ) t number_2 number_3 l_1 row) (det_Explore_1_L8 letters c c_1 c_2 c_3 c_4 most d d_1 l d_2 d_3 r4' t number_2 number_3 l_1 row) := by
  unfold det_Explore_1_L8
  exact LFix_ch (fun κ => (det_Explore_1_L8_cn (r4 κ) letters c c_1 c_2 c_3 c_4 most d d_1 l d_2 d_3).mono) (det_Explore_1_L8_cn r4' letters c c_1 c_2 c_3 c_4 most d d_1 l d_2 d_3).mono (fun g h hg x => det_Explore_1_L8_B_ch r4 r4' h_r4 (fun κ t number_2 number_3 l_1 row => g κ (t, number_2, number_3, l_1, row)) (fun t number_2 number_3 l_1 row => h (t, number_2, number_3, l_1, row)) (fun t number_2 number_3 l_1 row => hg (t, number_2, number_3, l_1, row)) letters c c_1 c_2 c_3 c_4 most d d_1 l d_2 d_3 x.1 x.2.1 x.2.2.1 x.2.2.2.1 x.2.2.2.2) _
theorem det_Explore_1_L4_B_ch (r4 : Nat → Int → Int → (List Int) → (List Int) → (List Int) → (List (List Int)) → (List Int) → Option ((Int × Int × (List (List Int)) × (List Int) × Unit) × Bool)) (r4' : Int → Int → (List Int) → (List Int) → (List Int) → (List (List Int)) → (List Int) → Option ((Int × Int × (List (List Int)) × (List Int) × Unit) × Bool)) (h_r4 : ∀ a0 a1 a2 a3 a4 a5 a6, ChO (fun κ => r4 κ a0 a1 a2 a3 a4 a5 a6) (r4' a0 a1 a2 a3 a4 a5 a6)) (letters : Int) (c : (List Int)) (c_1 : (Int × Int × (List (List Int)) × (List Int) × Unit)) (c_2 : (List Int)) (c_3 : (Int × Int × (List (List Int)) × (List Int) × Unit)) (c_4 : (List Int)) (most : Int) (d : Int) (d_1 : Int) (number : (List Int)) (number_1 : (List Int)) (l : (List Int)) (d_2 : (List (List Int))) (d_3 : (List Int)) : ChO (fun κ => det_Explore_1_L4_B letters c c_1 c_2 c_3 c_4 most (r4 κ) d d_1 number number_1 l d_2 d_3) (det_Explore_1_L4_B letters c c_1 c_2 c_3 c_4 most r4' d d_1 number number_1 l d_2 d_3) := by
  unfold det_Explore_1_L4_B
  repeat' with_reducible first | exact ChO.const _ | exact h_r4 _ _ _ _ _ _ _ | (apply det_Explore_1_J17_ch <;> assumption) | (apply det_Explore_1_L8_ch <;> assumption) | apply ChO.ite | apply ChO.G | apply ChO.both | (apply ChO.bind; intro _)
theorem det_Explore_1_L4_cn  (letters : Int) (c : (List Int)) (c_1 : (Int × Int × (List (List Int)) × (List Int) × Unit)) (c_2 : (List Int)) (c_3 : (Int × Int × (List (List Int)) × (List Int) × Unit)) (c_4 : (List Int)) (most : Int) : Cn (det_Explore_1_L4_F letters c c_1 c_2 c_3 c_4 most) := fun g h hg x => det_Explore_1_L4_B_ch  (fun κ d d_1 number number_1 l d_2 d_3 => g κ (d, d_1, number, number_1, l, d_2, d_3)) (fun d d_1 number number_1 l d_2 d_3 => h (d, d_1, number, number_1, l, d_2, d_3)) (fun d d_1 number number_1 l d_2 d_3 => hg (d, d_1, number, number_1, l, d_2, d_3)) letters c c_1 c_2 c_3 c_4 most x.1 x.2.1 x.2.2.1 x.2.2.2.1 x.2.2.2.2.1 x.2.2.2.2.2.1 x.2.2.2.2.2.2
theorem det_Explore_1_L4_eq  (letters : Int) (c : (List Int)) (c_1 : (Int × Int × (List (List Int)) × (List Int) × Unit)) (c_2 : (List Int)) (c_3 : (Int × Int × (List (List Int)) × (List Int) × Unit)) (c_4 : (List Int)) (most : Int) (d : Int) (d_1 : Int) (number : (List Int)) (number_1 : (List Int)) (l : (List Int)) (d_2 : (List (List Int))) (d_3 : (List Int)) : det_Explore_1_L4 letters c c_1 c_2 c_3 c_4 most d d_1 number number_1 l d_2 d_3 = det_Explore_1_L4_B letters c c_1 c_2 c_3 c_4 most (det_Explore_1_L4 letters c c_1 c_2 c_3 c_4 most) d d_1 number number_1 l d_2 d_3 := LFix_eq (det_Explore_1_L4_cn letters c c_1 c_2 c_3 c_4 most) (d, d_1, number, number_1, l, d_2, d_3)

noncomputable def det_Smallest_J8 (out : Int) (out_1 : Int) (out_2 : (List (List Int))) (out_3 : (List Int)) : Option (Int × Int × (List (List Int)) × (List Int) × Unit) :=
  some (out, (out_1, (out_2, (out_3, ()))))
noncomputable def det_Smallest_L4_B (d : (Int × Int × (List (List Int)) × (List Int) × Unit)) (y' : (List Int)) (r4 : Int → (List Int) → Option (Int × Int × (List (List Int)) × (List Int) × Unit)) (t : Int) (l : (List Int)) : Option (Int × Int × (List (List Int)) × (List Int) × Unit) :=
  if (decide (t < (y'.length : Int))) = true then
  G (0 ≤ t ∧ t < (y'.length : Int)) (
  G ((t).toNat < y'.length) (
  G (0 ≤ ix y' t ∧ ix y' t < (l.length : Int)) (
  G ((ix y' t).toNat < l.length) (
  G (fits (t + (1 : Int))) (
  r4 (t + (1 : Int)) (l.set (ix y' t).toNat t)))))) else
  G (0 ≤ d.2.1 ∧ d.2.1 < (y'.length : Int)) (
  G ((d.2.1).toNat < y'.length) (
  G (fits ((y'.length : Int) + (1 : Int))) (
  both [(.pair (.int .i64) (.pair (.int .i64) (.pair (.list (.list (.int .i64))) (.pair (.list (.int .i64)) .unit))))] (
  (det_Explore_1 d.1 (ix y' d.2.1) y' (d.1, (d.2.1, (d.2.2.1, (d.2.2.2.1, ())))) l (d.1, (d.2.1, (d.2.2.1, (d.2.2.2.1, ())))) l ((y'.length : Int) + (1 : Int))).bind (fun y'_4 =>
  det_Smallest_J8 y'_4.1.1 y'_4.1.2.1 y'_4.1.2.2.1 y'_4.1.2.2.2.1)) (
  (det_Explore_1 d.1 (ix y' d.2.1) y' (d.1, (d.2.1, (d.2.2.1, (d.2.2.2.1, ())))) l (d.1, (d.2.1, (d.2.2.1, (d.2.2.2.1, ())))) l ((y'.length : Int) + (1 : Int))).bind (fun y'_8 =>
  det_Smallest_J8 y'_8.1.1 y'_8.1.2.1 y'_8.1.2.2.1 y'_8.1.2.2.2.1)))))
noncomputable def det_Smallest_L4_F (d : (Int × Int × (List (List Int)) × (List Int) × Unit)) (y' : (List Int)) : (Int × (List Int) → Option (Int × Int × (List (List Int)) × (List Int) × Unit)) → Int × (List Int) → Option (Int × Int × (List (List Int)) × (List Int) × Unit) :=
  fun rec x => det_Smallest_L4_B d y' (fun t l => rec (t, l)) x.1 x.2
noncomputable def det_Smallest_L4 (d : (Int × Int × (List (List Int)) × (List Int) × Unit)) (y' : (List Int)) (t : Int) (l : (List Int)) : Option (Int × Int × (List (List Int)) × (List Int) × Unit) := LFix (det_Smallest_L4_F d y' ) (t, l)
noncomputable def det_Smallest (d : (Int × Int × (List (List Int)) × (List Int) × Unit)) : Option (Int × Int × (List (List Int)) × (List Int) × Unit) :=
  (det_Classes (d.1, (d.2.1, (d.2.2.1, (d.2.2.2.1, ()))))).bind (fun y' =>
  G (mkOK (y'.length : Int) (y'.length : Int) 8) (
  det_Smallest_L4 d y' (0 : Int) (List.replicate ((y'.length : Int)).toNat (0 : Int))))
theorem det_Smallest_L4_B_ch (r4 : Nat → Int → (List Int) → Option (Int × Int × (List (List Int)) × (List Int) × Unit)) (r4' : Int → (List Int) → Option (Int × Int × (List (List Int)) × (List Int) × Unit)) (h_r4 : ∀ a0 a1, ChO (fun κ => r4 κ a0 a1) (r4' a0 a1)) (d : (Int × Int × (List (List Int)) × (List Int) × Unit)) (y' : (List Int)) (t : Int) (l : (List Int)) : ChO (fun κ => det_Smallest_L4_B d y' (r4 κ) t l) (det_Smallest_L4_B d y' r4' t l) := by
  unfold det_Smallest_L4_B
  repeat' with_reducible first | exact ChO.const _ | exact h_r4 _ _ | apply ChO.ite | apply ChO.G | apply ChO.both | (apply ChO.bind; intro _)
theorem det_Smallest_L4_cn  (d : (Int × Int × (List (List Int)) × (List Int) × Unit)) (y' : (List Int)) : Cn (det_Smallest_L4_F d y') := fun g h hg x => det_Smallest_L4_B_ch  (fun κ t l => g κ (t, l)) (fun t l => h (t, l)) (fun t l => hg (t, l)) d y' x.1 x.2
theorem det_Smallest_L4_eq  (d : (Int × Int × (List (List Int)) × (List Int) × Unit)) (y' : (List Int)) (t : Int) (l : (List Int)) : det_Smallest_L4 d y' t l = det_Smallest_L4_B d y' (det_Smallest_L4 d y') t l := LFix_eq (det_Smallest_L4_cn d y') (t, l)

noncomputable def higman_sets_L3_B (d : (Int × Int × (List (List Int)) × (List Int) × Unit)) (first : Int) (r3 : Int → Int → Option (Int × Int × (List (List Int)) × (List Int) × Unit)) (t : Int) (good : Int) : Option (Int × Int × (List (List Int)) × (List Int) × Unit) :=
  if (decide (t < (d.2.2.2.1.length : Int))) = true then
  G (0 ≤ t ∧ t < (d.2.2.2.1.length : Int)) (
  G (0 ≤ t) (
  G (fits (t + (1 : Int))) (
  r3 (t + (1 : Int)) (ior .i64 good (ishl .i64 (ix d.2.2.2.1 t) t))))) else
  (det_Explore d.1 first (d.1, (d.2.1, (d.2.2.1, (d.2.2.2.1, ())))) good (64 : Int)).bind (fun y'_4 =>
  (det_Smallest (y'_4.1.1, (y'_4.1.2.1, (y'_4.1.2.2.1, (y'_4.1.2.2.2.1, ()))))).bind (fun y'_3 =>
  some (y'_3.1, (y'_3.2.1, (y'_3.2.2.1, (y'_3.2.2.2.1, ()))))))
noncomputable def higman_sets_L3_F (d : (Int × Int × (List (List Int)) × (List Int) × Unit)) (first : Int) : (Int × Int → Option (Int × Int × (List (List Int)) × (List Int) × Unit)) → Int × Int → Option (Int × Int × (List (List Int)) × (List Int) × Unit) :=
  fun rec x => higman_sets_L3_B d first (fun t good => rec (t, good)) x.1 x.2
noncomputable def higman_sets_L3 (d : (Int × Int × (List (List Int)) × (List Int) × Unit)) (first : Int) (t : Int) (good : Int) : Option (Int × Int × (List (List Int)) × (List Int) × Unit) := LFix (higman_sets_L3_F d first ) (t, good)
noncomputable def higman_sets (d : (Int × Int × (List (List Int)) × (List Int) × Unit)) (first : Int) : Option (Int × Int × (List (List Int)) × (List Int) × Unit) :=
  higman_sets_L3 d first (0 : Int) (0 : Int)
theorem higman_sets_L3_B_ch (r3 : Nat → Int → Int → Option (Int × Int × (List (List Int)) × (List Int) × Unit)) (r3' : Int → Int → Option (Int × Int × (List (List Int)) × (List Int) × Unit)) (h_r3 : ∀ a0 a1, ChO (fun κ => r3 κ a0 a1) (r3' a0 a1)) (d : (Int × Int × (List (List Int)) × (List Int) × Unit)) (first : Int) (t : Int) (good : Int) : ChO (fun κ => higman_sets_L3_B d first (r3 κ) t good) (higman_sets_L3_B d first r3' t good) := by
  unfold higman_sets_L3_B
  repeat' with_reducible first | exact ChO.const _ | exact h_r3 _ _ | apply ChO.ite | apply ChO.G | apply ChO.both | (apply ChO.bind; intro _)
theorem higman_sets_L3_cn  (d : (Int × Int × (List (List Int)) × (List Int) × Unit)) (first : Int) : Cn (higman_sets_L3_F d first) := fun g h hg x => higman_sets_L3_B_ch  (fun κ t good => g κ (t, good)) (fun t good => h (t, good)) (fun t good => hg (t, good)) d first x.1 x.2
theorem higman_sets_L3_eq  (d : (Int × Int × (List (List Int)) × (List Int) × Unit)) (first : Int) (t : Int) (good : Int) : higman_sets_L3 d first t good = higman_sets_L3_B d first (higman_sets_L3 d first) t good := LFix_eq (higman_sets_L3_cn d first) (t, good)

noncomputable def higman_Up (d : (Int × Int × (List (List Int)) × (List Int) × Unit)) : Option ((Int × Int × (List (List Int)) × (List Int) × Unit) × Int) :=
  (higman_small (d.1, (d.2.1, (d.2.2.1, (d.2.2.2.1, ()))))).bind (fun y' =>
  if (decide (¬ y' = (0 : Int))) = true then
  some (((0 : Int), ((0 : Int), ([], ([], ())))), y') else
  G (0 ≤ d.2.1) (
  (higman_sets (d.1, (d.2.1, (d.2.2.1, (d.2.2.2.1, ())))) (ishl .i64 (1 : Int) d.2.1)).bind (fun y'_1 =>
  some ((y'_1.1, (y'_1.2.1, (y'_1.2.2.1, (y'_1.2.2.2.1, ())))), (0 : Int)))))

noncomputable def higman_ahead_L6_B (d : (Int × Int × (List (List Int)) × (List Int) × Unit)) (set'_1 : Int) (t : Int) (r3 : (Int → Int → Option (Int))) (r6 : Int → Int → Option (Int)) (next'_1 : Int) (t_1 : Int) : Option (Int) :=
  if (decide (t_1 < ((ix d.2.2.1 t).length : Int))) = true then
  G (0 ≤ t_1 ∧ t_1 < ((ix d.2.2.1 t).length : Int)) (
  G (0 ≤ t) (
  if (decide ((iand .i64 (ishr .i64 set'_1 t) (1 : Int)) = (1 : Int))) = true then
  G (0 ≤ ix (ix d.2.2.1 t) t_1) (
  G (fits (t_1 + (1 : Int))) (
  r6 (ior .i64 next'_1 (ishl .i64 (1 : Int) (ix (ix d.2.2.1 t) t_1))) (t_1 + (1 : Int)))) else
  G (fits (t_1 + (1 : Int))) (
  r6 next'_1 (t_1 + (1 : Int))))) else
  G (fits (t + (1 : Int))) (
  r3 next'_1 (t + (1 : Int)))
noncomputable def higman_ahead_L6_F (d : (Int × Int × (List (List Int)) × (List Int) × Unit)) (set'_1 : Int) (t : Int) (r3 : (Int → Int → Option (Int))) : (Int × Int → Option (Int)) → Int × Int → Option (Int) :=
  fun rec x => higman_ahead_L6_B d set'_1 t r3 (fun next'_1 t_1 => rec (next'_1, t_1)) x.1 x.2
noncomputable def higman_ahead_L6 (d : (Int × Int × (List (List Int)) × (List Int) × Unit)) (set'_1 : Int) (t : Int) (r3 : (Int → Int → Option (Int))) (next'_1 : Int) (t_1 : Int) : Option (Int) := LFix (higman_ahead_L6_F d set'_1 t r3 ) (next'_1, t_1)
noncomputable def higman_ahead_L3_B (d : (Int × Int × (List (List Int)) × (List Int) × Unit)) (set'_1 : Int) (r1 : (Int → Option (Int))) (r3 : Int → Int → Option (Int)) (next' : Int) (t : Int) : Option (Int) :=
  if (decide (t < (d.2.2.1.length : Int))) = true then
  G (0 ≤ t ∧ t < (d.2.2.1.length : Int)) (
  higman_ahead_L6 d set'_1 t r3 next' (0 : Int)) else
  if (decide (next' = set'_1)) = true then
  some set'_1 else
  r1 next'
noncomputable def higman_ahead_L3_F (d : (Int × Int × (List (List Int)) × (List Int) × Unit)) (set'_1 : Int) (r1 : (Int → Option (Int))) : (Int × Int → Option (Int)) → Int × Int → Option (Int) :=
  fun rec x => higman_ahead_L3_B d set'_1 r1 (fun next' t => rec (next', t)) x.1 x.2
noncomputable def higman_ahead_L3 (d : (Int × Int × (List (List Int)) × (List Int) × Unit)) (set'_1 : Int) (r1 : (Int → Option (Int))) (next' : Int) (t : Int) : Option (Int) := LFix (higman_ahead_L3_F d set'_1 r1 ) (next', t)
noncomputable def higman_ahead_L1_B (d : (Int × Int × (List (List Int)) × (List Int) × Unit)) (r1 : Int → Option (Int)) (set'_1 : Int) : Option (Int) :=
  higman_ahead_L3 d set'_1 r1 set'_1 (0 : Int)
noncomputable def higman_ahead_L1_F (d : (Int × Int × (List (List Int)) × (List Int) × Unit)) : (Int → Option (Int)) → Int → Option (Int) :=
  fun rec x => higman_ahead_L1_B d (fun set'_1 => rec set'_1) x
noncomputable def higman_ahead_L1 (d : (Int × Int × (List (List Int)) × (List Int) × Unit)) (set'_1 : Int) : Option (Int) := LFix (higman_ahead_L1_F d ) set'_1
noncomputable def higman_ahead (d : (Int × Int × (List (List Int)) × (List Int) × Unit)) (set' : Int) : Option (Int) :=
  higman_ahead_L1 d set'
theorem higman_ahead_L6_B_ch (r3 : Nat → Int → Int → Option (Int)) (r3' : Int → Int → Option (Int)) (h_r3 : ∀ a0 a1, ChO (fun κ => r3 κ a0 a1) (r3' a0 a1)) (r6 : Nat → Int → Int → Option (Int)) (r6' : Int → Int → Option (Int)) (h_r6 : ∀ a0 a1, ChO (fun κ => r6 κ a0 a1) (r6' a0 a1)) (d : (Int × Int × (List (List Int)) × (List Int) × Unit)) (set'_1 : Int) (t : Int) (next'_1 : Int) (t_1 : Int) : ChO (fun κ => higman_ahead_L6_B d set'_1 t (r3 κ) (r6 κ) next'_1 t_1) (higman_ahead_L6_B d set'_1 t r3' r6' next'_1 t_1) := by
  unfold higman_ahead_L6_B
  repeat' with_reducible first | exact ChO.const _ | exact h_r3 _ _ | exact h_r6 _ _ | apply ChO.ite | apply ChO.G | apply ChO.both | (apply ChO.bind; intro _)
theorem higman_ahead_L6_cn (r3 : Int → Int → Option (Int)) (d : (Int × Int × (List (List Int)) × (List Int) × Unit)) (set'_1 : Int) (t : Int) : Cn (higman_ahead_L6_F d set'_1 t r3) := fun g h hg x => higman_ahead_L6_B_ch (fun _ => r3) r3 (fun _ _ => ChO.const _) (fun κ next'_1 t_1 => g κ (next'_1, t_1)) (fun next'_1 t_1 => h (next'_1, t_1)) (fun next'_1 t_1 => hg (next'_1, t_1)) d set'_1 t x.1 x.2
theorem higman_ahead_L6_eq (r3 : Int → Int → Option (Int)) (d : (Int × Int × (List (List Int)) × (List Int) × Unit)) (set'_1 : Int) (t : Int) (next'_1 : Int) (t_1 : Int) : higman_ahead_L6 d set'_1 t r3 next'_1 t_1 = higman_ahead_L6_B d set'_1 t r3 (higman_ahead_L6 d set'_1 t r3) next'_1 t_1 := LFix_eq (higman_ahead_L6_cn r3 d set'_1 t) (next'_1, t_1)
theorem higman_ahead_L6_ch (r3 : Nat → Int → Int → Option (Int)) (r3' : Int → Int → Option (Int)) (h_r3 : ∀ a0 a1, ChO (fun κ => r3 κ a0 a1) (r3' a0 a1)) (d : (Int × Int × (List (List Int)) × (List Int) × Unit)) (set'_1 : Int) (t : Int) (next'_1 : Int) (t_1 : Int) : ChO (fun κ => higman_ahead_L6 d set'_1 t (r3 κ) next'_1 t_1) (higman_ahead_L6 d set'_1 t r3' next'_1 t_1) := by
  unfold higman_ahead_L6
  exact LFix_ch (fun κ => (higman_ahead_L6_cn (r3 κ) d set'_1 t).mono) (higman_ahead_L6_cn r3' d set'_1 t).mono (fun g h hg x => higman_ahead_L6_B_ch r3 r3' h_r3 (fun κ next'_1 t_1 => g κ (next'_1, t_1)) (fun next'_1 t_1 => h (next'_1, t_1)) (fun next'_1 t_1 => hg (next'_1, t_1)) d set'_1 t x.1 x.2) _
theorem higman_ahead_L3_B_ch (r1 : Nat → Int → Option (Int)) (r1' : Int → Option (Int)) (h_r1 : ∀ a0, ChO (fun κ => r1 κ a0) (r1' a0)) (r3 : Nat → Int → Int → Option (Int)) (r3' : Int → Int → Option (Int)) (h_r3 : ∀ a0 a1, ChO (fun κ => r3 κ a0 a1) (r3' a0 a1)) (d : (Int × Int × (List (List Int)) × (List Int) × Unit)) (set'_1 : Int) (next' : Int) (t : Int) : ChO (fun κ => higman_ahead_L3_B d set'_1 (r1 κ) (r3 κ) next' t) (higman_ahead_L3_B d set'_1 r1' r3' next' t) := by
  unfold higman_ahead_L3_B
  repeat' with_reducible first | exact ChO.const _ | exact h_r1 _ | exact h_r3 _ _ | (apply higman_ahead_L6_ch <;> assumption) | apply ChO.ite | apply ChO.G | apply ChO.both | (apply ChO.bind; intro _)
theorem higman_ahead_L3_cn (r1 : Int → Option (Int)) (d : (Int × Int × (List (List Int)) × (List Int) × Unit)) (set'_1 : Int) : Cn (higman_ahead_L3_F d set'_1 r1) := fun g h hg x => higman_ahead_L3_B_ch (fun _ => r1) r1 (fun _ => ChO.const _) (fun κ next' t => g κ (next', t)) (fun next' t => h (next', t)) (fun next' t => hg (next', t)) d set'_1 x.1 x.2
theorem higman_ahead_L3_eq (r1 : Int → Option (Int)) (d : (Int × Int × (List (List Int)) × (List Int) × Unit)) (set'_1 : Int) (next' : Int) (t : Int) : higman_ahead_L3 d set'_1 r1 next' t = higman_ahead_L3_B d set'_1 r1 (higman_ahead_L3 d set'_1 r1) next' t := LFix_eq (higman_ahead_L3_cn r1 d set'_1) (next', t)
theorem higman_ahead_L3_ch (r1 : Nat → Int → Option (Int)) (r1' : Int → Option (Int)) (h_r1 : ∀ a0, ChO (fun κ => r1 κ a0) (r1' a0)) (d : (Int × Int × (List (List Int)) × (List Int) × Unit)) (set'_1 : Int) (next' : Int) (t : Int) : ChO (fun κ => higman_ahead_L3 d set'_1 (r1 κ) next' t) (higman_ahead_L3 d set'_1 r1' next' t) := by
  unfold higman_ahead_L3
  exact LFix_ch (fun κ => (higman_ahead_L3_cn (r1 κ) d set'_1).mono) (higman_ahead_L3_cn r1' d set'_1).mono (fun g h hg x => higman_ahead_L3_B_ch r1 r1' h_r1 (fun κ next' t => g κ (next', t)) (fun next' t => h (next', t)) (fun next' t => hg (next', t)) d set'_1 x.1 x.2) _
theorem higman_ahead_L1_B_ch (r1 : Nat → Int → Option (Int)) (r1' : Int → Option (Int)) (h_r1 : ∀ a0, ChO (fun κ => r1 κ a0) (r1' a0)) (d : (Int × Int × (List (List Int)) × (List Int) × Unit)) (set'_1 : Int) : ChO (fun κ => higman_ahead_L1_B d (r1 κ) set'_1) (higman_ahead_L1_B d r1' set'_1) := by
  unfold higman_ahead_L1_B
  repeat' with_reducible first | exact ChO.const _ | exact h_r1 _ | (apply higman_ahead_L6_ch <;> assumption) | (apply higman_ahead_L3_ch <;> assumption) | apply ChO.ite | apply ChO.G | apply ChO.both | (apply ChO.bind; intro _)
theorem higman_ahead_L1_cn  (d : (Int × Int × (List (List Int)) × (List Int) × Unit)) : Cn (higman_ahead_L1_F d) := fun g h hg x => higman_ahead_L1_B_ch  (fun κ set'_1 => g κ set'_1) (fun set'_1 => h set'_1) (fun set'_1 => hg set'_1) d x
theorem higman_ahead_L1_eq  (d : (Int × Int × (List (List Int)) × (List Int) × Unit)) (set'_1 : Int) : higman_ahead_L1 d set'_1 = higman_ahead_L1_B d (higman_ahead_L1 d) set'_1 := LFix_eq (higman_ahead_L1_cn d) set'_1

noncomputable def higman_Down_1 (t : Int) (next' : Int) (t_1 : (Int × Int × (List (List Int)) × (List Int) × Unit)) : Option (Int) :=
  (higman_ahead t_1 next').bind (fun y' =>
  some y')

noncomputable def higman_sets_1_1_L3_B (set' : Int) (letter : Int) (t : (Int × Int × (List (List Int)) × (List Int) × Unit)) (c : (Int × Int × (List (List Int)) × (List Int) × Unit)) (r3 : Int → Int → Option (Int × Int × Int × (List (List Int)) × (List Int) × Unit)) (next' : Int) (t_1 : Int) : Option (Int × Int × Int × (List (List Int)) × (List Int) × Unit) :=
  if (decide (t_1 < (t.2.2.1.length : Int))) = true then
  G (0 ≤ t_1 ∧ t_1 < (t.2.2.1.length : Int)) (
  G (0 ≤ t_1) (
  if (decide ((iand .i64 (ishr .i64 set' t_1) (1 : Int)) = (1 : Int))) = true then
  G (0 ≤ letter ∧ letter < ((ix t.2.2.1 t_1).length : Int)) (
  G (0 ≤ ix (ix t.2.2.1 t_1) letter) (
  G (fits (t_1 + (1 : Int))) (
  r3 (ior .i64 next' (ishl .i64 (1 : Int) (ix (ix t.2.2.1 t_1) letter))) (t_1 + (1 : Int))))) else
  G (fits (t_1 + (1 : Int))) (
  r3 next' (t_1 + (1 : Int))))) else
  (higman_Down_1 set' next' c).bind (fun y' =>
  some (y', c))
noncomputable def higman_sets_1_1_L3_F (set' : Int) (letter : Int) (t : (Int × Int × (List (List Int)) × (List Int) × Unit)) (c : (Int × Int × (List (List Int)) × (List Int) × Unit)) : (Int × Int → Option (Int × Int × Int × (List (List Int)) × (List Int) × Unit)) → Int × Int → Option (Int × Int × Int × (List (List Int)) × (List Int) × Unit) :=
  fun rec x => higman_sets_1_1_L3_B set' letter t c (fun next' t_1 => rec (next', t_1)) x.1 x.2
noncomputable def higman_sets_1_1_L3 (set' : Int) (letter : Int) (t : (Int × Int × (List (List Int)) × (List Int) × Unit)) (c : (Int × Int × (List (List Int)) × (List Int) × Unit)) (next' : Int) (t_1 : Int) : Option (Int × Int × Int × (List (List Int)) × (List Int) × Unit) := LFix (higman_sets_1_1_L3_F set' letter t c ) (next', t_1)
noncomputable def higman_sets_1_1 (set' : Int) (letter : Int) (t : (Int × Int × (List (List Int)) × (List Int) × Unit)) (c : (Int × Int × (List (List Int)) × (List Int) × Unit)) : Option (Int × Int × Int × (List (List Int)) × (List Int) × Unit) :=
  higman_sets_1_1_L3 set' letter t c (0 : Int) (0 : Int)
theorem higman_sets_1_1_L3_B_ch (r3 : Nat → Int → Int → Option (Int × Int × Int × (List (List Int)) × (List Int) × Unit)) (r3' : Int → Int → Option (Int × Int × Int × (List (List Int)) × (List Int) × Unit)) (h_r3 : ∀ a0 a1, ChO (fun κ => r3 κ a0 a1) (r3' a0 a1)) (set' : Int) (letter : Int) (t : (Int × Int × (List (List Int)) × (List Int) × Unit)) (c : (Int × Int × (List (List Int)) × (List Int) × Unit)) (next' : Int) (t_1 : Int) : ChO (fun κ => higman_sets_1_1_L3_B set' letter t c (r3 κ) next' t_1) (higman_sets_1_1_L3_B set' letter t c r3' next' t_1) := by
  unfold higman_sets_1_1_L3_B
  repeat' with_reducible first | exact ChO.const _ | exact h_r3 _ _ | apply ChO.ite | apply ChO.G | apply ChO.both | (apply ChO.bind; intro _)
theorem higman_sets_1_1_L3_cn  (set' : Int) (letter : Int) (t : (Int × Int × (List (List Int)) × (List Int) × Unit)) (c : (Int × Int × (List (List Int)) × (List Int) × Unit)) : Cn (higman_sets_1_1_L3_F set' letter t c) := fun g h hg x => higman_sets_1_1_L3_B_ch  (fun κ next' t_1 => g κ (next', t_1)) (fun next' t_1 => h (next', t_1)) (fun next' t_1 => hg (next', t_1)) set' letter t c x.1 x.2
theorem higman_sets_1_1_L3_eq  (set' : Int) (letter : Int) (t : (Int × Int × (List (List Int)) × (List Int) × Unit)) (c : (Int × Int × (List (List Int)) × (List Int) × Unit)) (next' : Int) (t_1 : Int) : higman_sets_1_1_L3 set' letter t c next' t_1 = higman_sets_1_1_L3_B set' letter t c (higman_sets_1_1_L3 set' letter t c) next' t_1 := LFix_eq (higman_sets_1_1_L3_cn set' letter t c) (next', t_1)

noncomputable def det_Explore_2_J17 (next'_1 : (Int × Int × (List (List Int)) × (List Int) × Unit)) (t : Int) (row : (List Int)) (r8 : ((Int × Int × (List (List Int)) × (List Int) × Unit) → Int → (Int × Int × (List (List Int)) × (List Int) × Unit) → (List Int) → (List Int) → (List Int) → (List Int) → Option ((Int × Int × (List (List Int)) × (List Int) × Unit) × Bool × Int × Int × (List (List Int)) × (List Int) × Unit))) (y'_1 : (Int × Int × (List (List Int)) × (List Int) × Unit)) (n : Int) (number_4 : (List Int)) (number_5 : (List Int)) (l_4 : (List Int)) : Option ((Int × Int × (List (List Int)) × (List Int) × Unit) × Bool × Int × Int × (List (List Int)) × (List Int) × Unit) :=
  G (0 ≤ t ∧ t < (row.length : Int)) (
  G ((t).toNat < row.length) (
  G (fits (t + (1 : Int))) (
  r8 next'_1 (t + (1 : Int)) y'_1 number_4 number_5 l_4 (row.set (t).toNat n))))
noncomputable def det_Explore_2_L8_B (letters : Int) (c_1 : Int) (most : Int) (d : Int) (d_1 : Int) (l_1 : (List Int)) (d_2 : (List (List Int))) (d_3 : (List Int)) (r4 : ((Int × Int × (List (List Int)) × (List Int) × Unit) → (Int × Int × (List (List Int)) × (List Int) × Unit) → Int → Int → (List Int) → (List Int) → (List Int) → (List (List Int)) → (List Int) → Option ((Int × Int × (List (List Int)) × (List Int) × Unit) × Bool × Int × Int × (List (List Int)) × (List Int) × Unit))) (r8 : (Int × Int × (List (List Int)) × (List Int) × Unit) → Int → (Int × Int × (List (List Int)) × (List Int) × Unit) → (List Int) → (List Int) → (List Int) → (List Int) → Option ((Int × Int × (List (List Int)) × (List Int) × Unit) × Bool × Int × Int × (List (List Int)) × (List Int) × Unit)) (next'_1 : (Int × Int × (List (List Int)) × (List Int) × Unit)) (t : Int) (l_2 : (Int × Int × (List (List Int)) × (List Int) × Unit)) (number_2 : (List Int)) (number_3 : (List Int)) (l_3 : (List Int)) (row : (List Int)) : Option ((Int × Int × (List (List Int)) × (List Int) × Unit) × Bool × Int × Int × (List (List Int)) × (List Int) × Unit) :=
  if (decide (t < letters)) = true then
  (higman_sets_1_1 (ix l_1 (d_2.length : Int)) t next'_1 l_2).bind (fun y'_3 =>
  if (!(mhas number_2 y'_3.1)) = true then
  if (decide ((l_3.length : Int) = most)) = true then
  some (((0 : Int), ((0 : Int), ([], ([], ())))), false, y'_3.2) else
  G (room l_3 ([y'_3.1]) 8) (
  det_Explore_2_J17 next'_1 t row r8 y'_3.2 (l_3.length : Int) (mputK number_2 y'_3.1) (mputV number_2 number_3 y'_3.1 (l_3.length : Int)) (l_3 ++ ([y'_3.1]))) else
  det_Explore_2_J17 next'_1 t row r8 y'_3.2 (mget number_2 number_3 y'_3.1 (0 : Int)) number_2 number_3 l_3) else
  G (room d_2 ([row]) 24) (
  (higman_sets_2 (ix l_1 (d_2.length : Int)) c_1).bind (fun y'_4 =>
  G (room d_3 ([y'_4]) 8) (
  r4 next'_1 l_2 d d_1 number_2 number_3 l_3 (d_2 ++ ([row])) (d_3 ++ ([y'_4])))))
noncomputable def det_Explore_2_L8_F (letters : Int) (c_1 : Int) (most : Int) (d : Int) (d_1 : Int) (l_1 : (List Int)) (d_2 : (List (List Int))) (d_3 : (List Int)) (r4 : ((Int × Int × (List (List Int)) × (List Int) × Unit) → (Int × Int × (List (List Int)) × (List Int) × Unit) → Int → Int → (List Int) → (List Int) → (List Int) → (List (List Int)) → (List Int) → Option ((Int × Int × (List (List Int)) × (List Int) × Unit) × Bool × Int × Int × (List (List Int)) × (List Int) × Unit))) : ((Int × Int × (List (List Int)) × (List Int) × Unit) × Int × (Int × Int × (List (List Int)) × (List Int) × Unit) × (List Int) × (List Int) × (List Int) × (List Int) → Option ((Int × Int × (List (List Int)) × (List Int) × Unit) × Bool × Int × Int × (List (List Int)) × (List Int) × Unit)) → (Int × Int × (List (List Int)) × (List Int) × Unit) × Int × (Int × Int × (List (List Int)) × (List Int) × Unit) × (List Int) × (List Int) × (List Int) × (List Int) → Option ((Int × Int × (List (List Int)) × (List Int) × Unit) × Bool × Int × Int × (List (List Int)) × (List Int) × Unit) :=
  fun rec x => det_Explore_2_L8_B letters c_1 most d d_1 l_1 d_2 d_3 r4 (fun next'_1 t l_2 number_2 number_3 l_3 row => rec (next'_1, t, l_2, number_2, number_3, l_3, row)) x.1 x.2.1 x.2.2.1 x.2.2.2.1 x.2.2.2.2.1 x.2.2.2.2.2.1 x.2.2.2.2.2.2
noncomputable def det_Explore_2_L8 (letters : Int) (c_1 : Int) (most : Int) (d : Int) (d_1 : Int) (l_1 : (List Int)) (d_2 : (List (List Int))) (d_3 : (List Int)) (r4 : ((Int × Int × (List (List Int)) × (List Int) × Unit) → (Int × Int × (List (List Int)) × (List Int) × Unit) → Int → Int → (List Int) → (List Int) → (List Int) → (List (List Int)) → (List Int) → Option ((Int × Int × (List (List Int)) × (List Int) × Unit) × Bool × Int × Int × (List (List Int)) × (List Int) × Unit))) (next'_1 : (Int × Int × (List (List Int)) × (List Int) × Unit)) (t : Int) (l_2 : (Int × Int × (List (List Int)) × (List Int) × Unit)) (number_2 : (List Int)) (number_3 : (List Int)) (l_3 : (List Int)) (row : (List Int)) : Option ((Int × Int × (List (List Int)) × (List Int) × Unit) × Bool × Int × Int × (List (List Int)) × (List Int) × Unit) := LFix (det_Explore_2_L8_F letters c_1 most d d_1 l_1 d_2 d_3 r4 ) (next'_1, t, l_2, number_2, number_3, l_3, row)
noncomputable def det_Explore_2_L4_B (letters : Int) (c_1 : Int) (most : Int) (r4 : (Int × Int × (List (List Int)) × (List Int) × Unit) → (Int × Int × (List (List Int)) × (List Int) × Unit) → Int → Int → (List Int) → (List Int) → (List Int) → (List (List Int)) → (List Int) → Option ((Int × Int × (List (List Int)) × (List Int) × Unit) × Bool × Int × Int × (List (List Int)) × (List Int) × Unit)) (next' : (Int × Int × (List (List Int)) × (List Int) × Unit)) (l : (Int × Int × (List (List Int)) × (List Int) × Unit)) (d : Int) (d_1 : Int) (number : (List Int)) (number_1 : (List Int)) (l_1 : (List Int)) (d_2 : (List (List Int))) (d_3 : (List Int)) : Option ((Int × Int × (List (List Int)) × (List Int) × Unit) × Bool × Int × Int × (List (List Int)) × (List Int) × Unit) :=
  if (decide ((d_2.length : Int) < (l_1.length : Int))) = true then
  G (0 ≤ (d_2.length : Int) ∧ (d_2.length : Int) < (l_1.length : Int)) (
  G (((d_2.length : Int)).toNat < l_1.length) (
  G (mkOK letters letters 8) (
  det_Explore_2_L8 letters c_1 most d d_1 l_1 d_2 d_3 r4 next' (0 : Int) l number number_1 l_1 (List.replicate (letters).toNat (0 : Int))))) else
  some ((d, (d_1, (d_2, (d_3, ())))), true, l)
noncomputable def det_Explore_2_L4_F (letters : Int) (c_1 : Int) (most : Int) : ((Int × Int × (List (List Int)) × (List Int) × Unit) × (Int × Int × (List (List Int)) × (List Int) × Unit) × Int × Int × (List Int) × (List Int) × (List Int) × (List (List Int)) × (List Int) → Option ((Int × Int × (List (List Int)) × (List Int) × Unit) × Bool × Int × Int × (List (List Int)) × (List Int) × Unit)) → (Int × Int × (List (List Int)) × (List Int) × Unit) × (Int × Int × (List (List Int)) × (List Int) × Unit) × Int × Int × (List Int) × (List Int) × (List Int) × (List (List Int)) × (List Int) → Option ((Int × Int × (List (List Int)) × (List Int) × Unit) × Bool × Int × Int × (List (List Int)) × (List Int) × Unit) :=
  fun rec x => det_Explore_2_L4_B letters c_1 most (fun next' l d d_1 number number_1 l_1 d_2 d_3 => rec (next', l, d, d_1, number, number_1, l_1, d_2, d_3)) x.1 x.2.1 x.2.2.1 x.2.2.2.1 x.2.2.2.2.1 x.2.2.2.2.2.1 x.2.2.2.2.2.2.1 x.2.2.2.2.2.2.2.1 x.2.2.2.2.2.2.2.2
noncomputable def det_Explore_2_L4 (letters : Int) (c_1 : Int) (most : Int) (next' : (Int × Int × (List (List Int)) × (List Int) × Unit)) (l : (Int × Int × (List (List Int)) × (List Int) × Unit)) (d : Int) (d_1 : Int) (number : (List Int)) (number_1 : (List Int)) (l_1 : (List Int)) (d_2 : (List (List Int))) (d_3 : (List Int)) : Option ((Int × Int × (List (List Int)) × (List Int) × Unit) × Bool × Int × Int × (List (List Int)) × (List Int) × Unit) := LFix (det_Explore_2_L4_F letters c_1 most ) (next', l, d, d_1, number, number_1, l_1, d_2, d_3)
noncomputable def det_Explore_2 (letters : Int) (first : Int) (c : (Int × Int × (List (List Int)) × (List Int) × Unit)) (c_1 : Int) (most : Int) (c_2 : (Int × Int × (List (List Int)) × (List Int) × Unit)) : Option ((Int × Int × (List (List Int)) × (List Int) × Unit) × Bool × Int × Int × (List (List Int)) × (List Int) × Unit) :=
  det_Explore_2_L4 letters c_1 most c c_2 letters (0 : Int) (mputK ([] : List Int) first) (mputV ([] : List Int) ([] : List Int) first (0 : Int)) ([first]) ([] : List (List Int)) ([] : List Int)
theorem det_Explore_2_J17_ch (r8 : Nat → (Int × Int × (List (List Int)) × (List Int) × Unit) → Int → (Int × Int × (List (List Int)) × (List Int) × Unit) → (List Int) → (List Int) → (List Int) → (List Int) → Option ((Int × Int × (List (List Int)) × (List Int) × Unit) × Bool × Int × Int × (List (List Int)) × (List Int) × Unit)) (r8' : (Int × Int × (List (List Int)) × (List Int) × Unit) → Int → (Int × Int × (List (List Int)) × (List Int) × Unit) → (List Int) → (List Int) → (List Int) → (List Int) → Option ((Int × Int × (List (List Int)) × (List Int) × Unit) × Bool × Int × Int × (List (List Int)) × (List Int) × Unit)) (h_r8 : ∀ a0 a1 a2 a3 a4 a5 a6, ChO (fun κ => r8 κ a0 a1 a2 a3 a4 a5 a6) (r8' a0 a1 a2 a3 a4 a5 a6)) (next'_1 : (Int × Int × (List (List Int)) × (List Int) × Unit)) (t : Int) (row : (List Int)) (y'_1 : (Int × Int × (List (List Int)) × (List Int) × Unit)) (n : Int) (number_4 : (List Int)) (number_5 : (List Int)) (l_4 : (List Int)) : ChO (fun κ => det_Explore_2_J17 next'_1 t row (r8 κ) y'_1 n number_4 number_5 l_4) (det_Explore_2_J17 next'_1 t row r8' y'_1 n number_4 number_5 l_4) := by
  unfold det_Explore_2_J17
  repeat' with_reducible first | exact ChO.const _ | exact h_r8 _ _ _ _ _ _ _ | apply ChO.ite | apply ChO.G | apply ChO.both | (apply ChO.bind; intro _)
theorem det_Explore_2_L8_B_ch (r4 : Nat → (Int × Int × (List (List Int)) × (List Int) × Unit) → (Int × Int × (List (List Int)) × (List Int) × Unit) → Int → Int → (List Int) → (List Int) → (List Int) → (List (List Int)) → (List Int) → Option ((Int × Int × (List (List Int)) × (List Int) × Unit) × Bool × Int × Int × (List (List Int)) × (List Int) × Unit)) (r4' : (Int × Int × (List (List Int)) × (List Int) × Unit) → (Int × Int × (List (List Int)) × (List Int) × Unit) → Int → Int → (List Int) → (List Int) → (List Int) → (List (List Int)) → (List Int) → Option ((Int × Int × (List (List Int)) × (List Int) × Unit) × Bool × Int × Int × (List (List Int)) × (List Int) × Unit)) (h_r4 : ∀ a0 a1 a2 a3 a4 a5 a6 a7 a8, ChO (fun κ => r4 κ a0 a1 a2 a3 a4 a5 a6 a7 a8) (r4' a0 a1 a2 a3 a4 a5 a6 a7 a8)) (r8 : Nat → (Int × Int × (List (List Int)) × (List Int) × Unit) → Int → (Int × Int × (List (List Int)) × (List Int) × Unit) → (List Int) → (List Int) → (List Int) → (List Int) → Option ((Int × Int × (List (List Int)) × (List Int) × Unit) × Bool × Int × Int × (List (List Int)) × (List Int) × Unit)) (r8' : (Int × Int × (List (List Int)) × (List Int) × Unit) → Int → (Int × Int × (List (List Int)) × (List Int) × Unit) → (List Int) → (List Int) → (List Int) → (List Int) → Option ((Int × Int × (List (List Int)) × (List Int) × Unit) × Bool × Int × Int × (List (List Int)) × (List Int) × Unit)) (h_r8 : ∀ a0 a1 a2 a3 a4 a5 a6, ChO (fun κ => r8 κ a0 a1 a2 a3 a4 a5 a6) (r8' a0 a1 a2 a3 a4 a5 a6)) (letters : Int) (c_1 : Int) (most : Int) (d : Int) (d_1 : Int) (l_1 : (List Int)) (d_2 : (List (List Int))) (d_3 : (List Int)) (next'_1 : (Int × Int × (List (List Int)) × (List Int) × Unit)) (t : Int) (l_2 : (Int × Int × (List (List Int)) × (List Int) × Unit)) (number_2 : (List Int)) (number_3 : (List Int)) (l_3 : (List Int)) (row : (List Int)) : ChO (fun κ => det_Explore_2_L8_B letters c_1 most d d_1 l_1 d_2 d_3 (r4 κ) (r8 κ) next'_1 t l_2 number_2 number_3 l_3 row) (det_Explore_2_L8_B letters c_1 most d d_1 l_1 d_2 d_3 r4' r8' next'_1 t l_2 number_2 number_3 l_3 row) := by
  unfold det_Explore_2_L8_B
  repeat' with_reducible first | exact ChO.const _ | exact h_r4 _ _ _ _ _ _ _ _ _ | exact h_r8 _ _ _ _ _ _ _ | (apply det_Explore_2_J17_ch <;> assumption) | apply ChO.ite | apply ChO.G | apply ChO.both | (apply ChO.bind; intro _)
theorem det_Explore_2_L8_cn (r4 : (Int × Int × (List (List Int)) × (List Int) × Unit) → (Int × Int × (List (List Int)) × (List Int) × Unit) → Int → Int → (List Int) → (List Int) → (List Int) → (List (List Int)) → (List Int) → Option ((Int × Int × (List (List Int)) × (List Int) × Unit) × Bool × Int × Int × (List (List Int)) × (List Int) × Unit)) (letters : Int) (c_1 : Int) (most : Int) (d : Int) (d_1 : Int) (l_1 : (List Int)) (d_2 : (List (List Int))) (d_3 : (List Int)) : Cn (det_Explore_2_L8_F letters c_1 most d d_1 l_1 d_2 d_3 r4) := fun g h hg x => det_Explore_2_L8_B_ch (fun _ => r4) r4 (fun _ _ _ _ _ _ _ _ _ => ChO.const _) (fun κ next'_1 t l_2 number_2 number_3 l_3 row => g κ (next'_1, t, l_2, number_2, number_3, l_3, row)) (fun next'_1 t l_2 number_2 number_3 l_3 row => h (next'_1, t, l_2, number_2, number_3, l_3, row)) (fun next'_1 t l_2 number_2 number_3 l_3 row => hg (next'_1, t, l_2, number_2, number_3, l_3, row)) letters c_1 most d d_1 l_1 d_2 d_3 x.1 x.2.1 x.2.2.1 x.2.2.2.1 x.2.2.2.2.1 x.2.2.2.2.2.1 x.2.2.2.2.2.2
theorem det_Explore_2_L8_eq (r4 : (Int × Int × (List (List Int)) × (List Int) × Unit) → (Int × Int × (List (List Int)) × (List Int) × Unit) → Int → Int → (List Int) → (List Int) → (List Int) → (List (List Int)) → (List Int) → Option ((Int × Int × (List (List Int)) × (List Int) × Unit) × Bool × Int × Int × (List (List Int)) × (List Int) × Unit)) (letters : Int) (c_1 : Int) (most : Int) (d : Int) (d_1 : Int) (l_1 : (List Int)) (d_2 : (List (List Int))) (d_3 : (List Int)) (next'_1 : (Int × Int × (List (List Int)) × (List Int) × Unit)) (t : Int) (l_2 : (Int × Int × (List (List Int)) × (List Int) × Unit)) (number_2 : (List Int)) (number_3 : (List Int)) (l_3 : (List Int)) (row : (List Int)) : det_Explore_2_L8 letters c_1 most d d_1 l_1 d_2 d_3 r4 next'_1 t l_2 number_2 number_3 l_3 row = det_Explore_2_L8_B letters c_1 most d d_1 l_1 d_2 d_3 r4 (det_Explore_2_L8 letters c_1 most d d_1 l_1 d_2 d_3 r4) next'_1 t l_2 number_2 number_3 l_3 row := LFix_eq (det_Explore_2_L8_cn r4 letters c_1 most d d_1 l_1 d_2 d_3) (next'_1, t, l_2, number_2, number_3, l_3, row)
theorem det_Explore_2_L8_ch (r4 : Nat → (Int × Int × (List (List Int)) × (List Int) × Unit) → (Int × Int × (List (List Int)) × (List Int) × Unit) → Int → Int → (List Int) → (List Int) → (List Int) → (List (List Int)) → (List Int) → Option ((Int × Int × (List (List Int)) × (List Int) × Unit) × Bool × Int × Int × (List (List Int)) × (List Int) × Unit)) (r4' : (Int × Int × (List (List Int)) × (List Int) × Unit) → (Int × Int × (List (List Int)) × (List Int) × Unit) → Int → Int → (List Int) → (List Int) → (List Int) → (List (List Int)) → (List Int) → Option ((Int × Int × (List (List Int)) × (List Int) × Unit) × Bool × Int × Int × (List (List Int)) × (List Int) × Unit)) (h_r4 : ∀ a0 a1 a2 a3 a4 a5 a6 a7 a8, ChO (fun κ => r4 κ a0 a1 a2 a3 a4 a5 a6 a7 a8) (r4' a0 a1 a2 a3 a4 a5 a6 a7 a8)) (letters : Int) (c_1 : Int) (most : Int) (d : Int) (d_1 : Int) (l_1 : (List Int)) (d_2 : (List (List Int))) (d_3 : (List Int)) (next'_1 : (Int × Int × (List (List Int)) × (List Int) × Unit)) (t : Int) (l_2 : (Int × Int × (List (List Int)) × (List Int) × Unit)) (number_2 : (List Int)) (number_3 : (List Int)) (l_3 : (List Int)) (row : (List Int)) : ChO (fun κ => det_Explore_2_L8 letters c_1 most d d_1 l_1 d_2 d_3 (r4 κ) next'_1 t l_2 number_2 number_3 l_3 row) (det_Explore_2_L8 letters c_1 most d d_1 l_1 d_2 d_3 r4' next'_1 t l_2 number_2 number_3 l_3 row) := by
  unfold det_Explore_2_L8
  exact LFix_ch (fun κ => (det_Explore_2_L8_cn (r4 κ) letters c_1 most d d_1 l_1 d_2 d_3).mono) (det_Explore_2_L8_cn r4' letters c_1 most d d_1 l_1 d_2 d_3).mono (fun g h hg x => det_Explore_2_L8_B_ch r4 r4' h_r4 (fun κ next'_1 t l_2 number_2 number_3 l_3 row => g κ (next'_1, t, l_2, number_2, number_3, l_3, row)) (fun next'_1 t l_2 number_2 number_3 l_3 row => h (next'_1, t, l_2, number_2, number_3, l_3, row)) (fun next'_1 t l_2 number_2 number_3 l_3 row => hg (next'_1, t, l_2, number_2, number_3, l_3, row)) letters c_1 most d d_1 l_1 d_2 d_3 x.1 x.2.1 x.2.2.1 x.2.2.2.1 x.2.2.2.2.1 x.2.2.2.2.2.1 x.2.2.2.2.2.2) _
theorem det_Explore_2_L4_B_ch (r4 : Nat → (Int × Int × (List (List Int)) × (List Int) × Unit) → (Int × Int × (List (List Int)) × (List Int) × Unit) → Int → Int → (List Int) → (List Int) → (List Int) → (List (List Int)) → (List Int) → Option ((Int × Int × (List (List Int)) × (List Int) × Unit) × Bool × Int × Int × (List (List Int)) × (List Int) × Unit)) (r4' : (Int × Int × (List (List Int)) × (List Int) × Unit) → (Int × Int × (List (List Int)) × (List Int) × Unit) → Int → Int → (List Int) → (List Int) → (List Int) → (List (List Int)) → (List Int) → Option ((Int × Int × (List (List Int)) × (List Int) × Unit) × Bool × Int × Int × (List (List Int)) × (List Int) × Unit)) (h_r4 : ∀ a0 a1 a2 a3 a4 a5 a6 a7 a8, ChO (fun κ => r4 κ a0 a1 a2 a3 a4 a5 a6 a7 a8) (r4' a0 a1 a2 a3 a4 a5 a6 a7 a8)) (letters : Int) (c_1 : Int) (most : Int) (next' : (Int × Int × (List (List Int)) × (List Int) × Unit)) (l : (Int × Int × (List (List Int)) × (List Int) × Unit)) (d : Int) (d_1 : Int) (number : (List Int)) (number_1 : (List Int)) (l_1 : (List Int)) (d_2 : (List (List Int))) (d_3 : (List Int)) : ChO (fun κ => det_Explore_2_L4_B letters c_1 most (r4 κ) next' l d d_1 number number_1 l_1 d_2 d_3) (det_Explore_2_L4_B letters c_1 most r4' next' l d d_1 number number_1 l_1 d_2 d_3) := by
  unfold det_Explore_2_L4_B
  repeat' with_reducible first | exact ChO.const _ | exact h_r4 _ _ _ _ _ _ _ _ _ | (apply det_Explore_2_J17_ch <;> assumption) | (apply det_Explore_2_L8_ch <;> assumption) | apply ChO.ite | apply ChO.G | apply ChO.both | (apply ChO.bind; intro _)
theorem det_Explore_2_L4_cn  (letters : Int) (c_1 : Int) (most : Int) : Cn (det_Explore_2_L4_F letters c_1 most) := fun g h hg x => det_Explore_2_L4_B_ch  (fun κ next' l d d_1 number number_1 l_1 d_2 d_3 => g κ (next', l, d, d_1, number, number_1, l_1, d_2, d_3)) (fun next' l d d_1 number number_1 l_1 d_2 d_3 => h (next', l, d, d_1, number, number_1, l_1, d_2, d_3)) (fun next' l d d_1 number number_1 l_1 d_2 d_3 => hg (next', l, d, d_1, number, number_1, l_1, d_2, d_3)) letters c_1 most x.1 x.2.1 x.2.2.1 x.2.2.2.1 x.2.2.2.2.1 x.2.2.2.2.2.1 x.2.2.2.2.2.2.1 x.2.2.2.2.2.2.2.1 x.2.2.2.2.2.2.2.2
theorem det_Explore_2_L4_eq  (letters : Int) (c_1 : Int) (most : Int) (next' : (Int × Int × (List (List Int)) × (List Int) × Unit)) (l : (Int × Int × (List (List Int)) × (List Int) × Unit)) (d : Int) (d_1 : Int) (number : (List Int)) (number_1 : (List Int)) (l_1 : (List Int)) (d_2 : (List (List Int))) (d_3 : (List Int)) : det_Explore_2_L4 letters c_1 most next' l d d_1 number number_1 l_1 d_2 d_3 = det_Explore_2_L4_B letters c_1 most (det_Explore_2_L4 letters c_1 most) next' l d d_1 number number_1 l_1 d_2 d_3 := LFix_eq (det_Explore_2_L4_cn letters c_1 most) (next', l, d, d_1, number, number_1, l_1, d_2, d_3)

noncomputable def higman_sets_3_L3_B (d : (Int × Int × (List (List Int)) × (List Int) × Unit)) (first : Int) (c : (Int × Int × (List (List Int)) × (List Int) × Unit)) (r3 : Int → Int → Option (Int × Int × (List (List Int)) × (List Int) × Unit)) (t : Int) (good : Int) : Option (Int × Int × (List (List Int)) × (List Int) × Unit) :=
  if (decide (t < (d.2.2.2.1.length : Int))) = true then
  G (0 ≤ t ∧ t < (d.2.2.2.1.length : Int)) (
  G (0 ≤ t) (
  G (fits (t + (1 : Int))) (
  r3 (t + (1 : Int)) (ior .i64 good (ishl .i64 (ix d.2.2.2.1 t) t))))) else
  (det_Explore_2 d.1 first (d.1, (d.2.1, (d.2.2.1, (d.2.2.2.1, ())))) good (64 : Int) c).bind (fun y'_5 =>
  (det_Smallest (y'_5.1.1, (y'_5.1.2.1, (y'_5.1.2.2.1, (y'_5.1.2.2.2.1, ()))))).bind (fun y'_4 =>
  some (y'_4.1, (y'_4.2.1, (y'_4.2.2.1, (y'_4.2.2.2.1, ()))))))
noncomputable def higman_sets_3_L3_F (d : (Int × Int × (List (List Int)) × (List Int) × Unit)) (first : Int) (c : (Int × Int × (List (List Int)) × (List Int) × Unit)) : (Int × Int → Option (Int × Int × (List (List Int)) × (List Int) × Unit)) → Int × Int → Option (Int × Int × (List (List Int)) × (List Int) × Unit) :=
  fun rec x => higman_sets_3_L3_B d first c (fun t good => rec (t, good)) x.1 x.2
noncomputable def higman_sets_3_L3 (d : (Int × Int × (List (List Int)) × (List Int) × Unit)) (first : Int) (c : (Int × Int × (List (List Int)) × (List Int) × Unit)) (t : Int) (good : Int) : Option (Int × Int × (List (List Int)) × (List Int) × Unit) := LFix (higman_sets_3_L3_F d first c ) (t, good)
noncomputable def higman_sets_3 (d : (Int × Int × (List (List Int)) × (List Int) × Unit)) (first : Int) (c : (Int × Int × (List (List Int)) × (List Int) × Unit)) : Option (Int × Int × (List (List Int)) × (List Int) × Unit) :=
  higman_sets_3_L3 d first c (0 : Int) (0 : Int)
theorem higman_sets_3_L3_B_ch (r3 : Nat → Int → Int → Option (Int × Int × (List (List Int)) × (List Int) × Unit)) (r3' : Int → Int → Option (Int × Int × (List (List Int)) × (List Int) × Unit)) (h_r3 : ∀ a0 a1, ChO (fun κ => r3 κ a0 a1) (r3' a0 a1)) (d : (Int × Int × (List (List Int)) × (List Int) × Unit)) (first : Int) (c : (Int × Int × (List (List Int)) × (List Int) × Unit)) (t : Int) (good : Int) : ChO (fun κ => higman_sets_3_L3_B d first c (r3 κ) t good) (higman_sets_3_L3_B d first c r3' t good) := by
  unfold higman_sets_3_L3_B
  repeat' with_reducible first | exact ChO.const _ | exact h_r3 _ _ | apply ChO.ite | apply ChO.G | apply ChO.both | (apply ChO.bind; intro _)
theorem higman_sets_3_L3_cn  (d : (Int × Int × (List (List Int)) × (List Int) × Unit)) (first : Int) (c : (Int × Int × (List (List Int)) × (List Int) × Unit)) : Cn (higman_sets_3_L3_F d first c) := fun g h hg x => higman_sets_3_L3_B_ch  (fun κ t good => g κ (t, good)) (fun t good => h (t, good)) (fun t good => hg (t, good)) d first c x.1 x.2
theorem higman_sets_3_L3_eq  (d : (Int × Int × (List (List Int)) × (List Int) × Unit)) (first : Int) (c : (Int × Int × (List (List Int)) × (List Int) × Unit)) (t : Int) (good : Int) : higman_sets_3_L3 d first c t good = higman_sets_3_L3_B d first c (higman_sets_3_L3 d first c) t good := LFix_eq (higman_sets_3_L3_cn d first c) (t, good)

noncomputable def higman_Down (d : (Int × Int × (List (List Int)) × (List Int) × Unit)) : Option ((Int × Int × (List (List Int)) × (List Int) × Unit) × Int) :=
  (higman_small (d.1, (d.2.1, (d.2.2.1, (d.2.2.2.1, ()))))).bind (fun y' =>
  if (decide (¬ y' = (0 : Int))) = true then
  some (((0 : Int), ((0 : Int), ([], ([], ())))), y') else
  G (0 ≤ d.2.1) (
  (higman_ahead (d.1, (d.2.1, (d.2.2.1, (d.2.2.2.1, ())))) (ishl .i64 (1 : Int) d.2.1)).bind (fun y'_1 =>
  (higman_sets_3 (d.1, (d.2.1, (d.2.2.1, (d.2.2.2.1, ())))) y'_1 (d.1, (d.2.1, (d.2.2.1, (d.2.2.2.1, ()))))).bind (fun y'_2 =>
  some ((y'_2.1, (y'_2.2.1, (y'_2.2.2.1, (y'_2.2.2.2.1, ())))), (0 : Int))))))

noncomputable def r3_Check_L19_B (d : (Int × Int × (List (List Int)) × (List Int) × Unit)) (i_1 : Int) (r16 : (Int → Option (Int))) (r19 : Int → Option (Int)) (k : Int) : Option (Int) :=
  if (decide (k < d.1)) = true then
  G (0 ≤ i_1 ∧ i_1 < (d.2.2.1.length : Int)) (
  G (0 ≤ k ∧ k < ((ix d.2.2.1 i_1).length : Int)) (
  if (decide ((ix (ix d.2.2.1 i_1) k) < (0 : Int))) = true then
  some (2 : Int) else
  G (0 ≤ i_1 ∧ i_1 < (d.2.2.1.length : Int)) (
  G (0 ≤ k ∧ k < ((ix d.2.2.1 i_1).length : Int)) (
  if (decide ((d.2.2.1.length : Int) ≤ (ix (ix d.2.2.1 i_1) k))) = true then
  some (2 : Int) else
  G (fits (k + (1 : Int))) (
  r19 (k + (1 : Int))))))) else
  G (fits (i_1 + (1 : Int))) (
  r16 (i_1 + (1 : Int)))
noncomputable def r3_Check_L19_F (d : (Int × Int × (List (List Int)) × (List Int) × Unit)) (i_1 : Int) (r16 : (Int → Option (Int))) : (Int → Option (Int)) → Int → Option (Int) :=
  fun rec x => r3_Check_L19_B d i_1 r16 (fun k => rec k) x
noncomputable def r3_Check_L19 (d : (Int × Int × (List (List Int)) × (List Int) × Unit)) (i_1 : Int) (r16 : (Int → Option (Int))) (k : Int) : Option (Int) := LFix (r3_Check_L19_F d i_1 r16 ) k
noncomputable def r3_Check_L24_B (d : (Int × Int × (List (List Int)) × (List Int) × Unit)) (r24 : Int → Option (Int)) (i_2 : Int) : Option (Int) :=
  if (decide (i_2 < (d.2.2.1.length : Int))) = true then
  G (0 ≤ i_2 ∧ i_2 < (d.2.2.2.1.length : Int)) (
  if (decide (¬ (ix d.2.2.2.1 i_2) = (0 : Int))) = true then
  G (0 ≤ i_2 ∧ i_2 < (d.2.2.2.1.length : Int)) (
  if (decide (¬ (ix d.2.2.2.1 i_2) = (1 : Int))) = true then
  some (2 : Int) else
  G (fits (i_2 + (1 : Int))) (
  r24 (i_2 + (1 : Int)))) else
  G (fits (i_2 + (1 : Int))) (
  r24 (i_2 + (1 : Int)))) else
  some (0 : Int)
noncomputable def r3_Check_L24_F (d : (Int × Int × (List (List Int)) × (List Int) × Unit)) : (Int → Option (Int)) → Int → Option (Int) :=
  fun rec x => r3_Check_L24_B d (fun i_2 => rec i_2) x
noncomputable def r3_Check_L24 (d : (Int × Int × (List (List Int)) × (List Int) × Unit)) (i_2 : Int) : Option (Int) := LFix (r3_Check_L24_F d ) i_2
noncomputable def r3_Check_L16_B (d : (Int × Int × (List (List Int)) × (List Int) × Unit)) (r16 : Int → Option (Int)) (i_1 : Int) : Option (Int) :=
  if (decide (i_1 < (d.2.2.1.length : Int))) = true then
  r3_Check_L19 d i_1 r16 (0 : Int) else
  r3_Check_L24 d (0 : Int)
noncomputable def r3_Check_L16_F (d : (Int × Int × (List (List Int)) × (List Int) × Unit)) : (Int → Option (Int)) → Int → Option (Int) :=
  fun rec x => r3_Check_L16_B d (fun i_1 => rec i_1) x
noncomputable def r3_Check_L16 (d : (Int × Int × (List (List Int)) × (List Int) × Unit)) (i_1 : Int) : Option (Int) := LFix (r3_Check_L16_F d ) i_1
noncomputable def r3_Check_L9_B (d : (Int × Int × (List (List Int)) × (List Int) × Unit)) (r9 : Int → Option (Int)) (i : Int) : Option (Int) :=
  if (decide (i < (d.2.2.1.length : Int))) = true then
  G (0 ≤ i ∧ i < (d.2.2.1.length : Int)) (
  if (decide (¬ ((ix d.2.2.1 i).length : Int) = d.1)) = true then
  some (3 : Int) else
  G (fits (i + (1 : Int))) (
  r9 (i + (1 : Int)))) else
  if (decide (d.2.1 < (0 : Int))) = true then
  some (2 : Int) else
  if (decide ((d.2.2.1.length : Int) ≤ d.2.1)) = true then
  some (2 : Int) else
  r3_Check_L16 d (0 : Int)
noncomputable def r3_Check_L9_F (d : (Int × Int × (List (List Int)) × (List Int) × Unit)) : (Int → Option (Int)) → Int → Option (Int) :=
  fun rec x => r3_Check_L9_B d (fun i => rec i) x
noncomputable def r3_Check_L9 (d : (Int × Int × (List (List Int)) × (List Int) × Unit)) (i : Int) : Option (Int) := LFix (r3_Check_L9_F d ) i
noncomputable def r3_Check (d : (Int × Int × (List (List Int)) × (List Int) × Unit)) : Option (Int) :=
  if (decide (d.1 < (1 : Int))) = true then
  some (2 : Int) else
  if (decide ((4 : Int) < d.1)) = true then
  some (2 : Int) else
  if (decide ((d.2.2.1.length : Int) < (1 : Int))) = true then
  some (1 : Int) else
  if (decide ((3000 : Int) < (d.2.2.1.length : Int))) = true then
  some (1 : Int) else
  if (decide (¬ (d.2.2.2.1.length : Int) = (d.2.2.1.length : Int))) = true then
  some (3 : Int) else
  r3_Check_L9 d (0 : Int)
theorem r3_Check_L19_B_ch (r16 : Nat → Int → Option (Int)) (r16' : Int → Option (Int)) (h_r16 : ∀ a0, ChO (fun κ => r16 κ a0) (r16' a0)) (r19 : Nat → Int → Option (Int)) (r19' : Int → Option (Int)) (h_r19 : ∀ a0, ChO (fun κ => r19 κ a0) (r19' a0)) (d : (Int × Int × (List (List Int)) × (List Int) × Unit)) (i_1 : Int) (k : Int) : ChO (fun κ => r3_Check_L19_B d i_1 (r16 κ) (r19 κ) k) (r3_Check_L19_B d i_1 r16' r19' k) := by
  unfold r3_Check_L19_B
  repeat' with_reducible first | exact ChO.const _ | exact h_r16 _ | exact h_r19 _ | apply ChO.ite | apply ChO.G | apply ChO.both | (apply ChO.bind; intro _)
theorem r3_Check_L19_cn (r16 : Int → Option (Int)) (d : (Int × Int × (List (List Int)) × (List Int) × Unit)) (i_1 : Int) : Cn (r3_Check_L19_F d i_1 r16) := fun g h hg x => r3_Check_L19_B_ch (fun _ => r16) r16 (fun _ => ChO.const _) (fun κ k => g κ k) (fun k => h k) (fun k => hg k) d i_1 x
theorem r3_Check_L19_eq (r16 : Int → Option (Int)) (d : (Int × Int × (List (List Int)) × (List Int) × Unit)) (i_1 : Int) (k : Int) : r3_Check_L19 d i_1 r16 k = r3_Check_L19_B d i_1 r16 (r3_Check_L19 d i_1 r16) k := LFix_eq (r3_Check_L19_cn r16 d i_1) k
theorem r3_Check_L19_ch (r16 : Nat → Int → Option (Int)) (r16' : Int → Option (Int)) (h_r16 : ∀ a0, ChO (fun κ => r16 κ a0) (r16' a0)) (d : (Int × Int × (List (List Int)) × (List Int) × Unit)) (i_1 : Int) (k : Int) : ChO (fun κ => r3_Check_L19 d i_1 (r16 κ) k) (r3_Check_L19 d i_1 r16' k) := by
  unfold r3_Check_L19
  exact LFix_ch (fun κ => (r3_Check_L19_cn (r16 κ) d i_1).mono) (r3_Check_L19_cn r16' d i_1).mono (fun g h hg x => r3_Check_L19_B_ch r16 r16' h_r16 (fun κ k => g κ k) (fun k => h k) (fun k => hg k) d i_1 x) _
theorem r3_Check_L24_B_ch (r24 : Nat → Int → Option (Int)) (r24' : Int → Option (Int)) (h_r24 : ∀ a0, ChO (fun κ => r24 κ a0) (r24' a0)) (d : (Int × Int × (List (List Int)) × (List Int) × Unit)) (i_2 : Int) : ChO (fun κ => r3_Check_L24_B d (r24 κ) i_2) (r3_Check_L24_B d r24' i_2) := by
  unfold r3_Check_L24_B
  repeat' with_reducible first | exact ChO.const _ | exact h_r24 _ | (apply r3_Check_L19_ch <;> assumption) | apply ChO.ite | apply ChO.G | apply ChO.both | (apply ChO.bind; intro _)
theorem r3_Check_L24_cn  (d : (Int × Int × (List (List Int)) × (List Int) × Unit)) : Cn (r3_Check_L24_F d) := fun g h hg x => r3_Check_L24_B_ch  (fun κ i_2 => g κ i_2) (fun i_2 => h i_2) (fun i_2 => hg i_2) d x
theorem r3_Check_L24_eq  (d : (Int × Int × (List (List Int)) × (List Int) × Unit)) (i_2 : Int) : r3_Check_L24 d i_2 = r3_Check_L24_B d (r3_Check_L24 d) i_2 := LFix_eq (r3_Check_L24_cn d) i_2
theorem r3_Check_L16_B_ch (r16 : Nat → Int → Option (Int)) (r16' : Int → Option (Int)) (h_r16 : ∀ a0, ChO (fun κ => r16 κ a0) (r16' a0)) (d : (Int × Int × (List (List Int)) × (List Int) × Unit)) (i_1 : Int) : ChO (fun κ => r3_Check_L16_B d (r16 κ) i_1) (r3_Check_L16_B d r16' i_1) := by
  unfold r3_Check_L16_B
  repeat' with_reducible first | exact ChO.const _ | exact h_r16 _ | (apply r3_Check_L19_ch <;> assumption) | apply ChO.ite | apply ChO.G | apply ChO.both | (apply ChO.bind; intro _)
theorem r3_Check_L16_cn  (d : (Int × Int × (List (List Int)) × (List Int) × Unit)) : Cn (r3_Check_L16_F d) := fun g h hg x => r3_Check_L16_B_ch  (fun κ i_1 => g κ i_1) (fun i_1 => h i_1) (fun i_1 => hg i_1) d x
theorem r3_Check_L16_eq  (d : (Int × Int × (List (List Int)) × (List Int) × Unit)) (i_1 : Int) : r3_Check_L16 d i_1 = r3_Check_L16_B d (r3_Check_L16 d) i_1 := LFix_eq (r3_Check_L16_cn d) i_1
theorem r3_Check_L9_B_ch (r9 : Nat → Int → Option (Int)) (r9' : Int → Option (Int)) (h_r9 : ∀ a0, ChO (fun κ => r9 κ a0) (r9' a0)) (d : (Int × Int × (List (List Int)) × (List Int) × Unit)) (i : Int) : ChO (fun κ => r3_Check_L9_B d (r9 κ) i) (r3_Check_L9_B d r9' i) := by
  unfold r3_Check_L9_B
  repeat' with_reducible first | exact ChO.const _ | exact h_r9 _ | (apply r3_Check_L19_ch <;> assumption) | apply ChO.ite | apply ChO.G | apply ChO.both | (apply ChO.bind; intro _)
theorem r3_Check_L9_cn  (d : (Int × Int × (List (List Int)) × (List Int) × Unit)) : Cn (r3_Check_L9_F d) := fun g h hg x => r3_Check_L9_B_ch  (fun κ i => g κ i) (fun i => h i) (fun i => hg i) d x
theorem r3_Check_L9_eq  (d : (Int × Int × (List (List Int)) × (List Int) × Unit)) (i : Int) : r3_Check_L9 d i = r3_Check_L9_B d (r3_Check_L9 d) i := LFix_eq (r3_Check_L9_cn d) i

noncomputable def law_noDet (d : (Int × Int × (List (List Int)) × (List Int) × Unit)) : Option (Bool) :=
  if (decide (d.1 = (0 : Int))) = true then
  if (decide (d.2.1 = (0 : Int))) = true then
  G (fits ((d.2.2.1.length : Int) + (d.2.2.2.1.length : Int))) (
  some (decide (((d.2.2.1.length : Int) + (d.2.2.2.1.length : Int)) = (0 : Int)))) else
  some false else
  some false

noncomputable def r32_set_L3_B (l : (List Bool)) (r3 : Int → Int → Option (Int)) (s : Int) (q : Int) : Option (Int) :=
  if (decide (q < (l.length : Int))) = true then
  G (0 ≤ q ∧ q < (l.length : Int)) (
  if (ix l q) = true then
  G (0 ≤ q) (
  G (fits (q + (1 : Int))) (
  r3 (ior .i64 s (ishl .i64 (1 : Int) q)) (q + (1 : Int)))) else
  G (fits (q + (1 : Int))) (
  r3 s (q + (1 : Int)))) else
  some s
noncomputable def r32_set_L3_F (l : (List Bool)) : (Int × Int → Option (Int)) → Int × Int → Option (Int) :=
  fun rec x => r32_set_L3_B l (fun s q => rec (s, q)) x.1 x.2
noncomputable def r32_set_L3 (l : (List Bool)) (s : Int) (q : Int) : Option (Int) := LFix (r32_set_L3_F l ) (s, q)
noncomputable def r32_set (l : (List Bool)) : Option (Int) :=
  r32_set_L3 l (0 : Int) (0 : Int)
theorem r32_set_L3_B_ch (r3 : Nat → Int → Int → Option (Int)) (r3' : Int → Int → Option (Int)) (h_r3 : ∀ a0 a1, ChO (fun κ => r3 κ a0 a1) (r3' a0 a1)) (l : (List Bool)) (s : Int) (q : Int) : ChO (fun κ => r32_set_L3_B l (r3 κ) s q) (r32_set_L3_B l r3' s q) := by
  unfold r32_set_L3_B
  repeat' with_reducible first | exact ChO.const _ | exact h_r3 _ _ | apply ChO.ite | apply ChO.G | apply ChO.both | (apply ChO.bind; intro _)
theorem r32_set_L3_cn  (l : (List Bool)) : Cn (r32_set_L3_F l) := fun g h hg x => r32_set_L3_B_ch  (fun κ s q => g κ (s, q)) (fun s q => h (s, q)) (fun s q => hg (s, q)) l x.1 x.2
theorem r32_set_L3_eq  (l : (List Bool)) (s : Int) (q : Int) : r32_set_L3 l s q = r32_set_L3_B l (r32_set_L3 l) s q := LFix_eq (r32_set_L3_cn l) (s, q)

noncomputable def r3_Classes_J14_1 (d : (Int × Int × (List (List Int)) × (List Int) × Unit)) (class' : (List Int)) (q : Int) (first : (List Int)) (k : Int) (a : Int) (r14 : (Bool → Int → Option (List Int))) (t_1 : Bool) : Option (List Int) :=
  G (0 ≤ ix first k ∧ ix first k < (d.2.2.1.length : Int)) (
  G (0 ≤ a ∧ a < ((ix d.2.2.1 (ix first k)).length : Int)) (
  G (0 ≤ ix (ix d.2.2.1 (ix first k)) a ∧ ix (ix d.2.2.1 (ix first k)) a < (class'.length : Int)) (
  G ((ix (ix d.2.2.1 (ix first k)) a).toNat < class'.length) (
  G (0 ≤ q ∧ q < (d.2.2.1.length : Int)) (
  G (0 ≤ a ∧ a < ((ix d.2.2.1 q).length : Int)) (
  G (0 ≤ ix (ix d.2.2.1 q) a ∧ ix (ix d.2.2.1 q) a < (class'.length : Int)) (
  G ((ix (ix d.2.2.1 q) a).toNat < class'.length) (
  G (fits (a + (1 : Int))) (
  r14 (decide ((ix class' (ix (ix d.2.2.1 (ix first k)) a)) = (ix class' (ix (ix d.2.2.1 q) a)))) (a + (1 : Int)))))))))))
noncomputable def r3_Classes_J21 (q : Int) (next' : (List Int)) (r7 : (Int → Int → (List Int) → (List Int) → Option (List Int))) (k_1 : Int) (n_1 : Int) (first_1 : (List Int)) : Option (List Int) :=
  G (0 ≤ q ∧ q < (next'.length : Int)) (
  G ((q).toNat < next'.length) (
  G (fits (q + (1 : Int))) (
  r7 n_1 (q + (1 : Int)) (next'.set (q).toNat k_1) first_1)))
noncomputable def r3_Classes_J18 (n : Int) (q : Int) (next' : (List Int)) (first : (List Int)) (r7 : (Int → Int → (List Int) → (List Int) → Option (List Int))) (k_1 : Int) : Option (List Int) :=
  if (decide (k_1 = n)) = true then
  G (room first ([q]) 8) (
  G (fits (n + (1 : Int))) (
  r3_Classes_J21 q next' r7 k_1 (n + (1 : Int)) (first ++ ([q])))) else
  r3_Classes_J21 q next' r7 k_1 n first
noncomputable def r3_Classes_J14 (d : (Int × Int × (List (List Int)) × (List Int) × Unit)) (class' : (List Int)) (n : Int) (q : Int) (next' : (List Int)) (first : (List Int)) (r7 : (Int → Int → (List Int) → (List Int) → Option (List Int))) (k : Int) (r10 : (Int → Option (List Int))) (same : Bool) (a : Int) (r14 : (Bool → Int → Option (List Int))) (t : Bool) : Option (List Int) :=
  if t = true then
  r3_Classes_J14_1 d class' q first k a r14 t else
  if same = true then
  r3_Classes_J18 n q next' first r7 k else
  G (fits (k + (1 : Int))) (
  r10 (k + (1 : Int)))
noncomputable def r3_Classes_L14_B (d : (Int × Int × (List (List Int)) × (List Int) × Unit)) (class' : (List Int)) (n : Int) (q : Int) (next' : (List Int)) (first : (List Int)) (r7 : (Int → Int → (List Int) → (List Int) → Option (List Int))) (k : Int) (r10 : (Int → Option (List Int))) (r14 : Bool → Int → Option (List Int)) (same : Bool) (a : Int) : Option (List Int) :=
  if (decide (a < d.1)) = true then
  r3_Classes_J14 d class' n q next' first r7 k r10 same a r14 same else
  r3_Classes_J14 d class' n q next' first r7 k r10 same a r14 false
noncomputable def r3_Classes_L14_F (d : (Int × Int × (List (List Int)) × (List Int) × Unit)) (class' : (List Int)) (n : Int) (q : Int) (next' : (List Int)) (first : (List Int)) (r7 : (Int → Int → (List Int) → (List Int) → Option (List Int))) (k : Int) (r10 : (Int → Option (List Int))) : (Bool × Int → Option (List Int)) → Bool × Int → Option (List Int) :=
  fun rec x => r3_Classes_L14_B d class' n q next' first r7 k r10 (fun same a => rec (same, a)) x.1 x.2
noncomputable def r3_Classes_L14 (d : (Int × Int × (List (List Int)) × (List Int) × Unit)) (class' : (List Int)) (n : Int) (q : Int) (next' : (List Int)) (first : (List Int)) (r7 : (Int → Int → (List Int) → (List Int) → Option (List Int))) (k : Int) (r10 : (Int → Option (List Int))) (same : Bool) (a : Int) : Option (List Int) := LFix (r3_Classes_L14_F d class' n q next' first r7 k r10 ) (same, a)
noncomputable def r3_Classes_L10_B (d : (Int × Int × (List (List Int)) × (List Int) × Unit)) (class' : (List Int)) (n : Int) (q : Int) (next' : (List Int)) (first : (List Int)) (r7 : (Int → Int → (List Int) → (List Int) → Option (List Int))) (r10 : Int → Option (List Int)) (k : Int) : Option (List Int) :=
  if (decide (k < n)) = true then
  G (0 ≤ k ∧ k < (first.length : Int)) (
  G ((k).toNat < first.length) (
  G (0 ≤ ix first k ∧ ix first k < (class'.length : Int)) (
  G ((ix first k).toNat < class'.length) (
  G (0 ≤ q ∧ q < (class'.length : Int)) (
  G ((q).toNat < class'.length) (
  r3_Classes_L14 d class' n q next' first r7 k r10 (decide ((ix class' (ix first k)) = (ix class' q))) (0 : Int))))))) else
  r3_Classes_J18 n q next' first r7 k
noncomputable def r3_Classes_L10_F (d : (Int × Int × (List (List Int)) × (List Int) × Unit)) (class' : (List Int)) (n : Int) (q : Int) (next' : (List Int)) (first : (List Int)) (r7 : (Int → Int → (List Int) → (List Int) → Option (List Int))) : (Int → Option (List Int)) → Int → Option (List Int) :=
  fun rec x => r3_Classes_L10_B d class' n q next' first r7 (fun k => rec k) x
noncomputable def r3_Classes_L10 (d : (Int × Int × (List (List Int)) × (List Int) × Unit)) (class' : (List Int)) (n : Int) (q : Int) (next' : (List Int)) (first : (List Int)) (r7 : (Int → Int → (List Int) → (List Int) → Option (List Int))) (k : Int) : Option (List Int) := LFix (r3_Classes_L10_F d class' n q next' first r7 ) k
noncomputable def r3_Classes_L7_B (d : (Int × Int × (List (List Int)) × (List Int) × Unit)) (count : Int) (class' : (List Int)) (r3 : (Int → (List Int) → Option (List Int))) (r7 : Int → Int → (List Int) → (List Int) → Option (List Int)) (n : Int) (q : Int) (next' : (List Int)) (first : (List Int)) : Option (List Int) :=
  if (decide (q < (class'.length : Int))) = true then
  r3_Classes_L10 d class' n q next' first r7 (0 : Int) else
  if (decide (n = count)) = true then
  some next' else
  r3 n next'
noncomputable def r3_Classes_L7_F (d : (Int × Int × (List (List Int)) × (List Int) × Unit)) (count : Int) (class' : (List Int)) (r3 : (Int → (List Int) → Option (List Int))) : (Int × Int × (List Int) × (List Int) → Option (List Int)) → Int × Int × (List Int) × (List Int) → Option (List Int) :=
  fun rec x => r3_Classes_L7_B d count class' r3 (fun n q next' first => rec (n, q, next', first)) x.1 x.2.1 x.2.2.1 x.2.2.2
noncomputable def r3_Classes_L7 (d : (Int × Int × (List (List Int)) × (List Int) × Unit)) (count : Int) (class' : (List Int)) (r3 : (Int → (List Int) → Option (List Int))) (n : Int) (q : Int) (next' : (List Int)) (first : (List Int)) : Option (List Int) := LFix (r3_Classes_L7_F d count class' r3 ) (n, q, next', first)
noncomputable def r3_Classes_L3_B (d : (Int × Int × (List (List Int)) × (List Int) × Unit)) (r3 : Int → (List Int) → Option (List Int)) (count : Int) (class' : (List Int)) : Option (List Int) :=
  G (mkOK (class'.length : Int) (class'.length : Int) 8) (
  r3_Classes_L7 d count class' r3 (0 : Int) (0 : Int) (List.replicate ((class'.length : Int)).toNat (0 : Int)) ([]))
noncomputable def r3_Classes_L3_F (d : (Int × Int × (List (List Int)) × (List Int) × Unit)) : (Int × (List Int) → Option (List Int)) → Int × (List Int) → Option (List Int) :=
  fun rec x => r3_Classes_L3_B d (fun count class' => rec (count, class')) x.1 x.2
noncomputable def r3_Classes_L3 (d : (Int × Int × (List (List Int)) × (List Int) × Unit)) (count : Int) (class' : (List Int)) : Option (List Int) := LFix (r3_Classes_L3_F d ) (count, class')
noncomputable def r3_Classes (d : (Int × Int × (List (List Int)) × (List Int) × Unit)) : Option (List Int) :=
  G (room ([] : List Int) d.2.2.2.1 8) (
  r3_Classes_L3 d (0 : Int) (([] : List Int) ++ d.2.2.2.1))
theorem r3_Classes_J14_1_ch (r14 : Nat → Bool → Int → Option (List Int)) (r14' : Bool → Int → Option (List Int)) (h_r14 : ∀ a0 a1, ChO (fun κ => r14 κ a0 a1) (r14' a0 a1)) (d : (Int × Int × (List (List Int)) × (List Int) × Unit)) (class' : (List Int)) (q : Int) (first : (List Int)) (k : Int) (a : Int) (t_1 : Bool) : ChO (fun κ => r3_Classes_J14_1 d class' q first k a (r14 κ) t_1) (r3_Classes_J14_1 d class' q first k a r14' t_1) := by
  unfold r3_Classes_J14_1
  repeat' with_reducible first | exact ChO.const _ | exact h_r14 _ _ | apply ChO.ite | apply ChO.G | apply ChO.both | (apply ChO.bind; intro _)
theorem r3_Classes_J21_ch (r7 : Nat → Int → Int → (List Int) → (List Int) → Option (List Int)) (r7' : Int → Int → (List Int) → (List Int) → Option (List Int)) (h_r7 : ∀ a0 a1 a2 a3, ChO (fun κ => r7 κ a0 a1 a2 a3) (r7' a0 a1 a2 a3)) (q : Int) (next' : (List Int)) (k_1 : Int) (n_1 : Int) (first_1 : (List Int)) : ChO (fun κ => r3_Classes_J21 q next' (r7 κ) k_1 n_1 first_1) (r3_Classes_J21 q next' r7' k_1 n_1 first_1) := by
  unfold r3_Classes_J21
  repeat' with_reducible first | exact ChO.const _ | exact h_r7 _ _ _ _ | (apply r3_Classes_J14_1_ch <;> assumption) | apply ChO.ite | apply ChO.G | apply ChO.both | (apply ChO.bind; intro _)
theorem r3_Classes_J18_ch (r7 : Nat → Int → Int → (List Int) → (List Int) → Option (List Int)) (r7' : Int → Int → (List Int) → (List Int) → Option (List Int)) (h_r7 : ∀ a0 a1 a2 a3, ChO (fun κ => r7 κ a0 a1 a2 a3) (r7' a0 a1 a2 a3)) (n : Int) (q : Int) (next' : (List Int)) (first : (List Int)) (k_1 : Int) : ChO (fun κ => r3_Classes_J18 n q next' first (r7 κ) k_1) (r3_Classes_J18 n q next' first r7' k_1) := by
  unfold r3_Classes_J18
  repeat' with_reducible first | exact ChO.const _ | exact h_r7 _ _ _ _ | (apply r3_Classes_J14_1_ch <;> assumption) | (apply r3_Classes_J21_ch <;> assumption) | apply ChO.ite | apply ChO.G | apply ChO.both | (apply ChO.bind; intro _)
theorem r3_Classes_J14_ch (r7 : Nat → Int → Int → (List Int) → (List Int) → Option (List Int)) (r7' : Int → Int → (List Int) → (List Int) → Option (List Int)) (h_r7 : ∀ a0 a1 a2 a3, ChO (fun κ => r7 κ a0 a1 a2 a3) (r7' a0 a1 a2 a3)) (r10 : Nat → Int → Option (List Int)) (r10' : Int → Option (List Int)) (h_r10 : ∀ a0, ChO (fun κ => r10 κ a0) (r10' a0)) (r14 : Nat → Bool → Int → Option (List Int)) (r14' : Bool → Int → Option (List Int)) (h_r14 : ∀ a0 a1, ChO (fun κ => r14 κ a0 a1) (r14' a0 a1)) (d : (Int × Int × (List (List Int)) × (List Int) × Unit)) (class' : (List Int)) (n : Int) (q : Int) (next' : (List Int)) (first : (List Int)) (k : Int) (same : Bool) (a : Int) (t : Bool) : ChO (fun κ => r3_Classes_J14 d class' n q next' first (r7 κ) k (r10 κ) same a (r14 κ) t) (r3_Classes_J14 d class' n q next' first r7' k r10' same a r14' t) := by
  unfold r3_Classes_J14
  repeat' with_reducible first | exact ChO.const _ | exact h_r7 _ _ _ _ | exact h_r10 _ | exact h_r14 _ _ | (apply r3_Classes_J14_1_ch <;> assumption) | (apply r3_Classes_J21_ch <;> assumption) | (apply r3_Classes_J18_ch <;> assumption) | apply ChO.ite | apply ChO.G | apply ChO.both | (apply ChO.bind; intro _)
theorem r3_Classes_L14_B_ch (r7 : Nat → Int → Int → (List Int) → (List Int) → Option (List Int)) (r7' : Int → Int → (List Int) → (List Int) → Option (List Int)) (h_r7 : ∀ a0 a1 a2 a3, ChO (fun κ => r7 κ a0 a1 a2 a3) (r7' a0 a1 a2 a3)) (r10 : Nat → Int → Option (List Int)) (r10' : Int → Option (List Int)) (h_r10 : ∀ a0, ChO (fun κ => r10 κ a0) (r10' a0)) (r14 : Nat → Bool → Int → Option (List Int)) (r14' : Bool → Int → Option (List Int)) (h_r14 : ∀ a0 a1, ChO (fun κ => r14 κ a0 a1) (r14' a0 a1)) (d : (Int × Int × (List (List Int)) × (List Int) × Unit)) (class' : (List Int)) (n : Int) (q : Int) (next' : (List Int)) (first : (List Int)) (k : Int) (same : Bool) (a : Int) : ChO (fun κ => r3_Classes_L14_B d class' n q next' first (r7 κ) k (r10 κ) (r14 κ) same a) (r3_Classes_L14_B d class' n q next' first r7' k r10' r14' same a) := by
  unfold r3_Classes_L14_B
  repeat' with_reducible first | exact ChO.const _ | exact h_r7 _ _ _ _ | exact h_r10 _ | exact h_r14 _ _ | (apply r3_Classes_J14_1_ch <;> assumption) | (apply r3_Classes_J21_ch <;> assumption) | (apply r3_Classes_J18_ch <;> assumption) | (apply r3_Classes_J14_ch <;> assumption) | apply ChO.ite | apply ChO.G | apply ChO.both | (apply ChO.bind; intro _)
theorem r3_Classes_L14_cn (r7 : Int → Int → (List Int) → (List Int) → Option (List Int)) (r10 : Int → Option (List Int)) (d : (Int × Int × (List (List Int)) × (List Int) × Unit)) (class' : (List Int)) (n : Int) (q : Int) (next' : (List Int)) (first : (List Int)) (k : Int) : Cn (r3_Classes_L14_F d class' n q next' first r7 k r10) := fun g h hg x => r3_Classes_L14_B_ch (fun _ => r7) r7 (fun _ _ _ _ => ChO.const _) (fun _ => r10) r10 (fun _ => ChO.const _) (fun κ same a => g κ (same, a)) (fun same a => h (same, a)) (fun same a => hg (same, a)) d class' n q next' first k x.1 x.2
theorem r3_Classes_L14_eq (r7 : Int → Int → (List Int) → (List Int) → Option (List Int)) (r10 : Int → Option (List Int)) (d : (Int × Int × (List (List Int)) × (List Int) × Unit)) (class' : (List Int)) (n : Int) (q : Int) (next' : (List Int)) (first : (List Int)) (k : Int) (same : Bool) (a : Int) : r3_Classes_L14 d class' n q next' first r7 k r10 same a = r3_Classes_L14_B d class' n q next' first r7 k r10 (r3_Classes_L14 d class' n q next' first r7 k r10) same a := LFix_eq (r3_Classes_L14_cn r7 r10 d class' n q next' first k) (same, a)
theorem r3_Classes_L14_ch (r7 : Nat → Int → Int → (List Int) → (List Int) → Option (List Int)) (r7' : Int → Int → (List Int) → (List Int) → Option (List Int)) (h_r7 : ∀ a0 a1 a2 a3, ChO (fun κ => r7 κ a0 a1 a2 a3) (r7' a0 a1 a2 a3)) (r10 : Nat → Int → Option (List Int)) (r10' : Int → Option (List Int)) (h_r10 : ∀ a0, ChO (fun κ => r10 κ a0) (r10' a0)) (d : (Int × Int × (List (List Int)) × (List Int) × Unit)) (class' : (List Int)) (n : Int) (q : Int) (next' : (List Int)) (first : (List Int)) (k : Int) (same : Bool) (a : Int) : ChO (fun κ => r3_Classes_L14 d class' n q next' first (r7 κ) k (r10 κ) same a) (r3_Classes_L14 d class' n q next' first r7' k r10' same a) := by
  unfold r3_Classes_L14
  exact LFix_ch (fun κ => (r3_Classes_L14_cn (r7 κ) (r10 κ) d class' n q next' first k).mono) (r3_Classes_L14_cn r7' r10' d class' n q next' first k).mono (fun g h hg x => r3_Classes_L14_B_ch r7 r7' h_r7 r10 r10' h_r10 (fun κ same a => g κ (same, a)) (fun same a => h (same, a)) (fun same a => hg (same, a)) d class' n q next' first k x.1 x.2) _
theorem r3_Classes_L10_B_ch (r7 : Nat → Int → Int → (List Int) → (List Int) → Option (List Int)) (r7' : Int → Int → (List Int) → (List Int) → Option (List Int)) (h_r7 : ∀ a0 a1 a2 a3, ChO (fun κ => r7 κ a0 a1 a2 a3) (r7' a0 a1 a2 a3)) (r10 : Nat → Int → Option (List Int)) (r10' : Int → Option (List Int)) (h_r10 : ∀ a0, ChO (fun κ => r10 κ a0) (r10' a0)) (d : (Int × Int × (List (List Int)) × (List Int) × Unit)) (class' : (List Int)) (n : Int) (q : Int) (next' : (List Int)) (first : (List Int)) (k : Int) : ChO (fun κ => r3_Classes_L10_B d class' n q next' first (r7 κ) (r10 κ) k) (r3_Classes_L10_B d class' n q next' first r7' r10' k) := by
  unfold r3_Classes_L10_B
  repeat' with_reducible first | exact ChO.const _ | exact h_r7 _ _ _ _ | exact h_r10 _ | (apply r3_Classes_J14_1_ch <;> assumption) | (apply r3_Classes_J21_ch <;> assumption) | (apply r3_Classes_J18_ch <;> assumption) | (apply r3_Classes_J14_ch <;> assumption) | (apply r3_Classes_L14_ch <;> assumption) | apply ChO.ite | apply ChO.G | apply ChO.both | (apply ChO.bind; intro _)
theorem r3_Classes_L10_cn (r7 : Int → Int → (List Int) → (List Int) → Option (List Int)) (d : (Int × Int × (List (List Int)) × (List Int) × Unit)) (class' : (List Int)) (n : Int) (q : Int) (next' : (List Int)) (first : (List Int)) : Cn (r3_Classes_L10_F d class' n q next' first r7) := fun g h hg x => r3_Classes_L10_B_ch (fun _ => r7) r7 (fun _ _ _ _ => ChO.const _) (fun κ k => g κ k) (fun k => h k) (fun k => hg k) d class' n q next' first x
theorem r3_Classes_L10_eq (r7 : Int → Int → (List Int) → (List Int) → Option (List Int)) (d : (Int × Int × (List (List Int)) × (List Int) × Unit)) (class' : (List Int)) (n : Int) (q : Int) (next' : (List Int)) (first : (List Int)) (k : Int) : r3_Classes_L10 d class' n q next' first r7 k = r3_Classes_L10_B d class' n q next' first r7 (r3_Classes_L10 d class' n q next' first r7) k := LFix_eq (r3_Classes_L10_cn r7 d class' n q next' first) k
theorem r3_Classes_L10_ch (r7 : Nat → Int → Int → (List Int) → (List Int) → Option (List Int)) (r7' : Int → Int → (List Int) → (List Int) → Option (List Int)) (h_r7 : ∀ a0 a1 a2 a3, ChO (fun κ => r7 κ a0 a1 a2 a3) (r7' a0 a1 a2 a3)) (d : (Int × Int × (List (List Int)) × (List Int) × Unit)) (class' : (List Int)) (n : Int) (q : Int) (next' : (List Int)) (first : (List Int)) (k : Int) : ChO (fun κ => r3_Classes_L10 d class' n q next' first (r7 κ) k) (r3_Classes_L10 d class' n q next' first r7' k) := by
  unfold r3_Classes_L10
  exact LFix_ch (fun κ => (r3_Classes_L10_cn (r7 κ) d class' n q next' first).mono) (r3_Classes_L10_cn r7' d class' n q next' first).mono (fun g h hg x => r3_Classes_L10_B_ch r7 r7' h_r7 (fun κ k => g κ k) (fun k => h k) (fun k => hg k) d class' n q next' first x) _
theorem r3_Classes_L7_B_ch (r3 : Nat → Int → (List Int) → Option (List Int)) (r3' : Int → (List Int) → Option (List Int)) (h_r3 : ∀ a0 a1, ChO (fun κ => r3 κ a0 a1) (r3' a0 a1)) (r7 : Nat → Int → Int → (List Int) → (List Int) → Option (List Int)) (r7' : Int → Int → (List Int) → (List Int) → Option (List Int)) (h_r7 : ∀ a0 a1 a2 a3, ChO (fun κ => r7 κ a0 a1 a2 a3) (r7' a0 a1 a2 a3)) (d : (Int × Int × (List (List Int)) × (List Int) × Unit)) (count : Int) (class' : (List Int)) (n : Int) (q : Int) (next' : (List Int)) (first : (List Int)) : ChO (fun κ => r3_Classes_L7_B d count class' (r3 κ) (r7 κ) n q next' first) (r3_Classes_L7_B d count class' r3' r7' n q next' first) := by
  unfold r3_Classes_L7_B
  repeat' with_reducible first | exact ChO.const _ | exact h_r3 _ _ | exact h_r7 _ _ _ _ | (apply r3_Classes_J14_1_ch <;> assumption) | (apply r3_Classes_J21_ch <;> assumption) | (apply r3_Classes_J18_ch <;> assumption) | (apply r3_Classes_J14_ch <;> assumption) | (apply r3_Classes_L14_ch <;> assumption) | (apply r3_Classes_L10_ch <;> assumption) | apply ChO.ite | apply ChO.G | apply ChO.both | (apply ChO.bind; intro _)
theorem r3_Classes_L7_cn (r3 : Int → (List Int) → Option (List Int)) (d : (Int × Int × (List (List Int)) × (List Int) × Unit)) (count : Int) (class' : (List Int)) : Cn (r3_Classes_L7_F d count class' r3) := fun g h hg x => r3_Classes_L7_B_ch (fun _ => r3) r3 (fun _ _ => ChO.const _) (fun κ n q next' first => g κ (n, q, next', first)) (fun n q next' first => h (n, q, next', first)) (fun n q next' first => hg (n, q, next', first)) d count class' x.1 x.2.1 x.2.2.1 x.2.2.2
theorem r3_Classes_L7_eq (r3 : Int → (List Int) → Option (List Int)) (d : (Int × Int × (List (List Int)) × (List Int) × Unit)) (count : Int) (class' : (List Int)) (n : Int) (q : Int) (next' : (List Int)) (first : (List Int)) : r3_Classes_L7 d count class' r3 n q next' first = r3_Classes_L7_B d count class' r3 (r3_Classes_L7 d count class' r3) n q next' first := LFix_eq (r3_Classes_L7_cn r3 d count class') (n, q, next', first)
theorem r3_Classes_L7_ch (r3 : Nat → Int → (List Int) → Option (List Int)) (r3' : Int → (List Int) → Option (List Int)) (h_r3 : ∀ a0 a1, ChO (fun κ => r3 κ a0 a1) (r3' a0 a1)) (d : (Int × Int × (List (List Int)) × (List Int) × Unit)) (count : Int) (class' : (List Int)) (n : Int) (q : Int) (next' : (List Int)) (first : (List Int)) : ChO (fun κ => r3_Classes_L7 d count class' (r3 κ) n q next' first) (r3_Classes_L7 d count class' r3' n q next' first) := by
  unfold r3_Classes_L7
  exact LFix_ch (fun κ => (r3_Classes_L7_cn (r3 κ) d count class').mono) (r3_Classes_L7_cn r3' d count class').mono (fun g h hg x => r3_Classes_L7_B_ch r3 r3' h_r3 (fun κ n q next' first => g κ (n, q, next', first)) (fun n q next' first => h (n, q, next', first)) (fun n q next' first => hg (n, q, next', first)) d count class' x.1 x.2.1 x.2.2.1 x.2.2.2) _
theorem r3_Classes_L3_B_ch (r3 : Nat → Int → (List Int) → Option (List Int)) (r3' : Int → (List Int) → Option (List Int)) (h_r3 : ∀ a0 a1, ChO (fun κ => r3 κ a0 a1) (r3' a0 a1)) (d : (Int × Int × (List (List Int)) × (List Int) × Unit)) (count : Int) (class' : (List Int)) : ChO (fun κ => r3_Classes_L3_B d (r3 κ) count class') (r3_Classes_L3_B d r3' count class') := by
  unfold r3_Classes_L3_B
  repeat' with_reducible first | exact ChO.const _ | exact h_r3 _ _ | (apply r3_Classes_J14_1_ch <;> assumption) | (apply r3_Classes_J21_ch <;> assumption) | (apply r3_Classes_J18_ch <;> assumption) | (apply r3_Classes_J14_ch <;> assumption) | (apply r3_Classes_L14_ch <;> assumption) | (apply r3_Classes_L10_ch <;> assumption) | (apply r3_Classes_L7_ch <;> assumption) | apply ChO.ite | apply ChO.G | apply ChO.both | (apply ChO.bind; intro _)
theorem r3_Classes_L3_cn  (d : (Int × Int × (List (List Int)) × (List Int) × Unit)) : Cn (r3_Classes_L3_F d) := fun g h hg x => r3_Classes_L3_B_ch  (fun κ count class' => g κ (count, class')) (fun count class' => h (count, class')) (fun count class' => hg (count, class')) d x.1 x.2
theorem r3_Classes_L3_eq  (d : (Int × Int × (List (List Int)) × (List Int) × Unit)) (count : Int) (class' : (List Int)) : r3_Classes_L3 d count class' = r3_Classes_L3_B d (r3_Classes_L3 d) count class' := LFix_eq (r3_Classes_L3_cn d) (count, class')

noncomputable def r3_Least_J20 (d : (Int × Int × (List (List Int)) × (List Int) × Unit)) (y' : (List Int)) (i_1 : Int) (a : Int) (row_1 : (List Int)) (next' : (List Int)) (r15 : (Int → (List Int) → (List Int) → (List Int) → Option (Int × Int × (List (List Int)) × (List Int) × Unit))) (number_3 : (List Int)) (row_2 : (List Int)) : Option (Int × Int × (List (List Int)) × (List Int) × Unit) :=
  G (0 ≤ ix (ix d.2.2.1 (ix row_1 i_1)) a ∧ ix (ix d.2.2.1 (ix row_1 i_1)) a < (y'.length : Int)) (
  G ((ix (ix d.2.2.1 (ix row_1 i_1)) a).toNat < y'.length) (
  G (0 ≤ ix y' (ix (ix d.2.2.1 (ix row_1 i_1)) a) ∧ ix y' (ix (ix d.2.2.1 (ix row_1 i_1)) a) < (number_3.length : Int)) (
  G ((ix y' (ix (ix d.2.2.1 (ix row_1 i_1)) a)).toNat < number_3.length) (
  G (0 ≤ a ∧ a < (next'.length : Int)) (
  G ((a).toNat < next'.length) (
  G (fits (a + (1 : Int))) (
  r15 (a + (1 : Int)) number_3 row_2 (next'.set (a).toNat (ix number_3 (ix y' (ix (ix d.2.2.1 (ix row_1 i_1)) a)))))))))))
noncomputable def r3_Least_L15_B (d : (Int × Int × (List (List Int)) × (List Int) × Unit)) (y' : (List Int)) (i_1 : Int) (out : Int) (out_1 : Int) (out_2 : (List (List Int))) (out_3 : (List Int)) (r11 : (Int → (List Int) → (List Int) → Int → Int → (List (List Int)) → (List Int) → Option (Int × Int × (List (List Int)) × (List Int) × Unit))) (r15 : Int → (List Int) → (List Int) → (List Int) → Option (Int × Int × (List (List Int)) × (List Int) × Unit)) (a : Int) (number_2 : (List Int)) (row_1 : (List Int)) (next' : (List Int)) : Option (Int × Int × (List (List Int)) × (List Int) × Unit) :=
  if (decide (a < d.1)) = true then
  G (0 ≤ i_1 ∧ i_1 < (row_1.length : Int)) (
  G ((i_1).toNat < row_1.length) (
  G (0 ≤ ix row_1 i_1 ∧ ix row_1 i_1 < (d.2.2.1.length : Int)) (
  G (0 ≤ a ∧ a < ((ix d.2.2.1 (ix row_1 i_1)).length : Int)) (
  G (0 ≤ ix (ix d.2.2.1 (ix row_1 i_1)) a ∧ ix (ix d.2.2.1 (ix row_1 i_1)) a < (y'.length : Int)) (
  G ((ix (ix d.2.2.1 (ix row_1 i_1)) a).toNat < y'.length) (
  G (0 ≤ ix y' (ix (ix d.2.2.1 (ix row_1 i_1)) a) ∧ ix y' (ix (ix d.2.2.1 (ix row_1 i_1)) a) < (number_2.length : Int)) (
  G ((ix y' (ix (ix d.2.2.1 (ix row_1 i_1)) a)).toNat < number_2.length) (
  if (decide ((ix number_2 (ix y' (ix (ix d.2.2.1 (ix row_1 i_1)) a))) < (0 : Int))) = true then
  G (0 ≤ ix (ix d.2.2.1 (ix row_1 i_1)) a ∧ ix (ix d.2.2.1 (ix row_1 i_1)) a < (y'.length : Int)) (
  G ((ix (ix d.2.2.1 (ix row_1 i_1)) a).toNat < y'.length) (
  G (0 ≤ ix y' (ix (ix d.2.2.1 (ix row_1 i_1)) a) ∧ ix y' (ix (ix d.2.2.1 (ix row_1 i_1)) a) < (number_2.length : Int)) (
  G ((ix y' (ix (ix d.2.2.1 (ix row_1 i_1)) a)).toNat < number_2.length) (
  G (room row_1 ([ix (ix d.2.2.1 (ix row_1 i_1)) a]) 8) (
  r3_Least_J20 d y' i_1 a row_1 next' r15 (number_2.set (ix y' (ix (ix d.2.2.1 (ix row_1 i_1)) a)).toNat (row_1.length : Int)) (row_1 ++ ([ix (ix d.2.2.1 (ix row_1 i_1)) a]))))))) else
  r3_Least_J20 d y' i_1 a row_1 next' r15 number_2 row_1)))))))) else
  G (room out_2 ([next']) 24) (
  G (0 ≤ i_1 ∧ i_1 < (row_1.length : Int)) (
  G ((i_1).toNat < row_1.length) (
  G (0 ≤ ix row_1 i_1 ∧ ix row_1 i_1 < (d.2.2.2.1.length : Int)) (
  G (room out_3 ([ix d.2.2.2.1 (ix row_1 i_1)]) 8) (
  G (fits (i_1 + (1 : Int))) (
  r11 (i_1 + (1 : Int)) number_2 row_1 out out_1 (out_2 ++ ([next'])) (out_3 ++ ([ix d.2.2.2.1 (ix row_1 i_1)]))))))))
noncomputable def r3_Least_L15_F (d : (Int × Int × (List (List Int)) × (List Int) × Unit)) (y' : (List Int)) (i_1 : Int) (out : Int) (out_1 : Int) (out_2 : (List (List Int))) (out_3 : (List Int)) (r11 : (Int → (List Int) → (List Int) → Int → Int → (List (List Int)) → (List Int) → Option (Int × Int × (List (List Int)) × (List Int) × Unit))) : (Int × (List Int) × (List Int) × (List Int) → Option (Int × Int × (List (List Int)) × (List Int) × Unit)) → Int × (List Int) × (List Int) × (List Int) → Option (Int × Int × (List (List Int)) × (List Int) × Unit) :=
  fun rec x => r3_Least_L15_B d y' i_1 out out_1 out_2 out_3 r11 (fun a number_2 row_1 next' => rec (a, number_2, row_1, next')) x.1 x.2.1 x.2.2.1 x.2.2.2
noncomputable def r3_Least_L15 (d : (Int × Int × (List (List Int)) × (List Int) × Unit)) (y' : (List Int)) (i_1 : Int) (out : Int) (out_1 : Int) (out_2 : (List (List Int))) (out_3 : (List Int)) (r11 : (Int → (List Int) → (List Int) → Int → Int → (List (List Int)) → (List Int) → Option (Int × Int × (List (List Int)) × (List Int) × Unit))) (a : Int) (number_2 : (List Int)) (row_1 : (List Int)) (next' : (List Int)) : Option (Int × Int × (List (List Int)) × (List Int) × Unit) := LFix (r3_Least_L15_F d y' i_1 out out_1 out_2 out_3 r11 ) (a, number_2, row_1, next')
noncomputable def r3_Least_L11_B (d : (Int × Int × (List (List Int)) × (List Int) × Unit)) (y' : (List Int)) (r11 : Int → (List Int) → (List Int) → Int → Int → (List (List Int)) → (List Int) → Option (Int × Int × (List (List Int)) × (List Int) × Unit)) (i_1 : Int) (number_1 : (List Int)) (row : (List Int)) (out : Int) (out_1 : Int) (out_2 : (List (List Int))) (out_3 : (List Int)) : Option (Int × Int × (List (List Int)) × (List Int) × Unit) :=
  if (decide (i_1 < (row.length : Int))) = true then
  G (mkOK d.1 d.1 8) (
  r3_Least_L15 d y' i_1 out out_1 out_2 out_3 r11 (0 : Int) number_1 row (List.replicate (d.1).toNat (0 : Int))) else
  some (out, (out_1, (out_2, (out_3, ()))))
noncomputable def r3_Least_L11_F (d : (Int × Int × (List (List Int)) × (List Int) × Unit)) (y' : (List Int)) : (Int × (List Int) × (List Int) × Int × Int × (List (List Int)) × (List Int) → Option (Int × Int × (List (List Int)) × (List Int) × Unit)) → Int × (List Int) × (List Int) × Int × Int × (List (List Int)) × (List Int) → Option (Int × Int × (List (List Int)) × (List Int) × Unit) :=
  fun rec x => r3_Least_L11_B d y' (fun i_1 number_1 row out out_1 out_2 out_3 => rec (i_1, number_1, row, out, out_1, out_2, out_3)) x.1 x.2.1 x.2.2.1 x.2.2.2.1 x.2.2.2.2.1 x.2.2.2.2.2.1 x.2.2.2.2.2.2
noncomputable def r3_Least_L11 (d : (Int × Int × (List (List Int)) × (List Int) × Unit)) (y' : (List Int)) (i_1 : Int) (number_1 : (List Int)) (row : (List Int)) (out : Int) (out_1 : Int) (out_2 : (List (List Int))) (out_3 : (List Int)) : Option (Int × Int × (List (List Int)) × (List Int) × Unit) := LFix (r3_Least_L11_F d y' ) (i_1, number_1, row, out, out_1, out_2, out_3)
noncomputable def r3_Least_L4_B (d : (Int × Int × (List (List Int)) × (List Int) × Unit)) (y' : (List Int)) (r4 : Int → (List Int) → Option (Int × Int × (List (List Int)) × (List Int) × Unit)) (i : Int) (number : (List Int)) : Option (Int × Int × (List (List Int)) × (List Int) × Unit) :=
  if (decide (i < (number.length : Int))) = true then
  G (0 ≤ i ∧ i < (number.length : Int)) (
  G ((i).toNat < number.length) (
  G (fits (i + (1 : Int))) (
  r4 (i + (1 : Int)) (number.set (i).toNat (-1 : Int))))) else
  G (0 ≤ d.2.1 ∧ d.2.1 < (y'.length : Int)) (
  G ((d.2.1).toNat < y'.length) (
  G (0 ≤ ix y' d.2.1 ∧ ix y' d.2.1 < (number.length : Int)) (
  G ((ix y' d.2.1).toNat < number.length) (
  r3_Least_L11 d y' (0 : Int) (number.set (ix y' d.2.1).toNat (0 : Int)) ([d.2.1]) d.1 (0 : Int) ([] : List (List Int)) ([] : List Int)))))
noncomputable def r3_Least_L4_F (d : (Int × Int × (List (List Int)) × (List Int) × Unit)) (y' : (List Int)) : (Int × (List Int) → Option (Int × Int × (List (List Int)) × (List Int) × Unit)) → Int × (List Int) → Option (Int × Int × (List (List Int)) × (List Int) × Unit) :=
  fun rec x => r3_Least_L4_B d y' (fun i number => rec (i, number)) x.1 x.2
noncomputable def r3_Least_L4 (d : (Int × Int × (List (List Int)) × (List Int) × Unit)) (y' : (List Int)) (i : Int) (number : (List Int)) : Option (Int × Int × (List (List Int)) × (List Int) × Unit) := LFix (r3_Least_L4_F d y' ) (i, number)
noncomputable def r3_Least (d : (Int × Int × (List (List Int)) × (List Int) × Unit)) : Option (Int × Int × (List (List Int)) × (List Int) × Unit) :=
  (r3_Classes (d.1, (d.2.1, (d.2.2.1, (d.2.2.2.1, ()))))).bind (fun y' =>
  G (mkOK (y'.length : Int) (y'.length : Int) 8) (
  r3_Least_L4 d y' (0 : Int) (List.replicate ((y'.length : Int)).toNat (0 : Int))))
theorem r3_Least_J20_ch (r15 : Nat → Int → (List Int) → (List Int) → (List Int) → Option (Int × Int × (List (List Int)) × (List Int) × Unit)) (r15' : Int → (List Int) → (List Int) → (List Int) → Option (Int × Int × (List (List Int)) × (List Int) × Unit)) (h_r15 : ∀ a0 a1 a2 a3, ChO (fun κ => r15 κ a0 a1 a2 a3) (r15' a0 a1 a2 a3)) (d : (Int × Int × (List (List Int)) × (List Int) × Unit)) (y' : (List Int)) (i_1 : Int) (a : Int) (row_1 : (List Int)) (next' : (List Int)) (number_3 : (List Int)) (row_2 : (List Int)) : ChO (fun κ => r3_Least_J20 d y' i_1 a row_1 next' (r15 κ) number_3 row_2) (r3_Least_J20 d y' i_1 a row_1 next' r15' number_3 row_2) := by
  unfold r3_Least_J20
  repeat' with_reducible first | exact ChO.const _ | exact h_r15 _ _ _ _ | apply ChO.ite | apply ChO.G | apply ChO.both | (apply ChO.bind; intro _)
theorem r3_Least_L15_B_ch (r11 : Nat → Int → (List Int) → (List Int) → Int → Int → (List (List Int)) → (List Int) → Option (Int × Int × (List (List Int)) × (List Int) × Unit)) (r11' : Int → (List Int) → (List Int) → Int → Int → (List (List Int)) → (List Int) → Option (Int × Int × (List (List Int)) × (List Int) × Unit)) (h_r11 : ∀ a0 a1 a2 a3 a4 a5 a6, ChO (fun κ => r11 κ a0 a1 a2 a3 a4 a5 a6) (r11' a0 a1 a2 a3 a4 a5 a6)) (r15 : Nat → Int → (List Int) → (List Int) → (List Int) → Option (Int × Int × (List (List Int)) × (List Int) × Unit)) (r15' : Int → (List Int) → (List Int) → (List Int) → Option (Int × Int × (List (List Int)) × (List Int) × Unit)) (h_r15 : ∀ a0 a1 a2 a3, ChO (fun κ => r15 κ a0 a1 a2 a3) (r15' a0 a1 a2 a3)) (d : (Int × Int × (List (List Int)) × (List Int) × Unit)) (y' : (List Int)) (i_1 : Int) (out : Int) (out_1 : Int) (out_2 : (List (List Int))) (out_3 : (List Int)) (a : Int) (number_2 : (List Int)) (row_1 : (List Int)) (next' : (List Int)) : ChO (fun κ => r3_Least_L15_B d y' i_1 out out_1 out_2 out_3 (r11 κ) (r15 κ) a number_2 row_1 next') (r3_Least_L15_B d y' i_1 out out_1 out_2 out_3 r11' r15' a number_2 row_1 next') := by
  unfold r3_Least_L15_B
  repeat' with_reducible first | exact ChO.const _ | exact h_r11 _ _ _ _ _ _ _ | exact h_r15 _ _ _ _ | (apply r3_Least_J20_ch <;> assumption) | apply ChO.ite | apply ChO.G | apply ChO.both | (apply ChO.bind; intro _)
theorem r3_Least_L15_cn (r11 : Int → (List Int) → (List Int) → Int → Int → (List (List Int)) → (List Int) → Option (Int × Int × (List (List Int)) × (List Int) × Unit)) (d : (Int × Int × (List (List Int)) × (List Int) × Unit)) (y' : (List Int)) (i_1 : Int) (out : Int) (out_1 : Int) (out_2 : (List (List Int))) (out_3 : (List Int)) : Cn (r3_Least_L15_F d y' i_1 out out_1 out_2 out_3 r11) := fun g h hg x => r3_Least_L15_B_ch (fun _ => r11) r11 (fun _ _ _ _ _ _ _ => ChO.const _) (fun κ a number_2 row_1 next' => g κ (a, number_2, row_1, next')) (fun a number_2 row_1 next' => h (a, number_2, row_1, next')) (fun a number_2 row_1 next' => hg (a, number_2, row_1, next')) d y' i_1 out out_1 out_2 out_3 x.1 x.2.1 x.2.2.1 x.2.2.2
theorem r3_Least_L15_eq (r11 : Int → (List Int) → (List Int) → Int → Int → (List (List Int)) → (List Int) → Option (Int × Int × (List (List Int)) × (List Int) × Unit)) (d : (Int × Int × (List (List Int)) × (List Int) × Unit)) (y' : (List Int)) (i_1 : Int) (out : Int) (out_1 : Int) (out_2 : (List (List Int))) (out_3 : (List Int)) (a : Int) (number_2 : (List Int)) (row_1 : (List Int)) (next' : (List Int)) : r3_Least_L15 d y' i_1 out out_1 out_2 out_3 r11 a number_2 row_1 next' = r3_Least_L15_B d y' i_1 out out_1 out_2 out_3 r11 (r3_Least_L15 d y' i_1 out out_1 out_2 out_3 r11) a number_2 row_1 next' := LFix_eq (r3_Least_L15_cn r11 d y' i_1 out out_1 out_2 out_3) (a, number_2, row_1, next')
theorem r3_Least_L15_ch (r11 : Nat → Int → (List Int) → (List Int) → Int → Int → (List (List Int)) → (List Int) → Option (Int × Int × (List (List Int)) × (List Int) × Unit)) (r11' : Int → (List Int) → (List Int) → Int → Int → (List (List Int)) → (List Int) → Option (Int × Int × (List (List Int)) × (List Int) × Unit)) (h_r11 : ∀ a0 a1 a2 a3 a4 a5 a6, ChO (fun κ => r11 κ a0 a1 a2 a3 a4 a5 a6) (r11' a0 a1 a2 a3 a4 a5 a6)) (d : (Int × Int × (List (List Int)) × (List Int) × Unit)) (y' : (List Int)) (i_1 : Int) (out : Int) (out_1 : Int) (out_2 : (List (List Int))) (out_3 : (List Int)) (a : Int) (number_2 : (List Int)) (row_1 : (List Int)) (next' : (List Int)) : ChO (fun κ => r3_Least_L15 d y' i_1 out out_1 out_2 out_3 (r11 κ) a number_2 row_1 next') (r3_Least_L15 d y' i_1 out out_1 out_2 out_3 r11' a number_2 row_1 next') := by
  unfold r3_Least_L15
  exact LFix_ch (fun κ => (r3_Least_L15_cn (r11 κ) d y' i_1 out out_1 out_2 out_3).mono) (r3_Least_L15_cn r11' d y' i_1 out out_1 out_2 out_3).mono (fun g h hg x => r3_Least_L15_B_ch r11 r11' h_r11 (fun κ a number_2 row_1 next' => g κ (a, number_2, row_1, next')) (fun a number_2 row_1 next' => h (a, number_2, row_1, next')) (fun a number_2 row_1 next' => hg (a, number_2, row_1, next')) d y' i_1 out out_1 out_2 out_3 x.1 x.2.1 x.2.2.1 x.2.2.2) _
theorem r3_Least_L11_B_ch (r11 : Nat → Int → (List Int) → (List Int) → Int → Int → (List (List Int)) → (List Int) → Option (Int × Int × (List (List Int)) × (List Int) × Unit)) (r11' : Int → (List Int) → (List Int) → Int → Int → (List (List Int)) → (List Int) → Option (Int × Int × (List (List Int)) × (List Int) × Unit)) (h_r11 : ∀ a0 a1 a2 a3 a4 a5 a6, ChO (fun κ => r11 κ a0 a1 a2 a3 a4 a5 a6) (r11' a0 a1 a2 a3 a4 a5 a6)) (d : (Int × Int × (List (List Int)) × (List Int) × Unit)) (y' : (List Int)) (i_1 : Int) (number_1 : (List Int)) (row : (List Int)) (out : Int) (out_1 : Int) (out_2 : (List (List Int))) (out_3 : (List Int)) : ChO (fun κ => r3_Least_L11_B d y' (r11 κ) i_1 number_1 row out out_1 out_2 out_3) (r3_Least_L11_B d y' r11' i_1 number_1 row out out_1 out_2 out_3) := by
  unfold r3_Least_L11_B
  repeat' with_reducible first | exact ChO.const _ | exact h_r11 _ _ _ _ _ _ _ | (apply r3_Least_J20_ch <;> assumption) | (apply r3_Least_L15_ch <;> assumption) | apply ChO.ite | apply ChO.G | apply ChO.both | (apply ChO.bind; intro _)
theorem r3_Least_L11_cn  (d : (Int × Int × (List (List Int)) × (List Int) × Unit)) (y' : (List Int)) : Cn (r3_Least_L11_F d y') := fun g h hg x => r3_Least_L11_B_ch  (fun κ i_1 number_1 row out out_1 out_2 out_3 => g κ (i_1, number_1, row, out, out_1, out_2, out_3)) (fun i_1 number_1 row out out_1 out_2 out_3 => h (i_1, number_1, row, out, out_1, out_2, out_3)) (fun i_1 number_1 row out out_1 out_2 out_3 => hg (i_1, number_1, row, out, out_1, out_2, out_3)) d y' x.1 x.2.1 x.2.2.1 x.2.2.2.1 x.2.2.2.2.1 x.2.2.2.2.2.1 x.2.2.2.2.2.2
theorem r3_Least_L11_eq  (d : (Int × Int × (List (List Int)) × (List Int) × Unit)) (y' : (List Int)) (i_1 : Int) (number_1 : (List Int)) (row : (List Int)) (out : Int) (out_1 : Int) (out_2 : (List (List Int))) (out_3 : (List Int)) : r3_Least_L11 d y' i_1 number_1 row out out_1 out_2 out_3 = r3_Least_L11_B d y' (r3_Least_L11 d y') i_1 number_1 row out out_1 out_2 out_3 := LFix_eq (r3_Least_L11_cn d y') (i_1, number_1, row, out, out_1, out_2, out_3)
theorem r3_Least_L4_B_ch (r4 : Nat → Int → (List Int) → Option (Int × Int × (List (List Int)) × (List Int) × Unit)) (r4' : Int → (List Int) → Option (Int × Int × (List (List Int)) × (List Int) × Unit)) (h_r4 : ∀ a0 a1, ChO (fun κ => r4 κ a0 a1) (r4' a0 a1)) (d : (Int × Int × (List (List Int)) × (List Int) × Unit)) (y' : (List Int)) (i : Int) (number : (List Int)) : ChO (fun κ => r3_Least_L4_B d y' (r4 κ) i number) (r3_Least_L4_B d y' r4' i number) := by
  unfold r3_Least_L4_B
  repeat' with_reducible first | exact ChO.const _ | exact h_r4 _ _ | (apply r3_Least_J20_ch <;> assumption) | (apply r3_Least_L15_ch <;> assumption) | apply ChO.ite | apply ChO.G | apply ChO.both | (apply ChO.bind; intro _)
theorem r3_Least_L4_cn  (d : (Int × Int × (List (List Int)) × (List Int) × Unit)) (y' : (List Int)) : Cn (r3_Least_L4_F d y') := fun g h hg x => r3_Least_L4_B_ch  (fun κ i number => g κ (i, number)) (fun i number => h (i, number)) (fun i number => hg (i, number)) d y' x.1 x.2
theorem r3_Least_L4_eq  (d : (Int × Int × (List (List Int)) × (List Int) × Unit)) (y' : (List Int)) (i : Int) (number : (List Int)) : r3_Least_L4 d y' i number = r3_Least_L4_B d y' (r3_Least_L4 d y') i number := LFix_eq (r3_Least_L4_cn d y') (i, number)

noncomputable def r32_Wide_J17 (d : (Int × Int × (List (List Int)) × (List Int) × Unit)) (p : Int) (a : Int) (r15 : (Bool → Int → (List Bool) → Option (Int × Int × (List (List Int)) × (List Int) × Unit))) (l_6 : (List Bool)) (again_3 : Bool) : Option (Int × Int × (List (List Int)) × (List Int) × Unit) :=
  G (0 ≤ p ∧ p < (d.2.2.1.length : Int)) (
  G (0 ≤ a ∧ a < ((ix d.2.2.1 p).length : Int)) (
  G (0 ≤ ix (ix d.2.2.1 p) a ∧ ix (ix d.2.2.1 p) a < (l_6.length : Int)) (
  G ((ix (ix d.2.2.1 p) a).toNat < l_6.length) (
  G (fits (a + (1 : Int))) (
  r15 again_3 (a + (1 : Int)) (l_6.set (ix (ix d.2.2.1 p) a).toNat true))))))
noncomputable def r32_Wide_J15_1 (d : (Int × Int × (List (List Int)) × (List Int) × Unit)) (p : Int) (again_2 : Bool) (a : Int) (r15 : (Bool → Int → (List Bool) → Option (Int × Int × (List (List Int)) × (List Int) × Unit))) (t_3 : Bool) (l_6 : (List Bool)) : Option (Int × Int × (List (List Int)) × (List Int) × Unit) :=
  if again_2 = true then
  r32_Wide_J17 d p a r15 l_6 true else
  G (0 ≤ p ∧ p < (d.2.2.1.length : Int)) (
  G (0 ≤ a ∧ a < ((ix d.2.2.1 p).length : Int)) (
  G (0 ≤ ix (ix d.2.2.1 p) a ∧ ix (ix d.2.2.1 p) a < (l_6.length : Int)) (
  G ((ix (ix d.2.2.1 p) a).toNat < l_6.length) (
  r32_Wide_J17 d p a r15 l_6 (!(ix l_6 (ix (ix d.2.2.1 p) a)))))))
noncomputable def r32_Wide_J15 (d : (Int × Int × (List (List Int)) × (List Int) × Unit)) (p : Int) (r12 : (Bool → Int → (List Bool) → Option (Int × Int × (List (List Int)) × (List Int) × Unit))) (again_2 : Bool) (a : Int) (r15 : (Bool → Int → (List Bool) → Option (Int × Int × (List (List Int)) × (List Int) × Unit))) (t_2 : Bool) (l_5 : (List Bool)) : Option (Int × Int × (List (List Int)) × (List Int) × Unit) :=
  if t_2 = true then
  r32_Wide_J15_1 d p again_2 a r15 t_2 l_5 else
  G (fits (p + (1 : Int))) (
  r12 again_2 (p + (1 : Int)) l_5)
noncomputable def r32_Wide_L15_B (d : (Int × Int × (List (List Int)) × (List Int) × Unit)) (p : Int) (r12 : (Bool → Int → (List Bool) → Option (Int × Int × (List (List Int)) × (List Int) × Unit))) (r15 : Bool → Int → (List Bool) → Option (Int × Int × (List (List Int)) × (List Int) × Unit)) (again_2 : Bool) (a : Int) (l_4 : (List Bool)) : Option (Int × Int × (List (List Int)) × (List Int) × Unit) :=
  if (decide (a < d.1)) = true then
  G (0 ≤ p ∧ p < (l_4.length : Int)) (
  G ((p).toNat < l_4.length) (
  r32_Wide_J15 d p r12 again_2 a r15 (ix l_4 p) l_4)) else
  r32_Wide_J15 d p r12 again_2 a r15 false l_4
noncomputable def r32_Wide_L15_F (d : (Int × Int × (List (List Int)) × (List Int) × Unit)) (p : Int) (r12 : (Bool → Int → (List Bool) → Option (Int × Int × (List (List Int)) × (List Int) × Unit))) : (Bool × Int × (List Bool) → Option (Int × Int × (List (List Int)) × (List Int) × Unit)) → Bool × Int × (List Bool) → Option (Int × Int × (List (List Int)) × (List Int) × Unit) :=
  fun rec x => r32_Wide_L15_B d p r12 (fun again_2 a l_4 => rec (again_2, a, l_4)) x.1 x.2.1 x.2.2
noncomputable def r32_Wide_L15 (d : (Int × Int × (List (List Int)) × (List Int) × Unit)) (p : Int) (r12 : (Bool → Int → (List Bool) → Option (Int × Int × (List (List Int)) × (List Int) × Unit))) (again_2 : Bool) (a : Int) (l_4 : (List Bool)) : Option (Int × Int × (List (List Int)) × (List Int) × Unit) := LFix (r32_Wide_L15_F d p r12 ) (again_2, a, l_4)
noncomputable def r32_Wide_L12_B (d : (Int × Int × (List (List Int)) × (List Int) × Unit)) (r9 : (Bool → (List Bool) → Option (Int × Int × (List (List Int)) × (List Int) × Unit))) (r12 : Bool → Int → (List Bool) → Option (Int × Int × (List (List Int)) × (List Int) × Unit)) (again_1 : Bool) (p : Int) (l_3 : (List Bool)) : Option (Int × Int × (List (List Int)) × (List Int) × Unit) :=
  if (decide (p < (d.2.2.1.length : Int))) = true then
  r32_Wide_L15 d p r12 again_1 (0 : Int) l_3 else
  r9 again_1 l_3
noncomputable def r32_Wide_L12_F (d : (Int × Int × (List (List Int)) × (List Int) × Unit)) (r9 : (Bool → (List Bool) → Option (Int × Int × (List (List Int)) × (List Int) × Unit))) : (Bool × Int × (List Bool) → Option (Int × Int × (List (List Int)) × (List Int) × Unit)) → Bool × Int × (List Bool) → Option (Int × Int × (List (List Int)) × (List Int) × Unit) :=
  fun rec x => r32_Wide_L12_B d r9 (fun again_1 p l_3 => rec (again_1, p, l_3)) x.1 x.2.1 x.2.2
noncomputable def r32_Wide_L12 (d : (Int × Int × (List (List Int)) × (List Int) × Unit)) (r9 : (Bool → (List Bool) → Option (Int × Int × (List (List Int)) × (List Int) × Unit))) (again_1 : Bool) (p : Int) (l_3 : (List Bool)) : Option (Int × Int × (List (List Int)) × (List Int) × Unit) := LFix (r32_Wide_L12_F d r9 ) (again_1, p, l_3)
noncomputable def r32_Wide_J9_1 (d : (Int × Int × (List (List Int)) × (List Int) × Unit)) (r9 : (Bool → (List Bool) → Option (Int × Int × (List (List Int)) × (List Int) × Unit))) (t_1 : Bool) (l_2 : (List Bool)) : Option (Int × Int × (List (List Int)) × (List Int) × Unit) :=
  r32_Wide_L12 d r9 false (0 : Int) l_2
noncomputable def r32_Wide_J9 (d : (Int × Int × (List (List Int)) × (List Int) × Unit)) (q : Int) (lead : (List (List Bool))) (r4 : (Int → (List (List Bool)) → Option (Int × Int × (List (List Int)) × (List Int) × Unit))) (r9 : (Bool → (List Bool) → Option (Int × Int × (List (List Int)) × (List Int) × Unit))) (t : Bool) (l_1 : (List Bool)) : Option (Int × Int × (List (List Int)) × (List Int) × Unit) :=
  if t = true then
  r32_Wide_J9_1 d r9 t l_1 else
  G (room lead ([l_1]) 24) (
  G (fits (q + (1 : Int))) (
  r4 (q + (1 : Int)) (lead ++ ([l_1]))))
noncomputable def r32_Wide_L9_B (d : (Int × Int × (List (List Int)) × (List Int) × Unit)) (up' : Bool) (q : Int) (lead : (List (List Bool))) (r4 : (Int → (List (List Bool)) → Option (Int × Int × (List (List Int)) × (List Int) × Unit))) (r9 : Bool → (List Bool) → Option (Int × Int × (List (List Int)) × (List Int) × Unit)) (again : Bool) (l : (List Bool)) : Option (Int × Int × (List (List Int)) × (List Int) × Unit) :=
  if again = true then
  r32_Wide_J9 d q lead r4 r9 (!up') l else
  r32_Wide_J9 d q lead r4 r9 false l
noncomputable def r32_Wide_L9_F (d : (Int × Int × (List (List Int)) × (List Int) × Unit)) (up' : Bool) (q : Int) (lead : (List (List Bool))) (r4 : (Int → (List (List Bool)) → Option (Int × Int × (List (List Int)) × (List Int) × Unit))) : (Bool × (List Bool) → Option (Int × Int × (List (List Int)) × (List Int) × Unit)) → Bool × (List Bool) → Option (Int × Int × (List (List Int)) × (List Int) × Unit) :=
  fun rec x => r32_Wide_L9_B d up' q lead r4 (fun again l => rec (again, l)) x.1 x.2
noncomputable def r32_Wide_L9 (d : (Int × Int × (List (List Int)) × (List Int) × Unit)) (up' : Bool) (q : Int) (lead : (List (List Bool))) (r4 : (Int → (List (List Bool)) → Option (Int × Int × (List (List Int)) × (List Int) × Unit))) (again : Bool) (l : (List Bool)) : Option (Int × Int × (List (List Int)) × (List Int) × Unit) := LFix (r32_Wide_L9_F d up' q lead r4 ) (again, l)
noncomputable def r32_Wide_J43 (a_1 : Int) (next' : (List Int)) (r30 : (Int → (List Int) → (List Int) → (List Int) → Option (Int × Int × (List (List Int)) × (List Int) × Unit))) (to_1 : Int) (number_2 : (List Int)) (row_2 : (List Int)) : Option (Int × Int × (List (List Int)) × (List Int) × Unit) :=
  G (0 ≤ to_1 ∧ to_1 < (number_2.length : Int)) (
  G ((to_1).toNat < number_2.length) (
  G (fits ((ix number_2 to_1) - (1 : Int))) (
  G (room next' ([(ix number_2 to_1) - (1 : Int)]) 8) (
  G (fits (a_1 + (1 : Int))) (
  r30 (a_1 + (1 : Int)) number_2 row_2 (next' ++ ([(ix number_2 to_1) - (1 : Int)])))))))
noncomputable def r32_Wide_L36_B (d : (Int × Int × (List (List Int)) × (List Int) × Unit)) (lead : (List (List Bool))) (i : Int) (a_1 : Int) (number_1 : (List Int)) (row_1 : (List Int)) (next' : (List Int)) (r30 : (Int → (List Int) → (List Int) → (List Int) → Option (Int × Int × (List (List Int)) × (List Int) × Unit))) (r36 : Int → Int → Option (Int × Int × (List (List Int)) × (List Int) × Unit)) (to_1 : Int) (q_1 : Int) : Option (Int × Int × (List (List Int)) × (List Int) × Unit) :=
  if (decide (q_1 < (d.2.2.1.length : Int))) = true then
  G (0 ≤ i ∧ i < (row_1.length : Int)) (
  G ((i).toNat < row_1.length) (
  G (0 ≤ q_1) (
  if (decide ((iand .i64 (ishr .i64 (ix row_1 i) q_1) (1 : Int)) = (1 : Int))) = true then
  G (0 ≤ q_1 ∧ q_1 < (d.2.2.1.length : Int)) (
  G (0 ≤ a_1 ∧ a_1 < ((ix d.2.2.1 q_1).length : Int)) (
  G (0 ≤ ix (ix d.2.2.1 q_1) a_1 ∧ ix (ix d.2.2.1 q_1) a_1 < (lead.length : Int)) (
  G ((ix (ix d.2.2.1 q_1) a_1).toNat < lead.length) (
  (r32_set (ix lead (ix (ix d.2.2.1 q_1) a_1))).bind (fun y'_1 =>
  G (fits (q_1 + (1 : Int))) (
  r36 (ior .i64 to_1 y'_1) (q_1 + (1 : Int)))))))) else
  G (fits (q_1 + (1 : Int))) (
  r36 to_1 (q_1 + (1 : Int)))))) else
  G (0 ≤ to_1 ∧ to_1 < (number_1.length : Int)) (
  G ((to_1).toNat < number_1.length) (
  if (decide ((ix number_1 to_1) = (0 : Int))) = true then
  G (room row_1 ([to_1]) 8) (
  G (0 ≤ to_1 ∧ to_1 < (number_1.length : Int)) (
  G ((to_1).toNat < number_1.length) (
  r32_Wide_J43 a_1 next' r30 to_1 (number_1.set (to_1).toNat ((row_1 ++ ([to_1])).length : Int)) (row_1 ++ ([to_1]))))) else
  r32_Wide_J43 a_1 next' r30 to_1 number_1 row_1))
noncomputable def r32_Wide_L36_F (d : (Int × Int × (List (List Int)) × (List Int) × Unit)) (lead : (List (List Bool))) (i : Int) (a_1 : Int) (number_1 : (List Int)) (row_1 : (List Int)) (next' : (List Int)) (r30 : (Int → (List Int) → (List Int) → (List Int) → Option (Int × Int × (List (List Int)) × (List Int) × Unit))) : (Int × Int → Option (Int × Int × (List (List Int)) × (List Int) × Unit)) → Int × Int → Option (Int × Int × (List (List Int)) × (List Int) × Unit) :=
  fun rec x => r32_Wide_L36_B d lead i a_1 number_1 row_1 next' r30 (fun to_1 q_1 => rec (to_1, q_1)) x.1 x.2
noncomputable def r32_Wide_L36 (d : (Int × Int × (List (List Int)) × (List Int) × Unit)) (lead : (List (List Bool))) (i : Int) (a_1 : Int) (number_1 : (List Int)) (row_1 : (List Int)) (next' : (List Int)) (r30 : (Int → (List Int) → (List Int) → (List Int) → Option (Int × Int × (List (List Int)) × (List Int) × Unit))) (to_1 : Int) (q_1 : Int) : Option (Int × Int × (List (List Int)) × (List Int) × Unit) := LFix (r32_Wide_L36_F d lead i a_1 number_1 row_1 next' r30 ) (to_1, q_1)
noncomputable def r32_Wide_J34 (d : (Int × Int × (List (List Int)) × (List Int) × Unit)) (lead : (List (List Bool))) (i : Int) (a_1 : Int) (number_1 : (List Int)) (row_1 : (List Int)) (next' : (List Int)) (r30 : (Int → (List Int) → (List Int) → (List Int) → Option (Int × Int × (List (List Int)) × (List Int) × Unit))) (to : Int) : Option (Int × Int × (List (List Int)) × (List Int) × Unit) :=
  r32_Wide_L36 d lead i a_1 number_1 row_1 next' r30 to (0 : Int)
noncomputable def r32_Wide_J50 (mark : Int) (q_2 : Int) (r48 : (Int → Int → Option (Int × Int × (List (List Int)) × (List Int) × Unit))) (t_4 : Bool) : Option (Int × Int × (List (List Int)) × (List Int) × Unit) :=
  if t_4 = true then
  G (fits (q_2 + (1 : Int))) (
  r48 (1 : Int) (q_2 + (1 : Int))) else
  G (fits (q_2 + (1 : Int))) (
  r48 mark (q_2 + (1 : Int)))
noncomputable def r32_Wide_L48_B (d : (Int × Int × (List (List Int)) × (List Int) × Unit)) (i : Int) (out : Int) (out_1 : Int) (out_2 : (List (List Int))) (out_3 : (List Int)) (r26 : (Int → (List Int) → (List Int) → Int → Int → (List (List Int)) → (List Int) → Option (Int × Int × (List (List Int)) × (List Int) × Unit))) (number_1 : (List Int)) (row_1 : (List Int)) (next' : (List Int)) (r48 : Int → Int → Option (Int × Int × (List (List Int)) × (List Int) × Unit)) (mark : Int) (q_2 : Int) : Option (Int × Int × (List (List Int)) × (List Int) × Unit) :=
  if (decide (q_2 < (d.2.2.1.length : Int))) = true then
  G (0 ≤ i ∧ i < (row_1.length : Int)) (
  G ((i).toNat < row_1.length) (
  G (0 ≤ q_2) (
  if (decide ((iand .i64 (ishr .i64 (ix row_1 i) q_2) (1 : Int)) = (1 : Int))) = true then
  G (0 ≤ q_2 ∧ q_2 < (d.2.2.2.1.length : Int)) (
  r32_Wide_J50 mark q_2 r48 (decide ((ix d.2.2.2.1 q_2) = (1 : Int)))) else
  r32_Wide_J50 mark q_2 r48 false))) else
  G (room out_3 ([mark]) 8) (
  G (fits (i + (1 : Int))) (
  r26 (i + (1 : Int)) number_1 row_1 out out_1 (out_2 ++ ([next'])) (out_3 ++ ([mark]))))
noncomputable def r32_Wide_L48_F (d : (Int × Int × (List (List Int)) × (List Int) × Unit)) (i : Int) (out : Int) (out_1 : Int) (out_2 : (List (List Int))) (out_3 : (List Int)) (r26 : (Int → (List Int) → (List Int) → Int → Int → (List (List Int)) → (List Int) → Option (Int × Int × (List (List Int)) × (List Int) × Unit))) (number_1 : (List Int)) (row_1 : (List Int)) (next' : (List Int)) : (Int × Int → Option (Int × Int × (List (List Int)) × (List Int) × Unit)) → Int × Int → Option (Int × Int × (List (List Int)) × (List Int) × Unit) :=
  fun rec x => r32_Wide_L48_B d i out out_1 out_2 out_3 r26 number_1 row_1 next' (fun mark q_2 => rec (mark, q_2)) x.1 x.2
noncomputable def r32_Wide_L48 (d : (Int × Int × (List (List Int)) × (List Int) × Unit)) (i : Int) (out : Int) (out_1 : Int) (out_2 : (List (List Int))) (out_3 : (List Int)) (r26 : (Int → (List Int) → (List Int) → Int → Int → (List (List Int)) → (List Int) → Option (Int × Int × (List (List Int)) × (List Int) × Unit))) (number_1 : (List Int)) (row_1 : (List Int)) (next' : (List Int)) (mark : Int) (q_2 : Int) : Option (Int × Int × (List (List Int)) × (List Int) × Unit) := LFix (r32_Wide_L48_F d i out out_1 out_2 out_3 r26 number_1 row_1 next' ) (mark, q_2)
noncomputable def r32_Wide_L30_B (d : (Int × Int × (List (List Int)) × (List Int) × Unit)) (up' : Bool) (lead : (List (List Bool))) (i : Int) (out : Int) (out_1 : Int) (out_2 : (List (List Int))) (out_3 : (List Int)) (r26 : (Int → (List Int) → (List Int) → Int → Int → (List (List Int)) → (List Int) → Option (Int × Int × (List (List Int)) × (List Int) × Unit))) (r30 : Int → (List Int) → (List Int) → (List Int) → Option (Int × Int × (List (List Int)) × (List Int) × Unit)) (a_1 : Int) (number_1 : (List Int)) (row_1 : (List Int)) (next' : (List Int)) : Option (Int × Int × (List (List Int)) × (List Int) × Unit) :=
  if (decide (a_1 < d.1)) = true then
  if up' = true then
  G (0 ≤ i ∧ i < (row_1.length : Int)) (
  G ((i).toNat < row_1.length) (
  r32_Wide_J34 d lead i a_1 number_1 row_1 next' r30 (ix row_1 i))) else
  r32_Wide_J34 d lead i a_1 number_1 row_1 next' r30 (0 : Int) else
  G (room out_2 ([next']) 24) (
  r32_Wide_L48 d i out out_1 out_2 out_3 r26 number_1 row_1 next' (0 : Int) (0 : Int))
noncomputable def r32_Wide_L30_F (d : (Int × Int × (List (List Int)) × (List Int) × Unit)) (up' : Bool) (lead : (List (List Bool))) (i : Int) (out : Int) (out_1 : Int) (out_2 : (List (List Int))) (out_3 : (List Int)) (r26 : (Int → (List Int) → (List Int) → Int → Int → (List (List Int)) → (List Int) → Option (Int × Int × (List (List Int)) × (List Int) × Unit))) : (Int × (List Int) × (List Int) × (List Int) → Option (Int × Int × (List (List Int)) × (List Int) × Unit)) → Int × (List Int) × (List Int) × (List Int) → Option (Int × Int × (List (List Int)) × (List Int) × Unit) :=
  fun rec x => r32_Wide_L30_B d up' lead i out out_1 out_2 out_3 r26 (fun a_1 number_1 row_1 next' => rec (a_1, number_1, row_1, next')) x.1 x.2.1 x.2.2.1 x.2.2.2
noncomputable def r32_Wide_L30 (d : (Int × Int × (List (List Int)) × (List Int) × Unit)) (up' : Bool) (lead : (List (List Bool))) (i : Int) (out : Int) (out_1 : Int) (out_2 : (List (List Int))) (out_3 : (List Int)) (r26 : (Int → (List Int) → (List Int) → Int → Int → (List (List Int)) → (List Int) → Option (Int × Int × (List (List Int)) × (List Int) × Unit))) (a_1 : Int) (number_1 : (List Int)) (row_1 : (List Int)) (next' : (List Int)) : Option (Int × Int × (List (List Int)) × (List Int) × Unit) := LFix (r32_Wide_L30_F d up' lead i out out_1 out_2 out_3 r26 ) (a_1, number_1, row_1, next')
noncomputable def r32_Wide_L26_B (d : (Int × Int × (List (List Int)) × (List Int) × Unit)) (up' : Bool) (lead : (List (List Bool))) (r26 : Int → (List Int) → (List Int) → Int → Int → (List (List Int)) → (List Int) → Option (Int × Int × (List (List Int)) × (List Int) × Unit)) (i : Int) (number : (List Int)) (row : (List Int)) (out : Int) (out_1 : Int) (out_2 : (List (List Int))) (out_3 : (List Int)) : Option (Int × Int × (List (List Int)) × (List Int) × Unit) :=
  if (decide (i < (row.length : Int))) = true then
  r32_Wide_L30 d up' lead i out out_1 out_2 out_3 r26 (0 : Int) number row ([]) else
  (r3_Least (out, (out_1, (out_2, (out_3, ()))))).bind (fun y'_2 =>
  some (y'_2.1, (y'_2.2.1, (y'_2.2.2.1, (y'_2.2.2.2.1, ())))))
noncomputable def r32_Wide_L26_F (d : (Int × Int × (List (List Int)) × (List Int) × Unit)) (up' : Bool) (lead : (List (List Bool))) : (Int × (List Int) × (List Int) × Int × Int × (List (List Int)) × (List Int) → Option (Int × Int × (List (List Int)) × (List Int) × Unit)) → Int × (List Int) × (List Int) × Int × Int × (List (List Int)) × (List Int) → Option (Int × Int × (List (List Int)) × (List Int) × Unit) :=
  fun rec x => r32_Wide_L26_B d up' lead (fun i number row out out_1 out_2 out_3 => rec (i, number, row, out, out_1, out_2, out_3)) x.1 x.2.1 x.2.2.1 x.2.2.2.1 x.2.2.2.2.1 x.2.2.2.2.2.1 x.2.2.2.2.2.2
noncomputable def r32_Wide_L26 (d : (Int × Int × (List (List Int)) × (List Int) × Unit)) (up' : Bool) (lead : (List (List Bool))) (i : Int) (number : (List Int)) (row : (List Int)) (out : Int) (out_1 : Int) (out_2 : (List (List Int))) (out_3 : (List Int)) : Option (Int × Int × (List (List Int)) × (List Int) × Unit) := LFix (r32_Wide_L26_F d up' lead ) (i, number, row, out, out_1, out_2, out_3)
noncomputable def r32_Wide_L4_B (d : (Int × Int × (List (List Int)) × (List Int) × Unit)) (up' : Bool) (r4 : Int → (List (List Bool)) → Option (Int × Int × (List (List Int)) × (List Int) × Unit)) (q : Int) (lead : (List (List Bool))) : Option (Int × Int × (List (List Int)) × (List Int) × Unit) :=
  if (decide (q < (d.2.2.1.length : Int))) = true then
  G (mkOK (d.2.2.1.length : Int) (d.2.2.1.length : Int) 1) (
  G (0 ≤ q ∧ q < ((List.replicate ((d.2.2.1.length : Int)).toNat (false : Bool)).length : Int)) (
  G ((q).toNat < (List.replicate ((d.2.2.1.length : Int)).toNat (false : Bool)).length) (
  r32_Wide_L9 d up' q lead r4 true ((List.replicate ((d.2.2.1.length : Int)).toNat (false : Bool)).set (q).toNat true)))) else
  G (mkOK (32 : Int) (32 : Int) 8) (
  G (0 ≤ d.2.1 ∧ d.2.1 < (lead.length : Int)) (
  G ((d.2.1).toNat < lead.length) (
  (r32_set (ix lead d.2.1)).bind (fun y' =>
  G (0 ≤ y' ∧ y' < ((List.replicate ((32 : Int)).toNat (0 : Int)).length : Int)) (
  G ((y').toNat < (List.replicate ((32 : Int)).toNat (0 : Int)).length) (
  r32_Wide_L26 d up' lead (0 : Int) ((List.replicate ((32 : Int)).toNat (0 : Int)).set (y').toNat (1 : Int)) ([y']) d.1 (0 : Int) ([] : List (List Int)) ([] : List Int)))))))
noncomputable def r32_Wide_L4_F (d : (Int × Int × (List (List Int)) × (List Int) × Unit)) (up' : Bool) : (Int × (List (List Bool)) → Option (Int × Int × (List (List Int)) × (List Int) × Unit)) → Int × (List (List Bool)) → Option (Int × Int × (List (List Int)) × (List Int) × Unit) :=
  fun rec x => r32_Wide_L4_B d up' (fun q lead => rec (q, lead)) x.1 x.2
noncomputable def r32_Wide_L4 (d : (Int × Int × (List (List Int)) × (List Int) × Unit)) (up' : Bool) (q : Int) (lead : (List (List Bool))) : Option (Int × Int × (List (List Int)) × (List Int) × Unit) := LFix (r32_Wide_L4_F d up' ) (q, lead)
noncomputable def r32_Wide (d : (Int × Int × (List (List Int)) × (List Int) × Unit)) (up' : Bool) : Option (Int × Int × (List (List Int)) × (List Int) × Unit) :=
  r32_Wide_L4 d up' (0 : Int) ([])
theorem r32_Wide_J17_ch (r15 : Nat → Bool → Int → (List Bool) → Option (Int × Int × (List (List Int)) × (List Int) × Unit)) (r15' : Bool → Int → (List Bool) → Option (Int × Int × (List (List Int)) × (List Int) × Unit)) (h_r15 : ∀ a0 a1 a2, ChO (fun κ => r15 κ a0 a1 a2) (r15' a0 a1 a2)) (d : (Int × Int × (List (List Int)) × (List Int) × Unit)) (p : Int) (a : Int) (l_6 : (List Bool)) (again_3 : Bool) : ChO (fun κ => r32_Wide_J17 d p a (r15 κ) l_6 again_3) (r32_Wide_J17 d p a r15' l_6 again_3) := by
  unfold r32_Wide_J17
  repeat' with_reducible first | exact ChO.const _ | exact h_r15 _ _ _ | apply ChO.ite | apply ChO.G | apply ChO.both | (apply ChO.bind; intro _)
theorem r32_Wide_J15_1_ch (r15 : Nat → Bool → Int → (List Bool) → Option (Int × Int × (List (List Int)) × (List Int) × Unit)) (r15' : Bool → Int → (List Bool) → Option (Int × Int × (List (List Int)) × (List Int) × Unit)) (h_r15 : ∀ a0 a1 a2, ChO (fun κ => r15 κ a0 a1 a2) (r15' a0 a1 a2)) (d : (Int × Int × (List (List Int)) × (List Int) × Unit)) (p : Int) (again_2 : Bool) (a : Int) (t_3 : Bool) (l_6 : (List Bool)) : ChO (fun κ => r32_Wide_J15_1 d p again_2 a (r15 κ) t_3 l_6) (r32_Wide_J15_1 d p again_2 a r15' t_3 l_6) := by
  unfold r32_Wide_J15_1
  repeat' with_reducible first | exact ChO.const _ | exact h_r15 _ _ _ | (apply r32_Wide_J17_ch <;> assumption) | apply ChO.ite | apply ChO.G | apply ChO.both | (apply ChO.bind; intro _)
theorem r32_Wide_J15_ch (r12 : Nat → Bool → Int → (List Bool) → Option (Int × Int × (List (List Int)) × (List Int) × Unit)) (r12' : Bool → Int → (List Bool) → Option (Int × Int × (List (List Int)) × (List Int) × Unit)) (h_r12 : ∀ a0 a1 a2, ChO (fun κ => r12 κ a0 a1 a2) (r12' a0 a1 a2)) (r15 : Nat → Bool → Int → (List Bool) → Option (Int × Int × (List (List Int)) × (List Int) × Unit)) (r15' : Bool → Int → (List Bool) → Option (Int × Int × (List (List Int)) × (List Int) × Unit)) (h_r15 : ∀ a0 a1 a2, ChO (fun κ => r15 κ a0 a1 a2) (r15' a0 a1 a2)) (d : (Int × Int × (List (List Int)) × (List Int) × Unit)) (p : Int) (again_2 : Bool) (a : Int) (t_2 : Bool) (l_5 : (List Bool)) : ChO (fun κ => r32_Wide_J15 d p (r12 κ) again_2 a (r15 κ) t_2 l_5) (r32_Wide_J15 d p r12' again_2 a r15' t_2 l_5) := by
  unfold r32_Wide_J15
  repeat' with_reducible first | exact ChO.const _ | exact h_r12 _ _ _ | exact h_r15 _ _ _ | (apply r32_Wide_J17_ch <;> assumption) | (apply r32_Wide_J15_1_ch <;> assumption) | apply ChO.ite | apply ChO.G | apply ChO.both | (apply ChO.bind; intro _)
theorem r32_Wide_L15_B_ch (r12 : Nat → Bool → Int → (List Bool) → Option (Int × Int × (List (List Int)) × (List Int) × Unit)) (r12' : Bool → Int → (List Bool) → Option (Int × Int × (List (List Int)) × (List Int) × Unit)) (h_r12 : ∀ a0 a1 a2, ChO (fun κ => r12 κ a0 a1 a2) (r12' a0 a1 a2)) (r15 : Nat → Bool → Int → (List Bool) → Option (Int × Int × (List (List Int)) × (List Int) × Unit)) (r15' : Bool → Int → (List Bool) → Option (Int × Int × (List (List Int)) × (List Int) × Unit)) (h_r15 : ∀ a0 a1 a2, ChO (fun κ => r15 κ a0 a1 a2) (r15' a0 a1 a2)) (d : (Int × Int × (List (List Int)) × (List Int) × Unit)) (p : Int) (again_2 : Bool) (a : Int) (l_4 : (List Bool)) : ChO (fun κ => r32_Wide_L15_B d p (r12 κ) (r15 κ) again_2 a l_4) (r32_Wide_L15_B d p r12' r15' again_2 a l_4) := by
  unfold r32_Wide_L15_B
  repeat' with_reducible first | exact ChO.const _ | exact h_r12 _ _ _ | exact h_r15 _ _ _ | (apply r32_Wide_J17_ch <;> assumption) | (apply r32_Wide_J15_1_ch <;> assumption) | (apply r32_Wide_J15_ch <;> assumption) | apply ChO.ite | apply ChO.G | apply ChO.both | (apply ChO.bind; intro _)
theorem r32_Wide_L15_cn (r12 : Bool → Int → (List Bool) → Option (Int × Int × (List (List Int)) × (List Int) × Unit)) (d : (Int × Int × (List (List Int)) × (List Int) × Unit)) (p : Int) : Cn (r32_Wide_L15_F d p r12) := fun g h hg x => r32_Wide_L15_B_ch (fun _ => r12) r12 (fun _ _ _ => ChO.const _) (fun κ again_2 a l_4 => g κ (again_2, a, l_4)) (fun again_2 a l_4 => h (again_2, a, l_4)) (fun again_2 a l_4 => hg (again_2, a, l_4)) d p x.1 x.2.1 x.2.2
theorem r32_Wide_L15_eq (r12 : Bool → Int → (List Bool) → Option (Int × Int × (List (List Int)) × (List Int) × Unit)) (d : (Int × Int × (List (List Int)) × (List Int) × Unit)) (p : Int) (again_2 : Bool) (a : Int) (l_4 : (List Bool)) : r32_Wide_L15 d p r12 again_2 a l_4 = r32_Wide_L15_B d p r12 (r32_Wide_L15 d p r12) again_2 a l_4 := LFix_eq (r32_Wide_L15_cn r12 d p) (again_2, a, l_4)
theorem r32_Wide_L15_ch (r12 : Nat → Bool → Int → (List Bool) → Option (Int × Int × (List (List Int)) × (List Int) × Unit)) (r12' : Bool → Int → (List Bool) → Option (Int × Int × (List (List Int)) × (List Int) × Unit)) (h_r12 : ∀ a0 a1 a2, ChO (fun κ => r12 κ a0 a1 a2) (r12' a0 a1 a2)) (d : (Int × Int × (List (List Int)) × (List Int) × Unit)) (p : Int) (again_2 : Bool) (a : Int) (l_4 : (List Bool)) : ChO (fun κ => r32_Wide_L15 d p (r12 κ) again_2 a l_4) (r32_Wide_L15 d p r12' again_2 a l_4) := by
  unfold r32_Wide_L15
  exact LFix_ch (fun κ => (r32_Wide_L15_cn (r12 κ) d p).mono) (r32_Wide_L15_cn r12' d p).mono (fun g h hg x => r32_Wide_L15_B_ch r12 r12' h_r12 (fun κ again_2 a l_4 => g κ (again_2, a, l_4)) (fun again_2 a l_4 => h (again_2, a, l_4)) (fun again_2 a l_4 => hg (again_2, a, l_4)) d p x.1 x.2.1 x.2.2) _
theorem r32_Wide_L12_B_ch (r9 : Nat → Bool → (List Bool) → Option (Int × Int × (List (List Int)) × (List Int) × Unit)) (r9' : Bool → (List Bool) → Option (Int × Int × (List (List Int)) × (List Int) × Unit)) (h_r9 : ∀ a0 a1, ChO (fun κ => r9 κ a0 a1) (r9' a0 a1)) (r12 : Nat → Bool → Int → (List Bool) → Option (Int × Int × (List (List Int)) × (List Int) × Unit)) (r12' : Bool → Int → (List Bool) → Option (Int × Int × (List (List Int)) × (List Int) × Unit)) (h_r12 : ∀ a0 a1 a2, ChO (fun κ => r12 κ a0 a1 a2) (r12' a0 a1 a2)) (d : (Int × Int × (List (List Int)) × (List Int) × Unit)) (again_1 : Bool) (p : Int) (l_3 : (List Bool)) : ChO (fun κ => r32_Wide_L12_B d (r9 κ) (r12 κ) again_1 p l_3) (r32_Wide_L12_B d r9' r12' again_1 p l_3) := by
  unfold r32_Wide_L12_B
  repeat' with_reducible first | exact ChO.const _ | exact h_r9 _ _ | exact h_r12 _ _ _ | (apply r32_Wide_J17_ch <;> assumption) | (apply r32_Wide_J15_1_ch <;> assumption) | (apply r32_Wide_J15_ch <;> assumption) | (apply r32_Wide_L15_ch <;> assumption) | apply ChO.ite | apply ChO.G | apply ChO.both | (apply ChO.bind; intro _)
theorem r32_Wide_L12_cn (r9 : Bool → (List Bool) → Option (Int × Int × (List (List Int)) × (List Int) × Unit)) (d : (Int × Int × (List (List Int)) × (List Int) × Unit)) : Cn (r32_Wide_L12_F d r9) := fun g h hg x => r32_Wide_L12_B_ch (fun _ => r9) r9 (fun _ _ => ChO.const _) (fun κ again_1 p l_3 => g κ (again_1, p, l_3)) (fun again_1 p l_3 => h (again_1, p, l_3)) (fun again_1 p l_3 => hg (again_1, p, l_3)) d x.1 x.2.1 x.2.2
theorem r32_Wide_L12_eq (r9 : Bool → (List Bool) → Option (Int × Int × (List (List Int)) × (List Int) × Unit)) (d : (Int × Int × (List (List Int)) × (List Int) × Unit)) (again_1 : Bool) (p : Int) (l_3 : (List Bool)) : r32_Wide_L12 d r9 again_1 p l_3 = r32_Wide_L12_B d r9 (r32_Wide_L12 d r9) again_1 p l_3 := LFix_eq (r32_Wide_L12_cn r9 d) (again_1, p, l_3)
theorem r32_Wide_L12_ch (r9 : Nat → Bool → (List Bool) → Option (Int × Int × (List (List Int)) × (List Int) × Unit)) (r9' : Bool → (List Bool) → Option (Int × Int × (List (List Int)) × (List Int) × Unit)) (h_r9 : ∀ a0 a1, ChO (fun κ => r9 κ a0 a1) (r9' a0 a1)) (d : (Int × Int × (List (List Int)) × (List Int) × Unit)) (again_1 : Bool) (p : Int) (l_3 : (List Bool)) : ChO (fun κ => r32_Wide_L12 d (r9 κ) again_1 p l_3) (r32_Wide_L12 d r9' again_1 p l_3) := by
  unfold r32_Wide_L12
  exact LFix_ch (fun κ => (r32_Wide_L12_cn (r9 κ) d).mono) (r32_Wide_L12_cn r9' d).mono (fun g h hg x => r32_Wide_L12_B_ch r9 r9' h_r9 (fun κ again_1 p l_3 => g κ (again_1, p, l_3)) (fun again_1 p l_3 => h (again_1, p, l_3)) (fun again_1 p l_3 => hg (again_1, p, l_3)) d x.1 x.2.1 x.2.2) _
theorem r32_Wide_J9_1_ch (r9 : Nat → Bool → (List Bool) → Option (Int × Int × (List (List Int)) × (List Int) × Unit)) (r9' : Bool → (List Bool) → Option (Int × Int × (List (List Int)) × (List Int) × Unit)) (h_r9 : ∀ a0 a1, ChO (fun κ => r9 κ a0 a1) (r9' a0 a1)) (d : (Int × Int × (List (List Int)) × (List Int) × Unit)) (t_1 : Bool) (l_2 : (List Bool)) : ChO (fun κ => r32_Wide_J9_1 d (r9 κ) t_1 l_2) (r32_Wide_J9_1 d r9' t_1 l_2) := by
  unfold r32_Wide_J9_1
  repeat' with_reducible first | exact ChO.const _ | exact h_r9 _ _ | (apply r32_Wide_J17_ch <;> assumption) | (apply r32_Wide_J15_1_ch <;> assumption) | (apply r32_Wide_J15_ch <;> assumption) | (apply r32_Wide_L15_ch <;> assumption) | (apply r32_Wide_L12_ch <;> assumption) | apply ChO.ite | apply ChO.G | apply ChO.both | (apply ChO.bind; intro _)
theorem r32_Wide_J9_ch (r4 : Nat → Int → (List (List Bool)) → Option (Int × Int × (List (List Int)) × (List Int) × Unit)) (r4' : Int → (List (List Bool)) → Option (Int × Int × (List (List Int)) × (List Int) × Unit)) (h_r4 : ∀ a0 a1, ChO (fun κ => r4 κ a0 a1) (r4' a0 a1)) (r9 : Nat → Bool → (List Bool) → Option (Int × Int × (List (List Int)) × (List Int) × Unit)) (r9' : Bool → (List Bool) → Option (Int × Int × (List (List Int)) × (List Int) × Unit)) (h_r9 : ∀ a0 a1, ChO (fun κ => r9 κ a0 a1) (r9' a0 a1)) (d : (Int × Int × (List (List Int)) × (List Int) × Unit)) (q : Int) (lead : (List (List Bool))) (t : Bool) (l_1 : (List Bool)) : ChO (fun κ => r32_Wide_J9 d q lead (r4 κ) (r9 κ) t l_1) (r32_Wide_J9 d q lead r4' r9' t l_1) := by
  unfold r32_Wide_J9
  repeat' with_reducible first | exact ChO.const _ | exact h_r4 _ _ | exact h_r9 _ _ | (apply r32_Wide_J17_ch <;> assumption) | (apply r32_Wide_J15_1_ch <;> assumption) | (apply r32_Wide_J15_ch <;> assumption) | (apply r32_Wide_L15_ch <;> assumption) | (apply r32_Wide_L12_ch <;> assumption) | (apply r32_Wide_J9_1_ch <;> assumption) | apply ChO.ite | apply ChO.G | apply ChO.both | (apply ChO.bind; intro _)
theorem r32_Wide_L9_B_ch (r4 : Nat → Int → (List (List Bool)) → Option (Int × Int × (List (List Int)) × (List Int) × Unit)) (r4' : Int → (List (List Bool)) → Option (Int × Int × (List (List Int)) × (List Int) × Unit)) (h_r4 : ∀ a0 a1, ChO (fun κ => r4 κ a0 a1) (r4' a0 a1)) (r9 : Nat → Bool → (List Bool) → Option (Int × Int × (List (List Int)) × (List Int) × Unit)) (r9' : Bool → (List Bool) → Option (Int × Int × (List (List Int)) × (List Int) × Unit)) (h_r9 : ∀ a0 a1, ChO (fun κ => r9 κ a0 a1) (r9' a0 a1)) (d : (Int × Int × (List (List Int)) × (List Int) × Unit)) (up' : Bool) (q : Int) (lead : (List (List Bool))) (again : Bool) (l : (List Bool)) : ChO (fun κ => r32_Wide_L9_B d up' q lead (r4 κ) (r9 κ) again l) (r32_Wide_L9_B d up' q lead r4' r9' again l) := by
  unfold r32_Wide_L9_B
  repeat' with_reducible first | exact ChO.const _ | exact h_r4 _ _ | exact h_r9 _ _ | (apply r32_Wide_J17_ch <;> assumption) | (apply r32_Wide_J15_1_ch <;> assumption) | (apply r32_Wide_J15_ch <;> assumption) | (apply r32_Wide_L15_ch <;> assumption) | (apply r32_Wide_L12_ch <;> assumption) | (apply r32_Wide_J9_1_ch <;> assumption) | (apply r32_Wide_J9_ch <;> assumption) | apply ChO.ite | apply ChO.G | apply ChO.both | (apply ChO.bind; intro _)
theorem r32_Wide_L9_cn (r4 : Int → (List (List Bool)) → Option (Int × Int × (List (List Int)) × (List Int) × Unit)) (d : (Int × Int × (List (List Int)) × (List Int) × Unit)) (up' : Bool) (q : Int) (lead : (List (List Bool))) : Cn (r32_Wide_L9_F d up' q lead r4) := fun g h hg x => r32_Wide_L9_B_ch (fun _ => r4) r4 (fun _ _ => ChO.const _) (fun κ again l => g κ (again, l)) (fun again l => h (again, l)) (fun again l => hg (again, l)) d up' q lead x.1 x.2
theorem r32_Wide_L9_eq (r4 : Int → (List (List Bool)) → Option (Int × Int × (List (List Int)) × (List Int) × Unit)) (d : (Int × Int × (List (List Int)) × (List Int) × Unit)) (up' : Bool) (q : Int) (lead : (List (List Bool))) (again : Bool) (l : (List Bool)) : r32_Wide_L9 d up' q lead r4 again l = r32_Wide_L9_B d up' q lead r4 (r32_Wide_L9 d up' q lead r4) again l := LFix_eq (r32_Wide_L9_cn r4 d up' q lead) (again, l)
theorem r32_Wide_L9_ch (r4 : Nat → Int → (List (List Bool)) → Option (Int × Int × (List (List Int)) × (List Int) × Unit)) (r4' : Int → (List (List Bool)) → Option (Int × Int × (List (List Int)) × (List Int) × Unit)) (h_r4 : ∀ a0 a1, ChO (fun κ => r4 κ a0 a1) (r4' a0 a1)) (d : (Int × Int × (List (List Int)) × (List Int) × Unit)) (up' : Bool) (q : Int) (lead : (List (List Bool))) (again : Bool) (l : (List Bool)) : ChO (fun κ => r32_Wide_L9 d up' q lead (r4 κ) again l) (r32_Wide_L9 d up' q lead r4' again l) := by
  unfold r32_Wide_L9
  exact LFix_ch (fun κ => (r32_Wide_L9_cn (r4 κ) d up' q lead).mono) (r32_Wide_L9_cn r4' d up' q lead).mono (fun g h hg x => r32_Wide_L9_B_ch r4 r4' h_r4 (fun κ again l => g κ (again, l)) (fun again l => h (again, l)) (fun again l => hg (again, l)) d up' q lead x.1 x.2) _
theorem r32_Wide_J43_ch (r30 : Nat → Int → (List Int) → (List Int) → (List Int) → Option (Int × Int × (List (List Int)) × (List Int) × Unit)) (r30' : Int → (List Int) → (List Int) → (List Int) → Option (Int × Int × (List (List Int)) × (List Int) × Unit)) (h_r30 : ∀ a0 a1 a2 a3, ChO (fun κ => r30 κ a0 a1 a2 a3) (r30' a0 a1 a2 a3)) (a_1 : Int) (next' : (List Int)) (to_1 : Int) (number_2 : (List Int)) (row_2 : (List Int)) : ChO (fun κ => r32_Wide_J43 a_1 next' (r30 κ) to_1 number_2 row_2) (r32_Wide_J43 a_1 next' r30' to_1 number_2 row_2) := by
  unfold r32_Wide_J43
  repeat' with_reducible first | exact ChO.const _ | exact h_r30 _ _ _ _ | (apply r32_Wide_J17_ch <;> assumption) | (apply r32_Wide_J15_1_ch <;> assumption) | (apply r32_Wide_J15_ch <;> assumption) | (apply r32_Wide_L15_ch <;> assumption) | (apply r32_Wide_L12_ch <;> assumption) | (apply r32_Wide_J9_1_ch <;> assumption) | (apply r32_Wide_J9_ch <;> assumption) | (apply r32_Wide_L9_ch <;> assumption) | apply ChO.ite | apply ChO.G | apply ChO.both | (apply ChO.bind; intro _)
theorem r32_Wide_L36_B_ch (r30 : Nat → Int → (List Int) → (List Int) → (List Int) → Option (Int × Int × (List (List Int)) × (List Int) × Unit)) (r30' : Int → (List Int) → (List Int) → (List Int) → Option (Int × Int × (List (List Int)) × (List Int) × Unit)) (h_r30 : ∀ a0 a1 a2 a3, ChO (fun κ => r30 κ a0 a1 a2 a3) (r30' a0 a1 a2 a3)) (r36 : Nat → Int → Int → Option (Int × Int × (List (List Int)) × (List Int) × Unit)) (r36' : Int → Int → Option (Int × Int × (List (List Int)) × (List Int) × Unit)) (h_r36 : ∀ a0 a1, ChO (fun κ => r36 κ a0 a1) (r36' a0 a1)) (d : (Int × Int × (List (List Int)) × (List Int) × Unit)) (lead : (List (List Bool))) (i : Int) (a_1 : Int) (number_1 : (List Int)) (row_1 : (List Int)) (next' : (List Int)) (to_1 : Int) (q_1 : Int) : ChO (fun κ => r32_Wide_L36_B d lead i a_1 number_1 row_1 next' (r30 κ) (r36 κ) to_1 q_1) (r32_Wide_L36_B d lead i a_1 number_1 row_1 next' r30' r36' to_1 q_1) := by
  unfold r32_Wide_L36_B
  repeat' with_reducible first | exact ChO.const _ | exact h_r30 _ _ _ _ | exact h_r36 _ _ | (apply r32_Wide_J17_ch <;> assumption) | (apply r32_Wide_J15_1_ch <;> assumption) | (apply r32_Wide_J15_ch <;> assumption) | (apply r32_Wide_L15_ch <;> assumption) | (apply r32_Wide_L12_ch <;> assumption) | (apply r32_Wide_J9_1_ch <;> assumption) | (apply r32_Wide_J9_ch <;> assumption) | (apply r32_Wide_L9_ch <;> assumption) | (apply r32_Wide_J43_ch <;> assumption) | apply ChO.ite | apply ChO.G | apply ChO.both | (apply ChO.bind; intro _)
theorem r32_Wide_L36_cn (r30 : Int → (List Int) → (List Int) → (List Int) → Option (Int × Int × (List (List Int)) × (List Int) × Unit)) (d : (Int × Int × (List (List Int)) × (List Int) × Unit)) (lead : (List (List Bool))) (i : Int) (a_1 : Int) (number_1 : (List Int)) (row_1 : (List Int)) (next' : (List Int)) : Cn (r32_Wide_L36_F d lead i a_1 number_1 row_1 next' r30) := fun g h hg x => r32_Wide_L36_B_ch (fun _ => r30) r30 (fun _ _ _ _ => ChO.const _) (fun κ to_1 q_1 => g κ (to_1, q_1)) (fun to_1 q_1 => h (to_1, q_1)) (fun to_1 q_1 => hg (to_1, q_1)) d lead i a_1 number_1 row_1 next' x.1 x.2
theorem r32_Wide_L36_eq (r30 : Int → (List Int) → (List Int) → (List Int) → Option (Int × Int × (List (List Int)) × (List Int) × Unit)) (d : (Int × Int × (List (List Int)) × (List Int) × Unit)) (lead : (List (List Bool))) (i : Int) (a_1 : Int) (number_1 : (List Int)) (row_1 : (List Int)) (next' : (List Int)) (to_1 : Int) (q_1 : Int) : r32_Wide_L36 d lead i a_1 number_1 row_1 next' r30 to_1 q_1 = r32_Wide_L36_B d lead i a_1 number_1 row_1 next' r30 (r32_Wide_L36 d lead i a_1 number_1 row_1 next' r30) to_1 q_1 := LFix_eq (r32_Wide_L36_cn r30 d lead i a_1 number_1 row_1 next') (to_1, q_1)
theorem r32_Wide_L36_ch (r30 : Nat → Int → (List Int) → (List Int) → (List Int) → Option (Int × Int × (List (List Int)) × (List Int) × Unit)) (r30' : Int → (List Int) → (List Int) → (List Int) → Option (Int × Int × (List (List Int)) × (List Int) × Unit)) (h_r30 : ∀ a0 a1 a2 a3, ChO (fun κ => r30 κ a0 a1 a2 a3) (r30' a0 a1 a2 a3)) (d : (Int × Int × (List (List Int)) × (List Int) × Unit)) (lead : (List (List Bool))) (i : Int) (a_1 : Int) (number_1 : (List Int)) (row_1 : (List Int)) (next' : (List Int)) (to_1 : Int) (q_1 : Int) : ChO (fun κ => r32_Wide_L36 d lead i a_1 number_1 row_1 next' (r30 κ) to_1 q_1) (r32_Wide_L36 d lead i a_1 number_1 row_1 next' r30' to_1 q_1) := by
  unfold r32_Wide_L36
  exact LFix_ch (fun κ => (r32_Wide_L36_cn (r30 κ) d lead i a_1 number_1 row_1 next').mono) (r32_Wide_L36_cn r30' d lead i a_1 number_1 row_1 next').mono (fun g h hg x => r32_Wide_L36_B_ch r30 r30' h_r30 (fun κ to_1 q_1 => g κ (to_1, q_1)) (fun to_1 q_1 => h (to_1, q_1)) (fun to_1 q_1 => hg (to_1, q_1)) d lead i a_1 number_1 row_1 next' x.1 x.2) _
theorem r32_Wide_J34_ch (r30 : Nat → Int → (List Int) → (List Int) → (List Int) → Option (Int × Int × (List (List Int)) × (List Int) × Unit)) (r30' : Int → (List Int) → (List Int) → (List Int) → Option (Int × Int × (List (List Int)) × (List Int) × Unit)) (h_r30 : ∀ a0 a1 a2 a3, ChO (fun κ => r30 κ a0 a1 a2 a3) (r30' a0 a1 a2 a3)) (d : (Int × Int × (List (List Int)) × (List Int) × Unit)) (lead : (List (List Bool))) (i : Int) (a_1 : Int) (number_1 : (List Int)) (row_1 : (List Int)) (next' : (List Int)) (to : Int) : ChO (fun κ => r32_Wide_J34 d lead i a_1 number_1 row_1 next' (r30 κ) to) (r32_Wide_J34 d lead i a_1 number_1 row_1 next' r30' to) := by
  unfold r32_Wide_J34
  repeat' with_reducible first | exact ChO.const _ | exact h_r30 _ _ _ _ | (apply r32_Wide_J17_ch <;> assumption) | (apply r32_Wide_J15_1_ch <;> assumption) | (apply r32_Wide_J15_ch <;> assumption) | (apply r32_Wide_L15_ch <;> assumption) | (apply r32_Wide_L12_ch <;> assumption) | (apply r32_Wide_J9_1_ch <;> assumption) | (apply r32_Wide_J9_ch <;> assumption) | (apply r32_Wide_L9_ch <;> assumption) | (apply r32_Wide_J43_ch <;> assumption) | (apply r32_Wide_L36_ch <;> assumption) | apply ChO.ite | apply ChO.G | apply ChO.both | (apply ChO.bind; intro _)
theorem r32_Wide_J50_ch (r48 : Nat → Int → Int → Option (Int × Int × (List (List Int)) × (List Int) × Unit)) (r48' : Int → Int → Option (Int × Int × (List (List Int)) × (List Int) × Unit)) (h_r48 : ∀ a0 a1, ChO (fun κ => r48 κ a0 a1) (r48' a0 a1)) (mark : Int) (q_2 : Int) (t_4 : Bool) : ChO (fun κ => r32_Wide_J50 mark q_2 (r48 κ) t_4) (r32_Wide_J50 mark q_2 r48' t_4) := by
  unfold r32_Wide_J50
  repeat' with_reducible first | exact ChO.const _ | exact h_r48 _ _ | (apply r32_Wide_J17_ch <;> assumption) | (apply r32_Wide_J15_1_ch <;> assumption) | (apply r32_Wide_J15_ch <;> assumption) | (apply r32_Wide_L15_ch <;> assumption) | (apply r32_Wide_L12_ch <;> assumption) | (apply r32_Wide_J9_1_ch <;> assumption) | (apply r32_Wide_J9_ch <;> assumption) | (apply r32_Wide_L9_ch <;> assumption) | (apply r32_Wide_J43_ch <;> assumption) | (apply r32_Wide_L36_ch <;> assumption) | (apply r32_Wide_J34_ch <;> assumption) | apply ChO.ite | apply ChO.G | apply ChO.both | (apply ChO.bind; intro _)
theorem r32_Wide_L48_B_ch (r26 : Nat → Int → (List Int) → (List Int) → Int → Int → (List (List Int)) → (List Int) → Option (Int × Int × (List (List Int)) × (List Int) × Unit)) (r26' : Int → (List Int) → (List Int) → Int → Int → (List (List Int)) → (List Int) → Option (Int × Int × (List (List Int)) × (List Int) × Unit)) (h_r26 : ∀ a0 a1 a2 a3 a4 a5 a6, ChO (fun κ => r26 κ a0 a1 a2 a3 a4 a5 a6) (r26' a0 a1 a2 a3 a4 a5 a6)) (r48 : Nat → Int → Int → Option (Int × Int × (List (List Int)) × (List Int) × Unit)) (r48' : Int → Int → Option (Int × Int × (List (List Int)) × (List Int) × Unit)) (h_r48 : ∀ a0 a1, ChO (fun κ => r48 κ a0 a1) (r48' a0 a1)) (d : (Int × Int × (List (List Int)) × (List Int) × Unit)) (i : Int) (out : Int) (out_1 : Int) (out_2 : (List (List Int))) (out_3 : (List Int)) (number_1 : (List Int)) (row_1 : (List Int)) (next' : (List Int)) (mark : Int) (q_2 : Int) : ChO (fun κ => r32_Wide_L48_B d i out out_1 out_2 out_3 (r26 κ) number_1 row_1 next' (r48 κ) mark q_2) (r32_Wide_L48_B d i out out_1 out_2 out_3 r26' number_1 row_1 next' r48' mark q_2) := by
  unfold r32_Wide_L48_B
  repeat' with_reducible first | exact ChO.const _ | exact h_r26 _ _ _ _ _ _ _ | exact h_r48 _ _ | (apply r32_Wide_J17_ch <;> assumption) | (apply r32_Wide_J15_1_ch <;> assumption) | (apply r32_Wide_J15_ch <;> assumption) | (apply r32_Wide_L15_ch <;> assumption) | (apply r32_Wide_L12_ch <;> assumption) | (apply r32_Wide_J9_1_ch <;> assumption) | (apply r32_Wide_J9_ch <;> assumption) | (apply r32_Wide_L9_ch <;> assumption) | (apply r32_Wide_J43_ch <;> assumption) | (apply r32_Wide_L36_ch <;> assumption) | (apply r32_Wide_J34_ch <;> assumption) | (apply r32_Wide_J50_ch <;> assumption) | apply ChO.ite | apply ChO.G | apply ChO.both | (apply ChO.bind; intro _)
theorem r32_Wide_L48_cn (r26 : Int → (List Int) → (List Int) → Int → Int → (List (List Int)) → (List Int) → Option (Int × Int × (List (List Int)) × (List Int) × Unit)) (d : (Int × Int × (List (List Int)) × (List Int) × Unit)) (i : Int) (out : Int) (out_1 : Int) (out_2 : (List (List Int))) (out_3 : (List Int)) (number_1 : (List Int)) (row_1 : (List Int)) (next' : (List Int)) : Cn (r32_Wide_L48_F d i out out_1 out_2 out_3 r26 number_1 row_1 next') := fun g h hg x => r32_Wide_L48_B_ch (fun _ => r26) r26 (fun _ _ _ _ _ _ _ => ChO.const _) (fun κ mark q_2 => g κ (mark, q_2)) (fun mark q_2 => h (mark, q_2)) (fun mark q_2 => hg (mark, q_2)) d i out out_1 out_2 out_3 number_1 row_1 next' x.1 x.2
theorem r32_Wide_L48_eq (r26 : Int → (List Int) → (List Int) → Int → Int → (List (List Int)) → (List Int) → Option (Int × Int × (List (List Int)) × (List Int) × Unit)) (d : (Int × Int × (List (List Int)) × (List Int) × Unit)) (i : Int) (out : Int) (out_1 : Int) (out_2 : (List (List Int))) (out_3 : (List Int)) (number_1 : (List Int)) (row_1 : (List Int)) (next' : (List Int)) (mark : Int) (q_2 : Int) : r32_Wide_L48 d i out out_1 out_2 out_3 r26 number_1 row_1 next' mark q_2 = r32_Wide_L48_B d i out out_1 out_2 out_3 r26 number_1 row_1 next' (r32_Wide_L48 d i out out_1 out_2 out_3 r26 number_1 row_1 next') mark q_2 := LFix_eq (r32_Wide_L48_cn r26 d i out out_1 out_2 out_3 number_1 row_1 next') (mark, q_2)
theorem r32_Wide_L48_ch (r26 : Nat → Int → (List Int) → (List Int) → Int → Int → (List (List Int)) → (List Int) → Option (Int × Int × (List (List Int)) × (List Int) × Unit)) (r26' : Int → (List Int) → (List Int) → Int → Int → (List (List Int)) → (List Int) → Option (Int × Int × (List (List Int)) × (List Int) × Unit)) (h_r26 : ∀ a0 a1 a2 a3 a4 a5 a6, ChO (fun κ => r26 κ a0 a1 a2 a3 a4 a5 a6) (r26' a0 a1 a2 a3 a4 a5 a6)) (d : (Int × Int × (List (List Int)) × (List Int) × Unit)) (i : Int) (out : Int) (out_1 : Int) (out_2 : (List (List Int))) (out_3 : (List Int)) (number_1 : (List Int)) (row_1 : (List Int)) (next' : (List Int)) (mark : Int) (q_2 : Int) : ChO (fun κ => r32_Wide_L48 d i out out_1 out_2 out_3 (r26 κ) number_1 row_1 next' mark q_2) (r32_Wide_L48 d i out out_1 out_2 out_3 r26' number_1 row_1 next' mark q_2) := by
  unfold r32_Wide_L48
  exact LFix_ch (fun κ => (r32_Wide_L48_cn (r26 κ) d i out out_1 out_2 out_3 number_1 row_1 next').mono) (r32_Wide_L48_cn r26' d i out out_1 out_2 out_3 number_1 row_1 next').mono (fun g h hg x => r32_Wide_L48_B_ch r26 r26' h_r26 (fun κ mark q_2 => g κ (mark, q_2)) (fun mark q_2 => h (mark, q_2)) (fun mark q_2 => hg (mark, q_2)) d i out out_1 out_2 out_3 number_1 row_1 next' x.1 x.2) _
theorem r32_Wide_L30_B_ch (r26 : Nat → Int → (List Int) → (List Int) → Int → Int → (List (List Int)) → (List Int) → Option (Int × Int × (List (List Int)) × (List Int) × Unit)) (r26' : Int → (List Int) → (List Int) → Int → Int → (List (List Int)) → (List Int) → Option (Int × Int × (List (List Int)) × (List Int) × Unit)) (h_r26 : ∀ a0 a1 a2 a3 a4 a5 a6, ChO (fun κ => r26 κ a0 a1 a2 a3 a4 a5 a6) (r26' a0 a1 a2 a3 a4 a5 a6)) (r30 : Nat → Int → (List Int) → (List Int) → (List Int) → Option (Int × Int × (List (List Int)) × (List Int) × Unit)) (r30' : Int → (List Int) → (List Int) → (List Int) → Option (Int × Int × (List (List Int)) × (List Int) × Unit)) (h_r30 : ∀ a0 a1 a2 a3, ChO (fun κ => r30 κ a0 a1 a2 a3) (r30' a0 a1 a2 a3)) (d : (Int × Int × (List (List Int)) × (List Int) × Unit)) (up' : Bool) (lead : (List (List Bool))) (i : Int) (out : Int) (out_1 : Int) (out_2 : (List (List Int))) (out_3 : (List Int)) (a_1 : Int) (number_1 : (List Int)) (row_1 : (List Int)) (next' : (List Int)) : ChO (fun κ => r32_Wide_L30_B d up' lead i out out_1 out_2 out_3 (r26 κ) (r30 κ) a_1 number_1 row_1 next') (r32_Wide_L30_B d up' lead i out out_1 out_2 out_3 r26' r30' a_1 number_1 row_1 next') := by
  unfold r32_Wide_L30_B
  repeat' with_reducible first | exact ChO.const _ | exact h_r26 _ _ _ _ _ _ _ | exact h_r30 _ _ _ _ | (apply r32_Wide_J17_ch <;> assumption) | (apply r32_Wide_J15_1_ch <;> assumption) | (apply r32_Wide_J15_ch <;> assumption) | (apply r32_Wide_L15_ch <;> assumption) | (apply r32_Wide_L12_ch <;> assumption) | (apply r32_Wide_J9_1_ch <;> assumption) | (apply r32_Wide_J9_ch <;> assumption) | (apply r32_Wide_L9_ch <;> assumption) | (apply r32_Wide_J43_ch <;> assumption) | (apply r32_Wide_L36_ch <;> assumption) | (apply r32_Wide_J34_ch <;> assumption) | (apply r32_Wide_J50_ch <;> assumption) | (apply r32_Wide_L48_ch <;> assumption) | apply ChO.ite | apply ChO.G | apply ChO.both | (apply ChO.bind; intro _)
theorem r32_Wide_L30_cn (r26 : Int → (List Int) → (List Int) → Int → Int → (List (List Int)) → (List Int) → Option (Int × Int × (List (List Int)) × (List Int) × Unit)) (d : (Int × Int × (List (List Int)) × (List Int) × Unit)) (up' : Bool) (lead : (List (List Bool))) (i : Int) (out : Int) (out_1 : Int) (out_2 : (List (List Int))) (out_3 : (List Int)) : Cn (r32_Wide_L30_F d up' lead i out out_1 out_2 out_3 r26) := fun g h hg x => r32_Wide_L30_B_ch (fun _ => r26) r26 (fun _ _ _ _ _ _ _ => ChO.const _) (fun κ a_1 number_1 row_1 next' => g κ (a_1, number_1, row_1, next')) (fun a_1 number_1 row_1 next' => h (a_1, number_1, row_1, next')) (fun a_1 number_1 row_1 next' => hg (a_1, number_1, row_1, next')) d up' lead i out out_1 out_2 out_3 x.1 x.2.1 x.2.2.1 x.2.2.2
theorem r32_Wide_L30_eq (r26 : Int → (List Int) → (List Int) → Int → Int → (List (List Int)) → (List Int) → Option (Int × Int × (List (List Int)) × (List Int) × Unit)) (d : (Int × Int × (List (List Int)) × (List Int) × Unit)) (up' : Bool) (lead : (List (List Bool))) (i : Int) (out : Int) (out_1 : Int) (out_2 : (List (List Int))) (out_3 : (List Int)) (a_1 : Int) (number_1 : (List Int)) (row_1 : (List Int)) (next' : (List Int)) : r32_Wide_L30 d up' lead i out out_1 out_2 out_3 r26 a_1 number_1 row_1 next' = r32_Wide_L30_B d up' lead i out out_1 out_2 out_3 r26 (r32_Wide_L30 d up' lead i out out_1 out_2 out_3 r26) a_1 number_1 row_1 next' := LFix_eq (r32_Wide_L30_cn r26 d up' lead i out out_1 out_2 out_3) (a_1, number_1, row_1, next')
theorem r32_Wide_L30_ch (r26 : Nat → Int → (List Int) → (List Int) → Int → Int → (List (List Int)) → (List Int) → Option (Int × Int × (List (List Int)) × (List Int) × Unit)) (r26' : Int → (List Int) → (List Int) → Int → Int → (List (List Int)) → (List Int) → Option (Int × Int × (List (List Int)) × (List Int) × Unit)) (h_r26 : ∀ a0 a1 a2 a3 a4 a5 a6, ChO (fun κ => r26 κ a0 a1 a2 a3 a4 a5 a6) (r26' a0 a1 a2 a3 a4 a5 a6)) (d : (Int × Int × (List (List Int)) × (List Int) × Unit)) (up' : Bool) (lead : (List (List Bool))) (i : Int) (out : Int) (out_1 : Int) (out_2 : (List (List Int))) (out_3 : (List Int)) (a_1 : Int) (number_1 : (List Int)) (row_1 : (List Int)) (next' : (List Int)) : ChO (fun κ => r32_Wide_L30 d up' lead i out out_1 out_2 out_3 (r26 κ) a_1 number_1 row_1 next') (r32_Wide_L30 d up' lead i out out_1 out_2 out_3 r26' a_1 number_1 row_1 next') := by
  unfold r32_Wide_L30
  exact LFix_ch (fun κ => (r32_Wide_L30_cn (r26 κ) d up' lead i out out_1 out_2 out_3).mono) (r32_Wide_L30_cn r26' d up' lead i out out_1 out_2 out_3).mono (fun g h hg x => r32_Wide_L30_B_ch r26 r26' h_r26 (fun κ a_1 number_1 row_1 next' => g κ (a_1, number_1, row_1, next')) (fun a_1 number_1 row_1 next' => h (a_1, number_1, row_1, next')) (fun a_1 number_1 row_1 next' => hg (a_1, number_1, row_1, next')) d up' lead i out out_1 out_2 out_3 x.1 x.2.1 x.2.2.1 x.2.2.2) _
theorem r32_Wide_L26_B_ch (r26 : Nat → Int → (List Int) → (List Int) → Int → Int → (List (List Int)) → (List Int) → Option (Int × Int × (List (List Int)) × (List Int) × Unit)) (r26' : Int → (List Int) → (List Int) → Int → Int → (List (List Int)) → (List Int) → Option (Int × Int × (List (List Int)) × (List Int) × Unit)) (h_r26 : ∀ a0 a1 a2 a3 a4 a5 a6, ChO (fun κ => r26 κ a0 a1 a2 a3 a4 a5 a6) (r26' a0 a1 a2 a3 a4 a5 a6)) (d : (Int × Int × (List (List Int)) × (List Int) × Unit)) (up' : Bool) (lead : (List (List Bool))) (i : Int) (number : (List Int)) (row : (List Int)) (out : Int) (out_1 : Int) (out_2 : (List (List Int))) (out_3 : (List Int)) : ChO (fun κ => r32_Wide_L26_B d up' lead (r26 κ) i number row out out_1 out_2 out_3) (r32_Wide_L26_B d up' lead r26' i number row out out_1 out_2 out_3) := by
  unfold r32_Wide_L26_B
  repeat' with_reducible first | exact ChO.const _ | exact h_r26 _ _ _ _ _ _ _ | (apply r32_Wide_J17_ch <;> assumption) | (apply r32_Wide_J15_1_ch <;> assumption) | (apply r32_Wide_J15_ch <;> assumption) | (apply r32_Wide_L15_ch <;> assumption) | (apply r32_Wide_L12_ch <;> assumption) | (apply r32_Wide_J9_1_ch <;> assumption) | (apply r32_Wide_J9_ch <;> assumption) | (apply r32_Wide_L9_ch <;> assumption) | (apply r32_Wide_J43_ch <;> assumption) | (apply r32_Wide_L36_ch <;> assumption) | (apply r32_Wide_J34_ch <;> assumption) | (apply r32_Wide_J50_ch <;> assumption) | (apply r32_Wide_L48_ch <;> assumption) | (apply r32_Wide_L30_ch <;> assumption) | apply ChO.ite | apply ChO.G | apply ChO.both | (apply ChO.bind; intro _)
theorem r32_Wide_L26_cn  (d : (Int × Int × (List (List Int)) × (List Int) × Unit)) (up' : Bool) (lead : (List (List Bool))) : Cn (r32_Wide_L26_F d up' lead) := fun g h hg x => r32_Wide_L26_B_ch  (fun κ i number row out out_1 out_2 out_3 => g κ (i, number, row, out, out_1, out_2, out_3)) (fun i number row out out_1 out_2 out_3 => h (i, number, row, out, out_1, out_2, out_3)) (fun i number row out out_1 out_2 out_3 => hg (i, number, row, out, out_1, out_2, out_3)) d up' lead x.1 x.2.1 x.2.2.1 x.2.2.2.1 x.2.2.2.2.1 x.2.2.2.2.2.1 x.2.2.2.2.2.2
theorem r32_Wide_L26_eq  (d : (Int × Int × (List (List Int)) × (List Int) × Unit)) (up' : Bool) (lead : (List (List Bool))) (i : Int) (number : (List Int)) (row : (List Int)) (out : Int) (out_1 : Int) (out_2 : (List (List Int))) (out_3 : (List Int)) : r32_Wide_L26 d up' lead i number row out out_1 out_2 out_3 = r32_Wide_L26_B d up' lead (r32_Wide_L26 d up' lead) i number row out out_1 out_2 out_3 := LFix_eq (r32_Wide_L26_cn d up' lead) (i, number, row, out, out_1, out_2, out_3)
theorem r32_Wide_L4_B_ch (r4 : Nat → Int → (List (List Bool)) → Option (Int × Int × (List (List Int)) × (List Int) × Unit)) (r4' : Int → (List (List Bool)) → Option (Int × Int × (List (List Int)) × (List Int) × Unit)) (h_r4 : ∀ a0 a1, ChO (fun κ => r4 κ a0 a1) (r4' a0 a1)) (d : (Int × Int × (List (List Int)) × (List Int) × Unit)) (up' : Bool) (q : Int) (lead : (List (List Bool))) : ChO (fun κ => r32_Wide_L4_B d up' (r4 κ) q lead) (r32_Wide_L4_B d up' r4' q lead) := by
  unfold r32_Wide_L4_B
  repeat' with_reducible first | exact ChO.const _ | exact h_r4 _ _ | (apply r32_Wide_J17_ch <;> assumption) | (apply r32_Wide_J15_1_ch <;> assumption) | (apply r32_Wide_J15_ch <;> assumption) | (apply r32_Wide_L15_ch <;> assumption) | (apply r32_Wide_L12_ch <;> assumption) | (apply r32_Wide_J9_1_ch <;> assumption) | (apply r32_Wide_J9_ch <;> assumption) | (apply r32_Wide_L9_ch <;> assumption) | (apply r32_Wide_J43_ch <;> assumption) | (apply r32_Wide_L36_ch <;> assumption) | (apply r32_Wide_J34_ch <;> assumption) | (apply r32_Wide_J50_ch <;> assumption) | (apply r32_Wide_L48_ch <;> assumption) | (apply r32_Wide_L30_ch <;> assumption) | apply ChO.ite | apply ChO.G | apply ChO.both | (apply ChO.bind; intro _)
theorem r32_Wide_L4_cn  (d : (Int × Int × (List (List Int)) × (List Int) × Unit)) (up' : Bool) : Cn (r32_Wide_L4_F d up') := fun g h hg x => r32_Wide_L4_B_ch  (fun κ q lead => g κ (q, lead)) (fun q lead => h (q, lead)) (fun q lead => hg (q, lead)) d up' x.1 x.2
theorem r32_Wide_L4_eq  (d : (Int × Int × (List (List Int)) × (List Int) × Unit)) (up' : Bool) (q : Int) (lead : (List (List Bool))) : r32_Wide_L4 d up' q lead = r32_Wide_L4_B d up' (r32_Wide_L4 d up') q lead := LFix_eq (r32_Wide_L4_cn d up') (q, lead)

noncomputable def r3_Same_L14_B (a : (Int × Int × (List (List Int)) × (List Int) × Unit)) (b : (Int × Int × (List (List Int)) × (List Int) × Unit)) (i_1 : Int) (r9 : (Int → Option (Bool))) (r14 : Int → Option (Bool)) (k : Int) : Option (Bool) :=
  G (0 ≤ i_1 ∧ i_1 < (a.2.2.1.length : Int)) (
  if (decide (k < ((ix a.2.2.1 i_1).length : Int))) = true then
  G (0 ≤ i_1 ∧ i_1 < (a.2.2.1.length : Int)) (
  G (0 ≤ k ∧ k < ((ix a.2.2.1 i_1).length : Int)) (
  G (0 ≤ i_1 ∧ i_1 < (b.2.2.1.length : Int)) (
  G (0 ≤ k ∧ k < ((ix b.2.2.1 i_1).length : Int)) (
  if (decide (¬ (ix (ix a.2.2.1 i_1) k) = (ix (ix b.2.2.1 i_1) k))) = true then
  some false else
  G (fits (k + (1 : Int))) (
  r14 (k + (1 : Int))))))) else
  G (fits (i_1 + (1 : Int))) (
  r9 (i_1 + (1 : Int))))
noncomputable def r3_Same_L14_F (a : (Int × Int × (List (List Int)) × (List Int) × Unit)) (b : (Int × Int × (List (List Int)) × (List Int) × Unit)) (i_1 : Int) (r9 : (Int → Option (Bool))) : (Int → Option (Bool)) → Int → Option (Bool) :=
  fun rec x => r3_Same_L14_B a b i_1 r9 (fun k => rec k) x
noncomputable def r3_Same_L14 (a : (Int × Int × (List (List Int)) × (List Int) × Unit)) (b : (Int × Int × (List (List Int)) × (List Int) × Unit)) (i_1 : Int) (r9 : (Int → Option (Bool))) (k : Int) : Option (Bool) := LFix (r3_Same_L14_F a b i_1 r9 ) k
noncomputable def r3_Same_L9_B (a : (Int × Int × (List (List Int)) × (List Int) × Unit)) (b : (Int × Int × (List (List Int)) × (List Int) × Unit)) (r9 : Int → Option (Bool)) (i_1 : Int) : Option (Bool) :=
  if (decide (i_1 < (a.2.2.1.length : Int))) = true then
  G (0 ≤ i_1 ∧ i_1 < (a.2.2.1.length : Int)) (
  G (0 ≤ i_1 ∧ i_1 < (b.2.2.1.length : Int)) (
  if (decide (¬ ((ix a.2.2.1 i_1).length : Int) = ((ix b.2.2.1 i_1).length : Int))) = true then
  some false else
  r3_Same_L14 a b i_1 r9 (0 : Int))) else
  some true
noncomputable def r3_Same_L9_F (a : (Int × Int × (List (List Int)) × (List Int) × Unit)) (b : (Int × Int × (List (List Int)) × (List Int) × Unit)) : (Int → Option (Bool)) → Int → Option (Bool) :=
  fun rec x => r3_Same_L9_B a b (fun i_1 => rec i_1) x
noncomputable def r3_Same_L9 (a : (Int × Int × (List (List Int)) × (List Int) × Unit)) (b : (Int × Int × (List (List Int)) × (List Int) × Unit)) (i_1 : Int) : Option (Bool) := LFix (r3_Same_L9_F a b ) i_1
noncomputable def r3_Same_L4_B (a : (Int × Int × (List (List Int)) × (List Int) × Unit)) (b : (Int × Int × (List (List Int)) × (List Int) × Unit)) (r4 : Int → Option (Bool)) (i : Int) : Option (Bool) :=
  if (decide (i < (a.2.2.2.1.length : Int))) = true then
  G (0 ≤ i ∧ i < (a.2.2.2.1.length : Int)) (
  G (0 ≤ i ∧ i < (b.2.2.2.1.length : Int)) (
  if (decide (¬ (ix a.2.2.2.1 i) = (ix b.2.2.2.1 i))) = true then
  some false else
  G (fits (i + (1 : Int))) (
  r4 (i + (1 : Int))))) else
  r3_Same_L9 a b (0 : Int)
noncomputable def r3_Same_L4_F (a : (Int × Int × (List (List Int)) × (List Int) × Unit)) (b : (Int × Int × (List (List Int)) × (List Int) × Unit)) : (Int → Option (Bool)) → Int → Option (Bool) :=
  fun rec x => r3_Same_L4_B a b (fun i => rec i) x
noncomputable def r3_Same_L4 (a : (Int × Int × (List (List Int)) × (List Int) × Unit)) (b : (Int × Int × (List (List Int)) × (List Int) × Unit)) (i : Int) : Option (Bool) := LFix (r3_Same_L4_F a b ) i
noncomputable def r3_Same (a : (Int × Int × (List (List Int)) × (List Int) × Unit)) (b : (Int × Int × (List (List Int)) × (List Int) × Unit)) : Option (Bool) :=
  if (decide (¬ a.1 = b.1)) = true then
  some false else
  if (decide (¬ a.2.1 = b.2.1)) = true then
  some false else
  if (decide (¬ (a.2.2.1.length : Int) = (b.2.2.1.length : Int))) = true then
  some false else
  if (decide (¬ (a.2.2.2.1.length : Int) = (b.2.2.2.1.length : Int))) = true then
  some false else
  r3_Same_L4 a b (0 : Int)
theorem r3_Same_L14_B_ch (r9 : Nat → Int → Option (Bool)) (r9' : Int → Option (Bool)) (h_r9 : ∀ a0, ChO (fun κ => r9 κ a0) (r9' a0)) (r14 : Nat → Int → Option (Bool)) (r14' : Int → Option (Bool)) (h_r14 : ∀ a0, ChO (fun κ => r14 κ a0) (r14' a0)) (a : (Int × Int × (List (List Int)) × (List Int) × Unit)) (b : (Int × Int × (List (List Int)) × (List Int) × Unit)) (i_1 : Int) (k : Int) : ChO (fun κ => r3_Same_L14_B a b i_1 (r9 κ) (r14 κ) k) (r3_Same_L14_B a b i_1 r9' r14' k) := by
  unfold r3_Same_L14_B
  repeat' with_reducible first | exact ChO.const _ | exact h_r9 _ | exact h_r14 _ | apply ChO.ite | apply ChO.G | apply ChO.both | (apply ChO.bind; intro _)
theorem r3_Same_L14_cn (r9 : Int → Option (Bool)) (a : (Int × Int × (List (List Int)) × (List Int) × Unit)) (b : (Int × Int × (List (List Int)) × (List Int) × Unit)) (i_1 : Int) : Cn (r3_Same_L14_F a b i_1 r9) := fun g h hg x => r3_Same_L14_B_ch (fun _ => r9) r9 (fun _ => ChO.const _) (fun κ k => g κ k) (fun k => h k) (fun k => hg k) a b i_1 x
theorem r3_Same_L14_eq (r9 : Int → Option (Bool)) (a : (Int × Int × (List (List Int)) × (List Int) × Unit)) (b : (Int × Int × (List (List Int)) × (List Int) × Unit)) (i_1 : Int) (k : Int) : r3_Same_L14 a b i_1 r9 k = r3_Same_L14_B a b i_1 r9 (r3_Same_L14 a b i_1 r9) k := LFix_eq (r3_Same_L14_cn r9 a b i_1) k
theorem r3_Same_L14_ch (r9 : Nat → Int → Option (Bool)) (r9' : Int → Option (Bool)) (h_r9 : ∀ a0, ChO (fun κ => r9 κ a0) (r9' a0)) (a : (Int × Int × (List (List Int)) × (List Int) × Unit)) (b : (Int × Int × (List (List Int)) × (List Int) × Unit)) (i_1 : Int) (k : Int) : ChO (fun κ => r3_Same_L14 a b i_1 (r9 κ) k) (r3_Same_L14 a b i_1 r9' k) := by
  unfold r3_Same_L14
  exact LFix_ch (fun κ => (r3_Same_L14_cn (r9 κ) a b i_1).mono) (r3_Same_L14_cn r9' a b i_1).mono (fun g h hg x => r3_Same_L14_B_ch r9 r9' h_r9 (fun κ k => g κ k) (fun k => h k) (fun k => hg k) a b i_1 x) _
theorem r3_Same_L9_B_ch (r9 : Nat → Int → Option (Bool)) (r9' : Int → Option (Bool)) (h_r9 : ∀ a0, ChO (fun κ => r9 κ a0) (r9' a0)) (a : (Int × Int × (List (List Int)) × (List Int) × Unit)) (b : (Int × Int × (List (List Int)) × (List Int) × Unit)) (i_1 : Int) : ChO (fun κ => r3_Same_L9_B a b (r9 κ) i_1) (r3_Same_L9_B a b r9' i_1) := by
  unfold r3_Same_L9_B
  repeat' with_reducible first | exact ChO.const _ | exact h_r9 _ | (apply r3_Same_L14_ch <;> assumption) | apply ChO.ite | apply ChO.G | apply ChO.both | (apply ChO.bind; intro _)
theorem r3_Same_L9_cn  (a : (Int × Int × (List (List Int)) × (List Int) × Unit)) (b : (Int × Int × (List (List Int)) × (List Int) × Unit)) : Cn (r3_Same_L9_F a b) := fun g h hg x => r3_Same_L9_B_ch  (fun κ i_1 => g κ i_1) (fun i_1 => h i_1) (fun i_1 => hg i_1) a b x
theorem r3_Same_L9_eq  (a : (Int × Int × (List (List Int)) × (List Int) × Unit)) (b : (Int × Int × (List (List Int)) × (List Int) × Unit)) (i_1 : Int) : r3_Same_L9 a b i_1 = r3_Same_L9_B a b (r3_Same_L9 a b) i_1 := LFix_eq (r3_Same_L9_cn a b) i_1
theorem r3_Same_L4_B_ch (r4 : Nat → Int → Option (Bool)) (r4' : Int → Option (Bool)) (h_r4 : ∀ a0, ChO (fun κ => r4 κ a0) (r4' a0)) (a : (Int × Int × (List (List Int)) × (List Int) × Unit)) (b : (Int × Int × (List (List Int)) × (List Int) × Unit)) (i : Int) : ChO (fun κ => r3_Same_L4_B a b (r4 κ) i) (r3_Same_L4_B a b r4' i) := by
  unfold r3_Same_L4_B
  repeat' with_reducible first | exact ChO.const _ | exact h_r4 _ | (apply r3_Same_L14_ch <;> assumption) | apply ChO.ite | apply ChO.G | apply ChO.both | (apply ChO.bind; intro _)
theorem r3_Same_L4_cn  (a : (Int × Int × (List (List Int)) × (List Int) × Unit)) (b : (Int × Int × (List (List Int)) × (List Int) × Unit)) : Cn (r3_Same_L4_F a b) := fun g h hg x => r3_Same_L4_B_ch  (fun κ i => g κ i) (fun i => h i) (fun i => hg i) a b x
theorem r3_Same_L4_eq  (a : (Int × Int × (List (List Int)) × (List Int) × Unit)) (b : (Int × Int × (List (List Int)) × (List Int) × Unit)) (i : Int) : r3_Same_L4 a b i = r3_Same_L4_B a b (r3_Same_L4 a b) i := LFix_eq (r3_Same_L4_cn a b) i

noncomputable def law_HigmanCloses_J5 (d : (Int × Int × (List (List Int)) × (List Int) × Unit)) (y' : (Int × Int × (List (List Int)) × (List Int) × Unit)) (y'_1 : Int) (y'_3 : (Int × Int × (List (List Int)) × (List Int) × Unit)) (y'_4 : Int) (no : Int) : Option (Bool) :=
  if (decide (¬ no = (0 : Int))) = true then
  (law_noDet (y'.1, (y'.2.1, (y'.2.2.1, (y'.2.2.2.1, ()))))).bind (fun y'_7 =>
  (law_noDet (y'_3.1, (y'_3.2.1, (y'_3.2.2.1, (y'_3.2.2.2.1, ()))))).bind (fun y'_8 =>
  if (decide (y'_1 = no)) = true then
  if (decide (y'_4 = no)) = true then
  if y'_7 = true then
  some y'_8 else
  some false else
  some false else
  some false)) else
  (r32_Wide (d.1, (d.2.1, (d.2.2.1, (d.2.2.2.1, ())))) true).bind (fun y'_9 =>
  (r32_Wide (d.1, (d.2.1, (d.2.2.1, (d.2.2.2.1, ())))) false).bind (fun y'_10 =>
  (r3_Same (y'.1, (y'.2.1, (y'.2.2.1, (y'.2.2.2.1, ())))) (y'_9.1, (y'_9.2.1, (y'_9.2.2.1, (y'_9.2.2.2.1, ()))))).bind (fun y'_11 =>
  (r3_Same (y'_3.1, (y'_3.2.1, (y'_3.2.2.1, (y'_3.2.2.2.1, ())))) (y'_10.1, (y'_10.2.1, (y'_10.2.2.1, (y'_10.2.2.2.1, ()))))).bind (fun y'_12 =>
  if (decide (y'_1 = (0 : Int))) = true then
  if (decide (y'_4 = (0 : Int))) = true then
  if y'_11 = true then
  some y'_12 else
  some false else
  some false else
  some false))))
noncomputable def law_HigmanCloses_J4 (d : (Int × Int × (List (List Int)) × (List Int) × Unit)) (y' : (Int × Int × (List (List Int)) × (List Int) × Unit)) (y'_1 : Int) (y'_3 : (Int × Int × (List (List Int)) × (List Int) × Unit)) (y'_4 : Int) (y'_6 : Int) (t : Bool) : Option (Bool) :=
  if t = true then
  law_HigmanCloses_J5 d y' y'_1 y'_3 y'_4 (1 : Int) else
  law_HigmanCloses_J5 d y' y'_1 y'_3 y'_4 y'_6
noncomputable def law_HigmanCloses (d : (Int × Int × (List (List Int)) × (List Int) × Unit)) : Option (Bool) :=
  (higman_Up (d.1, (d.2.1, (d.2.2.1, (d.2.2.2.1, ()))))).bind (fun y'_14 =>
  (higman_Down (d.1, (d.2.1, (d.2.2.1, (d.2.2.2.1, ()))))).bind (fun y'_13 =>
  (r3_Check (d.1, (d.2.1, (d.2.2.1, (d.2.2.2.1, ()))))).bind (fun y'_6 =>
  if (decide (y'_6 = (0 : Int))) = true then
  law_HigmanCloses_J4 d y'_14.1 y'_14.2 y'_13.1 y'_13.2 y'_6 (decide ((5 : Int) < (d.2.2.1.length : Int))) else
  law_HigmanCloses_J4 d y'_14.1 y'_14.2 y'_13.1 y'_13.2 y'_6 false)))

end Go.Proofs.Ytbbnolplpmnghaa.higmanClosesW
