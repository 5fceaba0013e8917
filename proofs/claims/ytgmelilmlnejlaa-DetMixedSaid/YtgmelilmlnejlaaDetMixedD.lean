/- What the functions that 'DetMixed' reaches compute: plain functions. -/
import Derived.Test.YtgmelilmlnejlaaEv13n21
set_option maxHeartbeats 1000000
set_option maxRecDepth 20000
set_option linter.unusedSimpArgs false
set_option linter.unusedVariables false
set_option linter.unusedSectionVars false
namespace Go.Proofs.Ytgmelilmlnejlaa.detMixedW
open Go Go.Ab
noncomputable def det_Check_1 (r : (List Int)) (t : (Int × Int × (List (List Int)) × (List Int) × Unit)) : Option (Bool) :=
  some (decide (¬ (r.length : Int) = t.1))

noncomputable def slices_IndexFunc_L2_B (s : (List (List Int))) (c : (Int × Int × (List (List Int)) × (List Int) × Unit)) (r2 : Int → Option (Int)) (t : Int) : Option (Int) :=
  if (decide (t < (s.length : Int))) = true then
  G (0 ≤ t ∧ t < (s.length : Int)) (
  (det_Check_1 (ix s t) c).bind (fun y' =>
  if y' = true then
  some t else
  G (fits (t + (1 : Int))) (
  r2 (t + (1 : Int))))) else
  some (-1 : Int)
noncomputable def slices_IndexFunc_L2_F (s : (List (List Int))) (c : (Int × Int × (List (List Int)) × (List Int) × Unit)) : (Int → Option (Int)) → Int → Option (Int) :=
  fun rec x => slices_IndexFunc_L2_B s c (fun t => rec t) x
noncomputable def slices_IndexFunc_L2 (s : (List (List Int))) (c : (Int × Int × (List (List Int)) × (List Int) × Unit)) (t : Int) : Option (Int) := LFix (slices_IndexFunc_L2_F s c ) t
noncomputable def slices_IndexFunc (s : (List (List Int))) (c : (Int × Int × (List (List Int)) × (List Int) × Unit)) : Option (Int) :=
  slices_IndexFunc_L2 s c (0 : Int)
theorem slices_IndexFunc_L2_B_ch (r2 : Nat → Int → Option (Int)) (r2' : Int → Option (Int)) (h_r2 : ∀ a0, ChO (fun κ => r2 κ a0) (r2' a0)) (s : (List (List Int))) (c : (Int × Int × (List (List Int)) × (List Int) × Unit)) (t : Int) : ChO (fun κ => slices_IndexFunc_L2_B s c (r2 κ) t) (slices_IndexFunc_L2_B s c r2' t) := by
  unfold slices_IndexFunc_L2_B
  repeat' with_reducible first | exact ChO.const _ | exact h_r2 _ | apply ChO.ite | apply ChO.G | apply ChO.both | (apply ChO.bind; intro _)
theorem slices_IndexFunc_L2_cn  (s : (List (List Int))) (c : (Int × Int × (List (List Int)) × (List Int) × Unit)) : Cn (slices_IndexFunc_L2_F s c) := fun g h hg x => slices_IndexFunc_L2_B_ch  (fun κ t => g κ t) (fun t => h t) (fun t => hg t) s c x
theorem slices_IndexFunc_L2_eq  (s : (List (List Int))) (c : (Int × Int × (List (List Int)) × (List Int) × Unit)) (t : Int) : slices_IndexFunc_L2 s c t = slices_IndexFunc_L2_B s c (slices_IndexFunc_L2 s c) t := LFix_eq (slices_IndexFunc_L2_cn s c) t

noncomputable def slices_ContainsFunc (s : (List (List Int))) (c : (Int × Int × (List (List Int)) × (List Int) × Unit)) : Option (Bool) :=
  (slices_IndexFunc s c).bind (fun y' =>
  some (decide ((0 : Int) ≤ y')))

noncomputable def det_Check_2 (q : Int) (t : Int) : Option (Bool) :=
  if (decide (q < (0 : Int))) = true then
  some true else
  some (decide (t ≤ q))

noncomputable def slices_IndexFunc_2_L2_B (s : (List Int)) (c : Int) (r2 : Int → Option (Int)) (t : Int) : Option (Int) :=
  if (decide (t < (s.length : Int))) = true then
  G (0 ≤ t ∧ t < (s.length : Int)) (
  (det_Check_2 (ix s t) c).bind (fun y' =>
  if y' = true then
  some t else
  G (fits (t + (1 : Int))) (
  r2 (t + (1 : Int))))) else
  some (-1 : Int)
noncomputable def slices_IndexFunc_2_L2_F (s : (List Int)) (c : Int) : (Int → Option (Int)) → Int → Option (Int) :=
  fun rec x => slices_IndexFunc_2_L2_B s c (fun t => rec t) x
noncomputable def slices_IndexFunc_2_L2 (s : (List Int)) (c : Int) (t : Int) : Option (Int) := LFix (slices_IndexFunc_2_L2_F s c ) t
noncomputable def slices_IndexFunc_2 (s : (List Int)) (c : Int) : Option (Int) :=
  slices_IndexFunc_2_L2 s c (0 : Int)
theorem slices_IndexFunc_2_L2_B_ch (r2 : Nat → Int → Option (Int)) (r2' : Int → Option (Int)) (h_r2 : ∀ a0, ChO (fun κ => r2 κ a0) (r2' a0)) (s : (List Int)) (c : Int) (t : Int) : ChO (fun κ => slices_IndexFunc_2_L2_B s c (r2 κ) t) (slices_IndexFunc_2_L2_B s c r2' t) := by
  unfold slices_IndexFunc_2_L2_B
  repeat' with_reducible first | exact ChO.const _ | exact h_r2 _ | apply ChO.ite | apply ChO.G | apply ChO.both | (apply ChO.bind; intro _)
theorem slices_IndexFunc_2_L2_cn  (s : (List Int)) (c : Int) : Cn (slices_IndexFunc_2_L2_F s c) := fun g h hg x => slices_IndexFunc_2_L2_B_ch  (fun κ t => g κ t) (fun t => h t) (fun t => hg t) s c x
theorem slices_IndexFunc_2_L2_eq  (s : (List Int)) (c : Int) (t : Int) : slices_IndexFunc_2_L2 s c t = slices_IndexFunc_2_L2_B s c (slices_IndexFunc_2_L2 s c) t := LFix_eq (slices_IndexFunc_2_L2_cn s c) t

noncomputable def slices_ContainsFunc_2 (s : (List Int)) (c : Int) : Option (Bool) :=
  (slices_IndexFunc_2 s c).bind (fun y' =>
  some (decide ((0 : Int) ≤ y')))

noncomputable def det_Check_3 (r : (List Int)) (c : Int) : Option (Bool × Int) :=
  (slices_ContainsFunc_2 r c).bind (fun y' =>
  some (y', c))

noncomputable def slices_IndexFunc_1_L2_B (s : (List (List Int))) (r2 : Int → Int → Option (Int × Int)) (t : Int) (l : Int) : Option (Int × Int) :=
  if (decide (t < (s.length : Int))) = true then
  G (0 ≤ t ∧ t < (s.length : Int)) (
  (det_Check_3 (ix s t) l).bind (fun y'_3 =>
  if y'_3.1 = true then
  some (t, y'_3.2) else
  G (fits (t + (1 : Int))) (
  r2 (t + (1 : Int)) y'_3.2))) else
  some ((-1 : Int), l)
noncomputable def slices_IndexFunc_1_L2_F (s : (List (List Int))) : (Int × Int → Option (Int × Int)) → Int × Int → Option (Int × Int) :=
  fun rec x => slices_IndexFunc_1_L2_B s (fun t l => rec (t, l)) x.1 x.2
noncomputable def slices_IndexFunc_1_L2 (s : (List (List Int))) (t : Int) (l : Int) : Option (Int × Int) := LFix (slices_IndexFunc_1_L2_F s ) (t, l)
noncomputable def slices_IndexFunc_1 (s : (List (List Int))) (c : Int) : Option (Int × Int) :=
  slices_IndexFunc_1_L2 s (0 : Int) c
theorem slices_IndexFunc_1_L2_B_ch (r2 : Nat → Int → Int → Option (Int × Int)) (r2' : Int → Int → Option (Int × Int)) (h_r2 : ∀ a0 a1, ChO (fun κ => r2 κ a0 a1) (r2' a0 a1)) (s : (List (List Int))) (t : Int) (l : Int) : ChO (fun κ => slices_IndexFunc_1_L2_B s (r2 κ) t l) (slices_IndexFunc_1_L2_B s r2' t l) := by
  unfold slices_IndexFunc_1_L2_B
  repeat' with_reducible first | exact ChO.const _ | exact h_r2 _ _ | apply ChO.ite | apply ChO.G | apply ChO.both | (apply ChO.bind; intro _)
theorem slices_IndexFunc_1_L2_cn  (s : (List (List Int))) : Cn (slices_IndexFunc_1_L2_F s) := fun g h hg x => slices_IndexFunc_1_L2_B_ch  (fun κ t l => g κ (t, l)) (fun t l => h (t, l)) (fun t l => hg (t, l)) s x.1 x.2
theorem slices_IndexFunc_1_L2_eq  (s : (List (List Int))) (t : Int) (l : Int) : slices_IndexFunc_1_L2 s t l = slices_IndexFunc_1_L2_B s (slices_IndexFunc_1_L2 s) t l := LFix_eq (slices_IndexFunc_1_L2_cn s) (t, l)

noncomputable def slices_ContainsFunc_1 (s : (List (List Int))) (c : Int) : Option (Bool × Int) :=
  (slices_IndexFunc_1 s c).bind (fun y'_3 =>
  some (decide ((0 : Int) ≤ y'_3.1), y'_3.2))

noncomputable def det_Check_4 (m : Int) : Option (Bool) :=
  if (decide (¬ m = (0 : Int))) = true then
  some (decide (¬ m = (1 : Int))) else
  some false

noncomputable def slices_IndexFunc_3_L2_B (s : (List Int)) (r2 : Int → Option (Int)) (t : Int) : Option (Int) :=
  if (decide (t < (s.length : Int))) = true then
  G (0 ≤ t ∧ t < (s.length : Int)) (
  (det_Check_4 (ix s t)).bind (fun y' =>
  if y' = true then
  some t else
  G (fits (t + (1 : Int))) (
  r2 (t + (1 : Int))))) else
  some (-1 : Int)
noncomputable def slices_IndexFunc_3_L2_F (s : (List Int)) : (Int → Option (Int)) → Int → Option (Int) :=
  fun rec x => slices_IndexFunc_3_L2_B s (fun t => rec t) x
noncomputable def slices_IndexFunc_3_L2 (s : (List Int)) (t : Int) : Option (Int) := LFix (slices_IndexFunc_3_L2_F s ) t
noncomputable def slices_IndexFunc_3 (s : (List Int)) : Option (Int) :=
  slices_IndexFunc_3_L2 s (0 : Int)
theorem slices_IndexFunc_3_L2_B_ch (r2 : Nat → Int → Option (Int)) (r2' : Int → Option (Int)) (h_r2 : ∀ a0, ChO (fun κ => r2 κ a0) (r2' a0)) (s : (List Int)) (t : Int) : ChO (fun κ => slices_IndexFunc_3_L2_B s (r2 κ) t) (slices_IndexFunc_3_L2_B s r2' t) := by
  unfold slices_IndexFunc_3_L2_B
  repeat' with_reducible first | exact ChO.const _ | exact h_r2 _ | apply ChO.ite | apply ChO.G | apply ChO.both | (apply ChO.bind; intro _)
theorem slices_IndexFunc_3_L2_cn  (s : (List Int)) : Cn (slices_IndexFunc_3_L2_F s) := fun g h hg x => slices_IndexFunc_3_L2_B_ch  (fun κ t => g κ t) (fun t => h t) (fun t => hg t) s x
theorem slices_IndexFunc_3_L2_eq  (s : (List Int)) (t : Int) : slices_IndexFunc_3_L2 s t = slices_IndexFunc_3_L2_B s (slices_IndexFunc_3_L2 s) t := LFix_eq (slices_IndexFunc_3_L2_cn s) t

noncomputable def slices_ContainsFunc_3 (s : (List Int)) : Option (Bool) :=
  (slices_IndexFunc_3 s).bind (fun y' =>
  some (decide ((0 : Int) ≤ y')))

noncomputable def det_Check (d : (Int × Int × (List (List Int)) × (List Int) × Unit)) : Option (Int) :=
  if (decide (d.1 < (1 : Int))) = true then
  some (2 : Int) else
  if (decide ((4 : Int) < d.1)) = true then
  some (2 : Int) else
  if (decide ((d.2.2.1.length : Int) < (1 : Int))) = true then
  some (1 : Int) else
  if (decide ((3000 : Int) < (d.2.2.1.length : Int))) = true then
  some (1 : Int) else
  if (decide (¬ (d.2.2.2.1.length : Int) = (d.2.2.1.length : Int))) = true then
  some (3 : Int) else
  (slices_ContainsFunc d.2.2.1 (d.1, (d.2.1, (d.2.2.1, (d.2.2.2.1, ()))))).bind (fun y' =>
  if y' = true then
  some (3 : Int) else
  (det_Check_2 d.2.1 (d.2.2.1.length : Int)).bind (fun y'_1 =>
  if y'_1 = true then
  some (2 : Int) else
  (slices_ContainsFunc_1 d.2.2.1 (d.2.2.1.length : Int)).bind (fun y'_6 =>
  if y'_6.1 = true then
  some (2 : Int) else
  (slices_ContainsFunc_3 d.2.2.2.1).bind (fun y'_5 =>
  if y'_5 = true then
  some (2 : Int) else
  some (0 : Int)))))

noncomputable def det_two_L2_B (a : (Int × Int × (List (List Int)) × (List Int) × Unit)) (b : (Int × Int × (List (List Int)) × (List Int) × Unit)) (r2 : Int → Option (Int)) (t : Int) : Option (Int) :=
  if (decide (t < (([(a.1, (a.2.1, (a.2.2.1, (a.2.2.2.1, ())))), (b.1, (b.2.1, (b.2.2.1, (b.2.2.2.1, ()))))]).length : Int))) = true then
  G (0 ≤ t ∧ t < (([(a.1, (a.2.1, (a.2.2.1, (a.2.2.2.1, ())))), (b.1, (b.2.1, (b.2.2.1, (b.2.2.2.1, ()))))]).length : Int)) (
  G ((t).toNat < ([(a.1, (a.2.1, (a.2.2.1, (a.2.2.2.1, ())))), (b.1, (b.2.1, (b.2.2.1, (b.2.2.2.1, ()))))]).length) (
  (det_Check ((ix ([(a.1, (a.2.1, (a.2.2.1, (a.2.2.2.1, ())))), (b.1, (b.2.1, (b.2.2.1, (b.2.2.2.1, ()))))]) t).1, (((ix ([(a.1, (a.2.1, (a.2.2.1, (a.2.2.2.1, ())))), (b.1, (b.2.1, (b.2.2.1, (b.2.2.2.1, ()))))]) t).2).1, ((((ix ([(a.1, (a.2.1, (a.2.2.1, (a.2.2.2.1, ())))), (b.1, (b.2.1, (b.2.2.1, (b.2.2.2.1, ()))))]) t).2).2).1, (((((ix ([(a.1, (a.2.1, (a.2.2.1, (a.2.2.2.1, ())))), (b.1, (b.2.1, (b.2.2.1, (b.2.2.2.1, ()))))]) t).2).2).2).1, ()))))).bind (fun y' =>
  if (decide (¬ y' = (0 : Int))) = true then
  some y' else
  G (fits (t + (1 : Int))) (
  r2 (t + (1 : Int)))))) else
  if (decide (¬ a.1 = b.1)) = true then
  some (3 : Int) else
  some (0 : Int)
noncomputable def det_two_L2_F (a : (Int × Int × (List (List Int)) × (List Int) × Unit)) (b : (Int × Int × (List (List Int)) × (List Int) × Unit)) : (Int → Option (Int)) → Int → Option (Int) :=
  fun rec x => det_two_L2_B a b (fun t => rec t) x
noncomputable def det_two_L2 (a : (Int × Int × (List (List Int)) × (List Int) × Unit)) (b : (Int × Int × (List (List Int)) × (List Int) × Unit)) (t : Int) : Option (Int) := LFix (det_two_L2_F a b ) t
noncomputable def det_two (a : (Int × Int × (List (List Int)) × (List Int) × Unit)) (b : (Int × Int × (List (List Int)) × (List Int) × Unit)) : Option (Int) :=
  det_two_L2 a b (0 : Int)
theorem det_two_L2_B_ch (r2 : Nat → Int → Option (Int)) (r2' : Int → Option (Int)) (h_r2 : ∀ a0, ChO (fun κ => r2 κ a0) (r2' a0)) (a : (Int × Int × (List (List Int)) × (List Int) × Unit)) (b : (Int × Int × (List (List Int)) × (List Int) × Unit)) (t : Int) : ChO (fun κ => det_two_L2_B a b (r2 κ) t) (det_two_L2_B a b r2' t) := by
  unfold det_two_L2_B
  repeat' with_reducible first | exact ChO.const _ | exact h_r2 _ | apply ChO.ite | apply ChO.G | apply ChO.both | (apply ChO.bind; intro _)
theorem det_two_L2_cn  (a : (Int × Int × (List (List Int)) × (List Int) × Unit)) (b : (Int × Int × (List (List Int)) × (List Int) × Unit)) : Cn (det_two_L2_F a b) := fun g h hg x => det_two_L2_B_ch  (fun κ t => g κ t) (fun t => h t) (fun t => hg t) a b x
theorem det_two_L2_eq  (a : (Int × Int × (List (List Int)) × (List Int) × Unit)) (b : (Int × Int × (List (List Int)) × (List Int) × Unit)) (t : Int) : det_two_L2 a b t = det_two_L2_B a b (det_two_L2 a b) t := LFix_eq (det_two_L2_cn a b) t

noncomputable def det_Mixed_1 (c : (Int × Int × Unit)) (l : Int) (t : (Int × Int × (List (List Int)) × (List Int) × Unit)) (t_1 : (Int × Int × (List (List Int)) × (List Int) × Unit)) : Option (Int × Int × Unit) :=
  G (0 ≤ c.1 ∧ c.1 < (t.2.2.1.length : Int)) (
  G (0 ≤ l ∧ l < ((ix t.2.2.1 c.1).length : Int)) (
  G (0 ≤ c.2.1 ∧ c.2.1 < (t_1.2.2.1.length : Int)) (
  G (0 ≤ l ∧ l < ((ix t_1.2.2.1 c.2.1).length : Int)) (
  some (ix (ix t.2.2.1 c.1) l, (ix (ix t_1.2.2.1 c.2.1) l, ()))))))

noncomputable def det_Mixed_2 (c : (Int × Int × Unit)) (t : Int) (t_1 : (Int × Int × (List (List Int)) × (List Int) × Unit)) (t_2 : (Int × Int × (List (List Int)) × (List Int) × Unit)) : Option (Int) :=
  G (0 ≤ c.1 ∧ c.1 < (t_1.2.2.2.1.length : Int)) (
  G (fits ((2 : Int) * (ix t_1.2.2.2.1 c.1))) (
  G (0 ≤ c.2.1 ∧ c.2.1 < (t_2.2.2.2.1.length : Int)) (
  G (fits (((2 : Int) * (ix t_1.2.2.2.1 c.1)) + (ix t_2.2.2.2.1 c.2.1))) (
  G (0 ≤ ((2 : Int) * (ix t_1.2.2.2.1 c.1)) + (ix t_2.2.2.2.1 c.2.1)) (
  some (iand .i64 (ishr .i64 t (((2 : Int) * (ix t_1.2.2.2.1 c.1)) + (ix t_2.2.2.2.1 c.2.1))) (1 : Int)))))))

noncomputable def det_Explore_J17 (t : Int) (row : (List Int)) (r8 : (Int → (List (Int × Int × Unit)) → (List Int) → (List (Int × Int × Unit)) → (List Int) → Option ((Int × Int × (List (List Int)) × (List Int) × Unit) × Bool))) (n : Int) (number_4 : (List (Int × Int × Unit))) (number_5 : (List Int)) (l_2 : (List (Int × Int × Unit))) : Option ((Int × Int × (List (List Int)) × (List Int) × Unit) × Bool) :=
  G (0 ≤ t ∧ t < (row.length : Int)) (
  G ((t).toNat < row.length) (
  G (fits (t + (1 : Int))) (
  r8 (t + (1 : Int)) number_4 number_5 l_2 (row.set (t).toNat n))))
noncomputable def det_Explore_L8_B (letters : Int) (c : (Int × Int × (List (List Int)) × (List Int) × Unit)) (c_1 : (Int × Int × (List (List Int)) × (List Int) × Unit)) (c_2 : Int) (c_3 : (Int × Int × (List (List Int)) × (List Int) × Unit)) (c_4 : (Int × Int × (List (List Int)) × (List Int) × Unit)) (most : Int) (d : Int) (d_1 : Int) (l : (List (Int × Int × Unit))) (d_2 : (List (List Int))) (d_3 : (List Int)) (r4 : (Int → Int → (List (Int × Int × Unit)) → (List Int) → (List (Int × Int × Unit)) → (List (List Int)) → (List Int) → Option ((Int × Int × (List (List Int)) × (List Int) × Unit) × Bool))) (r8 : Int → (List (Int × Int × Unit)) → (List Int) → (List (Int × Int × Unit)) → (List Int) → Option ((Int × Int × (List (List Int)) × (List Int) × Unit) × Bool)) (t : Int) (number_2 : (List (Int × Int × Unit))) (number_3 : (List Int)) (l_1 : (List (Int × Int × Unit))) (row : (List Int)) : Option ((Int × Int × (List (List Int)) × (List Int) × Unit) × Bool) :=
  if (decide (t < letters)) = true then
  (det_Mixed_1 ((ix l (d_2.length : Int)).1, (((ix l (d_2.length : Int)).2).1, ())) t c c_1).bind (fun y' =>
  if (!(mhas number_2 (y'.1, (y'.2.1, ())))) = true then
  if (decide ((l_1.length : Int) = most)) = true then
  some (((0 : Int), ((0 : Int), ([], ([], ())))), false) else
  G (room l_1 ([(y'.1, (y'.2.1, ()))]) 16) (
  det_Explore_J17 t row r8 (l_1.length : Int) (mputK number_2 (y'.1, (y'.2.1, ()))) (mputV number_2 number_3 (y'.1, (y'.2.1, ())) (l_1.length : Int)) (l_1 ++ ([(y'.1, (y'.2.1, ()))]))) else
  det_Explore_J17 t row r8 (mget number_2 number_3 (y'.1, (y'.2.1, ())) (0 : Int)) number_2 number_3 l_1) else
  G (room d_2 ([row]) 24) (
  (det_Mixed_2 ((ix l (d_2.length : Int)).1, (((ix l (d_2.length : Int)).2).1, ())) c_2 c_3 c_4).bind (fun y'_1 =>
  G (room d_3 ([y'_1]) 8) (
  r4 d d_1 number_2 number_3 l_1 (d_2 ++ ([row])) (d_3 ++ ([y'_1])))))
noncomputable def det_Explore_L8_F (letters : Int) (c : (Int × Int × (List (List Int)) × (List Int) × Unit)) (c_1 : (Int × Int × (List (List Int)) × (List Int) × Unit)) (c_2 : Int) (c_3 : (Int × Int × (List (List Int)) × (List Int) × Unit)) (c_4 : (Int × Int × (List (List Int)) × (List Int) × Unit)) (most : Int) (d : Int) (d_1 : Int) (l : (List (Int × Int × Unit))) (d_2 : (List (List Int))) (d_3 : (List Int)) (r4 : (Int → Int → (List (Int × Int × Unit)) → (List Int) → (List (Int × Int × Unit)) → (List (List Int)) → (List Int) → Option ((Int × Int × (List (List Int)) × (List Int) × Unit) × Bool))) : (Int × (List (Int × Int × Unit)) × (List Int) × (List (Int × Int × Unit)) × (List Int) → Option ((Int × Int × (List (List Int)) × (List Int) × Unit) × Bool)) → Int × (List (Int × Int × Unit)) × (List Int) × (List (Int × Int × Unit)) × (List Int) → Option ((Int × Int × (List (List Int)) × (List Int) × Unit) × Bool) :=
  fun rec x => det_Explore_L8_B letters c c_1 c_2 c_3 c_4 most d d_1 l d_2 d_3 r4 (fun t number_2 number_3 l_1 row => rec (t, number_2, number_3, l_1, row)) x.1 x.2.1 x.2.2.1 x.2.2.2.1 x.2.2.2.2
noncomputable def det_Explore_L8 (letters : Int) (c : (Int × Int × (List (List Int)) × (List Int) × Unit)) (c_1 : (Int × Int × (List (List Int)) × (List Int) × Unit)) (c_2 : Int) (c_3 : (Int × Int × (List (List Int)) × (List Int) × Unit)) (c_4 : (Int × Int × (List (List Int)) × (List Int) × Unit)) (most : Int) (d : Int) (d_1 : Int) (l : (List (Int × Int × Unit))) (d_2 : (List (List Int))) (d_3 : (List Int)) (r4 : (Int → Int → (List (Int × Int × Unit)) → (List Int) → (List (Int × Int × Unit)) → (List (List Int)) → (List Int) → Option ((Int × Int × (List (List Int)) × (List Int) × Unit) × Bool))) (t : Int) (number_2 : (List (Int × Int × Unit))) (number_3 : (List Int)) (l_1 : (List (Int × Int × Unit))) (row : (List Int)) : Option ((Int × Int × (List (List Int)) × (List Int) × Unit) × Bool) := LFix (det_Explore_L8_F letters c c_1 c_2 c_3 c_4 most d d_1 l d_2 d_3 r4 ) (t, number_2, number_3, l_1, row)
noncomputable def det_Explore_L4_B (letters : Int) (c : (Int × Int × (List (List Int)) × (List Int) × Unit)) (c_1 : (Int × Int × (List (List Int)) × (List Int) × Unit)) (c_2 : Int) (c_3 : (Int × Int × (List (List Int)) × (List Int) × Unit)) (c_4 : (Int × Int × (List (List Int)) × (List Int) × Unit)) (most : Int) (r4 : Int → Int → (List (Int × Int × Unit)) → (List Int) → (List (Int × Int × Unit)) → (List (List Int)) → (List Int) → Option ((Int × Int × (List (List Int)) × (List Int) × Unit) × Bool)) (d : Int) (d_1 : Int) (number : (List (Int × Int × Unit))) (number_1 : (List Int)) (l : (List (Int × Int × Unit))) (d_2 : (List (List Int))) (d_3 : (List Int)) : Option ((Int × Int × (List (List Int)) × (List Int) × Unit) × Bool) :=
  if (decide ((d_2.length : Int) < (l.length : Int))) = true then
  G (0 ≤ (d_2.length : Int) ∧ (d_2.length : Int) < (l.length : Int)) (
  G (((d_2.length : Int)).toNat < l.length) (
  G (mkOK letters letters 8) (
  det_Explore_L8 letters c c_1 c_2 c_3 c_4 most d d_1 l d_2 d_3 r4 (0 : Int) number number_1 l (List.replicate (letters).toNat (0 : Int))))) else
  some ((d, (d_1, (d_2, (d_3, ())))), true)
noncomputable def det_Explore_L4_F (letters : Int) (c : (Int × Int × (List (List Int)) × (List Int) × Unit)) (c_1 : (Int × Int × (List (List Int)) × (List Int) × Unit)) (c_2 : Int) (c_3 : (Int × Int × (List (List Int)) × (List Int) × Unit)) (c_4 : (Int × Int × (List (List Int)) × (List Int) × Unit)) (most : Int) : (Int × Int × (List (Int × Int × Unit)) × (List Int) × (List (Int × Int × Unit)) × (List (List Int)) × (List Int) → Option ((Int × Int × (List (List Int)) × (List Int) × Unit) × Bool)) → Int × Int × (List (Int × Int × Unit)) × (List Int) × (List (Int × Int × Unit)) × (List (List Int)) × (List Int) → Option ((Int × Int × (List (List Int)) × (List Int) × Unit) × Bool) :=
  fun rec x => det_Explore_L4_B letters c c_1 c_2 c_3 c_4 most (fun d d_1 number number_1 l d_2 d_3 => rec (d, d_1, number, number_1, l, d_2, d_3)) x.1 x.2.1 x.2.2.1 x.2.2.2.1 x.2.2.2.2.1 x.2.2.2.2.2.1 x.2.2.2.2.2.2
noncomputable def det_Explore_L4 (letters : Int) (c : (Int × Int × (List (List Int)) × (List Int) × Unit)) (c_1 : (Int × Int × (List (List Int)) × (List Int) × Unit)) (c_2 : Int) (c_3 : (Int × Int × (List (List Int)) × (List Int) × Unit)) (c_4 : (Int × Int × (List (List Int)) × (List Int) × Unit)) (most : Int) (d : Int) (d_1 : Int) (number : (List (Int × Int × Unit))) (number_1 : (List Int)) (l : (List (Int × Int × Unit))) (d_2 : (List (List Int))) (d_3 : (List Int)) : Option ((Int × Int × (List (List Int)) × (List Int) × Unit) × Bool) := LFix (det_Explore_L4_F letters c c_1 c_2 c_3 c_4 most ) (d, d_1, number, number_1, l, d_2, d_3)
noncomputable def det_Explore (letters : Int) (first : (Int × Int × Unit)) (c : (Int × Int × (List (List Int)) × (List Int) × Unit)) (c_1 : (Int × Int × (List (List Int)) × (List Int) × Unit)) (c_2 : Int) (c_3 : (Int × Int × (List (List Int)) × (List Int) × Unit)) (c_4 : (Int × Int × (List (List Int)) × (List Int) × Unit)) (most : Int) : Option ((Int × Int × (List (List Int)) × (List Int) × Unit) × Bool) :=
  det_Explore_L4 letters c c_1 c_2 c_3 c_4 most letters (0 : Int) (mputK ([] : List (Int × Int × Unit)) (first.1, (first.2.1, ()))) (mputV ([] : List (Int × Int × Unit)) ([] : List Int) (first.1, (first.2.1, ())) (0 : Int)) ([(first.1, (first.2.1, ()))]) ([] : List (List Int)) ([] : List Int)
theorem det_Explore_J17_ch (r8 : Nat → Int → (List (Int × Int × Unit)) → (List Int) → (List (Int × Int × Unit)) → (List Int) → Option ((Int × Int × (List (List Int)) × (List Int) × Unit) × Bool)) (r8' : Int → (List (Int × Int × Unit)) → (List Int) → (List (Int × Int × Unit)) → (List Int) → Option ((Int × Int × (List (List Int)) × (List Int) × Unit) × Bool)) (h_r8 : ∀ a0 a1 a2 a3 a4, ChO (fun κ => r8 κ a0 a1 a2 a3 a4) (r8' a0 a1 a2 a3 a4)) (t : Int) (row : (List Int)) (n : Int) (number_4 : (List (Int × Int × Unit))) (number_5 : (List Int)) (l_2 : (List (Int × Int × Unit))) : ChO (fun κ => det_Explore_J17 t row (r8 κ) n number_4 number_5 l_2) (det_Explore_J17 t row r8' n number_4 number_5 l_2) := by
  unfold det_Explore_J17
  repeat' with_reducible first | exact ChO.const _ | exact h_r8 _ _ _ _ _ | apply ChO.ite | apply ChO.G | apply ChO.both | (apply ChO.bind; intro _)
theorem det_Explore_L8_B_ch (r4 : Nat → Int → Int → (List (Int × Int × Unit)) → (List Int) → (List (Int × Int × Unit)) → (List (List Int)) → (List Int) → Option ((Int × Int × (List (List Int)) × (List Int) × Unit) × Bool)) (r4' : Int → Int → (List (Int × Int × Unit)) → (List Int) → (List (Int × Int × Unit)) → (List (List Int)) → (List Int) → Option ((Int × Int × (List (List Int)) × (List Int) × Unit) × Bool)) (h_r4 : ∀ a0 a1 a2 a3 a4 a5 a6, ChO (fun κ => r4 κ a0 a1 a2 a3 a4 a5 a6) (r4' a0 a1 a2 a3 a4 a5 a6)) (r8 : Nat → Int → (List (Int × Int × Unit)) → (List Int) → (List (Int × Int × Unit)) → (List Int) → Option ((Int × Int × (List (List Int)) × (List Int) × Unit) × Bool)) (r8' : Int → (List (Int × Int × Unit)) → (List Int) → (List (Int × Int × Unit)) → (List Int) → Option ((Int × Int × (List (List Int)) × (List Int) × Unit) × Bool)) (h_r8 : ∀ a0 a1 a2 a3 a4, ChO (fun κ => r8 κ a0 a1 a2 a3 a4) (r8' a0 a1 a2 a3 a4)) (letters : Int) (c : (Int × Int × (List (List Int)) × (List Int) × Unit)) (c_1 : (Int × Int × (List (List Int)) × (List Int) × Unit)) (c_2 : Int) (c_3 : (Int × Int × (List (List Int)) × (List Int) × Unit)) (c_4 : (Int × Int × (List (List Int)) × (List Int) × Unit)) (most : Int) (d : Int) (d_1 : Int) (l : (List (Int × Int × Unit))) (d_2 : (List (List Int))) (d_3 : (List Int)) (t : Int) (number_2 : (List (Int × Int × Unit))) (number_3 : (List Int)) (l_1 : (List (Int × Int × Unit))) (row : (List Int)) : ChO (fun κ => det_Explore_L8_B letters c c_1 c_2 c_3 c_4 most d d_1 l d_2 d_3 (r4 κ) (r8 κ) t number_2 number_3 l_1 row) (det_Explore_L8_B letters c c_1 c_2 c_3 c_4 most d d_1 l d_2 d_3 r4' r8' t number_2 number_3 l_1 row) := by
  unfold det_Explore_L8_B
  repeat' with_reducible first | exact ChO.const _ | exact h_r4 _ _ _ _ _ _ _ | exact h_r8 _ _ _ _ _ | (apply det_Explore_J17_ch <;> assumption) | apply ChO.ite | apply ChO.G | apply ChO.both | (apply ChO.bind; intro _)
theorem det_Explore_L8_cn (r4 : Int → Int → (List (Int × Int × Unit)) → (List Int) → (List (Int × Int × Unit)) → (List (List Int)) → (List Int) → Option ((Int × Int × (List (List Int)) × (List Int) × Unit) × Bool)) (letters : Int) (c : (Int × Int × (List (List Int)) × (List Int) × Unit)) (c_1 : (Int × Int × (List (List Int)) × (List Int) × Unit)) (c_2 : Int) (c_3 : (Int × Int × (List (List Int)) × (List Int) × Unit)) (c_4 : (Int × Int × (List (List Int)) × (List Int) × Unit)) (most : Int) (d : Int) (d_1 : Int) (l : (List (Int × Int × Unit))) (d_2 : (List (List Int))) (d_3 : (List Int)) : Cn (det_Explore_L8_F letters c c_1 c_2 c_3 c_4 most d d_1 l d_2 d_3 r4) := fun g h hg x => det_Explore_L8_B_ch (fun _ => r4) r4 (fun _ _ _ _ _ _ _ => ChO.const _) (fun κ t number_2 number_3 l_1 row => g κ (t, number_2, number_3, l_1, row)) (fun t number_2 number_3 l_1 row => h (t, number_2, number_3, l_1, row)) (fun t number_2 number_3 l_1 row => hg (t, number_2, number_3, l_1, row)) letters c c_1 c_2 c_3 c_4 most d d_1 l d_2 d_3 x.1 x.2.1 x.2.2.1 x.2.2.2.1 x.2.2.2.2
theorem det_Explore_L8_eq (r4 : Int → Int → (List (Int × Int × Unit)) → (List Int) → (List (Int × Int × Unit)) → (List (List Int)) → (List Int) → Option ((Int × Int × (List (List Int)) × (List Int) × Unit) × Bool)) (letters : Int) (c : (Int × Int × (List (List Int)) × (List Int) × Unit)) (c_1 : (Int × Int × (List (List Int)) × (List Int) × Unit)) (c_2 : Int) (c_3 : (Int × Int × (List (List Int)) × (List Int) × Unit)) (c_4 : (Int × Int × (List (List Int)) × (List Int) × Unit)) (most : Int) (d : Int) (d_1 : Int) (l : (List (Int × Int × Unit))) (d_2 : (List (List Int))) (d_3 : (List Int)) (t : Int) (number_2 : (List (Int × Int × Unit))) (number_3 : (List Int)) (l_1 : (List (Int × Int × Unit))) (row : (List Int)) : det_Explore_L8 letters c c_1 c_2 c_3 c_4 most d d_1 l d_2 d_3 r4 t number_2 number_3 l_1 row = det_Explore_L8_B letters c c_1 c_2 c_3 c_4 most d d_1 l d_2 d_3 r4 (det_Explore_L8 letters c c_1 c_2 c_3 c_4 most d d_1 l d_2 d_3 r4) t number_2 number_3 l_1 row := LFix_eq (det_Explore_L8_cn r4 letters c c_1 c_2 c_3 c_4 most d d_1 l d_2 d_3) (t, number_2, number_3, l_1, row)
theorem det_Explore_L8_ch (r4 : Nat → Int → Int → (List (Int × Int × Unit)) → (List Int) → (List (Int × Int × Unit)) → (List (List Int)) → (List Int) → Option ((Int × Int × (List (List Int)) × (List Int) × Unit) × Bool)) (r4' : Int → Int → (List (Int × Int × Unit)) → (List Int) → (List (Int × Int × Unit)) → (List (List Int)) → (List Int) → Option ((Int × Int × (List (List Int)) × (List Int) × Unit) × Bool)) (h_r4 : ∀ a0 a1 a2 a3 a4 a5 a6, ChO (fun κ => r4 κ a0 a1 a2 a3 a4 a5 a6) (r4' a0 a1 a2 a3 a4 a5 a6)) (letters : Int) (c : (Int × Int × (List (List Int)) × (List Int) × Unit)) (c_1 : (Int × Int × (List (List Int)) × (List Int) × Unit)) (c_2 : Int) (c_3 : (Int × Int × (List (List Int)) × (List Int) × Unit)) (c_4 : (Int × Int × (List (List Int)) × (List Int) × Unit)) (most : Int) (d : Int) (d_1 : Int) (l : (List (Int × Int × Unit))) (d_2 : (List (List Int))) (d_3 : (List Int)) (t : Int) (number_2 : (List (Int × Int × Unit))) (number_3 : (List Int)) (l_1 : (List (Int × Int × Unit))) (row : (List Int)) : ChO (fun κ => det_Explore_L8 letters c c_1 c_2 c_3 c_4 most d d_1 l d_2 d_3 (r4 κ) t number_2 number_3 l_1 row) (det_Explore_L8 letters c c_1 c_2 c_3 c_4 most d d_1 l d_2 d_3 r4' t number_2 number_3 l_1 row) := by
  unfold det_Explore_L8
  exact LFix_ch (fun κ => (det_Explore_L8_cn (r4 κ) letters c c_1 c_2 c_3 c_4 most d d_1 l d_2 d_3).mono) (det_Explore_L8_cn r4' letters c c_1 c_2 c_3 c_4 most d d_1 l d_2 d_3).mono (fun g h hg x => det_Explore_L8_B_ch r4 r4' h_r4 (fun κ t number_2 number_3 l_1 row => g κ (t, number_2, number_3, l_1, row)) (fun t number_2 number_3 l_1 row => h (t, number_2, number_3, l_1, row)) (fun t number_2 number_3 l_1 row => hg (t, number_2, number_3, l_1, row)) letters c c_1 c_2 c_3 c_4 most d d_1 l d_2 d_3 x.1 x.2.1 x.2.2.1 x.2.2.2.1 x.2.2.2.2) _
theorem det_Explore_L4_B_ch (r4 : Nat → Int → Int → (List (Int × Int × Unit)) → (List Int) → (List (Int × Int × Unit)) → (List (List Int)) → (List Int) → Option ((Int × Int × (List (List Int)) × (List Int) × Unit) × Bool)) (r4' : Int → Int → (List (Int × Int × Unit)) → (List Int) → (List (Int × Int × Unit)) → (List (List Int)) → (List Int) → Option ((Int × Int × (List (List Int)) × (List Int) × Unit) × Bool)) (h_r4 : ∀ a0 a1 a2 a3 a4 a5 a6, ChO (fun κ => r4 κ a0 a1 a2 a3 a4 a5 a6) (r4' a0 a1 a2 a3 a4 a5 a6)) (letters : Int) (c : (Int × Int × (List (List Int)) × (List Int) × Unit)) (c_1 : (Int × Int × (List (List Int)) × (List Int) × Unit)) (c_2 : Int) (c_3 : (Int × Int × (List (List Int)) × (List Int) × Unit)) (c_4 : (Int × Int × (List (List Int)) × (List Int) × Unit)) (most : Int) (d : Int) (d_1 : Int) (number : (List (Int × Int × Unit))) (number_1 : (List Int)) (l : (List (Int × Int × Unit))) (d_2 : (List (List Int))) (d_3 : (List Int)) : ChO (fun κ => det_Explore_L4_B letters c c_1 c_2 c_3 c_4 most (r4 κ) d d_1 number number_1 l d_2 d_3) (det_Explore_L4_B letters c c_1 c_2 c_3 c_4 most r4' d d_1 number number_1 l d_2 d_3) := by
  unfold det_Explore_L4_B
  repeat' with_reducible first | exact ChO.const _ | exact h_r4 _ _ _ _ _ _ _ | (apply det_Explore_J17_ch <;> assumption) | (apply det_Explore_L8_ch <;> assumption) | apply ChO.ite | apply ChO.G | apply ChO.both | (apply ChO.bind; intro _)
theorem det_Explore_L4_cn  (letters : Int) (c : (Int × Int × (List (List Int)) × (List Int) × Unit)) (c_1 : (Int × Int × (List (List Int)) × (List Int) × Unit)) (c_2 : Int) (c_3 : (Int × Int × (List (List Int)) × (List Int) × Unit)) (c_4 : (Int × Int × (List (List Int)) × (List Int) × Unit)) (most : Int) : Cn (det_Explore_L4_F letters c c_1 c_2 c_3 c_4 most) := fun g h hg x => det_Explore_L4_B_ch  (fun κ d d_1 number number_1 l d_2 d_3 => g κ (d, d_1, number, number_1, l, d_2, d_3)) (fun d d_1 number number_1 l d_2 d_3 => h (d, d_1, number, number_1, l, d_2, d_3)) (fun d d_1 number number_1 l d_2 d_3 => hg (d, d_1, number, number_1, l, d_2, d_3)) letters c c_1 c_2 c_3 c_4 most x.1 x.2.1 x.2.2.1 x.2.2.2.1 x.2.2.2.2.1 x.2.2.2.2.2.1 x.2.2.2.2.2.2
theorem det_Explore_L4_eq  (letters : Int) (c : (Int × Int × (List (List Int)) × (List Int) × Unit)) (c_1 : (Int × Int × (List (List Int)) × (List Int) × Unit)) (c_2 : Int) (c_3 : (Int × Int × (List (List Int)) × (List Int) × Unit)) (c_4 : (Int × Int × (List (List Int)) × (List Int) × Unit)) (most : Int) (d : Int) (d_1 : Int) (number : (List (Int × Int × Unit))) (number_1 : (List Int)) (l : (List (Int × Int × Unit))) (d_2 : (List (List Int))) (d_3 : (List Int)) : det_Explore_L4 letters c c_1 c_2 c_3 c_4 most d d_1 number number_1 l d_2 d_3 = det_Explore_L4_B letters c c_1 c_2 c_3 c_4 most (det_Explore_L4 letters c c_1 c_2 c_3 c_4 most) d d_1 number number_1 l d_2 d_3 := LFix_eq (det_Explore_L4_cn letters c c_1 c_2 c_3 c_4 most) (d, d_1, number, number_1, l, d_2, d_3)

noncomputable def slices_Clone (s : (List Int)) : Option (List Int) :=
  if s.length = 0 then both [(.list (.int .i64))] (
  some ([])) (
  G (room ([] : List Int) s 8) (
  some (([] : List Int) ++ s))) else
  G (room ([] : List Int) s 8) (
  some (([] : List Int) ++ s))

noncomputable def det_Classes_J17 (class' : (List Int)) (t : Int) (next' : (List Int)) (r6 : (Int → (List (Int × (List UInt8) × Unit)) → (List Int) → (List Int) → Option (List Int))) (b : (List Int)) (number_2 : (List (Int × (List UInt8) × Unit))) (number_3 : (List Int)) : Option (List Int) :=
  G (0 ≤ t ∧ t < (next'.length : Int)) (
  G ((t).toNat < next'.length) (
  G (fits (t + (1 : Int))) (
  r6 (t + (1 : Int)) number_2 number_3 (next'.set (t).toNat (mget number_2 number_3 (ix class' t, (bstr b, ())) (0 : Int))))))
noncomputable def det_Classes_L10_B (d : (Int × Int × (List (List Int)) × (List Int) × Unit)) (class' : (List Int)) (t : Int) (number : (List (Int × (List UInt8) × Unit))) (number_1 : (List Int)) (next' : (List Int)) (r6 : (Int → (List (Int × (List UInt8) × Unit)) → (List Int) → (List Int) → Option (List Int))) (r10 : Int → (List Int) → Option (List Int)) (t_1 : Int) (b : (List Int)) : Option (List Int) :=
  if (decide (t_1 < ((ix d.2.2.1 t).length : Int))) = true then
  G (0 ≤ t_1 ∧ t_1 < ((ix d.2.2.1 t).length : Int)) (
  G (0 ≤ ix (ix d.2.2.1 t) t_1 ∧ ix (ix d.2.2.1 t) t_1 < (class'.length : Int)) (
  G ((ix (ix d.2.2.1 t) t_1).toNat < class'.length) (
  G (0 ≤ ix (ix d.2.2.1 t) t_1 ∧ ix (ix d.2.2.1 t) t_1 < (class'.length : Int)) (
  G ((ix (ix d.2.2.1 t) t_1).toNat < class'.length) (
  G (0 ≤ (8 : Int)) (
  G (room b ([IntKind.wrap .u8 (ix class' (ix (ix d.2.2.1 t) t_1)), IntKind.wrap .u8 (ishr .i64 (ix class' (ix (ix d.2.2.1 t) t_1)) (8 : Int))]) 1) (
  G (fits (t_1 + (1 : Int))) (
  r10 (t_1 + (1 : Int)) (b ++ ([IntKind.wrap .u8 (ix class' (ix (ix d.2.2.1 t) t_1)), IntKind.wrap .u8 (ishr .i64 (ix class' (ix (ix d.2.2.1 t) t_1)) (8 : Int))])))))))))) else
  G (0 ≤ t ∧ t < (class'.length : Int)) (
  G ((t).toNat < class'.length) (
  if (!(mhas number (ix class' t, (bstr b, ())))) = true then
  det_Classes_J17 class' t next' r6 b (mputK number (ix class' t, (bstr b, ()))) (mputV number number_1 (ix class' t, (bstr b, ())) (number.length : Int)) else
  det_Classes_J17 class' t next' r6 b number number_1))
noncomputable def det_Classes_L10_F (d : (Int × Int × (List (List Int)) × (List Int) × Unit)) (class' : (List Int)) (t : Int) (number : (List (Int × (List UInt8) × Unit))) (number_1 : (List Int)) (next' : (List Int)) (r6 : (Int → (List (Int × (List UInt8) × Unit)) → (List Int) → (List Int) → Option (List Int))) : (Int × (List Int) → Option (List Int)) → Int × (List Int) → Option (List Int) :=
  fun rec x => det_Classes_L10_B d class' t number number_1 next' r6 (fun t_1 b => rec (t_1, b)) x.1 x.2
noncomputable def det_Classes_L10 (d : (Int × Int × (List (List Int)) × (List Int) × Unit)) (class' : (List Int)) (t : Int) (number : (List (Int × (List UInt8) × Unit))) (number_1 : (List Int)) (next' : (List Int)) (r6 : (Int → (List (Int × (List UInt8) × Unit)) → (List Int) → (List Int) → Option (List Int))) (t_1 : Int) (b : (List Int)) : Option (List Int) := LFix (det_Classes_L10_F d class' t number number_1 next' r6 ) (t_1, b)
noncomputable def det_Classes_L6_B (d : (Int × Int × (List (List Int)) × (List Int) × Unit)) (count : Int) (class' : (List Int)) (r3 : (Int → (List Int) → Option (List Int))) (r6 : Int → (List (Int × (List UInt8) × Unit)) → (List Int) → (List Int) → Option (List Int)) (t : Int) (number : (List (Int × (List UInt8) × Unit))) (number_1 : (List Int)) (next' : (List Int)) : Option (List Int) :=
  if (decide (t < (d.2.2.1.length : Int))) = true then
  G (0 ≤ t ∧ t < (d.2.2.1.length : Int)) (
  det_Classes_L10 d class' t number number_1 next' r6 (0 : Int) ([])) else
  if (decide ((number.length : Int) = count)) = true then
  some next' else
  r3 (number.length : Int) next'
noncomputable def det_Classes_L6_F (d : (Int × Int × (List (List Int)) × (List Int) × Unit)) (count : Int) (class' : (List Int)) (r3 : (Int → (List Int) → Option (List Int))) : (Int × (List (Int × (List UInt8) × Unit)) × (List Int) × (List Int) → Option (List Int)) → Int × (List (Int × (List UInt8) × Unit)) × (List Int) × (List Int) → Option (List Int) :=
  fun rec x => det_Classes_L6_B d count class' r3 (fun t number number_1 next' => rec (t, number, number_1, next')) x.1 x.2.1 x.2.2.1 x.2.2.2
noncomputable def det_Classes_L6 (d : (Int × Int × (List (List Int)) × (List Int) × Unit)) (count : Int) (class' : (List Int)) (r3 : (Int → (List Int) → Option (List Int))) (t : Int) (number : (List (Int × (List UInt8) × Unit))) (number_1 : (List Int)) (next' : (List Int)) : Option (List Int) := LFix (det_Classes_L6_F d count class' r3 ) (t, number, number_1, next')
noncomputable def det_Classes_L3_B (d : (Int × Int × (List (List Int)) × (List Int) × Unit)) (r3 : Int → (List Int) → Option (List Int)) (count : Int) (class' : (List Int)) : Option (List Int) :=
  G (mkOK (class'.length : Int) (class'.length : Int) 8) (
  det_Classes_L6 d count class' r3 (0 : Int) ([] : List (Int × (List UInt8) × Unit)) ([] : List Int) (List.replicate ((class'.length : Int)).toNat (0 : Int)))
noncomputable def det_Classes_L3_F (d : (Int × Int × (List (List Int)) × (List Int) × Unit)) : (Int × (List Int) → Option (List Int)) → Int × (List Int) → Option (List Int) :=
  fun rec x => det_Classes_L3_B d (fun count class' => rec (count, class')) x.1 x.2
noncomputable def det_Classes_L3 (d : (Int × Int × (List (List Int)) × (List Int) × Unit)) (count : Int) (class' : (List Int)) : Option (List Int) := LFix (det_Classes_L3_F d ) (count, class')
noncomputable def det_Classes (d : (Int × Int × (List (List Int)) × (List Int) × Unit)) : Option (List Int) :=
  (slices_Clone d.2.2.2.1).bind (fun y' =>
  det_Classes_L3 d (0 : Int) y')
theorem det_Classes_J17_ch (r6 : Nat → Int → (List (Int × (List UInt8) × Unit)) → (List Int) → (List Int) → Option (List Int)) (r6' : Int → (List (Int × (List UInt8) × Unit)) → (List Int) → (List Int) → Option (List Int)) (h_r6 : ∀ a0 a1 a2 a3, ChO (fun κ => r6 κ a0 a1 a2 a3) (r6' a0 a1 a2 a3)) (class' : (List Int)) (t : Int) (next' : (List Int)) (b : (List Int)) (number_2 : (List (Int × (List UInt8) × Unit))) (number_3 : (List Int)) : ChO (fun κ => det_Classes_J17 class' t next' (r6 κ) b number_2 number_3) (det_Classes_J17 class' t next' r6' b number_2 number_3) := by
  unfold det_Classes_J17
  repeat' with_reducible first | exact ChO.const _ | exact h_r6 _ _ _ _ | apply ChO.ite | apply ChO.G | apply ChO.both | (apply ChO.bind; intro _)
theorem det_Classes_L10_B_ch (r6 : Nat → Int → (List (Int × (List UInt8) × Unit)) → (List Int) → (List Int) → Option (List Int)) (r6' : Int → (List (Int × (List UInt8) × Unit)) → (List Int) → (List Int) → Option (List Int)) (h_r6 : ∀ a0 a1 a2 a3, ChO (fun κ => r6 κ a0 a1 a2 a3) (r6' a0 a1 a2 a3)) (r10 : Nat → Int → (List Int) → Option (List Int)) (r10' : Int → (List Int) → Option (List Int)) (h_r10 : ∀ a0 a1, ChO (fun κ => r10 κ a0 a1) (r10' a0 a1)) (d : (Int × Int × (List (List Int)) × (List Int) × Unit)) (class' : (List Int)) (t : Int) (number : (List (Int × (List UInt8) × Unit))) (number_1 : (List Int)) (next' : (List Int)) (t_1 : Int) (b : (List Int)) : ChO (fun κ => det_Classes_L10_B d class' t number number_1 next' (r6 κ) (r10 κ) t_1 b) (det_Classes_L10_B d class' t number number_1 next' r6' r10' t_1 b) := by
  unfold det_Classes_L10_B
  repeat' with_reducible first | exact ChO.const _ | exact h_r6 _ _ _ _ | exact h_r10 _ _ | (apply det_Classes_J17_ch <;> assumption) | apply ChO.ite | apply ChO.G | apply ChO.both | (apply ChO.bind; intro _)
theorem det_Classes_L10_cn (r6 : Int → (List (Int × (List UInt8) × Unit)) → (List Int) → (List Int) → Option (List Int)) (d : (Int × Int × (List (List Int)) × (List Int) × Unit)) (class' : (List Int)) (t : Int) (number : (List (Int × (List UInt8) × Unit))) (number_1 : (List Int)) (next' : (List Int)) : Cn (det_Classes_L10_F d class' t number number_1 next' r6) := fun g h hg x => det_Classes_L10_B_ch (fun _ => r6) r6 (fun _ _ _ _ => ChO.const _) (fun κ t_1 b => g κ (t_1, b)) (fun t_1 b => h (t_1, b)) (fun t_1 b => hg (t_1, b)) d class' t number number_1 next' x.1 x.2
theorem det_Classes_L10_eq (r6 : Int → (List (Int × (List UInt8) × Unit)) → (List Int) → (List Int) → Option (List Int)) (d : (Int × Int × (List (List Int)) × (List Int) × Unit)) (class' : (List Int)) (t : Int) (number : (List (Int × (List UInt8) × Unit))) (number_1 : (List Int)) (next' : (List Int)) (t_1 : Int) (b : (List Int)) : det_Classes_L10 d class' t number number_1 next' r6 t_1 b = det_Classes_L10_B d class' t number number_1 next' r6 (det_Classes_L10 d class' t number number_1 next' r6) t_1 b := LFix_eq (det_Classes_L10_cn r6 d class' t number number_1 next') (t_1, b)
theorem det_Classes_L10_ch (r6 : Nat → Int → (List (Int × (List UInt8) × Unit)) → (List Int) → (List Int) → Option (List Int)) (r6' : Int → (List (Int × (List UInt8) × Unit)) → (List Int) → (List Int) → Option (List Int)) (h_r6 : ∀ a0 a1 a2 a3, ChO (fun κ => r6 κ a0 a1 a2 a3) (r6' a0 a1 a2 a3)) (d : (Int × Int × (List (List Int)) × (List Int) × Unit)) (class' : (List Int)) (t : Int) (number : (List (Int × (List UInt8) × Unit))) (number_1 : (List Int)) (next' : (List Int)) (t_1 : Int) (b : (List Int)) : ChO (fun κ => det_Classes_L10 d class' t number number_1 next' (r6 κ) t_1 b) (det_Classes_L10 d class' t number number_1 next' r6' t_1 b) := by
  unfold det_Classes_L10
  exact LFix_ch (fun κ => (det_Classes_L10_cn (r6 κ) d class' t number number_1 next').mono) (det_Classes_L10_cn r6' d class' t number number_1 next').mono (fun g h hg x => det_Classes_L10_B_ch r6 r6' h_r6 (fun κ t_1 b => g κ (t_1, b)) (fun t_1 b => h (t_1, b)) (fun t_1 b => hg (t_1, b)) d class' t number number_1 next' x.1 x.2) _
theorem det_Classes_L6_B_ch (r3 : Nat → Int → (List Int) → Option (List Int)) (r3' : Int → (List Int) → Option (List Int)) (h_r3 : ∀ a0 a1, ChO (fun κ => r3 κ a0 a1) (r3' a0 a1)) (r6 : Nat → Int → (List (Int × (List UInt8) × Unit)) → (List Int) → (List Int) → Option (List Int)) (r6' : Int → (List (Int × (List UInt8) × Unit)) → (List Int) → (List Int) → Option (List Int)) (h_r6 : ∀ a0 a1 a2 a3, ChO (fun κ => r6 κ a0 a1 a2 a3) (r6' a0 a1 a2 a3)) (d : (Int × Int × (List (List Int)) × (List Int) × Unit)) (count : Int) (class' : (List Int)) (t : Int) (number : (List (Int × (List UInt8) × Unit))) (number_1 : (List Int)) (next' : (List Int)) : ChO (fun κ => det_Classes_L6_B d count class' (r3 κ) (r6 κ) t number number_1 next') (det_Classes_L6_B d count class' r3' r6' t number number_1 next') := by
  unfold det_Classes_L6_B
  repeat' with_reducible first | exact ChO.const _ | exact h_r3 _ _ | exact h_r6 _ _ _ _ | (apply det_Classes_J17_ch <;> assumption) | (apply det_Classes_L10_ch <;> assumption) | apply ChO.ite | apply ChO.G | apply ChO.both | (apply ChO.bind; intro _)
theorem det_Classes_L6_cn (r3 : Int → (List Int) → Option (List Int)) (d : (Int × Int × (List (List Int)) × (List Int) × Unit)) (count : Int) (class' : (List Int)) : Cn (det_Classes_L6_F d count class' r3) := fun g h hg x => det_Classes_L6_B_ch (fun _ => r3) r3 (fun _ _ => ChO.const _) (fun κ t number number_1 next' => g κ (t, number, number_1, next')) (fun t number number_1 next' => h (t, number, number_1, next')) (fun t number number_1 next' => hg (t, number, number_1, next')) d count class' x.1 x.2.1 x.2.2.1 x.2.2.2
theorem det_Classes_L6_eq (r3 : Int → (List Int) → Option (List Int)) (d : (Int × Int × (List (List Int)) × (List Int) × Unit)) (count : Int) (class' : (List Int)) (t : Int) (number : (List (Int × (List UInt8) × Unit))) (number_1 : (List Int)) (next' : (List Int)) : det_Classes_L6 d count class' r3 t number number_1 next' = det_Classes_L6_B d count class' r3 (det_Classes_L6 d count class' r3) t number number_1 next' := LFix_eq (det_Classes_L6_cn r3 d count class') (t, number, number_1, next')
theorem det_Classes_L6_ch (r3 : Nat → Int → (List Int) → Option (List Int)) (r3' : Int → (List Int) → Option (List Int)) (h_r3 : ∀ a0 a1, ChO (fun κ => r3 κ a0 a1) (r3' a0 a1)) (d : (Int × Int × (List (List Int)) × (List Int) × Unit)) (count : Int) (class' : (List Int)) (t : Int) (number : (List (Int × (List UInt8) × Unit))) (number_1 : (List Int)) (next' : (List Int)) : ChO (fun κ => det_Classes_L6 d count class' (r3 κ) t number number_1 next') (det_Classes_L6 d count class' r3' t number number_1 next') := by
  unfold det_Classes_L6
  exact LFix_ch (fun κ => (det_Classes_L6_cn (r3 κ) d count class').mono) (det_Classes_L6_cn r3' d count class').mono (fun g h hg x => det_Classes_L6_B_ch r3 r3' h_r3 (fun κ t number number_1 next' => g κ (t, number, number_1, next')) (fun t number number_1 next' => h (t, number, number_1, next')) (fun t number number_1 next' => hg (t, number, number_1, next')) d count class' x.1 x.2.1 x.2.2.1 x.2.2.2) _
theorem det_Classes_L3_B_ch (r3 : Nat → Int → (List Int) → Option (List Int)) (r3' : Int → (List Int) → Option (List Int)) (h_r3 : ∀ a0 a1, ChO (fun κ => r3 κ a0 a1) (r3' a0 a1)) (d : (Int × Int × (List (List Int)) × (List Int) × Unit)) (count : Int) (class' : (List Int)) : ChO (fun κ => det_Classes_L3_B d (r3 κ) count class') (det_Classes_L3_B d r3' count class') := by
  unfold det_Classes_L3_B
  repeat' with_reducible first | exact ChO.const _ | exact h_r3 _ _ | (apply det_Classes_J17_ch <;> assumption) | (apply det_Classes_L10_ch <;> assumption) | (apply det_Classes_L6_ch <;> assumption) | apply ChO.ite | apply ChO.G | apply ChO.both | (apply ChO.bind; intro _)
theorem det_Classes_L3_cn  (d : (Int × Int × (List (List Int)) × (List Int) × Unit)) : Cn (det_Classes_L3_F d) := fun g h hg x => det_Classes_L3_B_ch  (fun κ count class' => g κ (count, class')) (fun count class' => h (count, class')) (fun count class' => hg (count, class')) d x.1 x.2
theorem det_Classes_L3_eq  (d : (Int × Int × (List (List Int)) × (List Int) × Unit)) (count : Int) (class' : (List Int)) : det_Classes_L3 d count class' = det_Classes_L3_B d (det_Classes_L3 d) count class' := LFix_eq (det_Classes_L3_cn d) (count, class')

noncomputable def det_Smallest_1 (c : Int) (a : Int) (t : (List Int)) (t_1 : (Int × Int × (List (List Int)) × (List Int) × Unit)) (t_2 : (List Int)) : Option (Int) :=
  G (0 ≤ c ∧ c < (t_2.length : Int)) (
  G (0 ≤ ix t_2 c ∧ ix t_2 c < (t_1.2.2.1.length : Int)) (
  G (0 ≤ a ∧ a < ((ix t_1.2.2.1 (ix t_2 c)).length : Int)) (
  G (0 ≤ ix (ix t_1.2.2.1 (ix t_2 c)) a ∧ ix (ix t_1.2.2.1 (ix t_2 c)) a < (t.length : Int)) (
  some (ix t (ix (ix t_1.2.2.1 (ix t_2 c)) a))))))

noncomputable def det_Smallest_2 (c : Int) (t : (Int × Int × (List (List Int)) × (List Int) × Unit)) (t_1 : (List Int)) : Option (Int) :=
  G (0 ≤ c ∧ c < (t_1.length : Int)) (
  G (0 ≤ ix t_1 c ∧ ix t_1 c < (t.2.2.2.1.length : Int)) (
  some (ix t.2.2.2.1 (ix t_1 c))))

noncomputable def det_Explore_1_J17 (t : Int) (row : (List Int)) (r8 : (Int → (List Int) → (List Int) → (List Int) → (List Int) → Option ((Int × Int × (List (List Int)) × (List Int) × Unit) × Bool))) (n : Int) (number_4 : (List Int)) (number_5 : (List Int)) (l_2 : (List Int)) : Option ((Int × Int × (List (List Int)) × (List Int) × Unit) × Bool) :=
  G (0 ≤ t ∧ t < (row.length : Int)) (
  G ((t).toNat < row.length) (
  G (fits (t + (1 : Int))) (
  r8 (t + (1 : Int)) number_4 number_5 l_2 (row.set (t).toNat n))))
noncomputable def det_Explore_1_L8_B (letters : Int) (c : (List Int)) (c_1 : (Int × Int × (List (List Int)) × (List Int) × Unit)) (c_2 : (List Int)) (c_3 : (Int × Int × (List (List Int)) × (List Int) × Unit)) (c_4 : (List Int)) (most : Int) (d : Int) (d_1 : Int) (l : (List Int)) (d_2 : (List (List Int))) (d_3 : (List Int)) (r4 : (Int → Int → (List Int) → (List Int) → (List Int) → (List (List Int)) → (List Int) → Option ((Int × Int × (List (List Int)) × (List Int) × Unit) × Bool))) (r8 : Int → (List Int) → (List Int) → (List Int) → (List Int) → Option ((Int × Int × (List (List Int)) × (List Int) × Unit) × Bool)) (t : Int) (number_2 : (List Int)) (number_3 : (List Int)) (l_1 : (List Int)) (row : (List Int)) : Option ((Int × Int × (List (List Int)) × (List Int) × Unit) × Bool) :=
  if (decide (t < letters)) = true then
  (det_Smallest_1 (ix l (d_2.length : Int)) t c c_1 c_2).bind (fun y' =>
  if (!(mhas number_2 y')) = true then
  if (decide ((l_1.length : Int) = most)) = true then
  some (((0 : Int), ((0 : Int), ([], ([], ())))), false) else
  G (room l_1 ([y']) 8) (
  det_Explore_1_J17 t row r8 (l_1.length : Int) (mputK number_2 y') (mputV number_2 number_3 y' (l_1.length : Int)) (l_1 ++ ([y']))) else
  det_Explore_1_J17 t row r8 (mget number_2 number_3 y' (0 : Int)) number_2 number_3 l_1) else
  G (room d_2 ([row]) 24) (
  (det_Smallest_2 (ix l (d_2.length : Int)) c_3 c_4).bind (fun y'_1 =>
  G (room d_3 ([y'_1]) 8) (
  r4 d d_1 number_2 number_3 l_1 (d_2 ++ ([row])) (d_3 ++ ([y'_1])))))
noncomputable def det_Explore_1_L8_F (letters : Int) (c : (List Int)) (c_1 : (Int × Int × (List (List Int)) × (List Int) × Unit)) (c_2 : (List Int)) (c_3 : (Int × Int × (List (List Int)) × (List Int) × Unit)) (c_4 : (List Int)) (most : Int) (d : Int) (d_1 : Int) (l : (List Int)) (d_2 : (List (List Int))) (d_3 : (List Int)) (r4 : (Int → Int → (List Int) → (List Int) → (List Int) → (List (List Int)) → (List Int) → Option ((Int × Int × (List (List Int)) × (List Int) × Unit) × Bool))) : (Int × (List Int) × (List Int) × (List Int) × (List Int) → Option ((Int × Int × (List (List Int)) × (List Int) × Unit) × Bool)) → Int × (List Int) × (List Int) × (List Int) × (List Int) → Option ((Int × Int × (List (List Int)) × (List Int) × Unit) × Bool) :=
  fun rec x => det_Explore_1_L8_B letters c c_1 c_2 c_3 c_4 most d d_1 l d_2 d_3 r4 (fun t number_2 number_3 l_1 row => rec (t, number_2, number_3, l_1, row)) x.1 x.2.1 x.2.2.1 x.2.2.2.1 x.2.2.2.2
noncomputable def det_Explore_1_L8 (letters : Int) (c : (List Int)) (c_1 : (Int × Int × (List (List Int)) × (List Int) × Unit)) (c_2 : (List Int)) (c_3 : (Int × Int × (List (List Int)) × (List Int) × Unit)) (c_4 : (List Int)) (most : Int) (d : Int) (d_1 : Int) (l : (List Int)) (d_2 : (List (List Int))) (d_3 : (List Int)) (r4 : (Int → Int → (List Int) → (List Int) → (List Int) → (List (List Int)) → (List Int) → Option ((Int × Int × (List (List Int)) × (List Int) × Unit) × Bool))) (t : Int) (number_2 : (List Int)) (number_3 : (List Int)) (l_1 : (List Int)) (row : (List Int)) : Option ((Int × Int × (List (List Int)) × (List Int) × Unit) × Bool) := LFix (det_Explore_1_L8_F letters c c_1 c_2 c_3 c_4 most d d_1 l d_2 d_3 r4 ) (t, number_2, number_3, l_1, row)
noncomputable def det_Explore_1_L4_B (letters : Int) (c : (List Int)) (c_1 : (Int × Int × (List (List Int)) × (List Int) × Unit)) (c_2 : (List Int)) (c_3 : (Int × Int × (List (List Int)) × (List Int) × Unit)) (c_4 : (List Int)) (most : Int) (r4 : Int → Int → (List Int) → (List Int) → (List Int) → (List (List Int)) → (List Int) → Option ((Int × Int × (List (List Int)) × (List Int) × Unit) × Bool)) (d : Int) (d_1 : Int) (number : (List Int)) (number_1 : (List Int)) (l : (List Int)) (d_2 : (List (List Int))) (d_3 : (List Int)) : Option ((Int × Int × (List (List Int)) × (List Int) × Unit) × Bool) :=
  if (decide ((d_2.length : Int) < (l.length : Int))) = true then
  G (0 ≤ (d_2.length : Int) ∧ (d_2.length : Int) < (l.length : Int)) (
  G (((d_2.length : Int)).toNat < l.length) (
  G (mkOK letters letters 8) (
  det_Explore_1_L8 letters c c_1 c_2 c_3 c_4 most d d_1 l d_2 d_3 r4 (0 : Int) number number_1 l (List.replicate (letters).toNat (0 : Int))))) else
  some ((d, (d_1, (d_2, (d_3, ())))), true)
noncomputable def det_Explore_1_L4_F (letters : Int) (c : (List Int)) (c_1 : (Int × Int × (List (List Int)) × (List Int) × Unit)) (c_2 : (List Int)) (c_3 : (Int × Int × (List (List Int)) × (List Int) × Unit)) (c_4 : (List Int)) (most : Int) : (Int × Int × (List Int) × (List Int) × (List Int) × (List (List Int)) × (List Int) → Option ((Int × Int × (List (List Int)) × (List Int) × Unit) × Bool)) → Int × Int × (List Int) × (List Int) × (List Int) × (List (List Int)) × (List Int) → Option ((Int × Int × (List (List Int)) × (List Int) × Unit) × Bool) :=
  fun rec x => det_Explore_1_L4_B letters c c_1 c_2 c_3 c_4 most (fun d d_1 number number_1 l d_2 d_3 => rec (d, d_1, number, number_1, l, d_2, d_3)) x.1 x.2.1 x.2.2.1 x.2.2.2.1 x.2.2.2.2.1 x.2.2.2.2.2.1 x.2.2.2.2.2.2
noncomputable def det_Explore_1_L4 (letters : Int) (c : (List Int)) (c_1 : (Int × Int × (List (List Int)) × (List Int) × Unit)) (c_2 : (List Int)) (c_3 : (Int × Int × (List (List Int)) × (List Int) × Unit)) (c_4 : (List Int)) (most : Int) (d : Int) (d_1 : Int) (number : (List Int)) (number_1 : (List Int)) (l : (List Int)) (d_2 : (List (List Int))) (d_3 : (List Int)) : Option ((Int × Int × (List (List Int)) × (List Int) × Unit) × Bool) := LFix (det_Explore_1_L4_F letters c c_1 c_2 c_3 c_4 most ) (d, d_1, number, number_1, l, d_2, d_3)
noncomputable def det_Explore_1 (letters : Int) (first : Int) (c : (List Int)) (c_1 : (Int × Int × (List (List Int)) × (List Int) × Unit)) (c_2 : (List Int)) (c_3 : (Int × Int × (List (List Int)) × (List Int) × Unit)) (c_4 : (List Int)) (most : Int) : Option ((Int × Int × (List (List Int)) × (List Int) × Unit) × Bool) :=
  det_Explore_1_L4 letters c c_1 c_2 c_3 c_4 most letters (0 : Int) (mputK ([] : List Int) first) (mputV ([] : List Int) ([] : List Int) first (0 : Int)) ([first]) ([] : List (List Int)) ([] : List Int)
theorem det_Explore_1_J17_ch (r8 : Nat → Int → (List Int) → (List Int) → (List Int) → (List Int) → Option ((Int × Int × (List (List Int)) × (List Int) × Unit) × Bool)) (r8' : Int → (List Int) → (List Int) → (List Int) → (List Int) → Option ((Int × Int × (List (List Int)) × (List Int) × Unit) × Bool)) (h_r8 : ∀ a0 a1 a2 a3 a4, ChO (fun κ => r8 κ a0 a1 a2 a3 a4) (r8' a0 a1 a2 a3 a4)) (t : Int) (row : (List Int)) (n : Int) (number_4 : (List Int)) (number_5 : (List Int)) (l_2 : (List Int)) : ChO (fun κ => det_Explore_1_J17 t row (r8 κ) n number_4 number_5 l_2) (det_Explore_1_J17 t row r8' n number_4 number_5 l_2) := by
  unfold det_Explore_1_J17
  repeat' with_reducible first | exact ChO.const _ | exact h_r8 _ _ _ _ _ | apply ChO.ite | apply ChO.G | apply ChO.both | (apply ChO.bind; intro _)
theorem det_Explore_1_L8_B_ch (r4 : Nat → Int → Int → (List Int) → (List Int) → (List Int) → (List (List Int)) → (List Int) → Option ((Int × Int × (List (List Int)) × (List Int) × Unit) × Bool)) (r4' : Int → Int → (List Int) → (List Int) → (List Int) → (List (List Int)) → (List Int) → Option ((Int × Int × (List (List Int)) × (List Int) × Unit) × Bool)) (h_r4 : ∀ a0 a1 a2 a3 a4 a5 a6, ChO (fun κ => r4 κ a0 a1 a2 a3 a4 a5 a6) (r4' a0 a1 a2 a3 a4 a5 a6)) (r8 : Nat → Int → (List Int) → (List Int) → (List Int) → (List Int) → Option ((Int × Int × (List (List Int)) × (List Int) × Unit) × Bool)) (r8' : Int → (List Int) → (List Int) → (List Int) → (List Int) → Option ((Int × Int × (List (List Int)) × (List Int) × Unit) × Bool)) (h_r8 : ∀ a0 a1 a2 a3 a4, ChO (fun κ => r8 κ a0 a1 a2 a3 a4) (r8' a0 a1 a2 a3 a4)) (letters : Int) (c : (List Int)) (c_1 : (Int × Int × (List (List Int)) × (List Int) × Unit)) (c_2 : (List Int)) (c_3 : (Int × Int × (List (List Int)) × (List Int) × Unit)) (c_4 : (List Int)) (most : Int) (d : Int) (d_1 : Int) (l : (List Int)) (d_2 : (List (List Int))) (d_3 : (List Int)) (t : Int) (number_2 : (List Int)) (number_3 : (List Int)) (l_1 : (List Int)) (row : (List Int)) : ChO (fun κ => det_Explore_1_L8_B letters c c_1 c_2 c_3 c_4 most d d_1 l d_2 d_3 (r4 κ) (r8 κ) t number_2 number_3 l_1 row) (det_Explore_1_L8_B letters c c_1 c_2 c_3 c_4 most d d_1 l d_2 d_3 r4' r8' t number_2 number_3 l_1 row) := by
  unfold det_Explore_1_L8_B
  repeat' with_reducible first | exact ChO.const _ | exact h_r4 _ _ _ _ _ _ _ | exact h_r8 _ _ _ _ _ | (apply det_Explore_1_J17_ch <;> assumption) | apply ChO.ite | apply ChO.G | apply ChO.both | (apply ChO.bind; intro _)
theorem det_Explore_1_L8_cn (r4 : Int → Int → (List Int) → (List Int) → (List Int) → (List (List Int)) → (List Int) → Option ((Int × Int × (List (List Int)) × (List Int) × Unit) × Bool)) (letters : Int) (c : (List Int)) (c_1 : (Int × Int × (List (List Int)) × (List Int) × Unit)) (c_2 : (List Int)) (c_3 : (Int × Int × (List (List Int)) × (List Int) × Unit)) (c_4 : (List Int)) (most : Int) (d : Int) (d_1 : Int) (l : (List Int)) (d_2 : (List (List Int))) (d_3 : (List Int)) : Cn (det_Explore_1_L8_F letters c c_1 c_2 c_3 c_4 most d d_1 l d_2 d_3 r4) := fun g h hg x => det_Explore_1_L8_B_ch (fun _ => r4) r4 (fun _ _ _ _ _ _ _ => ChO.const _) (fun κ t number_2 number_3 l_1 row => g κ (t, number_2, number_3, l_1, row)) (fun t number_2 number_3 l_1 row => h (t, number_2, number_3, l_1, row)) (fun t number_2 number_3 l_1 row => hg (t, number_2, number_3, l_1, row)) letters c c_1 c_2 c_3 c_4 most d d_1 l d_2 d_3 x.1 x.2.1 x.2.2.1 x.2.2.2.1 x.2.2.2.2
theorem det_Explore_1_L8_eq (r4 : Int → Int → (List Int) → (List Int) → (List Int) → (List (List Int)) → (List Int) → Option ((Int × Int × (List (List Int)) × (List Int) × Unit) × Bool)) (letters : Int) (c : (List Int)) (c_1 : (Int × Int × (List (List Int)) × (List Int) × Unit)) (c_2 : (List Int)) (c_3 : (Int × Int × (List (List Int)) × (List Int) × Unit)) (c_4 : (List Int)) (most : Int) (d : Int) (d_1 : Int) (l : (List Int)) (d_2 : (List (List Int))) (d_3 : (List Int)) (t : Int) (number_2 : (List Int)) (number_3 : (List Int)) (l_1 : (List Int)) (row : (List Int)) : det_Explore_1_L8 letters c c_1 c_2 c_3 c_4 most d d_1 l d_2 d_3 r4 t number_2 number_3 l_1 row = det_Explore_1_L8_B letters c c_1 c_2 c_3 c_4 most d d_1 l d_2 d_3 r4 (det_Explore_1_L8 letters c c_1 c_2 c_3 c_4 most d d_1 l d_2 d_3 r4) t number_2 number_3 l_1 row := LFix_eq (det_Explore_1_L8_cn r4 letters c c_1 c_2 c_3 c_4 most d d_1 l d_2 d_3) (t, number_2, number_3, l_1, row)
theorem det_Explore_1_L8_ch (r4 : Nat → Int → Int → (List Int) → (List Int) → (List Int) → (List (List Int)) → (List Int) → Option ((Int × Int × (List (List Int)) × (List Int) × Unit) × Bool)) (r4' : Int → Int → (List Int) → (List Int) → (List Int) → (List (List Int)) → (List Int) → Option ((Int × Int × (List (List Int)) × (List Int) × Unit) × Bool)) (h_r4 : ∀ a0 a1 a2 a3 a4 a5 a6, ChO (fun κ => r4 κ a0 a1 a2 a3 a4 a5 a6) (r4' a0 a1 a2 a3 a4 a5 a6)) (letters : Int) (c : (List Int)) (c_1 : (Int × Int × (List (List Int)) × (List Int) × Unit)) (c_2 : (List Int)) (c_3 : (Int × Int × (List (List Int)) × (List Int) × Unit)) (c_4 : (List Int)) (most : Int) (d : Int) (d_1 : Int) (l : (List Int)) (d_2 : (List (List Int))) (d_3 : (List Int)) (t : Int) (number_2 : (List Int)) (number_3 : (List Int)) (l_1 : (List Int)) (row : (List Int)) : ChO (fun κ => det_Explore_1_L8 letters c c_1 c_2 c_3 c_4 most d d_1 l d_2 d_3 (r4 κ) t number_2 number_3 l_1 row) (det_Explore_1_L8 letters c c_1 c_2 c_3 c_4 most d d_1 l d_2 d_3 r4' t number_2 number_3 l_1 row) := by
  unfold det_Explore_1_L8
  exact LFix_ch (fun κ => (det_Explore_1_L8_cn (r4 κ) letters c c_1 c_2 c_3 c_4 most d d_1 l d_2 d_3).mono) (det_Explore_1_L8_cn r4' letters c c_1 c_2 c_3 c_4 most d d_1 l d_2 d_3).mono (fun g h hg x => det_Explore_1_L8_B_ch r4 r4' h_r4 (fun κ t number_2 number_3 l_1 row => g κ (t, number_2, number_3, l_1, row)) (fun t number_2 number_3 l_1 row => h (t, number_2, number_3, l_1, row)) (fun t number_2 number_3 l_1 row => hg (t, number_2, number_3, l_1, row)) letters c c_1 c_2 c_3 c_4 most d d_1 l d_2 d_3 x.1 x.2.1 x.2.2.1 x.2.2.2.1 x.2.2.2.2) _
theorem det_Explore_1_L4_B_ch (r4 : Nat → Int → Int → (List Int) → (List Int) → (List Int) → (List (List Int)) → (List Int) → Option ((Int × Int × (List (List Int)) × (List Int) × Unit) × Bool)) (r4' : Int → Int → (List Int) → (List Int) → (List Int) → (List (List Int)) → (List Int) → Option ((Int × Int × (List (List Int)) × (List Int) × Unit) × Bool)) (h_r4 : ∀ a0 a1 a2 a3 a4 a5 a6, ChO (fun κ => r4 κ a0 a1 a2 a3 a4 a5 a6) (r4' a0 a1 a2 a3 a4 a5 a6)) (letters : Int) (c : (List Int)) (c_1 : (Int × Int × (List (List Int)) × (List Int) × Unit)) (c_2 : (List Int)) (c_3 : (Int × Int × (List (List Int)) × (List Int) × Unit)) (c_4 : (List Int)) (most : Int) (d : Int) (d_1 : Int) (number : (List Int)) (number_1 : (List Int)) (l : (List Int)) (d_2 : (List (List Int))) (d_3 : (List Int)) : ChO (fun κ => det_Explore_1_L4_B letters c c_1 c_2 c_3 c_4 most (r4 κ) d d_1 number number_1 l d_2 d_3) (det_Explore_1_L4_B letters c c_1 c_2 c_3 c_4 most r4' d d_1 number number_1 l d_2 d_3) := by
  unfold det_Explore_1_L4_B
  repeat' with_reducible first | exact ChO.const _ | exact h_r4 _ _ _ _ _ _ _ | (apply det_Explore_1_J17_ch <;> assumption) | (apply det_Explore_1_L8_ch <;> assumption) | apply ChO.ite | apply ChO.G | apply ChO.both | (apply ChO.bind; intro _)
theorem det_Explore_1_L4_cn  (letters : Int) (c : (List Int)) (c_1 : (Int × Int × (List (List Int)) × (List Int) × Unit)) (c_2 : (List Int)) (c_3 : (Int × Int × (List (List Int)) × (List Int) × Unit)) (c_4 : (List Int)) (most : Int) : Cn (det_Explore_1_L4_F letters c c_1 c_2 c_3 c_4 most) := fun g h hg x => det_Explore_1_L4_B_ch  (fun κ d d_1 number number_1 l d_2 d_3 => g κ (d, d_1, number, number_1, l, d_2, d_3)) (fun d d_1 number number_1 l d_2 d_3 => h (d, d_1, number, number_1, l, d_2, d_3)) (fun d d_1 number number_1 l d_2 d_3 => hg (d, d_1, number, number_1, l, d_2, d_3)) letters c c_1 c_2 c_3 c_4 most x.1 x.2.1 x.2.2.1 x.2.2.2.1 x.2.2.2.2.1 x.2.2.2.2.2.1 x.2.2.2.2.2.2
theorem det_Explore_1_L4_eq  (letters : Int) (c : (List Int)) (c_1 : (Int × Int × (List (List Int)) × (List Int) × Unit)) (c_2 : (List Int)) (c_3 : (Int × Int × (List (List Int)) × (List Int) × Unit)) (c_4 : (List Int)) (most : Int) (d : Int) (d_1 : Int) (number : (List Int)) (number_1 : (List Int)) (l : (List Int)) (d_2 : (List (List Int))) (d_3 : (List Int)) : det_Explore_1_L4 letters c c_1 c_2 c_3 c_4 most d d_1 number number_1 l d_2 d_3 = det_Explore_1_L4_B letters c c_1 c_2 c_3 c_4 most (det_Explore_1_L4 letters c c_1 c_2 c_3 c_4 most) d d_1 number number_1 l d_2 d_3 := LFix_eq (det_Explore_1_L4_cn letters c c_1 c_2 c_3 c_4 most) (d, d_1, number, number_1, l, d_2, d_3)

noncomputable def det_Smallest_J8 (out : Int) (out_1 : Int) (out_2 : (List (List Int))) (out_3 : (List Int)) : Option (Int × Int × (List (List Int)) × (List Int) × Unit) :=
  some (out, (out_1, (out_2, (out_3, ()))))
noncomputable def det_Smallest_L4_B (d : (Int × Int × (List (List Int)) × (List Int) × Unit)) (y' : (List Int)) (r4 : Int → (List Int) → Option (Int × Int × (List (List Int)) × (List Int) × Unit)) (t : Int) (l : (List Int)) : Option (Int × Int × (List (List Int)) × (List Int) × Unit) :=
  if (decide (t < (y'.length : Int))) = true then
  G (0 ≤ t ∧ t < (y'.length : Int)) (
  G ((t).toNat < y'.length) (
  G (0 ≤ ix y' t ∧ ix y' t < (l.length : Int)) (
  G ((ix y' t).toNat < l.length) (
  G (fits (t + (1 : Int))) (
  r4 (t + (1 : Int)) (l.set (ix y' t).toNat t)))))) else
  G (0 ≤ d.2.1 ∧ d.2.1 < (y'.length : Int)) (
  G ((d.2.1).toNat < y'.length) (
  G (fits ((y'.length : Int) + (1 : Int))) (
  both [(.pair (.int .i64) (.pair (.int .i64) (.pair (.list (.list (.int .i64))) (.pair (.list (.int .i64)) .unit))))] (
  (det_Explore_1 d.1 (ix y' d.2.1) y' (d.1, (d.2.1, (d.2.2.1, (d.2.2.2.1, ())))) l (d.1, (d.2.1, (d.2.2.1, (d.2.2.2.1, ())))) l ((y'.length : Int) + (1 : Int))).bind (fun y'_4 =>
  det_Smallest_J8 y'_4.1.1 y'_4.1.2.1 y'_4.1.2.2.1 y'_4.1.2.2.2.1)) (
  (det_Explore_1 d.1 (ix y' d.2.1) y' (d.1, (d.2.1, (d.2.2.1, (d.2.2.2.1, ())))) l (d.1, (d.2.1, (d.2.2.1, (d.2.2.2.1, ())))) l ((y'.length : Int) + (1 : Int))).bind (fun y'_8 =>
  det_Smallest_J8 y'_8.1.1 y'_8.1.2.1 y'_8.1.2.2.1 y'_8.1.2.2.2.1)))))
noncomputable def det_Smallest_L4_F (d : (Int × Int × (List (List Int)) × (List Int) × Unit)) (y' : (List Int)) : (Int × (List Int) → Option (Int × Int × (List (List Int)) × (List Int) × Unit)) → Int × (List Int) → Option (Int × Int × (List (List Int)) × (List Int) × Unit) :=
  fun rec x => det_Smallest_L4_B d y' (fun t l => rec (t, l)) x.1 x.2
noncomputable def det_Smallest_L4 (d : (Int × Int × (List (List Int)) × (List Int) × Unit)) (y' : (List Int)) (t : Int) (l : (List Int)) : Option (Int × Int × (List (List Int)) × (List Int) × Unit) := LFix (det_Smallest_L4_F d y' ) (t, l)
noncomputable def det_Smallest (d : (Int × Int × (List (List Int)) × (List Int) × Unit)) : Option (Int × Int × (List (List Int)) × (List Int) × Unit) :=
  (det_Classes (d.1, (d.2.1, (d.2.2.1, (d.2.2.2.1, ()))))).bind (fun y' =>
  G (mkOK (y'.length : Int) (y'.length : Int) 8) (
  det_Smallest_L4 d y' (0 : Int) (List.replicate ((y'.length : Int)).toNat (0 : Int))))
theorem det_Smallest_L4_B_ch (r4 : Nat → Int → (List Int) → Option (Int × Int × (List (List Int)) × (List Int) × Unit)) (r4' : Int → (List Int) → Option (Int × Int × (List (List Int)) × (List Int) × Unit)) (h_r4 : ∀ a0 a1, ChO (fun κ => r4 κ a0 a1) (r4' a0 a1)) (d : (Int × Int × (List (List Int)) × (List Int) × Unit)) (y' : (List Int)) (t : Int) (l : (List Int)) : ChO (fun κ => det_Smallest_L4_B d y' (r4 κ) t l) (det_Smallest_L4_B d y' r4' t l) := by
  unfold det_Smallest_L4_B
  repeat' with_reducible first | exact ChO.const _ | exact h_r4 _ _ | apply ChO.ite | apply ChO.G | apply ChO.both | (apply ChO.bind; intro _)
theorem det_Smallest_L4_cn  (d : (Int × Int × (List (List Int)) × (List Int) × Unit)) (y' : (List Int)) : Cn (det_Smallest_L4_F d y') := fun g h hg x => det_Smallest_L4_B_ch  (fun κ t l => g κ (t, l)) (fun t l => h (t, l)) (fun t l => hg (t, l)) d y' x.1 x.2
theorem det_Smallest_L4_eq  (d : (Int × Int × (List (List Int)) × (List Int) × Unit)) (y' : (List Int)) (t : Int) (l : (List Int)) : det_Smallest_L4 d y' t l = det_Smallest_L4_B d y' (det_Smallest_L4 d y') t l := LFix_eq (det_Smallest_L4_cn d y') (t, l)

noncomputable def det_Mixed (a : (Int × Int × (List (List Int)) × (List Int) × Unit)) (b : (Int × Int × (List (List Int)) × (List Int) × Unit)) (table : Int) : Option ((Int × Int × (List (List Int)) × (List Int) × Unit) × Int) :=
  (det_two (a.1, (a.2.1, (a.2.2.1, (a.2.2.2.1, ())))) (b.1, (b.2.1, (b.2.2.1, (b.2.2.2.1, ()))))).bind (fun y' =>
  if (decide (¬ y' = (0 : Int))) = true then
  some (((0 : Int), ((0 : Int), ([], ([], ())))), y') else
  if (decide (table < (0 : Int))) = true then
  some (((0 : Int), ((0 : Int), ([], ([], ())))), (2 : Int)) else
  if (decide ((15 : Int) < table)) = true then
  some (((0 : Int), ((0 : Int), ([], ([], ())))), (2 : Int)) else
  G (fits ((a.2.2.1.length : Int) * (b.2.2.1.length : Int))) (
  if (decide ((3000 : Int) < ((a.2.2.1.length : Int) * (b.2.2.1.length : Int)))) = true then
  some (((0 : Int), ((0 : Int), ([], ([], ())))), (7 : Int)) else
  (det_Explore a.1 (a.2.1, (b.2.1, ())) (a.1, (a.2.1, (a.2.2.1, (a.2.2.2.1, ())))) (b.1, (b.2.1, (b.2.2.1, (b.2.2.2.1, ())))) table (a.1, (a.2.1, (a.2.2.1, (a.2.2.2.1, ())))) (b.1, (b.2.1, (b.2.2.1, (b.2.2.2.1, ())))) (3001 : Int)).bind (fun y'_5 =>
  (det_Smallest (y'_5.1.1, (y'_5.1.2.1, (y'_5.1.2.2.1, (y'_5.1.2.2.2.1, ()))))).bind (fun y'_4 =>
  some ((y'_4.1, (y'_4.2.1, (y'_4.2.2.1, (y'_4.2.2.2.1, ())))), (0 : Int))))))

noncomputable def det_Differ_2 (c : (Int × Int × Unit)) (t : (Int × Int × (List (List Int)) × (List Int) × Unit)) (t_1 : (Int × Int × (List (List Int)) × (List Int) × Unit)) : Option (Bool) :=
  G (0 ≤ c.1 ∧ c.1 < (t.2.2.2.1.length : Int)) (
  G (0 ≤ c.2.1 ∧ c.2.1 < (t_1.2.2.2.1.length : Int)) (
  some (decide (¬ (ix t.2.2.2.1 c.1) = (ix t_1.2.2.2.1 c.2.1)))))

noncomputable def det_Differ_1 (c : (Int × Int × Unit)) (l : Int) (t : (Int × Int × (List (List Int)) × (List Int) × Unit)) (t_1 : (Int × Int × (List (List Int)) × (List Int) × Unit)) : Option (Int × Int × Unit) :=
  G (0 ≤ c.1 ∧ c.1 < (t.2.2.1.length : Int)) (
  G (0 ≤ l ∧ l < ((ix t.2.2.1 c.1).length : Int)) (
  G (0 ≤ c.2.1 ∧ c.2.1 < (t_1.2.2.1.length : Int)) (
  G (0 ≤ l ∧ l < ((ix t_1.2.2.1 c.2.1).length : Int)) (
  some (ix (ix t.2.2.1 c.1) l, (ix (ix t_1.2.2.1 c.2.1) l, ()))))))

noncomputable def det_seeks_J13 (t : Int) (l_1 : (List (Int × Int × Unit))) (r8 : (Int → (List (Int × Int × Unit)) → (List (List Int)) → (List (Int × Int × Unit)) → Option ((List Int) × Bool))) (y'_1 : (Int × Int × Unit)) (ways_4 : (List (Int × Int × Unit))) (ways_5 : (List (List Int))) : Option ((List Int) × Bool) :=
  G (room l_1 ([(y'_1.1, (y'_1.2.1, ()))]) 16) (
  G (fits (t + (1 : Int))) (
  r8 (t + (1 : Int)) ways_4 ways_5 (l_1 ++ ([(y'_1.1, (y'_1.2.1, ()))]))))
noncomputable def det_seeks_L8_B (letters : Int) (c : (Int × Int × (List (List Int)) × (List Int) × Unit)) (c_1 : (Int × Int × (List (List Int)) × (List Int) × Unit)) (r3 : ((List (Int × Int × Unit)) → (List (List Int)) → (List (Int × Int × Unit)) → Option ((List Int) × Bool))) (r8 : Int → (List (Int × Int × Unit)) → (List (List Int)) → (List (Int × Int × Unit)) → Option ((List Int) × Bool)) (t : Int) (ways_2 : (List (Int × Int × Unit))) (ways_3 : (List (List Int))) (l_1 : (List (Int × Int × Unit))) : Option ((List Int) × Bool) :=
  if (decide (t < letters)) = true then
  G (0 ≤ (0 : Int) ∧ (0 : Int) < (l_1.length : Int)) (
  G (((0 : Int)).toNat < l_1.length) (
  (det_Differ_1 (ix l_1 (0 : Int)) t c c_1).bind (fun y'_1 =>
  if (!(mhas ways_2 (y'_1.1, (y'_1.2.1, ())))) = true then
  G (0 ≤ (0 : Int) ∧ (0 : Int) < (l_1.length : Int)) (
  G (((0 : Int)).toNat < l_1.length) (
  both [(.list (.int .i64)), .bool] (
  both [(.list (.int .i64)), .bool] (
  (slices_Clone (mget ways_2 ways_3 (ix l_1 (0 : Int)) ([] : List Int))).bind (fun y'_2 =>
  G (room y'_2 ([t]) 8) (
  det_seeks_J13 t l_1 r8 y'_1 (mputK ways_2 (y'_1.1, (y'_1.2.1, ()))) (mputV ways_2 ways_3 (y'_1.1, (y'_1.2.1, ())) (y'_2 ++ ([t])))))) (
  (slices_Clone (mget ways_2 ways_3 (ix l_1 (0 : Int)) ([] : List Int))).bind (fun y'_3 =>
  G (room y'_3 ([t]) 8) (
  det_seeks_J13 t l_1 r8 y'_1 (mputK ways_2 (y'_1.1, (y'_1.2.1, ()))) (mputV ways_2 ways_3 (y'_1.1, (y'_1.2.1, ())) (y'_3 ++ ([t]))))))) (
  both [(.list (.int .i64)), .bool] (
  (slices_Clone (mget ways_2 ways_3 (ix l_1 (0 : Int)) ([] : List Int))).bind (fun y'_4 =>
  both [(.list (.int .i64)), .bool] (
  G (room y'_4 ([t]) 8) (
  det_seeks_J13 t l_1 r8 y'_1 (mputK ways_2 (y'_1.1, (y'_1.2.1, ()))) (mputV ways_2 ways_3 (y'_1.1, (y'_1.2.1, ())) (y'_4 ++ ([t]))))) (
  both [(.list (.int .i64)), .bool] (
  G (room y'_4 ([t]) 8) (
  det_seeks_J13 t l_1 r8 y'_1 (mputK ways_2 (y'_1.1, (y'_1.2.1, ()))) (mputV ways_2 ways_3 (y'_1.1, (y'_1.2.1, ())) (y'_4 ++ ([t]))))) (
  G (room y'_4 ([t]) 8) (
  det_seeks_J13 t l_1 r8 y'_1 (mputK ways_2 (y'_1.1, (y'_1.2.1, ()))) (mputV ways_2 ways_3 (y'_1.1, (y'_1.2.1, ())) (y'_4 ++ ([t])))))))) (
  both [(.list (.int .i64)), .bool] (
  (slices_Clone (mget ways_2 ways_3 (ix l_1 (0 : Int)) ([] : List Int))).bind (fun y'_5 =>
  G (room y'_5 ([t]) 8) (
  det_seeks_J13 t l_1 r8 y'_1 (mputK ways_2 (y'_1.1, (y'_1.2.1, ()))) (mputV ways_2 ways_3 (y'_1.1, (y'_1.2.1, ())) (y'_5 ++ ([t])))))) (
  (slices_Clone (mget ways_2 ways_3 (ix l_1 (0 : Int)) ([] : List Int))).bind (fun y'_6 =>
  both [(.list (.int .i64)), .bool] (
  G (room y'_6 ([t]) 8) (
  det_seeks_J13 t l_1 r8 y'_1 (mputK ways_2 (y'_1.1, (y'_1.2.1, ()))) (mputV ways_2 ways_3 (y'_1.1, (y'_1.2.1, ())) (y'_6 ++ ([t]))))) (
  G (room y'_6 ([t]) 8) (
  det_seeks_J13 t l_1 r8 y'_1 (mputK ways_2 (y'_1.1, (y'_1.2.1, ()))) (mputV ways_2 ways_3 (y'_1.1, (y'_1.2.1, ())) (y'_6 ++ ([t]))))))))))) else
  G (fits (t + (1 : Int))) (
  r8 (t + (1 : Int)) ways_2 ways_3 l_1)))) else
  G (0 ≤ (1 : Int) ∧ (1 : Int) ≤ (l_1.length : Int)) (
  r3 ways_2 ways_3 (l_1.drop ((1 : Int)).toNat))
noncomputable def det_seeks_L8_F (letters : Int) (c : (Int × Int × (List (List Int)) × (List Int) × Unit)) (c_1 : (Int × Int × (List (List Int)) × (List Int) × Unit)) (r3 : ((List (Int × Int × Unit)) → (List (List Int)) → (List (Int × Int × Unit)) → Option ((List Int) × Bool))) : (Int × (List (Int × Int × Unit)) × (List (List Int)) × (List (Int × Int × Unit)) → Option ((List Int) × Bool)) → Int × (List (Int × Int × Unit)) × (List (List Int)) × (List (Int × Int × Unit)) → Option ((List Int) × Bool) :=
  fun rec x => det_seeks_L8_B letters c c_1 r3 (fun t ways_2 ways_3 l_1 => rec (t, ways_2, ways_3, l_1)) x.1 x.2.1 x.2.2.1 x.2.2.2
noncomputable def det_seeks_L8 (letters : Int) (c : (Int × Int × (List (List Int)) × (List Int) × Unit)) (c_1 : (Int × Int × (List (List Int)) × (List Int) × Unit)) (r3 : ((List (Int × Int × Unit)) → (List (List Int)) → (List (Int × Int × Unit)) → Option ((List Int) × Bool))) (t : Int) (ways_2 : (List (Int × Int × Unit))) (ways_3 : (List (List Int))) (l_1 : (List (Int × Int × Unit))) : Option ((List Int) × Bool) := LFix (det_seeks_L8_F letters c c_1 r3 ) (t, ways_2, ways_3, l_1)
noncomputable def det_seeks_L3_B (letters : Int) (c : (Int × Int × (List (List Int)) × (List Int) × Unit)) (c_1 : (Int × Int × (List (List Int)) × (List Int) × Unit)) (c_2 : (Int × Int × (List (List Int)) × (List Int) × Unit)) (c_3 : (Int × Int × (List (List Int)) × (List Int) × Unit)) (r3 : (List (Int × Int × Unit)) → (List (List Int)) → (List (Int × Int × Unit)) → Option ((List Int) × Bool)) (ways : (List (Int × Int × Unit))) (ways_1 : (List (List Int))) (l : (List (Int × Int × Unit))) : Option ((List Int) × Bool) :=
  if (decide ((0 : Int) < (l.length : Int))) = true then
  G (0 ≤ (0 : Int) ∧ (0 : Int) < (l.length : Int)) (
  G (((0 : Int)).toNat < l.length) (
  (det_Differ_2 (ix l (0 : Int)) c_2 c_3).bind (fun y' =>
  if y' = true then
  G (0 ≤ (0 : Int) ∧ (0 : Int) < (l.length : Int)) (
  G (((0 : Int)).toNat < l.length) (
  some (mget ways ways_1 (ix l (0 : Int)) ([] : List Int), true))) else
  det_seeks_L8 letters c c_1 r3 (0 : Int) ways ways_1 l))) else
  some ([], false)
noncomputable def det_seeks_L3_F (letters : Int) (c : (Int × Int × (List (List Int)) × (List Int) × Unit)) (c_1 : (Int × Int × (List (List Int)) × (List Int) × Unit)) (c_2 : (Int × Int × (List (List Int)) × (List Int) × Unit)) (c_3 : (Int × Int × (List (List Int)) × (List Int) × Unit)) : ((List (Int × Int × Unit)) × (List (List Int)) × (List (Int × Int × Unit)) → Option ((List Int) × Bool)) → (List (Int × Int × Unit)) × (List (List Int)) × (List (Int × Int × Unit)) → Option ((List Int) × Bool) :=
  fun rec x => det_seeks_L3_B letters c c_1 c_2 c_3 (fun ways ways_1 l => rec (ways, ways_1, l)) x.1 x.2.1 x.2.2
noncomputable def det_seeks_L3 (letters : Int) (c : (Int × Int × (List (List Int)) × (List Int) × Unit)) (c_1 : (Int × Int × (List (List Int)) × (List Int) × Unit)) (c_2 : (Int × Int × (List (List Int)) × (List Int) × Unit)) (c_3 : (Int × Int × (List (List Int)) × (List Int) × Unit)) (ways : (List (Int × Int × Unit))) (ways_1 : (List (List Int))) (l : (List (Int × Int × Unit))) : Option ((List Int) × Bool) := LFix (det_seeks_L3_F letters c c_1 c_2 c_3 ) (ways, ways_1, l)
noncomputable def det_seeks (first : (Int × Int × Unit)) (letters : Int) (c : (Int × Int × (List (List Int)) × (List Int) × Unit)) (c_1 : (Int × Int × (List (List Int)) × (List Int) × Unit)) (c_2 : (Int × Int × (List (List Int)) × (List Int) × Unit)) (c_3 : (Int × Int × (List (List Int)) × (List Int) × Unit)) : Option ((List Int) × Bool) :=
  det_seeks_L3 letters c c_1 c_2 c_3 (mputK ([] : List (Int × Int × Unit)) (first.1, (first.2.1, ()))) (mputV ([] : List (Int × Int × Unit)) ([] : List (List Int)) (first.1, (first.2.1, ())) ([] : List Int)) ([(first.1, (first.2.1, ()))])
theorem det_seeks_J13_ch (r8 : Nat → Int → (List (Int × Int × Unit)) → (List (List Int)) → (List (Int × Int × Unit)) → Option ((List Int) × Bool)) (r8' : Int → (List (Int × Int × Unit)) → (List (List Int)) → (List (Int × Int × Unit)) → Option ((List Int) × Bool)) (h_r8 : ∀ a0 a1 a2 a3, ChO (fun κ => r8 κ a0 a1 a2 a3) (r8' a0 a1 a2 a3)) (t : Int) (l_1 : (List (Int × Int × Unit))) (y'_1 : (Int × Int × Unit)) (ways_4 : (List (Int × Int × Unit))) (ways_5 : (List (List Int))) : ChO (fun κ => det_seeks_J13 t l_1 (r8 κ) y'_1 ways_4 ways_5) (det_seeks_J13 t l_1 r8' y'_1 ways_4 ways_5) := by
  unfold det_seeks_J13
  repeat' with_reducible first | exact ChO.const _ | exact h_r8 _ _ _ _ | apply ChO.ite | apply ChO.G | apply ChO.both | (apply ChO.bind; intro _)
theorem det_seeks_L8_B_ch (r3 : Nat → (List (Int × Int × Unit)) → (List (List Int)) → (List (Int × Int × Unit)) → Option ((List Int) × Bool)) (r3' : (List (Int × Int × Unit)) → (List (List Int)) → (List (Int × Int × Unit)) → Option ((List Int) × Bool)) (h_r3 : ∀ a0 a1 a2, ChO (fun κ => r3 κ a0 a1 a2) (r3' a0 a1 a2)) (r8 : Nat → Int → (List (Int × Int × Unit)) → (List (List Int)) → (List (Int × Int × Unit)) → Option ((List Int) × Bool)) (r8' : Int → (List (Int × Int × Unit)) → (List (List Int)) → (List (Int × Int × Unit)) → Option ((List Int) × Bool)) (h_r8 : ∀ a0 a1 a2 a3, ChO (fun κ => r8 κ a0 a1 a2 a3) (r8' a0 a1 a2 a3)) (letters : Int) (c : (Int × Int × (List (List Int)) × (List Int) × Unit)) (c_1 : (Int × Int × (List (List Int)) × (List Int) × Unit)) (t : Int) (ways_2 : (List (Int × Int × Unit))) (ways_3 : (List (List Int))) (l_1 : (List (Int × Int × Unit))) : ChO (fun κ => det_seeks_L8_B letters c c_1 (r3 κ) (r8 κ) t ways_2 ways_3 l_1) (det_seeks_L8_B letters c c_1 r3' r8' t ways_2 ways_3 l_1) := by
  unfold det_seeks_L8_B
  repeat' with_reducible first | exact ChO.const _ | exact h_r3 _ _ _ | exact h_r8 _ _ _ _ | (apply det_seeks_J13_ch <;> assumption) | apply ChO.ite | apply ChO.G | apply ChO.both | (apply ChO.bind; intro _)
theorem det_seeks_L8_cn (r3 : (List (Int × Int × Unit)) → (List (List Int)) → (List (Int × Int × Unit)) → Option ((List Int) × Bool)) (letters : Int) (c : (Int × Int × (List (List Int)) × (List Int) × Unit)) (c_1 : (Int × Int × (List (List Int)) × (List Int) × Unit)) : Cn (det_seeks_L8_F letters c c_1 r3) := fun g h hg x => det_seeks_L8_B_ch (fun _ => r3) r3 (fun _ _ _ => ChO.const _) (fun κ t ways_2 ways_3 l_1 => g κ (t, ways_2, ways_3, l_1)) (fun t ways_2 ways_3 l_1 => h (t, ways_2, ways_3, l_1)) (fun t ways_2 ways_3 l_1 => hg (t, ways_2, ways_3, l_1)) letters c c_1 x.1 x.2.1 x.2.2.1 x.2.2.2
theorem det_seeks_L8_eq (r3 : (List (Int × Int × Unit)) → (List (List Int)) → (List (Int × Int × Unit)) → Option ((List Int) × Bool)) (letters : Int) (c : (Int × Int × (List (List Int)) × (List Int) × Unit)) (c_1 : (Int × Int × (List (List Int)) × (List Int) × Unit)) (t : Int) (ways_2 : (List (Int × Int × Unit))) (ways_3 : (List (List Int))) (l_1 : (List (Int × Int × Unit))) : det_seeks_L8 letters c c_1 r3 t ways_2 ways_3 l_1 = det_seeks_L8_B letters c c_1 r3 (det_seeks_L8 letters c c_1 r3) t ways_2 ways_3 l_1 := LFix_eq (det_seeks_L8_cn r3 letters c c_1) (t, ways_2, ways_3, l_1)
theorem det_seeks_L8_ch (r3 : Nat → (List (Int × Int × Unit)) → (List (List Int)) → (List (Int × Int × Unit)) → Option ((List Int) × Bool)) (r3' : (List (Int × Int × Unit)) → (List (List Int)) → (List (Int × Int × Unit)) → Option ((List Int) × Bool)) (h_r3 : ∀ a0 a1 a2, ChO (fun κ => r3 κ a0 a1 a2) (r3' a0 a1 a2)) (letters : Int) (c : (Int × Int × (List (List Int)) × (List Int) × Unit)) (c_1 : (Int × Int × (List (List Int)) × (List Int) × Unit)) (t : Int) (ways_2 : (List (Int × Int × Unit))) (ways_3 : (List (List Int))) (l_1 : (List (Int × Int × Unit))) : ChO (fun κ => det_seeks_L8 letters c c_1 (r3 κ) t ways_2 ways_3 l_1) (det_seeks_L8 letters c c_1 r3' t ways_2 ways_3 l_1) := by
  unfold det_seeks_L8
  exact LFix_ch (fun κ => (det_seeks_L8_cn (r3 κ) letters c c_1).mono) (det_seeks_L8_cn r3' letters c c_1).mono (fun g h hg x => det_seeks_L8_B_ch r3 r3' h_r3 (fun κ t ways_2 ways_3 l_1 => g κ (t, ways_2, ways_3, l_1)) (fun t ways_2 ways_3 l_1 => h (t, ways_2, ways_3, l_1)) (fun t ways_2 ways_3 l_1 => hg (t, ways_2, ways_3, l_1)) letters c c_1 x.1 x.2.1 x.2.2.1 x.2.2.2) _
theorem det_seeks_L3_B_ch (r3 : Nat → (List (Int × Int × Unit)) → (List (List Int)) → (List (Int × Int × Unit)) → Option ((List Int) × Bool)) (r3' : (List (Int × Int × Unit)) → (List (List Int)) → (List (Int × Int × Unit)) → Option ((List Int) × Bool)) (h_r3 : ∀ a0 a1 a2, ChO (fun κ => r3 κ a0 a1 a2) (r3' a0 a1 a2)) (letters : Int) (c : (Int × Int × (List (List Int)) × (List Int) × Unit)) (c_1 : (Int × Int × (List (List Int)) × (List Int) × Unit)) (c_2 : (Int × Int × (List (List Int)) × (List Int) × Unit)) (c_3 : (Int × Int × (List (List Int)) × (List Int) × Unit)) (ways : (List (Int × Int × Unit))) (ways_1 : (List (List Int))) (l : (List (Int × Int × Unit))) : ChO (fun κ => det_seeks_L3_B letters c c_1 c_2 c_3 (r3 κ) ways ways_1 l) (det_seeks_L3_B letters c c_1 c_2 c_3 r3' ways ways_1 l) := by
  unfold det_seeks_L3_B
  repeat' with_reducible first | exact ChO.const _ | exact h_r3 _ _ _ | (apply det_seeks_J13_ch <;> assumption) | (apply det_seeks_L8_ch <;> assumption) | apply ChO.ite | apply ChO.G | apply ChO.both | (apply ChO.bind; intro _)
theorem det_seeks_L3_cn  (letters : Int) (c : (Int × Int × (List (List Int)) × (List Int) × Unit)) (c_1 : (Int × Int × (List (List Int)) × (List Int) × Unit)) (c_2 : (Int × Int × (List (List Int)) × (List Int) × Unit)) (c_3 : (Int × Int × (List (List Int)) × (List Int) × Unit)) : Cn (det_seeks_L3_F letters c c_1 c_2 c_3) := fun g h hg x => det_seeks_L3_B_ch  (fun κ ways ways_1 l => g κ (ways, ways_1, l)) (fun ways ways_1 l => h (ways, ways_1, l)) (fun ways ways_1 l => hg (ways, ways_1, l)) letters c c_1 c_2 c_3 x.1 x.2.1 x.2.2
theorem det_seeks_L3_eq  (letters : Int) (c : (Int × Int × (List (List Int)) × (List Int) × Unit)) (c_1 : (Int × Int × (List (List Int)) × (List Int) × Unit)) (c_2 : (Int × Int × (List (List Int)) × (List Int) × Unit)) (c_3 : (Int × Int × (List (List Int)) × (List Int) × Unit)) (ways : (List (Int × Int × Unit))) (ways_1 : (List (List Int))) (l : (List (Int × Int × Unit))) : det_seeks_L3 letters c c_1 c_2 c_3 ways ways_1 l = det_seeks_L3_B letters c c_1 c_2 c_3 (det_seeks_L3 letters c c_1 c_2 c_3) ways ways_1 l := LFix_eq (det_seeks_L3_cn letters c c_1 c_2 c_3) (ways, ways_1, l)

noncomputable def det_Differ (a : (Int × Int × (List (List Int)) × (List Int) × Unit)) (b : (Int × Int × (List (List Int)) × (List Int) × Unit)) : Option ((List Int) × Bool × Int) :=
  (det_two (a.1, (a.2.1, (a.2.2.1, (a.2.2.2.1, ())))) (b.1, (b.2.1, (b.2.2.1, (b.2.2.2.1, ()))))).bind (fun y' =>
  if (decide (¬ y' = (0 : Int))) = true then
  some ([], false, y') else
  (det_seeks (a.2.1, (b.2.1, ())) a.1 (a.1, (a.2.1, (a.2.2.1, (a.2.2.2.1, ())))) (b.1, (b.2.1, (b.2.2.1, (b.2.2.2.1, ())))) (a.1, (a.2.1, (a.2.2.1, (a.2.2.2.1, ())))) (b.1, (b.2.1, (b.2.2.1, (b.2.2.2.1, ()))))).bind (fun y'_4 =>
  some (y'_4.1, y'_4.2, (0 : Int))))

noncomputable def r3_Check_L19_B (d : (Int × Int × (List (List Int)) × (List Int) × Unit)) (i_1 : Int) (r16 : (Int → Option (Int))) (r19 : Int → Option (Int)) (k : Int) : Option (Int) :=
  if (decide (k < d.1)) = true then
  G (0 ≤ i_1 ∧ i_1 < (d.2.2.1.length : Int)) (
  G (0 ≤ k ∧ k < ((ix d.2.2.1 i_1).length : Int)) (
  if (decide ((ix (ix d.2.2.1 i_1) k) < (0 : Int))) = true then
  some (2 : Int) else
  G (0 ≤ i_1 ∧ i_1 < (d.2.2.1.length : Int)) (
  G (0 ≤ k ∧ k < ((ix d.2.2.1 i_1).length : Int)) (
  if (decide ((d.2.2.1.length : Int) ≤ (ix (ix d.2.2.1 i_1) k))) = true then
  some (2 : Int) else
  G (fits (k + (1 : Int))) (
  r19 (k + (1 : Int))))))) else
  G (fits (i_1 + (1 : Int))) (
  r16 (i_1 + (1 : Int)))
noncomputable def r3_Check_L19_F (d : (Int × Int × (List (List Int)) × (List Int) × Unit)) (i_1 : Int) (r16 : (Int → Option (Int))) : (Int → Option (Int)) → Int → Option (Int) :=
  fun rec x => r3_Check_L19_B d i_1 r16 (fun k => rec k) x
noncomputable def r3_Check_L19 (d : (Int × Int × (List (List Int)) × (List Int) × Unit)) (i_1 : Int) (r16 : (Int → Option (Int))) (k : Int) : Option (Int) := LFix (r3_Check_L19_F d i_1 r16 ) k
noncomputable def r3_Check_L24_B (d : (Int × Int × (List (List Int)) × (List Int) × Unit)) (r24 : Int → Option (Int)) (i_2 : Int) : Option (Int) :=
  if (decide (i_2 < (d.2.2.1.length : Int))) = true then
  G (0 ≤ i_2 ∧ i_2 < (d.2.2.2.1.length : Int)) (
  if (decide (¬ (ix d.2.2.2.1 i_2) = (0 : Int))) = true then
  G (0 ≤ i_2 ∧ i_2 < (d.2.2.2.1.length : Int)) (
  if (decide (¬ (ix d.2.2.2.1 i_2) = (1 : Int))) = true then
  some (2 : Int) else
  G (fits (i_2 + (1 : Int))) (
  r24 (i_2 + (1 : Int)))) else
  G (fits (i_2 + (1 : Int))) (
  r24 (i_2 + (1 : Int)))) else
  some (0 : Int)
noncomputable def r3_Check_L24_F (d : (Int × Int × (List (List Int)) × (List Int) × Unit)) : (Int → Option (Int)) → Int → Option (Int) :=
  fun rec x => r3_Check_L24_B d (fun i_2 => rec i_2) x
noncomputable def r3_Check_L24 (d : (Int × Int × (List (List Int)) × (List Int) × Unit)) (i_2 : Int) : Option (Int) := LFix (r3_Check_L24_F d ) i_2
noncomputable def r3_Check_L16_B (d : (Int × Int × (List (List Int)) × (List Int) × Unit)) (r16 : Int → Option (Int)) (i_1 : Int) : Option (Int) :=
  if (decide (i_1 < (d.2.2.1.length : Int))) = true then
  r3_Check_L19 d i_1 r16 (0 : Int) else
  r3_Check_L24 d (0 : Int)
noncomputable def r3_Check_L16_F (d : (Int × Int × (List (List Int)) × (List Int) × Unit)) : (Int → Option (Int)) → Int → Option (Int) :=
  fun rec x => r3_Check_L16_B d (fun i_1 => rec i_1) x
noncomputable def r3_Check_L16 (d : (Int × Int × (List (List Int)) × (List Int) × Unit)) (i_1 : Int) : Option (Int) := LFix (r3_Check_L16_F d ) i_1
noncomputable def r3_Check_L9_B (d : (Int × Int × (List (List Int)) × (List Int) × Unit)) (r9 : Int → Option (Int)) (i : Int) : Option (Int) :=
  if (decide (i < (d.2.2.1.length : Int))) = true then
  G (0 ≤ i ∧ i < (d.2.2.1.length : Int)) (
  if (decide (¬ ((ix d.2.2.1 i).length : Int) = d.1)) = true then
  some (3 : Int) else
  G (fits (i + (1 : Int))) (
  r9 (i + (1 : Int)))) else
  if (decide (d.2.1 < (0 : Int))) = true then
  some (2 : Int) else
  if (decide ((d.2.2.1.length : Int) ≤ d.2.1)) = true then
  some (2 : Int) else
  r3_Check_L16 d (0 : Int)
noncomputable def r3_Check_L9_F (d : (Int × Int × (List (List Int)) × (List Int) × Unit)) : (Int → Option (Int)) → Int → Option (Int) :=
  fun rec x => r3_Check_L9_B d (fun i => rec i) x
noncomputable def r3_Check_L9 (d : (Int × Int × (List (List Int)) × (List Int) × Unit)) (i : Int) : Option (Int) := LFix (r3_Check_L9_F d ) i
noncomputable def r3_Check (d : (Int × Int × (List (List Int)) × (List Int) × Unit)) : Option (Int) :=
  if (decide (d.1 < (1 : Int))) = true then
  some (2 : Int) else
  if (decide ((4 : Int) < d.1)) = true then
  some (2 : Int) else
  if (decide ((d.2.2.1.length : Int) < (1 : Int))) = true then
  some (1 : Int) else
  if (decide ((3000 : Int) < (d.2.2.1.length : Int))) = true then
  some (1 : Int) else
  if (decide (¬ (d.2.2.2.1.length : Int) = (d.2.2.1.length : Int))) = true then
  some (3 : Int) else
  r3_Check_L9 d (0 : Int)
theorem r3_Check_L19_B_ch (r16 : Nat → Int → Option (Int)) (r16' : Int → Option (Int)) (h_r16 : ∀ a0, ChO (fun κ => r16 κ a0) (r16' a0)) (r19 : Nat → Int → Option (Int)) (r19' : Int → Option (Int)) (h_r19 : ∀ a0, ChO (fun κ => r19 κ a0) (r19' a0)) (d : (Int × Int × (List (List Int)) × (List Int) × Unit)) (i_1 : Int) (k : Int) : ChO (fun κ => r3_Check_L19_B d i_1 (r16 κ) (r19 κ) k) (r3_Check_L19_B d i_1 r16' r19' k) := by
  unfold r3_Check_L19_B
  repeat' with_reducible first | exact ChO.const _ | exact h_r16 _ | exact h_r19 _ | apply ChO.ite | apply ChO.G | apply ChO.both | (apply ChO.bind; intro _)
theorem r3_Check_L19_cn (r16 : Int → Option (Int)) (d : (Int × Int × (List (List Int)) × (List Int) × Unit)) (i_1 : Int) : Cn (r3_Check_L19_F d i_1 r16) := fun g h hg x => r3_Check_L19_B_ch (fun _ => r16) r16 (fun _ => ChO.const _) (fun κ k => g κ k) (fun k => h k) (fun k => hg k) d i_1 x
theorem r3_Check_L19_eq (r16 : Int → Option (Int)) (d : (Int × Int × (List (List Int)) × (List Int) × Unit)) (i_1 : Int) (k : Int) : r3_Check_L19 d i_1 r16 k = r3_Check_L19_B d i_1 r16 (r3_Check_L19 d i_1 r16) k := LFix_eq (r3_Check_L19_cn r16 d i_1) k
theorem r3_Check_L19_ch (r16 : Nat → Int → Option (Int)) (r16' : Int → Option (Int)) (h_r16 : ∀ a0, ChO (fun κ => r16 κ a0) (r16' a0)) (d : (Int × Int × (List (List Int)) × (List Int) × Unit)) (i_1 : Int) (k : Int) : ChO (fun κ => r3_Check_L19 d i_1 (r16 κ) k) (r3_Check_L19 d i_1 r16' k) := by
  unfold r3_Check_L19
  exact LFix_ch (fun κ => (r3_Check_L19_cn (r16 κ) d i_1).mono) (r3_Check_L19_cn r16' d i_1).mono (fun g h hg x => r3_Check_L19_B_ch r16 r16' h_r16 (fun κ k => g κ k) (fun k => h k) (fun k => hg k) d i_1 x) _
theorem r3_Check_L24_B_ch (r24 : Nat → Int → Option (Int)) (r24' : Int → Option (Int)) (h_r24 : ∀ a0, ChO (fun κ => r24 κ a0) (r24' a0)) (d : (Int × Int × (List (List Int)) × (List Int) × Unit)) (i_2 : Int) : ChO (fun κ => r3_Check_L24_B d (r24 κ) i_2) (r3_Check_L24_B d r24' i_2) := by
  unfold r3_Check_L24_B
  repeat' with_reducible first | exact ChO.const _ | exact h_r24 _ | (apply r3_Check_L19_ch <;> assumption) | apply ChO.ite | apply ChO.G | apply ChO.both | (apply ChO.bind; intro _)
theorem r3_Check_L24_cn  (d : (Int × Int × (List (List Int)) × (List Int) × Unit)) : Cn (r3_Check_L24_F d) := fun g h hg x => r3_Check_L24_B_ch  (fun κ i_2 => g κ i_2) (fun i_2 => h i_2) (fun i_2 => hg i_2) d x
theorem r3_Check_L24_eq  (d : (Int × Int × (List (List Int)) × (List Int) × Unit)) (i_2 : Int) : r3_Check_L24 d i_2 = r3_Check_L24_B d (r3_Check_L24 d) i_2 := LFix_eq (r3_Check_L24_cn d) i_2
theorem r3_Check_L16_B_ch (r16 : Nat → Int → Option (Int)) (r16' : Int → Option (Int)) (h_r16 : ∀ a0, ChO (fun κ => r16 κ a0) (r16' a0)) (d : (Int × Int × (List (List Int)) × (List Int) × Unit)) (i_1 : Int) : ChO (fun κ => r3_Check_L16_B d (r16 κ) i_1) (r3_Check_L16_B d r16' i_1) := by
  unfold r3_Check_L16_B
  repeat' with_reducible first | exact ChO.const _ | exact h_r16 _ | (apply r3_Check_L19_ch <;> assumption) | apply ChO.ite | apply ChO.G | apply ChO.both | (apply ChO.bind; intro _)
theorem r3_Check_L16_cn  (d : (Int × Int × (List (List Int)) × (List Int) × Unit)) : Cn (r3_Check_L16_F d) := fun g h hg x => r3_Check_L16_B_ch  (fun κ i_1 => g κ i_1) (fun i_1 => h i_1) (fun i_1 => hg i_1) d x
theorem r3_Check_L16_eq  (d : (Int × Int × (List (List Int)) × (List Int) × Unit)) (i_1 : Int) : r3_Check_L16 d i_1 = r3_Check_L16_B d (r3_Check_L16 d) i_1 := LFix_eq (r3_Check_L16_cn d) i_1
theorem r3_Check_L9_B_ch (r9 : Nat → Int → Option (Int)) (r9' : Int → Option (Int)) (h_r9 : ∀ a0, ChO (fun κ => r9 κ a0) (r9' a0)) (d : (Int × Int × (List (List Int)) × (List Int) × Unit)) (i : Int) : ChO (fun κ => r3_Check_L9_B d (r9 κ) i) (r3_Check_L9_B d r9' i) := by
  unfold r3_Check_L9_B
  repeat' with_reducible first | exact ChO.const _ | exact h_r9 _ | (apply r3_Check_L19_ch <;> assumption) | apply ChO.ite | apply ChO.G | apply ChO.both | (apply ChO.bind; intro _)
theorem r3_Check_L9_cn  (d : (Int × Int × (List (List Int)) × (List Int) × Unit)) : Cn (r3_Check_L9_F d) := fun g h hg x => r3_Check_L9_B_ch  (fun κ i => g κ i) (fun i => h i) (fun i => hg i) d x
theorem r3_Check_L9_eq  (d : (Int × Int × (List (List Int)) × (List Int) × Unit)) (i : Int) : r3_Check_L9 d i = r3_Check_L9_B d (r3_Check_L9 d) i := LFix_eq (r3_Check_L9_cn d) i

noncomputable def law_noDet (d : (Int × Int × (List (List Int)) × (List Int) × Unit)) : Option (Bool) :=
  if (decide (d.1 = (0 : Int))) = true then
  if (decide (d.2.1 = (0 : Int))) = true then
  G (fits ((d.2.2.1.length : Int) + (d.2.2.2.1.length : Int))) (
  some (decide (((d.2.2.1.length : Int) + (d.2.2.2.1.length : Int)) = (0 : Int)))) else
  some false else
  some false

noncomputable def r3_Walked_L8_B (a : (Int × Int × (List (List Int)) × (List Int) × Unit)) (b : (Int × Int × (List (List Int)) × (List Int) × Unit)) (i : Int) (r5 : (Int → (List Bool) → (List Int) → (List Int) → (List (List Int)) → Option ((List Int) × (List Int) × (List (List Int)) × Unit))) (r8 : Int → (List Bool) → (List Int) → (List Int) → (List (List Int)) → Option ((List Int) × (List Int) × (List (List Int)) × Unit)) (k : Int) (seen_1 : (List Bool)) (l_3 : (List Int)) (l_4 : (List Int)) (l_5 : (List (List Int))) : Option ((List Int) × (List Int) × (List (List Int)) × Unit) :=
  if (decide (k < a.1)) = true then
  G (0 ≤ i ∧ i < (l_3.length : Int)) (
  G ((i).toNat < l_3.length) (
  G (0 ≤ ix l_3 i ∧ ix l_3 i < (a.2.2.1.length : Int)) (
  G (0 ≤ k ∧ k < ((ix a.2.2.1 (ix l_3 i)).length : Int)) (
  G (0 ≤ i ∧ i < (l_4.length : Int)) (
  G ((i).toNat < l_4.length) (
  G (0 ≤ ix l_4 i ∧ ix l_4 i < (b.2.2.1.length : Int)) (
  G (0 ≤ k ∧ k < ((ix b.2.2.1 (ix l_4 i)).length : Int)) (
  G (fits ((ix (ix a.2.2.1 (ix l_3 i)) k) * (b.2.2.1.length : Int))) (
  G (fits (((ix (ix a.2.2.1 (ix l_3 i)) k) * (b.2.2.1.length : Int)) + (ix (ix b.2.2.1 (ix l_4 i)) k))) (
  G (0 ≤ ((ix (ix a.2.2.1 (ix l_3 i)) k) * (b.2.2.1.length : Int)) + (ix (ix b.2.2.1 (ix l_4 i)) k) ∧ ((ix (ix a.2.2.1 (ix l_3 i)) k) * (b.2.2.1.length : Int)) + (ix (ix b.2.2.1 (ix l_4 i)) k) < (seen_1.length : Int)) (
  G ((((ix (ix a.2.2.1 (ix l_3 i)) k) * (b.2.2.1.length : Int)) + (ix (ix b.2.2.1 (ix l_4 i)) k)).toNat < seen_1.length) (
  if (ix seen_1 (((ix (ix a.2.2.1 (ix l_3 i)) k) * (b.2.2.1.length : Int)) + (ix (ix b.2.2.1 (ix l_4 i)) k))) = true then
  G (fits (k + (1 : Int))) (
  r8 (k + (1 : Int)) seen_1 l_3 l_4 l_5) else
  G (fits ((ix (ix a.2.2.1 (ix l_3 i)) k) * (b.2.2.1.length : Int))) (
  G (fits (((ix (ix a.2.2.1 (ix l_3 i)) k) * (b.2.2.1.length : Int)) + (ix (ix b.2.2.1 (ix l_4 i)) k))) (
  G (0 ≤ ((ix (ix a.2.2.1 (ix l_3 i)) k) * (b.2.2.1.length : Int)) + (ix (ix b.2.2.1 (ix l_4 i)) k) ∧ ((ix (ix a.2.2.1 (ix l_3 i)) k) * (b.2.2.1.length : Int)) + (ix (ix b.2.2.1 (ix l_4 i)) k) < (seen_1.length : Int)) (
  G ((((ix (ix a.2.2.1 (ix l_3 i)) k) * (b.2.2.1.length : Int)) + (ix (ix b.2.2.1 (ix l_4 i)) k)).toNat < seen_1.length) (
  G (0 ≤ i ∧ i < (l_5.length : Int)) (
  G ((i).toNat < l_5.length) (
  G (room ([] : List Int) (ix l_5 i) 8) (
  G (room (([] : List Int) ++ (ix l_5 i)) ([k]) 8) (
  G (room l_3 ([ix (ix a.2.2.1 (ix l_3 i)) k]) 8) (
  G (room l_4 ([ix (ix b.2.2.1 (ix l_4 i)) k]) 8) (
  G (room l_5 ([(([] : List Int) ++ (ix l_5 i)) ++ ([k])]) 24) (
  G (fits (k + (1 : Int))) (
  r8 (k + (1 : Int)) (seen_1.set (((ix (ix a.2.2.1 (ix l_3 i)) k) * (b.2.2.1.length : Int)) + (ix (ix b.2.2.1 (ix l_4 i)) k)).toNat true) (l_3 ++ ([ix (ix a.2.2.1 (ix l_3 i)) k])) (l_4 ++ ([ix (ix b.2.2.1 (ix l_4 i)) k])) (l_5 ++ ([(([] : List Int) ++ (ix l_5 i)) ++ ([k])])))))))))))))))))))))))))) else
  G (fits (i + (1 : Int))) (
  r5 (i + (1 : Int)) seen_1 l_3 l_4 l_5)
noncomputable def r3_Walked_L8_F (a : (Int × Int × (List (List Int)) × (List Int) × Unit)) (b : (Int × Int × (List (List Int)) × (List Int) × Unit)) (i : Int) (r5 : (Int → (List Bool) → (List Int) → (List Int) → (List (List Int)) → Option ((List Int) × (List Int) × (List (List Int)) × Unit))) : (Int × (List Bool) × (List Int) × (List Int) × (List (List Int)) → Option ((List Int) × (List Int) × (List (List Int)) × Unit)) → Int × (List Bool) × (List Int) × (List Int) × (List (List Int)) → Option ((List Int) × (List Int) × (List (List Int)) × Unit) :=
  fun rec x => r3_Walked_L8_B a b i r5 (fun k seen_1 l_3 l_4 l_5 => rec (k, seen_1, l_3, l_4, l_5)) x.1 x.2.1 x.2.2.1 x.2.2.2.1 x.2.2.2.2
noncomputable def r3_Walked_L8 (a : (Int × Int × (List (List Int)) × (List Int) × Unit)) (b : (Int × Int × (List (List Int)) × (List Int) × Unit)) (i : Int) (r5 : (Int → (List Bool) → (List Int) → (List Int) → (List (List Int)) → Option ((List Int) × (List Int) × (List (List Int)) × Unit))) (k : Int) (seen_1 : (List Bool)) (l_3 : (List Int)) (l_4 : (List Int)) (l_5 : (List (List Int))) : Option ((List Int) × (List Int) × (List (List Int)) × Unit) := LFix (r3_Walked_L8_F a b i r5 ) (k, seen_1, l_3, l_4, l_5)
noncomputable def r3_Walked_L5_B (a : (Int × Int × (List (List Int)) × (List Int) × Unit)) (b : (Int × Int × (List (List Int)) × (List Int) × Unit)) (r5 : Int → (List Bool) → (List Int) → (List Int) → (List (List Int)) → Option ((List Int) × (List Int) × (List (List Int)) × Unit)) (i : Int) (seen : (List Bool)) (l : (List Int)) (l_1 : (List Int)) (l_2 : (List (List Int))) : Option ((List Int) × (List Int) × (List (List Int)) × Unit) :=
  if (decide (i < (l.length : Int))) = true then
  r3_Walked_L8 a b i r5 (0 : Int) seen l l_1 l_2 else
  some (l, (l_1, (l_2, ())))
noncomputable def r3_Walked_L5_F (a : (Int × Int × (List (List Int)) × (List Int) × Unit)) (b : (Int × Int × (List (List Int)) × (List Int) × Unit)) : (Int × (List Bool) × (List Int) × (List Int) × (List (List Int)) → Option ((List Int) × (List Int) × (List (List Int)) × Unit)) → Int × (List Bool) × (List Int) × (List Int) × (List (List Int)) → Option ((List Int) × (List Int) × (List (List Int)) × Unit) :=
  fun rec x => r3_Walked_L5_B a b (fun i seen l l_1 l_2 => rec (i, seen, l, l_1, l_2)) x.1 x.2.1 x.2.2.1 x.2.2.2.1 x.2.2.2.2
noncomputable def r3_Walked_L5 (a : (Int × Int × (List (List Int)) × (List Int) × Unit)) (b : (Int × Int × (List (List Int)) × (List Int) × Unit)) (i : Int) (seen : (List Bool)) (l : (List Int)) (l_1 : (List Int)) (l_2 : (List (List Int))) : Option ((List Int) × (List Int) × (List (List Int)) × Unit) := LFix (r3_Walked_L5_F a b ) (i, seen, l, l_1, l_2)
noncomputable def r3_Walked (a : (Int × Int × (List (List Int)) × (List Int) × Unit)) (b : (Int × Int × (List (List Int)) × (List Int) × Unit)) (p : Int) (q : Int) : Option ((List Int) × (List Int) × (List (List Int)) × Unit) :=
  G (fits ((a.2.2.1.length : Int) * (b.2.2.1.length : Int))) (
  G (mkOK ((a.2.2.1.length : Int) * (b.2.2.1.length : Int)) ((a.2.2.1.length : Int) * (b.2.2.1.length : Int)) 1) (
  G (fits (p * (b.2.2.1.length : Int))) (
  G (fits ((p * (b.2.2.1.length : Int)) + q)) (
  G (0 ≤ (p * (b.2.2.1.length : Int)) + q ∧ (p * (b.2.2.1.length : Int)) + q < ((List.replicate ((a.2.2.1.length : Int) * (b.2.2.1.length : Int)).toNat (false : Bool)).length : Int)) (
  G (((p * (b.2.2.1.length : Int)) + q).toNat < (List.replicate ((a.2.2.1.length : Int) * (b.2.2.1.length : Int)).toNat (false : Bool)).length) (
  r3_Walked_L5 a b (0 : Int) ((List.replicate ((a.2.2.1.length : Int) * (b.2.2.1.length : Int)).toNat (false : Bool)).set ((p * (b.2.2.1.length : Int)) + q).toNat true) ([p]) ([q]) ([([] : List Int)])))))))
theorem r3_Walked_L8_B_ch (r5 : Nat → Int → (List Bool) → (List Int) → (List Int) → (List (List Int)) → Option ((List Int) × (List Int) × (List (List Int)) × Unit)) (r5' : Int → (List Bool) → (List Int) → (List Int) → (List (List Int)) → Option ((List Int) × (List Int) × (List (List Int)) × Unit)) (h_r5 : ∀ a0 a1 a2 a3 a4, ChO (fun κ => r5 κ a0 a1 a2 a3 a4) (r5' a0 a1 a2 a3 a4)) (r8 : Nat → Int → (List Bool) → (List Int) → (List Int) → (List (List Int)) → Option ((List Int) × (List Int) × (List (List Int)) × Unit)) (r8' : Int → (List Bool) → (List Int) → (List Int) → (List (List Int)) → Option ((List Int) × (List Int) × (List (List Int)) × Unit)) (h_r8 : ∀ a0 a1 a2 a3 a4, ChO (fun κ => r8 κ a0 a1 a2 a3 a4) (r8' a0 a1 a2 a3 a4)) (a : (Int × Int × (List (List Int)) × (List Int) × Unit)) (b : (Int × Int × (List (List Int)) × (List Int) × Unit)) (i : Int) (k : Int) (seen_1 : (List Bool)) (l_3 : (List Int)) (l_4 : (List Int)) (l_5 : (List (List Int))) : ChO (fun κ => r3_Walked_L8_B a b i (r5 κ) (r8 κ) k seen_1 l_3 l_4 l_5) (r3_Walked_L8_B a b i r5' r8' k seen_1 l_3 l_4 l_5) := by
  unfold r3_Walked_L8_B
  repeat' with_reducible first | exact ChO.const _ | exact h_r5 _ _ _ _ _ | exact h_r8 _ _ _ _ _ | apply ChO.ite | apply ChO.G | apply ChO.both | (apply ChO.bind; intro _)
theorem r3_Walked_L8_cn (r5 : Int → (List Bool) → (List Int) → (List Int) → (List (List Int)) → Option ((List Int) × (List Int) × (List (List Int)) × Unit)) (a : (Int × Int × (List (List Int)) × (List Int) × Unit)) (b : (Int × Int × (List (List Int)) × (List Int) × Unit)) (i : Int) : Cn (r3_Walked_L8_F a b i r5) := fun g h hg x => r3_Walked_L8_B_ch (fun _ => r5) r5 (fun _ _ _ _ _ => ChO.const _) (fun κ k seen_1 l_3 l_4 l_5 => g κ (k, seen_1, l_3, l_4, l_5)) (fun k seen_1 l_3 l_4 l_5 => h (k, seen_1, l_3, l_4, l_5)) (fun k seen_1 l_3 l_4 l_5 => hg (k, seen_1, l_3, l_4, l_5)) a b i x.1 x.2.1 x.2.2.1 x.2.2.2.1 x.2.2.2.2
theorem r3_Walked_L8_eq (r5 : Int → (List Bool) → (List Int) → (List Int) → (List (List Int)) → Option ((List Int) × (List Int) × (List (List Int)) × Unit)) (a : (Int × Int × (List (List Int)) × (List Int) × Unit)) (b : (Int × Int × (List (List Int)) × (List Int) × Unit)) (i : Int) (k : Int) (seen_1 : (List Bool)) (l_3 : (List Int)) (l_4 : (List Int)) (l_5 : (List (List Int))) : r3_Walked_L8 a b i r5 k seen_1 l_3 l_4 l_5 = r3_Walked_L8_B a b i r5 (r3_Walked_L8 a b i r5) k seen_1 l_3 l_4 l_5 := LFix_eq (r3_Walked_L8_cn r5 a b i) (k, seen_1, l_3, l_4, l_5)
theorem r3_Walked_L8_ch (r5 : Nat → Int → (List Bool) → (List Int) → (List Int) → (List (List Int)) → Option ((List Int) × (List Int) × (List (List Int)) × Unit)) (r5' : Int → (List Bool) → (List Int) → (List Int) → (List (List Int)) → Option ((List Int) × (List Int) × (List (List Int)) × Unit)) (h_r5 : ∀ a0 a1 a2 a3 a4, ChO (fun κ => r5 κ a0 a1 a2 a3 a4) (r5' a0 a1 a2 a3 a4)) (a : (Int × Int × (List (List Int)) × (List Int) × Unit)) (b : (Int × Int × (List (List Int)) × (List Int) × Unit)) (i : Int) (k : Int) (seen_1 : (List Bool)) (l_3 : (List Int)) (l_4 : (List Int)) (l_5 : (List (List Int))) : ChO (fun κ => r3_Walked_L8 a b i (r5 κ) k seen_1 l_3 l_4 l_5) (r3_Walked_L8 a b i r5' k seen_1 l_3 l_4 l_5) := by
  unfold r3_Walked_L8
  exact LFix_ch (fun κ => (r3_Walked_L8_cn (r5 κ) a b i).mono) (r3_Walked_L8_cn r5' a b i).mono (fun g h hg x => r3_Walked_L8_B_ch r5 r5' h_r5 (fun κ k seen_1 l_3 l_4 l_5 => g κ (k, seen_1, l_3, l_4, l_5)) (fun k seen_1 l_3 l_4 l_5 => h (k, seen_1, l_3, l_4, l_5)) (fun k seen_1 l_3 l_4 l_5 => hg (k, seen_1, l_3, l_4, l_5)) a b i x.1 x.2.1 x.2.2.1 x.2.2.2.1 x.2.2.2.2) _
theorem r3_Walked_L5_B_ch (r5 : Nat → Int → (List Bool) → (List Int) → (List Int) → (List (List Int)) → Option ((List Int) × (List Int) × (List (List Int)) × Unit)) (r5' : Int → (List Bool) → (List Int) → (List Int) → (List (List Int)) → Option ((List Int) × (List Int) × (List (List Int)) × Unit)) (h_r5 : ∀ a0 a1 a2 a3 a4, ChO (fun κ => r5 κ a0 a1 a2 a3 a4) (r5' a0 a1 a2 a3 a4)) (a : (Int × Int × (List (List Int)) × (List Int) × Unit)) (b : (Int × Int × (List (List Int)) × (List Int) × Unit)) (i : Int) (seen : (List Bool)) (l : (List Int)) (l_1 : (List Int)) (l_2 : (List (List Int))) : ChO (fun κ => r3_Walked_L5_B a b (r5 κ) i seen l l_1 l_2) (r3_Walked_L5_B a b r5' i seen l l_1 l_2) := by
  unfold r3_Walked_L5_B
  repeat' with_reducible first | exact ChO.const _ | exact h_r5 _ _ _ _ _ | (apply r3_Walked_L8_ch <;> assumption) | apply ChO.ite | apply ChO.G | apply ChO.both | (apply ChO.bind; intro _)
theorem r3_Walked_L5_cn  (a : (Int × Int × (List (List Int)) × (List Int) × Unit)) (b : (Int × Int × (List (List Int)) × (List Int) × Unit)) : Cn (r3_Walked_L5_F a b) := fun g h hg x => r3_Walked_L5_B_ch  (fun κ i seen l l_1 l_2 => g κ (i, seen, l, l_1, l_2)) (fun i seen l l_1 l_2 => h (i, seen, l, l_1, l_2)) (fun i seen l l_1 l_2 => hg (i, seen, l, l_1, l_2)) a b x.1 x.2.1 x.2.2.1 x.2.2.2.1 x.2.2.2.2
theorem r3_Walked_L5_eq  (a : (Int × Int × (List (List Int)) × (List Int) × Unit)) (b : (Int × Int × (List (List Int)) × (List Int) × Unit)) (i : Int) (seen : (List Bool)) (l : (List Int)) (l_1 : (List Int)) (l_2 : (List (List Int))) : r3_Walked_L5 a b i seen l l_1 l_2 = r3_Walked_L5_B a b (r3_Walked_L5 a b) i seen l l_1 l_2 := LFix_eq (r3_Walked_L5_cn a b) (i, seen, l, l_1, l_2)

noncomputable def r3_Apart_L3_B (a : (Int × Int × (List (List Int)) × (List Int) × Unit)) (b : (Int × Int × (List (List Int)) × (List Int) × Unit)) (y' : ((List Int) × (List Int) × (List (List Int)) × Unit)) (r3 : Int → Option ((List Int) × Bool)) (i : Int) : Option ((List Int) × Bool) :=
  if (decide (i < (y'.1.length : Int))) = true then
  G (0 ≤ i ∧ i < (y'.1.length : Int)) (
  G (0 ≤ ix y'.1 i ∧ ix y'.1 i < (a.2.2.2.1.length : Int)) (
  G (0 ≤ i ∧ i < (y'.2.1.length : Int)) (
  G (0 ≤ ix y'.2.1 i ∧ ix y'.2.1 i < (b.2.2.2.1.length : Int)) (
  if (decide (¬ (ix a.2.2.2.1 (ix y'.1 i)) = (ix b.2.2.2.1 (ix y'.2.1 i)))) = true then
  G (0 ≤ i ∧ i < (y'.2.2.1.length : Int)) (
  some (ix y'.2.2.1 i, true)) else
  G (fits (i + (1 : Int))) (
  r3 (i + (1 : Int))))))) else
  some ([], false)
noncomputable def r3_Apart_L3_F (a : (Int × Int × (List (List Int)) × (List Int) × Unit)) (b : (Int × Int × (List (List Int)) × (List Int) × Unit)) (y' : ((List Int) × (List Int) × (List (List Int)) × Unit)) : (Int → Option ((List Int) × Bool)) → Int → Option ((List Int) × Bool) :=
  fun rec x => r3_Apart_L3_B a b y' (fun i => rec i) x
noncomputable def r3_Apart_L3 (a : (Int × Int × (List (List Int)) × (List Int) × Unit)) (b : (Int × Int × (List (List Int)) × (List Int) × Unit)) (y' : ((List Int) × (List Int) × (List (List Int)) × Unit)) (i : Int) : Option ((List Int) × Bool) := LFix (r3_Apart_L3_F a b y' ) i
noncomputable def r3_Apart (a : (Int × Int × (List (List Int)) × (List Int) × Unit)) (b : (Int × Int × (List (List Int)) × (List Int) × Unit)) (p : Int) (q : Int) : Option ((List Int) × Bool) :=
  (r3_Walked (a.1, (a.2.1, (a.2.2.1, (a.2.2.2.1, ())))) (b.1, (b.2.1, (b.2.2.1, (b.2.2.2.1, ())))) p q).bind (fun y' =>
  r3_Apart_L3 a b y' (0 : Int))
theorem r3_Apart_L3_B_ch (r3 : Nat → Int → Option ((List Int) × Bool)) (r3' : Int → Option ((List Int) × Bool)) (h_r3 : ∀ a0, ChO (fun κ => r3 κ a0) (r3' a0)) (a : (Int × Int × (List (List Int)) × (List Int) × Unit)) (b : (Int × Int × (List (List Int)) × (List Int) × Unit)) (y' : ((List Int) × (List Int) × (List (List Int)) × Unit)) (i : Int) : ChO (fun κ => r3_Apart_L3_B a b y' (r3 κ) i) (r3_Apart_L3_B a b y' r3' i) := by
  unfold r3_Apart_L3_B
  repeat' with_reducible first | exact ChO.const _ | exact h_r3 _ | apply ChO.ite | apply ChO.G | apply ChO.both | (apply ChO.bind; intro _)
theorem r3_Apart_L3_cn  (a : (Int × Int × (List (List Int)) × (List Int) × Unit)) (b : (Int × Int × (List (List Int)) × (List Int) × Unit)) (y' : ((List Int) × (List Int) × (List (List Int)) × Unit)) : Cn (r3_Apart_L3_F a b y') := fun g h hg x => r3_Apart_L3_B_ch  (fun κ i => g κ i) (fun i => h i) (fun i => hg i) a b y' x
theorem r3_Apart_L3_eq  (a : (Int × Int × (List (List Int)) × (List Int) × Unit)) (b : (Int × Int × (List (List Int)) × (List Int) × Unit)) (y' : ((List Int) × (List Int) × (List (List Int)) × Unit)) (i : Int) : r3_Apart_L3 a b y' i = r3_Apart_L3_B a b y' (r3_Apart_L3 a b y') i := LFix_eq (r3_Apart_L3_cn a b y') i

noncomputable def r1_Words_L4_B (a : (List Int)) (b : (List Int)) (r4 : Int → Option (Bool)) (i : Int) : Option (Bool) :=
  if (decide (i < (a.length : Int))) = true then
  G (0 ≤ i ∧ i < (a.length : Int)) (
  G (0 ≤ i ∧ i < (b.length : Int)) (
  if (decide (¬ (ix a i) = (ix b i))) = true then
  some false else
  G (fits (i + (1 : Int))) (
  r4 (i + (1 : Int))))) else
  some true
noncomputable def r1_Words_L4_F (a : (List Int)) (b : (List Int)) : (Int → Option (Bool)) → Int → Option (Bool) :=
  fun rec x => r1_Words_L4_B a b (fun i => rec i) x
noncomputable def r1_Words_L4 (a : (List Int)) (b : (List Int)) (i : Int) : Option (Bool) := LFix (r1_Words_L4_F a b ) i
noncomputable def r1_Words (a : (List Int)) (b : (List Int)) : Option (Bool) :=
  if (decide (¬ (a.length : Int) = (b.length : Int))) = true then
  some false else
  r1_Words_L4 a b (0 : Int)
theorem r1_Words_L4_B_ch (r4 : Nat → Int → Option (Bool)) (r4' : Int → Option (Bool)) (h_r4 : ∀ a0, ChO (fun κ => r4 κ a0) (r4' a0)) (a : (List Int)) (b : (List Int)) (i : Int) : ChO (fun κ => r1_Words_L4_B a b (r4 κ) i) (r1_Words_L4_B a b r4' i) := by
  unfold r1_Words_L4_B
  repeat' with_reducible first | exact ChO.const _ | exact h_r4 _ | apply ChO.ite | apply ChO.G | apply ChO.both | (apply ChO.bind; intro _)
theorem r1_Words_L4_cn  (a : (List Int)) (b : (List Int)) : Cn (r1_Words_L4_F a b) := fun g h hg x => r1_Words_L4_B_ch  (fun κ i => g κ i) (fun i => h i) (fun i => hg i) a b x
theorem r1_Words_L4_eq  (a : (List Int)) (b : (List Int)) (i : Int) : r1_Words_L4 a b i = r1_Words_L4_B a b (r1_Words_L4 a b) i := LFix_eq (r1_Words_L4_cn a b) i

noncomputable def r3_Classes_J21 (q : Int) (next' : (List Int)) (r7 : (Int → Int → (List Int) → (List Int) → Option (List Int))) (k_1 : Int) (n_1 : Int) (first_1 : (List Int)) : Option (List Int) :=
  G (0 ≤ q ∧ q < (next'.length : Int)) (
  G ((q).toNat < next'.length) (
  G (fits (q + (1 : Int))) (
  r7 n_1 (q + (1 : Int)) (next'.set (q).toNat k_1) first_1)))
noncomputable def r3_Classes_J18 (n : Int) (q : Int) (next' : (List Int)) (first : (List Int)) (r7 : (Int → Int → (List Int) → (List Int) → Option (List Int))) (k_1 : Int) : Option (List Int) :=
  if (decide (k_1 = n)) = true then
  G (room first ([q]) 8) (
  G (fits (n + (1 : Int))) (
  r3_Classes_J21 q next' r7 k_1 (n + (1 : Int)) (first ++ ([q])))) else
  r3_Classes_J21 q next' r7 k_1 n first
noncomputable def r3_Classes_J15 (n : Int) (q : Int) (next' : (List Int)) (first : (List Int)) (r7 : (Int → Int → (List Int) → (List Int) → Option (List Int))) (k : Int) (r10 : (Int → Option (List Int))) (same_1 : Bool) : Option (List Int) :=
  if same_1 = true then
  r3_Classes_J18 n q next' first r7 k else
  G (fits (k + (1 : Int))) (
  r10 (k + (1 : Int)))
noncomputable def r3_Classes_L14_B (d : (Int × Int × (List (List Int)) × (List Int) × Unit)) (class' : (List Int)) (n : Int) (q : Int) (next' : (List Int)) (first : (List Int)) (r7 : (Int → Int → (List Int) → (List Int) → Option (List Int))) (k : Int) (r10 : (Int → Option (List Int))) (r14 : Bool → Int → Option (List Int)) (same : Bool) (a : Int) : Option (List Int) :=
  if (decide (a < d.1)) = true then
  if same = true then
  G (0 ≤ ix first k ∧ ix first k < (d.2.2.1.length : Int)) (
  G (0 ≤ a ∧ a < ((ix d.2.2.1 (ix first k)).length : Int)) (
  G (0 ≤ ix (ix d.2.2.1 (ix first k)) a ∧ ix (ix d.2.2.1 (ix first k)) a < (class'.length : Int)) (
  G ((ix (ix d.2.2.1 (ix first k)) a).toNat < class'.length) (
  G (0 ≤ q ∧ q < (d.2.2.1.length : Int)) (
  G (0 ≤ a ∧ a < ((ix d.2.2.1 q).length : Int)) (
  G (0 ≤ ix (ix d.2.2.1 q) a ∧ ix (ix d.2.2.1 q) a < (class'.length : Int)) (
  G ((ix (ix d.2.2.1 q) a).toNat < class'.length) (
  G (fits (a + (1 : Int))) (
  r14 (decide ((ix class' (ix (ix d.2.2.1 (ix first k)) a)) = (ix class' (ix (ix d.2.2.1 q) a)))) (a + (1 : Int))))))))))) else
  r3_Classes_J15 n q next' first r7 k r10 same else
  r3_Classes_J15 n q next' first r7 k r10 same
noncomputable def r3_Classes_L14_F (d : (Int × Int × (List (List Int)) × (List Int) × Unit)) (class' : (List Int)) (n : Int) (q : Int) (next' : (List Int)) (first : (List Int)) (r7 : (Int → Int → (List Int) → (List Int) → Option (List Int))) (k : Int) (r10 : (Int → Option (List Int))) : (Bool × Int → Option (List Int)) → Bool × Int → Option (List Int) :=
  fun rec x => r3_Classes_L14_B d class' n q next' first r7 k r10 (fun same a => rec (same, a)) x.1 x.2
noncomputable def r3_Classes_L14 (d : (Int × Int × (List (List Int)) × (List Int) × Unit)) (class' : (List Int)) (n : Int) (q : Int) (next' : (List Int)) (first : (List Int)) (r7 : (Int → Int → (List Int) → (List Int) → Option (List Int))) (k : Int) (r10 : (Int → Option (List Int))) (same : Bool) (a : Int) : Option (List Int) := LFix (r3_Classes_L14_F d class' n q next' first r7 k r10 ) (same, a)
noncomputable def r3_Classes_L10_B (d : (Int × Int × (List (List Int)) × (List Int) × Unit)) (class' : (List Int)) (n : Int) (q : Int) (next' : (List Int)) (first : (List Int)) (r7 : (Int → Int → (List Int) → (List Int) → Option (List Int))) (r10 : Int → Option (List Int)) (k : Int) : Option (List Int) :=
  if (decide (k < n)) = true then
  G (0 ≤ k ∧ k < (first.length : Int)) (
  G ((k).toNat < first.length) (
  G (0 ≤ ix first k ∧ ix first k < (class'.length : Int)) (
  G ((ix first k).toNat < class'.length) (
  G (0 ≤ q ∧ q < (class'.length : Int)) (
  G ((q).toNat < class'.length) (
  r3_Classes_L14 d class' n q next' first r7 k r10 (decide ((ix class' (ix first k)) = (ix class' q))) (0 : Int))))))) else
  r3_Classes_J18 n q next' first r7 k
noncomputable def r3_Classes_L10_F (d : (Int × Int × (List (List Int)) × (List Int) × Unit)) (class' : (List Int)) (n : Int) (q : Int) (next' : (List Int)) (first : (List Int)) (r7 : (Int → Int → (List Int) → (List Int) → Option (List Int))) : (Int → Option (List Int)) → Int → Option (List Int) :=
  fun rec x => r3_Classes_L10_B d class' n q next' first r7 (fun k => rec k) x
noncomputable def r3_Classes_L10 (d : (Int × Int × (List (List Int)) × (List Int) × Unit)) (class' : (List Int)) (n : Int) (q : Int) (next' : (List Int)) (first : (List Int)) (r7 : (Int → Int → (List Int) → (List Int) → Option (List Int))) (k : Int) : Option (List Int) := LFix (r3_Classes_L10_F d class' n q next' first r7 ) k
noncomputable def r3_Classes_L7_B (d : (Int × Int × (List (List Int)) × (List Int) × Unit)) (count : Int) (class' : (List Int)) (r3 : (Int → (List Int) → Option (List Int))) (r7 : Int → Int → (List Int) → (List Int) → Option (List Int)) (n : Int) (q : Int) (next' : (List Int)) (first : (List Int)) : Option (List Int) :=
  if (decide (q < (class'.length : Int))) = true then
  r3_Classes_L10 d class' n q next' first r7 (0 : Int) else
  if (decide (n = count)) = true then
  some next' else
  r3 n next'
noncomputable def r3_Classes_L7_F (d : (Int × Int × (List (List Int)) × (List Int) × Unit)) (count : Int) (class' : (List Int)) (r3 : (Int → (List Int) → Option (List Int))) : (Int × Int × (List Int) × (List Int) → Option (List Int)) → Int × Int × (List Int) × (List Int) → Option (List Int) :=
  fun rec x => r3_Classes_L7_B d count class' r3 (fun n q next' first => rec (n, q, next', first)) x.1 x.2.1 x.2.2.1 x.2.2.2
noncomputable def r3_Classes_L7 (d : (Int × Int × (List (List Int)) × (List Int) × Unit)) (count : Int) (class' : (List Int)) (r3 : (Int → (List Int) → Option (List Int))) (n : Int) (q : Int) (next' : (List Int)) (first : (List Int)) : Option (List Int) := LFix (r3_Classes_L7_F d count class' r3 ) (n, q, next', first)
noncomputable def r3_Classes_L3_B (d : (Int × Int × (List (List Int)) × (List Int) × Unit)) (r3 : Int → (List Int) → Option (List Int)) (count : Int) (class' : (List Int)) : Option (List Int) :=
  G (mkOK (class'.length : Int) (class'.length : Int) 8) (
  r3_Classes_L7 d count class' r3 (0 : Int) (0 : Int) (List.replicate ((class'.length : Int)).toNat (0 : Int)) ([]))
noncomputable def r3_Classes_L3_F (d : (Int × Int × (List (List Int)) × (List Int) × Unit)) : (Int × (List Int) → Option (List Int)) → Int × (List Int) → Option (List Int) :=
  fun rec x => r3_Classes_L3_B d (fun count class' => rec (count, class')) x.1 x.2
noncomputable def r3_Classes_L3 (d : (Int × Int × (List (List Int)) × (List Int) × Unit)) (count : Int) (class' : (List Int)) : Option (List Int) := LFix (r3_Classes_L3_F d ) (count, class')
noncomputable def r3_Classes (d : (Int × Int × (List (List Int)) × (List Int) × Unit)) : Option (List Int) :=
  G (room ([] : List Int) d.2.2.2.1 8) (
  r3_Classes_L3 d (0 : Int) (([] : List Int) ++ d.2.2.2.1))
theorem r3_Classes_J21_ch (r7 : Nat → Int → Int → (List Int) → (List Int) → Option (List Int)) (r7' : Int → Int → (List Int) → (List Int) → Option (List Int)) (h_r7 : ∀ a0 a1 a2 a3, ChO (fun κ => r7 κ a0 a1 a2 a3) (r7' a0 a1 a2 a3)) (q : Int) (next' : (List Int)) (k_1 : Int) (n_1 : Int) (first_1 : (List Int)) : ChO (fun κ => r3_Classes_J21 q next' (r7 κ) k_1 n_1 first_1) (r3_Classes_J21 q next' r7' k_1 n_1 first_1) := by
  unfold r3_Classes_J21
  repeat' with_reducible first | exact ChO.const _ | exact h_r7 _ _ _ _ | apply ChO.ite | apply ChO.G | apply ChO.both | (apply ChO.bind; intro _)
theorem r3_Classes_J18_ch (r7 : Nat → Int → Int → (List Int) → (List Int) → Option (List Int)) (r7' : Int → Int → (List Int) → (List Int) → Option (List Int)) (h_r7 : ∀ a0 a1 a2 a3, ChO (fun κ => r7 κ a0 a1 a2 a3) (r7' a0 a1 a2 a3)) (n : Int) (q : Int) (next' : (List Int)) (first : (List Int)) (k_1 : Int) : ChO (fun κ => r3_Classes_J18 n q next' first (r7 κ) k_1) (r3_Classes_J18 n q next' first r7' k_1) := by
  unfold r3_Classes_J18
  repeat' with_reducible first | exact ChO.const _ | exact h_r7 _ _ _ _ | (apply r3_Classes_J21_ch <;> assumption) | apply ChO.ite | apply ChO.G | apply ChO.both | (apply ChO.bind; intro _)
theorem r3_Classes_J15_ch (r7 : Nat → Int → Int → (List Int) → (List Int) → Option (List Int)) (r7' : Int → Int → (List Int) → (List Int) → Option (List Int)) (h_r7 : ∀ a0 a1 a2 a3, ChO (fun κ => r7 κ a0 a1 a2 a3) (r7' a0 a1 a2 a3)) (r10 : Nat → Int → Option (List Int)) (r10' : Int → Option (List Int)) (h_r10 : ∀ a0, ChO (fun κ => r10 κ a0) (r10' a0)) (n : Int) (q : Int) (next' : (List Int)) (first : (List Int)) (k : Int) (same_1 : Bool) : ChO (fun κ => r3_Classes_J15 n q next' first (r7 κ) k (r10 κ) same_1) (r3_Classes_J15 n q next' first r7' k r10' same_1) := by
  unfold r3_Classes_J15
  repeat' with_reducible first | exact ChO.const _ | exact h_r7 _ _ _ _ | exact h_r10 _ | (apply r3_Classes_J21_ch <;> assumption) | (apply r3_Classes_J18_ch <;> assumption) | apply ChO.ite | apply ChO.G | apply ChO.both | (apply ChO.bind; intro _)
theorem r3_Classes_L14_B_ch (r7 : Nat → Int → Int → (List Int) → (List Int) → Option (List Int)) (r7' : Int → Int → (List Int) → (List Int) → Option (List Int)) (h_r7 : ∀ a0 a1 a2 a3, ChO (fun κ => r7 κ a0 a1 a2 a3) (r7' a0 a1 a2 a3)) (r10 : Nat → Int → Option (List Int)) (r10' : Int → Option (List Int)) (h_r10 : ∀ a0, ChO (fun κ => r10 κ a0) (r10' a0)) (r14 : Nat → Bool → Int → Option (List Int)) (r14' : Bool → Int → Option (List Int)) (h_r14 : ∀ a0 a1, ChO (fun κ => r14 κ a0 a1) (r14' a0 a1)) (d : (Int × Int × (List (List Int)) × (List Int) × Unit)) (class' : (List Int)) (n : Int) (q : Int) (next' : (List Int)) (first : (List Int)) (k : Int) (same : Bool) (a : Int) : ChO (fun κ => r3_Classes_L14_B d class' n q next' first (r7 κ) k (r10 κ) (r14 κ) same a) (r3_Classes_L14_B d class' n q next' first r7' k r10' r14' same a) := by
  unfold r3_Classes_L14_B
  repeat' with_reducible first | exact ChO.const _ | exact h_r7 _ _ _ _ | exact h_r10 _ | exact h_r14 _ _ | (apply r3_Classes_J21_ch <;> assumption) | (apply r3_Classes_J18_ch <;> assumption) | (apply r3_Classes_J15_ch <;> assumption) | apply ChO.ite | apply ChO.G | apply ChO.both | (apply ChO.bind; intro _)
theorem r3_Classes_L14_cn (r7 : Int → Int → (List Int) → (List Int) → Option (List Int)) (r10 : Int → Option (List Int)) (d : (Int × Int × (List (List Int)) × (List Int) × Unit)) (class' : (List Int)) (n : Int) (q : Int) (next' : (List Int)) (first : (List Int)) (k : Int) : Cn (r3_Classes_L14_F d class' n q next' first r7 k r10) := fun g h hg x => r3_Classes_L14_B_ch (fun _ => r7) r7 (fun _ _ _ _ => ChO.const _) (fun _ => r10) r10 (fun _ => ChO.const _) (fun κ same a => g κ (same, a)) (fun same a => h (same, a)) (fun same a => hg (same, a)) d class' n q next' first k x.1 x.2
theorem r3_Classes_L14_eq (r7 : Int → Int → (List Int) → (List Int) → Option (List Int)) (r10 : Int → Option (List Int)) (d : (Int × Int × (List (List Int)) × (List Int) × Unit)) (class' : (List Int)) (n : Int) (q : Int) (next' : (List Int)) (first : (List Int)) (k : Int) (same : Bool) (a : Int) : r3_Classes_L14 d class' n q next' first r7 k r10 same a = r3_Classes_L14_B d class' n q next' first r7 k r10 (r3_Classes_L14 d class' n q next' first r7 k r10) same a := LFix_eq (r3_Classes_L14_cn r7 r10 d class' n q next' first k) (same, a)
theorem r3_Classes_L14_ch (r7 : Nat → Int → Int → (List Int) → (List Int) → Option (List Int)) (r7' : Int → Int → (List Int) → (List Int) → Option (List Int)) (h_r7 : ∀ a0 a1 a2 a3, ChO (fun κ => r7 κ a0 a1 a2 a3) (r7' a0 a1 a2 a3)) (r10 : Nat → Int → Option (List Int)) (r10' : Int → Option (List Int)) (h_r10 : ∀ a0, ChO (fun κ => r10 κ a0) (r10' a0)) (d : (Int × Int × (List (List Int)) × (List Int) × Unit)) (class' : (List Int)) (n : Int) (q : Int) (next' : (List Int)) (first : (List Int)) (k : Int) (same : Bool) (a : Int) : ChO (fun κ => r3_Classes_L14 d class' n q next' first (r7 κ) k (r10 κ) same a) (r3_Classes_L14 d class' n q next' first r7' k r10' same a) := by
  unfold r3_Classes_L14
  exact LFix_ch (fun κ => (r3_Classes_L14_cn (r7 κ) (r10 κ) d class' n q next' first k).mono) (r3_Classes_L14_cn r7' r10' d class' n q next' first k).mono (fun g h hg x => r3_Classes_L14_B_ch r7 r7' h_r7 r10 r10' h_r10 (fun κ same a => g κ (same, a)) (fun same a => h (same, a)) (fun same a => hg (same, a)) d class' n q next' first k x.1 x.2) _
theorem r3_Classes_L10_B_ch (r7 : Nat → Int → Int → (List Int) → (List Int) → Option (List Int)) (r7' : Int → Int → (List Int) → (List Int) → Option (List Int)) (h_r7 : ∀ a0 a1 a2 a3, ChO (fun κ => r7 κ a0 a1 a2 a3) (r7' a0 a1 a2 a3)) (r10 : Nat → Int → Option (List Int)) (r10' : Int → Option (List Int)) (h_r10 : ∀ a0, ChO (fun κ => r10 κ a0) (r10' a0)) (d : (Int × Int × (List (List Int)) × (List Int) × Unit)) (class' : (List Int)) (n : Int) (q : Int) (next' : (List Int)) (first : (List Int)) (k : Int) : ChO (fun κ => r3_Classes_L10_B d class' n q next' first (r7 κ) (r10 κ) k) (r3_Classes_L10_B d class' n q next' first r7' r10' k) := by
  unfold r3_Classes_L10_B
  repeat' with_reducible first | exact ChO.const _ | exact h_r7 _ _ _ _ | exact h_r10 _ | (apply r3_Classes_J21_ch <;> assumption) | (apply r3_Classes_J18_ch <;> assumption) | (apply r3_Classes_J15_ch <;> assumption) | (apply r3_Classes_L14_ch <;> assumption) | apply ChO.ite | apply ChO.G | apply ChO.both | (apply ChO.bind; intro _)
theorem r3_Classes_L10_cn (r7 : Int → Int → (List Int) → (List Int) → Option (List Int)) (d : (Int × Int × (List (List Int)) × (List Int) × Unit)) (class' : (List Int)) (n : Int) (q : Int) (next' : (List Int)) (first : (List Int)) : Cn (r3_Classes_L10_F d class' n q next' first r7) := fun g h hg x => r3_Classes_L10_B_ch (fun _ => r7) r7 (fun _ _ _ _ => ChO.const _) (fun κ k => g κ k) (fun k => h k) (fun k => hg k) d class' n q next' first x
theorem r3_Classes_L10_eq (r7 : Int → Int → (List Int) → (List Int) → Option (List Int)) (d : (Int × Int × (List (List Int)) × (List Int) × Unit)) (class' : (List Int)) (n : Int) (q : Int) (next' : (List Int)) (first : (List Int)) (k : Int) : r3_Classes_L10 d class' n q next' first r7 k = r3_Classes_L10_B d class' n q next' first r7 (r3_Classes_L10 d class' n q next' first r7) k := LFix_eq (r3_Classes_L10_cn r7 d class' n q next' first) k
theorem r3_Classes_L10_ch (r7 : Nat → Int → Int → (List Int) → (List Int) → Option (List Int)) (r7' : Int → Int → (List Int) → (List Int) → Option (List Int)) (h_r7 : ∀ a0 a1 a2 a3, ChO (fun κ => r7 κ a0 a1 a2 a3) (r7' a0 a1 a2 a3)) (d : (Int × Int × (List (List Int)) × (List Int) × Unit)) (class' : (List Int)) (n : Int) (q : Int) (next' : (List Int)) (first : (List Int)) (k : Int) : ChO (fun κ => r3_Classes_L10 d class' n q next' first (r7 κ) k) (r3_Classes_L10 d class' n q next' first r7' k) := by
  unfold r3_Classes_L10
  exact LFix_ch (fun κ => (r3_Classes_L10_cn (r7 κ) d class' n q next' first).mono) (r3_Classes_L10_cn r7' d class' n q next' first).mono (fun g h hg x => r3_Classes_L10_B_ch r7 r7' h_r7 (fun κ k => g κ k) (fun k => h k) (fun k => hg k) d class' n q next' first x) _
theorem r3_Classes_L7_B_ch (r3 : Nat → Int → (List Int) → Option (List Int)) (r3' : Int → (List Int) → Option (List Int)) (h_r3 : ∀ a0 a1, ChO (fun κ => r3 κ a0 a1) (r3' a0 a1)) (r7 : Nat → Int → Int → (List Int) → (List Int) → Option (List Int)) (r7' : Int → Int → (List Int) → (List Int) → Option (List Int)) (h_r7 : ∀ a0 a1 a2 a3, ChO (fun κ => r7 κ a0 a1 a2 a3) (r7' a0 a1 a2 a3)) (d : (Int × Int × (List (List Int)) × (List Int) × Unit)) (count : Int) (class' : (List Int)) (n : Int) (q : Int) (next' : (List Int)) (first : (List Int)) : ChO (fun κ => r3_Classes_L7_B d count class' (r3 κ) (r7 κ) n q next' first) (r3_Classes_L7_B d count class' r3' r7' n q next' first) := by
  unfold r3_Classes_L7_B
  repeat' with_reducible first | exact ChO.const _ | exact h_r3 _ _ | exact h_r7 _ _ _ _ | (apply r3_Classes_J21_ch <;> assumption) | (apply r3_Classes_J18_ch <;> assumption) | (apply r3_Classes_J15_ch <;> assumption) | (apply r3_Classes_L14_ch <;> assumption) | (apply r3_Classes_L10_ch <;> assumption) | apply ChO.ite | apply ChO.G | apply ChO.both | (apply ChO.bind; intro _)
theorem r3_Classes_L7_cn (r3 : Int → (List Int) → Option (List Int)) (d : (Int × Int × (List (List Int)) × (List Int) × Unit)) (count : Int) (class' : (List Int)) : Cn (r3_Classes_L7_F d count class' r3) := fun g h hg x => r3_Classes_L7_B_ch (fun _ => r3) r3 (fun _ _ => ChO.const _) (fun κ n q next' first => g κ (n, q, next', first)) (fun n q next' first => h (n, q, next', first)) (fun n q next' first => hg (n, q, next', first)) d count class' x.1 x.2.1 x.2.2.1 x.2.2.2
theorem r3_Classes_L7_eq (r3 : Int → (List Int) → Option (List Int)) (d : (Int × Int × (List (List Int)) × (List Int) × Unit)) (count : Int) (class' : (List Int)) (n : Int) (q : Int) (next' : (List Int)) (first : (List Int)) : r3_Classes_L7 d count class' r3 n q next' first = r3_Classes_L7_B d count class' r3 (r3_Classes_L7 d count class' r3) n q next' first := LFix_eq (r3_Classes_L7_cn r3 d count class') (n, q, next', first)
theorem r3_Classes_L7_ch (r3 : Nat → Int → (List Int) → Option (List Int)) (r3' : Int → (List Int) → Option (List Int)) (h_r3 : ∀ a0 a1, ChO (fun κ => r3 κ a0 a1) (r3' a0 a1)) (d : (Int × Int × (List (List Int)) × (List Int) × Unit)) (count : Int) (class' : (List Int)) (n : Int) (q : Int) (next' : (List Int)) (first : (List Int)) : ChO (fun κ => r3_Classes_L7 d count class' (r3 κ) n q next' first) (r3_Classes_L7 d count class' r3' n q next' first) := by
  unfold r3_Classes_L7
  exact LFix_ch (fun κ => (r3_Classes_L7_cn (r3 κ) d count class').mono) (r3_Classes_L7_cn r3' d count class').mono (fun g h hg x => r3_Classes_L7_B_ch r3 r3' h_r3 (fun κ n q next' first => g κ (n, q, next', first)) (fun n q next' first => h (n, q, next', first)) (fun n q next' first => hg (n, q, next', first)) d count class' x.1 x.2.1 x.2.2.1 x.2.2.2) _
theorem r3_Classes_L3_B_ch (r3 : Nat → Int → (List Int) → Option (List Int)) (r3' : Int → (List Int) → Option (List Int)) (h_r3 : ∀ a0 a1, ChO (fun κ => r3 κ a0 a1) (r3' a0 a1)) (d : (Int × Int × (List (List Int)) × (List Int) × Unit)) (count : Int) (class' : (List Int)) : ChO (fun κ => r3_Classes_L3_B d (r3 κ) count class') (r3_Classes_L3_B d r3' count class') := by
  unfold r3_Classes_L3_B
  repeat' with_reducible first | exact ChO.const _ | exact h_r3 _ _ | (apply r3_Classes_J21_ch <;> assumption) | (apply r3_Classes_J18_ch <;> assumption) | (apply r3_Classes_J15_ch <;> assumption) | (apply r3_Classes_L14_ch <;> assumption) | (apply r3_Classes_L10_ch <;> assumption) | (apply r3_Classes_L7_ch <;> assumption) | apply ChO.ite | apply ChO.G | apply ChO.both | (apply ChO.bind; intro _)
theorem r3_Classes_L3_cn  (d : (Int × Int × (List (List Int)) × (List Int) × Unit)) : Cn (r3_Classes_L3_F d) := fun g h hg x => r3_Classes_L3_B_ch  (fun κ count class' => g κ (count, class')) (fun count class' => h (count, class')) (fun count class' => hg (count, class')) d x.1 x.2
theorem r3_Classes_L3_eq  (d : (Int × Int × (List (List Int)) × (List Int) × Unit)) (count : Int) (class' : (List Int)) : r3_Classes_L3 d count class' = r3_Classes_L3_B d (r3_Classes_L3 d) count class' := LFix_eq (r3_Classes_L3_cn d) (count, class')

noncomputable def r3_Least_J20 (d : (Int × Int × (List (List Int)) × (List Int) × Unit)) (y' : (List Int)) (i_1 : Int) (a : Int) (row_1 : (List Int)) (next' : (List Int)) (r15 : (Int → (List Int) → (List Int) → (List Int) → Option (Int × Int × (List (List Int)) × (List Int) × Unit))) (number_3 : (List Int)) (row_2 : (List Int)) : Option (Int × Int × (List (List Int)) × (List Int) × Unit) :=
  G (0 ≤ ix (ix d.2.2.1 (ix row_1 i_1)) a ∧ ix (ix d.2.2.1 (ix row_1 i_1)) a < (y'.length : Int)) (
  G ((ix (ix d.2.2.1 (ix row_1 i_1)) a).toNat < y'.length) (
  G (0 ≤ ix y' (ix (ix d.2.2.1 (ix row_1 i_1)) a) ∧ ix y' (ix (ix d.2.2.1 (ix row_1 i_1)) a) < (number_3.length : Int)) (
  G ((ix y' (ix (ix d.2.2.1 (ix row_1 i_1)) a)).toNat < number_3.length) (
  G (0 ≤ a ∧ a < (next'.length : Int)) (
  G ((a).toNat < next'.length) (
  G (fits (a + (1 : Int))) (
  r15 (a + (1 : Int)) number_3 row_2 (next'.set (a).toNat (ix number_3 (ix y' (ix (ix d.2.2.1 (ix row_1 i_1)) a)))))))))))
noncomputable def r3_Least_L15_B (d : (Int × Int × (List (List Int)) × (List Int) × Unit)) (y' : (List Int)) (i_1 : Int) (out : Int) (out_1 : Int) (out_2 : (List (List Int))) (out_3 : (List Int)) (r11 : (Int → (List Int) → (List Int) → Int → Int → (List (List Int)) → (List Int) → Option (Int × Int × (List (List Int)) × (List Int) × Unit))) (r15 : Int → (List Int) → (List Int) → (List Int) → Option (Int × Int × (List (List Int)) × (List Int) × Unit)) (a : Int) (number_2 : (List Int)) (row_1 : (List Int)) (next' : (List Int)) : Option (Int × Int × (List (List Int)) × (List Int) × Unit) :=
  if (decide (a < d.1)) = true then
  G (0 ≤ i_1 ∧ i_1 < (row_1.length : Int)) (
  G ((i_1).toNat < row_1.length) (
  G (0 ≤ ix row_1 i_1 ∧ ix row_1 i_1 < (d.2.2.1.length : Int)) (
  G (0 ≤ a ∧ a < ((ix d.2.2.1 (ix row_1 i_1)).length : Int)) (
  G (0 ≤ ix (ix d.2.2.1 (ix row_1 i_1)) a ∧ ix (ix d.2.2.1 (ix row_1 i_1)) a < (y'.length : Int)) (
  G ((ix (ix d.2.2.1 (ix row_1 i_1)) a).toNat < y'.length) (
  G (0 ≤ ix y' (ix (ix d.2.2.1 (ix row_1 i_1)) a) ∧ ix y' (ix (ix d.2.2.1 (ix row_1 i_1)) a) < (number_2.length : Int)) (
  G ((ix y' (ix (ix d.2.2.1 (ix row_1 i_1)) a)).toNat < number_2.length) (
  if (decide ((ix number_2 (ix y' (ix (ix d.2.2.1 (ix row_1 i_1)) a))) < (0 : Int))) = true then
  G (0 ≤ ix (ix d.2.2.1 (ix row_1 i_1)) a ∧ ix (ix d.2.2.1 (ix row_1 i_1)) a < (y'.length : Int)) (
  G ((ix (ix d.2.2.1 (ix row_1 i_1)) a).toNat < y'.length) (
  G (0 ≤ ix y' (ix (ix d.2.2.1 (ix row_1 i_1)) a) ∧ ix y' (ix (ix d.2.2.1 (ix row_1 i_1)) a) < (number_2.length : Int)) (
  G ((ix y' (ix (ix d.2.2.1 (ix row_1 i_1)) a)).toNat < number_2.length) (
  G (room row_1 ([ix (ix d.2.2.1 (ix row_1 i_1)) a]) 8) (
  r3_Least_J20 d y' i_1 a row_1 next' r15 (number_2.set (ix y' (ix (ix d.2.2.1 (ix row_1 i_1)) a)).toNat (row_1.length : Int)) (row_1 ++ ([ix (ix d.2.2.1 (ix row_1 i_1)) a]))))))) else
  r3_Least_J20 d y' i_1 a row_1 next' r15 number_2 row_1)))))))) else
  G (room out_2 ([next']) 24) (
  G (0 ≤ i_1 ∧ i_1 < (row_1.length : Int)) (
  G ((i_1).toNat < row_1.length) (
  G (0 ≤ ix row_1 i_1 ∧ ix row_1 i_1 < (d.2.2.2.1.length : Int)) (
  G (room out_3 ([ix d.2.2.2.1 (ix row_1 i_1)]) 8) (
  G (fits (i_1 + (1 : Int))) (
  r11 (i_1 + (1 : Int)) number_2 row_1 out out_1 (out_2 ++ ([next'])) (out_3 ++ ([ix d.2.2.2.1 (ix row_1 i_1)]))))))))
noncomputable def r3_Least_L15_F (d : (Int × Int × (List (List Int)) × (List Int) × Unit)) (y' : (List Int)) (i_1 : Int) (out : Int) (out_1 : Int) (out_2 : (List (List Int))) (out_3 : (List Int)) (r11 : (Int → (List Int) → (List Int) → Int → Int → (List (List Int)) → (List Int) → Option (Int × Int × (List (List Int)) × (List Int) × Unit))) : (Int × (List Int) × (List Int) × (List Int) → Option (Int × Int × (List (List Int)) × (List Int) × Unit)) → Int × (List Int) × (List Int) × (List Int) → Option (Int × Int × (List (List Int)) × (List Int) × Unit) :=
  fun rec x => r3_Least_L15_B d y' i_1 out out_1 out_2 out_3 r11 (fun a number_2 row_1 next' => rec (a, number_2, row_1, next')) x.1 x.2.1 x.2.2.1 x.2.2.2
noncomputable def r3_Least_L15 (d : (Int × Int × (List (List Int)) × (List Int) × Unit)) (y' : (List Int)) (i_1 : Int) (out : Int) (out_1 : Int) (out_2 : (List (List Int))) (out_3 : (List Int)) (r11 : (Int → (List Int) → (List Int) → Int → Int → (List (List Int)) → (List Int) → Option (Int × Int × (List (List Int)) × (List Int) × Unit))) (a : Int) (number_2 : (List Int)) (row_1 : (List Int)) (next' : (List Int)) : Option (Int × Int × (List (List Int)) × (List Int) × Unit) := LFix (r3_Least_L15_F d y' i_1 out out_1 out_2 out_3 r11 ) (a, number_2, row_1, next')
noncomputable def r3_Least_L11_B (d : (Int × Int × (List (List Int)) × (List Int) × Unit)) (y' : (List Int)) (r11 : Int → (List Int) → (List Int) → Int → Int → (List (List Int)) → (List Int) → Option (Int × Int × (List (List Int)) × (List Int) × Unit)) (i_1 : Int) (number_1 : (List Int)) (row : (List Int)) (out : Int) (out_1 : Int) (out_2 : (List (List Int))) (out_3 : (List Int)) : Option (Int × Int × (List (List Int)) × (List Int) × Unit) :=
  if (decide (i_1 < (row.length : Int))) = true then
  G (mkOK d.1 d.1 8) (
  r3_Least_L15 d y' i_1 out out_1 out_2 out_3 r11 (0 : Int) number_1 row (List.replicate (d.1).toNat (0 : Int))) else
  some (out, (out_1, (out_2, (out_3, ()))))
noncomputable def r3_Least_L11_F (d : (Int × Int × (List (List Int)) × (List Int) × Unit)) (y' : (List Int)) : (Int × (List Int) × (List Int) × Int × Int × (List (List Int)) × (List Int) → Option (Int × Int × (List (List Int)) × (List Int) × Unit)) → Int × (List Int) × (List Int) × Int × Int × (List (List Int)) × (List Int) → Option (Int × Int × (List (List Int)) × (List Int) × Unit) :=
  fun rec x => r3_Least_L11_B d y' (fun i_1 number_1 row out out_1 out_2 out_3 => rec (i_1, number_1, row, out, out_1, out_2, out_3)) x.1 x.2.1 x.2.2.1 x.2.2.2.1 x.2.2.2.2.1 x.2.2.2.2.2.1 x.2.2.2.2.2.2
noncomputable def r3_Least_L11 (d : (Int × Int × (List (List Int)) × (List Int) × Unit)) (y' : (List Int)) (i_1 : Int) (number_1 : (List Int)) (row : (List Int)) (out : Int) (out_1 : Int) (out_2 : (List (List Int))) (out_3 : (List Int)) : Option (Int × Int × (List (List Int)) × (List Int) × Unit) := LFix (r3_Least_L11_F d y' ) (i_1, number_1, row, out, out_1, out_2, out_3)
noncomputable def r3_Least_L4_B (d : (Int × Int × (List (List Int)) × (List Int) × Unit)) (y' : (List Int)) (r4 : Int → (List Int) → Option (Int × Int × (List (List Int)) × (List Int) × Unit)) (i : Int) (number : (List Int)) : Option (Int × Int × (List (List Int)) × (List Int) × Unit) :=
  if (decide (i < (number.length : Int))) = true then
  G (0 ≤ i ∧ i < (number.length : Int)) (
  G ((i).toNat < number.length) (
  G (fits (i + (1 : Int))) (
  r4 (i + (1 : Int)) (number.set (i).toNat (-1 : Int))))) else
  G (0 ≤ d.2.1 ∧ d.2.1 < (y'.length : Int)) (
  G ((d.2.1).toNat < y'.length) (
  G (0 ≤ ix y' d.2.1 ∧ ix y' d.2.1 < (number.length : Int)) (
  G ((ix y' d.2.1).toNat < number.length) (
  r3_Least_L11 d y' (0 : Int) (number.set (ix y' d.2.1).toNat (0 : Int)) ([d.2.1]) d.1 (0 : Int) ([] : List (List Int)) ([] : List Int)))))
noncomputable def r3_Least_L4_F (d : (Int × Int × (List (List Int)) × (List Int) × Unit)) (y' : (List Int)) : (Int × (List Int) → Option (Int × Int × (List (List Int)) × (List Int) × Unit)) → Int × (List Int) → Option (Int × Int × (List (List Int)) × (List Int) × Unit) :=
  fun rec x => r3_Least_L4_B d y' (fun i number => rec (i, number)) x.1 x.2
noncomputable def r3_Least_L4 (d : (Int × Int × (List (List Int)) × (List Int) × Unit)) (y' : (List Int)) (i : Int) (number : (List Int)) : Option (Int × Int × (List (List Int)) × (List Int) × Unit) := LFix (r3_Least_L4_F d y' ) (i, number)
noncomputable def r3_Least (d : (Int × Int × (List (List Int)) × (List Int) × Unit)) : Option (Int × Int × (List (List Int)) × (List Int) × Unit) :=
  (r3_Classes (d.1, (d.2.1, (d.2.2.1, (d.2.2.2.1, ()))))).bind (fun y' =>
  G (mkOK (y'.length : Int) (y'.length : Int) 8) (
  r3_Least_L4 d y' (0 : Int) (List.replicate ((y'.length : Int)).toNat (0 : Int))))
theorem r3_Least_J20_ch (r15 : Nat → Int → (List Int) → (List Int) → (List Int) → Option (Int × Int × (List (List Int)) × (List Int) × Unit)) (r15' : Int → (List Int) → (List Int) → (List Int) → Option (Int × Int × (List (List Int)) × (List Int) × Unit)) (h_r15 : ∀ a0 a1 a2 a3, ChO (fun κ => r15 κ a0 a1 a2 a3) (r15' a0 a1 a2 a3)) (d : (Int × Int × (List (List Int)) × (List Int) × Unit)) (y' : (List Int)) (i_1 : Int) (a : Int) (row_1 : (List Int)) (next' : (List Int)) (number_3 : (List Int)) (row_2 : (List Int)) : ChO (fun κ => r3_Least_J20 d y' i_1 a row_1 next' (r15 κ) number_3 row_2) (r3_Least_J20 d y' i_1 a row_1 next' r15' number_3 row_2) := by
  unfold r3_Least_J20
  repeat' with_reducible first | exact ChO.const _ | exact h_r15 _ _ _ _ | apply ChO.ite | apply ChO.G | apply ChO.both | (apply ChO.bind; intro _)
theorem r3_Least_L15_B_ch (r11 : Nat → Int → (List Int) → (List Int) → Int → Int → (List (List Int)) → (List Int) → Option (Int × Int × (List (List Int)) × (List Int) × Unit)) (r11' : Int → (List Int) → (List Int) → Int → Int → (List (List Int)) → (List Int) → Option (Int × Int × (List (List Int)) × (List Int) × Unit)) (h_r11 : ∀ a0 a1 a2 a3 a4 a5 a6, ChO (fun κ => r11 κ a0 a1 a2 a3 a4 a5 a6) (r11' a0 a1 a2 a3 a4 a5 a6)) (r15 : Nat → Int → (List Int) → (List Int) → (List Int) → Option (Int × Int × (List (List Int)) × (List Int) × Unit)) (r15' : Int → (List Int) → (List Int) → (List Int) → Option (Int × Int × (List (List Int)) × (List Int) × Unit)) (h_r15 : ∀ a0 a1 a2 a3, ChO (fun κ => r15 κ a0 a1 a2 a3) (r15' a0 a1 a2 a3)) (d : (Int × Int × (List (List Int)) × (List Int) × Unit)) (y' : (List Int)) (i_1 : Int) (out : Int) (out_1 : Int) (out_2 : (List (List Int))) (out_3 : (List Int)) (a : Int) (number_2 : (List Int)) (row_1 : (List Int)) (next' : (List Int)) : ChO (fun κ => r3_Least_L15_B d y' i_1 out out_1 out_2 out_3 (r11 κ) (r15 κ) a number_2 row_1 next') (r3_Least_L15_B d y' i_1 out out_1 out_2 out_3 r11' r15' a number_2 row_1 next') := by
  unfold r3_Least_L15_B
  repeat' with_reducible first | exact ChO.const _ | exact h_r11 _ _ _ _ _ _ _ | exact h_r15 _ _ _ _ | (apply r3_Least_J20_ch <;> assumption) | apply ChO.ite | apply ChO.G | apply ChO.both | (apply ChO.bind; intro _)
theorem r3_Least_L15_cn (r11 : Int → (List Int) → (List Int) → Int → Int → (List (List Int)) → (List Int) → Option (Int × Int × (List (List Int)) × (List Int) × Unit)) (d : (Int × Int × (List (List Int)) × (List Int) × Unit)) (y' : (List Int)) (i_1 : Int) (out : Int) (out_1 : Int) (out_2 : (List (List Int))) (out_3 : (List Int)) : Cn (r3_Least_L15_F d y' i_1 out out_1 out_2 out_3 r11) := fun g h hg x => r3_Least_L15_B_ch (fun _ => r11) r11 (fun _ _ _ _ _ _ _ => ChO.const _) (fun κ a number_2 row_1 next' => g κ (a, number_2, row_1, next')) (fun a number_2 row_1 next' => h (a, number_2, row_1, next')) (fun a number_2 row_1 next' => hg (a, number_2, row_1, next')) d y' i_1 out out_1 out_2 out_3 x.1 x.2.1 x.2.2.1 x.2.2.2
theorem r3_Least_L15_eq (r11 : Int → (List Int) → (List Int) → Int → Int → (List (List Int)) → (List Int) → Option (Int × Int × (List (List Int)) × (List Int) × Unit)) (d : (Int × Int × (List (List Int)) × (List Int) × Unit)) (y' : (List Int)) (i_1 : Int) (out : Int) (out_1 : Int) (out_2 : (List (List Int))) (out_3 : (List Int)) (a : Int) (number_2 : (List Int)) (row_1 : (List Int)) (next' : (List Int)) : r3_Least_L15 d y' i_1 out out_1 out_2 out_3 r11 a number_2 row_1 next' = r3_Least_L15_B d y' i_1 out out_1 out_2 out_3 r11 (r3_Least_L15 d y' i_1 out out_1 out_2 out_3 r11) a number_2 row_1 next' := LFix_eq (r3_Least_L15_cn r11 d y' i_1 out out_1 out_2 out_3) (a, number_2, row_1, next')
theorem r3_Least_L15_ch (r11 : Nat → Int → (List Int) → (List Int) → Int → Int → (List (List Int)) → (List Int) → Option (Int × Int × (List (List Int)) × (List Int) × Unit)) (r11' : Int → (List Int) → (List Int) → Int → Int → (List (List Int)) → (List Int) → Option (Int × Int × (List (List Int)) × (List Int) × Unit)) (h_r11 : ∀ a0 a1 a2 a3 a4 a5 a6, ChO (fun κ => r11 κ a0 a1 a2 a3 a4 a5 a6) (r11' a0 a1 a2 a3 a4 a5 a6)) (d : (Int × Int × (List (List Int)) × (List Int) × Unit)) (y' : (List Int)) (i_1 : Int) (out : Int) (out_1 : Int) (out_2 : (List (List Int))) (out_3 : (List Int)) (a : Int) (number_2 : (List Int)) (row_1 : (List Int)) (next' : (List Int)) : ChO (fun κ => r3_Least_L15 d y' i_1 out out_1 out_2 out_3 (r11 κ) a number_2 row_1 next') (r3_Least_L15 d y' i_1 out out_1 out_2 out_3 r11' a number_2 row_1 next') := by
  unfold r3_Least_L15
  exact LFix_ch (fun κ => (r3_Least_L15_cn (r11 κ) d y' i_1 out out_1 out_2 out_3).mono) (r3_Least_L15_cn r11' d y' i_1 out out_1 out_2 out_3).mono (fun g h hg x => r3_Least_L15_B_ch r11 r11' h_r11 (fun κ a number_2 row_1 next' => g κ (a, number_2, row_1, next')) (fun a number_2 row_1 next' => h (a, number_2, row_1, next')) (fun a number_2 row_1 next' => hg (a, number_2, row_1, next')) d y' i_1 out out_1 out_2 out_3 x.1 x.2.1 x.2.2.1 x.2.2.2) _
theorem r3_Least_L11_B_ch (r11 : Nat → Int → (List Int) → (List Int) → Int → Int → (List (List Int)) → (List Int) → Option (Int × Int × (List (List Int)) × (List Int) × Unit)) (r11' : Int → (List Int) → (List Int) → Int → Int → (List (List Int)) → (List Int) → Option (Int × Int × (List (List Int)) × (List Int) × Unit)) (h_r11 : ∀ a0 a1 a2 a3 a4 a5 a6, ChO (fun κ => r11 κ a0 a1 a2 a3 a4 a5 a6) (r11' a0 a1 a2 a3 a4 a5 a6)) (d : (Int × Int × (List (List Int)) × (List Int) × Unit)) (y' : (List Int)) (i_1 : Int) (number_1 : (List Int)) (row : (List Int)) (out : Int) (out_1 : Int) (out_2 : (List (List Int))) (out_3 : (List Int)) : ChO (fun κ => r3_Least_L11_B d y' (r11 κ) i_1 number_1 row out out_1 out_2 out_3) (r3_Least_L11_B d y' r11' i_1 number_1 row out out_1 out_2 out_3) := by
  unfold r3_Least_L11_B
  repeat' with_reducible first | exact ChO.const _ | exact h_r11 _ _ _ _ _ _ _ | (apply r3_Least_J20_ch <;> assumption) | (apply r3_Least_L15_ch <;> assumption) | apply ChO.ite | apply ChO.G | apply ChO.both | (apply ChO.bind; intro _)
theorem r3_Least_L11_cn  (d : (Int × Int × (List (List Int)) × (List Int) × Unit)) (y' : (List Int)) : Cn (r3_Least_L11_F d y') := fun g h hg x => r3_Least_L11_B_ch  (fun κ i_1 number_1 row out out_1 out_2 out_3 => g κ (i_1, number_1, row, out, out_1, out_2, out_3)) (fun i_1 number_1 row out out_1 out_2 out_3 => h (i_1, number_1, row, out, out_1, out_2, out_3)) (fun i_1 number_1 row out out_1 out_2 out_3 => hg (i_1, number_1, row, out, out_1, out_2, out_3)) d y' x.1 x.2.1 x.2.2.1 x.2.2.2.1 x.2.2.2.2.1 x.2.2.2.2.2.1 x.2.2.2.2.2.2
theorem r3_Least_L11_eq  (d : (Int × Int × (List (List Int)) × (List Int) × Unit)) (y' : (List Int)) (i_1 : Int) (number_1 : (List Int)) (row : (List Int)) (out : Int) (out_1 : Int) (out_2 : (List (List Int))) (out_3 : (List Int)) : r3_Least_L11 d y' i_1 number_1 row out out_1 out_2 out_3 = r3_Least_L11_B d y' (r3_Least_L11 d y') i_1 number_1 row out out_1 out_2 out_3 := LFix_eq (r3_Least_L11_cn d y') (i_1, number_1, row, out, out_1, out_2, out_3)
theorem r3_Least_L4_B_ch (r4 : Nat → Int → (List Int) → Option (Int × Int × (List (List Int)) × (List Int) × Unit)) (r4' : Int → (List Int) → Option (Int × Int × (List (List Int)) × (List Int) × Unit)) (h_r4 : ∀ a0 a1, ChO (fun κ => r4 κ a0 a1) (r4' a0 a1)) (d : (Int × Int × (List (List Int)) × (List Int) × Unit)) (y' : (List Int)) (i : Int) (number : (List Int)) : ChO (fun κ => r3_Least_L4_B d y' (r4 κ) i number) (r3_Least_L4_B d y' r4' i number) := by
  unfold r3_Least_L4_B
  repeat' with_reducible first | exact ChO.const _ | exact h_r4 _ _ | (apply r3_Least_J20_ch <;> assumption) | (apply r3_Least_L15_ch <;> assumption) | apply ChO.ite | apply ChO.G | apply ChO.both | (apply ChO.bind; intro _)
theorem r3_Least_L4_cn  (d : (Int × Int × (List (List Int)) × (List Int) × Unit)) (y' : (List Int)) : Cn (r3_Least_L4_F d y') := fun g h hg x => r3_Least_L4_B_ch  (fun κ i number => g κ (i, number)) (fun i number => h (i, number)) (fun i number => hg (i, number)) d y' x.1 x.2
theorem r3_Least_L4_eq  (d : (Int × Int × (List (List Int)) × (List Int) × Unit)) (y' : (List Int)) (i : Int) (number : (List Int)) : r3_Least_L4 d y' i number = r3_Least_L4_B d y' (r3_Least_L4 d y') i number := LFix_eq (r3_Least_L4_cn d y') (i, number)

noncomputable def r3_Mixed_L11_B (a : (Int × Int × (List (List Int)) × (List Int) × Unit)) (b : (Int × Int × (List (List Int)) × (List Int) × Unit)) (table : Int) (p : Int) (q : Int) (out_4 : Int) (out_5 : Int) (l : (List (List Int))) (l_1 : (List Int)) (r7 : (Int → Int → Int → (List (List Int)) → (List Int) → Option (Int × Int × (List (List Int)) × (List Int) × Unit))) (r11 : Int → (List Int) → Option (Int × Int × (List (List Int)) × (List Int) × Unit)) (k : Int) (row : (List Int)) : Option (Int × Int × (List (List Int)) × (List Int) × Unit) :=
  if (decide (k < a.1)) = true then
  G (0 ≤ p ∧ p < (a.2.2.1.length : Int)) (
  G (0 ≤ k ∧ k < ((ix a.2.2.1 p).length : Int)) (
  G (fits ((ix (ix a.2.2.1 p) k) * (b.2.2.1.length : Int))) (
  G (0 ≤ q ∧ q < (b.2.2.1.length : Int)) (
  G (0 ≤ k ∧ k < ((ix b.2.2.1 q).length : Int)) (
  G (fits (((ix (ix a.2.2.1 p) k) * (b.2.2.1.length : Int)) + (ix (ix b.2.2.1 q) k))) (
  G (room row ([((ix (ix a.2.2.1 p) k) * (b.2.2.1.length : Int)) + (ix (ix b.2.2.1 q) k)]) 8) (
  G (fits (k + (1 : Int))) (
  r11 (k + (1 : Int)) (row ++ ([((ix (ix a.2.2.1 p) k) * (b.2.2.1.length : Int)) + (ix (ix b.2.2.1 q) k)])))))))))) else
  G (room l ([row]) 24) (
  G (0 ≤ p ∧ p < (a.2.2.2.1.length : Int)) (
  G (fits ((2 : Int) * (ix a.2.2.2.1 p))) (
  G (0 ≤ q ∧ q < (b.2.2.2.1.length : Int)) (
  G (fits (((2 : Int) * (ix a.2.2.2.1 p)) + (ix b.2.2.2.1 q))) (
  G (0 ≤ ((2 : Int) * (ix a.2.2.2.1 p)) + (ix b.2.2.2.1 q)) (
  G (room l_1 ([iand .i64 (ishr .i64 table (((2 : Int) * (ix a.2.2.2.1 p)) + (ix b.2.2.2.1 q))) (1 : Int)]) 8) (
  G (fits (q + (1 : Int))) (
  r7 (q + (1 : Int)) out_4 out_5 (l ++ ([row])) (l_1 ++ ([iand .i64 (ishr .i64 table (((2 : Int) * (ix a.2.2.2.1 p)) + (ix b.2.2.2.1 q))) (1 : Int)]))))))))))
noncomputable def r3_Mixed_L11_F (a : (Int × Int × (List (List Int)) × (List Int) × Unit)) (b : (Int × Int × (List (List Int)) × (List Int) × Unit)) (table : Int) (p : Int) (q : Int) (out_4 : Int) (out_5 : Int) (l : (List (List Int))) (l_1 : (List Int)) (r7 : (Int → Int → Int → (List (List Int)) → (List Int) → Option (Int × Int × (List (List Int)) × (List Int) × Unit))) : (Int × (List Int) → Option (Int × Int × (List (List Int)) × (List Int) × Unit)) → Int × (List Int) → Option (Int × Int × (List (List Int)) × (List Int) × Unit) :=
  fun rec x => r3_Mixed_L11_B a b table p q out_4 out_5 l l_1 r7 (fun k row => rec (k, row)) x.1 x.2
noncomputable def r3_Mixed_L11 (a : (Int × Int × (List (List Int)) × (List Int) × Unit)) (b : (Int × Int × (List (List Int)) × (List Int) × Unit)) (table : Int) (p : Int) (q : Int) (out_4 : Int) (out_5 : Int) (l : (List (List Int))) (l_1 : (List Int)) (r7 : (Int → Int → Int → (List (List Int)) → (List Int) → Option (Int × Int × (List (List Int)) × (List Int) × Unit))) (k : Int) (row : (List Int)) : Option (Int × Int × (List (List Int)) × (List Int) × Unit) := LFix (r3_Mixed_L11_F a b table p q out_4 out_5 l l_1 r7 ) (k, row)
noncomputable def r3_Mixed_L7_B (a : (Int × Int × (List (List Int)) × (List Int) × Unit)) (b : (Int × Int × (List (List Int)) × (List Int) × Unit)) (table : Int) (p : Int) (r4 : (Int → Int → Int → (List (List Int)) → (List Int) → Option (Int × Int × (List (List Int)) × (List Int) × Unit))) (r7 : Int → Int → Int → (List (List Int)) → (List Int) → Option (Int × Int × (List (List Int)) × (List Int) × Unit)) (q : Int) (out_4 : Int) (out_5 : Int) (l : (List (List Int))) (l_1 : (List Int)) : Option (Int × Int × (List (List Int)) × (List Int) × Unit) :=
  if (decide (q < (b.2.2.1.length : Int))) = true then
  r3_Mixed_L11 a b table p q out_4 out_5 l l_1 r7 (0 : Int) ([]) else
  G (fits (p + (1 : Int))) (
  r4 (p + (1 : Int)) out_4 out_5 l l_1)
noncomputable def r3_Mixed_L7_F (a : (Int × Int × (List (List Int)) × (List Int) × Unit)) (b : (Int × Int × (List (List Int)) × (List Int) × Unit)) (table : Int) (p : Int) (r4 : (Int → Int → Int → (List (List Int)) → (List Int) → Option (Int × Int × (List (List Int)) × (List Int) × Unit))) : (Int × Int × Int × (List (List Int)) × (List Int) → Option (Int × Int × (List (List Int)) × (List Int) × Unit)) → Int × Int × Int × (List (List Int)) × (List Int) → Option (Int × Int × (List (List Int)) × (List Int) × Unit) :=
  fun rec x => r3_Mixed_L7_B a b table p r4 (fun q out_4 out_5 l l_1 => rec (q, out_4, out_5, l, l_1)) x.1 x.2.1 x.2.2.1 x.2.2.2.1 x.2.2.2.2
noncomputable def r3_Mixed_L7 (a : (Int × Int × (List (List Int)) × (List Int) × Unit)) (b : (Int × Int × (List (List Int)) × (List Int) × Unit)) (table : Int) (p : Int) (r4 : (Int → Int → Int → (List (List Int)) → (List Int) → Option (Int × Int × (List (List Int)) × (List Int) × Unit))) (q : Int) (out_4 : Int) (out_5 : Int) (l : (List (List Int))) (l_1 : (List Int)) : Option (Int × Int × (List (List Int)) × (List Int) × Unit) := LFix (r3_Mixed_L7_F a b table p r4 ) (q, out_4, out_5, l, l_1)
noncomputable def r3_Mixed_L4_B (a : (Int × Int × (List (List Int)) × (List Int) × Unit)) (b : (Int × Int × (List (List Int)) × (List Int) × Unit)) (table : Int) (r4 : Int → Int → Int → (List (List Int)) → (List Int) → Option (Int × Int × (List (List Int)) × (List Int) × Unit)) (p : Int) (out : Int) (out_1 : Int) (out_2 : (List (List Int))) (out_3 : (List Int)) : Option (Int × Int × (List (List Int)) × (List Int) × Unit) :=
  if (decide (p < (a.2.2.1.length : Int))) = true then
  r3_Mixed_L7 a b table p r4 (0 : Int) out out_1 out_2 out_3 else
  (r3_Least (out, (out_1, (out_2, (out_3, ()))))).bind (fun y' =>
  some (y'.1, (y'.2.1, (y'.2.2.1, (y'.2.2.2.1, ())))))
noncomputable def r3_Mixed_L4_F (a : (Int × Int × (List (List Int)) × (List Int) × Unit)) (b : (Int × Int × (List (List Int)) × (List Int) × Unit)) (table : Int) : (Int × Int × Int × (List (List Int)) × (List Int) → Option (Int × Int × (List (List Int)) × (List Int) × Unit)) → Int × Int × Int × (List (List Int)) × (List Int) → Option (Int × Int × (List (List Int)) × (List Int) × Unit) :=
  fun rec x => r3_Mixed_L4_B a b table (fun p out out_1 out_2 out_3 => rec (p, out, out_1, out_2, out_3)) x.1 x.2.1 x.2.2.1 x.2.2.2.1 x.2.2.2.2
noncomputable def r3_Mixed_L4 (a : (Int × Int × (List (List Int)) × (List Int) × Unit)) (b : (Int × Int × (List (List Int)) × (List Int) × Unit)) (table : Int) (p : Int) (out : Int) (out_1 : Int) (out_2 : (List (List Int))) (out_3 : (List Int)) : Option (Int × Int × (List (List Int)) × (List Int) × Unit) := LFix (r3_Mixed_L4_F a b table ) (p, out, out_1, out_2, out_3)
noncomputable def r3_Mixed (a : (Int × Int × (List (List Int)) × (List Int) × Unit)) (b : (Int × Int × (List (List Int)) × (List Int) × Unit)) (table : Int) : Option (Int × Int × (List (List Int)) × (List Int) × Unit) :=
  G (fits (a.2.1 * (b.2.2.1.length : Int))) (
  G (fits ((a.2.1 * (b.2.2.1.length : Int)) + b.2.1)) (
  r3_Mixed_L4 a b table (0 : Int) a.1 ((a.2.1 * (b.2.2.1.length : Int)) + b.2.1) ([] : List (List Int)) ([] : List Int)))
theorem r3_Mixed_L11_B_ch (r7 : Nat → Int → Int → Int → (List (List Int)) → (List Int) → Option (Int × Int × (List (List Int)) × (List Int) × Unit)) (r7' : Int → Int → Int → (List (List Int)) → (List Int) → Option (Int × Int × (List (List Int)) × (List Int) × Unit)) (h_r7 : ∀ a0 a1 a2 a3 a4, ChO (fun κ => r7 κ a0 a1 a2 a3 a4) (r7' a0 a1 a2 a3 a4)) (r11 : Nat → Int → (List Int) → Option (Int × Int × (List (List Int)) × (List Int) × Unit)) (r11' : Int → (List Int) → Option (Int × Int × (List (List Int)) × (List Int) × Unit)) (h_r11 : ∀ a0 a1, ChO (fun κ => r11 κ a0 a1) (r11' a0 a1)) (a : (Int × Int × (List (List Int)) × (List Int) × Unit)) (b : (Int × Int × (List (List Int)) × (List Int) × Unit)) (table : Int) (p : Int) (q : Int) (out_4 : Int) (out_5 : Int) (l : (List (List Int))) (l_1 : (List Int)) (k : Int) (row : (List Int)) : ChO (fun κ => r3_Mixed_L11_B a b table p q out_4 out_5 l l_1 (r7 κ) (r11 κ) k row) (r3_Mixed_L11_B a b table p q out_4 out_5 l l_1 r7' r11' k row) := by
  unfold r3_Mixed_L11_B
  repeat' with_reducible first | exact ChO.const _ | exact h_r7 _ _ _ _ _ | exact h_r11 _ _ | apply ChO.ite | apply ChO.G | apply ChO.both | (apply ChO.bind; intro _)
theorem r3_Mixed_L11_cn (r7 : Int → Int → Int → (List (List Int)) → (List Int) → Option (Int × Int × (List (List Int)) × (List Int) × Unit)) (a : (Int × Int × (List (List Int)) × (List Int) × Unit)) (b : (Int × Int × (List (List Int)) × (List Int) × Unit)) (table : Int) (p : Int) (q : Int) (out_4 : Int) (out_5 : Int) (l : (List (List Int))) (l_1 : (List Int)) : Cn (r3_Mixed_L11_F a b table p q out_4 out_5 l l_1 r7) := fun g h hg x => r3_Mixed_L11_B_ch (fun _ => r7) r7 (fun _ _ _ _ _ => ChO.const _) (fun κ k row => g κ (k, row)) (fun k row => h (k, row)) (fun k row => hg (k, row)) a b table p q out_4 out_5 l l_1 x.1 x.2
theorem r3_Mixed_L11_eq (r7 : Int → Int → Int → (List (List Int)) → (List Int) → Option (Int × Int × (List (List Int)) × (List Int) × Unit)) (a : (Int × Int × (List (List Int)) × (List Int) × Unit)) (b : (Int × Int × (List (List Int)) × (List Int) × Unit)) (table : Int) (p : Int) (q : Int) (out_4 : Int) (out_5 : Int) (l : (List (List Int))) (l_1 : (List Int)) (k : Int) (row : (List Int)) : r3_Mixed_L11 a b table p q out_4 out_5 l l_1 r7 k row = r3_Mixed_L11_B a b table p q out_4 out_5 l l_1 r7 (r3_Mixed_L11 a b table p q out_4 out_5 l l_1 r7) k row := LFix_eq (r3_Mixed_L11_cn r7 a b table p q out_4 out_5 l l_1) (k, row)
theorem r3_Mixed_L11_ch (r7 : Nat → Int → Int → Int → (List (List Int)) → (List Int) → Option (Int × Int × (List (List Int)) × (List Int) × Unit)) (r7' : Int → Int → Int → (List (List Int)) → (List Int) → Option (Int × Int × (List (List Int)) × (List Int) × Unit)) (h_r7 : ∀ a0 a1 a2 a3 a4, ChO (fun κ => r7 κ a0 a1 a2 a3 a4) (r7' a0 a1 a2 a3 a4)) (a : (Int × Int × (List (List Int)) × (List Int) × Unit)) (b : (Int × Int × (List (List Int)) × (List Int) × Unit)) (table : Int) (p : Int) (q : Int) (out_4 : Int) (out_5 : Int) (l : (List (List Int))) (l_1 : (List Int)) (k : Int) (row : (List Int)) : ChO (fun κ => r3_Mixed_L11 a b table p q out_4 out_5 l l_1 (r7 κ) k row) (r3_Mixed_L11 a b table p q out_4 out_5 l l_1 r7' k row) := by
  unfold r3_Mixed_L11
  exact LFix_ch (fun κ => (r3_Mixed_L11_cn (r7 κ) a b table p q out_4 out_5 l l_1).mono) (r3_Mixed_L11_cn r7' a b table p q out_4 out_5 l l_1).mono (fun g h hg x => r3_Mixed_L11_B_ch r7 r7' h_r7 (fun κ k row => g κ (k, row)) (fun k row => h (k, row)) (fun k row => hg (k, row)) a b table p q out_4 out_5 l l_1 x.1 x.2) _
theorem r3_Mixed_L7_B_ch (r4 : Nat → Int → Int → Int → (List (List Int)) → (List Int) → Option (Int × Int × (List (List Int)) × (List Int) × Unit)) (r4' : Int → Int → Int → (List (List Int)) → (List Int) → Option (Int × Int × (List (List Int)) × (List Int) × Unit)) (h_r4 : ∀ a0 a1 a2 a3 a4, ChO (fun κ => r4 κ a0 a1 a2 a3 a4) (r4' a0 a1 a2 a3 a4)) (r7 : Nat → Int → Int → Int → (List (List Int)) → (List Int) → Option (Int × Int × (List (List Int)) × (List Int) × Unit)) (r7' : Int → Int → Int → (List (List Int)) → (List Int) → Option (Int × Int × (List (List Int)) × (List Int) × Unit)) (h_r7 : ∀ a0 a1 a2 a3 a4, ChO (fun κ => r7 κ a0 a1 a2 a3 a4) (r7' a0 a1 a2 a3 a4)) (a : (Int × Int × (List (List Int)) × (List Int) × Unit)) (b : (Int × Int × (List (List Int)) × (List Int) × Unit)) (table : Int) (p : Int) (q : Int) (out_4 : Int) (out_5 : Int) (l : (List (List Int))) (l_1 : (List Int)) : ChO (fun κ => r3_Mixed_L7_B a b table p (r4 κ) (r7 κ) q out_4 out_5 l l_1) (r3_Mixed_L7_B a b table p r4' r7' q out_4 out_5 l l_1) := by
  unfold r3_Mixed_L7_B
  repeat' with_reducible first | exact ChO.const _ | exact h_r4 _ _ _ _ _ | exact h_r7 _ _ _ _ _ | (apply r3_Mixed_L11_ch <;> assumption) | apply ChO.ite | apply ChO.G | apply ChO.both | (apply ChO.bind; intro _)
theorem r3_Mixed_L7_cn (r4 : Int → Int → Int → (List (List Int)) → (List Int) → Option (Int × Int × (List (List Int)) × (List Int) × Unit)) (a : (Int × Int × (List (List Int)) × (List Int) × Unit)) (b : (Int × Int × (List (List Int)) × (List Int) × Unit)) (table : Int) (p : Int) : Cn (r3_Mixed_L7_F a b table p r4) := fun g h hg x => r3_Mixed_L7_B_ch (fun _ => r4) r4 (fun _ _ _ _ _ => ChO.const _) (fun κ q out_4 out_5 l l_1 => g κ (q, out_4, out_5, l, l_1)) (fun q out_4 out_5 l l_1 => h (q, out_4, out_5, l, l_1)) (fun q out_4 out_5 l l_1 => hg (q, out_4, out_5, l, l_1)) a b table p x.1 x.2.1 x.2.2.1 x.2.2.2.1 x.2.2.2.2
theorem r3_Mixed_L7_eq (r4 : Int → Int → Int → (List (List Int)) → (List Int) → Option (Int × Int × (List (List Int)) × (List Int) × Unit)) (a : (Int × Int × (List (List Int)) × (List Int) × Unit)) (b : (Int × Int × (List (List Int)) × (List Int) × Unit)) (table : Int) (p : Int) (q : Int) (out_4 : Int) (out_5 : Int) (l : (List (List Int))) (l_1 : (List Int)) : r3_Mixed_L7 a b table p r4 q out_4 out_5 l l_1 = r3_Mixed_L7_B a b table p r4 (r3_Mixed_L7 a b table p r4) q out_4 out_5 l l_1 := LFix_eq (r3_Mixed_L7_cn r4 a b table p) (q, out_4, out_5, l, l_1)
theorem r3_Mixed_L7_ch (r4 : Nat → Int → Int → Int → (List (List Int)) → (List Int) → Option (Int × Int × (List (List Int)) × (List Int) × Unit)) (r4' : Int → Int → Int → (List (List Int)) → (List Int) → Option (Int × Int × (List (List Int)) × (List Int) × Unit)) (h_r4 : ∀ a0 a1 a2 a3 a4, ChO (fun κ => r4 κ a0 a1 a2 a3 a4) (r4' a0 a1 a2 a3 a4)) (a : (Int × Int × (List (List Int)) × (List Int) × Unit)) (b : (Int × Int × (List (List Int)) × (List Int) × Unit)) (table : Int) (p : Int) (q : Int) (out_4 : Int) (out_5 : Int) (l : (List (List Int))) (l_1 : (List Int)) : ChO (fun κ => r3_Mixed_L7 a b table p (r4 κ) q out_4 out_5 l l_1) (r3_Mixed_L7 a b table p r4' q out_4 out_5 l l_1) := by
  unfold r3_Mixed_L7
  exact LFix_ch (fun κ => (r3_Mixed_L7_cn (r4 κ) a b table p).mono) (r3_Mixed_L7_cn r4' a b table p).mono (fun g h hg x => r3_Mixed_L7_B_ch r4 r4' h_r4 (fun κ q out_4 out_5 l l_1 => g κ (q, out_4, out_5, l, l_1)) (fun q out_4 out_5 l l_1 => h (q, out_4, out_5, l, l_1)) (fun q out_4 out_5 l l_1 => hg (q, out_4, out_5, l, l_1)) a b table p x.1 x.2.1 x.2.2.1 x.2.2.2.1 x.2.2.2.2) _
theorem r3_Mixed_L4_B_ch (r4 : Nat → Int → Int → Int → (List (List Int)) → (List Int) → Option (Int × Int × (List (List Int)) × (List Int) × Unit)) (r4' : Int → Int → Int → (List (List Int)) → (List Int) → Option (Int × Int × (List (List Int)) × (List Int) × Unit)) (h_r4 : ∀ a0 a1 a2 a3 a4, ChO (fun κ => r4 κ a0 a1 a2 a3 a4) (r4' a0 a1 a2 a3 a4)) (a : (Int × Int × (List (List Int)) × (List Int) × Unit)) (b : (Int × Int × (List (List Int)) × (List Int) × Unit)) (table : Int) (p : Int) (out : Int) (out_1 : Int) (out_2 : (List (List Int))) (out_3 : (List Int)) : ChO (fun κ => r3_Mixed_L4_B a b table (r4 κ) p out out_1 out_2 out_3) (r3_Mixed_L4_B a b table r4' p out out_1 out_2 out_3) := by
  unfold r3_Mixed_L4_B
  repeat' with_reducible first | exact ChO.const _ | exact h_r4 _ _ _ _ _ | (apply r3_Mixed_L11_ch <;> assumption) | (apply r3_Mixed_L7_ch <;> assumption) | apply ChO.ite | apply ChO.G | apply ChO.both | (apply ChO.bind; intro _)
theorem r3_Mixed_L4_cn  (a : (Int × Int × (List (List Int)) × (List Int) × Unit)) (b : (Int × Int × (List (List Int)) × (List Int) × Unit)) (table : Int) : Cn (r3_Mixed_L4_F a b table) := fun g h hg x => r3_Mixed_L4_B_ch  (fun κ p out out_1 out_2 out_3 => g κ (p, out, out_1, out_2, out_3)) (fun p out out_1 out_2 out_3 => h (p, out, out_1, out_2, out_3)) (fun p out out_1 out_2 out_3 => hg (p, out, out_1, out_2, out_3)) a b table x.1 x.2.1 x.2.2.1 x.2.2.2.1 x.2.2.2.2
theorem r3_Mixed_L4_eq  (a : (Int × Int × (List (List Int)) × (List Int) × Unit)) (b : (Int × Int × (List (List Int)) × (List Int) × Unit)) (table : Int) (p : Int) (out : Int) (out_1 : Int) (out_2 : (List (List Int))) (out_3 : (List Int)) : r3_Mixed_L4 a b table p out out_1 out_2 out_3 = r3_Mixed_L4_B a b table (r3_Mixed_L4 a b table) p out out_1 out_2 out_3 := LFix_eq (r3_Mixed_L4_cn a b table) (p, out, out_1, out_2, out_3)

noncomputable def r3_Same_L14_B (a : (Int × Int × (List (List Int)) × (List Int) × Unit)) (b : (Int × Int × (List (List Int)) × (List Int) × Unit)) (i_1 : Int) (r9 : (Int → Option (Bool))) (r14 : Int → Option (Bool)) (k : Int) : Option (Bool) :=
  G (0 ≤ i_1 ∧ i_1 < (a.2.2.1.length : Int)) (
  if (decide (k < ((ix a.2.2.1 i_1).length : Int))) = true then
  G (0 ≤ i_1 ∧ i_1 < (a.2.2.1.length : Int)) (
  G (0 ≤ k ∧ k < ((ix a.2.2.1 i_1).length : Int)) (
  G (0 ≤ i_1 ∧ i_1 < (b.2.2.1.length : Int)) (
  G (0 ≤ k ∧ k < ((ix b.2.2.1 i_1).length : Int)) (
  if (decide (¬ (ix (ix a.2.2.1 i_1) k) = (ix (ix b.2.2.1 i_1) k))) = true then
  some false else
  G (fits (k + (1 : Int))) (
  r14 (k + (1 : Int))))))) else
  G (fits (i_1 + (1 : Int))) (
  r9 (i_1 + (1 : Int))))
noncomputable def r3_Same_L14_F (a : (Int × Int × (List (List Int)) × (List Int) × Unit)) (b : (Int × Int × (List (List Int)) × (List Int) × Unit)) (i_1 : Int) (r9 : (Int → Option (Bool))) : (Int → Option (Bool)) → Int → Option (Bool) :=
  fun rec x => r3_Same_L14_B a b i_1 r9 (fun k => rec k) x
noncomputable def r3_Same_L14 (a : (Int × Int × (List (List Int)) × (List Int) × Unit)) (b : (Int × Int × (List (List Int)) × (List Int) × Unit)) (i_1 : Int) (r9 : (Int → Option (Bool))) (k : Int) : Option (Bool) := LFix (r3_Same_L14_F a b i_1 r9 ) k
noncomputable def r3_Same_L9_B (a : (Int × Int × (List (List Int)) × (List Int) × Unit)) (b : (Int × Int × (List (List Int)) × (List Int) × Unit)) (r9 : Int → Option (Bool)) (i_1 : Int) : Option (Bool) :=
  if (decide (i_1 < (a.2.2.1.length : Int))) = true then
  G (0 ≤ i_1 ∧ i_1 < (a.2.2.1.length : Int)) (
  G (0 ≤ i_1 ∧ i_1 < (b.2.2.1.length : Int)) (
  if (decide (¬ ((ix a.2.2.1 i_1).length : Int) = ((ix b.2.2.1 i_1).length : Int))) = true then
  some false else
  r3_Same_L14 a b i_1 r9 (0 : Int))) else
  some true
noncomputable def r3_Same_L9_F (a : (Int × Int × (List (List Int)) × (List Int) × Unit)) (b : (Int × Int × (List (List Int)) × (List Int) × Unit)) : (Int → Option (Bool)) → Int → Option (Bool) :=
  fun rec x => r3_Same_L9_B a b (fun i_1 => rec i_1) x
noncomputable def r3_Same_L9 (a : (Int × Int × (List (List Int)) × (List Int) × Unit)) (b : (Int × Int × (List (List Int)) × (List Int) × Unit)) (i_1 : Int) : Option (Bool) := LFix (r3_Same_L9_F a b ) i_1
noncomputable def r3_Same_L4_B (a : (Int × Int × (List (List Int)) × (List Int) × Unit)) (b : (Int × Int × (List (List Int)) × (List Int) × Unit)) (r4 : Int → Option (Bool)) (i : Int) : Option (Bool) :=
  if (decide (i < (a.2.2.2.1.length : Int))) = true then
  G (0 ≤ i ∧ i < (a.2.2.2.1.length : Int)) (
  G (0 ≤ i ∧ i < (b.2.2.2.1.length : Int)) (
  if (decide (¬ (ix a.2.2.2.1 i) = (ix b.2.2.2.1 i))) = true then
  some false else
  G (fits (i + (1 : Int))) (
  r4 (i + (1 : Int))))) else
  r3_Same_L9 a b (0 : Int)
noncomputable def r3_Same_L4_F (a : (Int × Int × (List (List Int)) × (List Int) × Unit)) (b : (Int × Int × (List (List Int)) × (List Int) × Unit)) : (Int → Option (Bool)) → Int → Option (Bool) :=
  fun rec x => r3_Same_L4_B a b (fun i => rec i) x
noncomputable def r3_Same_L4 (a : (Int × Int × (List (List Int)) × (List Int) × Unit)) (b : (Int × Int × (List (List Int)) × (List Int) × Unit)) (i : Int) : Option (Bool) := LFix (r3_Same_L4_F a b ) i
noncomputable def r3_Same (a : (Int × Int × (List (List Int)) × (List Int) × Unit)) (b : (Int × Int × (List (List Int)) × (List Int) × Unit)) : Option (Bool) :=
  if (decide (¬ a.1 = b.1)) = true then
  some false else
  if (decide (¬ a.2.1 = b.2.1)) = true then
  some false else
  if (decide (¬ (a.2.2.1.length : Int) = (b.2.2.1.length : Int))) = true then
  some false else
  if (decide (¬ (a.2.2.2.1.length : Int) = (b.2.2.2.1.length : Int))) = true then
  some false else
  r3_Same_L4 a b (0 : Int)
theorem r3_Same_L14_B_ch (r9 : Nat → Int → Option (Bool)) (r9' : Int → Option (Bool)) (h_r9 : ∀ a0, ChO (fun κ => r9 κ a0) (r9' a0)) (r14 : Nat → Int → Option (Bool)) (r14' : Int → Option (Bool)) (h_r14 : ∀ a0, ChO (fun κ => r14 κ a0) (r14' a0)) (a : (Int × Int × (List (List Int)) × (List Int) × Unit)) (b : (Int × Int × (List (List Int)) × (List Int) × Unit)) (i_1 : Int) (k : Int) : ChO (fun κ => r3_Same_L14_B a b i_1 (r9 κ) (r14 κ) k) (r3_Same_L14_B a b i_1 r9' r14' k) := by
  unfold r3_Same_L14_B
  repeat' with_reducible first | exact ChO.const _ | exact h_r9 _ | exact h_r14 _ | apply ChO.ite | apply ChO.G | apply ChO.both | (apply ChO.bind; intro _)
theorem r3_Same_L14_cn (r9 : Int → Option (Bool)) (a : (Int × Int × (List (List Int)) × (List Int) × Unit)) (b : (Int × Int × (List (List Int)) × (List Int) × Unit)) (i_1 : Int) : Cn (r3_Same_L14_F a b i_1 r9) := fun g h hg x => r3_Same_L14_B_ch (fun _ => r9) r9 (fun _ => ChO.const _) (fun κ k => g κ k) (fun k => h k) (fun k => hg k) a b i_1 x
theorem r3_Same_L14_eq (r9 : Int → Option (Bool)) (a : (Int × Int × (List (List Int)) × (List Int) × Unit)) (b : (Int × Int × (List (List Int)) × (List Int) × Unit)) (i_1 : Int) (k : Int) : r3_Same_L14 a b i_1 r9 k = r3_Same_L14_B a b i_1 r9 (r3_Same_L14 a b i_1 r9) k := LFix_eq (r3_Same_L14_cn r9 a b i_1) k
theorem r3_Same_L14_ch (r9 : Nat → Int → Option (Bool)) (r9' : Int → Option (Bool)) (h_r9 : ∀ a0, ChO (fun κ => r9 κ a0) (r9' a0)) (a : (Int × Int × (List (List Int)) × (List Int) × Unit)) (b : (Int × Int × (List (List Int)) × (List Int) × Unit)) (i_1 : Int) (k : Int) : ChO (fun κ => r3_Same_L14 a b i_1 (r9 κ) k) (r3_Same_L14 a b i_1 r9' k) := by
  unfold r3_Same_L14
  exact LFix_ch (fun κ => (r3_Same_L14_cn (r9 κ) a b i_1).mono) (r3_Same_L14_cn r9' a b i_1).mono (fun g h hg x => r3_Same_L14_B_ch r9 r9' h_r9 (fun κ k => g κ k) (fun k => h k) (fun k => hg k) a b i_1 x) _
theorem r3_Same_L9_B_ch (r9 : Nat → Int → Option (Bool)) (r9' : Int → Option (Bool)) (h_r9 : ∀ a0, ChO (fun κ => r9 κ a0) (r9' a0)) (a : (Int × Int × (List (List Int)) × (List Int) × Unit)) (b : (Int × Int × (List (List Int)) × (List Int) × Unit)) (i_1 : Int) : ChO (fun κ => r3_Same_L9_B a b (r9 κ) i_1) (r3_Same_L9_B a b r9' i_1) := by
  unfold r3_Same_L9_B
  repeat' with_reducible first | exact ChO.const _ | exact h_r9 _ | (apply r3_Same_L14_ch <;> assumption) | apply ChO.ite | apply ChO.G | apply ChO.both | (apply ChO.bind; intro _)
theorem r3_Same_L9_cn  (a : (Int × Int × (List (List Int)) × (List Int) × Unit)) (b : (Int × Int × (List (List Int)) × (List Int) × Unit)) : Cn (r3_Same_L9_F a b) := fun g h hg x => r3_Same_L9_B_ch  (fun κ i_1 => g κ i_1) (fun i_1 => h i_1) (fun i_1 => hg i_1) a b x
theorem r3_Same_L9_eq  (a : (Int × Int × (List (List Int)) × (List Int) × Unit)) (b : (Int × Int × (List (List Int)) × (List Int) × Unit)) (i_1 : Int) : r3_Same_L9 a b i_1 = r3_Same_L9_B a b (r3_Same_L9 a b) i_1 := LFix_eq (r3_Same_L9_cn a b) i_1
theorem r3_Same_L4_B_ch (r4 : Nat → Int → Option (Bool)) (r4' : Int → Option (Bool)) (h_r4 : ∀ a0, ChO (fun κ => r4 κ a0) (r4' a0)) (a : (Int × Int × (List (List Int)) × (List Int) × Unit)) (b : (Int × Int × (List (List Int)) × (List Int) × Unit)) (i : Int) : ChO (fun κ => r3_Same_L4_B a b (r4 κ) i) (r3_Same_L4_B a b r4' i) := by
  unfold r3_Same_L4_B
  repeat' with_reducible first | exact ChO.const _ | exact h_r4 _ | (apply r3_Same_L14_ch <;> assumption) | apply ChO.ite | apply ChO.G | apply ChO.both | (apply ChO.bind; intro _)
theorem r3_Same_L4_cn  (a : (Int × Int × (List (List Int)) × (List Int) × Unit)) (b : (Int × Int × (List (List Int)) × (List Int) × Unit)) : Cn (r3_Same_L4_F a b) := fun g h hg x => r3_Same_L4_B_ch  (fun κ i => g κ i) (fun i => h i) (fun i => hg i) a b x
theorem r3_Same_L4_eq  (a : (Int × Int × (List (List Int)) × (List Int) × Unit)) (b : (Int × Int × (List (List Int)) × (List Int) × Unit)) (i : Int) : r3_Same_L4 a b i = r3_Same_L4_B a b (r3_Same_L4 a b) i := LFix_eq (r3_Same_L4_cn a b) i

noncomputable def law_DetMixed_J7 (a : (Int × Int × (List (List Int)) × (List Int) × Unit)) (b : (Int × Int × (List (List Int)) × (List Int) × Unit)) (table : Int) (y' : (Int × Int × (List (List Int)) × (List Int) × Unit)) (y'_1 : Int) (y'_3 : (List Int)) (y'_4 : Bool) (y'_5 : Int) (no_1 : Int) : Option (Bool) :=
  (law_noDet (y'.1, (y'.2.1, (y'.2.2.1, (y'.2.2.2.1, ()))))).bind (fun y'_9 =>
  if (decide (¬ no_1 = (0 : Int))) = true then
  if (decide (y'_1 = no_1)) = true then
  if (decide (y'_5 = no_1)) = true then
  if y'_9 = true then
  if (!y'_4) = true then
  some (decide ((y'_3.length : Int) = (0 : Int))) else
  some false else
  some false else
  some false else
  some false else
  (r3_Apart (a.1, (a.2.1, (a.2.2.1, (a.2.2.2.1, ())))) (b.1, (b.2.1, (b.2.2.1, (b.2.2.2.1, ())))) a.2.1 b.2.1).bind (fun y'_16 =>
  (r1_Words y'_3 y'_16.1).bind (fun y'_13 =>
  if (decide (¬ y'_5 = (0 : Int))) = true then
  some false else
  if (decide (¬ y'_4 = y'_16.2)) = true then
  some false else
  if (!y'_13) = true then
  some false else
  if (decide (table < (0 : Int))) = true then
  if (decide (y'_1 = (2 : Int))) = true then
  some y'_9 else
  some false else
  if (decide ((15 : Int) < table)) = true then
  if (decide (y'_1 = (2 : Int))) = true then
  some y'_9 else
  some false else
  G (fits ((a.2.2.1.length : Int) * (b.2.2.1.length : Int))) (
  if (decide ((3000 : Int) < ((a.2.2.1.length : Int) * (b.2.2.1.length : Int)))) = true then
  if (decide (y'_1 = (7 : Int))) = true then
  some y'_9 else
  some false else
  (r3_Mixed (a.1, (a.2.1, (a.2.2.1, (a.2.2.2.1, ())))) (b.1, (b.2.1, (b.2.2.1, (b.2.2.2.1, ())))) table).bind (fun y'_14 =>
  (r3_Same (y'.1, (y'.2.1, (y'.2.2.1, (y'.2.2.2.1, ())))) (y'_14.1, (y'_14.2.1, (y'_14.2.2.1, (y'_14.2.2.2.1, ()))))).bind (fun y'_15 =>
  if (decide (y'_1 = (0 : Int))) = true then
  some y'_15 else
  some false))))))
noncomputable def law_DetMixed_J6 (a : (Int × Int × (List (List Int)) × (List Int) × Unit)) (b : (Int × Int × (List (List Int)) × (List Int) × Unit)) (table : Int) (y' : (Int × Int × (List (List Int)) × (List Int) × Unit)) (y'_1 : Int) (y'_3 : (List Int)) (y'_4 : Bool) (y'_5 : Int) (no : Int) (t : Bool) : Option (Bool) :=
  if t = true then
  law_DetMixed_J7 a b table y' y'_1 y'_3 y'_4 y'_5 (3 : Int) else
  law_DetMixed_J7 a b table y' y'_1 y'_3 y'_4 y'_5 no
noncomputable def law_DetMixed_J5 (a : (Int × Int × (List (List Int)) × (List Int) × Unit)) (b : (Int × Int × (List (List Int)) × (List Int) × Unit)) (table : Int) (y' : (Int × Int × (List (List Int)) × (List Int) × Unit)) (y'_1 : Int) (y'_3 : (List Int)) (y'_4 : Bool) (y'_5 : Int) (no : Int) : Option (Bool) :=
  if (decide (no = (0 : Int))) = true then
  law_DetMixed_J6 a b table y' y'_1 y'_3 y'_4 y'_5 no (decide (¬ a.1 = b.1)) else
  law_DetMixed_J6 a b table y' y'_1 y'_3 y'_4 y'_5 no false
noncomputable def law_DetMixed (a : (Int × Int × (List (List Int)) × (List Int) × Unit)) (b : (Int × Int × (List (List Int)) × (List Int) × Unit)) (table : Int) : Option (Bool) :=
  (det_Mixed (a.1, (a.2.1, (a.2.2.1, (a.2.2.2.1, ())))) (b.1, (b.2.1, (b.2.2.1, (b.2.2.2.1, ())))) table).bind (fun y'_18 =>
  (det_Differ (a.1, (a.2.1, (a.2.2.1, (a.2.2.2.1, ())))) (b.1, (b.2.1, (b.2.2.1, (b.2.2.2.1, ()))))).bind (fun y'_17 =>
  (r3_Check (a.1, (a.2.1, (a.2.2.1, (a.2.2.2.1, ()))))).bind (fun y'_7 =>
  if (decide (y'_7 = (0 : Int))) = true then
  (r3_Check (b.1, (b.2.1, (b.2.2.1, (b.2.2.2.1, ()))))).bind (fun y'_8 =>
  law_DetMixed_J5 a b table y'_18.1 y'_18.2 y'_17.1 y'_17.2.1 y'_17.2.2 y'_8) else
  law_DetMixed_J5 a b table y'_18.1 y'_18.2 y'_17.1 y'_17.2.1 y'_17.2.2 y'_7)))

end Go.Proofs.Ytgmelilmlnejlaa.detMixedW
