/- What the functions that 'TopWays' reaches compute: plain functions. -/
import Derived.Test.YtjpbiinfjhggeaaEv16n21
set_option maxHeartbeats 1000000
set_option maxRecDepth 20000
set_option linter.unusedSimpArgs false
set_option linter.unusedVariables false
set_option linter.unusedSectionVars false
namespace Go.Proofs.Ytjpbiinfjhggeaa.topWaysW
open Go Go.Ab
noncomputable def det_Check_1 (r : (List Int)) (t : (Int × Int × (List (List Int)) × (List Int) × Unit)) : Option (Bool) :=
  some (decide (¬ (r.length : Int) = t.1))

noncomputable def slices_IndexFunc_L2_B (s : (List (List Int))) (c : (Int × Int × (List (List Int)) × (List Int) × Unit)) (r2 : Int → Option (Int)) (t : Int) : Option (Int) :=
  if (decide (t < (s.length : Int))) = true then
  G (0 ≤ t ∧ t < (s.length : Int)) (
  (det_Check_1 (ix s t) c).bind (fun y' =>
  if y' = true then
  some t else
  G (fits (t + (1 : Int))) (
  r2 (t + (1 : Int))))) else
  some (-1 : Int)
noncomputable def slices_IndexFunc_L2_F (s : (List (List Int))) (c : (Int × Int × (List (List Int)) × (List Int) × Unit)) : (Int → Option (Int)) → Int → Option (Int) :=
  fun rec x => slices_IndexFunc_L2_B s c (fun t => rec t) x
noncomputable def slices_IndexFunc_L2 (s : (List (List Int))) (c : (Int × Int × (List (List Int)) × (List Int) × Unit)) (t : Int) : Option (Int) := LFix (slices_IndexFunc_L2_F s c ) t
noncomputable def slices_IndexFunc (s : (List (List Int))) (c : (Int × Int × (List (List Int)) × (List Int) × Unit)) : Option (Int) :=
  slices_IndexFunc_L2 s c (0 : Int)
theorem slices_IndexFunc_L2_B_ch (r2 : Nat → Int → Option (Int)) (r2' : Int → Option (Int)) (h_r2 : ∀ a0, ChO (fun κ => r2 κ a0) (r2' a0)) (s : (List (List Int))) (c : (Int × Int × (List (List Int)) × (List Int) × Unit)) (t : Int) : ChO (fun κ => slices_IndexFunc_L2_B s c (r2 κ) t) (slices_IndexFunc_L2_B s c r2' t) := by
  unfold slices_IndexFunc_L2_B
  repeat' with_reducible first | exact ChO.const _ | exact h_r2 _ | apply ChO.ite | apply ChO.G | apply ChO.both | (apply ChO.bind; intro _)
theorem slices_IndexFunc_L2_cn  (s : (List (List Int))) (c : (Int × Int × (List (List Int)) × (List Int) × Unit)) : Cn (slices_IndexFunc_L2_F s c) := fun g h hg x => slices_IndexFunc_L2_B_ch  (fun κ t => g κ t) (fun t => h t) (fun t => hg t) s c x
theorem slices_IndexFunc_L2_eq  (s : (List (List Int))) (c : (Int × Int × (List (List Int)) × (List Int) × Unit)) (t : Int) : slices_IndexFunc_L2 s c t = slices_IndexFunc_L2_B s c (slices_IndexFunc_L2 s c) t := LFix_eq (slices_IndexFunc_L2_cn s c) t

noncomputable def slices_ContainsFunc (s : (List (List Int))) (c : (Int × Int × (List (List Int)) × (List Int) × Unit)) : Option (Bool) :=
  (slices_IndexFunc s c).bind (fun y' =>
  some (decide ((0 : Int) ≤ y')))

noncomputable def det_Check_2 (q : Int) (t : Int) : Option (Bool) :=
  if (decide (q < (0 : Int))) = true then
  some true else
  some (decide (t ≤ q))

noncomputable def slices_IndexFunc_2_L2_B (s : (List Int)) (c : Int) (r2 : Int → Option (Int)) (t : Int) : Option (Int) :=
  if (decide (t < (s.length : Int))) = true then
  G (0 ≤ t ∧ t < (s.length : Int)) (
  (det_Check_2 (ix s t) c).bind (fun y' =>
  if y' = true then
  some t else
  G (fits (t + (1 : Int))) (
  r2 (t + (1 : Int))))) else
  some (-1 : Int)
noncomputable def slices_IndexFunc_2_L2_F (s : (List Int)) (c : Int) : (Int → Option (Int)) → Int → Option (Int) :=
  fun rec x => slices_IndexFunc_2_L2_B s c (fun t => rec t) x
noncomputable def slices_IndexFunc_2_L2 (s : (List Int)) (c : Int) (t : Int) : Option (Int) := LFix (slices_IndexFunc_2_L2_F s c ) t
noncomputable def slices_IndexFunc_2 (s : (List Int)) (c : Int) : Option (Int) :=
  slices_IndexFunc_2_L2 s c (0 : Int)
theorem slices_IndexFunc_2_L2_B_ch (r2 : Nat → Int → Option (Int)) (r2' : Int → Option (Int)) (h_r2 : ∀ a0, ChO (fun κ => r2 κ a0) (r2' a0)) (s : (List Int)) (c : Int) (t : Int) : ChO (fun κ => slices_IndexFunc_2_L2_B s c (r2 κ) t) (slices_IndexFunc_2_L2_B s c r2' t) := by
  unfold slices_IndexFunc_2_L2_B
  repeat' with_reducible first | exact ChO.const _ | exact h_r2 _ | apply ChO.ite | apply ChO.G | apply ChO.both | (apply ChO.bind; intro _)
theorem slices_IndexFunc_2_L2_cn  (s : (List Int)) (c : Int) : Cn (slices_IndexFunc_2_L2_F s c) := fun g h hg x => slices_IndexFunc_2_L2_B_ch  (fun κ t => g κ t) (fun t => h t) (fun t => hg t) s c x
theorem slices_IndexFunc_2_L2_eq  (s : (List Int)) (c : Int) (t : Int) : slices_IndexFunc_2_L2 s c t = slices_IndexFunc_2_L2_B s c (slices_IndexFunc_2_L2 s c) t := LFix_eq (slices_IndexFunc_2_L2_cn s c) t

noncomputable def slices_ContainsFunc_2 (s : (List Int)) (c : Int) : Option (Bool) :=
  (slices_IndexFunc_2 s c).bind (fun y' =>
  some (decide ((0 : Int) ≤ y')))

noncomputable def det_Check_3 (r : (List Int)) (c : Int) : Option (Bool × Int) :=
  (slices_ContainsFunc_2 r c).bind (fun y' =>
  some (y', c))

noncomputable def slices_IndexFunc_1_L2_B (s : (List (List Int))) (r2 : Int → Int → Option (Int × Int)) (t : Int) (l : Int) : Option (Int × Int) :=
  if (decide (t < (s.length : Int))) = true then
  G (0 ≤ t ∧ t < (s.length : Int)) (
  (det_Check_3 (ix s t) l).bind (fun y'_3 =>
  if y'_3.1 = true then
  some (t, y'_3.2) else
  G (fits (t + (1 : Int))) (
  r2 (t + (1 : Int)) y'_3.2))) else
  some ((-1 : Int), l)
noncomputable def slices_IndexFunc_1_L2_F (s : (List (List Int))) : (Int × Int → Option (Int × Int)) → Int × Int → Option (Int × Int) :=
  fun rec x => slices_IndexFunc_1_L2_B s (fun t l => rec (t, l)) x.1 x.2
noncomputable def slices_IndexFunc_1_L2 (s : (List (List Int))) (t : Int) (l : Int) : Option (Int × Int) := LFix (slices_IndexFunc_1_L2_F s ) (t, l)
noncomputable def slices_IndexFunc_1 (s : (List (List Int))) (c : Int) : Option (Int × Int) :=
  slices_IndexFunc_1_L2 s (0 : Int) c
theorem slices_IndexFunc_1_L2_B_ch (r2 : Nat → Int → Int → Option (Int × Int)) (r2' : Int → Int → Option (Int × Int)) (h_r2 : ∀ a0 a1, ChO (fun κ => r2 κ a0 a1) (r2' a0 a1)) (s : (List (List Int))) (t : Int) (l : Int) : ChO (fun κ => slices_IndexFunc_1_L2_B s (r2 κ) t l) (slices_IndexFunc_1_L2_B s r2' t l) := by
  unfold slices_IndexFunc_1_L2_B
  repeat' with_reducible first | exact ChO.const _ | exact h_r2 _ _ | apply ChO.ite | apply ChO.G | apply ChO.both | (apply ChO.bind; intro _)
theorem slices_IndexFunc_1_L2_cn  (s : (List (List Int))) : Cn (slices_IndexFunc_1_L2_F s) := fun g h hg x => slices_IndexFunc_1_L2_B_ch  (fun κ t l => g κ (t, l)) (fun t l => h (t, l)) (fun t l => hg (t, l)) s x.1 x.2
theorem slices_IndexFunc_1_L2_eq  (s : (List (List Int))) (t : Int) (l : Int) : slices_IndexFunc_1_L2 s t l = slices_IndexFunc_1_L2_B s (slices_IndexFunc_1_L2 s) t l := LFix_eq (slices_IndexFunc_1_L2_cn s) (t, l)

noncomputable def slices_ContainsFunc_1 (s : (List (List Int))) (c : Int) : Option (Bool × Int) :=
  (slices_IndexFunc_1 s c).bind (fun y'_3 =>
  some (decide ((0 : Int) ≤ y'_3.1), y'_3.2))

noncomputable def det_Check_4 (m : Int) : Option (Bool) :=
  if (decide (¬ m = (0 : Int))) = true then
  some (decide (¬ m = (1 : Int))) else
  some false

noncomputable def slices_IndexFunc_3_L2_B (s : (List Int)) (r2 : Int → Option (Int)) (t : Int) : Option (Int) :=
  if (decide (t < (s.length : Int))) = true then
  G (0 ≤ t ∧ t < (s.length : Int)) (
  (det_Check_4 (ix s t)).bind (fun y' =>
  if y' = true then
  some t else
  G (fits (t + (1 : Int))) (
  r2 (t + (1 : Int))))) else
  some (-1 : Int)
noncomputable def slices_IndexFunc_3_L2_F (s : (List Int)) : (Int → Option (Int)) → Int → Option (Int) :=
  fun rec x => slices_IndexFunc_3_L2_B s (fun t => rec t) x
noncomputable def slices_IndexFunc_3_L2 (s : (List Int)) (t : Int) : Option (Int) := LFix (slices_IndexFunc_3_L2_F s ) t
noncomputable def slices_IndexFunc_3 (s : (List Int)) : Option (Int) :=
  slices_IndexFunc_3_L2 s (0 : Int)
theorem slices_IndexFunc_3_L2_B_ch (r2 : Nat → Int → Option (Int)) (r2' : Int → Option (Int)) (h_r2 : ∀ a0, ChO (fun κ => r2 κ a0) (r2' a0)) (s : (List Int)) (t : Int) : ChO (fun κ => slices_IndexFunc_3_L2_B s (r2 κ) t) (slices_IndexFunc_3_L2_B s r2' t) := by
  unfold slices_IndexFunc_3_L2_B
  repeat' with_reducible first | exact ChO.const _ | exact h_r2 _ | apply ChO.ite | apply ChO.G | apply ChO.both | (apply ChO.bind; intro _)
theorem slices_IndexFunc_3_L2_cn  (s : (List Int)) : Cn (slices_IndexFunc_3_L2_F s) := fun g h hg x => slices_IndexFunc_3_L2_B_ch  (fun κ t => g κ t) (fun t => h t) (fun t => hg t) s x
theorem slices_IndexFunc_3_L2_eq  (s : (List Int)) (t : Int) : slices_IndexFunc_3_L2 s t = slices_IndexFunc_3_L2_B s (slices_IndexFunc_3_L2 s) t := LFix_eq (slices_IndexFunc_3_L2_cn s) t

noncomputable def slices_ContainsFunc_3 (s : (List Int)) : Option (Bool) :=
  (slices_IndexFunc_3 s).bind (fun y' =>
  some (decide ((0 : Int) ≤ y')))

noncomputable def det_Check (d : (Int × Int × (List (List Int)) × (List Int) × Unit)) : Option (Int) :=
  if (decide (d.1 < (1 : Int))) = true then
  some (2 : Int) else
  if (decide ((4 : Int) < d.1)) = true then
  some (2 : Int) else
  if (decide ((d.2.2.1.length : Int) < (1 : Int))) = true then
  some (1 : Int) else
  if (decide ((3000 : Int) < (d.2.2.1.length : Int))) = true then
  some (1 : Int) else
  if (decide (¬ (d.2.2.2.1.length : Int) = (d.2.2.1.length : Int))) = true then
  some (3 : Int) else
  (slices_ContainsFunc d.2.2.1 (d.1, (d.2.1, (d.2.2.1, (d.2.2.2.1, ()))))).bind (fun y' =>
  if y' = true then
  some (3 : Int) else
  (det_Check_2 d.2.1 (d.2.2.1.length : Int)).bind (fun y'_1 =>
  if y'_1 = true then
  some (2 : Int) else
  (slices_ContainsFunc_1 d.2.2.1 (d.2.2.1.length : Int)).bind (fun y'_6 =>
  if y'_6.1 = true then
  some (2 : Int) else
  (slices_ContainsFunc_3 d.2.2.2.1).bind (fun y'_5 =>
  if y'_5 = true then
  some (2 : Int) else
  some (0 : Int)))))

noncomputable def slices_Clone (s : (List Int)) : Option (List Int) :=
  if s.length = 0 then both [(.list (.int .i64))] (
  some ([])) (
  G (room ([] : List Int) s 8) (
  some (([] : List Int) ++ s))) else
  G (room ([] : List Int) s 8) (
  some (([] : List Int) ++ s))

noncomputable def det_Classes_J17 (class' : (List Int)) (t : Int) (next' : (List Int)) (r6 : (Int → (List (Int × (List UInt8) × Unit)) → (List Int) → (List Int) → Option (List Int))) (b : (List Int)) (number_2 : (List (Int × (List UInt8) × Unit))) (number_3 : (List Int)) : Option (List Int) :=
  G (0 ≤ t ∧ t < (next'.length : Int)) (
  G ((t).toNat < next'.length) (
  G (fits (t + (1 : Int))) (
  r6 (t + (1 : Int)) number_2 number_3 (next'.set (t).toNat (mget number_2 number_3 (ix class' t, (bstr b, ())) (0 : Int))))))
noncomputable def det_Classes_L10_B (d : (Int × Int × (List (List Int)) × (List Int) × Unit)) (class' : (List Int)) (t : Int) (number : (List (Int × (List UInt8) × Unit))) (number_1 : (List Int)) (next' : (List Int)) (r6 : (Int → (List (Int × (List UInt8) × Unit)) → (List Int) → (List Int) → Option (List Int))) (r10 : Int → (List Int) → Option (List Int)) (t_1 : Int) (b : (List Int)) : Option (List Int) :=
  if (decide (t_1 < ((ix d.2.2.1 t).length : Int))) = true then
  G (0 ≤ t_1 ∧ t_1 < ((ix d.2.2.1 t).length : Int)) (
  G (0 ≤ ix (ix d.2.2.1 t) t_1 ∧ ix (ix d.2.2.1 t) t_1 < (class'.length : Int)) (
  G ((ix (ix d.2.2.1 t) t_1).toNat < class'.length) (
  G (0 ≤ ix (ix d.2.2.1 t) t_1 ∧ ix (ix d.2.2.1 t) t_1 < (class'.length : Int)) (
  G ((ix (ix d.2.2.1 t) t_1).toNat < class'.length) (
  G (0 ≤ (8 : Int)) (
  G (room b ([IntKind.wrap .u8 (ix class' (ix (ix d.2.2.1 t) t_1)), IntKind.wrap .u8 (ishr .i64 (ix class' (ix (ix d.2.2.1 t) t_1)) (8 : Int))]) 1) (
  G (fits (t_1 + (1 : Int))) (
  r10 (t_1 + (1 : Int)) (b ++ ([IntKind.wrap .u8 (ix class' (ix (ix d.2.2.1 t) t_1)), IntKind.wrap .u8 (ishr .i64 (ix class' (ix (ix d.2.2.1 t) t_1)) (8 : Int))])))))))))) else
  G (0 ≤ t ∧ t < (class'.length : Int)) (
  G ((t).toNat < class'.length) (
  if (!(mhas number (ix class' t, (bstr b, ())))) = true then
  det_Classes_J17 class' t next' r6 b (mputK number (ix class' t, (bstr b, ()))) (mputV number number_1 (ix class' t, (bstr b, ())) (number.length : Int)) else
  det_Classes_J17 class' t next' r6 b number number_1))
noncomputable def det_Classes_L10_F (d : (Int × Int × (List (List Int)) × (List Int) × Unit)) (class' : (List Int)) (t : Int) (number : (List (Int × (List UInt8) × Unit))) (number_1 : (List Int)) (next' : (List Int)) (r6 : (Int → (List (Int × (List UInt8) × Unit)) → (List Int) → (List Int) → Option (List Int))) : (Int × (List Int) → Option (List Int)) → Int × (List Int) → Option (List Int) :=
  fun rec x => det_Classes_L10_B d class' t number number_1 next' r6 (fun t_1 b => rec (t_1, b)) x.1 x.2
noncomputable def det_Classes_L10 (d : (Int × Int × (List (List Int)) × (List Int) × Unit)) (class' : (List Int)) (t : Int) (number : (List (Int × (List UInt8) × Unit))) (number_1 : (List Int)) (next' : (List Int)) (r6 : (Int → (List (Int × (List UInt8) × Unit)) → (List Int) → (List Int) → Option (List Int))) (t_1 : Int) (b : (List Int)) : Option (List Int) := LFix (det_Classes_L10_F d class' t number number_1 next' r6 ) (t_1, b)
noncomputable def det_Classes_L6_B (d : (Int × Int × (List (List Int)) × (List Int) × Unit)) (count : Int) (class' : (List Int)) (r3 : (Int → (List Int) → Option (List Int))) (r6 : Int → (List (Int × (List UInt8) × Unit)) → (List Int) → (List Int) → Option (List Int)) (t : Int) (number : (List (Int × (List UInt8) × Unit))) (number_1 : (List Int)) (next' : (List Int)) : Option (List Int) :=
  if (decide (t < (d.2.2.1.length : Int))) = true then
  G (0 ≤ t ∧ t < (d.2.2.1.length : Int)) (
  det_Classes_L10 d class' t number number_1 next' r6 (0 : Int) ([])) else
  if (decide ((number.length : Int) = count)) = true then
  some next' else
  r3 (number.length : Int) next'
noncomputable def det_Classes_L6_F (d : (Int × Int × (List (List Int)) × (List Int) × Unit)) (count : Int) (class' : (List Int)) (r3 : (Int → (List Int) → Option (List Int))) : (Int × (List (Int × (List UInt8) × Unit)) × (List Int) × (List Int) → Option (List Int)) → Int × (List (Int × (List UInt8) × Unit)) × (List Int) × (List Int) → Option (List Int) :=
  fun rec x => det_Classes_L6_B d count class' r3 (fun t number number_1 next' => rec (t, number, number_1, next')) x.1 x.2.1 x.2.2.1 x.2.2.2
noncomputable def det_Classes_L6 (d : (Int × Int × (List (List Int)) × (List Int) × Unit)) (count : Int) (class' : (List Int)) (r3 : (Int → (List Int) → Option (List Int))) (t : Int) (number : (List (Int × (List UInt8) × Unit))) (number_1 : (List Int)) (next' : (List Int)) : Option (List Int) := LFix (det_Classes_L6_F d count class' r3 ) (t, number, number_1, next')
noncomputable def det_Classes_L3_B (d : (Int × Int × (List (List Int)) × (List Int) × Unit)) (r3 : Int → (List Int) → Option (List Int)) (count : Int) (class' : (List Int)) : Option (List Int) :=
  G (mkOK (class'.length : Int) (class'.length : Int) 8) (
  det_Classes_L6 d count class' r3 (0 : Int) ([] : List (Int × (List UInt8) × Unit)) ([] : List Int) (List.replicate ((class'.length : Int)).toNat (0 : Int)))
noncomputable def det_Classes_L3_F (d : (Int × Int × (List (List Int)) × (List Int) × Unit)) : (Int × (List Int) → Option (List Int)) → Int × (List Int) → Option (List Int) :=
  fun rec x => det_Classes_L3_B d (fun count class' => rec (count, class')) x.1 x.2
noncomputable def det_Classes_L3 (d : (Int × Int × (List (List Int)) × (List Int) × Unit)) (count : Int) (class' : (List Int)) : Option (List Int) := LFix (det_Classes_L3_F d ) (count, class')
noncomputable def det_Classes (d : (Int × Int × (List (List Int)) × (List Int) × Unit)) : Option (List Int) :=
  (slices_Clone d.2.2.2.1).bind (fun y' =>
  det_Classes_L3 d (0 : Int) y')
theorem det_Classes_J17_ch (r6 : Nat → Int → (List (Int × (List UInt8) × Unit)) → (List Int) → (List Int) → Option (List Int)) (r6' : Int → (List (Int × (List UInt8) × Unit)) → (List Int) → (List Int) → Option (List Int)) (h_r6 : ∀ a0 a1 a2 a3, ChO (fun κ => r6 κ a0 a1 a2 a3) (r6' a0 a1 a2 a3)) (class' : (List Int)) (t : Int) (next' : (List Int)) (b : (List Int)) (number_2 : (List (Int × (List UInt8) × Unit))) (number_3 : (List Int)) : ChO (fun κ => det_Classes_J17 class' t next' (r6 κ) b number_2 number_3) (det_Classes_J17 class' t next' r6' b number_2 number_3) := by
  unfold det_Classes_J17
  repeat' with_reducible first | exact ChO.const _ | exact h_r6 _ _ _ _ | apply ChO.ite | apply ChO.G | apply ChO.both | (apply ChO.bind; intro _)
theorem det_Classes_L10_B_ch (r6 : Nat → Int → (List (Int × (List UInt8) × Unit)) → (List Int) → (List Int) → Option (List Int)) (r6' : Int → (List (Int × (List UInt8) × Unit)) → (List Int) → (List Int) → Option (List Int)) (h_r6 : ∀ a0 a1 a2 a3, ChO (fun κ => r6 κ a0 a1 a2 a3) (r6' a0 a1 a2 a3)) (r10 : Nat → Int → (List Int) → Option (List Int)) (r10' : Int → (List Int) → Option (List Int)) (h_r10 : ∀ a0 a1, ChO (fun κ => r10 κ a0 a1) (r10' a0 a1)) (d : (Int × Int × (List (List Int)) × (List Int) × Unit)) (class' : (List Int)) (t : Int) (number : (List (Int × (List UInt8) × Unit))) (number_1 : (List Int)) (next' : (List Int)) (t_1 : Int) (b : (List Int)) : ChO (fun κ => det_Classes_L10_B d class' t number number_1 next' (r6 κ) (r10 κ) t_1 b) (det_Classes_L10_B d class' t number number_1 next' r6' r10' t_1 b) := by
  unfold det_Classes_L10_B
  repeat' with_reducible first | exact ChO.const _ | exact h_r6 _ _ _ _ | exact h_r10 _ _ | (apply det_Classes_J17_ch <;> assumption) | apply ChO.ite | apply ChO.G | apply ChO.both | (apply ChO.bind; intro _)
theorem det_Classes_L10_cn (r6 : Int → (List (Int × (List UInt8) × Unit)) → (List Int) → (List Int) → Option (List Int)) (d : (Int × Int × (List (List Int)) × (List Int) × Unit)) (class' : (List Int)) (t : Int) (number : (List (Int × (List UInt8) × Unit))) (number_1 : (List Int)) (next' : (List Int)) : Cn (det_Classes_L10_F d class' t number number_1 next' r6) := fun g h hg x => det_Classes_L10_B_ch (fun _ => r6) r6 (fun _ _ _ _ => ChO.const _) (fun κ t_1 b => g κ (t_1, b)) (fun t_1 b => h (t_1, b)) (fun t_1 b => hg (t_1, b)) d class' t number number_1 next' x.1 x.2
theorem det_Classes_L10_eq (r6 : Int → (List (Int × (List UInt8) × Unit)) → (List Int) → (List Int) → Option (List Int)) (d : (Int × Int × (List (List Int)) × (List Int) × Unit)) (class' : (List Int)) (t : Int) (number : (List (Int × (List UInt8) × Unit))) (number_1 : (List Int)) (next' : (List Int)) (t_1 : Int) (b : (List Int)) : det_Classes_L10 d class' t number number_1 next' r6 t_1 b = det_Classes_L10_B d class' t number number_1 next' r6 (det_Classes_L10 d class' t number number_1 next' r6) t_1 b := LFix_eq (det_Classes_L10_cn r6 d class' t number number_1 next') (t_1, b)
theorem det_Classes_L10_ch (r6 : Nat → Int → (List (Int × (List UInt8) × Unit)) → (List Int) → (List Int) → Option (List Int)) (r6' : Int → (List (Int × (List UInt8) × Unit)) → (List Int) → (List Int) → Option (List Int)) (h_r6 : ∀ a0 a1 a2 a3, ChO (fun κ => r6 κ a0 a1 a2 a3) (r6' a0 a1 a2 a3)) (d : (Int × Int × (List (List Int)) × (List Int) × Unit)) (class' : (List Int)) (t : Int) (number : (List (Int × (List UInt8) × Unit))) (number_1 : (List Int)) (next' : (List Int)) (t_1 : Int) (b : (List Int)) : ChO (fun κ => det_Classes_L10 d class' t number number_1 next' (r6 κ) t_1 b) (det_Classes_L10 d class' t number number_1 next' r6' t_1 b) := by
  unfold det_Classes_L10
  exact LFix_ch (fun κ => (det_Classes_L10_cn (r6 κ) d class' t number number_1 next').mono) (det_Classes_L10_cn r6' d class' t number number_1 next').mono (fun g h hg x => det_Classes_L10_B_ch r6 r6' h_r6 (fun κ t_1 b => g κ (t_1, b)) (fun t_1 b => h (t_1, b)) (fun t_1 b => hg (t_1, b)) d class' t number number_1 next' x.1 x.2) _
theorem det_Classes_L6_B_ch (r3 : Nat → Int → (List Int) → Option (List Int)) (r3' : Int → (List Int) → Option (List Int)) (h_r3 : ∀ a0 a1, ChO (fun κ => r3 κ a0 a1) (r3' a0 a1)) (r6 : Nat → Int → (List (Int × (List UInt8) × Unit)) → (List Int) → (List Int) → Option (List Int)) (r6' : Int → (List (Int × (List UInt8) × Unit)) → (List Int) → (List Int) → Option (List Int)) (h_r6 : ∀ a0 a1 a2 a3, ChO (fun κ => r6 κ a0 a1 a2 a3) (r6' a0 a1 a2 a3)) (d : (Int × Int × (List (List Int)) × (List Int) × Unit)) (count : Int) (class' : (List Int)) (t : Int) (number : (List (Int × (List UInt8) × Unit))) (number_1 : (List Int)) (next' : (List Int)) : ChO (fun κ => det_Classes_L6_B d count class' (r3 κ) (r6 κ) t number number_1 next') (det_Classes_L6_B d count class' r3' r6' t number number_1 next') := by
  unfold det_Classes_L6_B
  repeat' with_reducible first | exact ChO.const _ | exact h_r3 _ _ | exact h_r6 _ _ _ _ | (apply det_Classes_J17_ch <;> assumption) | (apply det_Classes_L10_ch <;> assumption) | apply ChO.ite | apply ChO.G | apply ChO.both | (apply ChO.bind; intro _)
theorem det_Classes_L6_cn (r3 : Int → (List Int) → Option (List Int)) (d : (Int × Int × (List (List Int)) × (List Int) × Unit)) (count : Int) (class' : (List Int)) : Cn (det_Classes_L6_F d count class' r3) := fun g h hg x => det_Classes_L6_B_ch (fun _ => r3) r3 (fun _ _ => ChO.const _) (fun κ t number number_1 next' => g κ (t, number, number_1, next')) (fun t number number_1 next' => h (t, number, number_1, next')) (fun t number number_1 next' => hg (t, number, number_1, next')) d count class' x.1 x.2.1 x.2.2.1 x.2.2.2
theorem det_Classes_L6_eq (r3 : Int → (List Int) → Option (List Int)) (d : (Int × Int × (List (List Int)) × (List Int) × Unit)) (count : Int) (class' : (List Int)) (t : Int) (number : (List (Int × (List UInt8) × Unit))) (number_1 : (List Int)) (next' : (List Int)) : det_Classes_L6 d count class' r3 t number number_1 next' = det_Classes_L6_B d count class' r3 (det_Classes_L6 d count class' r3) t number number_1 next' := LFix_eq (det_Classes_L6_cn r3 d count class') (t, number, number_1, next')
theorem det_Classes_L6_ch (r3 : Nat → Int → (List Int) → Option (List Int)) (r3' : Int → (List Int) → Option (List Int)) (h_r3 : ∀ a0 a1, ChO (fun κ => r3 κ a0 a1) (r3' a0 a1)) (d : (Int × Int × (List (List Int)) × (List Int) × Unit)) (count : Int) (class' : (List Int)) (t : Int) (number : (List (Int × (List UInt8) × Unit))) (number_1 : (List Int)) (next' : (List Int)) : ChO (fun κ => det_Classes_L6 d count class' (r3 κ) t number number_1 next') (det_Classes_L6 d count class' r3' t number number_1 next') := by
  unfold det_Classes_L6
  exact LFix_ch (fun κ => (det_Classes_L6_cn (r3 κ) d count class').mono) (det_Classes_L6_cn r3' d count class').mono (fun g h hg x => det_Classes_L6_B_ch r3 r3' h_r3 (fun κ t number number_1 next' => g κ (t, number, number_1, next')) (fun t number number_1 next' => h (t, number, number_1, next')) (fun t number number_1 next' => hg (t, number, number_1, next')) d count class' x.1 x.2.1 x.2.2.1 x.2.2.2) _
theorem det_Classes_L3_B_ch (r3 : Nat → Int → (List Int) → Option (List Int)) (r3' : Int → (List Int) → Option (List Int)) (h_r3 : ∀ a0 a1, ChO (fun κ => r3 κ a0 a1) (r3' a0 a1)) (d : (Int × Int × (List (List Int)) × (List Int) × Unit)) (count : Int) (class' : (List Int)) : ChO (fun κ => det_Classes_L3_B d (r3 κ) count class') (det_Classes_L3_B d r3' count class') := by
  unfold det_Classes_L3_B
  repeat' with_reducible first | exact ChO.const _ | exact h_r3 _ _ | (apply det_Classes_J17_ch <;> assumption) | (apply det_Classes_L10_ch <;> assumption) | (apply det_Classes_L6_ch <;> assumption) | apply ChO.ite | apply ChO.G | apply ChO.both | (apply ChO.bind; intro _)
theorem det_Classes_L3_cn  (d : (Int × Int × (List (List Int)) × (List Int) × Unit)) : Cn (det_Classes_L3_F d) := fun g h hg x => det_Classes_L3_B_ch  (fun κ count class' => g κ (count, class')) (fun count class' => h (count, class')) (fun count class' => hg (count, class')) d x.1 x.2
theorem det_Classes_L3_eq  (d : (Int × Int × (List (List Int)) × (List Int) × Unit)) (count : Int) (class' : (List Int)) : det_Classes_L3 d count class' = det_Classes_L3_B d (det_Classes_L3 d) count class' := LFix_eq (det_Classes_L3_cn d) (count, class')

noncomputable def det_Smallest_1 (c : Int) (a : Int) (t : (List Int)) (t_1 : (Int × Int × (List (List Int)) × (List Int) × Unit)) (t_2 : (List Int)) : Option (Int) :=
  G (0 ≤ c ∧ c < (t_2.length : Int)) (
  G (0 ≤ ix t_2 c ∧ ix t_2 c < (t_1.2.2.1.length : Int)) (
  G (0 ≤ a ∧ a < ((ix t_1.2.2.1 (ix t_2 c)).length : Int)) (
  G (0 ≤ ix (ix t_1.2.2.1 (ix t_2 c)) a ∧ ix (ix t_1.2.2.1 (ix t_2 c)) a < (t.length : Int)) (
  some (ix t (ix (ix t_1.2.2.1 (ix t_2 c)) a))))))

noncomputable def det_Smallest_2 (c : Int) (t : (Int × Int × (List (List Int)) × (List Int) × Unit)) (t_1 : (List Int)) : Option (Int) :=
  G (0 ≤ c ∧ c < (t_1.length : Int)) (
  G (0 ≤ ix t_1 c ∧ ix t_1 c < (t.2.2.2.1.length : Int)) (
  some (ix t.2.2.2.1 (ix t_1 c))))

noncomputable def det_Explore_J17 (t : Int) (row : (List Int)) (r8 : (Int → (List Int) → (List Int) → (List Int) → (List Int) → Option ((Int × Int × (List (List Int)) × (List Int) × Unit) × Bool))) (n : Int) (number_4 : (List Int)) (number_5 : (List Int)) (l_2 : (List Int)) : Option ((Int × Int × (List (List Int)) × (List Int) × Unit) × Bool) :=
  G (0 ≤ t ∧ t < (row.length : Int)) (
  G ((t).toNat < row.length) (
  G (fits (t + (1 : Int))) (
  r8 (t + (1 : Int)) number_4 number_5 l_2 (row.set (t).toNat n))))
noncomputable def det_Explore_L8_B (letters : Int) (c : (List Int)) (c_1 : (Int × Int × (List (List Int)) × (List Int) × Unit)) (c_2 : (List Int)) (c_3 : (Int × Int × (List (List Int)) × (List Int) × Unit)) (c_4 : (List Int)) (most : Int) (d : Int) (d_1 : Int) (l : (List Int)) (d_2 : (List (List Int))) (d_3 : (List Int)) (r4 : (Int → Int → (List Int) → (List Int) → (List Int) → (List (List Int)) → (List Int) → Option ((Int × Int × (List (List Int)) × (List Int) × Unit) × Bool))) (r8 : Int → (List Int) → (List Int) → (List Int) → (List Int) → Option ((Int × Int × (List (List Int)) × (List Int) × Unit) × Bool)) (t : Int) (number_2 : (List Int)) (number_3 : (List Int)) (l_1 : (List Int)) (row : (List Int)) : Option ((Int × Int × (List (List Int)) × (List Int) × Unit) × Bool) :=
  if (decide (t < letters)) = true then
  (det_Smallest_1 (ix l (d_2.length : Int)) t c c_1 c_2).bind (fun y' =>
  if (!(mhas number_2 y')) = true then
  if (decide ((l_1.length : Int) = most)) = true then
  some (((0 : Int), ((0 : Int), ([], ([], ())))), false) else
  G (room l_1 ([y']) 8) (
  det_Explore_J17 t row r8 (l_1.length : Int) (mputK number_2 y') (mputV number_2 number_3 y' (l_1.length : Int)) (l_1 ++ ([y']))) else
  det_Explore_J17 t row r8 (mget number_2 number_3 y' (0 : Int)) number_2 number_3 l_1) else
  G (room d_2 ([row]) 24) (
  (det_Smallest_2 (ix l (d_2.length : Int)) c_3 c_4).bind (fun y'_1 =>
  G (room d_3 ([y'_1]) 8) (
  r4 d d_1 number_2 number_3 l_1 (d_2 ++ ([row])) (d_3 ++ ([y'_1])))))
noncomputable def det_Explore_L8_F (letters : Int) (c : (List Int)) (c_1 : (Int × Int × (List (List Int)) × (List Int) × Unit)) (c_2 : (List Int)) (c_3 : (Int × Int × (List (List Int)) × (List Int) × Unit)) (c_4 : (List Int)) (most : Int) (d : Int) (d_1 : Int) (l : (List Int)) (d_2 : (List (List Int))) (d_3 : (List Int)) (r4 : (Int → Int → (List Int) → (List Int) → (List Int) → (List (List Int)) → (List Int) → Option ((Int × Int × (List (List Int)) × (List Int) × Unit) × Bool))) : (Int × (List Int) × (List Int) × (List Int) × (List Int) → Option ((Int × Int × (List (List Int)) × (List Int) × Unit) × Bool)) → Int × (List Int) × (List Int) × (List Int) × (List Int) → Option ((Int × Int × (List (List Int)) × (List Int) × Unit) × Bool) :=
  fun rec x => det_Explore_L8_B letters c c_1 c_2 c_3 c_4 most d d_1 l d_2 d_3 r4 (fun t number_2 number_3 l_1 row => rec (t, number_2, number_3, l_1, row)) x.1 x.2.1 x.2.2.1 x.2.2.2.1 x.2.2.2.2
noncomputable def det_Explore_L8 (letters : Int) (c : (List Int)) (c_1 : (Int × Int × (List (List Int)) × (List Int) × Unit)) (c_2 : (List Int)) (c_3 : (Int × Int × (List (List Int)) × (List Int) × Unit)) (c_4 : (List Int)) (most : Int) (d : Int) (d_1 : Int) (l : (List Int)) (d_2 : (List (List Int))) (d_3 : (List Int)) (r4 : (Int → Int → (List Int) → (List Int) → (List Int) → (List (List Int)) → (List Int) → Option ((Int × Int × (List (List Int)) × (List Int) × Unit) × Bool))) (t : Int) (number_2 : (List Int)) (number_3 : (List Int)) (l_1 : (List Int)) (row : (List Int)) : Option ((Int × Int × (List (List Int)) × (List Int) × Unit) × Bool) := LFix (det_Explore_L8_F letters c c_1 c_2 c_3 c_4 most d d_1 l d_2 d_3 r4 ) (t, number_2, number_3, l_1, row)
noncomputable def det_Explore_L4_B (letters : Int) (c : (List Int)) (c_1 : (Int × Int × (List (List Int)) × (List Int) × Unit)) (c_2 : (List Int)) (c_3 : (Int × Int × (List (List Int)) × (List Int) × Unit)) (c_4 : (List Int)) (most : Int) (r4 : Int → Int → (List Int) → (List Int) → (List Int) → (List (List Int)) → (List Int) → Option ((Int × Int × (List (List Int)) × (List Int) × Unit) × Bool)) (d : Int) (d_1 : Int) (number : (List Int)) (number_1 : (List Int)) (l : (List Int)) (d_2 : (List (List Int))) (d_3 : (List Int)) : Option ((Int × Int × (List (List Int)) × (List Int) × Unit) × Bool) :=
  if (decide ((d_2.length : Int) < (l.length : Int))) = true then
  G (0 ≤ (d_2.length : Int) ∧ (d_2.length : Int) < (l.length : Int)) (
  G (((d_2.length : Int)).toNat < l.length) (
  G (mkOK letters letters 8) (
  det_Explore_L8 letters c c_1 c_2 c_3 c_4 most d d_1 l d_2 d_3 r4 (0 : Int) number number_1 l (List.replicate (letters).toNat (0 : Int))))) else
  some ((d, (d_1, (d_2, (d_3, ())))), true)
noncomputable def det_Explore_L4_F (letters : Int) (c : (List Int)) (c_1 : (Int × Int × (List (List Int)) × (List Int) × Unit)) (c_2 : (List Int)) (c_3 : (Int × Int × (List (List Int)) × (List Int) × Unit)) (c_4 : (List Int)) (most : Int) : (Int × Int × (List Int) × (List Int) × (List Int) × (List (List Int)) × (List Int) → Option ((Int × Int × (List (List Int)) × (List Int) × Unit) × Bool)) → Int × Int × (List Int) × (List Int) × (List Int) × (List (List Int)) × (List Int) → Option ((Int × Int × (List (List Int)) × (List Int) × Unit) × Bool) :=
  fun rec x => det_Explore_L4_B letters c c_1 c_2 c_3 c_4 most (fun d d_1 number number_1 l d_2 d_3 => rec (d, d_1, number, number_1, l, d_2, d_3)) x.1 x.2.1 x.2.2.1 x.2.2.2.1 x.2.2.2.2.1 x.2.2.2.2.2.1 x.2.2.2.2.2.2
noncomputable def det_Explore_L4 (letters : Int) (c : (List Int)) (c_1 : (Int × Int × (List (List Int)) × (List Int) × Unit)) (c_2 : (List Int)) (c_3 : (Int × Int × (List (List Int)) × (List Int) × Unit)) (c_4 : (List Int)) (most : Int) (d : Int) (d_1 : Int) (number : (List Int)) (number_1 : (List Int)) (l : (List Int)) (d_2 : (List (List Int))) (d_3 : (List Int)) : Option ((Int × Int × (List (List Int)) × (List Int) × Unit) × Bool) := LFix (det_Explore_L4_F letters c c_1 c_2 c_3 c_4 most ) (d, d_1, number, number_1, l, d_2, d_3)
noncomputable def det_Explore (letters : Int) (first : Int) (c : (List Int)) (c_1 : (Int × Int × (List (List Int)) × (List Int) × Unit)) (c_2 : (List Int)) (c_3 : (Int × Int × (List (List Int)) × (List Int) × Unit)) (c_4 : (List Int)) (most : Int) : Option ((Int × Int × (List (List Int)) × (List Int) × Unit) × Bool) :=
  det_Explore_L4 letters c c_1 c_2 c_3 c_4 most letters (0 : Int) (mputK ([] : List Int) first) (mputV ([] : List Int) ([] : List Int) first (0 : Int)) ([first]) ([] : List (List Int)) ([] : List Int)
theorem det_Explore_J17_ch (r8 : Nat → Int → (List Int) → (List Int) → (List Int) → (List Int) → Option ((Int × Int × (List (List Int)) × (List Int) × Unit) × Bool)) (r8' : Int → (List Int) → (List Int) → (List Int) → (List Int) → Option ((Int × Int × (List (List Int)) × (List Int) × Unit) × Bool)) (h_r8 : ∀ a0 a1 a2 a3 a4, ChO (fun κ => r8 κ a0 a1 a2 a3 a4) (r8' a0 a1 a2 a3 a4)) (t : Int) (row : (List Int)) (n : Int) (number_4 : (List Int)) (number_5 : (List Int)) (l_2 : (List Int)) : ChO (fun κ => det_Explore_J17 t row (r8 κ) n number_4 number_5 l_2) (det_Explore_J17 t row r8' n number_4 number_5 l_2) := by
  unfold det_Explore_J17
  repeat' with_reducible first | exact ChO.const _ | exact h_r8 _ _ _ _ _ | apply ChO.ite | apply ChO.G | apply ChO.both | (apply ChO.bind; intro _)
theorem det_Explore_L8_B_ch (r4 : Nat → Int → Int → (List Int) → (List Int) → (List Int) → (List (List Int)) → (List Int) → Option ((Int × Int × (List (List Int)) × (List Int) × Unit) × Bool)) (r4' : Int → Int → (List Int) → (List Int) → (List Int) → (List (List Int)) → (List Int) → Option ((Int × Int × (List (List Int)) × (List Int) × Unit) × Bool)) (h_r4 : ∀ a0 a1 a2 a3 a4 a5 a6, ChO (fun κ => r4 κ a0 a1 a2 a3 a4 a5 a6) (r4' a0 a1 a2 a3 a4 a5 a6)) (r8 : Nat → Int → (List Int) → (List Int) → (List Int) → (List Int) → Option ((Int × Int × (List (List Int)) × (List Int) × Unit) × Bool)) (r8' : Int → (List Int) → (List Int) → (List Int) → (List Int) → Option ((Int × Int × (List (List Int)) × (List Int) × Unit) × Bool)) (h_r8 : ∀ a0 a1 a2 a3 a4, ChO (fun κ => r8 κ a0 a1 a2 a3 a4) (r8' a0 a1 a2 a3 a4)) (letters : Int) (c : (List Int)) (c_1 : (Int × Int × (List (List Int)) × (List Int) × Unit)) (c_2 : (List Int)) (c_3 : (Int × Int × (List (List Int)) × (List Int) × Unit)) (c_4 : (List Int)) (most : Int) (d : Int) (d_1 : Int) (l : (List Int)) (d_2 : (List (List Int))) (d_3 : (List Int)) (t : Int) (number_2 : (List Int)) (number_3 : (List Int)) (l_1 : (List Int)) (row : (List Int)) : ChO (fun κ => det_Explore_L8_B letters c c_1 c_2 c_3 c_4 most d d_1 l d_2 d_3 (r4 κ) (r8 κ) t number_2 number_3 l_1 row) (det_Explore_L8_B letters c c_1 c_2 c_3 c_4 most d d_1 l d_2 d_3 r4' r8' t number_2 number_3 l_1 row) := by
  unfold det_Explore_L8_B
  repeat' with_reducible first | exact ChO.const _ | exact h_r4 _ _ _ _ _ _ _ | exact h_r8 _ _ _ _ _ | (apply det_Explore_J17_ch <;> assumption) | apply ChO.ite | apply ChO.G | apply ChO.both | (apply ChO.bind; intro _)
theorem det_Explore_L8_cn (r4 : Int → Int → (List Int) → (List Int) → (List Int) → (List (List Int)) → (List Int) → Option ((Int × Int × (List (List Int)) × (List Int) × Unit) × Bool)) (letters : Int) (c : (List Int)) (c_1 : (Int × Int × (List (List Int)) × (List Int) × Unit)) (c_2 : (List Int)) (c_3 : (Int × Int × (List (List Int)) × (List Int) × Unit)) (c_4 : (List Int)) (most : Int) (d : Int) (d_1 : Int) (l : (List Int)) (d_2 : (List (List Int))) (d_3 : (List Int)) : Cn (det_Explore_L8_F letters c c_1 c_2 c_3 c_4 most d d_1 l d_2 d_3 r4) := fun g h hg x => det_Explore_L8_B_ch (fun _ => r4) r4 (fun _ _ _ _ _ _ _ => ChO.const _) (fun κ t number_2 number_3 l_1 row => g κ (t, number_2, number_3, l_1, row)) (fun t number_2 number_3 l_1 row => h (t, number_2, number_3, l_1, row)) (fun t number_2 number_3 l_1 row => hg (t, number_2, number_3, l_1, row)) letters c c_1 c_2 c_3 c_4 most d d_1 l d_2 d_3 x.1 x.2.1 x.2.2.1 x.2.2.2.1 x.2.2.2.2
theorem det_Explore_L8_eq (r4 : Int → Int → (List Int) → (List Int) → (List Int) → (List (List Int)) → (List Int) → Option ((Int × Int × (List (List Int)) × (List Int) × Unit) × Bool)) (letters : Int) (c : (List Int)) (c_1 : (Int × Int × (List (List Int)) × (List Int) × Unit)) (c_2 : (List Int)) (c_3 : (Int × Int × (List (List Int)) × (List Int) × Unit)) (c_4 : (List Int)) (most : Int) (d : Int) (d_1 : Int) (l : (List Int)) (d_2 : (List (List Int))) (d_3 : (List Int)) (t : Int) (number_2 : (List Int)) (number_3 : (List Int)) (l_1 : (List Int)) (row : (List Int)) : det_Explore_L8 letters c c_1 c_2 c_3 c_4 most d d_1 l d_2 d_3 r4 t number_2 number_3 l_1 row = det_Explore_L8_B letters c c_1 c_2 c_3 c_4 most d d_1 l d_2 d_3 r4 (det_Explore_L8 letters c c_1 c_2 c_3 c_4 most d d_1 l d_2 d_3 r4) t number_2 number_3 l_1 row := LFix_eq (det_Explore_L8_cn r4 letters c c_1 c_2 c_3 c_4 most d d_1 l d_2 d_3) (t, number_2, number_3, l_1, row)
theorem det_Explore_L8_ch (r4 : Nat → Int → Int → (List Int) → (List Int) → (List Int) → (List (List Int)) → (List Int) → Option ((Int × Int × (List (List Int)) × (List Int) × Unit) × Bool)) (r4' : Int → Int → (List Int) → (List Int) → (List Int) → (List (List Int)) → (List Int) → Option ((Int × Int × (List (List Int)) × (List Int) × Unit) × Bool)) (h_r4 : ∀ a0 a1 a2 a3 a4 a5 a6, ChO (fun κ => r4 κ a0 a1 a2 a3 a4 a5 a6) (r4' a0 a1 a2 a3 a4 a5 a6)) (letters : Int) (c : (List Int)) (c_1 : (Int × Int × (List (List Int)) × (List Int) × Unit)) (c_2 : (List Int)) (c_3 : (Int × Int × (List (List Int)) × (List Int) × Unit)) (c_4 : (List Int)) (most : Int) (d : Int) (d_1 : Int) (l : (List Int)) (d_2 : (List (List Int))) (d_3 : (List Int)) (t : Int) (number_2 : (List Int)) (number_3 : (List Int)) (l_1 : (List Int)) (row : (List Int)) : ChO (fun κ => det_Explore_L8 letters c c_1 c_2 c_3 c_4 most d d_1 l d_2 d_3 (r4 κ) t number_2 number_3 l_1 row) (det_Explore_L8 letters c c_1 c_2 c_3 c_4 most d d_1 l d_2 d_3 r4' t number_2 number_3 l_1 row) := by
  unfold det_Explore_L8
  exact LFix_ch (fun κ => (det_Explore_L8_cn (r4 κ) letters c c_1 c_2 c_3 c_4 most d d_1 l d_2 d_3).mono) (det_Explore_L8_cn r4' letters c c_1 c_2 c_3 c_4 most d d_1 l d_2 d_3).mono (fun g h hg x => det_Explore_L8_B_ch r4 r4' h_r4 (fun κ t number_2 number_3 l_1 row => g κ (t, number_2, number_3, l_1, row)) (fun t number_2 number_3 l_1 row => h (t, number_2, number_3, l_1, row)) (fun t number_2 number_3 l_1 row => hg (t, number_2, number_3, l_1, row)) letters c c_1 c_2 c_3 c_4 most d d_1 l d_2 d_3 x.1 x.2.1 x.2.2.1 x.2.2.2.1 x.2.2.2.2) _
theorem det_Explore_L4_B_ch (r4 : Nat → Int → Int → (List Int) → (List Int) → (List Int) → (List (List Int)) → (List Int) → Option ((Int × Int × (List (List Int)) × (List Int) × Unit) × Bool)) (r4' : Int → Int → (List Int) → (List Int) → (List Int) → (List (List Int)) → (List Int) → Option ((Int × Int × (List (List Int)) × (List Int) × Unit) × Bool)) (h_r4 : ∀ a0 a1 a2 a3 a4 a5 a6, ChO (fun κ => r4 κ a0 a1 a2 a3 a4 a5 a6) (r4' a0 a1 a2 a3 a4 a5 a6)) (letters : Int) (c : (List Int)) (c_1 : (Int × Int × (List (List Int)) × (List Int) × Unit)) (c_2 : (List Int)) (c_3 : (Int × Int × (List (List Int)) × (List Int) × Unit)) (c_4 : (List Int)) (most : Int) (d : Int) (d_1 : Int) (number : (List Int)) (number_1 : (List Int)) (l : (List Int)) (d_2 : (List (List Int))) (d_3 : (List Int)) : ChO (fun κ => det_Explore_L4_B letters c c_1 c_2 c_3 c_4 most (r4 κ) d d_1 number number_1 l d_2 d_3) (det_Explore_L4_B letters c c_1 c_2 c_3 c_4 most r4' d d_1 number number_1 l d_2 d_3) := by
  unfold det_Explore_L4_B
  repeat' with_reducible first | exact ChO.const _ | exact h_r4 _ _ _ _ _ _ _ | (apply det_Explore_J17_ch <;> assumption) | (apply det_Explore_L8_ch <;> assumption) | apply ChO.ite | apply ChO.G | apply ChO.both | (apply ChO.bind; intro _)
theorem det_Explore_L4_cn  (letters : Int) (c : (List Int)) (c_1 : (Int × Int × (List (List Int)) × (List Int) × Unit)) (c_2 : (List Int)) (c_3 : (Int × Int × (List (List Int)) × (List Int) × Unit)) (c_4 : (List Int)) (most : Int) : Cn (det_Explore_L4_F letters c c_1 c_2 c_3 c_4 most) := fun g h hg x => det_Explore_L4_B_ch  (fun κ d d_1 number number_1 l d_2 d_3 => g κ (d, d_1, number, number_1, l, d_2, d_3)) (fun d d_1 number number_1 l d_2 d_3 => h (d, d_1, number, number_1, l, d_2, d_3)) (fun d d_1 number number_1 l d_2 d_3 => hg (d, d_1, number, number_1, l, d_2, d_3)) letters c c_1 c_2 c_3 c_4 most x.1 x.2.1 x.2.2.1 x.2.2.2.1 x.2.2.2.2.1 x.2.2.2.2.2.1 x.2.2.2.2.2.2
theorem det_Explore_L4_eq  (letters : Int) (c : (List Int)) (c_1 : (Int × Int × (List (List Int)) × (List Int) × Unit)) (c_2 : (List Int)) (c_3 : (Int × Int × (List (List Int)) × (List Int) × Unit)) (c_4 : (List Int)) (most : Int) (d : Int) (d_1 : Int) (number : (List Int)) (number_1 : (List Int)) (l : (List Int)) (d_2 : (List (List Int))) (d_3 : (List Int)) : det_Explore_L4 letters c c_1 c_2 c_3 c_4 most d d_1 number number_1 l d_2 d_3 = det_Explore_L4_B letters c c_1 c_2 c_3 c_4 most (det_Explore_L4 letters c c_1 c_2 c_3 c_4 most) d d_1 number number_1 l d_2 d_3 := LFix_eq (det_Explore_L4_cn letters c c_1 c_2 c_3 c_4 most) (d, d_1, number, number_1, l, d_2, d_3)

noncomputable def det_Smallest_J8 (out : Int) (out_1 : Int) (out_2 : (List (List Int))) (out_3 : (List Int)) : Option (Int × Int × (List (List Int)) × (List Int) × Unit) :=
  some (out, (out_1, (out_2, (out_3, ()))))
noncomputable def det_Smallest_L4_B (d : (Int × Int × (List (List Int)) × (List Int) × Unit)) (y' : (List Int)) (r4 : Int → (List Int) → Option (Int × Int × (List (List Int)) × (List Int) × Unit)) (t : Int) (l : (List Int)) : Option (Int × Int × (List (List Int)) × (List Int) × Unit) :=
  if (decide (t < (y'.length : Int))) = true then
  G (0 ≤ t ∧ t < (y'.length : Int)) (
  G ((t).toNat < y'.length) (
  G (0 ≤ ix y' t ∧ ix y' t < (l.length : Int)) (
  G ((ix y' t).toNat < l.length) (
  G (fits (t + (1 : Int))) (
  r4 (t + (1 : Int)) (l.set (ix y' t).toNat t)))))) else
  G (0 ≤ d.2.1 ∧ d.2.1 < (y'.length : Int)) (
  G ((d.2.1).toNat < y'.length) (
  G (fits ((y'.length : Int) + (1 : Int))) (
  both [(.pair (.int .i64) (.pair (.int .i64) (.pair (.list (.list (.int .i64))) (.pair (.list (.int .i64)) .unit))))] (
  (det_Explore d.1 (ix y' d.2.1) y' (d.1, (d.2.1, (d.2.2.1, (d.2.2.2.1, ())))) l (d.1, (d.2.1, (d.2.2.1, (d.2.2.2.1, ())))) l ((y'.length : Int) + (1 : Int))).bind (fun y'_4 =>
  det_Smallest_J8 y'_4.1.1 y'_4.1.2.1 y'_4.1.2.2.1 y'_4.1.2.2.2.1)) (
  (det_Explore d.1 (ix y' d.2.1) y' (d.1, (d.2.1, (d.2.2.1, (d.2.2.2.1, ())))) l (d.1, (d.2.1, (d.2.2.1, (d.2.2.2.1, ())))) l ((y'.length : Int) + (1 : Int))).bind (fun y'_8 =>
  det_Smallest_J8 y'_8.1.1 y'_8.1.2.1 y'_8.1.2.2.1 y'_8.1.2.2.2.1)))))
noncomputable def det_Smallest_L4_F (d : (Int × Int × (List (List Int)) × (List Int) × Unit)) (y' : (List Int)) : (Int × (List Int) → Option (Int × Int × (List (List Int)) × (List Int) × Unit)) → Int × (List Int) → Option (Int × Int × (List (List Int)) × (List Int) × Unit) :=
  fun rec x => det_Smallest_L4_B d y' (fun t l => rec (t, l)) x.1 x.2
noncomputable def det_Smallest_L4 (d : (Int × Int × (List (List Int)) × (List Int) × Unit)) (y' : (List Int)) (t : Int) (l : (List Int)) : Option (Int × Int × (List (List Int)) × (List Int) × Unit) := LFix (det_Smallest_L4_F d y' ) (t, l)
noncomputable def det_Smallest (d : (Int × Int × (List (List Int)) × (List Int) × Unit)) : Option (Int × Int × (List (List Int)) × (List Int) × Unit) :=
  (det_Classes (d.1, (d.2.1, (d.2.2.1, (d.2.2.2.1, ()))))).bind (fun y' =>
  G (mkOK (y'.length : Int) (y'.length : Int) 8) (
  det_Smallest_L4 d y' (0 : Int) (List.replicate ((y'.length : Int)).toNat (0 : Int))))
theorem det_Smallest_L4_B_ch (r4 : Nat → Int → (List Int) → Option (Int × Int × (List (List Int)) × (List Int) × Unit)) (r4' : Int → (List Int) → Option (Int × Int × (List (List Int)) × (List Int) × Unit)) (h_r4 : ∀ a0 a1, ChO (fun κ => r4 κ a0 a1) (r4' a0 a1)) (d : (Int × Int × (List (List Int)) × (List Int) × Unit)) (y' : (List Int)) (t : Int) (l : (List Int)) : ChO (fun κ => det_Smallest_L4_B d y' (r4 κ) t l) (det_Smallest_L4_B d y' r4' t l) := by
  unfold det_Smallest_L4_B
  repeat' with_reducible first | exact ChO.const _ | exact h_r4 _ _ | apply ChO.ite | apply ChO.G | apply ChO.both | (apply ChO.bind; intro _)
theorem det_Smallest_L4_cn  (d : (Int × Int × (List (List Int)) × (List Int) × Unit)) (y' : (List Int)) : Cn (det_Smallest_L4_F d y') := fun g h hg x => det_Smallest_L4_B_ch  (fun κ t l => g κ (t, l)) (fun t l => h (t, l)) (fun t l => hg (t, l)) d y' x.1 x.2
theorem det_Smallest_L4_eq  (d : (Int × Int × (List (List Int)) × (List Int) × Unit)) (y' : (List Int)) (t : Int) (l : (List Int)) : det_Smallest_L4 d y' t l = det_Smallest_L4_B d y' (det_Smallest_L4 d y') t l := LFix_eq (det_Smallest_L4_cn d y') (t, l)

noncomputable def det_Least (d : (Int × Int × (List (List Int)) × (List Int) × Unit)) : Option ((Int × Int × (List (List Int)) × (List Int) × Unit) × Int) :=
  (det_Check (d.1, (d.2.1, (d.2.2.1, (d.2.2.2.1, ()))))).bind (fun y' =>
  if (decide (¬ y' = (0 : Int))) = true then
  some (((0 : Int), ((0 : Int), ([], ([], ())))), y') else
  (det_Smallest (d.1, (d.2.1, (d.2.2.1, (d.2.2.2.1, ()))))).bind (fun y'_1 =>
  some ((y'_1.1, (y'_1.2.1, (y'_1.2.2.1, (y'_1.2.2.2.1, ())))), (0 : Int))))

noncomputable def two_Check_1 (r : (List (Int × Int × Unit))) (t : (Int × Int × (List (List (Int × Int × Unit))) × (List Int) × Unit)) : Option (Bool) :=
  G (fits (t.1 + (2 : Int))) (
  some (decide (¬ (r.length : Int) = (t.1 + (2 : Int)))))

noncomputable def slices_IndexFunc_4_L2_B (s : (List (List (Int × Int × Unit)))) (c : (Int × Int × (List (List (Int × Int × Unit))) × (List Int) × Unit)) (r2 : Int → Option (Int)) (t : Int) : Option (Int) :=
  if (decide (t < (s.length : Int))) = true then
  G (0 ≤ t ∧ t < (s.length : Int)) (
  (two_Check_1 (ix s t) c).bind (fun y' =>
  if y' = true then
  some t else
  G (fits (t + (1 : Int))) (
  r2 (t + (1 : Int))))) else
  some (-1 : Int)
noncomputable def slices_IndexFunc_4_L2_F (s : (List (List (Int × Int × Unit)))) (c : (Int × Int × (List (List (Int × Int × Unit))) × (List Int) × Unit)) : (Int → Option (Int)) → Int → Option (Int) :=
  fun rec x => slices_IndexFunc_4_L2_B s c (fun t => rec t) x
noncomputable def slices_IndexFunc_4_L2 (s : (List (List (Int × Int × Unit)))) (c : (Int × Int × (List (List (Int × Int × Unit))) × (List Int) × Unit)) (t : Int) : Option (Int) := LFix (slices_IndexFunc_4_L2_F s c ) t
noncomputable def slices_IndexFunc_4 (s : (List (List (Int × Int × Unit)))) (c : (Int × Int × (List (List (Int × Int × Unit))) × (List Int) × Unit)) : Option (Int) :=
  slices_IndexFunc_4_L2 s c (0 : Int)
theorem slices_IndexFunc_4_L2_B_ch (r2 : Nat → Int → Option (Int)) (r2' : Int → Option (Int)) (h_r2 : ∀ a0, ChO (fun κ => r2 κ a0) (r2' a0)) (s : (List (List (Int × Int × Unit)))) (c : (Int × Int × (List (List (Int × Int × Unit))) × (List Int) × Unit)) (t : Int) : ChO (fun κ => slices_IndexFunc_4_L2_B s c (r2 κ) t) (slices_IndexFunc_4_L2_B s c r2' t) := by
  unfold slices_IndexFunc_4_L2_B
  repeat' with_reducible first | exact ChO.const _ | exact h_r2 _ | apply ChO.ite | apply ChO.G | apply ChO.both | (apply ChO.bind; intro _)
theorem slices_IndexFunc_4_L2_cn  (s : (List (List (Int × Int × Unit)))) (c : (Int × Int × (List (List (Int × Int × Unit))) × (List Int) × Unit)) : Cn (slices_IndexFunc_4_L2_F s c) := fun g h hg x => slices_IndexFunc_4_L2_B_ch  (fun κ t => g κ t) (fun t => h t) (fun t => hg t) s c x
theorem slices_IndexFunc_4_L2_eq  (s : (List (List (Int × Int × Unit)))) (c : (Int × Int × (List (List (Int × Int × Unit))) × (List Int) × Unit)) (t : Int) : slices_IndexFunc_4_L2 s c t = slices_IndexFunc_4_L2_B s c (slices_IndexFunc_4_L2 s c) t := LFix_eq (slices_IndexFunc_4_L2_cn s c) t

noncomputable def slices_ContainsFunc_4 (s : (List (List (Int × Int × Unit)))) (c : (Int × Int × (List (List (Int × Int × Unit))) × (List Int) × Unit)) : Option (Bool) :=
  (slices_IndexFunc_4 s c).bind (fun y' =>
  some (decide ((0 : Int) ≤ y')))

noncomputable def two_Check_2 (q : Int) (t : Int) : Option (Bool) :=
  if (decide (q < (0 : Int))) = true then
  some true else
  some (decide (t ≤ q))

noncomputable def two_Check_3_1 (x' : (Int × Int × Unit)) (c : Int) : Option (Bool × Int) :=
  (two_Check_2 x'.1 c).bind (fun y' =>
  if y' = true then
  some (true, c) else
  if (decide (¬ x'.2.1 = (1 : Int))) = true then
  some (decide (¬ x'.2.1 = (-1 : Int)), c) else
  some (false, c))

noncomputable def slices_IndexFunc_6_L2_B (s : (List (Int × Int × Unit))) (r2 : Int → Int → Option (Int × Int)) (t : Int) (l : Int) : Option (Int × Int) :=
  if (decide (t < (s.length : Int))) = true then
  G (0 ≤ t ∧ t < (s.length : Int)) (
  (two_Check_3_1 (ix s t) l).bind (fun y'_3 =>
  if y'_3.1 = true then
  some (t, y'_3.2) else
  G (fits (t + (1 : Int))) (
  r2 (t + (1 : Int)) y'_3.2))) else
  some ((-1 : Int), l)
noncomputable def slices_IndexFunc_6_L2_F (s : (List (Int × Int × Unit))) : (Int × Int → Option (Int × Int)) → Int × Int → Option (Int × Int) :=
  fun rec x => slices_IndexFunc_6_L2_B s (fun t l => rec (t, l)) x.1 x.2
noncomputable def slices_IndexFunc_6_L2 (s : (List (Int × Int × Unit))) (t : Int) (l : Int) : Option (Int × Int) := LFix (slices_IndexFunc_6_L2_F s ) (t, l)
noncomputable def slices_IndexFunc_6 (s : (List (Int × Int × Unit))) (c : Int) : Option (Int × Int) :=
  slices_IndexFunc_6_L2 s (0 : Int) c
theorem slices_IndexFunc_6_L2_B_ch (r2 : Nat → Int → Int → Option (Int × Int)) (r2' : Int → Int → Option (Int × Int)) (h_r2 : ∀ a0 a1, ChO (fun κ => r2 κ a0 a1) (r2' a0 a1)) (s : (List (Int × Int × Unit))) (t : Int) (l : Int) : ChO (fun κ => slices_IndexFunc_6_L2_B s (r2 κ) t l) (slices_IndexFunc_6_L2_B s r2' t l) := by
  unfold slices_IndexFunc_6_L2_B
  repeat' with_reducible first | exact ChO.const _ | exact h_r2 _ _ | apply ChO.ite | apply ChO.G | apply ChO.both | (apply ChO.bind; intro _)
theorem slices_IndexFunc_6_L2_cn  (s : (List (Int × Int × Unit))) : Cn (slices_IndexFunc_6_L2_F s) := fun g h hg x => slices_IndexFunc_6_L2_B_ch  (fun κ t l => g κ (t, l)) (fun t l => h (t, l)) (fun t l => hg (t, l)) s x.1 x.2
theorem slices_IndexFunc_6_L2_eq  (s : (List (Int × Int × Unit))) (t : Int) (l : Int) : slices_IndexFunc_6_L2 s t l = slices_IndexFunc_6_L2_B s (slices_IndexFunc_6_L2 s) t l := LFix_eq (slices_IndexFunc_6_L2_cn s) (t, l)

noncomputable def slices_ContainsFunc_6 (s : (List (Int × Int × Unit))) (c : Int) : Option (Bool × Int) :=
  (slices_IndexFunc_6 s c).bind (fun y'_3 =>
  some (decide ((0 : Int) ≤ y'_3.1), y'_3.2))

noncomputable def two_Check_3 (r : (List (Int × Int × Unit))) (c : Int) : Option (Bool × Int) :=
  (slices_ContainsFunc_6 r c).bind (fun y'_3 =>
  some (y'_3.1, y'_3.2))

noncomputable def slices_IndexFunc_5_L2_B (s : (List (List (Int × Int × Unit)))) (r2 : Int → Int → Option (Int × Int)) (t : Int) (l : Int) : Option (Int × Int) :=
  if (decide (t < (s.length : Int))) = true then
  G (0 ≤ t ∧ t < (s.length : Int)) (
  (two_Check_3 (ix s t) l).bind (fun y'_3 =>
  if y'_3.1 = true then
  some (t, y'_3.2) else
  G (fits (t + (1 : Int))) (
  r2 (t + (1 : Int)) y'_3.2))) else
  some ((-1 : Int), l)
noncomputable def slices_IndexFunc_5_L2_F (s : (List (List (Int × Int × Unit)))) : (Int × Int → Option (Int × Int)) → Int × Int → Option (Int × Int) :=
  fun rec x => slices_IndexFunc_5_L2_B s (fun t l => rec (t, l)) x.1 x.2
noncomputable def slices_IndexFunc_5_L2 (s : (List (List (Int × Int × Unit)))) (t : Int) (l : Int) : Option (Int × Int) := LFix (slices_IndexFunc_5_L2_F s ) (t, l)
noncomputable def slices_IndexFunc_5 (s : (List (List (Int × Int × Unit)))) (c : Int) : Option (Int × Int) :=
  slices_IndexFunc_5_L2 s (0 : Int) c
theorem slices_IndexFunc_5_L2_B_ch (r2 : Nat → Int → Int → Option (Int × Int)) (r2' : Int → Int → Option (Int × Int)) (h_r2 : ∀ a0 a1, ChO (fun κ => r2 κ a0 a1) (r2' a0 a1)) (s : (List (List (Int × Int × Unit)))) (t : Int) (l : Int) : ChO (fun κ => slices_IndexFunc_5_L2_B s (r2 κ) t l) (slices_IndexFunc_5_L2_B s r2' t l) := by
  unfold slices_IndexFunc_5_L2_B
  repeat' with_reducible first | exact ChO.const _ | exact h_r2 _ _ | apply ChO.ite | apply ChO.G | apply ChO.both | (apply ChO.bind; intro _)
theorem slices_IndexFunc_5_L2_cn  (s : (List (List (Int × Int × Unit)))) : Cn (slices_IndexFunc_5_L2_F s) := fun g h hg x => slices_IndexFunc_5_L2_B_ch  (fun κ t l => g κ (t, l)) (fun t l => h (t, l)) (fun t l => hg (t, l)) s x.1 x.2
theorem slices_IndexFunc_5_L2_eq  (s : (List (List (Int × Int × Unit)))) (t : Int) (l : Int) : slices_IndexFunc_5_L2 s t l = slices_IndexFunc_5_L2_B s (slices_IndexFunc_5_L2 s) t l := LFix_eq (slices_IndexFunc_5_L2_cn s) (t, l)

noncomputable def slices_ContainsFunc_5 (s : (List (List (Int × Int × Unit)))) (c : Int) : Option (Bool × Int) :=
  (slices_IndexFunc_5 s c).bind (fun y'_3 =>
  some (decide ((0 : Int) ≤ y'_3.1), y'_3.2))

noncomputable def two_Check_4 (m : Int) : Option (Bool) :=
  if (decide (¬ m = (0 : Int))) = true then
  some (decide (¬ m = (1 : Int))) else
  some false

noncomputable def slices_IndexFunc_7_L2_B (s : (List Int)) (r2 : Int → Option (Int)) (t : Int) : Option (Int) :=
  if (decide (t < (s.length : Int))) = true then
  G (0 ≤ t ∧ t < (s.length : Int)) (
  (two_Check_4 (ix s t)).bind (fun y' =>
  if y' = true then
  some t else
  G (fits (t + (1 : Int))) (
  r2 (t + (1 : Int))))) else
  some (-1 : Int)
noncomputable def slices_IndexFunc_7_L2_F (s : (List Int)) : (Int → Option (Int)) → Int → Option (Int) :=
  fun rec x => slices_IndexFunc_7_L2_B s (fun t => rec t) x
noncomputable def slices_IndexFunc_7_L2 (s : (List Int)) (t : Int) : Option (Int) := LFix (slices_IndexFunc_7_L2_F s ) t
noncomputable def slices_IndexFunc_7 (s : (List Int)) : Option (Int) :=
  slices_IndexFunc_7_L2 s (0 : Int)
theorem slices_IndexFunc_7_L2_B_ch (r2 : Nat → Int → Option (Int)) (r2' : Int → Option (Int)) (h_r2 : ∀ a0, ChO (fun κ => r2 κ a0) (r2' a0)) (s : (List Int)) (t : Int) : ChO (fun κ => slices_IndexFunc_7_L2_B s (r2 κ) t) (slices_IndexFunc_7_L2_B s r2' t) := by
  unfold slices_IndexFunc_7_L2_B
  repeat' with_reducible first | exact ChO.const _ | exact h_r2 _ | apply ChO.ite | apply ChO.G | apply ChO.both | (apply ChO.bind; intro _)
theorem slices_IndexFunc_7_L2_cn  (s : (List Int)) : Cn (slices_IndexFunc_7_L2_F s) := fun g h hg x => slices_IndexFunc_7_L2_B_ch  (fun κ t => g κ t) (fun t => h t) (fun t => hg t) s x
theorem slices_IndexFunc_7_L2_eq  (s : (List Int)) (t : Int) : slices_IndexFunc_7_L2 s t = slices_IndexFunc_7_L2_B s (slices_IndexFunc_7_L2 s) t := LFix_eq (slices_IndexFunc_7_L2_cn s) t

noncomputable def slices_ContainsFunc_7 (s : (List Int)) : Option (Bool) :=
  (slices_IndexFunc_7 s).bind (fun y' =>
  some (decide ((0 : Int) ≤ y')))

noncomputable def two_Check (t : (Int × Int × (List (List (Int × Int × Unit))) × (List Int) × Unit)) : Option (Int) :=
  if (decide (t.1 < (1 : Int))) = true then
  some (2 : Int) else
  if (decide ((4 : Int) < t.1)) = true then
  some (2 : Int) else
  if (decide ((t.2.2.1.length : Int) < (1 : Int))) = true then
  some (1 : Int) else
  if (decide ((4 : Int) < (t.2.2.1.length : Int))) = true then
  some (1 : Int) else
  if (decide (¬ (t.2.2.2.1.length : Int) = (t.2.2.1.length : Int))) = true then
  some (3 : Int) else
  (slices_ContainsFunc_4 t.2.2.1 (t.1, (t.2.1, (t.2.2.1, (t.2.2.2.1, ()))))).bind (fun y' =>
  if y' = true then
  some (3 : Int) else
  (two_Check_2 t.2.1 (t.2.2.1.length : Int)).bind (fun y'_1 =>
  if y'_1 = true then
  some (2 : Int) else
  (slices_ContainsFunc_5 t.2.2.1 (t.2.2.1.length : Int)).bind (fun y'_6 =>
  if y'_6.1 = true then
  some (2 : Int) else
  (slices_ContainsFunc_7 t.2.2.2.1).bind (fun y'_5 =>
  if y'_5 = true then
  some (2 : Int) else
  some (0 : Int)))))

noncomputable def two_Det_1_L2_B (ahead : (Int × Int × Int × Int × Int × Unit)) (first : Bool) (letter : Int) (t : Int) (t_1 : (Int × Int × (List (List (Int × Int × Unit))) × (List Int) × Unit)) (r2 : Int → Int → Option (Int)) (q_1 : Int) (t_2 : Int) : Option (Int) :=
  if (decide (t_2 < (t + (1 : Int)))) = true then
  G (0 ≤ q_1 ∧ q_1 < (t_1.2.2.1.length : Int)) (
  G (0 ≤ letter ∧ letter < ((ix t_1.2.2.1 q_1).length : Int)) (
  if (decide ((((ix (ix t_1.2.2.1 q_1) letter).2).1) = (1 : Int))) = true then
  some ((ix (ix t_1.2.2.1 q_1) letter).1) else
  if first = true then
  some (-1 : Int) else
  G (0 ≤ (ix (ix t_1.2.2.1 q_1) letter).1 ∧ (ix (ix t_1.2.2.1 q_1) letter).1 < (5 : Int)) (
  G (((ix (ix t_1.2.2.1 q_1) letter).1).toNat < 5) (
  if (decide (([ahead.1, ahead.2.1, ahead.2.2.1, ahead.2.2.2.1, ahead.2.2.2.2.1].getD ((ix (ix t_1.2.2.1 q_1) letter).1).toNat 0) < (0 : Int))) = true then
  some (-1 : Int) else
  G (fits (t_2 + (1 : Int))) (
  r2 ([ahead.1, ahead.2.1, ahead.2.2.1, ahead.2.2.2.1, ahead.2.2.2.2.1].getD ((ix (ix t_1.2.2.1 q_1) letter).1).toNat 0) (t_2 + (1 : Int))))))) else
  some (-1 : Int)
noncomputable def two_Det_1_L2_F (ahead : (Int × Int × Int × Int × Int × Unit)) (first : Bool) (letter : Int) (t : Int) (t_1 : (Int × Int × (List (List (Int × Int × Unit))) × (List Int) × Unit)) : (Int × Int → Option (Int)) → Int × Int → Option (Int) :=
  fun rec x => two_Det_1_L2_B ahead first letter t t_1 (fun q_1 t_2 => rec (q_1, t_2)) x.1 x.2
noncomputable def two_Det_1_L2 (ahead : (Int × Int × Int × Int × Int × Unit)) (first : Bool) (letter : Int) (t : Int) (t_1 : (Int × Int × (List (List (Int × Int × Unit))) × (List Int) × Unit)) (q_1 : Int) (t_2 : Int) : Option (Int) := LFix (two_Det_1_L2_F ahead first letter t t_1 ) (q_1, t_2)
noncomputable def two_Det_1 (ahead : (Int × Int × Int × Int × Int × Unit)) (first : Bool) (q : Int) (letter : Int) (t : Int) (t_1 : (Int × Int × (List (List (Int × Int × Unit))) × (List Int) × Unit)) : Option (Int) :=
  G (fits (t + (1 : Int))) (
  two_Det_1_L2 ahead first letter t t_1 q (0 : Int))
theorem two_Det_1_L2_B_ch (r2 : Nat → Int → Int → Option (Int)) (r2' : Int → Int → Option (Int)) (h_r2 : ∀ a0 a1, ChO (fun κ => r2 κ a0 a1) (r2' a0 a1)) (ahead : (Int × Int × Int × Int × Int × Unit)) (first : Bool) (letter : Int) (t : Int) (t_1 : (Int × Int × (List (List (Int × Int × Unit))) × (List Int) × Unit)) (q_1 : Int) (t_2 : Int) : ChO (fun κ => two_Det_1_L2_B ahead first letter t t_1 (r2 κ) q_1 t_2) (two_Det_1_L2_B ahead first letter t t_1 r2' q_1 t_2) := by
  unfold two_Det_1_L2_B
  repeat' with_reducible first | exact ChO.const _ | exact h_r2 _ _ | apply ChO.ite | apply ChO.G | apply ChO.both | (apply ChO.bind; intro _)
theorem two_Det_1_L2_cn  (ahead : (Int × Int × Int × Int × Int × Unit)) (first : Bool) (letter : Int) (t : Int) (t_1 : (Int × Int × (List (List (Int × Int × Unit))) × (List Int) × Unit)) : Cn (two_Det_1_L2_F ahead first letter t t_1) := fun g h hg x => two_Det_1_L2_B_ch  (fun κ q_1 t_2 => g κ (q_1, t_2)) (fun q_1 t_2 => h (q_1, t_2)) (fun q_1 t_2 => hg (q_1, t_2)) ahead first letter t t_1 x.1 x.2
theorem two_Det_1_L2_eq  (ahead : (Int × Int × Int × Int × Int × Unit)) (first : Bool) (letter : Int) (t : Int) (t_1 : (Int × Int × (List (List (Int × Int × Unit))) × (List Int) × Unit)) (q_1 : Int) (t_2 : Int) : two_Det_1_L2 ahead first letter t t_1 q_1 t_2 = two_Det_1_L2_B ahead first letter t t_1 (two_Det_1_L2 ahead first letter t t_1) q_1 t_2 := LFix_eq (two_Det_1_L2_cn ahead first letter t t_1) (q_1, t_2)

noncomputable def two_Det_2_L3_B (s : (Int × Int × Int × Int × Int × Unit)) (letter : Int) (t : Int) (c : Int) (c_1 : (Int × Int × (List (List (Int × Int × Unit))) × (List Int) × Unit)) (r3 : Int → Int → Int → Int → Int → Int → Option ((Int × Int × Int × Int × Int × Unit) × Int × Int × Int × (List (List (Int × Int × Unit))) × (List Int) × Unit)) (t_1 : Int) (next' : Int) (next'_1 : Int) (next'_2 : Int) (next'_3 : Int) (next'_4 : Int) : Option ((Int × Int × Int × Int × Int × Unit) × Int × Int × Int × (List (List (Int × Int × Unit))) × (List Int) × Unit) :=
  if (decide (t_1 < t)) = true then
  (two_Det_1 (s.1, (s.2.1, (s.2.2.1, (s.2.2.2.1, (s.2.2.2.2.1, ()))))) false t_1 letter c c_1).bind (fun y' =>
  G (0 ≤ t_1 ∧ t_1 < (5 : Int)) (
  G ((t_1).toNat < 5) (
  G (fits (t_1 + (1 : Int))) (
  r3 (t_1 + (1 : Int)) (([next', next'_1, next'_2, next'_3, next'_4].set (t_1).toNat y').getD 0 0) (([next', next'_1, next'_2, next'_3, next'_4].set (t_1).toNat y').getD 1 0) (([next', next'_1, next'_2, next'_3, next'_4].set (t_1).toNat y').getD 2 0) (([next', next'_1, next'_2, next'_3, next'_4].set (t_1).toNat y').getD 3 0) (([next', next'_1, next'_2, next'_3, next'_4].set (t_1).toNat y').getD 4 0))))) else
  if (decide ((0 : Int) ≤ s.2.2.2.2.1)) = true then
  (two_Det_1 (s.1, (s.2.1, (s.2.2.1, (s.2.2.2.1, (s.2.2.2.2.1, ()))))) false s.2.2.2.2.1 letter c c_1).bind (fun y'_1 =>
  some ((next', (next'_1, (next'_2, (next'_3, (y'_1, ()))))), c, c_1)) else
  some ((next', (next'_1, (next'_2, (next'_3, (next'_4, ()))))), c, c_1)
noncomputable def two_Det_2_L3_F (s : (Int × Int × Int × Int × Int × Unit)) (letter : Int) (t : Int) (c : Int) (c_1 : (Int × Int × (List (List (Int × Int × Unit))) × (List Int) × Unit)) : (Int × Int × Int × Int × Int × Int → Option ((Int × Int × Int × Int × Int × Unit) × Int × Int × Int × (List (List (Int × Int × Unit))) × (List Int) × Unit)) → Int × Int × Int × Int × Int × Int → Option ((Int × Int × Int × Int × Int × Unit) × Int × Int × Int × (List (List (Int × Int × Unit))) × (List Int) × Unit) :=
  fun rec x => two_Det_2_L3_B s letter t c c_1 (fun t_1 next' next'_1 next'_2 next'_3 next'_4 => rec (t_1, next', next'_1, next'_2, next'_3, next'_4)) x.1 x.2.1 x.2.2.1 x.2.2.2.1 x.2.2.2.2.1 x.2.2.2.2.2
noncomputable def two_Det_2_L3 (s : (Int × Int × Int × Int × Int × Unit)) (letter : Int) (t : Int) (c : Int) (c_1 : (Int × Int × (List (List (Int × Int × Unit))) × (List Int) × Unit)) (t_1 : Int) (next' : Int) (next'_1 : Int) (next'_2 : Int) (next'_3 : Int) (next'_4 : Int) : Option ((Int × Int × Int × Int × Int × Unit) × Int × Int × Int × (List (List (Int × Int × Unit))) × (List Int) × Unit) := LFix (two_Det_2_L3_F s letter t c c_1 ) (t_1, next', next'_1, next'_2, next'_3, next'_4)
noncomputable def two_Det_2 (s : (Int × Int × Int × Int × Int × Unit)) (letter : Int) (t : Int) (c : Int) (c_1 : (Int × Int × (List (List (Int × Int × Unit))) × (List Int) × Unit)) : Option ((Int × Int × Int × Int × Int × Unit) × Int × Int × Int × (List (List (Int × Int × Unit))) × (List Int) × Unit) :=
  two_Det_2_L3 s letter t c c_1 (0 : Int) (-1 : Int) (-1 : Int) (-1 : Int) (-1 : Int) (-1 : Int)
theorem two_Det_2_L3_B_ch (r3 : Nat → Int → Int → Int → Int → Int → Int → Option ((Int × Int × Int × Int × Int × Unit) × Int × Int × Int × (List (List (Int × Int × Unit))) × (List Int) × Unit)) (r3' : Int → Int → Int → Int → Int → Int → Option ((Int × Int × Int × Int × Int × Unit) × Int × Int × Int × (List (List (Int × Int × Unit))) × (List Int) × Unit)) (h_r3 : ∀ a0 a1 a2 a3 a4 a5, ChO (fun κ => r3 κ a0 a1 a2 a3 a4 a5) (r3' a0 a1 a2 a3 a4 a5)) (s : (Int × Int × Int × Int × Int × Unit)) (letter : Int) (t : Int) (c : Int) (c_1 : (Int × Int × (List (List (Int × Int × Unit))) × (List Int) × Unit)) (t_1 : Int) (next' : Int) (next'_1 : Int) (next'_2 : Int) (next'_3 : Int) (next'_4 : Int) : ChO (fun κ => two_Det_2_L3_B s letter t c c_1 (r3 κ) t_1 next' next'_1 next'_2 next'_3 next'_4) (two_Det_2_L3_B s letter t c c_1 r3' t_1 next' next'_1 next'_2 next'_3 next'_4) := by
  unfold two_Det_2_L3_B
  repeat' with_reducible first | exact ChO.const _ | exact h_r3 _ _ _ _ _ _ | apply ChO.ite | apply ChO.G | apply ChO.both | (apply ChO.bind; intro _)
theorem two_Det_2_L3_cn  (s : (Int × Int × Int × Int × Int × Unit)) (letter : Int) (t : Int) (c : Int) (c_1 : (Int × Int × (List (List (Int × Int × Unit))) × (List Int) × Unit)) : Cn (two_Det_2_L3_F s letter t c c_1) := fun g h hg x => two_Det_2_L3_B_ch  (fun κ t_1 next' next'_1 next'_2 next'_3 next'_4 => g κ (t_1, next', next'_1, next'_2, next'_3, next'_4)) (fun t_1 next' next'_1 next'_2 next'_3 next'_4 => h (t_1, next', next'_1, next'_2, next'_3, next'_4)) (fun t_1 next' next'_1 next'_2 next'_3 next'_4 => hg (t_1, next', next'_1, next'_2, next'_3, next'_4)) s letter t c c_1 x.1 x.2.1 x.2.2.1 x.2.2.2.1 x.2.2.2.2.1 x.2.2.2.2.2
theorem two_Det_2_L3_eq  (s : (Int × Int × Int × Int × Int × Unit)) (letter : Int) (t : Int) (c : Int) (c_1 : (Int × Int × (List (List (Int × Int × Unit))) × (List Int) × Unit)) (t_1 : Int) (next' : Int) (next'_1 : Int) (next'_2 : Int) (next'_3 : Int) (next'_4 : Int) : two_Det_2_L3 s letter t c c_1 t_1 next' next'_1 next'_2 next'_3 next'_4 = two_Det_2_L3_B s letter t c c_1 (two_Det_2_L3 s letter t c c_1) t_1 next' next'_1 next'_2 next'_3 next'_4 := LFix_eq (two_Det_2_L3_cn s letter t c c_1) (t_1, next', next'_1, next'_2, next'_3, next'_4)

noncomputable def two_Det_3 (s : (Int × Int × Int × Int × Int × Unit)) (t : (Int × Int × (List (List (Int × Int × Unit))) × (List Int) × Unit)) (c : Int) (c_1 : (Int × Int × (List (List (Int × Int × Unit))) × (List Int) × Unit)) : Option (Int × Int × Int × Int × (List (List (Int × Int × Unit))) × (List Int) × Unit) :=
  if (decide (s.2.2.2.2.1 < (0 : Int))) = true then
  some ((0 : Int), c, c_1) else
  G (fits (t.1 + (1 : Int))) (
  (two_Det_1 (s.1, (s.2.1, (s.2.2.1, (s.2.2.2.1, (s.2.2.2.2.1, ()))))) false s.2.2.2.2.1 (t.1 + (1 : Int)) c c_1).bind (fun y' =>
  if (decide ((0 : Int) ≤ y')) = true then
  G (0 ≤ y' ∧ y' < (t.2.2.2.1.length : Int)) (
  some (ix t.2.2.2.1 y', c, c_1)) else
  some ((0 : Int), c, c_1)))

noncomputable def det_Explore_1_J17 (next'_1 : Int) (mark_1 : (Int × Int × (List (List (Int × Int × Unit))) × (List Int) × Unit)) (t : Int) (row : (List Int)) (r8 : (Int → (Int × Int × (List (List (Int × Int × Unit))) × (List Int) × Unit) → Int → Int → (Int × Int × (List (List (Int × Int × Unit))) × (List Int) × Unit) → (List (Int × Int × Int × Int × Int × Unit)) → (List Int) → (List (Int × Int × Int × Int × Int × Unit)) → (List Int) → Option ((Int × Int × (List (List Int)) × (List Int) × Unit) × Bool))) (y'_1 : Int) (y'_2 : (Int × Int × (List (List (Int × Int × Unit))) × (List Int) × Unit)) (n : Int) (number_4 : (List (Int × Int × Int × Int × Int × Unit))) (number_5 : (List Int)) (l_6 : (List (Int × Int × Int × Int × Int × Unit))) : Option ((Int × Int × (List (List Int)) × (List Int) × Unit) × Bool) :=
  G (0 ≤ t ∧ t < (row.length : Int)) (
  G ((t).toNat < row.length) (
  G (fits (t + (1 : Int))) (
  r8 next'_1 mark_1 (t + (1 : Int)) y'_1 y'_2 number_4 number_5 l_6 (row.set (t).toNat n))))
noncomputable def det_Explore_1_L8_B (letters : Int) (most : Int) (d : Int) (d_1 : Int) (l_2 : (List (Int × Int × Int × Int × Int × Unit))) (d_2 : (List (List Int))) (d_3 : (List Int)) (r4 : (Int → (Int × Int × (List (List (Int × Int × Unit))) × (List Int) × Unit) → Int → (Int × Int × (List (List (Int × Int × Unit))) × (List Int) × Unit) → Int → Int → (List (Int × Int × Int × Int × Int × Unit)) → (List Int) → (List (Int × Int × Int × Int × Int × Unit)) → (List (List Int)) → (List Int) → Option ((Int × Int × (List (List Int)) × (List Int) × Unit) × Bool))) (r8 : Int → (Int × Int × (List (List (Int × Int × Unit))) × (List Int) × Unit) → Int → Int → (Int × Int × (List (List (Int × Int × Unit))) × (List Int) × Unit) → (List (Int × Int × Int × Int × Int × Unit)) → (List Int) → (List (Int × Int × Int × Int × Int × Unit)) → (List Int) → Option ((Int × Int × (List (List Int)) × (List Int) × Unit) × Bool)) (next'_1 : Int) (mark_1 : (Int × Int × (List (List (Int × Int × Unit))) × (List Int) × Unit)) (t : Int) (l_3 : Int) (l_4 : (Int × Int × (List (List (Int × Int × Unit))) × (List Int) × Unit)) (number_2 : (List (Int × Int × Int × Int × Int × Unit))) (number_3 : (List Int)) (l_5 : (List (Int × Int × Int × Int × Int × Unit))) (row : (List Int)) : Option ((Int × Int × (List (List Int)) × (List Int) × Unit) × Bool) :=
  if (decide (t < letters)) = true then
  (two_Det_2 ((ix l_2 (d_2.length : Int)).1, (((ix l_2 (d_2.length : Int)).2).1, ((((ix l_2 (d_2.length : Int)).2).2).1, (((((ix l_2 (d_2.length : Int)).2).2).2).1, ((((((ix l_2 (d_2.length : Int)).2).2).2).2).1, ()))))) t next'_1 l_3 l_4).bind (fun y'_4 =>
  if (!(mhas number_2 (y'_4.1.1, (y'_4.1.2.1, (y'_4.1.2.2.1, (y'_4.1.2.2.2.1, (y'_4.1.2.2.2.2.1, ()))))))) = true then
  if (decide ((l_5.length : Int) = most)) = true then
  some (((0 : Int), ((0 : Int), ([], ([], ())))), false) else
  G (room l_5 ([(y'_4.1.1, (y'_4.1.2.1, (y'_4.1.2.2.1, (y'_4.1.2.2.2.1, (y'_4.1.2.2.2.2.1, ())))))]) 40) (
  det_Explore_1_J17 next'_1 mark_1 t row r8 y'_4.2.1 y'_4.2.2 (l_5.length : Int) (mputK number_2 (y'_4.1.1, (y'_4.1.2.1, (y'_4.1.2.2.1, (y'_4.1.2.2.2.1, (y'_4.1.2.2.2.2.1, ())))))) (mputV number_2 number_3 (y'_4.1.1, (y'_4.1.2.1, (y'_4.1.2.2.1, (y'_4.1.2.2.2.1, (y'_4.1.2.2.2.2.1, ()))))) (l_5.length : Int)) (l_5 ++ ([(y'_4.1.1, (y'_4.1.2.1, (y'_4.1.2.2.1, (y'_4.1.2.2.2.1, (y'_4.1.2.2.2.2.1, ())))))]))) else
  det_Explore_1_J17 next'_1 mark_1 t row r8 y'_4.2.1 y'_4.2.2 (mget number_2 number_3 (y'_4.1.1, (y'_4.1.2.1, (y'_4.1.2.2.1, (y'_4.1.2.2.2.1, (y'_4.1.2.2.2.2.1, ()))))) (0 : Int)) number_2 number_3 l_5) else
  G (room d_2 ([row]) 24) (
  both [(.pair (.int .i64) (.pair (.int .i64) (.pair (.list (.list (.int .i64))) (.pair (.list (.int .i64)) .unit)))), .bool] (
  (two_Det_3 ((ix l_2 (d_2.length : Int)).1, (((ix l_2 (d_2.length : Int)).2).1, ((((ix l_2 (d_2.length : Int)).2).2).1, (((((ix l_2 (d_2.length : Int)).2).2).2).1, ((((((ix l_2 (d_2.length : Int)).2).2).2).2).1, ()))))) mark_1 l_3 l_4).bind (fun y'_9 =>
  G (room d_3 ([y'_9.1]) 8) (
  r4 next'_1 mark_1 y'_9.2.1 y'_9.2.2 d d_1 number_2 number_3 l_5 (d_2 ++ ([row])) (d_3 ++ ([y'_9.1]))))) (
  (two_Det_3 ((ix l_2 (d_2.length : Int)).1, (((ix l_2 (d_2.length : Int)).2).1, ((((ix l_2 (d_2.length : Int)).2).2).1, (((((ix l_2 (d_2.length : Int)).2).2).2).1, ((((((ix l_2 (d_2.length : Int)).2).2).2).2).1, ()))))) mark_1 l_3 l_4).bind (fun y'_14 =>
  G (room d_3 ([y'_14.1]) 8) (
  r4 next'_1 mark_1 y'_14.2.1 y'_14.2.2 d d_1 number_2 number_3 l_5 (d_2 ++ ([row])) (d_3 ++ ([y'_14.1]))))))
noncomputable def det_Explore_1_L8_F (letters : Int) (most : Int) (d : Int) (d_1 : Int) (l_2 : (List (Int × Int × Int × Int × Int × Unit))) (d_2 : (List (List Int))) (d_3 : (List Int)) (r4 : (Int → (Int × Int × (List (List (Int × Int × Unit))) × (List Int) × Unit) → Int → (Int × Int × (List (List (Int × Int × Unit))) × (List Int) × Unit) → Int → Int → (List (Int × Int × Int × Int × Int × Unit)) → (List Int) → (List (Int × Int × Int × Int × Int × Unit)) → (List (List Int)) → (List Int) → Option ((Int × Int × (List (List Int)) × (List Int) × Unit) × Bool))) : (Int × (Int × Int × (List (List (Int × Int × Unit))) × (List Int) × Unit) × Int × Int × (Int × Int × (List (List (Int × Int × Unit))) × (List Int) × Unit) × (List (Int × Int × Int × Int × Int × Unit)) × (List Int) × (List (Int × Int × Int × Int × Int × Unit)) × (List Int) → Option ((Int × Int × (List (List Int)) × (List Int) × Unit) × Bool)) → Int × (Int × Int × (List (List (Int × Int × Unit))) × (List Int) × Unit) × Int × Int × (Int × Int × (List (List (Int × Int × Unit))) × (List Int) × Unit) × (List (Int × Int × Int × Int × Int × Unit)) × (List Int) × (List (Int × Int × Int × Int × Int × Unit)) × (List Int) → Option ((Int × Int × (List (List Int)) × (List Int) × Unit) × Bool) :=
  fun rec x => det_Explore_1_L8_B letters most d d_1 l_2 d_2 d_3 r4 (fun next'_1 mark_1 t l_3 l_4 number_2 number_3 l_5 row => rec (next'_1, mark_1, t, l_3, l_4, number_2, number_3, l_5, row)) x.1 x.2.1 x.2.2.1 x.2.2.2.1 x.2.2.2.2.1 x.2.2.2.2.2.1 x.2.2.2.2.2.2.1 x.2.2.2.2.2.2.2.1 x.2.2.2.2.2.2.2.2
noncomputable def det_Explore_1_L8 (letters : Int) (most : Int) (d : Int) (d_1 : Int) (l_2 : (List (Int × Int × Int × Int × Int × Unit))) (d_2 : (List (List Int))) (d_3 : (List Int)) (r4 : (Int → (Int × Int × (List (List (Int × Int × Unit))) × (List Int) × Unit) → Int → (Int × Int × (List (List (Int × Int × Unit))) × (List Int) × Unit) → Int → Int → (List (Int × Int × Int × Int × Int × Unit)) → (List Int) → (List (Int × Int × Int × Int × Int × Unit)) → (List (List Int)) → (List Int) → Option ((Int × Int × (List (List Int)) × (List Int) × Unit) × Bool))) (next'_1 : Int) (mark_1 : (Int × Int × (List (List (Int × Int × Unit))) × (List Int) × Unit)) (t : Int) (l_3 : Int) (l_4 : (Int × Int × (List (List (Int × Int × Unit))) × (List Int) × Unit)) (number_2 : (List (Int × Int × Int × Int × Int × Unit))) (number_3 : (List Int)) (l_5 : (List (Int × Int × Int × Int × Int × Unit))) (row : (List Int)) : Option ((Int × Int × (List (List Int)) × (List Int) × Unit) × Bool) := LFix (det_Explore_1_L8_F letters most d d_1 l_2 d_2 d_3 r4 ) (next'_1, mark_1, t, l_3, l_4, number_2, number_3, l_5, row)
noncomputable def det_Explore_1_J21 (d_4 : Int) (d_5 : Int) (l_7 : (List (List Int))) (l_8 : (List Int)) : Option ((Int × Int × (List (List Int)) × (List Int) × Unit) × Bool) :=
  some ((d_4, (d_5, (l_7, (l_8, ())))), true)
noncomputable def det_Explore_1_L4_B (letters : Int) (most : Int) (r4 : Int → (Int × Int × (List (List (Int × Int × Unit))) × (List Int) × Unit) → Int → (Int × Int × (List (List (Int × Int × Unit))) × (List Int) × Unit) → Int → Int → (List (Int × Int × Int × Int × Int × Unit)) → (List Int) → (List (Int × Int × Int × Int × Int × Unit)) → (List (List Int)) → (List Int) → Option ((Int × Int × (List (List Int)) × (List Int) × Unit) × Bool)) (next' : Int) (mark : (Int × Int × (List (List (Int × Int × Unit))) × (List Int) × Unit)) (l : Int) (l_1 : (Int × Int × (List (List (Int × Int × Unit))) × (List Int) × Unit)) (d : Int) (d_1 : Int) (number : (List (Int × Int × Int × Int × Int × Unit))) (number_1 : (List Int)) (l_2 : (List (Int × Int × Int × Int × Int × Unit))) (d_2 : (List (List Int))) (d_3 : (List Int)) : Option ((Int × Int × (List (List Int)) × (List Int) × Unit) × Bool) :=
  if (decide ((d_2.length : Int) < (l_2.length : Int))) = true then
  G (0 ≤ (d_2.length : Int) ∧ (d_2.length : Int) < (l_2.length : Int)) (
  G (((d_2.length : Int)).toNat < l_2.length) (
  G (mkOK letters letters 8) (
  det_Explore_1_L8 letters most d d_1 l_2 d_2 d_3 r4 next' mark (0 : Int) l l_1 number number_1 l_2 (List.replicate (letters).toNat (0 : Int))))) else
  det_Explore_1_J21 d d_1 d_2 d_3
noncomputable def det_Explore_1_L4_F (letters : Int) (most : Int) : (Int × (Int × Int × (List (List (Int × Int × Unit))) × (List Int) × Unit) × Int × (Int × Int × (List (List (Int × Int × Unit))) × (List Int) × Unit) × Int × Int × (List (Int × Int × Int × Int × Int × Unit)) × (List Int) × (List (Int × Int × Int × Int × Int × Unit)) × (List (List Int)) × (List Int) → Option ((Int × Int × (List (List Int)) × (List Int) × Unit) × Bool)) → Int × (Int × Int × (List (List (Int × Int × Unit))) × (List Int) × Unit) × Int × (Int × Int × (List (List (Int × Int × Unit))) × (List Int) × Unit) × Int × Int × (List (Int × Int × Int × Int × Int × Unit)) × (List Int) × (List (Int × Int × Int × Int × Int × Unit)) × (List (List Int)) × (List Int) → Option ((Int × Int × (List (List Int)) × (List Int) × Unit) × Bool) :=
  fun rec x => det_Explore_1_L4_B letters most (fun next' mark l l_1 d d_1 number number_1 l_2 d_2 d_3 => rec (next', mark, l, l_1, d, d_1, number, number_1, l_2, d_2, d_3)) x.1 x.2.1 x.2.2.1 x.2.2.2.1 x.2.2.2.2.1 x.2.2.2.2.2.1 x.2.2.2.2.2.2.1 x.2.2.2.2.2.2.2.1 x.2.2.2.2.2.2.2.2.1 x.2.2.2.2.2.2.2.2.2.1 x.2.2.2.2.2.2.2.2.2.2
noncomputable def det_Explore_1_L4 (letters : Int) (most : Int) (next' : Int) (mark : (Int × Int × (List (List (Int × Int × Unit))) × (List Int) × Unit)) (l : Int) (l_1 : (Int × Int × (List (List (Int × Int × Unit))) × (List Int) × Unit)) (d : Int) (d_1 : Int) (number : (List (Int × Int × Int × Int × Int × Unit))) (number_1 : (List Int)) (l_2 : (List (Int × Int × Int × Int × Int × Unit))) (d_2 : (List (List Int))) (d_3 : (List Int)) : Option ((Int × Int × (List (List Int)) × (List Int) × Unit) × Bool) := LFix (det_Explore_1_L4_F letters most ) (next', mark, l, l_1, d, d_1, number, number_1, l_2, d_2, d_3)
noncomputable def det_Explore_1 (letters : Int) (first : (Int × Int × Int × Int × Int × Unit)) (c : Int) (c_1 : (Int × Int × (List (List (Int × Int × Unit))) × (List Int) × Unit)) (most : Int) (c_2 : Int) (c_3 : (Int × Int × (List (List (Int × Int × Unit))) × (List Int) × Unit)) : Option ((Int × Int × (List (List Int)) × (List Int) × Unit) × Bool) :=
  det_Explore_1_L4 letters most c c_1 c_2 c_3 letters (0 : Int) (mputK ([] : List (Int × Int × Int × Int × Int × Unit)) (first.1, (first.2.1, (first.2.2.1, (first.2.2.2.1, (first.2.2.2.2.1, ())))))) (mputV ([] : List (Int × Int × Int × Int × Int × Unit)) ([] : List Int) (first.1, (first.2.1, (first.2.2.1, (first.2.2.2.1, (first.2.2.2.2.1, ()))))) (0 : Int)) ([(first.1, (first.2.1, (first.2.2.1, (first.2.2.2.1, (first.2.2.2.2.1, ())))))]) ([] : List (List Int)) ([] : List Int)
theorem det_Explore_1_J17_ch (r8 : Nat → Int → (Int × Int × (List (List (Int × Int × Unit))) × (List Int) × Unit) → Int → Int → (Int × Int × (List (List (Int × Int × Unit))) × (List Int) × Unit) → (List (Int × Int × Int × Int × Int × Unit)) → (List Int) → (List (Int × Int × Int × Int × Int × Unit)) → (List Int) → Option ((Int × Int × (List (List Int)) × (List Int) × Unit) × Bool)) (r8' : Int → (Int × Int × (List (List (Int × Int × Unit))) × (List Int) × Unit) → Int → Int → (Int × Int × (List (List (Int × Int × Unit))) × (List Int) × Unit) → (List (Int × Int × Int × Int × Int × Unit)) → (List Int) → (List (Int × Int × Int × Int × Int × Unit)) → (List Int) → Option ((Int × Int × (List (List Int)) × (List Int) × Unit) × Bool)) (h_r8 : ∀ a0 a1 a2 a3 a4 a5 a6 a7 a8, ChO (fun κ => r8 κ a0 a1 a2 a3 a4 a5 a6 a7 a8) (r8' a0 a1 a2 a3 a4 a5 a6 a7 a8)) (next'_1 : Int) (mark_1 : (Int × Int × (List (List (Int × Int × Unit))) × (List Int) × Unit)) (t : Int) (row : (List Int)) (y'_1 : Int) (y'_2 : (Int × Int × (List (List (Int × Int × Unit))) × (List Int) × Unit)) (n : Int) (number_4 : (List (Int × Int × Int × Int × Int × Unit))) (number_5 : (List Int)) (l_6 : (List (Int × Int × Int × Int × Int × Unit))) : ChO (fun κ => det_Explore_1_J17 next'_1 mark_1 t row (r8 κ) y'_1 y'_2 n number_4 number_5 l_6) (det_Explore_1_J17 next'_1 mark_1 t row r8' y'_1 y'_2 n number_4 number_5 l_6) := by
  unfold det_Explore_1_J17
  repeat' with_reducible first | exact ChO.const _ | exact h_r8 _ _ _ _ _ _ _ _ _ | apply ChO.ite | apply ChO.G | apply ChO.both | (apply ChO.bind; intro _)
theorem det_Explore_1_L8_B_ch (r4 : Nat → Int → (Int × Int × (List (List (Int × Int × Unit))) × (List Int) × Unit) → Int → (Int × Int × (List (List (Int × Int × Unit))) × (List Int) × Unit) → Int → Int → (List (Int × Int × Int × Int × Int × Unit)) → (List Int) → (List (Int × Int × Int × Int × Int × Unit)) → (List (List Int)) → (List Int) → Option ((Int × Int × (List (List Int)) × (List Int) × Unit) × Bool)) (r4' : Int → (Int × Int × (List (List (Int × Int × Unit))) × (List Int) × Unit) → Int → (Int × Int × (List (List (Int × Int × Unit))) × (List Int) × Unit) → Int → Int → (List (Int × Int × Int × Int × Int × Unit)) → (List Int) → (List (Int × Int × Int × Int × Int × Unit)) → (List (List Int)) → (List Int) → Option ((Int × Int × (List (List Int)) × (List Int) × Unit) × Bool)) (h_r4 : ∀ a0 a1 a2 a3 a4 a5 a6 a7 a8 a9 a10, ChO (fun κ => r4 κ a0 a1 a2 a3 a4 a5 a6 a7 a8 a9 a10) (r4' a0 a1 a2 a3 a4 a5 a6 a7 a8 a9 a10)) (r8 : Nat → Int → (Int × Int × (List (List (Int × Int × Unit))) × (List Int) × Unit) → Int → Int → (Int × Int × (List (List (Int × Int × Unit))) × (List Int) × Unit) → (List (Int × Int × Int × Int × Int × Unit)) → (List Int) → (List (Int × Int × Int × Int × Int × Unit)) → (List Int) → Option ((Int × Int × (List (List Int)) × (List Int) × Unit) × Bool)) (r8' : Int → (Int × Int × (List (List (Int × Int × Unit))) × (List Int) × Unit) → Int → Int → (Int × Int × (List (List (Int × Int × Unit))) × (List Int) × Unit) → (List (Int × Int × Int × Int × Int × Unit)) → (List Int) → (List (Int × Int × Int × Int × Int × Unit)) → (List Int) → Option ((Int × Int × (List (List Int)) × (List Int) × Unit) × Bool)) (h_r8 : ∀ a0 a1 a2 a3 a4 a5 a6 a7 a8, ChO (fun κ => r8 κ a0 a1 a2 a3 a4 a5 a6 a7 a8) (r8' a0 a1 a2 a3 a4 a5 a6 a7 a8)) (letters : Int) (most : Int) (d : Int) (d_1 : Int) (l_2 : (List (Int × Int × Int × Int × Int × Unit))) (d_2 : (List (List Int))) (d_3 : (List Int)) (next'_1 : Int) (mark_1 : (Int × Int × (List (List (Int × Int × Unit))) × (List Int) × Unit)) (t : Int) (l_3 : Int) (l_4 : (Int × Int × (List (List (Int × Int × Unit))) × (List Int) × Unit)) (number_2 : (List (Int × Int × Int × Int × Int × Unit))) (number_3 : (List Int)) (l_5 : (List (Int × Int × Int × Int × Int × Unit))) (row : (List Int)) : ChO (fun κ => det_Explore_1_L8_B letters most d d_1 l_2 d_2 d_3 (r4 κ) (r8 κ) next'_1 mark_1 t l_3 l_4 number_2 number_3 l_5 row) (det_Explore_1_L8_B letters most d d_1 l_2 d_2 d_3 r4' r8' next'_1 mark_1 t l_3 l_4 number_2 number_3 l_5 row) := by
  unfold det_Explore_1_L8_B
  repeat' with_reducible first | exact ChO.const _ | exact h_r4 _ _ _ _ _ _ _ _ _ _ _ | exact h_r8 _ _ _ _ _ _ _ _ _ | (apply det_Explore_1_J17_ch <;> assumption) | apply ChO.ite | apply ChO.G | apply ChO.both | (apply ChO.bind; intro _)
theorem det_Explore_1_L8_cn (r4 : Int → (Int × Int × (List (List (Int × Int × Unit))) × (List Int) × Unit) → Int → (Int × Int × (List (List (Int × Int × Unit))) × (List Int) × Unit) → Int → Int → (List (Int × Int × Int × Int × Int × Unit)) → (List Int) → (List (Int × Int × Int × Int × Int × Unit)) → (List (List Int)) → (List Int) → Option ((Int × Int × (List (List Int)) × (List Int) × Unit) × Bool)) (letters : Int) (most : Int) (d : Int) (d_1 : Int) (l_2 : (List (Int × Int × Int × Int × Int × Unit))) (d_2 : (List (List Int))) (d_3 : (List Int)) : Cn (det_Explore_1_L8_F letters most d d_1 l_2 d_2 d_3 r4) := fun g h hg x => det_Explore_1_L8_B_ch (fun _ => r4) r4 (fun _ _ _ _ _ _ _ _ _ _ _ => ChO.const _) (fun κ next'_1 mark_1 t l_3 l_4 number_2 number_3 l_5 row => g κ (next'_1, mark_1, t, l_3, l_4, number_2, number_3, l_5, row)) (fun next'_1 mark_1 t l_3 l_4 number_2 number_3 l_5 row => h (next'_1, mark_1, t, l_3, l_4, number_2, number_3, l_5, row)) (fun next'_1 mark_1 t l_3 l_4 number_2 number_3 l_5 row => hg (next'_1, mark_1, t, l_3, l_4, number_2, number_3, l_5, row)) letters most d d_1 l_2 d_2 d_3 x.1 x.2.1 x.2.2.1 x.2.2.2.1 x.2.2.2.2.1 x.2.2.2.2.2.1 x.2.2.2.2.2.2.1 x.2.2.2.2.2.2.2.1 x.2.2.2.2.2.2.2.2
theorem det_Explore_1_L8_eq (r4 : Int → (Int × Int × (List (List (Int × Int × Unit))) × (List Int) × Unit) → Int → (Int × Int × (List (List (Int × Int × Unit))) × (List Int) × Unit) → Int → Int → (List (Int × Int × Int × Int × Int × Unit)) → (List Int) → (List (Int × Int × Int × Int × Int × Unit)) → (List (List Int)) → (List Int) → Option ((Int × Int × (List (List Int)) × (List Int) × Unit) × Bool)) (letters : Int) (most : Int) (d : Int) (d_1 : Int) (l_2 : (List (Int × Int × Int × Int × Int × Unit))) (d_2 : (List (List Int))) (d_3 : (List Int)) (next'_1 : Int) (mark_1 : (Int × Int × (List (List (Int × Int × Unit))) × (List Int) × Unit)) (t : Int) (l_3 : Int) (l_4 : (Int × Int × (List (List (Int × Int × Unit))) × (List Int) × Unit)) (number_2 : (List (Int × Int × Int × Int × Int × Unit))) (number_3 : (List Int)) (l_5 : (List (Int × Int × Int × Int × Int × Unit))) (row : (List Int)) : det_Explore_1_L8 letters most d d_1 l_2 d_2 d_3 r4 next'_1 mark_1 t l_3 l_4 number_2 number_3 l_5 row = det_Explore_1_L8_B letters most d d_1 l_2 d_2 d_3 r4 (det_Explore_1_L8 letters most d d_1 l_2 d_2 d_3 r4) next'_1 mark_1 t l_3 l_4 number_2 number_3 l_5 row := LFix_eq (det_Explore_1_L8_cn r4 letters most d d_1 l_2 d_2 d_3) (next'_1, mark_1, t, l_3, l_4, number_2, number_3, l_5, row)
theorem det_Explore_1_L8_ch (r4 : Nat → Int → (Int × Int × (List (List (Int × Int × Unit))) × (List Int) × Unit) → Int → (Int × Int × (List (List (Int × Int × Unit))) × (List Int) × Unit) → Int → Int → (List (Int × Int × Int × Int × Int × Unit)) → (List Int) → (List (Int × Int × Int × Int × Int × Unit)) → (List (List Int)) → (List Int) → Option ((Int × Int × (List (List Int)) × (List Int) × Unit) × Bool)) (r4' : Int → (Int × Int × (List (List (Int × Int × Unit))) × (List Int) × Unit) → Int → (Int × Int × (List (List (Int × Int × Unit))) × (List Int) × Unit) → Int → Int → (List (Int × Int × Int × Int × Int × Unit)) → (List Int) → (List (Int × Int × Int × Int × Int × Unit)) → (List (List Int)) → (List Int) → Option ((Int × Int × (List (List Int)) × (List Int) × Unit) × Bool)) (h_r4 : ∀ a0 a1 a2 a3 a4 a5 a6 a7 a8 a9 a10, ChO (fun κ => r4 κ a0 a1 a2 a3 a4 a5 a6 a7 a8 a9 a10) (r4' a0 a1 a2 a3 a4 a5 a6 a7 a8 a9 a10)) (letters : Int) (most : Int) (d : Int) (d_1 : Int) (l_2 : (List (Int × Int × Int × Int × Int × Unit))) (d_2 : (List (List Int))) (d_3 : (List Int)) (next'_1 : Int) (mark_1 : (Int × Int × (List (List (Int × Int × Unit))) × (List Int) × Unit)) (t : Int) (l_3 : Int) (l_4 : (Int × Int × (List (List (Int × Int × Unit))) × (List Int) × Unit)) (number_2 : (List (Int × Int × Int × Int × Int × Unit))) (number_3 : (List Int)) (l_5 : (List (Int × Int × Int × Int × Int × Unit))) (row : (List Int)) : ChO (fun κ => det_Explore_1_L8 letters most d d_1 l_2 d_2 d_3 (r4 κ) next'_1 mark_1 t l_3 l_4 number_2 number_3 l_5 row) (det_Explore_1_L8 letters most d d_1 l_2 d_2 d_3 r4' next'_1 mark_1 t l_3 l_4 number_2 number_3 l_5 row) := by
  unfold det_Explore_1_L8
  exact LFix_ch (fun κ => (det_Explore_1_L8_cn (r4 κ) letters most d d_1 l_2 d_2 d_3).mono) (det_Explore_1_L8_cn r4' letters most d d_1 l_2 d_2 d_3).mono (fun g h hg x => det_Explore_1_L8_B_ch r4 r4' h_r4 (fun κ next'_1 mark_1 t l_3 l_4 number_2 number_3 l_5 row => g κ (next'_1, mark_1, t, l_3, l_4, number_2, number_3, l_5, row)) (fun next'_1 mark_1 t l_3 l_4 number_2 number_3 l_5 row => h (next'_1, mark_1, t, l_3, l_4, number_2, number_3, l_5, row)) (fun next'_1 mark_1 t l_3 l_4 number_2 number_3 l_5 row => hg (next'_1, mark_1, t, l_3, l_4, number_2, number_3, l_5, row)) letters most d d_1 l_2 d_2 d_3 x.1 x.2.1 x.2.2.1 x.2.2.2.1 x.2.2.2.2.1 x.2.2.2.2.2.1 x.2.2.2.2.2.2.1 x.2.2.2.2.2.2.2.1 x.2.2.2.2.2.2.2.2) _
theorem det_Explore_1_L4_B_ch (r4 : Nat → Int → (Int × Int × (List (List (Int × Int × Unit))) × (List Int) × Unit) → Int → (Int × Int × (List (List (Int × Int × Unit))) × (List Int) × Unit) → Int → Int → (List (Int × Int × Int × Int × Int × Unit)) → (List Int) → (List (Int × Int × Int × Int × Int × Unit)) → (List (List Int)) → (List Int) → Option ((Int × Int × (List (List Int)) × (List Int) × Unit) × Bool)) (r4' : Int → (Int × Int × (List (List (Int × Int × Unit))) × (List Int) × Unit) → Int → (Int × Int × (List (List (Int × Int × Unit))) × (List Int) × Unit) → Int → Int → (List (Int × Int × Int × Int × Int × Unit)) → (List Int) → (List (Int × Int × Int × Int × Int × Unit)) → (List (List Int)) → (List Int) → Option ((Int × Int × (List (List Int)) × (List Int) × Unit) × Bool)) (h_r4 : ∀ a0 a1 a2 a3 a4 a5 a6 a7 a8 a9 a10, ChO (fun κ => r4 κ a0 a1 a2 a3 a4 a5 a6 a7 a8 a9 a10) (r4' a0 a1 a2 a3 a4 a5 a6 a7 a8 a9 a10)) (letters : Int) (most : Int) (next' : Int) (mark : (Int × Int × (List (List (Int × Int × Unit))) × (List Int) × Unit)) (l : Int) (l_1 : (Int × Int × (List (List (Int × Int × Unit))) × (List Int) × Unit)) (d : Int) (d_1 : Int) (number : (List (Int × Int × Int × Int × Int × Unit))) (number_1 : (List Int)) (l_2 : (List (Int × Int × Int × Int × Int × Unit))) (d_2 : (List (List Int))) (d_3 : (List Int)) : ChO (fun κ => det_Explore_1_L4_B letters most (r4 κ) next' mark l l_1 d d_1 number number_1 l_2 d_2 d_3) (det_Explore_1_L4_B letters most r4' next' mark l l_1 d d_1 number number_1 l_2 d_2 d_3) := by
  unfold det_Explore_1_L4_B
  repeat' with_reducible first | exact ChO.const _ | exact h_r4 _ _ _ _ _ _ _ _ _ _ _ | (apply det_Explore_1_J17_ch <;> assumption) | (apply det_Explore_1_L8_ch <;> assumption) | apply ChO.ite | apply ChO.G | apply ChO.both | (apply ChO.bind; intro _)
theorem det_Explore_1_L4_cn  (letters : Int) (most : Int) : Cn (det_Explore_1_L4_F letters most) := fun g h hg x => det_Explore_1_L4_B_ch  (fun κ next' mark l l_1 d d_1 number number_1 l_2 d_2 d_3 => g κ (next', mark, l, l_1, d, d_1, number, number_1, l_2, d_2, d_3)) (fun next' mark l l_1 d d_1 number number_1 l_2 d_2 d_3 => h (next', mark, l, l_1, d, d_1, number, number_1, l_2, d_2, d_3)) (fun next' mark l l_1 d d_1 number number_1 l_2 d_2 d_3 => hg (next', mark, l, l_1, d, d_1, number, number_1, l_2, d_2, d_3)) letters most x.1 x.2.1 x.2.2.1 x.2.2.2.1 x.2.2.2.2.1 x.2.2.2.2.2.1 x.2.2.2.2.2.2.1 x.2.2.2.2.2.2.2.1 x.2.2.2.2.2.2.2.2.1 x.2.2.2.2.2.2.2.2.2.1 x.2.2.2.2.2.2.2.2.2.2
theorem det_Explore_1_L4_eq  (letters : Int) (most : Int) (next' : Int) (mark : (Int × Int × (List (List (Int × Int × Unit))) × (List Int) × Unit)) (l : Int) (l_1 : (Int × Int × (List (List (Int × Int × Unit))) × (List Int) × Unit)) (d : Int) (d_1 : Int) (number : (List (Int × Int × Int × Int × Int × Unit))) (number_1 : (List Int)) (l_2 : (List (Int × Int × Int × Int × Int × Unit))) (d_2 : (List (List Int))) (d_3 : (List Int)) : det_Explore_1_L4 letters most next' mark l l_1 d d_1 number number_1 l_2 d_2 d_3 = det_Explore_1_L4_B letters most (det_Explore_1_L4 letters most) next' mark l l_1 d d_1 number number_1 l_2 d_2 d_3 := LFix_eq (det_Explore_1_L4_cn letters most) (next', mark, l, l_1, d, d_1, number, number_1, l_2, d_2, d_3)

noncomputable def two_Det_J12 (t_1 : Int) (r8 : (Int → Int → Int → Int → Int → Int → Option ((Int × Int × (List (List Int)) × (List Int) × Unit) × Int))) (begin_5 : Int) (begin_6 : Int) (begin_7 : Int) (begin_8 : Int) (begin_9 : Int) : Option ((Int × Int × (List (List Int)) × (List Int) × Unit) × Int) :=
  G (fits (t_1 + (1 : Int))) (
  r8 (t_1 + (1 : Int)) begin_5 begin_6 begin_7 begin_8 begin_9)
noncomputable def two_Det_L8_B (t : (Int × Int × (List (List (Int × Int × Unit))) × (List Int) × Unit)) (r8 : Int → Int → Int → Int → Int → Int → Option ((Int × Int × (List (List Int)) × (List Int) × Unit) × Int)) (t_1 : Int) (begin : Int) (begin_1 : Int) (begin_2 : Int) (begin_3 : Int) (begin_4 : Int) : Option ((Int × Int × (List (List Int)) × (List Int) × Unit) × Int) :=
  if (decide (t_1 < (4 : Int))) = true then
  G (0 ≤ t_1 ∧ t_1 < (5 : Int)) (
  G ((t_1).toNat < 5) (
  if (decide (t_1 < (t.2.2.1.length : Int))) = true then
  (two_Det_1 (([begin, begin_1, begin_2, begin_3, begin_4].set (t_1).toNat (-1 : Int)).getD 0 0, (([begin, begin_1, begin_2, begin_3, begin_4].set (t_1).toNat (-1 : Int)).getD 1 0, (([begin, begin_1, begin_2, begin_3, begin_4].set (t_1).toNat (-1 : Int)).getD 2 0, (([begin, begin_1, begin_2, begin_3, begin_4].set (t_1).toNat (-1 : Int)).getD 3 0, (([begin, begin_1, begin_2, begin_3, begin_4].set (t_1).toNat (-1 : Int)).getD 4 0, ()))))) true t_1 t.1 (t.2.2.1.length : Int) (t.1, (t.2.1, (t.2.2.1, (t.2.2.2.1, ()))))).bind (fun y'_1 =>
  G (0 ≤ t_1 ∧ t_1 < (5 : Int)) (
  G ((t_1).toNat < 5) (
  two_Det_J12 t_1 r8 (([([begin, begin_1, begin_2, begin_3, begin_4].set (t_1).toNat (-1 : Int)).getD 0 0, ([begin, begin_1, begin_2, begin_3, begin_4].set (t_1).toNat (-1 : Int)).getD 1 0, ([begin, begin_1, begin_2, begin_3, begin_4].set (t_1).toNat (-1 : Int)).getD 2 0, ([begin, begin_1, begin_2, begin_3, begin_4].set (t_1).toNat (-1 : Int)).getD 3 0, ([begin, begin_1, begin_2, begin_3, begin_4].set (t_1).toNat (-1 : Int)).getD 4 0].set (t_1).toNat y'_1).getD 0 0) (([([begin, begin_1, begin_2, begin_3, begin_4].set (t_1).toNat (-1 : Int)).getD 0 0, ([begin, begin_1, begin_2, begin_3, begin_4].set (t_1).toNat (-1 : Int)).getD 1 0, ([begin, begin_1, begin_2, begin_3, begin_4].set (t_1).toNat (-1 : Int)).getD 2 0, ([begin, begin_1, begin_2, begin_3, begin_4].set (t_1).toNat (-1 : Int)).getD 3 0, ([begin, begin_1, begin_2, begin_3, begin_4].set (t_1).toNat (-1 : Int)).getD 4 0].set (t_1).toNat y'_1).getD 1 0) (([([begin, begin_1, begin_2, begin_3, begin_4].set (t_1).toNat (-1 : Int)).getD 0 0, ([begin, begin_1, begin_2, begin_3, begin_4].set (t_1).toNat (-1 : Int)).getD 1 0, ([begin, begin_1, begin_2, begin_3, begin_4].set (t_1).toNat (-1 : Int)).getD 2 0, ([begin, begin_1, begin_2, begin_3, begin_4].set (t_1).toNat (-1 : Int)).getD 3 0, ([begin, begin_1, begin_2, begin_3, begin_4].set (t_1).toNat (-1 : Int)).getD 4 0].set (t_1).toNat y'_1).getD 2 0) (([([begin, begin_1, begin_2, begin_3, begin_4].set (t_1).toNat (-1 : Int)).getD 0 0, ([begin, begin_1, begin_2, begin_3, begin_4].set (t_1).toNat (-1 : Int)).getD 1 0, ([begin, begin_1, begin_2, begin_3, begin_4].set (t_1).toNat (-1 : Int)).getD 2 0, ([begin, begin_1, begin_2, begin_3, begin_4].set (t_1).toNat (-1 : Int)).getD 3 0, ([begin, begin_1, begin_2, begin_3, begin_4].set (t_1).toNat (-1 : Int)).getD 4 0].set (t_1).toNat y'_1).getD 3 0) (([([begin, begin_1, begin_2, begin_3, begin_4].set (t_1).toNat (-1 : Int)).getD 0 0, ([begin, begin_1, begin_2, begin_3, begin_4].set (t_1).toNat (-1 : Int)).getD 1 0, ([begin, begin_1, begin_2, begin_3, begin_4].set (t_1).toNat (-1 : Int)).getD 2 0, ([begin, begin_1, begin_2, begin_3, begin_4].set (t_1).toNat (-1 : Int)).getD 3 0, ([begin, begin_1, begin_2, begin_3, begin_4].set (t_1).toNat (-1 : Int)).getD 4 0].set (t_1).toNat y'_1).getD 4 0)))) else
  two_Det_J12 t_1 r8 (([begin, begin_1, begin_2, begin_3, begin_4].set (t_1).toNat (-1 : Int)).getD 0 0) (([begin, begin_1, begin_2, begin_3, begin_4].set (t_1).toNat (-1 : Int)).getD 1 0) (([begin, begin_1, begin_2, begin_3, begin_4].set (t_1).toNat (-1 : Int)).getD 2 0) (([begin, begin_1, begin_2, begin_3, begin_4].set (t_1).toNat (-1 : Int)).getD 3 0) (([begin, begin_1, begin_2, begin_3, begin_4].set (t_1).toNat (-1 : Int)).getD 4 0))) else
  (two_Det_1 (begin, (begin_1, (begin_2, (begin_3, (begin_4, ()))))) true t.2.1 t.1 (t.2.2.1.length : Int) (t.1, (t.2.1, (t.2.2.1, (t.2.2.2.1, ()))))).bind (fun y'_2 =>
  (det_Explore_1 t.1 (begin, (begin_1, (begin_2, (begin_3, (y'_2, ()))))) (t.2.2.1.length : Int) (t.1, (t.2.1, (t.2.2.1, (t.2.2.2.1, ())))) (1048576 : Int) (t.2.2.1.length : Int) (t.1, (t.2.1, (t.2.2.1, (t.2.2.2.1, ()))))).bind (fun y'_7 =>
  (det_Smallest (y'_7.1.1, (y'_7.1.2.1, (y'_7.1.2.2.1, (y'_7.1.2.2.2.1, ()))))).bind (fun y'_6 =>
  if (!y'_7.2) = true then
  some (((0 : Int), ((0 : Int), ([], ([], ())))), (7 : Int)) else
  if (decide ((3000 : Int) < (y'_6.2.2.1.length : Int))) = true then
  some (((0 : Int), ((0 : Int), ([], ([], ())))), (7 : Int)) else
  some ((y'_6.1, (y'_6.2.1, (y'_6.2.2.1, (y'_6.2.2.2.1, ())))), (0 : Int)))))
noncomputable def two_Det_L8_F (t : (Int × Int × (List (List (Int × Int × Unit))) × (List Int) × Unit)) : (Int × Int × Int × Int × Int × Int → Option ((Int × Int × (List (List Int)) × (List Int) × Unit) × Int)) → Int × Int × Int × Int × Int × Int → Option ((Int × Int × (List (List Int)) × (List Int) × Unit) × Int) :=
  fun rec x => two_Det_L8_B t (fun t_1 begin begin_1 begin_2 begin_3 begin_4 => rec (t_1, begin, begin_1, begin_2, begin_3, begin_4)) x.1 x.2.1 x.2.2.1 x.2.2.2.1 x.2.2.2.2.1 x.2.2.2.2.2
noncomputable def two_Det_L8 (t : (Int × Int × (List (List (Int × Int × Unit))) × (List Int) × Unit)) (t_1 : Int) (begin : Int) (begin_1 : Int) (begin_2 : Int) (begin_3 : Int) (begin_4 : Int) : Option ((Int × Int × (List (List Int)) × (List Int) × Unit) × Int) := LFix (two_Det_L8_F t ) (t_1, begin, begin_1, begin_2, begin_3, begin_4)
noncomputable def two_Det (t : (Int × Int × (List (List (Int × Int × Unit))) × (List Int) × Unit)) : Option ((Int × Int × (List (List Int)) × (List Int) × Unit) × Int) :=
  (two_Check (t.1, (t.2.1, (t.2.2.1, (t.2.2.2.1, ()))))).bind (fun y' =>
  if (decide (¬ y' = (0 : Int))) = true then
  some (((0 : Int), ((0 : Int), ([], ([], ())))), y') else
  two_Det_L8 t (0 : Int) (0 : Int) (0 : Int) (0 : Int) (0 : Int) (0 : Int))
theorem two_Det_J12_ch (r8 : Nat → Int → Int → Int → Int → Int → Int → Option ((Int × Int × (List (List Int)) × (List Int) × Unit) × Int)) (r8' : Int → Int → Int → Int → Int → Int → Option ((Int × Int × (List (List Int)) × (List Int) × Unit) × Int)) (h_r8 : ∀ a0 a1 a2 a3 a4 a5, ChO (fun κ => r8 κ a0 a1 a2 a3 a4 a5) (r8' a0 a1 a2 a3 a4 a5)) (t_1 : Int) (begin_5 : Int) (begin_6 : Int) (begin_7 : Int) (begin_8 : Int) (begin_9 : Int) : ChO (fun κ => two_Det_J12 t_1 (r8 κ) begin_5 begin_6 begin_7 begin_8 begin_9) (two_Det_J12 t_1 r8' begin_5 begin_6 begin_7 begin_8 begin_9) := by
  unfold two_Det_J12
  repeat' with_reducible first | exact ChO.const _ | exact h_r8 _ _ _ _ _ _ | apply ChO.ite | apply ChO.G | apply ChO.both | (apply ChO.bind; intro _)
theorem two_Det_L8_B_ch (r8 : Nat → Int → Int → Int → Int → Int → Int → Option ((Int × Int × (List (List Int)) × (List Int) × Unit) × Int)) (r8' : Int → Int → Int → Int → Int → Int → Option ((Int × Int × (List (List Int)) × (List Int) × Unit) × Int)) (h_r8 : ∀ a0 a1 a2 a3 a4 a5, ChO (fun κ => r8 κ a0 a1 a2 a3 a4 a5) (r8' a0 a1 a2 a3 a4 a5)) (t : (Int × Int × (List (List (Int × Int × Unit))) × (List Int) × Unit)) (t_1 : Int) (begin : Int) (begin_1 : Int) (begin_2 : Int) (begin_3 : Int) (begin_4 : Int) : ChO (fun κ => two_Det_L8_B t (r8 κ) t_1 begin begin_1 begin_2 begin_3 begin_4) (two_Det_L8_B t r8' t_1 begin begin_1 begin_2 begin_3 begin_4) := by
  unfold two_Det_L8_B
  repeat' with_reducible first | exact ChO.const _ | exact h_r8 _ _ _ _ _ _ | (apply two_Det_J12_ch <;> assumption) | apply ChO.ite | apply ChO.G | apply ChO.both | (apply ChO.bind; intro _)
theorem two_Det_L8_cn  (t : (Int × Int × (List (List (Int × Int × Unit))) × (List Int) × Unit)) : Cn (two_Det_L8_F t) := fun g h hg x => two_Det_L8_B_ch  (fun κ t_1 begin begin_1 begin_2 begin_3 begin_4 => g κ (t_1, begin, begin_1, begin_2, begin_3, begin_4)) (fun t_1 begin begin_1 begin_2 begin_3 begin_4 => h (t_1, begin, begin_1, begin_2, begin_3, begin_4)) (fun t_1 begin begin_1 begin_2 begin_3 begin_4 => hg (t_1, begin, begin_1, begin_2, begin_3, begin_4)) t x.1 x.2.1 x.2.2.1 x.2.2.2.1 x.2.2.2.2.1 x.2.2.2.2.2
theorem two_Det_L8_eq  (t : (Int × Int × (List (List (Int × Int × Unit))) × (List Int) × Unit)) (t_1 : Int) (begin : Int) (begin_1 : Int) (begin_2 : Int) (begin_3 : Int) (begin_4 : Int) : two_Det_L8 t t_1 begin begin_1 begin_2 begin_3 begin_4 = two_Det_L8_B t (two_Det_L8 t) t_1 begin begin_1 begin_2 begin_3 begin_4 := LFix_eq (two_Det_L8_cn t) (t_1, begin, begin_1, begin_2, begin_3, begin_4)

noncomputable def alter_Check_1 (r : (List (List (List Int)))) (t : (Int × Int × (List (List (List (List Int)))) × (List Int) × Unit)) : Option (Bool) :=
  some (decide (¬ (r.length : Int) = t.1))

noncomputable def slices_IndexFunc_8_L2_B (s : (List (List (List (List Int))))) (c : (Int × Int × (List (List (List (List Int)))) × (List Int) × Unit)) (r2 : Int → Option (Int)) (t : Int) : Option (Int) :=
  if (decide (t < (s.length : Int))) = true then
  G (0 ≤ t ∧ t < (s.length : Int)) (
  (alter_Check_1 (ix s t) c).bind (fun y' =>
  if y' = true then
  some t else
  G (fits (t + (1 : Int))) (
  r2 (t + (1 : Int))))) else
  some (-1 : Int)
noncomputable def slices_IndexFunc_8_L2_F (s : (List (List (List (List Int))))) (c : (Int × Int × (List (List (List (List Int)))) × (List Int) × Unit)) : (Int → Option (Int)) → Int → Option (Int) :=
  fun rec x => slices_IndexFunc_8_L2_B s c (fun t => rec t) x
noncomputable def slices_IndexFunc_8_L2 (s : (List (List (List (List Int))))) (c : (Int × Int × (List (List (List (List Int)))) × (List Int) × Unit)) (t : Int) : Option (Int) := LFix (slices_IndexFunc_8_L2_F s c ) t
noncomputable def slices_IndexFunc_8 (s : (List (List (List (List Int))))) (c : (Int × Int × (List (List (List (List Int)))) × (List Int) × Unit)) : Option (Int) :=
  slices_IndexFunc_8_L2 s c (0 : Int)
theorem slices_IndexFunc_8_L2_B_ch (r2 : Nat → Int → Option (Int)) (r2' : Int → Option (Int)) (h_r2 : ∀ a0, ChO (fun κ => r2 κ a0) (r2' a0)) (s : (List (List (List (List Int))))) (c : (Int × Int × (List (List (List (List Int)))) × (List Int) × Unit)) (t : Int) : ChO (fun κ => slices_IndexFunc_8_L2_B s c (r2 κ) t) (slices_IndexFunc_8_L2_B s c r2' t) := by
  unfold slices_IndexFunc_8_L2_B
  repeat' with_reducible first | exact ChO.const _ | exact h_r2 _ | apply ChO.ite | apply ChO.G | apply ChO.both | (apply ChO.bind; intro _)
theorem slices_IndexFunc_8_L2_cn  (s : (List (List (List (List Int))))) (c : (Int × Int × (List (List (List (List Int)))) × (List Int) × Unit)) : Cn (slices_IndexFunc_8_L2_F s c) := fun g h hg x => slices_IndexFunc_8_L2_B_ch  (fun κ t => g κ t) (fun t => h t) (fun t => hg t) s c x
theorem slices_IndexFunc_8_L2_eq  (s : (List (List (List (List Int))))) (c : (Int × Int × (List (List (List (List Int)))) × (List Int) × Unit)) (t : Int) : slices_IndexFunc_8_L2 s c t = slices_IndexFunc_8_L2_B s c (slices_IndexFunc_8_L2 s c) t := LFix_eq (slices_IndexFunc_8_L2_cn s c) t

noncomputable def slices_ContainsFunc_8 (s : (List (List (List (List Int))))) (c : (Int × Int × (List (List (List (List Int)))) × (List Int) × Unit)) : Option (Bool) :=
  (slices_IndexFunc_8 s c).bind (fun y' =>
  some (decide ((0 : Int) ≤ y')))

noncomputable def alter_Check_3 (c : (List Int)) : Option (Bool) :=
  some (decide ((4 : Int) < (c.length : Int)))

noncomputable def slices_IndexFunc_9_L2_B (s : (List (List Int))) (r2 : Int → Option (Int)) (t : Int) : Option (Int) :=
  if (decide (t < (s.length : Int))) = true then
  G (0 ≤ t ∧ t < (s.length : Int)) (
  (alter_Check_3 (ix s t)).bind (fun y' =>
  if y' = true then
  some t else
  G (fits (t + (1 : Int))) (
  r2 (t + (1 : Int))))) else
  some (-1 : Int)
noncomputable def slices_IndexFunc_9_L2_F (s : (List (List Int))) : (Int → Option (Int)) → Int → Option (Int) :=
  fun rec x => slices_IndexFunc_9_L2_B s (fun t => rec t) x
noncomputable def slices_IndexFunc_9_L2 (s : (List (List Int))) (t : Int) : Option (Int) := LFix (slices_IndexFunc_9_L2_F s ) t
noncomputable def slices_IndexFunc_9 (s : (List (List Int))) : Option (Int) :=
  slices_IndexFunc_9_L2 s (0 : Int)
theorem slices_IndexFunc_9_L2_B_ch (r2 : Nat → Int → Option (Int)) (r2' : Int → Option (Int)) (h_r2 : ∀ a0, ChO (fun κ => r2 κ a0) (r2' a0)) (s : (List (List Int))) (t : Int) : ChO (fun κ => slices_IndexFunc_9_L2_B s (r2 κ) t) (slices_IndexFunc_9_L2_B s r2' t) := by
  unfold slices_IndexFunc_9_L2_B
  repeat' with_reducible first | exact ChO.const _ | exact h_r2 _ | apply ChO.ite | apply ChO.G | apply ChO.both | (apply ChO.bind; intro _)
theorem slices_IndexFunc_9_L2_cn  (s : (List (List Int))) : Cn (slices_IndexFunc_9_L2_F s) := fun g h hg x => slices_IndexFunc_9_L2_B_ch  (fun κ t => g κ t) (fun t => h t) (fun t => hg t) s x
theorem slices_IndexFunc_9_L2_eq  (s : (List (List Int))) (t : Int) : slices_IndexFunc_9_L2 s t = slices_IndexFunc_9_L2_B s (slices_IndexFunc_9_L2 s) t := LFix_eq (slices_IndexFunc_9_L2_cn s) t

noncomputable def slices_ContainsFunc_9 (s : (List (List Int))) : Option (Bool) :=
  (slices_IndexFunc_9 s).bind (fun y' =>
  some (decide ((0 : Int) ≤ y')))

noncomputable def alter_Check_2 (q : Int) (t : Int) : Option (Bool) :=
  if (decide (q < (0 : Int))) = true then
  some true else
  some (decide (t ≤ q))

noncomputable def slices_IndexFunc_11_L2_B (s : (List Int)) (c : Int) (r2 : Int → Option (Int)) (t : Int) : Option (Int) :=
  if (decide (t < (s.length : Int))) = true then
  G (0 ≤ t ∧ t < (s.length : Int)) (
  (alter_Check_2 (ix s t) c).bind (fun y' =>
  if y' = true then
  some t else
  G (fits (t + (1 : Int))) (
  r2 (t + (1 : Int))))) else
  some (-1 : Int)
noncomputable def slices_IndexFunc_11_L2_F (s : (List Int)) (c : Int) : (Int → Option (Int)) → Int → Option (Int) :=
  fun rec x => slices_IndexFunc_11_L2_B s c (fun t => rec t) x
noncomputable def slices_IndexFunc_11_L2 (s : (List Int)) (c : Int) (t : Int) : Option (Int) := LFix (slices_IndexFunc_11_L2_F s c ) t
noncomputable def slices_IndexFunc_11 (s : (List Int)) (c : Int) : Option (Int) :=
  slices_IndexFunc_11_L2 s c (0 : Int)
theorem slices_IndexFunc_11_L2_B_ch (r2 : Nat → Int → Option (Int)) (r2' : Int → Option (Int)) (h_r2 : ∀ a0, ChO (fun κ => r2 κ a0) (r2' a0)) (s : (List Int)) (c : Int) (t : Int) : ChO (fun κ => slices_IndexFunc_11_L2_B s c (r2 κ) t) (slices_IndexFunc_11_L2_B s c r2' t) := by
  unfold slices_IndexFunc_11_L2_B
  repeat' with_reducible first | exact ChO.const _ | exact h_r2 _ | apply ChO.ite | apply ChO.G | apply ChO.both | (apply ChO.bind; intro _)
theorem slices_IndexFunc_11_L2_cn  (s : (List Int)) (c : Int) : Cn (slices_IndexFunc_11_L2_F s c) := fun g h hg x => slices_IndexFunc_11_L2_B_ch  (fun κ t => g κ t) (fun t => h t) (fun t => hg t) s c x
theorem slices_IndexFunc_11_L2_eq  (s : (List Int)) (c : Int) (t : Int) : slices_IndexFunc_11_L2 s c t = slices_IndexFunc_11_L2_B s c (slices_IndexFunc_11_L2 s c) t := LFix_eq (slices_IndexFunc_11_L2_cn s c) t

noncomputable def slices_ContainsFunc_11 (s : (List Int)) (c : Int) : Option (Bool) :=
  (slices_IndexFunc_11 s c).bind (fun y' =>
  some (decide ((0 : Int) ≤ y')))

noncomputable def alter_Check_4 (c : (List Int)) (c_1 : Int) : Option (Bool × Int) :=
  (slices_ContainsFunc_11 c c_1).bind (fun y' =>
  some (y', c_1))

noncomputable def slices_IndexFunc_10_L2_B (s : (List (List Int))) (r2 : Int → Int → Option (Int × Int)) (t : Int) (l : Int) : Option (Int × Int) :=
  if (decide (t < (s.length : Int))) = true then
  G (0 ≤ t ∧ t < (s.length : Int)) (
  (alter_Check_4 (ix s t) l).bind (fun y'_3 =>
  if y'_3.1 = true then
  some (t, y'_3.2) else
  G (fits (t + (1 : Int))) (
  r2 (t + (1 : Int)) y'_3.2))) else
  some ((-1 : Int), l)
noncomputable def slices_IndexFunc_10_L2_F (s : (List (List Int))) : (Int × Int → Option (Int × Int)) → Int × Int → Option (Int × Int) :=
  fun rec x => slices_IndexFunc_10_L2_B s (fun t l => rec (t, l)) x.1 x.2
noncomputable def slices_IndexFunc_10_L2 (s : (List (List Int))) (t : Int) (l : Int) : Option (Int × Int) := LFix (slices_IndexFunc_10_L2_F s ) (t, l)
noncomputable def slices_IndexFunc_10 (s : (List (List Int))) (c : Int) : Option (Int × Int) :=
  slices_IndexFunc_10_L2 s (0 : Int) c
theorem slices_IndexFunc_10_L2_B_ch (r2 : Nat → Int → Int → Option (Int × Int)) (r2' : Int → Int → Option (Int × Int)) (h_r2 : ∀ a0 a1, ChO (fun κ => r2 κ a0 a1) (r2' a0 a1)) (s : (List (List Int))) (t : Int) (l : Int) : ChO (fun κ => slices_IndexFunc_10_L2_B s (r2 κ) t l) (slices_IndexFunc_10_L2_B s r2' t l) := by
  unfold slices_IndexFunc_10_L2_B
  repeat' with_reducible first | exact ChO.const _ | exact h_r2 _ _ | apply ChO.ite | apply ChO.G | apply ChO.both | (apply ChO.bind; intro _)
theorem slices_IndexFunc_10_L2_cn  (s : (List (List Int))) : Cn (slices_IndexFunc_10_L2_F s) := fun g h hg x => slices_IndexFunc_10_L2_B_ch  (fun κ t l => g κ (t, l)) (fun t l => h (t, l)) (fun t l => hg (t, l)) s x.1 x.2
theorem slices_IndexFunc_10_L2_eq  (s : (List (List Int))) (t : Int) (l : Int) : slices_IndexFunc_10_L2 s t l = slices_IndexFunc_10_L2_B s (slices_IndexFunc_10_L2 s) t l := LFix_eq (slices_IndexFunc_10_L2_cn s) (t, l)

noncomputable def slices_ContainsFunc_10 (s : (List (List Int))) (c : Int) : Option (Bool × Int) :=
  (slices_IndexFunc_10 s c).bind (fun y'_3 =>
  some (decide ((0 : Int) ≤ y'_3.1), y'_3.2))

noncomputable def alter_Check_5 (m : Int) : Option (Bool) :=
  if (decide (¬ m = (0 : Int))) = true then
  some (decide (¬ m = (1 : Int))) else
  some false

noncomputable def slices_IndexFunc_12_L2_B (s : (List Int)) (r2 : Int → Option (Int)) (t : Int) : Option (Int) :=
  if (decide (t < (s.length : Int))) = true then
  G (0 ≤ t ∧ t < (s.length : Int)) (
  (alter_Check_5 (ix s t)).bind (fun y' =>
  if y' = true then
  some t else
  G (fits (t + (1 : Int))) (
  r2 (t + (1 : Int))))) else
  some (-1 : Int)
noncomputable def slices_IndexFunc_12_L2_F (s : (List Int)) : (Int → Option (Int)) → Int → Option (Int) :=
  fun rec x => slices_IndexFunc_12_L2_B s (fun t => rec t) x
noncomputable def slices_IndexFunc_12_L2 (s : (List Int)) (t : Int) : Option (Int) := LFix (slices_IndexFunc_12_L2_F s ) t
noncomputable def slices_IndexFunc_12 (s : (List Int)) : Option (Int) :=
  slices_IndexFunc_12_L2 s (0 : Int)
theorem slices_IndexFunc_12_L2_B_ch (r2 : Nat → Int → Option (Int)) (r2' : Int → Option (Int)) (h_r2 : ∀ a0, ChO (fun κ => r2 κ a0) (r2' a0)) (s : (List Int)) (t : Int) : ChO (fun κ => slices_IndexFunc_12_L2_B s (r2 κ) t) (slices_IndexFunc_12_L2_B s r2' t) := by
  unfold slices_IndexFunc_12_L2_B
  repeat' with_reducible first | exact ChO.const _ | exact h_r2 _ | apply ChO.ite | apply ChO.G | apply ChO.both | (apply ChO.bind; intro _)
theorem slices_IndexFunc_12_L2_cn  (s : (List Int)) : Cn (slices_IndexFunc_12_L2_F s) := fun g h hg x => slices_IndexFunc_12_L2_B_ch  (fun κ t => g κ t) (fun t => h t) (fun t => hg t) s x
theorem slices_IndexFunc_12_L2_eq  (s : (List Int)) (t : Int) : slices_IndexFunc_12_L2 s t = slices_IndexFunc_12_L2_B s (slices_IndexFunc_12_L2 s) t := LFix_eq (slices_IndexFunc_12_L2_cn s) t

noncomputable def slices_ContainsFunc_12 (s : (List Int)) : Option (Bool) :=
  (slices_IndexFunc_12 s).bind (fun y' =>
  some (decide ((0 : Int) ≤ y')))

noncomputable def alter_Check_L14_B (a : (Int × Int × (List (List (List (List Int)))) × (List Int) × Unit)) (t : Int) (r11 : (Bool → Int → Int → Option (Int))) (r14 : Bool → Int → Int → Option (Int)) (bad_1 : Bool) (t_1 : Int) (no_1 : Int) : Option (Int) :=
  if (decide (t_1 < ((ix a.2.2.1 t).length : Int))) = true then
  G (0 ≤ t_1 ∧ t_1 < ((ix a.2.2.1 t).length : Int)) (
  if (decide ((16 : Int) < ((ix (ix a.2.2.1 t) t_1).length : Int))) = true then
  some (1 : Int) else
  (slices_ContainsFunc_9 (ix (ix a.2.2.1 t) t_1)).bind (fun y'_1 =>
  if y'_1 = true then
  some (1 : Int) else
  if bad_1 = true then
  G (fits (t_1 + (1 : Int))) (
  r14 true (t_1 + (1 : Int)) no_1) else
  (slices_ContainsFunc_10 (ix (ix a.2.2.1 t) t_1) no_1).bind (fun y'_5 =>
  G (fits (t_1 + (1 : Int))) (
  r14 y'_5.1 (t_1 + (1 : Int)) y'_5.2)))) else
  G (fits (t + (1 : Int))) (
  r11 bad_1 (t + (1 : Int)) no_1)
noncomputable def alter_Check_L14_F (a : (Int × Int × (List (List (List (List Int)))) × (List Int) × Unit)) (t : Int) (r11 : (Bool → Int → Int → Option (Int))) : (Bool × Int × Int → Option (Int)) → Bool × Int × Int → Option (Int) :=
  fun rec x => alter_Check_L14_B a t r11 (fun bad_1 t_1 no_1 => rec (bad_1, t_1, no_1)) x.1 x.2.1 x.2.2
noncomputable def alter_Check_L14 (a : (Int × Int × (List (List (List (List Int)))) × (List Int) × Unit)) (t : Int) (r11 : (Bool → Int → Int → Option (Int))) (bad_1 : Bool) (t_1 : Int) (no_1 : Int) : Option (Int) := LFix (alter_Check_L14_F a t r11 ) (bad_1, t_1, no_1)
noncomputable def alter_Check_L11_B (a : (Int × Int × (List (List (List (List Int)))) × (List Int) × Unit)) (r11 : Bool → Int → Int → Option (Int)) (bad : Bool) (t : Int) (no : Int) : Option (Int) :=
  if (decide (t < (a.2.2.1.length : Int))) = true then
  G (0 ≤ t ∧ t < (a.2.2.1.length : Int)) (
  alter_Check_L14 a t r11 bad (0 : Int) no) else
  if bad = true then
  some (2 : Int) else
  (alter_Check_2 a.2.1 no).bind (fun y'_6 =>
  if y'_6 = true then
  some (2 : Int) else
  (slices_ContainsFunc_12 a.2.2.2.1).bind (fun y'_7 =>
  if y'_7 = true then
  some (2 : Int) else
  some (0 : Int)))
noncomputable def alter_Check_L11_F (a : (Int × Int × (List (List (List (List Int)))) × (List Int) × Unit)) : (Bool × Int × Int → Option (Int)) → Bool × Int × Int → Option (Int) :=
  fun rec x => alter_Check_L11_B a (fun bad t no => rec (bad, t, no)) x.1 x.2.1 x.2.2
noncomputable def alter_Check_L11 (a : (Int × Int × (List (List (List (List Int)))) × (List Int) × Unit)) (bad : Bool) (t : Int) (no : Int) : Option (Int) := LFix (alter_Check_L11_F a ) (bad, t, no)
noncomputable def alter_Check (a : (Int × Int × (List (List (List (List Int)))) × (List Int) × Unit)) : Option (Int) :=
  if (decide (a.1 < (1 : Int))) = true then
  some (2 : Int) else
  if (decide ((4 : Int) < a.1)) = true then
  some (2 : Int) else
  if (decide ((a.2.2.1.length : Int) < (1 : Int))) = true then
  some (1 : Int) else
  if (decide ((4 : Int) < (a.2.2.1.length : Int))) = true then
  some (1 : Int) else
  if (decide (¬ (a.2.2.2.1.length : Int) = (a.2.2.1.length : Int))) = true then
  some (3 : Int) else
  (slices_ContainsFunc_8 a.2.2.1 (a.1, (a.2.1, (a.2.2.1, (a.2.2.2.1, ()))))).bind (fun y' =>
  if y' = true then
  some (3 : Int) else
  alter_Check_L11 a false (0 : Int) (a.2.2.1.length : Int))
theorem alter_Check_L14_B_ch (r11 : Nat → Bool → Int → Int → Option (Int)) (r11' : Bool → Int → Int → Option (Int)) (h_r11 : ∀ a0 a1 a2, ChO (fun κ => r11 κ a0 a1 a2) (r11' a0 a1 a2)) (r14 : Nat → Bool → Int → Int → Option (Int)) (r14' : Bool → Int → Int → Option (Int)) (h_r14 : ∀ a0 a1 a2, ChO (fun κ => r14 κ a0 a1 a2) (r14' a0 a1 a2)) (a : (Int × Int × (List (List (List (List Int)))) × (List Int) × Unit)) (t : Int) (bad_1 : Bool) (t_1 : Int) (no_1 : Int) : ChO (fun κ => alter_Check_L14_B a t (r11 κ) (r14 κ) bad_1 t_1 no_1) (alter_Check_L14_B a t r11' r14' bad_1 t_1 no_1) := by
  unfold alter_Check_L14_B
  repeat' with_reducible first | exact ChO.const _ | exact h_r11 _ _ _ | exact h_r14 _ _ _ | apply ChO.ite | apply ChO.G | apply ChO.both | (apply ChO.bind; intro _)
theorem alter_Check_L14_cn (r11 : Bool → Int → Int → Option (Int)) (a : (Int × Int × (List (List (List (List Int)))) × (List Int) × Unit)) (t : Int) : Cn (alter_Check_L14_F a t r11) := fun g h hg x => alter_Check_L14_B_ch (fun _ => r11) r11 (fun _ _ _ => ChO.const _) (fun κ bad_1 t_1 no_1 => g κ (bad_1, t_1, no_1)) (fun bad_1 t_1 no_1 => h (bad_1, t_1, no_1)) (fun bad_1 t_1 no_1 => hg (bad_1, t_1, no_1)) a t x.1 x.2.1 x.2.2
theorem alter_Check_L14_eq (r11 : Bool → Int → Int → Option (Int)) (a : (Int × Int × (List (List (List (List Int)))) × (List Int) × Unit)) (t : Int) (bad_1 : Bool) (t_1 : Int) (no_1 : Int) : alter_Check_L14 a t r11 bad_1 t_1 no_1 = alter_Check_L14_B a t r11 (alter_Check_L14 a t r11) bad_1 t_1 no_1 := LFix_eq (alter_Check_L14_cn r11 a t) (bad_1, t_1, no_1)
theorem alter_Check_L14_ch (r11 : Nat → Bool → Int → Int → Option (Int)) (r11' : Bool → Int → Int → Option (Int)) (h_r11 : ∀ a0 a1 a2, ChO (fun κ => r11 κ a0 a1 a2) (r11' a0 a1 a2)) (a : (Int × Int × (List (List (List (List Int)))) × (List Int) × Unit)) (t : Int) (bad_1 : Bool) (t_1 : Int) (no_1 : Int) : ChO (fun κ => alter_Check_L14 a t (r11 κ) bad_1 t_1 no_1) (alter_Check_L14 a t r11' bad_1 t_1 no_1) := by
  unfold alter_Check_L14
  exact LFix_ch (fun κ => (alter_Check_L14_cn (r11 κ) a t).mono) (alter_Check_L14_cn r11' a t).mono (fun g h hg x => alter_Check_L14_B_ch r11 r11' h_r11 (fun κ bad_1 t_1 no_1 => g κ (bad_1, t_1, no_1)) (fun bad_1 t_1 no_1 => h (bad_1, t_1, no_1)) (fun bad_1 t_1 no_1 => hg (bad_1, t_1, no_1)) a t x.1 x.2.1 x.2.2) _
theorem alter_Check_L11_B_ch (r11 : Nat → Bool → Int → Int → Option (Int)) (r11' : Bool → Int → Int → Option (Int)) (h_r11 : ∀ a0 a1 a2, ChO (fun κ => r11 κ a0 a1 a2) (r11' a0 a1 a2)) (a : (Int × Int × (List (List (List (List Int)))) × (List Int) × Unit)) (bad : Bool) (t : Int) (no : Int) : ChO (fun κ => alter_Check_L11_B a (r11 κ) bad t no) (alter_Check_L11_B a r11' bad t no) := by
  unfold alter_Check_L11_B
  repeat' with_reducible first | exact ChO.const _ | exact h_r11 _ _ _ | (apply alter_Check_L14_ch <;> assumption) | apply ChO.ite | apply ChO.G | apply ChO.both | (apply ChO.bind; intro _)
theorem alter_Check_L11_cn  (a : (Int × Int × (List (List (List (List Int)))) × (List Int) × Unit)) : Cn (alter_Check_L11_F a) := fun g h hg x => alter_Check_L11_B_ch  (fun κ bad t no => g κ (bad, t, no)) (fun bad t no => h (bad, t, no)) (fun bad t no => hg (bad, t, no)) a x.1 x.2.1 x.2.2
theorem alter_Check_L11_eq  (a : (Int × Int × (List (List (List (List Int)))) × (List Int) × Unit)) (bad : Bool) (t : Int) (no : Int) : alter_Check_L11 a bad t no = alter_Check_L11_B a (alter_Check_L11 a) bad t no := LFix_eq (alter_Check_L11_cn a) (bad, t, no)

noncomputable def alter_ends_L3_B (a : (Int × Int × (List (List (List (List Int)))) × (List Int) × Unit)) (r3 : Int → Int → Option (Int)) (set' : Int) (t : Int) : Option (Int) :=
  if (decide (t < (a.2.2.2.1.length : Int))) = true then
  G (0 ≤ t ∧ t < (a.2.2.2.1.length : Int)) (
  G (0 ≤ t) (
  G (fits (t + (1 : Int))) (
  r3 (ior .i64 set' (ishl .i64 (ix a.2.2.2.1 t) t)) (t + (1 : Int))))) else
  some set'
noncomputable def alter_ends_L3_F (a : (Int × Int × (List (List (List (List Int)))) × (List Int) × Unit)) : (Int × Int → Option (Int)) → Int × Int → Option (Int) :=
  fun rec x => alter_ends_L3_B a (fun set' t => rec (set', t)) x.1 x.2
noncomputable def alter_ends_L3 (a : (Int × Int × (List (List (List (List Int)))) × (List Int) × Unit)) (set' : Int) (t : Int) : Option (Int) := LFix (alter_ends_L3_F a ) (set', t)
noncomputable def alter_ends (a : (Int × Int × (List (List (List (List Int)))) × (List Int) × Unit)) : Option (Int) :=
  alter_ends_L3 a (0 : Int) (0 : Int)
theorem alter_ends_L3_B_ch (r3 : Nat → Int → Int → Option (Int)) (r3' : Int → Int → Option (Int)) (h_r3 : ∀ a0 a1, ChO (fun κ => r3 κ a0 a1) (r3' a0 a1)) (a : (Int × Int × (List (List (List (List Int)))) × (List Int) × Unit)) (set' : Int) (t : Int) : ChO (fun κ => alter_ends_L3_B a (r3 κ) set' t) (alter_ends_L3_B a r3' set' t) := by
  unfold alter_ends_L3_B
  repeat' with_reducible first | exact ChO.const _ | exact h_r3 _ _ | apply ChO.ite | apply ChO.G | apply ChO.both | (apply ChO.bind; intro _)
theorem alter_ends_L3_cn  (a : (Int × Int × (List (List (List (List Int)))) × (List Int) × Unit)) : Cn (alter_ends_L3_F a) := fun g h hg x => alter_ends_L3_B_ch  (fun κ set' t => g κ (set', t)) (fun set' t => h (set', t)) (fun set' t => hg (set', t)) a x.1 x.2
theorem alter_ends_L3_eq  (a : (Int × Int × (List (List (List (List Int)))) × (List Int) × Unit)) (set' : Int) (t : Int) : alter_ends_L3 a set' t = alter_ends_L3_B a (alter_ends_L3 a) set' t := LFix_eq (alter_ends_L3_cn a) (set', t)

noncomputable def alter_ahead_1_1 (p : Int) (t : Int) : Option (Bool) :=
  G (0 ≤ p) (
  some (decide ((iand .i64 (ishr .i64 t p) (1 : Int)) = (0 : Int))))

noncomputable def slices_IndexFunc_14_L2_B (s : (List Int)) (c : Int) (r2 : Int → Option (Int)) (t : Int) : Option (Int) :=
  if (decide (t < (s.length : Int))) = true then
  G (0 ≤ t ∧ t < (s.length : Int)) (
  (alter_ahead_1_1 (ix s t) c).bind (fun y' =>
  if y' = true then
  some t else
  G (fits (t + (1 : Int))) (
  r2 (t + (1 : Int))))) else
  some (-1 : Int)
noncomputable def slices_IndexFunc_14_L2_F (s : (List Int)) (c : Int) : (Int → Option (Int)) → Int → Option (Int) :=
  fun rec x => slices_IndexFunc_14_L2_B s c (fun t => rec t) x
noncomputable def slices_IndexFunc_14_L2 (s : (List Int)) (c : Int) (t : Int) : Option (Int) := LFix (slices_IndexFunc_14_L2_F s c ) t
noncomputable def slices_IndexFunc_14 (s : (List Int)) (c : Int) : Option (Int) :=
  slices_IndexFunc_14_L2 s c (0 : Int)
theorem slices_IndexFunc_14_L2_B_ch (r2 : Nat → Int → Option (Int)) (r2' : Int → Option (Int)) (h_r2 : ∀ a0, ChO (fun κ => r2 κ a0) (r2' a0)) (s : (List Int)) (c : Int) (t : Int) : ChO (fun κ => slices_IndexFunc_14_L2_B s c (r2 κ) t) (slices_IndexFunc_14_L2_B s c r2' t) := by
  unfold slices_IndexFunc_14_L2_B
  repeat' with_reducible first | exact ChO.const _ | exact h_r2 _ | apply ChO.ite | apply ChO.G | apply ChO.both | (apply ChO.bind; intro _)
theorem slices_IndexFunc_14_L2_cn  (s : (List Int)) (c : Int) : Cn (slices_IndexFunc_14_L2_F s c) := fun g h hg x => slices_IndexFunc_14_L2_B_ch  (fun κ t => g κ t) (fun t => h t) (fun t => hg t) s c x
theorem slices_IndexFunc_14_L2_eq  (s : (List Int)) (c : Int) (t : Int) : slices_IndexFunc_14_L2 s c t = slices_IndexFunc_14_L2_B s c (slices_IndexFunc_14_L2 s c) t := LFix_eq (slices_IndexFunc_14_L2_cn s c) t

noncomputable def slices_ContainsFunc_14 (s : (List Int)) (c : Int) : Option (Bool) :=
  (slices_IndexFunc_14 s c).bind (fun y' =>
  some (decide ((0 : Int) ≤ y')))

noncomputable def alter_ahead_1 (c : (List Int)) (t : Int) : Option (Bool) :=
  (slices_ContainsFunc_14 c t).bind (fun y' =>
  some (!y'))

noncomputable def slices_IndexFunc_13_L2_B (s : (List (List Int))) (c : Int) (r2 : Int → Option (Int)) (t : Int) : Option (Int) :=
  if (decide (t < (s.length : Int))) = true then
  G (0 ≤ t ∧ t < (s.length : Int)) (
  (alter_ahead_1 (ix s t) c).bind (fun y' =>
  if y' = true then
  some t else
  G (fits (t + (1 : Int))) (
  r2 (t + (1 : Int))))) else
  some (-1 : Int)
noncomputable def slices_IndexFunc_13_L2_F (s : (List (List Int))) (c : Int) : (Int → Option (Int)) → Int → Option (Int) :=
  fun rec x => slices_IndexFunc_13_L2_B s c (fun t => rec t) x
noncomputable def slices_IndexFunc_13_L2 (s : (List (List Int))) (c : Int) (t : Int) : Option (Int) := LFix (slices_IndexFunc_13_L2_F s c ) t
noncomputable def slices_IndexFunc_13 (s : (List (List Int))) (c : Int) : Option (Int) :=
  slices_IndexFunc_13_L2 s c (0 : Int)
theorem slices_IndexFunc_13_L2_B_ch (r2 : Nat → Int → Option (Int)) (r2' : Int → Option (Int)) (h_r2 : ∀ a0, ChO (fun κ => r2 κ a0) (r2' a0)) (s : (List (List Int))) (c : Int) (t : Int) : ChO (fun κ => slices_IndexFunc_13_L2_B s c (r2 κ) t) (slices_IndexFunc_13_L2_B s c r2' t) := by
  unfold slices_IndexFunc_13_L2_B
  repeat' with_reducible first | exact ChO.const _ | exact h_r2 _ | apply ChO.ite | apply ChO.G | apply ChO.both | (apply ChO.bind; intro _)
theorem slices_IndexFunc_13_L2_cn  (s : (List (List Int))) (c : Int) : Cn (slices_IndexFunc_13_L2_F s c) := fun g h hg x => slices_IndexFunc_13_L2_B_ch  (fun κ t => g κ t) (fun t => h t) (fun t => hg t) s c x
theorem slices_IndexFunc_13_L2_eq  (s : (List (List Int))) (c : Int) (t : Int) : slices_IndexFunc_13_L2 s c t = slices_IndexFunc_13_L2_B s c (slices_IndexFunc_13_L2 s c) t := LFix_eq (slices_IndexFunc_13_L2_cn s c) t

noncomputable def slices_ContainsFunc_13 (s : (List (List Int))) (c : Int) : Option (Bool) :=
  (slices_IndexFunc_13 s c).bind (fun y' =>
  some (decide ((0 : Int) ≤ y')))

noncomputable def alter_ahead_L3_B (a : (Int × Int × (List (List (List (List Int)))) × (List Int) × Unit)) (set' : Int) (letter : Int) (r3 : Int → Int → Option (Int)) (out : Int) (t : Int) : Option (Int) :=
  if (decide (t < (a.2.2.1.length : Int))) = true then
  G (0 ≤ t ∧ t < (a.2.2.1.length : Int)) (
  G (0 ≤ letter ∧ letter < ((ix a.2.2.1 t).length : Int)) (
  (slices_ContainsFunc_13 (ix (ix a.2.2.1 t) letter) set').bind (fun y' =>
  if y' = true then
  G (0 ≤ t) (
  G (fits (t + (1 : Int))) (
  r3 (ior .i64 out (ishl .i64 (1 : Int) t)) (t + (1 : Int)))) else
  G (fits (t + (1 : Int))) (
  r3 out (t + (1 : Int)))))) else
  some out
noncomputable def alter_ahead_L3_F (a : (Int × Int × (List (List (List (List Int)))) × (List Int) × Unit)) (set' : Int) (letter : Int) : (Int × Int → Option (Int)) → Int × Int → Option (Int) :=
  fun rec x => alter_ahead_L3_B a set' letter (fun out t => rec (out, t)) x.1 x.2
noncomputable def alter_ahead_L3 (a : (Int × Int × (List (List (List (List Int)))) × (List Int) × Unit)) (set' : Int) (letter : Int) (out : Int) (t : Int) : Option (Int) := LFix (alter_ahead_L3_F a set' letter ) (out, t)
noncomputable def alter_ahead (a : (Int × Int × (List (List (List (List Int)))) × (List Int) × Unit)) (set' : Int) (letter : Int) : Option (Int) :=
  alter_ahead_L3 a set' letter (0 : Int) (0 : Int)
theorem alter_ahead_L3_B_ch (r3 : Nat → Int → Int → Option (Int)) (r3' : Int → Int → Option (Int)) (h_r3 : ∀ a0 a1, ChO (fun κ => r3 κ a0 a1) (r3' a0 a1)) (a : (Int × Int × (List (List (List (List Int)))) × (List Int) × Unit)) (set' : Int) (letter : Int) (out : Int) (t : Int) : ChO (fun κ => alter_ahead_L3_B a set' letter (r3 κ) out t) (alter_ahead_L3_B a set' letter r3' out t) := by
  unfold alter_ahead_L3_B
  repeat' with_reducible first | exact ChO.const _ | exact h_r3 _ _ | apply ChO.ite | apply ChO.G | apply ChO.both | (apply ChO.bind; intro _)
theorem alter_ahead_L3_cn  (a : (Int × Int × (List (List (List (List Int)))) × (List Int) × Unit)) (set' : Int) (letter : Int) : Cn (alter_ahead_L3_F a set' letter) := fun g h hg x => alter_ahead_L3_B_ch  (fun κ out t => g κ (out, t)) (fun out t => h (out, t)) (fun out t => hg (out, t)) a set' letter x.1 x.2
theorem alter_ahead_L3_eq  (a : (Int × Int × (List (List (List (List Int)))) × (List Int) × Unit)) (set' : Int) (letter : Int) (out : Int) (t : Int) : alter_ahead_L3 a set' letter out t = alter_ahead_L3_B a set' letter (alter_ahead_L3 a set' letter) out t := LFix_eq (alter_ahead_L3_cn a set' letter) (out, t)

noncomputable def alter_Det_1_L3_B (good : Int) (letter : Int) (t : (Int × Int × (List (List (List (List Int)))) × (List Int) × Unit)) (r3 : Int → Int → Option (Int)) (next' : Int) (t_1 : Int) : Option (Int) :=
  if (decide (t_1 < (16 : Int))) = true then
  (alter_ahead t t_1 letter).bind (fun y' =>
  G (0 ≤ y') (
  if (decide ((iand .i64 (ishr .i64 good y') (1 : Int)) = (1 : Int))) = true then
  G (0 ≤ t_1) (
  G (fits (t_1 + (1 : Int))) (
  r3 (ior .i64 next' (ishl .i64 (1 : Int) t_1)) (t_1 + (1 : Int)))) else
  G (fits (t_1 + (1 : Int))) (
  r3 next' (t_1 + (1 : Int))))) else
  some next'
noncomputable def alter_Det_1_L3_F (good : Int) (letter : Int) (t : (Int × Int × (List (List (List (List Int)))) × (List Int) × Unit)) : (Int × Int → Option (Int)) → Int × Int → Option (Int) :=
  fun rec x => alter_Det_1_L3_B good letter t (fun next' t_1 => rec (next', t_1)) x.1 x.2
noncomputable def alter_Det_1_L3 (good : Int) (letter : Int) (t : (Int × Int × (List (List (List (List Int)))) × (List Int) × Unit)) (next' : Int) (t_1 : Int) : Option (Int) := LFix (alter_Det_1_L3_F good letter t ) (next', t_1)
noncomputable def alter_Det_1 (good : Int) (letter : Int) (t : (Int × Int × (List (List (List (List Int)))) × (List Int) × Unit)) : Option (Int) :=
  alter_Det_1_L3 good letter t (0 : Int) (0 : Int)
theorem alter_Det_1_L3_B_ch (r3 : Nat → Int → Int → Option (Int)) (r3' : Int → Int → Option (Int)) (h_r3 : ∀ a0 a1, ChO (fun κ => r3 κ a0 a1) (r3' a0 a1)) (good : Int) (letter : Int) (t : (Int × Int × (List (List (List (List Int)))) × (List Int) × Unit)) (next' : Int) (t_1 : Int) : ChO (fun κ => alter_Det_1_L3_B good letter t (r3 κ) next' t_1) (alter_Det_1_L3_B good letter t r3' next' t_1) := by
  unfold alter_Det_1_L3_B
  repeat' with_reducible first | exact ChO.const _ | exact h_r3 _ _ | apply ChO.ite | apply ChO.G | apply ChO.both | (apply ChO.bind; intro _)
theorem alter_Det_1_L3_cn  (good : Int) (letter : Int) (t : (Int × Int × (List (List (List (List Int)))) × (List Int) × Unit)) : Cn (alter_Det_1_L3_F good letter t) := fun g h hg x => alter_Det_1_L3_B_ch  (fun κ next' t_1 => g κ (next', t_1)) (fun next' t_1 => h (next', t_1)) (fun next' t_1 => hg (next', t_1)) good letter t x.1 x.2
theorem alter_Det_1_L3_eq  (good : Int) (letter : Int) (t : (Int × Int × (List (List (List (List Int)))) × (List Int) × Unit)) (next' : Int) (t_1 : Int) : alter_Det_1_L3 good letter t next' t_1 = alter_Det_1_L3_B good letter t (alter_Det_1_L3 good letter t) next' t_1 := LFix_eq (alter_Det_1_L3_cn good letter t) (next', t_1)

noncomputable def alter_Det_2 (good : Int) (t : Int) : Option (Int) :=
  G (0 ≤ t) (
  some (iand .i64 (ishr .i64 good t) (1 : Int)))

noncomputable def det_Explore_2_J17 (t : Int) (row : (List Int)) (r8 : (Int → (List Int) → (List Int) → (List Int) → (List Int) → Option ((Int × Int × (List (List Int)) × (List Int) × Unit) × Bool))) (n : Int) (number_4 : (List Int)) (number_5 : (List Int)) (l_2 : (List Int)) : Option ((Int × Int × (List (List Int)) × (List Int) × Unit) × Bool) :=
  G (0 ≤ t ∧ t < (row.length : Int)) (
  G ((t).toNat < row.length) (
  G (fits (t + (1 : Int))) (
  r8 (t + (1 : Int)) number_4 number_5 l_2 (row.set (t).toNat n))))
noncomputable def det_Explore_2_L8_B (letters : Int) (c : (Int × Int × (List (List (List (List Int)))) × (List Int) × Unit)) (c_1 : Int) (most : Int) (d : Int) (d_1 : Int) (l : (List Int)) (d_2 : (List (List Int))) (d_3 : (List Int)) (r4 : (Int → Int → (List Int) → (List Int) → (List Int) → (List (List Int)) → (List Int) → Option ((Int × Int × (List (List Int)) × (List Int) × Unit) × Bool))) (r8 : Int → (List Int) → (List Int) → (List Int) → (List Int) → Option ((Int × Int × (List (List Int)) × (List Int) × Unit) × Bool)) (t : Int) (number_2 : (List Int)) (number_3 : (List Int)) (l_1 : (List Int)) (row : (List Int)) : Option ((Int × Int × (List (List Int)) × (List Int) × Unit) × Bool) :=
  if (decide (t < letters)) = true then
  (alter_Det_1 (ix l (d_2.length : Int)) t c).bind (fun y' =>
  if (!(mhas number_2 y')) = true then
  if (decide ((l_1.length : Int) = most)) = true then
  some (((0 : Int), ((0 : Int), ([], ([], ())))), false) else
  G (room l_1 ([y']) 8) (
  det_Explore_2_J17 t row r8 (l_1.length : Int) (mputK number_2 y') (mputV number_2 number_3 y' (l_1.length : Int)) (l_1 ++ ([y']))) else
  det_Explore_2_J17 t row r8 (mget number_2 number_3 y' (0 : Int)) number_2 number_3 l_1) else
  G (room d_2 ([row]) 24) (
  (alter_Det_2 (ix l (d_2.length : Int)) c_1).bind (fun y'_1 =>
  G (room d_3 ([y'_1]) 8) (
  r4 d d_1 number_2 number_3 l_1 (d_2 ++ ([row])) (d_3 ++ ([y'_1])))))
noncomputable def det_Explore_2_L8_F (letters : Int) (c : (Int × Int × (List (List (List (List Int)))) × (List Int) × Unit)) (c_1 : Int) (most : Int) (d : Int) (d_1 : Int) (l : (List Int)) (d_2 : (List (List Int))) (d_3 : (List Int)) (r4 : (Int → Int → (List Int) → (List Int) → (List Int) → (List (List Int)) → (List Int) → Option ((Int × Int × (List (List Int)) × (List Int) × Unit) × Bool))) : (Int × (List Int) × (List Int) × (List Int) × (List Int) → Option ((Int × Int × (List (List Int)) × (List Int) × Unit) × Bool)) → Int × (List Int) × (List Int) × (List Int) × (List Int) → Option ((Int × Int × (List (List Int)) × (List Int) × Unit) × Bool) :=
  fun rec x => det_Explore_2_L8_B letters c c_1 most d d_1 l d_2 d_3 r4 (fun t number_2 number_3 l_1 row => rec (t, number_2, number_3, l_1, row)) x.1 x.2.1 x.2.2.1 x.2.2.2.1 x.2.2.2.2
noncomputable def det_Explore_2_L8 (letters : Int) (c : (Int × Int × (List (List (List (List Int)))) × (List Int) × Unit)) (c_1 : Int) (most : Int) (d : Int) (d_1 : Int) (l : (List Int)) (d_2 : (List (List Int))) (d_3 : (List Int)) (r4 : (Int → Int → (List Int) → (List Int) → (List Int) → (List (List Int)) → (List Int) → Option ((Int × Int × (List (List Int)) × (List Int) × Unit) × Bool))) (t : Int) (number_2 : (List Int)) (number_3 : (List Int)) (l_1 : (List Int)) (row : (List Int)) : Option ((Int × Int × (List (List Int)) × (List Int) × Unit) × Bool) := LFix (det_Explore_2_L8_F letters c c_1 most d d_1 l d_2 d_3 r4 ) (t, number_2, number_3, l_1, row)
noncomputable def det_Explore_2_L4_B (letters : Int) (c : (Int × Int × (List (List (List (List Int)))) × (List Int) × Unit)) (c_1 : Int) (most : Int) (r4 : Int → Int → (List Int) → (List Int) → (List Int) → (List (List Int)) → (List Int) → Option ((Int × Int × (List (List Int)) × (List Int) × Unit) × Bool)) (d : Int) (d_1 : Int) (number : (List Int)) (number_1 : (List Int)) (l : (List Int)) (d_2 : (List (List Int))) (d_3 : (List Int)) : Option ((Int × Int × (List (List Int)) × (List Int) × Unit) × Bool) :=
  if (decide ((d_2.length : Int) < (l.length : Int))) = true then
  G (0 ≤ (d_2.length : Int) ∧ (d_2.length : Int) < (l.length : Int)) (
  G (((d_2.length : Int)).toNat < l.length) (
  G (mkOK letters letters 8) (
  det_Explore_2_L8 letters c c_1 most d d_1 l d_2 d_3 r4 (0 : Int) number number_1 l (List.replicate (letters).toNat (0 : Int))))) else
  some ((d, (d_1, (d_2, (d_3, ())))), true)
noncomputable def det_Explore_2_L4_F (letters : Int) (c : (Int × Int × (List (List (List (List Int)))) × (List Int) × Unit)) (c_1 : Int) (most : Int) : (Int × Int × (List Int) × (List Int) × (List Int) × (List (List Int)) × (List Int) → Option ((Int × Int × (List (List Int)) × (List Int) × Unit) × Bool)) → Int × Int × (List Int) × (List Int) × (List Int) × (List (List Int)) × (List Int) → Option ((Int × Int × (List (List Int)) × (List Int) × Unit) × Bool) :=
  fun rec x => det_Explore_2_L4_B letters c c_1 most (fun d d_1 number number_1 l d_2 d_3 => rec (d, d_1, number, number_1, l, d_2, d_3)) x.1 x.2.1 x.2.2.1 x.2.2.2.1 x.2.2.2.2.1 x.2.2.2.2.2.1 x.2.2.2.2.2.2
noncomputable def det_Explore_2_L4 (letters : Int) (c : (Int × Int × (List (List (List (List Int)))) × (List Int) × Unit)) (c_1 : Int) (most : Int) (d : Int) (d_1 : Int) (number : (List Int)) (number_1 : (List Int)) (l : (List Int)) (d_2 : (List (List Int))) (d_3 : (List Int)) : Option ((Int × Int × (List (List Int)) × (List Int) × Unit) × Bool) := LFix (det_Explore_2_L4_F letters c c_1 most ) (d, d_1, number, number_1, l, d_2, d_3)
noncomputable def det_Explore_2 (letters : Int) (first : Int) (c : (Int × Int × (List (List (List (List Int)))) × (List Int) × Unit)) (c_1 : Int) (most : Int) : Option ((Int × Int × (List (List Int)) × (List Int) × Unit) × Bool) :=
  det_Explore_2_L4 letters c c_1 most letters (0 : Int) (mputK ([] : List Int) first) (mputV ([] : List Int) ([] : List Int) first (0 : Int)) ([first]) ([] : List (List Int)) ([] : List Int)
theorem det_Explore_2_J17_ch (r8 : Nat → Int → (List Int) → (List Int) → (List Int) → (List Int) → Option ((Int × Int × (List (List Int)) × (List Int) × Unit) × Bool)) (r8' : Int → (List Int) → (List Int) → (List Int) → (List Int) → Option ((Int × Int × (List (List Int)) × (List Int) × Unit) × Bool)) (h_r8 : ∀ a0 a1 a2 a3 a4, ChO (fun κ => r8 κ a0 a1 a2 a3 a4) (r8' a0 a1 a2 a3 a4)) (t : Int) (row : (List Int)) (n : Int) (number_4 : (List Int)) (number_5 : (List Int)) (l_2 : (List Int)) : ChO (fun κ => det_Explore_2_J17 t row (r8 κ) n number_4 number_5 l_2) (det_Explore_2_J17 t row r8' n number_4 number_5 l_2) := by
  unfold det_Explore_2_J17
  repeat' with_reducible first | exact ChO.const _ | exact h_r8 _ _ _ _ _ | apply ChO.ite | apply ChO.G | apply ChO.both | (apply ChO.bind; intro _)
theorem det_Explore_2_L8_B_ch (r4 : Nat → Int → Int → (List Int) → (List Int) → (List Int) → (List (List Int)) → (List Int) → Option ((Int × Int × (List (List Int)) × (List Int) × Unit) × Bool)) (r4' : Int → Int → (List Int) → (List Int) → (List Int) → (List (List Int)) → (List Int) → Option ((Int × Int × (List (List Int)) × (List Int) × Unit) × Bool)) (h_r4 : ∀ a0 a1 a2 a3 a4 a5 a6, ChO (fun κ => r4 κ a0 a1 a2 a3 a4 a5 a6) (r4' a0 a1 a2 a3 a4 a5 a6)) (r8 : Nat → Int → (List Int) → (List Int) → (List Int) → (List Int) → Option ((Int × Int × (List (List Int)) × (List Int) × Unit) × Bool)) (r8' : Int → (List Int) → (List Int) → (List Int) → (List Int) → Option ((Int × Int × (List (List Int)) × (List Int) × Unit) × Bool)) (h_r8 : ∀ a0 a1 a2 a3 a4, ChO (fun κ => r8 κ a0 a1 a2 a3 a4) (r8' a0 a1 a2 a3 a4)) (letters : Int) (c : (Int × Int × (List (List (List (List Int)))) × (List Int) × Unit)) (c_1 : Int) (most : Int) (d : Int) (d_1 : Int) (l : (List Int)) (d_2 : (List (List Int))) (d_3 : (List Int)) (t : Int) (number_2 : (List Int)) (number_3 : (List Int)) (l_1 : (List Int)) (row : (List Int)) : ChO (fun κ => det_Explore_2_L8_B letters c c_1 most d d_1 l d_2 d_3 (r4 κ) (r8 κ) t number_2 number_3 l_1 row) (det_Explore_2_L8_B letters c c_1 most d d_1 l d_2 d_3 r4' r8' t number_2 number_3 l_1 row) := by
  unfold det_Explore_2_L8_B
  repeat' with_reducible first | exact ChO.const _ | exact h_r4 _ _ _ _ _ _ _ | exact h_r8 _ _ _ _ _ | (apply det_Explore_2_J17_ch <;> assumption) | apply ChO.ite | apply ChO.G | apply ChO.both | (apply ChO.bind; intro _)
theorem det_Explore_2_L8_cn (r4 : Int → Int → (List Int) → (List Int) → (List Int) → (List (List Int)) → (List Int) → Option ((Int × Int × (List (List Int)) × (List Int) × Unit) × Bool)) (letters : Int) (c : (Int × Int × (List (List (List (List Int)))) × (List Int) × Unit)) (c_1 : Int) (most : Int) (d : Int) (d_1 : Int) (l : (List Int)) (d_2 : (List (List Int))) (d_3 : (List Int)) : Cn (det_Explore_2_L8_F letters c c_1 most d d_1 l d_2 d_3 r4) := fun g h hg x => det_Explore_2_L8_B_ch (fun _ => r4) r4 (fun _ _ _ _ _ _ _ => ChO.const _) (fun κ t number_2 number_3 l_1 row => g κ (t, number_2, number_3, l_1, row)) (fun t number_2 number_3 l_1 row => h (t, number_2, number_3, l_1, row)) (fun t number_2 number_3 l_1 row => hg (t, number_2, number_3, l_1, row)) letters c c_1 most d d_1 l d_2 d_3 x.1 x.2.1 x.2.2.1 x.2.2.2.1 x.2.2.2.2
theorem det_Explore_2_L8_eq (r4 : Int → Int → (List Int) → (List Int) → (List Int) → (List (List Int)) → (List Int) → Option ((Int × Int × (List (List Int)) × (List Int) × Unit) × Bool)) (letters : Int) (c : (Int × Int × (List (List (List (List Int)))) × (List Int) × Unit)) (c_1 : Int) (most : Int) (d : Int) (d_1 : Int) (l : (List Int)) (d_2 : (List (List Int))) (d_3 : (List Int)) (t : Int) (number_2 : (List Int)) (number_3 : (List Int)) (l_1 : (List Int)) (row : (List Int)) : det_Explore_2_L8 letters c c_1 most d d_1 l d_2 d_3 r4 t number_2 number_3 l_1 row = det_Explore_2_L8_B letters c c_1 most d d_1 l d_2 d_3 r4 (det_Explore_2_L8 letters c c_1 most d d_1 l d_2 d_3 r4) t number_2 number_3 l_1 row := LFix_eq (det_Explore_2_L8_cn r4 letters c c_1 most d d_1 l d_2 d_3) (t, number_2, number_3, l_1, row)
theorem det_Explore_2_L8_ch (r4 : Nat → Int → Int → (List Int) → (List Int) → (List Int) → (List (List Int)) → (List Int) → Option ((Int × Int × (List (List Int)) × (List Int) × Unit) × Bool)) (r4' : Int → Int → (List Int) → (List Int) → (List Int) → (List (List Int)) → (List Int) → Option ((Int × Int × (List (List Int)) × (List Int) × Unit) × Bool)) (h_r4 : ∀ a0 a1 a2 a3 a4 a5 a6, ChO (fun κ => r4 κ a0 a1 a2 a3 a4 a5 a6) (r4' a0 a1 a2 a3 a4 a5 a6)) (letters : Int) (c : (Int × Int × (List (List (List (List Int)))) × (List Int) × Unit)) (c_1 : Int) (most : Int) (d : Int) (d_1 : Int) (l : (List Int)) (d_2 : (List (List Int))) (d_3 : (List Int)) (t : Int) (number_2 : (List Int)) (number_3 : (List Int)) (l_1 : (List Int)) (row : (List Int)) : ChO (fun κ => det_Explore_2_L8 letters c c_1 most d d_1 l d_2 d_3 (r4 κ) t number_2 number_3 l_1 row) (det_Explore_2_L8 letters c c_1 most d d_1 l d_2 d_3 r4' t number_2 number_3 l_1 row) := by
  unfold det_Explore_2_L8
  exact LFix_ch (fun κ => (det_Explore_2_L8_cn (r4 κ) letters c c_1 most d d_1 l d_2 d_3).mono) (det_Explore_2_L8_cn r4' letters c c_1 most d d_1 l d_2 d_3).mono (fun g h hg x => det_Explore_2_L8_B_ch r4 r4' h_r4 (fun κ t number_2 number_3 l_1 row => g κ (t, number_2, number_3, l_1, row)) (fun t number_2 number_3 l_1 row => h (t, number_2, number_3, l_1, row)) (fun t number_2 number_3 l_1 row => hg (t, number_2, number_3, l_1, row)) letters c c_1 most d d_1 l d_2 d_3 x.1 x.2.1 x.2.2.1 x.2.2.2.1 x.2.2.2.2) _
theorem det_Explore_2_L4_B_ch (r4 : Nat → Int → Int → (List Int) → (List Int) → (List Int) → (List (List Int)) → (List Int) → Option ((Int × Int × (List (List Int)) × (List Int) × Unit) × Bool)) (r4' : Int → Int → (List Int) → (List Int) → (List Int) → (List (List Int)) → (List Int) → Option ((Int × Int × (List (List Int)) × (List Int) × Unit) × Bool)) (h_r4 : ∀ a0 a1 a2 a3 a4 a5 a6, ChO (fun κ => r4 κ a0 a1 a2 a3 a4 a5 a6) (r4' a0 a1 a2 a3 a4 a5 a6)) (letters : Int) (c : (Int × Int × (List (List (List (List Int)))) × (List Int) × Unit)) (c_1 : Int) (most : Int) (d : Int) (d_1 : Int) (number : (List Int)) (number_1 : (List Int)) (l : (List Int)) (d_2 : (List (List Int))) (d_3 : (List Int)) : ChO (fun κ => det_Explore_2_L4_B letters c c_1 most (r4 κ) d d_1 number number_1 l d_2 d_3) (det_Explore_2_L4_B letters c c_1 most r4' d d_1 number number_1 l d_2 d_3) := by
  unfold det_Explore_2_L4_B
  repeat' with_reducible first | exact ChO.const _ | exact h_r4 _ _ _ _ _ _ _ | (apply det_Explore_2_J17_ch <;> assumption) | (apply det_Explore_2_L8_ch <;> assumption) | apply ChO.ite | apply ChO.G | apply ChO.both | (apply ChO.bind; intro _)
theorem det_Explore_2_L4_cn  (letters : Int) (c : (Int × Int × (List (List (List (List Int)))) × (List Int) × Unit)) (c_1 : Int) (most : Int) : Cn (det_Explore_2_L4_F letters c c_1 most) := fun g h hg x => det_Explore_2_L4_B_ch  (fun κ d d_1 number number_1 l d_2 d_3 => g κ (d, d_1, number, number_1, l, d_2, d_3)) (fun d d_1 number number_1 l d_2 d_3 => h (d, d_1, number, number_1, l, d_2, d_3)) (fun d d_1 number number_1 l d_2 d_3 => hg (d, d_1, number, number_1, l, d_2, d_3)) letters c c_1 most x.1 x.2.1 x.2.2.1 x.2.2.2.1 x.2.2.2.2.1 x.2.2.2.2.2.1 x.2.2.2.2.2.2
theorem det_Explore_2_L4_eq  (letters : Int) (c : (Int × Int × (List (List (List (List Int)))) × (List Int) × Unit)) (c_1 : Int) (most : Int) (d : Int) (d_1 : Int) (number : (List Int)) (number_1 : (List Int)) (l : (List Int)) (d_2 : (List (List Int))) (d_3 : (List Int)) : det_Explore_2_L4 letters c c_1 most d d_1 number number_1 l d_2 d_3 = det_Explore_2_L4_B letters c c_1 most (det_Explore_2_L4 letters c c_1 most) d d_1 number number_1 l d_2 d_3 := LFix_eq (det_Explore_2_L4_cn letters c c_1 most) (d, d_1, number, number_1, l, d_2, d_3)

noncomputable def alter_Det_L6_B (a : (Int × Int × (List (List (List (List Int)))) × (List Int) × Unit)) (r6 : Int → Int → Option ((Int × Int × (List (List Int)) × (List Int) × Unit) × Int)) (first : Int) (t : Int) : Option ((Int × Int × (List (List Int)) × (List Int) × Unit) × Int) :=
  if (decide (t < (16 : Int))) = true then
  G (0 ≤ a.2.1) (
  if (decide ((iand .i64 (ishr .i64 t a.2.1) (1 : Int)) = (1 : Int))) = true then
  G (0 ≤ t) (
  G (fits (t + (1 : Int))) (
  r6 (ior .i64 first (ishl .i64 (1 : Int) t)) (t + (1 : Int)))) else
  G (fits (t + (1 : Int))) (
  r6 first (t + (1 : Int)))) else
  (alter_ends (a.1, (a.2.1, (a.2.2.1, (a.2.2.2.1, ()))))).bind (fun y'_1 =>
  (det_Explore_2 a.1 first (a.1, (a.2.1, (a.2.2.1, (a.2.2.2.1, ())))) y'_1 (131072 : Int)).bind (fun y'_6 =>
  (det_Smallest (y'_6.1.1, (y'_6.1.2.1, (y'_6.1.2.2.1, (y'_6.1.2.2.2.1, ()))))).bind (fun y'_5 =>
  if (!y'_6.2) = true then
  some (((0 : Int), ((0 : Int), ([], ([], ())))), (7 : Int)) else
  if (decide ((3000 : Int) < (y'_5.2.2.1.length : Int))) = true then
  some (((0 : Int), ((0 : Int), ([], ([], ())))), (7 : Int)) else
  some ((y'_5.1, (y'_5.2.1, (y'_5.2.2.1, (y'_5.2.2.2.1, ())))), (0 : Int)))))
noncomputable def alter_Det_L6_F (a : (Int × Int × (List (List (List (List Int)))) × (List Int) × Unit)) : (Int × Int → Option ((Int × Int × (List (List Int)) × (List Int) × Unit) × Int)) → Int × Int → Option ((Int × Int × (List (List Int)) × (List Int) × Unit) × Int) :=
  fun rec x => alter_Det_L6_B a (fun first t => rec (first, t)) x.1 x.2
noncomputable def alter_Det_L6 (a : (Int × Int × (List (List (List (List Int)))) × (List Int) × Unit)) (first : Int) (t : Int) : Option ((Int × Int × (List (List Int)) × (List Int) × Unit) × Int) := LFix (alter_Det_L6_F a ) (first, t)
noncomputable def alter_Det (a : (Int × Int × (List (List (List (List Int)))) × (List Int) × Unit)) : Option ((Int × Int × (List (List Int)) × (List Int) × Unit) × Int) :=
  (alter_Check (a.1, (a.2.1, (a.2.2.1, (a.2.2.2.1, ()))))).bind (fun y' =>
  if (decide (¬ y' = (0 : Int))) = true then
  some (((0 : Int), ((0 : Int), ([], ([], ())))), y') else
  alter_Det_L6 a (0 : Int) (0 : Int))
theorem alter_Det_L6_B_ch (r6 : Nat → Int → Int → Option ((Int × Int × (List (List Int)) × (List Int) × Unit) × Int)) (r6' : Int → Int → Option ((Int × Int × (List (List Int)) × (List Int) × Unit) × Int)) (h_r6 : ∀ a0 a1, ChO (fun κ => r6 κ a0 a1) (r6' a0 a1)) (a : (Int × Int × (List (List (List (List Int)))) × (List Int) × Unit)) (first : Int) (t : Int) : ChO (fun κ => alter_Det_L6_B a (r6 κ) first t) (alter_Det_L6_B a r6' first t) := by
  unfold alter_Det_L6_B
  repeat' with_reducible first | exact ChO.const _ | exact h_r6 _ _ | apply ChO.ite | apply ChO.G | apply ChO.both | (apply ChO.bind; intro _)
theorem alter_Det_L6_cn  (a : (Int × Int × (List (List (List (List Int)))) × (List Int) × Unit)) : Cn (alter_Det_L6_F a) := fun g h hg x => alter_Det_L6_B_ch  (fun κ first t => g κ (first, t)) (fun first t => h (first, t)) (fun first t => hg (first, t)) a x.1 x.2
theorem alter_Det_L6_eq  (a : (Int × Int × (List (List (List (List Int)))) × (List Int) × Unit)) (first : Int) (t : Int) : alter_Det_L6 a first t = alter_Det_L6_B a (alter_Det_L6 a) first t := LFix_eq (alter_Det_L6_cn a) (first, t)

noncomputable def top_sameWords_L4_B (a : (List Int)) (b : (List Int)) (r4 : Int → Option (Bool)) (i : Int) : Option (Bool) :=
  if (decide (i < (a.length : Int))) = true then
  G (0 ≤ i ∧ i < (a.length : Int)) (
  G (0 ≤ i ∧ i < (b.length : Int)) (
  if (decide (¬ (ix a i) = (ix b i))) = true then
  some false else
  G (fits (i + (1 : Int))) (
  r4 (i + (1 : Int))))) else
  some true
noncomputable def top_sameWords_L4_F (a : (List Int)) (b : (List Int)) : (Int → Option (Bool)) → Int → Option (Bool) :=
  fun rec x => top_sameWords_L4_B a b (fun i => rec i) x
noncomputable def top_sameWords_L4 (a : (List Int)) (b : (List Int)) (i : Int) : Option (Bool) := LFix (top_sameWords_L4_F a b ) i
noncomputable def top_sameWords (a : (List Int)) (b : (List Int)) : Option (Bool) :=
  if (decide (¬ (a.length : Int) = (b.length : Int))) = true then
  some false else
  top_sameWords_L4 a b (0 : Int)
theorem top_sameWords_L4_B_ch (r4 : Nat → Int → Option (Bool)) (r4' : Int → Option (Bool)) (h_r4 : ∀ a0, ChO (fun κ => r4 κ a0) (r4' a0)) (a : (List Int)) (b : (List Int)) (i : Int) : ChO (fun κ => top_sameWords_L4_B a b (r4 κ) i) (top_sameWords_L4_B a b r4' i) := by
  unfold top_sameWords_L4_B
  repeat' with_reducible first | exact ChO.const _ | exact h_r4 _ | apply ChO.ite | apply ChO.G | apply ChO.both | (apply ChO.bind; intro _)
theorem top_sameWords_L4_cn  (a : (List Int)) (b : (List Int)) : Cn (top_sameWords_L4_F a b) := fun g h hg x => top_sameWords_L4_B_ch  (fun κ i => g κ i) (fun i => h i) (fun i => hg i) a b x
theorem top_sameWords_L4_eq  (a : (List Int)) (b : (List Int)) (i : Int) : top_sameWords_L4 a b i = top_sameWords_L4_B a b (top_sameWords_L4 a b) i := LFix_eq (top_sameWords_L4_cn a b) i

noncomputable def top_alike_L5_B (a : (Int × Int × (List (List Int)) × (List Int) × Unit)) (b : (Int × Int × (List (List Int)) × (List Int) × Unit)) (r5 : Bool → Int → Option (Bool)) (mark : Bool) (i : Int) : Option (Bool) :=
  if (decide (i < (a.2.2.1.length : Int))) = true then
  if mark = true then
  G (0 ≤ i ∧ i < (a.2.2.1.length : Int)) (
  G (0 ≤ i ∧ i < (b.2.2.1.length : Int)) (
  (top_sameWords (ix a.2.2.1 i) (ix b.2.2.1 i)).bind (fun y'_1 =>
  G (fits (i + (1 : Int))) (
  r5 y'_1 (i + (1 : Int)))))) else
  some mark else
  some mark
noncomputable def top_alike_L5_F (a : (Int × Int × (List (List Int)) × (List Int) × Unit)) (b : (Int × Int × (List (List Int)) × (List Int) × Unit)) : (Bool × Int → Option (Bool)) → Bool × Int → Option (Bool) :=
  fun rec x => top_alike_L5_B a b (fun mark i => rec (mark, i)) x.1 x.2
noncomputable def top_alike_L5 (a : (Int × Int × (List (List Int)) × (List Int) × Unit)) (b : (Int × Int × (List (List Int)) × (List Int) × Unit)) (mark : Bool) (i : Int) : Option (Bool) := LFix (top_alike_L5_F a b ) (mark, i)
noncomputable def top_alike (a : (Int × Int × (List (List Int)) × (List Int) × Unit)) (b : (Int × Int × (List (List Int)) × (List Int) × Unit)) : Option (Bool) :=
  if (decide (¬ a.1 = b.1)) = true then
  some false else
  if (decide (¬ a.2.1 = b.2.1)) = true then
  some false else
  if (decide (¬ (a.2.2.1.length : Int) = (b.2.2.1.length : Int))) = true then
  some false else
  (top_sameWords a.2.2.2.1 b.2.2.2.1).bind (fun y' =>
  top_alike_L5 a b y' (0 : Int))
theorem top_alike_L5_B_ch (r5 : Nat → Bool → Int → Option (Bool)) (r5' : Bool → Int → Option (Bool)) (h_r5 : ∀ a0 a1, ChO (fun κ => r5 κ a0 a1) (r5' a0 a1)) (a : (Int × Int × (List (List Int)) × (List Int) × Unit)) (b : (Int × Int × (List (List Int)) × (List Int) × Unit)) (mark : Bool) (i : Int) : ChO (fun κ => top_alike_L5_B a b (r5 κ) mark i) (top_alike_L5_B a b r5' mark i) := by
  unfold top_alike_L5_B
  repeat' with_reducible first | exact ChO.const _ | exact h_r5 _ _ | apply ChO.ite | apply ChO.G | apply ChO.both | (apply ChO.bind; intro _)
theorem top_alike_L5_cn  (a : (Int × Int × (List (List Int)) × (List Int) × Unit)) (b : (Int × Int × (List (List Int)) × (List Int) × Unit)) : Cn (top_alike_L5_F a b) := fun g h hg x => top_alike_L5_B_ch  (fun κ mark i => g κ (mark, i)) (fun mark i => h (mark, i)) (fun mark i => hg (mark, i)) a b x.1 x.2
theorem top_alike_L5_eq  (a : (Int × Int × (List (List Int)) × (List Int) × Unit)) (b : (Int × Int × (List (List Int)) × (List Int) × Unit)) (mark : Bool) (i : Int) : top_alike_L5 a b mark i = top_alike_L5_B a b (top_alike_L5 a b) mark i := LFix_eq (top_alike_L5_cn a b) (mark, i)

noncomputable def top_TopWays_L15_B (d : (Int × Int × (List (List Int)) × (List Int) × Unit)) (q : Int) (t : Int) (t_1 : Int) (t_2 : (List Int)) (a : Int) (a_1 : Int) (a_2 : (List Int)) (t_3 : (List (List (Int × Int × Unit)))) (a_3 : (List (List (List (List Int))))) (r10 : (Int → Int → Int → (List Int) → Int → Int → (List Int) → (List (List (Int × Int × Unit))) → (List (List (List (List Int)))) → Option (Bool))) (r15 : Int → (List (Int × Int × Unit)) → (List (List (List Int))) → Option (Bool)) (k : Int) (r : (List (Int × Int × Unit))) (c : (List (List (List Int)))) : Option (Bool) :=
  if (decide (k < d.1)) = true then
  G (0 ≤ q ∧ q < (d.2.2.1.length : Int)) (
  G (0 ≤ k ∧ k < ((ix d.2.2.1 q).length : Int)) (
  G (room r ([(ix (ix d.2.2.1 q) k, ((1 : Int), ()))]) 16) (
  G (0 ≤ q ∧ q < (d.2.2.1.length : Int)) (
  G (0 ≤ k ∧ k < ((ix d.2.2.1 q).length : Int)) (
  G (room c ([[[ix (ix d.2.2.1 q) k]]]) 24) (
  G (fits (k + (1 : Int))) (
  r15 (k + (1 : Int)) (r ++ ([(ix (ix d.2.2.1 q) k, ((1 : Int), ()))])) (c ++ ([[[ix (ix d.2.2.1 q) k]]]))))))))) else
  G (room r ([(q, ((1 : Int), ())), (q, ((1 : Int), ()))]) 16) (
  G (room t_3 ([r ++ ([(q, ((1 : Int), ())), (q, ((1 : Int), ()))])]) 24) (
  G (room a_3 ([c]) 24) (
  G (fits (q + (1 : Int))) (
  r10 (q + (1 : Int)) t t_1 t_2 a a_1 a_2 (t_3 ++ ([r ++ ([(q, ((1 : Int), ())), (q, ((1 : Int), ()))])])) (a_3 ++ ([c]))))))
noncomputable def top_TopWays_L15_F (d : (Int × Int × (List (List Int)) × (List Int) × Unit)) (q : Int) (t : Int) (t_1 : Int) (t_2 : (List Int)) (a : Int) (a_1 : Int) (a_2 : (List Int)) (t_3 : (List (List (Int × Int × Unit)))) (a_3 : (List (List (List (List Int))))) (r10 : (Int → Int → Int → (List Int) → Int → Int → (List Int) → (List (List (Int × Int × Unit))) → (List (List (List (List Int)))) → Option (Bool))) : (Int × (List (Int × Int × Unit)) × (List (List (List Int))) → Option (Bool)) → Int × (List (Int × Int × Unit)) × (List (List (List Int))) → Option (Bool) :=
  fun rec x => top_TopWays_L15_B d q t t_1 t_2 a a_1 a_2 t_3 a_3 r10 (fun k r c => rec (k, r, c)) x.1 x.2.1 x.2.2
noncomputable def top_TopWays_L15 (d : (Int × Int × (List (List Int)) × (List Int) × Unit)) (q : Int) (t : Int) (t_1 : Int) (t_2 : (List Int)) (a : Int) (a_1 : Int) (a_2 : (List Int)) (t_3 : (List (List (Int × Int × Unit)))) (a_3 : (List (List (List (List Int))))) (r10 : (Int → Int → Int → (List Int) → Int → Int → (List Int) → (List (List (Int × Int × Unit))) → (List (List (List (List Int)))) → Option (Bool))) (k : Int) (r : (List (Int × Int × Unit))) (c : (List (List (List Int)))) : Option (Bool) := LFix (top_TopWays_L15_F d q t t_1 t_2 a a_1 a_2 t_3 a_3 r10 ) (k, r, c)
noncomputable def top_TopWays_L10_B (d : (Int × Int × (List (List Int)) × (List Int) × Unit)) (y'_3 : (Int × Int × (List (List Int)) × (List Int) × Unit)) (r10 : Int → Int → Int → (List Int) → Int → Int → (List Int) → (List (List (Int × Int × Unit))) → (List (List (List (List Int)))) → Option (Bool)) (q : Int) (t : Int) (t_1 : Int) (t_2 : (List Int)) (a : Int) (a_1 : Int) (a_2 : (List Int)) (t_3 : (List (List (Int × Int × Unit)))) (a_3 : (List (List (List (List Int))))) : Option (Bool) :=
  if (decide (q < (d.2.2.1.length : Int))) = true then
  top_TopWays_L15 d q t t_1 t_2 a a_1 a_2 t_3 a_3 r10 (0 : Int) ([]) ([]) else
  (two_Det (t, (t_1, (t_3, (t_2, ()))))).bind (fun y'_15 =>
  (alter_Det (a, (a_1, (a_3, (a_2, ()))))).bind (fun y'_14 =>
  if (decide (¬ y'_15.2 = (0 : Int))) = true then
  some false else
  if (decide (¬ y'_14.2 = (0 : Int))) = true then
  some false else
  (top_alike (y'_15.1.1, (y'_15.1.2.1, (y'_15.1.2.2.1, (y'_15.1.2.2.2.1, ())))) (y'_3.1, (y'_3.2.1, (y'_3.2.2.1, (y'_3.2.2.2.1, ()))))).bind (fun y'_12 =>
  (top_alike (y'_14.1.1, (y'_14.1.2.1, (y'_14.1.2.2.1, (y'_14.1.2.2.2.1, ())))) (y'_3.1, (y'_3.2.1, (y'_3.2.2.1, (y'_3.2.2.2.1, ()))))).bind (fun y'_13 =>
  if y'_12 = true then
  some y'_13 else
  some false))))
noncomputable def top_TopWays_L10_F (d : (Int × Int × (List (List Int)) × (List Int) × Unit)) (y'_3 : (Int × Int × (List (List Int)) × (List Int) × Unit)) : (Int × Int × Int × (List Int) × Int × Int × (List Int) × (List (List (Int × Int × Unit))) × (List (List (List (List Int)))) → Option (Bool)) → Int × Int × Int × (List Int) × Int × Int × (List Int) × (List (List (Int × Int × Unit))) × (List (List (List (List Int)))) → Option (Bool) :=
  fun rec x => top_TopWays_L10_B d y'_3 (fun q t t_1 t_2 a a_1 a_2 t_3 a_3 => rec (q, t, t_1, t_2, a, a_1, a_2, t_3, a_3)) x.1 x.2.1 x.2.2.1 x.2.2.2.1 x.2.2.2.2.1 x.2.2.2.2.2.1 x.2.2.2.2.2.2.1 x.2.2.2.2.2.2.2.1 x.2.2.2.2.2.2.2.2
noncomputable def top_TopWays_L10 (d : (Int × Int × (List (List Int)) × (List Int) × Unit)) (y'_3 : (Int × Int × (List (List Int)) × (List Int) × Unit)) (q : Int) (t : Int) (t_1 : Int) (t_2 : (List Int)) (a : Int) (a_1 : Int) (a_2 : (List Int)) (t_3 : (List (List (Int × Int × Unit)))) (a_3 : (List (List (List (List Int))))) : Option (Bool) := LFix (top_TopWays_L10_F d y'_3 ) (q, t, t_1, t_2, a, a_1, a_2, t_3, a_3)
noncomputable def top_TopWays (d : (Int × Int × (List (List Int)) × (List Int) × Unit)) : Option (Bool) :=
  (det_Least ((1 : Int), ((0 : Int), ([[(1 : Int)], [(0 : Int)]], ([(1 : Int), (1 : Int)], ()))))).bind (fun y'_17 =>
  if (decide (¬ y'_17.2 = (0 : Int))) = true then
  some false else
  if (decide (¬ (y'_17.1.2.2.1.length : Int) = (1 : Int))) = true then
  some false else
  (det_Least (d.1, (d.2.1, (d.2.2.1, (d.2.2.2.1, ()))))).bind (fun y'_16 =>
  if (decide (¬ y'_16.2 = (0 : Int))) = true then
  some true else
  if (decide ((4 : Int) < (d.2.2.1.length : Int))) = true then
  some true else
  top_TopWays_L10 d y'_16.1 (0 : Int) d.1 d.2.1 d.2.2.2.1 d.1 d.2.1 d.2.2.2.1 ([] : List (List (Int × Int × Unit))) ([] : List (List (List (List Int))))))
theorem top_TopWays_L15_B_ch (r10 : Nat → Int → Int → Int → (List Int) → Int → Int → (List Int) → (List (List (Int × Int × Unit))) → (List (List (List (List Int)))) → Option (Bool)) (r10' : Int → Int → Int → (List Int) → Int → Int → (List Int) → (List (List (Int × Int × Unit))) → (List (List (List (List Int)))) → Option (Bool)) (h_r10 : ∀ a0 a1 a2 a3 a4 a5 a6 a7 a8, ChO (fun κ => r10 κ a0 a1 a2 a3 a4 a5 a6 a7 a8) (r10' a0 a1 a2 a3 a4 a5 a6 a7 a8)) (r15 : Nat → Int → (List (Int × Int × Unit)) → (List (List (List Int))) → Option (Bool)) (r15' : Int → (List (Int × Int × Unit)) → (List (List (List Int))) → Option (Bool)) (h_r15 : ∀ a0 a1 a2, ChO (fun κ => r15 κ a0 a1 a2) (r15' a0 a1 a2)) (d : (Int × Int × (List (List Int)) × (List Int) × Unit)) (q : Int) (t : Int) (t_1 : Int) (t_2 : (List Int)) (a : Int) (a_1 : Int) (a_2 : (List Int)) (t_3 : (List (List (Int × Int × Unit)))) (a_3 : (List (List (List (List Int))))) (k : Int) (r : (List (Int × Int × Unit))) (c : (List (List (List Int)))) : ChO (fun κ => top_TopWays_L15_B d q t t_1 t_2 a a_1 a_2 t_3 a_3 (r10 κ) (r15 κ) k r c) (top_TopWays_L15_B d q t t_1 t_2 a a_1 a_2 t_3 a_3 r10' r15' k r c) := by
  unfold top_TopWays_L15_B
  repeat' with_reducible first | exact ChO.const _ | exact h_r10 _ _ _ _ _ _ _ _ _ | exact h_r15 _ _ _ | apply ChO.ite | apply ChO.G | apply ChO.both | (apply ChO.bind; intro _)
theorem top_TopWays_L15_cn (r10 : Int → Int → Int → (List Int) → Int → Int → (List Int) → (List (List (Int × Int × Unit))) → (List (List (List (List Int)))) → Option (Bool)) (d : (Int × Int × (List (List Int)) × (List Int) × Unit)) (q : Int) (t : Int) (t_1 : Int) (t_2 : (List Int)) (a : Int) (a_1 : Int) (a_2 : (List Int)) (t_3 : (List (List (Int × Int × Unit)))) (a_3 : (List (List (List (List Int))))) : Cn (top_TopWays_L15_F d q t t_1 t_2 a a_1 a_2 t_3 a_3 r10) := fun g h hg x => top_TopWays_L15_B_ch (fun _ => r10) r10 (fun _ _ _ _ _ _ _ _ _ => ChO.const _) (fun κ k r c => g κ (k, r, c)) (fun k r c => h (k, r, c)) (fun k r c => hg (k, r, c)) d q t t_1 t_2 a a_1 a_2 t_3 a_3 x.1 x.2.1 x.2.2
theorem top_TopWays_L15_eq (r10 : Int → Int → Int → (List Int) → Int → Int → (List Int) → (List (List (Int × Int × Unit))) → (List (List (List (List Int)))) → Option (Bool)) (d : (Int × Int × (List (List Int)) × (List Int) × Unit)) (q : Int) (t : Int) (t_1 : Int) (t_2 : (List Int)) (a : Int) (a_1 : Int) (a_2 : (List Int)) (t_3 : (List (List (Int × Int × Unit)))) (a_3 : (List (List (List (List Int))))) (k : Int) (r : (List (Int × Int × Unit))) (c : (List (List (List Int)))) : top_TopWays_L15 d q t t_1 t_2 a a_1 a_2 t_3 a_3 r10 k r c = top_TopWays_L15_B d q t t_1 t_2 a a_1 a_2 t_3 a_3 r10 (top_TopWays_L15 d q t t_1 t_2 a a_1 a_2 t_3 a_3 r10) k r c := LFix_eq (top_TopWays_L15_cn r10 d q t t_1 t_2 a a_1 a_2 t_3 a_3) (k, r, c)
theorem top_TopWays_L15_ch (r10 : Nat → Int → Int → Int → (List Int) → Int → Int → (List Int) → (List (List (Int × Int × Unit))) → (List (List (List (List Int)))) → Option (Bool)) (r10' : Int → Int → Int → (List Int) → Int → Int → (List Int) → (List (List (Int × Int × Unit))) → (List (List (List (List Int)))) → Option (Bool)) (h_r10 : ∀ a0 a1 a2 a3 a4 a5 a6 a7 a8, ChO (fun κ => r10 κ a0 a1 a2 a3 a4 a5 a6 a7 a8) (r10' a0 a1 a2 a3 a4 a5 a6 a7 a8)) (d : (Int × Int × (List (List Int)) × (List Int) × Unit)) (q : Int) (t : Int) (t_1 : Int) (t_2 : (List Int)) (a : Int) (a_1 : Int) (a_2 : (List Int)) (t_3 : (List (List (Int × Int × Unit)))) (a_3 : (List (List (List (List Int))))) (k : Int) (r : (List (Int × Int × Unit))) (c : (List (List (List Int)))) : ChO (fun κ => top_TopWays_L15 d q t t_1 t_2 a a_1 a_2 t_3 a_3 (r10 κ) k r c) (top_TopWays_L15 d q t t_1 t_2 a a_1 a_2 t_3 a_3 r10' k r c) := by
  unfold top_TopWays_L15
  exact LFix_ch (fun κ => (top_TopWays_L15_cn (r10 κ) d q t t_1 t_2 a a_1 a_2 t_3 a_3).mono) (top_TopWays_L15_cn r10' d q t t_1 t_2 a a_1 a_2 t_3 a_3).mono (fun g h hg x => top_TopWays_L15_B_ch r10 r10' h_r10 (fun κ k r c => g κ (k, r, c)) (fun k r c => h (k, r, c)) (fun k r c => hg (k, r, c)) d q t t_1 t_2 a a_1 a_2 t_3 a_3 x.1 x.2.1 x.2.2) _
theorem top_TopWays_L10_B_ch (r10 : Nat → Int → Int → Int → (List Int) → Int → Int → (List Int) → (List (List (Int × Int × Unit))) → (List (List (List (List Int)))) → Option (Bool)) (r10' : Int → Int → Int → (List Int) → Int → Int → (List Int) → (List (List (Int × Int × Unit))) → (List (List (List (List Int)))) → Option (Bool)) (h_r10 : ∀ a0 a1 a2 a3 a4 a5 a6 a7 a8, ChO (fun κ => r10 κ a0 a1 a2 a3 a4 a5 a6 a7 a8) (r10' a0 a1 a2 a3 a4 a5 a6 a7 a8)) (d : (Int × Int × (List (List Int)) × (List Int) × Unit)) (y'_3 : (Int × Int × (List (List Int)) × (List Int) × Unit)) (q : Int) (t : Int) (t_1 : Int) (t_2 : (List Int)) (a : Int) (a_1 : Int) (a_2 : (List Int)) (t_3 : (List (List (Int × Int × Unit)))) (a_3 : (List (List (List (List Int))))) : ChO (fun κ => top_TopWays_L10_B d y'_3 (r10 κ) q t t_1 t_2 a a_1 a_2 t_3 a_3) (top_TopWays_L10_B d y'_3 r10' q t t_1 t_2 a a_1 a_2 t_3 a_3) := by
  unfold top_TopWays_L10_B
  repeat' with_reducible first | exact ChO.const _ | exact h_r10 _ _ _ _ _ _ _ _ _ | (apply top_TopWays_L15_ch <;> assumption) | apply ChO.ite | apply ChO.G | apply ChO.both | (apply ChO.bind; intro _)
theorem top_TopWays_L10_cn  (d : (Int × Int × (List (List Int)) × (List Int) × Unit)) (y'_3 : (Int × Int × (List (List Int)) × (List Int) × Unit)) : Cn (top_TopWays_L10_F d y'_3) := fun g h hg x => top_TopWays_L10_B_ch  (fun κ q t t_1 t_2 a a_1 a_2 t_3 a_3 => g κ (q, t, t_1, t_2, a, a_1, a_2, t_3, a_3)) (fun q t t_1 t_2 a a_1 a_2 t_3 a_3 => h (q, t, t_1, t_2, a, a_1, a_2, t_3, a_3)) (fun q t t_1 t_2 a a_1 a_2 t_3 a_3 => hg (q, t, t_1, t_2, a, a_1, a_2, t_3, a_3)) d y'_3 x.1 x.2.1 x.2.2.1 x.2.2.2.1 x.2.2.2.2.1 x.2.2.2.2.2.1 x.2.2.2.2.2.2.1 x.2.2.2.2.2.2.2.1 x.2.2.2.2.2.2.2.2
theorem top_TopWays_L10_eq  (d : (Int × Int × (List (List Int)) × (List Int) × Unit)) (y'_3 : (Int × Int × (List (List Int)) × (List Int) × Unit)) (q : Int) (t : Int) (t_1 : Int) (t_2 : (List Int)) (a : Int) (a_1 : Int) (a_2 : (List Int)) (t_3 : (List (List (Int × Int × Unit)))) (a_3 : (List (List (List (List Int))))) : top_TopWays_L10 d y'_3 q t t_1 t_2 a a_1 a_2 t_3 a_3 = top_TopWays_L10_B d y'_3 (top_TopWays_L10 d y'_3) q t t_1 t_2 a a_1 a_2 t_3 a_3 := LFix_eq (top_TopWays_L10_cn d y'_3) (q, t, t_1, t_2, a, a_1, a_2, t_3, a_3)

end Go.Proofs.Ytjpbiinfjhggeaa.topWaysW
