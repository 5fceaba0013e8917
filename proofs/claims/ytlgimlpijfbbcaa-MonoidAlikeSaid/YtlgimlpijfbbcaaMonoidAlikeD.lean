/- What the functions that 'MonoidAlike' reaches compute: plain functions. -/
import Derived.Test.YtlgimlpijfbbcaaEv13n21
set_option maxHeartbeats 1000000
set_option maxRecDepth 20000
set_option linter.unusedSimpArgs false
set_option linter.unusedVariables false
set_option linter.unusedSectionVars false
namespace Go.Proofs.Ytlgimlpijfbbcaa.monoidAlikeW
open Go Go.Ab
noncomputable def det_Check_1 (r : (List Int)) (t : (Int × Int × (List (List Int)) × (List Int) × Unit)) : Option (Bool) :=
  some (decide (¬ (r.length : Int) = t.1))

noncomputable def slices_IndexFunc_L2_B (s : (List (List Int))) (c : (Int × Int × (List (List Int)) × (List Int) × Unit)) (r2 : Int → Option (Int)) (t : Int) : Option (Int) :=
  if (decide (t < (s.length : Int))) = true then
  G (0 ≤ t ∧ t < (s.length : Int)) (
  (det_Check_1 (ix s t) c).bind (fun y' =>
  if y' = true then
  some t else
  G (fits (t + (1 : Int))) (
  r2 (t + (1 : Int))))) else
  some (-1 : Int)
noncomputable def slices_IndexFunc_L2_F (s : (List (List Int))) (c : (Int × Int × (List (List Int)) × (List Int) × Unit)) : (Int → Option (Int)) → Int → Option (Int) :=
  fun rec x => slices_IndexFunc_L2_B s c (fun t => rec t) x
noncomputable def slices_IndexFunc_L2 (s : (List (List Int))) (c : (Int × Int × (List (List Int)) × (List Int) × Unit)) (t : Int) : Option (Int) := LFix (slices_IndexFunc_L2_F s c ) t
noncomputable def slices_IndexFunc (s : (List (List Int))) (c : (Int × Int × (List (List Int)) × (List Int) × Unit)) : Option (Int) :=
  slices_IndexFunc_L2 s c (0 : Int)
theorem slices_IndexFunc_L2_B_ch (r2 : Nat → Int → Option (Int)) (r2' : Int → Option (Int)) (h_r2 : ∀ a0, ChO (fun κ => r2 κ a0) (r2' a0)) (s : (List (List Int))) (c : (Int × Int × (List (List Int)) × (List Int) × Unit)) (t : Int) : ChO (fun κ => slices_IndexFunc_L2_B s c (r2 κ) t) (slices_IndexFunc_L2_B s c r2' t) := by
  unfold slices_IndexFunc_L2_B
  repeat' with_reducible first | exact ChO.const _ | exact h_r2 _ | apply ChO.ite | apply ChO.G | apply ChO.both | (apply ChO.bind; intro _)
theorem slices_IndexFunc_L2_cn  (s : (List (List Int))) (c : (Int × Int × (List (List Int)) × (List Int) × Unit)) : Cn (slices_IndexFunc_L2_F s c) := fun g h hg x => slices_IndexFunc_L2_B_ch  (fun κ t => g κ t) (fun t => h t) (fun t => hg t) s c x
theorem slices_IndexFunc_L2_eq  (s : (List (List Int))) (c : (Int × Int × (List (List Int)) × (List Int) × Unit)) (t : Int) : slices_IndexFunc_L2 s c t = slices_IndexFunc_L2_B s c (slices_IndexFunc_L2 s c) t := LFix_eq (slices_IndexFunc_L2_cn s c) t

noncomputable def slices_ContainsFunc (s : (List (List Int))) (c : (Int × Int × (List (List Int)) × (List Int) × Unit)) : Option (Bool) :=
  (slices_IndexFunc s c).bind (fun y' =>
  some (decide ((0 : Int) ≤ y')))

noncomputable def det_Check_2 (q : Int) (t : Int) : Option (Bool) :=
  if (decide (q < (0 : Int))) = true then
  some true else
  some (decide (t ≤ q))

noncomputable def slices_IndexFunc_2_L2_B (s : (List Int)) (c : Int) (r2 : Int → Option (Int)) (t : Int) : Option (Int) :=
  if (decide (t < (s.length : Int))) = true then
  G (0 ≤ t ∧ t < (s.length : Int)) (
  (det_Check_2 (ix s t) c).bind (fun y' =>
  if y' = true then
  some t else
  G (fits (t + (1 : Int))) (
  r2 (t + (1 : Int))))) else
  some (-1 : Int)
noncomputable def slices_IndexFunc_2_L2_F (s : (List Int)) (c : Int) : (Int → Option (Int)) → Int → Option (Int) :=
  fun rec x => slices_IndexFunc_2_L2_B s c (fun t => rec t) x
noncomputable def slices_IndexFunc_2_L2 (s : (List Int)) (c : Int) (t : Int) : Option (Int) := LFix (slices_IndexFunc_2_L2_F s c ) t
noncomputable def slices_IndexFunc_2 (s : (List Int)) (c : Int) : Option (Int) :=
  slices_IndexFunc_2_L2 s c (0 : Int)
theorem slices_IndexFunc_2_L2_B_ch (r2 : Nat → Int → Option (Int)) (r2' : Int → Option (Int)) (h_r2 : ∀ a0, ChO (fun κ => r2 κ a0) (r2' a0)) (s : (List Int)) (c : Int) (t : Int) : ChO (fun κ => slices_IndexFunc_2_L2_B s c (r2 κ) t) (slices_IndexFunc_2_L2_B s c r2' t) := by
  unfold slices_IndexFunc_2_L2_B
  repeat' with_reducible first | exact ChO.const _ | exact h_r2 _ | apply ChO.ite | apply ChO.G | apply ChO.both | (apply ChO.bind; intro _)
theorem slices_IndexFunc_2_L2_cn  (s : (List Int)) (c : Int) : Cn (slices_IndexFunc_2_L2_F s c) := fun g h hg x => slices_IndexFunc_2_L2_B_ch  (fun κ t => g κ t) (fun t => h t) (fun t => hg t) s c x
theorem slices_IndexFunc_2_L2_eq  (s : (List Int)) (c : Int) (t : Int) : slices_IndexFunc_2_L2 s c t = slices_IndexFunc_2_L2_B s c (slices_IndexFunc_2_L2 s c) t := LFix_eq (slices_IndexFunc_2_L2_cn s c) t

noncomputable def slices_ContainsFunc_2 (s : (List Int)) (c : Int) : Option (Bool) :=
  (slices_IndexFunc_2 s c).bind (fun y' =>
  some (decide ((0 : Int) ≤ y')))

noncomputable def det_Check_3 (r : (List Int)) (c : Int) : Option (Bool × Int) :=
  (slices_ContainsFunc_2 r c).bind (fun y' =>
  some (y', c))

noncomputable def slices_IndexFunc_1_L2_B (s : (List (List Int))) (r2 : Int → Int → Option (Int × Int)) (t : Int) (l : Int) : Option (Int × Int) :=
  if (decide (t < (s.length : Int))) = true then
  G (0 ≤ t ∧ t < (s.length : Int)) (
  (det_Check_3 (ix s t) l).bind (fun y'_3 =>
  if y'_3.1 = true then
  some (t, y'_3.2) else
  G (fits (t + (1 : Int))) (
  r2 (t + (1 : Int)) y'_3.2))) else
  some ((-1 : Int), l)
noncomputable def slices_IndexFunc_1_L2_F (s : (List (List Int))) : (Int × Int → Option (Int × Int)) → Int × Int → Option (Int × Int) :=
  fun rec x => slices_IndexFunc_1_L2_B s (fun t l => rec (t, l)) x.1 x.2
noncomputable def slices_IndexFunc_1_L2 (s : (List (List Int))) (t : Int) (l : Int) : Option (Int × Int) := LFix (slices_IndexFunc_1_L2_F s ) (t, l)
noncomputable def slices_IndexFunc_1 (s : (List (List Int))) (c : Int) : Option (Int × Int) :=
  slices_IndexFunc_1_L2 s (0 : Int) c
theorem slices_IndexFunc_1_L2_B_ch (r2 : Nat → Int → Int → Option (Int × Int)) (r2' : Int → Int → Option (Int × Int)) (h_r2 : ∀ a0 a1, ChO (fun κ => r2 κ a0 a1) (r2' a0 a1)) (s : (List (List Int))) (t : Int) (l : Int) : ChO (fun κ => slices_IndexFunc_1_L2_B s (r2 κ) t l) (slices_IndexFunc_1_L2_B s r2' t l) := by
  unfold slices_IndexFunc_1_L2_B
  repeat' with_reducible first | exact ChO.const _ | exact h_r2 _ _ | apply ChO.ite | apply ChO.G | apply ChO.both | (apply ChO.bind; intro _)
theorem slices_IndexFunc_1_L2_cn  (s : (List (List Int))) : Cn (slices_IndexFunc_1_L2_F s) := fun g h hg x => slices_IndexFunc_1_L2_B_ch  (fun κ t l => g κ (t, l)) (fun t l => h (t, l)) (fun t l => hg (t, l)) s x.1 x.2
theorem slices_IndexFunc_1_L2_eq  (s : (List (List Int))) (t : Int) (l : Int) : slices_IndexFunc_1_L2 s t l = slices_IndexFunc_1_L2_B s (slices_IndexFunc_1_L2 s) t l := LFix_eq (slices_IndexFunc_1_L2_cn s) (t, l)

noncomputable def slices_ContainsFunc_1 (s : (List (List Int))) (c : Int) : Option (Bool × Int) :=
  (slices_IndexFunc_1 s c).bind (fun y'_3 =>
  some (decide ((0 : Int) ≤ y'_3.1), y'_3.2))

noncomputable def det_Check_4 (m : Int) : Option (Bool) :=
  if (decide (¬ m = (0 : Int))) = true then
  some (decide (¬ m = (1 : Int))) else
  some false

noncomputable def slices_IndexFunc_3_L2_B (s : (List Int)) (r2 : Int → Option (Int)) (t : Int) : Option (Int) :=
  if (decide (t < (s.length : Int))) = true then
  G (0 ≤ t ∧ t < (s.length : Int)) (
  (det_Check_4 (ix s t)).bind (fun y' =>
  if y' = true then
  some t else
  G (fits (t + (1 : Int))) (
  r2 (t + (1 : Int))))) else
  some (-1 : Int)
noncomputable def slices_IndexFunc_3_L2_F (s : (List Int)) : (Int → Option (Int)) → Int → Option (Int) :=
  fun rec x => slices_IndexFunc_3_L2_B s (fun t => rec t) x
noncomputable def slices_IndexFunc_3_L2 (s : (List Int)) (t : Int) : Option (Int) := LFix (slices_IndexFunc_3_L2_F s ) t
noncomputable def slices_IndexFunc_3 (s : (List Int)) : Option (Int) :=
  slices_IndexFunc_3_L2 s (0 : Int)
theorem slices_IndexFunc_3_L2_B_ch (r2 : Nat → Int → Option (Int)) (r2' : Int → Option (Int)) (h_r2 : ∀ a0, ChO (fun κ => r2 κ a0) (r2' a0)) (s : (List Int)) (t : Int) : ChO (fun κ => slices_IndexFunc_3_L2_B s (r2 κ) t) (slices_IndexFunc_3_L2_B s r2' t) := by
  unfold slices_IndexFunc_3_L2_B
  repeat' with_reducible first | exact ChO.const _ | exact h_r2 _ | apply ChO.ite | apply ChO.G | apply ChO.both | (apply ChO.bind; intro _)
theorem slices_IndexFunc_3_L2_cn  (s : (List Int)) : Cn (slices_IndexFunc_3_L2_F s) := fun g h hg x => slices_IndexFunc_3_L2_B_ch  (fun κ t => g κ t) (fun t => h t) (fun t => hg t) s x
theorem slices_IndexFunc_3_L2_eq  (s : (List Int)) (t : Int) : slices_IndexFunc_3_L2 s t = slices_IndexFunc_3_L2_B s (slices_IndexFunc_3_L2 s) t := LFix_eq (slices_IndexFunc_3_L2_cn s) t

noncomputable def slices_ContainsFunc_3 (s : (List Int)) : Option (Bool) :=
  (slices_IndexFunc_3 s).bind (fun y' =>
  some (decide ((0 : Int) ≤ y')))

noncomputable def det_Check (d : (Int × Int × (List (List Int)) × (List Int) × Unit)) : Option (Int) :=
  if (decide (d.1 < (1 : Int))) = true then
  some (2 : Int) else
  if (decide ((4 : Int) < d.1)) = true then
  some (2 : Int) else
  if (decide ((d.2.2.1.length : Int) < (1 : Int))) = true then
  some (1 : Int) else
  if (decide ((3000 : Int) < (d.2.2.1.length : Int))) = true then
  some (1 : Int) else
  if (decide (¬ (d.2.2.2.1.length : Int) = (d.2.2.1.length : Int))) = true then
  some (3 : Int) else
  (slices_ContainsFunc d.2.2.1 (d.1, (d.2.1, (d.2.2.1, (d.2.2.2.1, ()))))).bind (fun y' =>
  if y' = true then
  some (3 : Int) else
  (det_Check_2 d.2.1 (d.2.2.1.length : Int)).bind (fun y'_1 =>
  if y'_1 = true then
  some (2 : Int) else
  (slices_ContainsFunc_1 d.2.2.1 (d.2.2.1.length : Int)).bind (fun y'_6 =>
  if y'_6.1 = true then
  some (2 : Int) else
  (slices_ContainsFunc_3 d.2.2.2.1).bind (fun y'_5 =>
  if y'_5 = true then
  some (2 : Int) else
  some (0 : Int)))))

noncomputable def slices_Clone (s : (List Int)) : Option (List Int) :=
  if s.length = 0 then both [(.list (.int .i64))] (
  some ([])) (
  G (room ([] : List Int) s 8) (
  some (([] : List Int) ++ s))) else
  G (room ([] : List Int) s 8) (
  some (([] : List Int) ++ s))

noncomputable def det_Classes_J17 (class' : (List Int)) (t : Int) (next' : (List Int)) (r6 : (Int → (List (Int × (List UInt8) × Unit)) → (List Int) → (List Int) → Option (List Int))) (b : (List Int)) (number_2 : (List (Int × (List UInt8) × Unit))) (number_3 : (List Int)) : Option (List Int) :=
  G (0 ≤ t ∧ t < (next'.length : Int)) (
  G ((t).toNat < next'.length) (
  G (fits (t + (1 : Int))) (
  r6 (t + (1 : Int)) number_2 number_3 (next'.set (t).toNat (mget number_2 number_3 (ix class' t, (bstr b, ())) (0 : Int))))))
noncomputable def det_Classes_L10_B (d : (Int × Int × (List (List Int)) × (List Int) × Unit)) (class' : (List Int)) (t : Int) (number : (List (Int × (List UInt8) × Unit))) (number_1 : (List Int)) (next' : (List Int)) (r6 : (Int → (List (Int × (List UInt8) × Unit)) → (List Int) → (List Int) → Option (List Int))) (r10 : Int → (List Int) → Option (List Int)) (t_1 : Int) (b : (List Int)) : Option (List Int) :=
  if (decide (t_1 < ((ix d.2.2.1 t).length : Int))) = true then
  G (0 ≤ t_1 ∧ t_1 < ((ix d.2.2.1 t).length : Int)) (
  G (0 ≤ ix (ix d.2.2.1 t) t_1 ∧ ix (ix d.2.2.1 t) t_1 < (class'.length : Int)) (
  G ((ix (ix d.2.2.1 t) t_1).toNat < class'.length) (
  G (0 ≤ ix (ix d.2.2.1 t) t_1 ∧ ix (ix d.2.2.1 t) t_1 < (class'.length : Int)) (
  G ((ix (ix d.2.2.1 t) t_1).toNat < class'.length) (
  G (0 ≤ (8 : Int)) (
  G (room b ([IntKind.wrap .u8 (ix class' (ix (ix d.2.2.1 t) t_1)), IntKind.wrap .u8 (ishr .i64 (ix class' (ix (ix d.2.2.1 t) t_1)) (8 : Int))]) 1) (
  G (fits (t_1 + (1 : Int))) (
  r10 (t_1 + (1 : Int)) (b ++ ([IntKind.wrap .u8 (ix class' (ix (ix d.2.2.1 t) t_1)), IntKind.wrap .u8 (ishr .i64 (ix class' (ix (ix d.2.2.1 t) t_1)) (8 : Int))])))))))))) else
  G (0 ≤ t ∧ t < (class'.length : Int)) (
  G ((t).toNat < class'.length) (
  if (!(mhas number (ix class' t, (bstr b, ())))) = true then
  det_Classes_J17 class' t next' r6 b (mputK number (ix class' t, (bstr b, ()))) (mputV number number_1 (ix class' t, (bstr b, ())) (number.length : Int)) else
  det_Classes_J17 class' t next' r6 b number number_1))
noncomputable def det_Classes_L10_F (d : (Int × Int × (List (List Int)) × (List Int) × Unit)) (class' : (List Int)) (t : Int) (number : (List (Int × (List UInt8) × Unit))) (number_1 : (List Int)) (next' : (List Int)) (r6 : (Int → (List (Int × (List UInt8) × Unit)) → (List Int) → (List Int) → Option (List Int))) : (Int × (List Int) → Option (List Int)) → Int × (List Int) → Option (List Int) :=
  fun rec x => det_Classes_L10_B d class' t number number_1 next' r6 (fun t_1 b => rec (t_1, b)) x.1 x.2
noncomputable def det_Classes_L10 (d : (Int × Int × (List (List Int)) × (List Int) × Unit)) (class' : (List Int)) (t : Int) (number : (List (Int × (List UInt8) × Unit))) (number_1 : (List Int)) (next' : (List Int)) (r6 : (Int → (List (Int × (List UInt8) × Unit)) → (List Int) → (List Int) → Option (List Int))) (t_1 : Int) (b : (List Int)) : Option (List Int) := LFix (det_Classes_L10_F d class' t number number_1 next' r6 ) (t_1, b)
noncomputable def det_Classes_L6_B (d : (Int × Int × (List (List Int)) × (List Int) × Unit)) (count : Int) (class' : (List Int)) (r3 : (Int → (List Int) → Option (List Int))) (r6 : Int → (List (Int × (List UInt8) × Unit)) → (List Int) → (List Int) → Option (List Int)) (t : Int) (number : (List (Int × (List UInt8) × Unit))) (number_1 : (List Int)) (next' : (List Int)) : Option (List Int) :=
  if (decide (t < (d.2.2.1.length : Int))) = true then
  G (0 ≤ t ∧ t < (d.2.2.1.length : Int)) (
  det_Classes_L10 d class' t number number_1 next' r6 (0 : Int) ([])) else
  if (decide ((number.length : Int) = count)) = true then
  some next' else
  r3 (number.length : Int) next'
noncomputable def det_Classes_L6_F (d : (Int × Int × (List (List Int)) × (List Int) × Unit)) (count : Int) (class' : (List Int)) (r3 : (Int → (List Int) → Option (List Int))) : (Int × (List (Int × (List UInt8) × Unit)) × (List Int) × (List Int) → Option (List Int)) → Int × (List (Int × (List UInt8) × Unit)) × (List Int) × (List Int) → Option (List Int) :=
  fun rec x => det_Classes_L6_B d count class' r3 (fun t number number_1 next' => rec (t, number, number_1, next')) x.1 x.2.1 x.2.2.1 x.2.2.2
noncomputable def det_Classes_L6 (d : (Int × Int × (List (List Int)) × (List Int) × Unit)) (count : Int) (class' : (List Int)) (r3 : (Int → (List Int) → Option (List Int))) (t : Int) (number : (List (Int × (List UInt8) × Unit))) (number_1 : (List Int)) (next' : (List Int)) : Option (List Int) := LFix (det_Classes_L6_F d count class' r3 ) (t, number, number_1, next')
noncomputable def det_Classes_L3_B (d : (Int × Int × (List (List Int)) × (List Int) × Unit)) (r3 : Int → (List Int) → Option (List Int)) (count : Int) (class' : (List Int)) : Option (List Int) :=
  G (mkOK (class'.length : Int) (class'.length : Int) 8) (
  det_Classes_L6 d count class' r3 (0 : Int) ([] : List (Int × (List UInt8) × Unit)) ([] : List Int) (List.replicate ((class'.length : Int)).toNat (0 : Int)))
noncomputable def det_Classes_L3_F (d : (Int × Int × (List (List Int)) × (List Int) × Unit)) : (Int × (List Int) → Option (List Int)) → Int × (List Int) → Option (List Int) :=
  fun rec x => det_Classes_L3_B d (fun count class' => rec (count, class')) x.1 x.2
noncomputable def det_Classes_L3 (d : (Int × Int × (List (List Int)) × (List Int) × Unit)) (count : Int) (class' : (List Int)) : Option (List Int) := LFix (det_Classes_L3_F d ) (count, class')
noncomputable def det_Classes (d : (Int × Int × (List (List Int)) × (List Int) × Unit)) : Option (List Int) :=
  (slices_Clone d.2.2.2.1).bind (fun y' =>
  det_Classes_L3 d (0 : Int) y')
theorem det_Classes_J17_ch (r6 : Nat → Int → (List (Int × (List UInt8) × Unit)) → (List Int) → (List Int) → Option (List Int)) (r6' : Int → (List (Int × (List UInt8) × Unit)) → (List Int) → (List Int) → Option (List Int)) (h_r6 : ∀ a0 a1 a2 a3, ChO (fun κ => r6 κ a0 a1 a2 a3) (r6' a0 a1 a2 a3)) (class' : (List Int)) (t : Int) (next' : (List Int)) (b : (List Int)) (number_2 : (List (Int × (List UInt8) × Unit))) (number_3 : (List Int)) : ChO (fun κ => det_Classes_J17 class' t next' (r6 κ) b number_2 number_3) (det_Classes_J17 class' t next' r6' b number_2 number_3) := by
  unfold det_Classes_J17
  repeat' with_reducible first | exact ChO.const _ | exact h_r6 _ _ _ _ | apply ChO.ite | apply ChO.G | apply ChO.both | (apply ChO.bind; intro _)
theorem det_Classes_L10_B_ch (r6 : Nat → Int → (List (Int × (List UInt8) × Unit)) → (List Int) → (List Int) → Option (List Int)) (r6' : Int → (List (Int × (List UInt8) × Unit)) → (List Int) → (List Int) → Option (List Int)) (h_r6 : ∀ a0 a1 a2 a3, ChO (fun κ => r6 κ a0 a1 a2 a3) (r6' a0 a1 a2 a3)) (r10 : Nat → Int → (List Int) → Option (List Int)) (r10' : Int → (List Int) → Option (List Int)) (h_r10 : ∀ a0 a1, ChO (fun κ => r10 κ a0 a1) (r10' a0 a1)) (d : (Int × Int × (List (List Int)) × (List Int) × Unit)) (class' : (List Int)) (t : Int) (number : (List (Int × (List UInt8) × Unit))) (number_1 : (List Int)) (next' : (List Int)) (t_1 : Int) (b : (List Int)) : ChO (fun κ => det_Classes_L10_B d class' t number number_1 next' (r6 κ) (r10 κ) t_1 b) (det_Classes_L10_B d class' t number number_1 next' r6' r10' t_1 b) := by
  unfold det_Classes_L10_B
  repeat' with_reducible first | exact ChO.const _ | exact h_r6 _ _ _ _ | exact h_r10 _ _ | (apply det_Classes_J17_ch <;> assumption) | apply ChO.ite | apply ChO.G | apply ChO.both | (apply ChO.bind; intro _)
theorem det_Classes_L10_cn (r6 : Int → (List (Int × (List UInt8) × Unit)) → (List Int) → (List Int) → Option (List Int)) (d : (Int × Int × (List (List Int)) × (List Int) × Unit)) (class' : (List Int)) (t : Int) (number : (List (Int × (List UInt8) × Unit))) (number_1 : (List Int)) (next' : (List Int)) : Cn (det_Classes_L10_F d class' t number number_1 next' r6) := fun g h hg x => det_Classes_L10_B_ch (fun _ => r6) r6 (fun _ _ _ _ => ChO.const _) (fun κ t_1 b => g κ (t_1, b)) (fun t_1 b => h (t_1, b)) (fun t_1 b => hg (t_1, b)) d class' t number number_1 next' x.1 x.2
theorem det_Classes_L10_eq (r6 : Int → (List (Int × (List UInt8) × Unit)) → (List Int) → (List Int) → Option (List Int)) (d : (Int × Int × (List (List Int)) × (List Int) × Unit)) (class' : (List Int)) (t : Int) (number : (List (Int × (List UInt8) × Unit))) (number_1 : (List Int)) (next' : (List Int)) (t_1 : Int) (b : (List Int)) : det_Classes_L10 d class' t number number_1 next' r6 t_1 b = det_Classes_L10_B d class' t number number_1 next' r6 (det_Classes_L10 d class' t number number_1 next' r6) t_1 b := LFix_eq (det_Classes_L10_cn r6 d class' t number number_1 next') (t_1, b)
theorem det_Classes_L10_ch (r6 : Nat → Int → (List (Int × (List UInt8) × Unit)) → (List Int) → (List Int) → Option (List Int)) (r6' : Int → (List (Int × (List UInt8) × Unit)) → (List Int) → (List Int) → Option (List Int)) (h_r6 : ∀ a0 a1 a2 a3, ChO (fun κ => r6 κ a0 a1 a2 a3) (r6' a0 a1 a2 a3)) (d : (Int × Int × (List (List Int)) × (List Int) × Unit)) (class' : (List Int)) (t : Int) (number : (List (Int × (List UInt8) × Unit))) (number_1 : (List Int)) (next' : (List Int)) (t_1 : Int) (b : (List Int)) : ChO (fun κ => det_Classes_L10 d class' t number number_1 next' (r6 κ) t_1 b) (det_Classes_L10 d class' t number number_1 next' r6' t_1 b) := by
  unfold det_Classes_L10
  exact LFix_ch (fun κ => (det_Classes_L10_cn (r6 κ) d class' t number number_1 next').mono) (det_Classes_L10_cn r6' d class' t number number_1 next').mono (fun g h hg x => det_Classes_L10_B_ch r6 r6' h_r6 (fun κ t_1 b => g κ (t_1, b)) (fun t_1 b => h (t_1, b)) (fun t_1 b => hg (t_1, b)) d class' t number number_1 next' x.1 x.2) _
theorem det_Classes_L6_B_ch (r3 : Nat → Int → (List Int) → Option (List Int)) (r3' : Int → (List Int) → Option (List Int)) (h_r3 : ∀ a0 a1, ChO (fun κ => r3 κ a0 a1) (r3' a0 a1)) (r6 : Nat → Int → (List (Int × (List UInt8) × Unit)) → (List Int) → (List Int) → Option (List Int)) (r6' : Int → (List (Int × (List UInt8) × Unit)) → (List Int) → (List Int) → Option (List Int)) (h_r6 : ∀ a0 a1 a2 a3, ChO (fun κ => r6 κ a0 a1 a2 a3) (r6' a0 a1 a2 a3)) (d : (Int × Int × (List (List Int)) × (List Int) × Unit)) (count : Int) (class' : (List Int)) (t : Int) (number : (List (Int × (List UInt8) × Unit))) (number_1 : (List Int)) (next' : (List Int)) : ChO (fun κ => det_Classes_L6_B d count class' (r3 κ) (r6 κ) t number number_1 next') (det_Classes_L6_B d count class' r3' r6' t number number_1 next') := by
  unfold det_Classes_L6_B
  repeat' with_reducible first | exact ChO.const _ | exact h_r3 _ _ | exact h_r6 _ _ _ _ | (apply det_Classes_J17_ch <;> assumption) | (apply det_Classes_L10_ch <;> assumption) | apply ChO.ite | apply ChO.G | apply ChO.both | (apply ChO.bind; intro _)
theorem det_Classes_L6_cn (r3 : Int → (List Int) → Option (List Int)) (d : (Int × Int × (List (List Int)) × (List Int) × Unit)) (count : Int) (class' : (List Int)) : Cn (det_Classes_L6_F d count class' r3) := fun g h hg x => det_Classes_L6_B_ch (fun _ => r3) r3 (fun _ _ => ChO.const _) (fun κ t number number_1 next' => g κ (t, number, number_1, next')) (fun t number number_1 next' => h (t, number, number_1, next')) (fun t number number_1 next' => hg (t, number, number_1, next')) d count class' x.1 x.2.1 x.2.2.1 x.2.2.2
theorem det_Classes_L6_eq (r3 : Int → (List Int) → Option (List Int)) (d : (Int × Int × (List (List Int)) × (List Int) × Unit)) (count : Int) (class' : (List Int)) (t : Int) (number : (List (Int × (List UInt8) × Unit))) (number_1 : (List Int)) (next' : (List Int)) : det_Classes_L6 d count class' r3 t number number_1 next' = det_Classes_L6_B d count class' r3 (det_Classes_L6 d count class' r3) t number number_1 next' := LFix_eq (det_Classes_L6_cn r3 d count class') (t, number, number_1, next')
theorem det_Classes_L6_ch (r3 : Nat → Int → (List Int) → Option (List Int)) (r3' : Int → (List Int) → Option (List Int)) (h_r3 : ∀ a0 a1, ChO (fun κ => r3 κ a0 a1) (r3' a0 a1)) (d : (Int × Int × (List (List Int)) × (List Int) × Unit)) (count : Int) (class' : (List Int)) (t : Int) (number : (List (Int × (List UInt8) × Unit))) (number_1 : (List Int)) (next' : (List Int)) : ChO (fun κ => det_Classes_L6 d count class' (r3 κ) t number number_1 next') (det_Classes_L6 d count class' r3' t number number_1 next') := by
  unfold det_Classes_L6
  exact LFix_ch (fun κ => (det_Classes_L6_cn (r3 κ) d count class').mono) (det_Classes_L6_cn r3' d count class').mono (fun g h hg x => det_Classes_L6_B_ch r3 r3' h_r3 (fun κ t number number_1 next' => g κ (t, number, number_1, next')) (fun t number number_1 next' => h (t, number, number_1, next')) (fun t number number_1 next' => hg (t, number, number_1, next')) d count class' x.1 x.2.1 x.2.2.1 x.2.2.2) _
theorem det_Classes_L3_B_ch (r3 : Nat → Int → (List Int) → Option (List Int)) (r3' : Int → (List Int) → Option (List Int)) (h_r3 : ∀ a0 a1, ChO (fun κ => r3 κ a0 a1) (r3' a0 a1)) (d : (Int × Int × (List (List Int)) × (List Int) × Unit)) (count : Int) (class' : (List Int)) : ChO (fun κ => det_Classes_L3_B d (r3 κ) count class') (det_Classes_L3_B d r3' count class') := by
  unfold det_Classes_L3_B
  repeat' with_reducible first | exact ChO.const _ | exact h_r3 _ _ | (apply det_Classes_J17_ch <;> assumption) | (apply det_Classes_L10_ch <;> assumption) | (apply det_Classes_L6_ch <;> assumption) | apply ChO.ite | apply ChO.G | apply ChO.both | (apply ChO.bind; intro _)
theorem det_Classes_L3_cn  (d : (Int × Int × (List (List Int)) × (List Int) × Unit)) : Cn (det_Classes_L3_F d) := fun g h hg x => det_Classes_L3_B_ch  (fun κ count class' => g κ (count, class')) (fun count class' => h (count, class')) (fun count class' => hg (count, class')) d x.1 x.2
theorem det_Classes_L3_eq  (d : (Int × Int × (List (List Int)) × (List Int) × Unit)) (count : Int) (class' : (List Int)) : det_Classes_L3 d count class' = det_Classes_L3_B d (det_Classes_L3 d) count class' := LFix_eq (det_Classes_L3_cn d) (count, class')

noncomputable def det_Smallest_1 (c : Int) (a : Int) (t : (List Int)) (t_1 : (Int × Int × (List (List Int)) × (List Int) × Unit)) (t_2 : (List Int)) : Option (Int) :=
  G (0 ≤ c ∧ c < (t_2.length : Int)) (
  G (0 ≤ ix t_2 c ∧ ix t_2 c < (t_1.2.2.1.length : Int)) (
  G (0 ≤ a ∧ a < ((ix t_1.2.2.1 (ix t_2 c)).length : Int)) (
  G (0 ≤ ix (ix t_1.2.2.1 (ix t_2 c)) a ∧ ix (ix t_1.2.2.1 (ix t_2 c)) a < (t.length : Int)) (
  some (ix t (ix (ix t_1.2.2.1 (ix t_2 c)) a))))))

noncomputable def det_Smallest_2 (c : Int) (t : (Int × Int × (List (List Int)) × (List Int) × Unit)) (t_1 : (List Int)) : Option (Int) :=
  G (0 ≤ c ∧ c < (t_1.length : Int)) (
  G (0 ≤ ix t_1 c ∧ ix t_1 c < (t.2.2.2.1.length : Int)) (
  some (ix t.2.2.2.1 (ix t_1 c))))

noncomputable def det_Explore_J17 (t : Int) (row : (List Int)) (r8 : (Int → (List Int) → (List Int) → (List Int) → (List Int) → Option ((Int × Int × (List (List Int)) × (List Int) × Unit) × Bool))) (n : Int) (number_4 : (List Int)) (number_5 : (List Int)) (l_2 : (List Int)) : Option ((Int × Int × (List (List Int)) × (List Int) × Unit) × Bool) :=
  G (0 ≤ t ∧ t < (row.length : Int)) (
  G ((t).toNat < row.length) (
  G (fits (t + (1 : Int))) (
  r8 (t + (1 : Int)) number_4 number_5 l_2 (row.set (t).toNat n))))
noncomputable def det_Explore_L8_B (letters : Int) (c : (List Int)) (c_1 : (Int × Int × (List (List Int)) × (List Int) × Unit)) (c_2 : (List Int)) (c_3 : (Int × Int × (List (List Int)) × (List Int) × Unit)) (c_4 : (List Int)) (most : Int) (d : Int) (d_1 : Int) (l : (List Int)) (d_2 : (List (List Int))) (d_3 : (List Int)) (r4 : (Int → Int → (List Int) → (List Int) → (List Int) → (List (List Int)) → (List Int) → Option ((Int × Int × (List (List Int)) × (List Int) × Unit) × Bool))) (r8 : Int → (List Int) → (List Int) → (List Int) → (List Int) → Option ((Int × Int × (List (List Int)) × (List Int) × Unit) × Bool)) (t : Int) (number_2 : (List Int)) (number_3 : (List Int)) (l_1 : (List Int)) (row : (List Int)) : Option ((Int × Int × (List (List Int)) × (List Int) × Unit) × Bool) :=
  if (decide (t < letters)) = true then
  (det_Smallest_1 (ix l (d_2.length : Int)) t c c_1 c_2).bind (fun y' =>
  if (!(mhas number_2 y')) = true then
  if (decide ((l_1.length : Int) = most)) = true then
  some (((0 : Int), ((0 : Int), ([], ([], ())))), false) else
  G (room l_1 ([y']) 8) (
  det_Explore_J17 t row r8 (l_1.length : Int) (mputK number_2 y') (mputV number_2 number_3 y' (l_1.length : Int)) (l_1 ++ ([y']))) else
  det_Explore_J17 t row r8 (mget number_2 number_3 y' (0 : Int)) number_2 number_3 l_1) else
  G (room d_2 ([row]) 24) (
  (det_Smallest_2 (ix l (d_2.length : Int)) c_3 c_4).bind (fun y'_1 =>
  G (room d_3 ([y'_1]) 8) (
  r4 d d_1 number_2 number_3 l_1 (d_2 ++ ([row])) (d_3 ++ ([y'_1])))))
noncomputable def det_Explore_L8_F (letters : Int) (c : (List Int)) (c_1 : (Int × Int × (List (List Int)) × (List Int) × Unit)) (c_2 : (List Int)) (c_3 : (Int × Int × (List (List Int)) × (List Int) × Unit)) (c_4 : (List Int)) (most : Int) (d : Int) (d_1 : Int) (l : (List Int)) (d_2 : (List (List Int))) (d_3 : (List Int)) (r4 : (Int → Int → (List Int) → (List Int) → (List Int) → (List (List Int)) → (List Int) → Option ((Int × Int × (List (List Int)) × (List Int) × Unit) × Bool))) : (Int × (List Int) × (List Int) × (List Int) × (List Int) → Option ((Int × Int × (List (List Int)) × (List Int) × Unit) × Bool)) → Int × (List Int) × (List Int) × (List Int) × (List Int) → Option ((Int × Int × (List (List Int)) × (List Int) × Unit) × Bool) :=
  fun rec x => det_Explore_L8_B letters c c_1 c_2 c_3 c_4 most d d_1 l d_2 d_3 r4 (fun t number_2 number_3 l_1 row => rec (t, number_2, number_3, l_1, row)) x.1 x.2.1 x.2.2.1 x.2.2.2.1 x.2.2.2.2
noncomputable def det_Explore_L8 (letters : Int) (c : (List Int)) (c_1 : (Int × Int × (List (List Int)) × (List Int) × Unit)) (c_2 : (List Int)) (c_3 : (Int × Int × (List (List Int)) × (List Int) × Unit)) (c_4 : (List Int)) (most : Int) (d : Int) (d_1 : Int) (l : (List Int)) (d_2 : (List (List Int))) (d_3 : (List Int)) (r4 : (Int → Int → (List Int) → (List Int) → (List Int) → (List (List Int)) → (List Int) → Option ((Int × Int × (List (List Int)) × (List Int) × Unit) × Bool))) (t : Int) (number_2 : (List Int)) (number_3 : (List Int)) (l_1 : (List Int)) (row : (List Int)) : Option ((Int × Int × (List (List Int)) × (List Int) × Unit) × Bool) := LFix (det_Explore_L8_F letters c c_1 c_2 c_3 c_4 most d d_1 l d_2 d_3 r4 ) (t, number_2, number_3, l_1, row)
noncomputable def det_Explore_L4_B (letters : Int) (c : (List Int)) (c_1 : (Int × Int × (List (List Int)) × (List Int) × Unit)) (c_2 : (List Int)) (c_3 : (Int × Int × (List (List Int)) × (List Int) × Unit)) (c_4 : (List Int)) (most : Int) (r4 : Int → Int → (List Int) → (List Int) → (List Int) → (List (List Int)) → (List Int) → Option ((Int × Int × (List (List Int)) × (List Int) × Unit) × Bool)) (d : Int) (d_1 : Int) (number : (List Int)) (number_1 : (List Int)) (l : (List Int)) (d_2 : (List (List Int))) (d_3 : (List Int)) : Option ((Int × Int × (List (List Int)) × (List Int) × Unit) × Bool) :=
  if (decide ((d_2.length : Int) < (l.length : Int))) = true then
  G (0 ≤ (d_2.length : Int) ∧ (d_2.length : Int) < (l.length : Int)) (
  G (((d_2.length : Int)).toNat < l.length) (
  G (mkOK letters letters 8) (
  det_Explore_L8 letters c c_1 c_2 c_3 c_4 most d d_1 l d_2 d_3 r4 (0 : Int) number number_1 l (List.replicate (letters).toNat (0 : Int))))) else
  some ((d, (d_1, (d_2, (d_3, ())))), true)
noncomputable def det_Explore_L4_F (letters : Int) (c : (List Int)) (c_1 : (Int × Int × (List (List Int)) × (List Int) × Unit)) (c_2 : (List Int)) (c_3 : (Int × Int × (List (List Int)) × (List Int) × Unit)) (c_4 : (List Int)) (most : Int) : (Int × Int × (List Int) × (List Int) × (List Int) × (List (List Int)) × (List Int) → Option ((Int × Int × (List (List Int)) × (List Int) × Unit) × Bool)) → Int × Int × (List Int) × (List Int) × (List Int) × (List (List Int)) × (List Int) → Option ((Int × Int × (List (List Int)) × (List Int) × Unit) × Bool) :=
  fun rec x => det_Explore_L4_B letters c c_1 c_2 c_3 c_4 most (fun d d_1 number number_1 l d_2 d_3 => rec (d, d_1, number, number_1, l, d_2, d_3)) x.1 x.2.1 x.2.2.1 x.2.2.2.1 x.2.2.2.2.1 x.2.2.2.2.2.1 x.2.2.2.2.2.2
noncomputable def det_Explore_L4 (letters : Int) (c : (List Int)) (c_1 : (Int × Int × (List (List Int)) × (List Int) × Unit)) (c_2 : (List Int)) (c_3 : (Int × Int × (List (List Int)) × (List Int) × Unit)) (c_4 : (List Int)) (most : Int) (d : Int) (d_1 : Int) (number : (List Int)) (number_1 : (List Int)) (l : (List Int)) (d_2 : (List (List Int))) (d_3 : (List Int)) : Option ((Int × Int × (List (List Int)) × (List Int) × Unit) × Bool) := LFix (det_Explore_L4_F letters c c_1 c_2 c_3 c_4 most ) (d, d_1, number, number_1, l, d_2, d_3)
noncomputable def det_Explore (letters : Int) (first : Int) (c : (List Int)) (c_1 : (Int × Int × (List (List Int)) × (List Int) × Unit)) (c_2 : (List Int)) (c_3 : (Int × Int × (List (List Int)) × (List Int) × Unit)) (c_4 : (List Int)) (most : Int) : Option ((Int × Int × (List (List Int)) × (List Int) × Unit) × Bool) :=
  det_Explore_L4 letters c c_1 c_2 c_3 c_4 most letters (0 : Int) (mputK ([] : List Int) first) (mputV ([] : List Int) ([] : List Int) first (0 : Int)) ([first]) ([] : List (List Int)) ([] : List Int)
theorem det_Explore_J17_ch (r8 : Nat → Int → (List Int) → (List Int) → (List Int) → (List Int) → Option ((Int × Int × (List (List Int)) × (List Int) × Unit) × Bool)) (r8' : Int → (List Int) → (List Int) → (List Int) → (List Int) → Option ((Int × Int × (List (List Int)) × (List Int) × Unit) × Bool)) (h_r8 : ∀ a0 a1 a2 a3 a4, ChO (fun κ => r8 κ a0 a1 a2 a3 a4) (r8' a0 a1 a2 a3 a4)) (t : Int) (row : (List Int)) (n : Int) (number_4 : (List Int)) (number_5 : (List Int)) (l_2 : (List Int)) : ChO (fun κ => det_Explore_J17 t row (r8 κ) n number_4 number_5 l_2) (det_Explore_J17 t row r8' n number_4 number_5 l_2) := by
  unfold det_Explore_J17
  repeat' with_reducible first | exact ChO.const _ | exact h_r8 _ _ _ _ _ | apply ChO.ite | apply ChO.G | apply ChO.both | (apply ChO.bind; intro _)
theorem det_Explore_L8_B_ch (r4 : Nat → Int → Int → (List Int) → (List Int) → (List Int) → (List (List Int)) → (List Int) → Option ((Int × Int × (List (List Int)) × (List Int) × Unit) × Bool)) (r4' : Int → Int → (List Int) → (List Int) → (List Int) → (List (List Int)) → (List Int) → Option ((Int × Int × (List (List Int)) × (List Int) × Unit) × Bool)) (h_r4 : ∀ a0 a1 a2 a3 a4 a5 a6, ChO (fun κ => r4 κ a0 a1 a2 a3 a4 a5 a6) (r4' a0 a1 a2 a3 a4 a5 a6)) (r8 : Nat → Int → (List Int) → (List Int) → (List Int) → (List Int) → Option ((Int × Int × (List (List Int)) × (List Int) × Unit) × Bool)) (r8' : Int → (List Int) → (List Int) → (List Int) → (List Int) → Option ((Int × Int × (List (List Int)) × (List Int) × Unit) × Bool)) (h_r8 : ∀ a0 a1 a2 a3 a4, ChO (fun κ => r8 κ a0 a1 a2 a3 a4) (r8' a0 a1 a2 a3 a4)) (letters : Int) (c : (List Int)) (c_1 : (Int × Int × (List (List Int)) × (List Int) × Unit)) (c_2 : (List Int)) (c_3 : (Int × Int × (List (List Int)) × (List Int) × Unit)) (c_4 : (List Int)) (most : Int) (d : Int) (d_1 : Int) (l : (List Int)) (d_2 : (List (List Int))) (d_3 : (List Int)) (t : Int) (number_2 : (List Int)) (number_3 : (List Int)) (l_1 : (List Int)) (row : (List Int)) : ChO (fun κ => det_Explore_L8_B letters c c_1 c_2 c_3 c_4 most d d_1 l d_2 d_3 (r4 κ) (r8 κ) t number_2 number_3 l_1 row) (det_Explore_L8_B letters c c_1 c_2 c_3 c_4 most d d_1 l d_2 d_3 r4' r8' t number_2 number_3 l_1 row) := by
  unfold det_Explore_L8_B
  repeat' with_reducible first | exact ChO.const _ | exact h_r4 _ _ _ _ _ _ _ | exact h_r8 _ _ _ _ _ | (apply det_Explore_J17_ch <;> assumption) | apply ChO.ite | apply ChO.G | apply ChO.both | (apply ChO.bind; intro _)
theorem det_Explore_L8_cn (r4 : Int → Int → (List Int) → (List Int) → (List Int) → (List (List Int)) → (List Int) → Option ((Int × Int × (List (List Int)) × (List Int) × Unit) × Bool)) (letters : Int) (c : (List Int)) (c_1 : (Int × Int × (List (List Int)) × (List Int) × Unit)) (c_2 : (List Int)) (c_3 : (Int × Int × (List (List Int)) × (List Int) × Unit)) (c_4 : (List Int)) (most : Int) (d : Int) (d_1 : Int) (l : (List Int)) (d_2 : (List (List Int))) (d_3 : (List Int)) : Cn (det_Explore_L8_F letters c c_1 c_2 c_3 c_4 most d d_1 l d_2 d_3 r4) := fun g h hg x => det_Explore_L8_B_ch (fun _ => r4) r4 (fun _ _ _ _ _ _ _ => ChO.const _) (fun κ t number_2 number_3 l_1 row => g κ (t, number_2, number_3, l_1, row)) (fun t number_2 number_3 l_1 row => h (t, number_2, number_3, l_1, row)) (fun t number_2 number_3 l_1 row => hg (t, number_2, number_3, l_1, row)) letters c c_1 c_2 c_3 c_4 most d d_1 l d_2 d_3 x.1 x.2.1 x.2.2.1 x.2.2.2.1 x.2.2.2.2
theorem det_Explore_L8_eq (r4 : Int → Int → (List Int) → (List Int) → (List Int) → (List (List Int)) → (List Int) → Option ((Int × Int × (List (List Int)) × (List Int) × Unit) × Bool)) (letters : Int) (c : (List Int)) (c_1 : (Int × Int × (List (List Int)) × (List Int) × Unit)) (c_2 : (List Int)) (c_3 : (Int × Int × (List (List Int)) × (List Int) × Unit)) (c_4 : (List Int)) (most : Int) (d : Int) (d_1 : Int) (l : (List Int)) (d_2 : (List (List Int))) (d_3 : (List Int)) (t : Int) (number_2 : (List Int)) (number_3 : (List Int)) (l_1 : (List Int)) (row : (List Int)) : det_Explore_L8 letters c c_1 c_2 c_3 c_4 most d d_1 l d_2 d_3 r4 t number_2 number_3 l_1 row = det_Explore_L8_B letters c c_1 c_2 c_3 c_4 most d d_1 l d_2 d_3 r4 (det_Explore_L8 letters c c_1 c_2 c_3 c_4 most d d_1 l d_2 d_3 r4) t number_2 number_3 l_1 row := LFix_eq (det_Explore_L8_cn r4 letters c c_1 c_2 c_3 c_4 most d d_1 l d_2 d_3) (t, number_2, number_3, l_1, row)
theorem det_Explore_L8_ch (r4 : Nat → Int → Int → (List Int) → (List Int) → (List Int) → (List (List Int)) → (List Int) → Option ((Int × Int × (List (List Int)) × (List Int) × Unit) × Bool)) (r4' : Int → Int → (List Int) → (List Int) → (List Int) → (List (List Int)) → (List Int) → Option ((Int × Int × (List (List Int)) × (List Int) × Unit) × Bool)) (h_r4 : ∀ a0 a1 a2 a3 a4 a5 a6, ChO (fun κ => r4 κ a0 a1 a2 a3 a4 a5 a6) (r4' a0 a1 a2 a3 a4 a5 a6)) (letters : Int) (c : (List Int)) (c_1 : (Int × Int × (List (List Int)) × (List Int) × Unit)) (c_2 : (List Int)) (c_3 : (Int × Int × (List (List Int)) × (List Int) × Unit)) (c_4 : (List Int)) (most : Int) (d : Int) (d_1 : Int) (l : (List Int)) (d_2 : (List (List Int))) (d_3 : (List Int)) (t : Int) (number_2 : (List Int)) (number_3 : (List Int)) (l_1 : (List Int)) (row : (List Int)) : ChO (fun κ => det_Explore_L8 letters c c_1 c_2 c_3 c_4 most d d_1 l d_2 d_3 (r4 κ) t number_2 number_3 l_1 row) (det_Explore_L8 letters c c_1 c_2 c_3 c_4 most d d_1 l d_2 d_3 r4' t number_2 number_3 l_1 row) := by
  unfold det_Explore_L8
  exact LFix_ch (fun κ => (det_Explore_L8_cn (r4 κ) letters c c_1 c_2 c_3 c_4 most d d_1 l d_2 d_3).mono) (det_Explore_L8_cn r4' letters c c_1 c_2 c_3 c_4 most d d_1 l d_2 d_3).mono (fun g h hg x => det_Explore_L8_B_ch r4 r4' h_r4 (fun κ t number_2 number_3 l_1 row => g κ (t, number_2, number_3, l_1, row)) (fun t number_2 number_3 l_1 row => h (t, number_2, number_3, l_1, row)) (fun t number_2 number_3 l_1 row => hg (t, number_2, number_3, l_1, row)) letters c c_1 c_2 c_3 c_4 most d d_1 l d_2 d_3 x.1 x.2.1 x.2.2.1 x.2.2.2.1 x.2.2.2.2) _
theorem det_Explore_L4_B_ch (r4 : Nat → Int → Int → (List Int) → (List Int) → (List Int) → (List (List Int)) → (List Int) → Option ((Int × Int × (List (List Int)) × (List Int) × Unit) × Bool)) (r4' : Int → Int → (List Int) → (List Int) → (List Int) → (List (List Int)) → (List Int) → Option ((Int × Int × (List (List Int)) × (List Int) × Unit) × Bool)) (h_r4 : ∀ a0 a1 a2 a3 a4 a5 a6, ChO (fun κ => r4 κ a0 a1 a2 a3 a4 a5 a6) (r4' a0 a1 a2 a3 a4 a5 a6)) (letters : Int) (c : (List Int)) (c_1 : (Int × Int × (List (List Int)) × (List Int) × Unit)) (c_2 : (List Int)) (c_3 : (Int × Int × (List (List Int)) × (List Int) × Unit)) (c_4 : (List Int)) (most : Int) (d : Int) (d_1 : Int) (number : (List Int)) (number_1 : (List Int)) (l : (List Int)) (d_2 : (List (List Int))) (d_3 : (List Int)) : ChO (fun κ => det_Explore_L4_B letters c c_1 c_2 c_3 c_4 most (r4 κ) d d_1 number number_1 l d_2 d_3) (det_Explore_L4_B letters c c_1 c_2 c_3 c_4 most r4' d d_1 number number_1 l d_2 d_3) := by
  unfold det_Explore_L4_B
  repeat' with_reducible first | exact ChO.const _ | exact h_r4 _ _ _ _ _ _ _ | (apply det_Explore_J17_ch <;> assumption) | (apply det_Explore_L8_ch <;> assumption) | apply ChO.ite | apply ChO.G | apply ChO.both | (apply ChO.bind; intro _)
theorem det_Explore_L4_cn  (letters : Int) (c : (List Int)) (c_1 : (Int × Int × (List (List Int)) × (List Int) × Unit)) (c_2 : (List Int)) (c_3 : (Int × Int × (List (List Int)) × (List Int) × Unit)) (c_4 : (List Int)) (most : Int) : Cn (det_Explore_L4_F letters c c_1 c_2 c_3 c_4 most) := fun g h hg x => det_Explore_L4_B_ch  (fun κ d d_1 number number_1 l d_2 d_3 => g κ (d, d_1, number, number_1, l, d_2, d_3)) (fun d d_1 number number_1 l d_2 d_3 => h (d, d_1, number, number_1, l, d_2, d_3)) (fun d d_1 number number_1 l d_2 d_3 => hg (d, d_1, number, number_1, l, d_2, d_3)) letters c c_1 c_2 c_3 c_4 most x.1 x.2.1 x.2.2.1 x.2.2.2.1 x.2.2.2.2.1 x.2.2.2.2.2.1 x.2.2.2.2.2.2
theorem det_Explore_L4_eq  (letters : Int) (c : (List Int)) (c_1 : (Int × Int × (List (List Int)) × (List Int) × Unit)) (c_2 : (List Int)) (c_3 : (Int × Int × (List (List Int)) × (List Int) × Unit)) (c_4 : (List Int)) (most : Int) (d : Int) (d_1 : Int) (number : (List Int)) (number_1 : (List Int)) (l : (List Int)) (d_2 : (List (List Int))) (d_3 : (List Int)) : det_Explore_L4 letters c c_1 c_2 c_3 c_4 most d d_1 number number_1 l d_2 d_3 = det_Explore_L4_B letters c c_1 c_2 c_3 c_4 most (det_Explore_L4 letters c c_1 c_2 c_3 c_4 most) d d_1 number number_1 l d_2 d_3 := LFix_eq (det_Explore_L4_cn letters c c_1 c_2 c_3 c_4 most) (d, d_1, number, number_1, l, d_2, d_3)

noncomputable def det_Smallest_J8 (out : Int) (out_1 : Int) (out_2 : (List (List Int))) (out_3 : (List Int)) : Option (Int × Int × (List (List Int)) × (List Int) × Unit) :=
  some (out, (out_1, (out_2, (out_3, ()))))
noncomputable def det_Smallest_L4_B (d : (Int × Int × (List (List Int)) × (List Int) × Unit)) (y' : (List Int)) (r4 : Int → (List Int) → Option (Int × Int × (List (List Int)) × (List Int) × Unit)) (t : Int) (l : (List Int)) : Option (Int × Int × (List (List Int)) × (List Int) × Unit) :=
  if (decide (t < (y'.length : Int))) = true then
  G (0 ≤ t ∧ t < (y'.length : Int)) (
  G ((t).toNat < y'.length) (
  G (0 ≤ ix y' t ∧ ix y' t < (l.length : Int)) (
  G ((ix y' t).toNat < l.length) (
  G (fits (t + (1 : Int))) (
  r4 (t + (1 : Int)) (l.set (ix y' t).toNat t)))))) else
  G (0 ≤ d.2.1 ∧ d.2.1 < (y'.length : Int)) (
  G ((d.2.1).toNat < y'.length) (
  G (fits ((y'.length : Int) + (1 : Int))) (
  both [(.pair (.int .i64) (.pair (.int .i64) (.pair (.list (.list (.int .i64))) (.pair (.list (.int .i64)) .unit))))] (
  (det_Explore d.1 (ix y' d.2.1) y' (d.1, (d.2.1, (d.2.2.1, (d.2.2.2.1, ())))) l (d.1, (d.2.1, (d.2.2.1, (d.2.2.2.1, ())))) l ((y'.length : Int) + (1 : Int))).bind (fun y'_4 =>
  det_Smallest_J8 y'_4.1.1 y'_4.1.2.1 y'_4.1.2.2.1 y'_4.1.2.2.2.1)) (
  (det_Explore d.1 (ix y' d.2.1) y' (d.1, (d.2.1, (d.2.2.1, (d.2.2.2.1, ())))) l (d.1, (d.2.1, (d.2.2.1, (d.2.2.2.1, ())))) l ((y'.length : Int) + (1 : Int))).bind (fun y'_8 =>
  det_Smallest_J8 y'_8.1.1 y'_8.1.2.1 y'_8.1.2.2.1 y'_8.1.2.2.2.1)))))
noncomputable def det_Smallest_L4_F (d : (Int × Int × (List (List Int)) × (List Int) × Unit)) (y' : (List Int)) : (Int × (List Int) → Option (Int × Int × (List (List Int)) × (List Int) × Unit)) → Int × (List Int) → Option (Int × Int × (List (List Int)) × (List Int) × Unit) :=
  fun rec x => det_Smallest_L4_B d y' (fun t l => rec (t, l)) x.1 x.2
noncomputable def det_Smallest_L4 (d : (Int × Int × (List (List Int)) × (List Int) × Unit)) (y' : (List Int)) (t : Int) (l : (List Int)) : Option (Int × Int × (List (List Int)) × (List Int) × Unit) := LFix (det_Smallest_L4_F d y' ) (t, l)
noncomputable def det_Smallest (d : (Int × Int × (List (List Int)) × (List Int) × Unit)) : Option (Int × Int × (List (List Int)) × (List Int) × Unit) :=
  (det_Classes (d.1, (d.2.1, (d.2.2.1, (d.2.2.2.1, ()))))).bind (fun y' =>
  G (mkOK (y'.length : Int) (y'.length : Int) 8) (
  det_Smallest_L4 d y' (0 : Int) (List.replicate ((y'.length : Int)).toNat (0 : Int))))
theorem det_Smallest_L4_B_ch (r4 : Nat → Int → (List Int) → Option (Int × Int × (List (List Int)) × (List Int) × Unit)) (r4' : Int → (List Int) → Option (Int × Int × (List (List Int)) × (List Int) × Unit)) (h_r4 : ∀ a0 a1, ChO (fun κ => r4 κ a0 a1) (r4' a0 a1)) (d : (Int × Int × (List (List Int)) × (List Int) × Unit)) (y' : (List Int)) (t : Int) (l : (List Int)) : ChO (fun κ => det_Smallest_L4_B d y' (r4 κ) t l) (det_Smallest_L4_B d y' r4' t l) := by
  unfold det_Smallest_L4_B
  repeat' with_reducible first | exact ChO.const _ | exact h_r4 _ _ | apply ChO.ite | apply ChO.G | apply ChO.both | (apply ChO.bind; intro _)
theorem det_Smallest_L4_cn  (d : (Int × Int × (List (List Int)) × (List Int) × Unit)) (y' : (List Int)) : Cn (det_Smallest_L4_F d y') := fun g h hg x => det_Smallest_L4_B_ch  (fun κ t l => g κ (t, l)) (fun t l => h (t, l)) (fun t l => hg (t, l)) d y' x.1 x.2
theorem det_Smallest_L4_eq  (d : (Int × Int × (List (List Int)) × (List Int) × Unit)) (y' : (List Int)) (t : Int) (l : (List Int)) : det_Smallest_L4 d y' t l = det_Smallest_L4_B d y' (det_Smallest_L4 d y') t l := LFix_eq (det_Smallest_L4_cn d y') (t, l)

noncomputable def det_Least (d : (Int × Int × (List (List Int)) × (List Int) × Unit)) : Option ((Int × Int × (List (List Int)) × (List Int) × Unit) × Int) :=
  (det_Check (d.1, (d.2.1, (d.2.2.1, (d.2.2.2.1, ()))))).bind (fun y' =>
  if (decide (¬ y' = (0 : Int))) = true then
  some (((0 : Int), ((0 : Int), ([], ([], ())))), y') else
  (det_Smallest (d.1, (d.2.1, (d.2.2.1, (d.2.2.2.1, ()))))).bind (fun y'_1 =>
  some ((y'_1.1, (y'_1.2.1, (y'_1.2.2.1, (y'_1.2.2.2.1, ())))), (0 : Int))))

noncomputable def monoid_small (d : (Int × Int × (List (List Int)) × (List Int) × Unit)) : Option ((Int × Int × (List (List Int)) × (List Int) × Unit) × Int) :=
  (det_Least (d.1, (d.2.1, (d.2.2.1, (d.2.2.2.1, ()))))).bind (fun y'_3 =>
  if (decide (¬ y'_3.2 = (0 : Int))) = true then
  some (((0 : Int), ((0 : Int), ([], ([], ())))), y'_3.2) else
  if (decide ((5 : Int) < (y'_3.1.2.2.1.length : Int))) = true then
  some (((0 : Int), ((0 : Int), ([], ([], ())))), (1 : Int)) else
  some ((y'_3.1.1, (y'_3.1.2.1, (y'_3.1.2.2.1, (y'_3.1.2.2.2.1, ())))), (0 : Int)))

noncomputable def word_May_L6_B (letters : Int) (w : (List Int)) (r6 : Int → Option (Int)) (t : Int) : Option (Int) :=
  if (decide (t < (w.length : Int))) = true then
  G (0 ≤ t ∧ t < (w.length : Int)) (
  if (decide ((ix w t) < (0 : Int))) = true then
  some (2 : Int) else
  if (decide (letters ≤ (ix w t))) = true then
  some (2 : Int) else
  G (fits (t + (1 : Int))) (
  r6 (t + (1 : Int)))) else
  some (0 : Int)
noncomputable def word_May_L6_F (letters : Int) (w : (List Int)) : (Int → Option (Int)) → Int → Option (Int) :=
  fun rec x => word_May_L6_B letters w (fun t => rec t) x
noncomputable def word_May_L6 (letters : Int) (w : (List Int)) (t : Int) : Option (Int) := LFix (word_May_L6_F letters w ) t
noncomputable def word_May (letters : Int) (w : (List Int)) : Option (Int) :=
  if (decide (letters < (1 : Int))) = true then
  some (2 : Int) else
  if (decide ((4 : Int) < letters)) = true then
  some (2 : Int) else
  if (decide ((60 : Int) < (w.length : Int))) = true then
  some (1 : Int) else
  word_May_L6 letters w (0 : Int)
theorem word_May_L6_B_ch (r6 : Nat → Int → Option (Int)) (r6' : Int → Option (Int)) (h_r6 : ∀ a0, ChO (fun κ => r6 κ a0) (r6' a0)) (letters : Int) (w : (List Int)) (t : Int) : ChO (fun κ => word_May_L6_B letters w (r6 κ) t) (word_May_L6_B letters w r6' t) := by
  unfold word_May_L6_B
  repeat' with_reducible first | exact ChO.const _ | exact h_r6 _ | apply ChO.ite | apply ChO.G | apply ChO.both | (apply ChO.bind; intro _)
theorem word_May_L6_cn  (letters : Int) (w : (List Int)) : Cn (word_May_L6_F letters w) := fun g h hg x => word_May_L6_B_ch  (fun κ t => g κ t) (fun t => h t) (fun t => hg t) letters w x
theorem word_May_L6_eq  (letters : Int) (w : (List Int)) (t : Int) : word_May_L6 letters w t = word_May_L6_B letters w (word_May_L6 letters w) t := LFix_eq (word_May_L6_cn letters w) t

noncomputable def det_Key_L3_B (l : (List Int)) (r3 : Int → (List Int) → Option (List UInt8)) (t : Int) (b : (List Int)) : Option (List UInt8) :=
  if (decide (t < (l.length : Int))) = true then
  G (0 ≤ t ∧ t < (l.length : Int)) (
  G (0 ≤ (8 : Int)) (
  G (room b ([IntKind.wrap .u8 (ix l t), IntKind.wrap .u8 (ishr .i64 (ix l t) (8 : Int))]) 1) (
  G (fits (t + (1 : Int))) (
  r3 (t + (1 : Int)) (b ++ ([IntKind.wrap .u8 (ix l t), IntKind.wrap .u8 (ishr .i64 (ix l t) (8 : Int))])))))) else
  some (bstr b)
noncomputable def det_Key_L3_F (l : (List Int)) : (Int × (List Int) → Option (List UInt8)) → Int × (List Int) → Option (List UInt8) :=
  fun rec x => det_Key_L3_B l (fun t b => rec (t, b)) x.1 x.2
noncomputable def det_Key_L3 (l : (List Int)) (t : Int) (b : (List Int)) : Option (List UInt8) := LFix (det_Key_L3_F l ) (t, b)
noncomputable def det_Key (l : (List Int)) : Option (List UInt8) :=
  det_Key_L3 l (0 : Int) ([])
theorem det_Key_L3_B_ch (r3 : Nat → Int → (List Int) → Option (List UInt8)) (r3' : Int → (List Int) → Option (List UInt8)) (h_r3 : ∀ a0 a1, ChO (fun κ => r3 κ a0 a1) (r3' a0 a1)) (l : (List Int)) (t : Int) (b : (List Int)) : ChO (fun κ => det_Key_L3_B l (r3 κ) t b) (det_Key_L3_B l r3' t b) := by
  unfold det_Key_L3_B
  repeat' with_reducible first | exact ChO.const _ | exact h_r3 _ _ | apply ChO.ite | apply ChO.G | apply ChO.both | (apply ChO.bind; intro _)
theorem det_Key_L3_cn  (l : (List Int)) : Cn (det_Key_L3_F l) := fun g h hg x => det_Key_L3_B_ch  (fun κ t b => g κ (t, b)) (fun t b => h (t, b)) (fun t b => hg (t, b)) l x.1 x.2
theorem det_Key_L3_eq  (l : (List Int)) (t : Int) (b : (List Int)) : det_Key_L3 l t b = det_Key_L3_B l (det_Key_L3 l) t b := LFix_eq (det_Key_L3_cn l) (t, b)

noncomputable def monoid_elements_J24 (t_1 : Int) (r13 : (Int → (List (List UInt8)) → (List Int) → (List ((List Int) × (List Int) × Unit)) → Option (List ((List Int) × (List Int) × Unit)))) (seen_4 : (List (List UInt8))) (seen_5 : (List Int)) (l_2 : (List ((List Int) × (List Int) × Unit))) : Option (List ((List Int) × (List Int) × Unit)) :=
  G (fits (t_1 + (1 : Int))) (
  r13 (t_1 + (1 : Int)) seen_4 seen_5 l_2)
noncomputable def monoid_elements_L17_B (d : (Int × Int × (List (List Int)) × (List Int) × Unit)) (i : Int) (t_1 : Int) (seen_2 : (List (List UInt8))) (seen_3 : (List Int)) (l_1 : (List ((List Int) × (List Int) × Unit))) (r13 : (Int → (List (List UInt8)) → (List Int) → (List ((List Int) × (List Int) × Unit)) → Option (List ((List Int) × (List Int) × Unit)))) (r17 : Int → (List Int) → (List Int) → Option (List ((List Int) × (List Int) × Unit))) (t_2 : Int) (x' : (List Int)) (x'_1 : (List Int)) : Option (List ((List Int) × (List Int) × Unit)) :=
  if (decide (t_2 < (((ix l_1 i).1).length : Int))) = true then
  G (0 ≤ t_2 ∧ t_2 < (((ix l_1 i).1).length : Int)) (
  G (0 ≤ ix ((ix l_1 i).1) t_2 ∧ ix ((ix l_1 i).1) t_2 < (d.2.2.1.length : Int)) (
  G (0 ≤ t_1 ∧ t_1 < ((ix d.2.2.1 (ix ((ix l_1 i).1) t_2)).length : Int)) (
  G (room x'_1 ([ix (ix d.2.2.1 (ix ((ix l_1 i).1) t_2)) t_1]) 8) (
  G (fits (t_2 + (1 : Int))) (
  r17 (t_2 + (1 : Int)) x' (x'_1 ++ ([ix (ix d.2.2.1 (ix ((ix l_1 i).1) t_2)) t_1]))))))) else
  (det_Key x'_1).bind (fun y'_2 =>
  if (decide ((mget seen_2 seen_3 y'_2 (0 : Int)) = (0 : Int))) = true then
  G (room l_1 ([(x'_1, (x', ()))]) 48) (
  monoid_elements_J24 t_1 r13 (mputK seen_2 y'_2) (mputV seen_2 seen_3 y'_2 ((l_1 ++ ([(x'_1, (x', ()))])).length : Int)) (l_1 ++ ([(x'_1, (x', ()))]))) else
  monoid_elements_J24 t_1 r13 seen_2 seen_3 l_1)
noncomputable def monoid_elements_L17_F (d : (Int × Int × (List (List Int)) × (List Int) × Unit)) (i : Int) (t_1 : Int) (seen_2 : (List (List UInt8))) (seen_3 : (List Int)) (l_1 : (List ((List Int) × (List Int) × Unit))) (r13 : (Int → (List (List UInt8)) → (List Int) → (List ((List Int) × (List Int) × Unit)) → Option (List ((List Int) × (List Int) × Unit)))) : (Int × (List Int) × (List Int) → Option (List ((List Int) × (List Int) × Unit))) → Int × (List Int) × (List Int) → Option (List ((List Int) × (List Int) × Unit)) :=
  fun rec x => monoid_elements_L17_B d i t_1 seen_2 seen_3 l_1 r13 (fun t_2 x' x'_1 => rec (t_2, x', x'_1)) x.1 x.2.1 x.2.2
noncomputable def monoid_elements_L17 (d : (Int × Int × (List (List Int)) × (List Int) × Unit)) (i : Int) (t_1 : Int) (seen_2 : (List (List UInt8))) (seen_3 : (List Int)) (l_1 : (List ((List Int) × (List Int) × Unit))) (r13 : (Int → (List (List UInt8)) → (List Int) → (List ((List Int) × (List Int) × Unit)) → Option (List ((List Int) × (List Int) × Unit)))) (t_2 : Int) (x' : (List Int)) (x'_1 : (List Int)) : Option (List ((List Int) × (List Int) × Unit)) := LFix (monoid_elements_L17_F d i t_1 seen_2 seen_3 l_1 r13 ) (t_2, x', x'_1)
noncomputable def monoid_elements_L13_B (d : (Int × Int × (List (List Int)) × (List Int) × Unit)) (i : Int) (r10 : (Int → (List (List UInt8)) → (List Int) → (List ((List Int) × (List Int) × Unit)) → Option (List ((List Int) × (List Int) × Unit)))) (r13 : Int → (List (List UInt8)) → (List Int) → (List ((List Int) × (List Int) × Unit)) → Option (List ((List Int) × (List Int) × Unit))) (t_1 : Int) (seen_2 : (List (List UInt8))) (seen_3 : (List Int)) (l_1 : (List ((List Int) × (List Int) × Unit))) : Option (List ((List Int) × (List Int) × Unit)) :=
  if (decide (t_1 < d.1)) = true then
  G (0 ≤ i ∧ i < (l_1.length : Int)) (
  G ((i).toNat < l_1.length) (
  (slices_Clone (((ix l_1 i).2).1)).bind (fun y'_1 =>
  G (room y'_1 ([t_1]) 8) (
  G (0 ≤ i ∧ i < (l_1.length : Int)) (
  G ((i).toNat < l_1.length) (
  monoid_elements_L17 d i t_1 seen_2 seen_3 l_1 r13 (0 : Int) (y'_1 ++ ([t_1])) ([] : List Int))))))) else
  G (fits (i + (1 : Int))) (
  r10 (i + (1 : Int)) seen_2 seen_3 l_1)
noncomputable def monoid_elements_L13_F (d : (Int × Int × (List (List Int)) × (List Int) × Unit)) (i : Int) (r10 : (Int → (List (List UInt8)) → (List Int) → (List ((List Int) × (List Int) × Unit)) → Option (List ((List Int) × (List Int) × Unit)))) : (Int × (List (List UInt8)) × (List Int) × (List ((List Int) × (List Int) × Unit)) → Option (List ((List Int) × (List Int) × Unit))) → Int × (List (List UInt8)) × (List Int) × (List ((List Int) × (List Int) × Unit)) → Option (List ((List Int) × (List Int) × Unit)) :=
  fun rec x => monoid_elements_L13_B d i r10 (fun t_1 seen_2 seen_3 l_1 => rec (t_1, seen_2, seen_3, l_1)) x.1 x.2.1 x.2.2.1 x.2.2.2
noncomputable def monoid_elements_L13 (d : (Int × Int × (List (List Int)) × (List Int) × Unit)) (i : Int) (r10 : (Int → (List (List UInt8)) → (List Int) → (List ((List Int) × (List Int) × Unit)) → Option (List ((List Int) × (List Int) × Unit)))) (t_1 : Int) (seen_2 : (List (List UInt8))) (seen_3 : (List Int)) (l_1 : (List ((List Int) × (List Int) × Unit))) : Option (List ((List Int) × (List Int) × Unit)) := LFix (monoid_elements_L13_F d i r10 ) (t_1, seen_2, seen_3, l_1)
noncomputable def monoid_elements_L10_B (d : (Int × Int × (List (List Int)) × (List Int) × Unit)) (r10 : Int → (List (List UInt8)) → (List Int) → (List ((List Int) × (List Int) × Unit)) → Option (List ((List Int) × (List Int) × Unit))) (i : Int) (seen : (List (List UInt8))) (seen_1 : (List Int)) (l : (List ((List Int) × (List Int) × Unit))) : Option (List ((List Int) × (List Int) × Unit)) :=
  if (decide (i < (l.length : Int))) = true then
  monoid_elements_L13 d i r10 (0 : Int) seen seen_1 l else
  some l
noncomputable def monoid_elements_L10_F (d : (Int × Int × (List (List Int)) × (List Int) × Unit)) : (Int × (List (List UInt8)) × (List Int) × (List ((List Int) × (List Int) × Unit)) → Option (List ((List Int) × (List Int) × Unit))) → Int × (List (List UInt8)) × (List Int) × (List ((List Int) × (List Int) × Unit)) → Option (List ((List Int) × (List Int) × Unit)) :=
  fun rec x => monoid_elements_L10_B d (fun i seen seen_1 l => rec (i, seen, seen_1, l)) x.1 x.2.1 x.2.2.1 x.2.2.2
noncomputable def monoid_elements_L10 (d : (Int × Int × (List (List Int)) × (List Int) × Unit)) (i : Int) (seen : (List (List UInt8))) (seen_1 : (List Int)) (l : (List ((List Int) × (List Int) × Unit))) : Option (List ((List Int) × (List Int) × Unit)) := LFix (monoid_elements_L10_F d ) (i, seen, seen_1, l)
noncomputable def monoid_elements_L3_B (d : (Int × Int × (List (List Int)) × (List Int) × Unit)) (r3 : Int → (List Int) → Option (List ((List Int) × (List Int) × Unit))) (t : Int) (first : (List Int)) : Option (List ((List Int) × (List Int) × Unit)) :=
  if (decide (t < (d.2.2.1.length : Int))) = true then
  G (room first ([t]) 8) (
  G (fits (t + (1 : Int))) (
  r3 (t + (1 : Int)) (first ++ ([t])))) else
  (det_Key first).bind (fun y' =>
  monoid_elements_L10 d (0 : Int) (mputK ([] : List (List UInt8)) y') (mputV ([] : List (List UInt8)) ([] : List Int) y' (1 : Int)) ([(first, ([], ()))]))
noncomputable def monoid_elements_L3_F (d : (Int × Int × (List (List Int)) × (List Int) × Unit)) : (Int × (List Int) → Option (List ((List Int) × (List Int) × Unit))) → Int × (List Int) → Option (List ((List Int) × (List Int) × Unit)) :=
  fun rec x => monoid_elements_L3_B d (fun t first => rec (t, first)) x.1 x.2
noncomputable def monoid_elements_L3 (d : (Int × Int × (List (List Int)) × (List Int) × Unit)) (t : Int) (first : (List Int)) : Option (List ((List Int) × (List Int) × Unit)) := LFix (monoid_elements_L3_F d ) (t, first)
noncomputable def monoid_elements (d : (Int × Int × (List (List Int)) × (List Int) × Unit)) : Option (List ((List Int) × (List Int) × Unit)) :=
  monoid_elements_L3 d (0 : Int) ([] : List Int)
theorem monoid_elements_J24_ch (r13 : Nat → Int → (List (List UInt8)) → (List Int) → (List ((List Int) × (List Int) × Unit)) → Option (List ((List Int) × (List Int) × Unit))) (r13' : Int → (List (List UInt8)) → (List Int) → (List ((List Int) × (List Int) × Unit)) → Option (List ((List Int) × (List Int) × Unit))) (h_r13 : ∀ a0 a1 a2 a3, ChO (fun κ => r13 κ a0 a1 a2 a3) (r13' a0 a1 a2 a3)) (t_1 : Int) (seen_4 : (List (List UInt8))) (seen_5 : (List Int)) (l_2 : (List ((List Int) × (List Int) × Unit))) : ChO (fun κ => monoid_elements_J24 t_1 (r13 κ) seen_4 seen_5 l_2) (monoid_elements_J24 t_1 r13' seen_4 seen_5 l_2) := by
  unfold monoid_elements_J24
  repeat' with_reducible first | exact ChO.const _ | exact h_r13 _ _ _ _ | apply ChO.ite | apply ChO.G | apply ChO.both | (apply ChO.bind; intro _)
theorem monoid_elements_L17_B_ch (r13 : Nat → Int → (List (List UInt8)) → (List Int) → (List ((List Int) × (List Int) × Unit)) → Option (List ((List Int) × (List Int) × Unit))) (r13' : Int → (List (List UInt8)) → (List Int) → (List ((List Int) × (List Int) × Unit)) → Option (List ((List Int) × (List Int) × Unit))) (h_r13 : ∀ a0 a1 a2 a3, ChO (fun κ => r13 κ a0 a1 a2 a3) (r13' a0 a1 a2 a3)) (r17 : Nat → Int → (List Int) → (List Int) → Option (List ((List Int) × (List Int) × Unit))) (r17' : Int → (List Int) → (List Int) → Option (List ((List Int) × (List Int) × Unit))) (h_r17 : ∀ a0 a1 a2, ChO (fun κ => r17 κ a0 a1 a2) (r17' a0 a1 a2)) (d : (Int × Int × (List (List Int)) × (List Int) × Unit)) (i : Int) (t_1 : Int) (seen_2 : (List (List UInt8))) (seen_3 : (List Int)) (l_1 : (List ((List Int) × (List Int) × Unit))) (t_2 : Int) (x' : (List Int)) (x'_1 : (List Int)) : ChO (fun κ => monoid_elements_L17_B d i t_1 seen_2 seen_3 l_1 (r13 κ) (r17 κ) t_2 x' x'_1) (monoid_elements_L17_B d i t_1 seen_2 seen_3 l_1 r13' r17' t_2 x' x'_1) := by
  unfold monoid_elements_L17_B
  repeat' with_reducible first | exact ChO.const _ | exact h_r13 _ _ _ _ | exact h_r17 _ _ _ | (apply monoid_elements_J24_ch <;> assumption) | apply ChO.ite | apply ChO.G | apply ChO.both | (apply ChO.bind; intro _)
theorem monoid_elements_L17_cn (r13 : Int → (List (List UInt8)) → (List Int) → (List ((List Int) × (List Int) × Unit)) → Option (List ((List Int) × (List Int) × Unit))) (d : (Int × Int × (List (List Int)) × (List Int) × Unit)) (i : Int) (t_1 : Int) (seen_2 : (List (List UInt8))) (seen_3 : (List Int)) (l_1 : (List ((List Int) × (List Int) × Unit))) : Cn (monoid_elements_L17_F d i t_1 seen_2 seen_3 l_1 r13) := fun g h hg x => monoid_elements_L17_B_ch (fun _ => r13) r13 (fun _ _ _ _ => ChO.const _) (fun κ t_2 x' x'_1 => g κ (t_2, x', x'_1)) (fun t_2 x' x'_1 => h (t_2, x', x'_1)) (fun t_2 x' x'_1 => hg (t_2, x', x'_1)) d i t_1 seen_2 seen_3 l_1 x.1 x.2.1 x.2.2
theorem monoid_elements_L17_eq (r13 : Int → (List (List UInt8)) → (List Int) → (List ((List Int) × (List Int) × Unit)) → Option (List ((List Int) × (List Int) × Unit))) (d : (Int × Int × (List (List Int)) × (List Int) × Unit)) (i : Int) (t_1 : Int) (seen_2 : (List (List UInt8))) (seen_3 : (List Int)) (l_1 : (List ((List Int) × (List Int) × Unit))) (t_2 : Int) (x' : (List Int)) (x'_1 : (List Int)) : monoid_elements_L17 d i t_1 seen_2 seen_3 l_1 r13 t_2 x' x'_1 = monoid_elements_L17_B d i t_1 seen_2 seen_3 l_1 r13 (monoid_elements_L17 d i t_1 seen_2 seen_3 l_1 r13) t_2 x' x'_1 := LFix_eq (monoid_elements_L17_cn r13 d i t_1 seen_2 seen_3 l_1) (t_2, x', x'_1)
theorem monoid_elements_L17_ch (r13 : Nat → Int → (List (List UInt8)) → (List Int) → (List ((List Int) × (List Int) × Unit)) → Option (List ((List Int) × (List Int) × Unit))) (r13' : Int → (List (List UInt8)) → (List Int) → (List ((List Int) × (List Int) × Unit)) → Option (List ((List Int) × (List Int) × Unit))) (h_r13 : ∀ a0 a1 a2 a3, ChO (fun κ => r13 κ a0 a1 a2 a3) (r13' a0 a1 a2 a3)) (d : (Int × Int × (List (List Int)) × (List Int) × Unit)) (i : Int) (t_1 : Int) (seen_2 : (List (List UInt8))) (seen_3 : (List Int)) (l_1 : (List ((List Int) × (List Int) × Unit))) (t_2 : Int) (x' : (List Int)) (x'_1 : (List Int)) : ChO (fun κ => monoid_elements_L17 d i t_1 seen_2 seen_3 l_1 (r13 κ) t_2 x' x'_1) (monoid_elements_L17 d i t_1 seen_2 seen_3 l_1 r13' t_2 x' x'_1) := by
  unfold monoid_elements_L17
  exact LFix_ch (fun κ => (monoid_elements_L17_cn (r13 κ) d i t_1 seen_2 seen_3 l_1).mono) (monoid_elements_L17_cn r13' d i t_1 seen_2 seen_3 l_1).mono (fun g h hg x => monoid_elements_L17_B_ch r13 r13' h_r13 (fun κ t_2 x' x'_1 => g κ (t_2, x', x'_1)) (fun t_2 x' x'_1 => h (t_2, x', x'_1)) (fun t_2 x' x'_1 => hg (t_2, x', x'_1)) d i t_1 seen_2 seen_3 l_1 x.1 x.2.1 x.2.2) _
theorem monoid_elements_L13_B_ch (r10 : Nat → Int → (List (List UInt8)) → (List Int) → (List ((List Int) × (List Int) × Unit)) → Option (List ((List Int) × (List Int) × Unit))) (r10' : Int → (List (List UInt8)) → (List Int) → (List ((List Int) × (List Int) × Unit)) → Option (List ((List Int) × (List Int) × Unit))) (h_r10 : ∀ a0 a1 a2 a3, ChO (fun κ => r10 κ a0 a1 a2 a3) (r10' a0 a1 a2 a3)) (r13 : Nat → Int → (List (List UInt8)) → (List Int) → (List ((List Int) × (List Int) × Unit)) → Option (List ((List Int) × (List Int) × Unit))) (r13' : Int → (List (List UInt8)) → (List Int) → (List ((List Int) × (List Int) × Unit)) → Option (List ((List Int) × (List Int) × Unit))) (h_r13 : ∀ a0 a1 a2 a3, ChO (fun κ => r13 κ a0 a1 a2 a3) (r13' a0 a1 a2 a3)) (d : (Int × Int × (List (List Int)) × (List Int) × Unit)) (i : Int) (t_1 : Int) (seen_2 : (List (List UInt8))) (seen_3 : (List Int)) (l_1 : (List ((List Int) × (List Int) × Unit))) : ChO (fun κ => monoid_elements_L13_B d i (r10 κ) (r13 κ) t_1 seen_2 seen_3 l_1) (monoid_elements_L13_B d i r10' r13' t_1 seen_2 seen_3 l_1) := by
  unfold monoid_elements_L13_B
  repeat' with_reducible first | exact ChO.const _ | exact h_r10 _ _ _ _ | exact h_r13 _ _ _ _ | (apply monoid_elements_J24_ch <;> assumption) | (apply monoid_elements_L17_ch <;> assumption) | apply ChO.ite | apply ChO.G | apply ChO.both | (apply ChO.bind; intro _)
theorem monoid_elements_L13_cn (r10 : Int → (List (List UInt8)) → (List Int) → (List ((List Int) × (List Int) × Unit)) → Option (List ((List Int) × (List Int) × Unit))) (d : (Int × Int × (List (List Int)) × (List Int) × Unit)) (i : Int) : Cn (monoid_elements_L13_F d i r10) := fun g h hg x => monoid_elements_L13_B_ch (fun _ => r10) r10 (fun _ _ _ _ => ChO.const _) (fun κ t_1 seen_2 seen_3 l_1 => g κ (t_1, seen_2, seen_3, l_1)) (fun t_1 seen_2 seen_3 l_1 => h (t_1, seen_2, seen_3, l_1)) (fun t_1 seen_2 seen_3 l_1 => hg (t_1, seen_2, seen_3, l_1)) d i x.1 x.2.1 x.2.2.1 x.2.2.2
theorem monoid_elements_L13_eq (r10 : Int → (List (List UInt8)) → (List Int) → (List ((List Int) × (List Int) × Unit)) → Option (List ((List Int) × (List Int) × Unit))) (d : (Int × Int × (List (List Int)) × (List Int) × Unit)) (i : Int) (t_1 : Int) (seen_2 : (List (List UInt8))) (seen_3 : (List Int)) (l_1 : (List ((List Int) × (List Int) × Unit))) : monoid_elements_L13 d i r10 t_1 seen_2 seen_3 l_1 = monoid_elements_L13_B d i r10 (monoid_elements_L13 d i r10) t_1 seen_2 seen_3 l_1 := LFix_eq (monoid_elements_L13_cn r10 d i) (t_1, seen_2, seen_3, l_1)
theorem monoid_elements_L13_ch (r10 : Nat → Int → (List (List UInt8)) → (List Int) → (List ((List Int) × (List Int) × Unit)) → Option (List ((List Int) × (List Int) × Unit))) (r10' : Int → (List (List UInt8)) → (List Int) → (List ((List Int) × (List Int) × Unit)) → Option (List ((List Int) × (List Int) × Unit))) (h_r10 : ∀ a0 a1 a2 a3, ChO (fun κ => r10 κ a0 a1 a2 a3) (r10' a0 a1 a2 a3)) (d : (Int × Int × (List (List Int)) × (List Int) × Unit)) (i : Int) (t_1 : Int) (seen_2 : (List (List UInt8))) (seen_3 : (List Int)) (l_1 : (List ((List Int) × (List Int) × Unit))) : ChO (fun κ => monoid_elements_L13 d i (r10 κ) t_1 seen_2 seen_3 l_1) (monoid_elements_L13 d i r10' t_1 seen_2 seen_3 l_1) := by
  unfold monoid_elements_L13
  exact LFix_ch (fun κ => (monoid_elements_L13_cn (r10 κ) d i).mono) (monoid_elements_L13_cn r10' d i).mono (fun g h hg x => monoid_elements_L13_B_ch r10 r10' h_r10 (fun κ t_1 seen_2 seen_3 l_1 => g κ (t_1, seen_2, seen_3, l_1)) (fun t_1 seen_2 seen_3 l_1 => h (t_1, seen_2, seen_3, l_1)) (fun t_1 seen_2 seen_3 l_1 => hg (t_1, seen_2, seen_3, l_1)) d i x.1 x.2.1 x.2.2.1 x.2.2.2) _
theorem monoid_elements_L10_B_ch (r10 : Nat → Int → (List (List UInt8)) → (List Int) → (List ((List Int) × (List Int) × Unit)) → Option (List ((List Int) × (List Int) × Unit))) (r10' : Int → (List (List UInt8)) → (List Int) → (List ((List Int) × (List Int) × Unit)) → Option (List ((List Int) × (List Int) × Unit))) (h_r10 : ∀ a0 a1 a2 a3, ChO (fun κ => r10 κ a0 a1 a2 a3) (r10' a0 a1 a2 a3)) (d : (Int × Int × (List (List Int)) × (List Int) × Unit)) (i : Int) (seen : (List (List UInt8))) (seen_1 : (List Int)) (l : (List ((List Int) × (List Int) × Unit))) : ChO (fun κ => monoid_elements_L10_B d (r10 κ) i seen seen_1 l) (monoid_elements_L10_B d r10' i seen seen_1 l) := by
  unfold monoid_elements_L10_B
  repeat' with_reducible first | exact ChO.const _ | exact h_r10 _ _ _ _ | (apply monoid_elements_J24_ch <;> assumption) | (apply monoid_elements_L17_ch <;> assumption) | (apply monoid_elements_L13_ch <;> assumption) | apply ChO.ite | apply ChO.G | apply ChO.both | (apply ChO.bind; intro _)
theorem monoid_elements_L10_cn  (d : (Int × Int × (List (List Int)) × (List Int) × Unit)) : Cn (monoid_elements_L10_F d) := fun g h hg x => monoid_elements_L10_B_ch  (fun κ i seen seen_1 l => g κ (i, seen, seen_1, l)) (fun i seen seen_1 l => h (i, seen, seen_1, l)) (fun i seen seen_1 l => hg (i, seen, seen_1, l)) d x.1 x.2.1 x.2.2.1 x.2.2.2
theorem monoid_elements_L10_eq  (d : (Int × Int × (List (List Int)) × (List Int) × Unit)) (i : Int) (seen : (List (List UInt8))) (seen_1 : (List Int)) (l : (List ((List Int) × (List Int) × Unit))) : monoid_elements_L10 d i seen seen_1 l = monoid_elements_L10_B d (monoid_elements_L10 d) i seen seen_1 l := LFix_eq (monoid_elements_L10_cn d) (i, seen, seen_1, l)
theorem monoid_elements_L3_B_ch (r3 : Nat → Int → (List Int) → Option (List ((List Int) × (List Int) × Unit))) (r3' : Int → (List Int) → Option (List ((List Int) × (List Int) × Unit))) (h_r3 : ∀ a0 a1, ChO (fun κ => r3 κ a0 a1) (r3' a0 a1)) (d : (Int × Int × (List (List Int)) × (List Int) × Unit)) (t : Int) (first : (List Int)) : ChO (fun κ => monoid_elements_L3_B d (r3 κ) t first) (monoid_elements_L3_B d r3' t first) := by
  unfold monoid_elements_L3_B
  repeat' with_reducible first | exact ChO.const _ | exact h_r3 _ _ | (apply monoid_elements_J24_ch <;> assumption) | (apply monoid_elements_L17_ch <;> assumption) | (apply monoid_elements_L13_ch <;> assumption) | apply ChO.ite | apply ChO.G | apply ChO.both | (apply ChO.bind; intro _)
theorem monoid_elements_L3_cn  (d : (Int × Int × (List (List Int)) × (List Int) × Unit)) : Cn (monoid_elements_L3_F d) := fun g h hg x => monoid_elements_L3_B_ch  (fun κ t first => g κ (t, first)) (fun t first => h (t, first)) (fun t first => hg (t, first)) d x.1 x.2
theorem monoid_elements_L3_eq  (d : (Int × Int × (List (List Int)) × (List Int) × Unit)) (t : Int) (first : (List Int)) : monoid_elements_L3 d t first = monoid_elements_L3_B d (monoid_elements_L3 d) t first := LFix_eq (monoid_elements_L3_cn d) (t, first)

noncomputable def det_After_L2_B (d : (Int × Int × (List (List Int)) × (List Int) × Unit)) (w : (List Int)) (r2 : Int → Int → Option (Int)) (q_1 : Int) (t : Int) : Option (Int) :=
  if (decide (t < (w.length : Int))) = true then
  G (0 ≤ t ∧ t < (w.length : Int)) (
  G (0 ≤ q_1 ∧ q_1 < (d.2.2.1.length : Int)) (
  G (0 ≤ ix w t ∧ ix w t < ((ix d.2.2.1 q_1).length : Int)) (
  G (fits (t + (1 : Int))) (
  r2 (ix (ix d.2.2.1 q_1) (ix w t)) (t + (1 : Int)))))) else
  some q_1
noncomputable def det_After_L2_F (d : (Int × Int × (List (List Int)) × (List Int) × Unit)) (w : (List Int)) : (Int × Int → Option (Int)) → Int × Int → Option (Int) :=
  fun rec x => det_After_L2_B d w (fun q_1 t => rec (q_1, t)) x.1 x.2
noncomputable def det_After_L2 (d : (Int × Int × (List (List Int)) × (List Int) × Unit)) (w : (List Int)) (q_1 : Int) (t : Int) : Option (Int) := LFix (det_After_L2_F d w ) (q_1, t)
noncomputable def det_After (d : (Int × Int × (List (List Int)) × (List Int) × Unit)) (q : Int) (w : (List Int)) : Option (Int) :=
  det_After_L2 d w q (0 : Int)
theorem det_After_L2_B_ch (r2 : Nat → Int → Int → Option (Int)) (r2' : Int → Int → Option (Int)) (h_r2 : ∀ a0 a1, ChO (fun κ => r2 κ a0 a1) (r2' a0 a1)) (d : (Int × Int × (List (List Int)) × (List Int) × Unit)) (w : (List Int)) (q_1 : Int) (t : Int) : ChO (fun κ => det_After_L2_B d w (r2 κ) q_1 t) (det_After_L2_B d w r2' q_1 t) := by
  unfold det_After_L2_B
  repeat' with_reducible first | exact ChO.const _ | exact h_r2 _ _ | apply ChO.ite | apply ChO.G | apply ChO.both | (apply ChO.bind; intro _)
theorem det_After_L2_cn  (d : (Int × Int × (List (List Int)) × (List Int) × Unit)) (w : (List Int)) : Cn (det_After_L2_F d w) := fun g h hg x => det_After_L2_B_ch  (fun κ q_1 t => g κ (q_1, t)) (fun q_1 t => h (q_1, t)) (fun q_1 t => hg (q_1, t)) d w x.1 x.2
theorem det_After_L2_eq  (d : (Int × Int × (List (List Int)) × (List Int) × Unit)) (w : (List Int)) (q_1 : Int) (t : Int) : det_After_L2 d w q_1 t = det_After_L2_B d w (det_After_L2 d w) q_1 t := LFix_eq (det_After_L2_cn d w) (q_1, t)

noncomputable def det_Apart_2 (c : (Int × Int × Unit)) (t : (Int × Int × (List (List Int)) × (List Int) × Unit)) : Option (Bool) :=
  G (0 ≤ c.1 ∧ c.1 < (t.2.2.2.1.length : Int)) (
  G (0 ≤ c.2.1 ∧ c.2.1 < (t.2.2.2.1.length : Int)) (
  some (decide (¬ (ix t.2.2.2.1 c.1) = (ix t.2.2.2.1 c.2.1)))))

noncomputable def det_Apart_1 (c : (Int × Int × Unit)) (a : Int) (t : (Int × Int × (List (List Int)) × (List Int) × Unit)) : Option (Int × Int × Unit) :=
  G (0 ≤ c.1 ∧ c.1 < (t.2.2.1.length : Int)) (
  G (0 ≤ a ∧ a < ((ix t.2.2.1 c.1).length : Int)) (
  G (0 ≤ c.2.1 ∧ c.2.1 < (t.2.2.1.length : Int)) (
  G (0 ≤ a ∧ a < ((ix t.2.2.1 c.2.1).length : Int)) (
  some (ix (ix t.2.2.1 c.1) a, (ix (ix t.2.2.1 c.2.1) a, ()))))))

noncomputable def det_seeks_J13 (t : Int) (l_1 : (List (Int × Int × Unit))) (r8 : (Int → (List (Int × Int × Unit)) → (List (List Int)) → (List (Int × Int × Unit)) → Option ((List Int) × Bool))) (y'_1 : (Int × Int × Unit)) (ways_4 : (List (Int × Int × Unit))) (ways_5 : (List (List Int))) : Option ((List Int) × Bool) :=
  G (room l_1 ([(y'_1.1, (y'_1.2.1, ()))]) 16) (
  G (fits (t + (1 : Int))) (
  r8 (t + (1 : Int)) ways_4 ways_5 (l_1 ++ ([(y'_1.1, (y'_1.2.1, ()))]))))
noncomputable def det_seeks_L8_B (letters : Int) (c : (Int × Int × (List (List Int)) × (List Int) × Unit)) (r3 : ((List (Int × Int × Unit)) → (List (List Int)) → (List (Int × Int × Unit)) → Option ((List Int) × Bool))) (r8 : Int → (List (Int × Int × Unit)) → (List (List Int)) → (List (Int × Int × Unit)) → Option ((List Int) × Bool)) (t : Int) (ways_2 : (List (Int × Int × Unit))) (ways_3 : (List (List Int))) (l_1 : (List (Int × Int × Unit))) : Option ((List Int) × Bool) :=
  if (decide (t < letters)) = true then
  G (0 ≤ (0 : Int) ∧ (0 : Int) < (l_1.length : Int)) (
  G (((0 : Int)).toNat < l_1.length) (
  (det_Apart_1 (ix l_1 (0 : Int)) t c).bind (fun y'_1 =>
  if (!(mhas ways_2 (y'_1.1, (y'_1.2.1, ())))) = true then
  G (0 ≤ (0 : Int) ∧ (0 : Int) < (l_1.length : Int)) (
  G (((0 : Int)).toNat < l_1.length) (
  both [(.list (.int .i64)), .bool] (
  both [(.list (.int .i64)), .bool] (
  (slices_Clone (mget ways_2 ways_3 (ix l_1 (0 : Int)) ([] : List Int))).bind (fun y'_2 =>
  G (room y'_2 ([t]) 8) (
  det_seeks_J13 t l_1 r8 y'_1 (mputK ways_2 (y'_1.1, (y'_1.2.1, ()))) (mputV ways_2 ways_3 (y'_1.1, (y'_1.2.1, ())) (y'_2 ++ ([t])))))) (
  (slices_Clone (mget ways_2 ways_3 (ix l_1 (0 : Int)) ([] : List Int))).bind (fun y'_3 =>
  G (room y'_3 ([t]) 8) (
  det_seeks_J13 t l_1 r8 y'_1 (mputK ways_2 (y'_1.1, (y'_1.2.1, ()))) (mputV ways_2 ways_3 (y'_1.1, (y'_1.2.1, ())) (y'_3 ++ ([t]))))))) (
  both [(.list (.int .i64)), .bool] (
  (slices_Clone (mget ways_2 ways_3 (ix l_1 (0 : Int)) ([] : List Int))).bind (fun y'_4 =>
  both [(.list (.int .i64)), .bool] (
  G (room y'_4 ([t]) 8) (
  det_seeks_J13 t l_1 r8 y'_1 (mputK ways_2 (y'_1.1, (y'_1.2.1, ()))) (mputV ways_2 ways_3 (y'_1.1, (y'_1.2.1, ())) (y'_4 ++ ([t]))))) (
  both [(.list (.int .i64)), .bool] (
  G (room y'_4 ([t]) 8) (
  det_seeks_J13 t l_1 r8 y'_1 (mputK ways_2 (y'_1.1, (y'_1.2.1, ()))) (mputV ways_2 ways_3 (y'_1.1, (y'_1.2.1, ())) (y'_4 ++ ([t]))))) (
  G (room y'_4 ([t]) 8) (
  det_seeks_J13 t l_1 r8 y'_1 (mputK ways_2 (y'_1.1, (y'_1.2.1, ()))) (mputV ways_2 ways_3 (y'_1.1, (y'_1.2.1, ())) (y'_4 ++ ([t])))))))) (
  both [(.list (.int .i64)), .bool] (
  (slices_Clone (mget ways_2 ways_3 (ix l_1 (0 : Int)) ([] : List Int))).bind (fun y'_5 =>
  G (room y'_5 ([t]) 8) (
  det_seeks_J13 t l_1 r8 y'_1 (mputK ways_2 (y'_1.1, (y'_1.2.1, ()))) (mputV ways_2 ways_3 (y'_1.1, (y'_1.2.1, ())) (y'_5 ++ ([t])))))) (
  (slices_Clone (mget ways_2 ways_3 (ix l_1 (0 : Int)) ([] : List Int))).bind (fun y'_6 =>
  both [(.list (.int .i64)), .bool] (
  G (room y'_6 ([t]) 8) (
  det_seeks_J13 t l_1 r8 y'_1 (mputK ways_2 (y'_1.1, (y'_1.2.1, ()))) (mputV ways_2 ways_3 (y'_1.1, (y'_1.2.1, ())) (y'_6 ++ ([t]))))) (
  G (room y'_6 ([t]) 8) (
  det_seeks_J13 t l_1 r8 y'_1 (mputK ways_2 (y'_1.1, (y'_1.2.1, ()))) (mputV ways_2 ways_3 (y'_1.1, (y'_1.2.1, ())) (y'_6 ++ ([t]))))))))))) else
  G (fits (t + (1 : Int))) (
  r8 (t + (1 : Int)) ways_2 ways_3 l_1)))) else
  G (0 ≤ (1 : Int) ∧ (1 : Int) ≤ (l_1.length : Int)) (
  r3 ways_2 ways_3 (l_1.drop ((1 : Int)).toNat))
noncomputable def det_seeks_L8_F (letters : Int) (c : (Int × Int × (List (List Int)) × (List Int) × Unit)) (r3 : ((List (Int × Int × Unit)) → (List (List Int)) → (List (Int × Int × Unit)) → Option ((List Int) × Bool))) : (Int × (List (Int × Int × Unit)) × (List (List Int)) × (List (Int × Int × Unit)) → Option ((List Int) × Bool)) → Int × (List (Int × Int × Unit)) × (List (List Int)) × (List (Int × Int × Unit)) → Option ((List Int) × Bool) :=
  fun rec x => det_seeks_L8_B letters c r3 (fun t ways_2 ways_3 l_1 => rec (t, ways_2, ways_3, l_1)) x.1 x.2.1 x.2.2.1 x.2.2.2
noncomputable def det_seeks_L8 (letters : Int) (c : (Int × Int × (List (List Int)) × (List Int) × Unit)) (r3 : ((List (Int × Int × Unit)) → (List (List Int)) → (List (Int × Int × Unit)) → Option ((List Int) × Bool))) (t : Int) (ways_2 : (List (Int × Int × Unit))) (ways_3 : (List (List Int))) (l_1 : (List (Int × Int × Unit))) : Option ((List Int) × Bool) := LFix (det_seeks_L8_F letters c r3 ) (t, ways_2, ways_3, l_1)
noncomputable def det_seeks_L3_B (letters : Int) (c : (Int × Int × (List (List Int)) × (List Int) × Unit)) (c_1 : (Int × Int × (List (List Int)) × (List Int) × Unit)) (r3 : (List (Int × Int × Unit)) → (List (List Int)) → (List (Int × Int × Unit)) → Option ((List Int) × Bool)) (ways : (List (Int × Int × Unit))) (ways_1 : (List (List Int))) (l : (List (Int × Int × Unit))) : Option ((List Int) × Bool) :=
  if (decide ((0 : Int) < (l.length : Int))) = true then
  G (0 ≤ (0 : Int) ∧ (0 : Int) < (l.length : Int)) (
  G (((0 : Int)).toNat < l.length) (
  (det_Apart_2 (ix l (0 : Int)) c_1).bind (fun y' =>
  if y' = true then
  G (0 ≤ (0 : Int) ∧ (0 : Int) < (l.length : Int)) (
  G (((0 : Int)).toNat < l.length) (
  some (mget ways ways_1 (ix l (0 : Int)) ([] : List Int), true))) else
  det_seeks_L8 letters c r3 (0 : Int) ways ways_1 l))) else
  some ([], false)
noncomputable def det_seeks_L3_F (letters : Int) (c : (Int × Int × (List (List Int)) × (List Int) × Unit)) (c_1 : (Int × Int × (List (List Int)) × (List Int) × Unit)) : ((List (Int × Int × Unit)) × (List (List Int)) × (List (Int × Int × Unit)) → Option ((List Int) × Bool)) → (List (Int × Int × Unit)) × (List (List Int)) × (List (Int × Int × Unit)) → Option ((List Int) × Bool) :=
  fun rec x => det_seeks_L3_B letters c c_1 (fun ways ways_1 l => rec (ways, ways_1, l)) x.1 x.2.1 x.2.2
noncomputable def det_seeks_L3 (letters : Int) (c : (Int × Int × (List (List Int)) × (List Int) × Unit)) (c_1 : (Int × Int × (List (List Int)) × (List Int) × Unit)) (ways : (List (Int × Int × Unit))) (ways_1 : (List (List Int))) (l : (List (Int × Int × Unit))) : Option ((List Int) × Bool) := LFix (det_seeks_L3_F letters c c_1 ) (ways, ways_1, l)
noncomputable def det_seeks (first : (Int × Int × Unit)) (letters : Int) (c : (Int × Int × (List (List Int)) × (List Int) × Unit)) (c_1 : (Int × Int × (List (List Int)) × (List Int) × Unit)) : Option ((List Int) × Bool) :=
  det_seeks_L3 letters c c_1 (mputK ([] : List (Int × Int × Unit)) (first.1, (first.2.1, ()))) (mputV ([] : List (Int × Int × Unit)) ([] : List (List Int)) (first.1, (first.2.1, ())) ([] : List Int)) ([(first.1, (first.2.1, ()))])
theorem det_seeks_J13_ch (r8 : Nat → Int → (List (Int × Int × Unit)) → (List (List Int)) → (List (Int × Int × Unit)) → Option ((List Int) × Bool)) (r8' : Int → (List (Int × Int × Unit)) → (List (List Int)) → (List (Int × Int × Unit)) → Option ((List Int) × Bool)) (h_r8 : ∀ a0 a1 a2 a3, ChO (fun κ => r8 κ a0 a1 a2 a3) (r8' a0 a1 a2 a3)) (t : Int) (l_1 : (List (Int × Int × Unit))) (y'_1 : (Int × Int × Unit)) (ways_4 : (List (Int × Int × Unit))) (ways_5 : (List (List Int))) : ChO (fun κ => det_seeks_J13 t l_1 (r8 κ) y'_1 ways_4 ways_5) (det_seeks_J13 t l_1 r8' y'_1 ways_4 ways_5) := by
  unfold det_seeks_J13
  repeat' with_reducible first | exact ChO.const _ | exact h_r8 _ _ _ _ | apply ChO.ite | apply ChO.G | apply ChO.both | (apply ChO.bind; intro _)
theorem det_seeks_L8_B_ch (r3 : Nat → (List (Int × Int × Unit)) → (List (List Int)) → (List (Int × Int × Unit)) → Option ((List Int) × Bool)) (r3' : (List (Int × Int × Unit)) → (List (List Int)) → (List (Int × Int × Unit)) → Option ((List Int) × Bool)) (h_r3 : ∀ a0 a1 a2, ChO (fun κ => r3 κ a0 a1 a2) (r3' a0 a1 a2)) (r8 : Nat → Int → (List (Int × Int × Unit)) → (List (List Int)) → (List (Int × Int × Unit)) → Option ((List Int) × Bool)) (r8' : Int → (List (Int × Int × Unit)) → (List (List Int)) → (List (Int × Int × Unit)) → Option ((List Int) × Bool)) (h_r8 : ∀ a0 a1 a2 a3, ChO (fun κ => r8 κ a0 a1 a2 a3) (r8' a0 a1 a2 a3)) (letters : Int) (c : (Int × Int × (List (List Int)) × (List Int) × Unit)) (t : Int) (ways_2 : (List (Int × Int × Unit))) (ways_3 : (List (List Int))) (l_1 : (List (Int × Int × Unit))) : ChO (fun κ => det_seeks_L8_B letters c (r3 κ) (r8 κ) t ways_2 ways_3 l_1) (det_seeks_L8_B letters c r3' r8' t ways_2 ways_3 l_1) := by
  unfold det_seeks_L8_B
  repeat' with_reducible first | exact ChO.const _ | exact h_r3 _ _ _ | exact h_r8 _ _ _ _ | (apply det_seeks_J13_ch <;> assumption) | apply ChO.ite | apply ChO.G | apply ChO.both | (apply ChO.bind; intro _)
theorem det_seeks_L8_cn (r3 : (List (Int × Int × Unit)) → (List (List Int)) → (List (Int × Int × Unit)) → Option ((List Int) × Bool)) (letters : Int) (c : (Int × Int × (List (List Int)) × (List Int) × Unit)) : Cn (det_seeks_L8_F letters c r3) := fun g h hg x => det_seeks_L8_B_ch (fun _ => r3) r3 (fun _ _ _ => ChO.const _) (fun κ t ways_2 ways_3 l_1 => g κ (t, ways_2, ways_3, l_1)) (fun t ways_2 ways_3 l_1 => h (t, ways_2, ways_3, l_1)) (fun t ways_2 ways_3 l_1 => hg (t, ways_2, ways_3, l_1)) letters c x.1 x.2.1 x.2.2.1 x.2.2.2
theorem det_seeks_L8_eq (r3 : (List (Int × Int × Unit)) → (List (List Int)) → (List (Int × Int × Unit)) → Option ((List Int) × Bool)) (letters : Int) (c : (Int × Int × (List (List Int)) × (List Int) × Unit)) (t : Int) (ways_2 : (List (Int × Int × Unit))) (ways_3 : (List (List Int))) (l_1 : (List (Int × Int × Unit))) : det_seeks_L8 letters c r3 t ways_2 ways_3 l_1 = det_seeks_L8_B letters c r3 (det_seeks_L8 letters c r3) t ways_2 ways_3 l_1 := LFix_eq (det_seeks_L8_cn r3 letters c) (t, ways_2, ways_3, l_1)
theorem det_seeks_L8_ch (r3 : Nat → (List (Int × Int × Unit)) → (List (List Int)) → (List (Int × Int × Unit)) → Option ((List Int) × Bool)) (r3' : (List (Int × Int × Unit)) → (List (List Int)) → (List (Int × Int × Unit)) → Option ((List Int) × Bool)) (h_r3 : ∀ a0 a1 a2, ChO (fun κ => r3 κ a0 a1 a2) (r3' a0 a1 a2)) (letters : Int) (c : (Int × Int × (List (List Int)) × (List Int) × Unit)) (t : Int) (ways_2 : (List (Int × Int × Unit))) (ways_3 : (List (List Int))) (l_1 : (List (Int × Int × Unit))) : ChO (fun κ => det_seeks_L8 letters c (r3 κ) t ways_2 ways_3 l_1) (det_seeks_L8 letters c r3' t ways_2 ways_3 l_1) := by
  unfold det_seeks_L8
  exact LFix_ch (fun κ => (det_seeks_L8_cn (r3 κ) letters c).mono) (det_seeks_L8_cn r3' letters c).mono (fun g h hg x => det_seeks_L8_B_ch r3 r3' h_r3 (fun κ t ways_2 ways_3 l_1 => g κ (t, ways_2, ways_3, l_1)) (fun t ways_2 ways_3 l_1 => h (t, ways_2, ways_3, l_1)) (fun t ways_2 ways_3 l_1 => hg (t, ways_2, ways_3, l_1)) letters c x.1 x.2.1 x.2.2.1 x.2.2.2) _
theorem det_seeks_L3_B_ch (r3 : Nat → (List (Int × Int × Unit)) → (List (List Int)) → (List (Int × Int × Unit)) → Option ((List Int) × Bool)) (r3' : (List (Int × Int × Unit)) → (List (List Int)) → (List (Int × Int × Unit)) → Option ((List Int) × Bool)) (h_r3 : ∀ a0 a1 a2, ChO (fun κ => r3 κ a0 a1 a2) (r3' a0 a1 a2)) (letters : Int) (c : (Int × Int × (List (List Int)) × (List Int) × Unit)) (c_1 : (Int × Int × (List (List Int)) × (List Int) × Unit)) (ways : (List (Int × Int × Unit))) (ways_1 : (List (List Int))) (l : (List (Int × Int × Unit))) : ChO (fun κ => det_seeks_L3_B letters c c_1 (r3 κ) ways ways_1 l) (det_seeks_L3_B letters c c_1 r3' ways ways_1 l) := by
  unfold det_seeks_L3_B
  repeat' with_reducible first | exact ChO.const _ | exact h_r3 _ _ _ | (apply det_seeks_J13_ch <;> assumption) | (apply det_seeks_L8_ch <;> assumption) | apply ChO.ite | apply ChO.G | apply ChO.both | (apply ChO.bind; intro _)
theorem det_seeks_L3_cn  (letters : Int) (c : (Int × Int × (List (List Int)) × (List Int) × Unit)) (c_1 : (Int × Int × (List (List Int)) × (List Int) × Unit)) : Cn (det_seeks_L3_F letters c c_1) := fun g h hg x => det_seeks_L3_B_ch  (fun κ ways ways_1 l => g κ (ways, ways_1, l)) (fun ways ways_1 l => h (ways, ways_1, l)) (fun ways ways_1 l => hg (ways, ways_1, l)) letters c c_1 x.1 x.2.1 x.2.2
theorem det_seeks_L3_eq  (letters : Int) (c : (Int × Int × (List (List Int)) × (List Int) × Unit)) (c_1 : (Int × Int × (List (List Int)) × (List Int) × Unit)) (ways : (List (Int × Int × Unit))) (ways_1 : (List (List Int))) (l : (List (Int × Int × Unit))) : det_seeks_L3 letters c c_1 ways ways_1 l = det_seeks_L3_B letters c c_1 (det_seeks_L3 letters c c_1) ways ways_1 l := LFix_eq (det_seeks_L3_cn letters c c_1) (ways, ways_1, l)

noncomputable def det_Apart (d : (Int × Int × (List (List Int)) × (List Int) × Unit)) (p : Int) (q : Int) : Option ((List Int) × Bool × Int) :=
  (det_Check (d.1, (d.2.1, (d.2.2.1, (d.2.2.2.1, ()))))).bind (fun y' =>
  if (decide (¬ y' = (0 : Int))) = true then
  some ([], false, y') else
  if (decide (p < (0 : Int))) = true then
  some ([], false, (2 : Int)) else
  if (decide (q < (0 : Int))) = true then
  some ([], false, (2 : Int)) else
  if (decide ((d.2.2.1.length : Int) ≤ p)) = true then
  some ([], false, (2 : Int)) else
  if (decide ((d.2.2.1.length : Int) ≤ q)) = true then
  some ([], false, (2 : Int)) else
  (det_seeks (p, (q, ())) d.1 (d.1, (d.2.1, (d.2.2.1, (d.2.2.2.1, ())))) (d.1, (d.2.1, (d.2.2.1, (d.2.2.2.1, ()))))).bind (fun y'_4 =>
  some (y'_4.1, y'_4.2, (0 : Int))))

noncomputable def monoid_Alike_L12_B (u : (List Int)) (v : (List Int)) (y' : (Int × Int × (List (List Int)) × (List Int) × Unit)) (y'_4 : (List ((List Int) × (List Int) × Unit))) (r12 : Int → Option ((List Int) × (List Int) × Bool × Int)) (t_1 : Int) : Option ((List Int) × (List Int) × Bool × Int) :=
  if (decide (t_1 < (y'_4.length : Int))) = true then
  G (0 ≤ t_1 ∧ t_1 < (y'_4.length : Int)) (
  G ((t_1).toNat < y'_4.length) (
  (det_After (y'.1, (y'.2.1, (y'.2.2.1, (y'.2.2.2.1, ())))) y'.2.1 (((ix y'_4 t_1).2).1)).bind (fun y'_5 =>
  (det_After (y'.1, (y'.2.1, (y'.2.2.1, (y'.2.2.2.1, ())))) y'_5 u).bind (fun y'_6 =>
  (det_After (y'.1, (y'.2.1, (y'.2.2.1, (y'.2.2.2.1, ())))) y'_5 v).bind (fun y'_7 =>
  (det_Apart (y'.1, (y'.2.1, (y'.2.2.1, (y'.2.2.2.1, ())))) y'_6 y'_7).bind (fun y'_12 =>
  if y'_12.2.1 = true then
  some (((ix y'_4 t_1).2).1, y'_12.1, false, (0 : Int)) else
  G (fits (t_1 + (1 : Int))) (
  r12 (t_1 + (1 : Int))))))))) else
  some ([], [], true, (0 : Int))
noncomputable def monoid_Alike_L12_F (u : (List Int)) (v : (List Int)) (y' : (Int × Int × (List (List Int)) × (List Int) × Unit)) (y'_4 : (List ((List Int) × (List Int) × Unit))) : (Int → Option ((List Int) × (List Int) × Bool × Int)) → Int → Option ((List Int) × (List Int) × Bool × Int) :=
  fun rec x => monoid_Alike_L12_B u v y' y'_4 (fun t_1 => rec t_1) x
noncomputable def monoid_Alike_L12 (u : (List Int)) (v : (List Int)) (y' : (Int × Int × (List (List Int)) × (List Int) × Unit)) (y'_4 : (List ((List Int) × (List Int) × Unit))) (t_1 : Int) : Option ((List Int) × (List Int) × Bool × Int) := LFix (monoid_Alike_L12_F u v y' y'_4 ) t_1
noncomputable def monoid_Alike_L5_B (d : (Int × Int × (List (List Int)) × (List Int) × Unit)) (u : (List Int)) (v : (List Int)) (y' : (Int × Int × (List (List Int)) × (List Int) × Unit)) (r5 : Int → Option ((List Int) × (List Int) × Bool × Int)) (t : Int) : Option ((List Int) × (List Int) × Bool × Int) :=
  if (decide (t < (([u, v]).length : Int))) = true then
  G (0 ≤ t ∧ t < (([u, v]).length : Int)) (
  G ((t).toNat < ([u, v]).length) (
  (word_May d.1 (ix ([u, v]) t)).bind (fun y'_3 =>
  if (decide (¬ y'_3 = (0 : Int))) = true then
  some ([], [], false, y'_3) else
  G (fits (t + (1 : Int))) (
  r5 (t + (1 : Int)))))) else
  (monoid_elements (y'.1, (y'.2.1, (y'.2.2.1, (y'.2.2.2.1, ()))))).bind (fun y'_4 =>
  monoid_Alike_L12 u v y' y'_4 (0 : Int))
noncomputable def monoid_Alike_L5_F (d : (Int × Int × (List (List Int)) × (List Int) × Unit)) (u : (List Int)) (v : (List Int)) (y' : (Int × Int × (List (List Int)) × (List Int) × Unit)) : (Int → Option ((List Int) × (List Int) × Bool × Int)) → Int → Option ((List Int) × (List Int) × Bool × Int) :=
  fun rec x => monoid_Alike_L5_B d u v y' (fun t => rec t) x
noncomputable def monoid_Alike_L5 (d : (Int × Int × (List (List Int)) × (List Int) × Unit)) (u : (List Int)) (v : (List Int)) (y' : (Int × Int × (List (List Int)) × (List Int) × Unit)) (t : Int) : Option ((List Int) × (List Int) × Bool × Int) := LFix (monoid_Alike_L5_F d u v y' ) t
noncomputable def monoid_Alike (d : (Int × Int × (List (List Int)) × (List Int) × Unit)) (u : (List Int)) (v : (List Int)) : Option ((List Int) × (List Int) × Bool × Int) :=
  (monoid_small (d.1, (d.2.1, (d.2.2.1, (d.2.2.2.1, ()))))).bind (fun y'_13 =>
  if (decide (¬ y'_13.2 = (0 : Int))) = true then
  some ([], [], false, y'_13.2) else
  monoid_Alike_L5 d u v y'_13.1 (0 : Int))
theorem monoid_Alike_L12_B_ch (r12 : Nat → Int → Option ((List Int) × (List Int) × Bool × Int)) (r12' : Int → Option ((List Int) × (List Int) × Bool × Int)) (h_r12 : ∀ a0, ChO (fun κ => r12 κ a0) (r12' a0)) (u : (List Int)) (v : (List Int)) (y' : (Int × Int × (List (List Int)) × (List Int) × Unit)) (y'_4 : (List ((List Int) × (List Int) × Unit))) (t_1 : Int) : ChO (fun κ => monoid_Alike_L12_B u v y' y'_4 (r12 κ) t_1) (monoid_Alike_L12_B u v y' y'_4 r12' t_1) := by
  unfold monoid_Alike_L12_B
  repeat' with_reducible first | exact ChO.const _ | exact h_r12 _ | apply ChO.ite | apply ChO.G | apply ChO.both | (apply ChO.bind; intro _)
theorem monoid_Alike_L12_cn  (u : (List Int)) (v : (List Int)) (y' : (Int × Int × (List (List Int)) × (List Int) × Unit)) (y'_4 : (List ((List Int) × (List Int) × Unit))) : Cn (monoid_Alike_L12_F u v y' y'_4) := fun g h hg x => monoid_Alike_L12_B_ch  (fun κ t_1 => g κ t_1) (fun t_1 => h t_1) (fun t_1 => hg t_1) u v y' y'_4 x
theorem monoid_Alike_L12_eq  (u : (List Int)) (v : (List Int)) (y' : (Int × Int × (List (List Int)) × (List Int) × Unit)) (y'_4 : (List ((List Int) × (List Int) × Unit))) (t_1 : Int) : monoid_Alike_L12 u v y' y'_4 t_1 = monoid_Alike_L12_B u v y' y'_4 (monoid_Alike_L12 u v y' y'_4) t_1 := LFix_eq (monoid_Alike_L12_cn u v y' y'_4) t_1
theorem monoid_Alike_L5_B_ch (r5 : Nat → Int → Option ((List Int) × (List Int) × Bool × Int)) (r5' : Int → Option ((List Int) × (List Int) × Bool × Int)) (h_r5 : ∀ a0, ChO (fun κ => r5 κ a0) (r5' a0)) (d : (Int × Int × (List (List Int)) × (List Int) × Unit)) (u : (List Int)) (v : (List Int)) (y' : (Int × Int × (List (List Int)) × (List Int) × Unit)) (t : Int) : ChO (fun κ => monoid_Alike_L5_B d u v y' (r5 κ) t) (monoid_Alike_L5_B d u v y' r5' t) := by
  unfold monoid_Alike_L5_B
  repeat' with_reducible first | exact ChO.const _ | exact h_r5 _ | apply ChO.ite | apply ChO.G | apply ChO.both | (apply ChO.bind; intro _)
theorem monoid_Alike_L5_cn  (d : (Int × Int × (List (List Int)) × (List Int) × Unit)) (u : (List Int)) (v : (List Int)) (y' : (Int × Int × (List (List Int)) × (List Int) × Unit)) : Cn (monoid_Alike_L5_F d u v y') := fun g h hg x => monoid_Alike_L5_B_ch  (fun κ t => g κ t) (fun t => h t) (fun t => hg t) d u v y' x
theorem monoid_Alike_L5_eq  (d : (Int × Int × (List (List Int)) × (List Int) × Unit)) (u : (List Int)) (v : (List Int)) (y' : (Int × Int × (List (List Int)) × (List Int) × Unit)) (t : Int) : monoid_Alike_L5 d u v y' t = monoid_Alike_L5_B d u v y' (monoid_Alike_L5 d u v y') t := LFix_eq (monoid_Alike_L5_cn d u v y') t

noncomputable def r3_Check_L19_B (d : (Int × Int × (List (List Int)) × (List Int) × Unit)) (i_1 : Int) (r16 : (Int → Option (Int))) (r19 : Int → Option (Int)) (k : Int) : Option (Int) :=
  if (decide (k < d.1)) = true then
  G (0 ≤ i_1 ∧ i_1 < (d.2.2.1.length : Int)) (
  G (0 ≤ k ∧ k < ((ix d.2.2.1 i_1).length : Int)) (
  if (decide ((ix (ix d.2.2.1 i_1) k) < (0 : Int))) = true then
  some (2 : Int) else
  G (0 ≤ i_1 ∧ i_1 < (d.2.2.1.length : Int)) (
  G (0 ≤ k ∧ k < ((ix d.2.2.1 i_1).length : Int)) (
  if (decide ((d.2.2.1.length : Int) ≤ (ix (ix d.2.2.1 i_1) k))) = true then
  some (2 : Int) else
  G (fits (k + (1 : Int))) (
  r19 (k + (1 : Int))))))) else
  G (fits (i_1 + (1 : Int))) (
  r16 (i_1 + (1 : Int)))
noncomputable def r3_Check_L19_F (d : (Int × Int × (List (List Int)) × (List Int) × Unit)) (i_1 : Int) (r16 : (Int → Option (Int))) : (Int → Option (Int)) → Int → Option (Int) :=
  fun rec x => r3_Check_L19_B d i_1 r16 (fun k => rec k) x
noncomputable def r3_Check_L19 (d : (Int × Int × (List (List Int)) × (List Int) × Unit)) (i_1 : Int) (r16 : (Int → Option (Int))) (k : Int) : Option (Int) := LFix (r3_Check_L19_F d i_1 r16 ) k
noncomputable def r3_Check_L24_B (d : (Int × Int × (List (List Int)) × (List Int) × Unit)) (r24 : Int → Option (Int)) (i_2 : Int) : Option (Int) :=
  if (decide (i_2 < (d.2.2.1.length : Int))) = true then
  G (0 ≤ i_2 ∧ i_2 < (d.2.2.2.1.length : Int)) (
  if (decide (¬ (ix d.2.2.2.1 i_2) = (0 : Int))) = true then
  G (0 ≤ i_2 ∧ i_2 < (d.2.2.2.1.length : Int)) (
  if (decide (¬ (ix d.2.2.2.1 i_2) = (1 : Int))) = true then
  some (2 : Int) else
  G (fits (i_2 + (1 : Int))) (
  r24 (i_2 + (1 : Int)))) else
  G (fits (i_2 + (1 : Int))) (
  r24 (i_2 + (1 : Int)))) else
  some (0 : Int)
noncomputable def r3_Check_L24_F (d : (Int × Int × (List (List Int)) × (List Int) × Unit)) : (Int → Option (Int)) → Int → Option (Int) :=
  fun rec x => r3_Check_L24_B d (fun i_2 => rec i_2) x
noncomputable def r3_Check_L24 (d : (Int × Int × (List (List Int)) × (List Int) × Unit)) (i_2 : Int) : Option (Int) := LFix (r3_Check_L24_F d ) i_2
noncomputable def r3_Check_L16_B (d : (Int × Int × (List (List Int)) × (List Int) × Unit)) (r16 : Int → Option (Int)) (i_1 : Int) : Option (Int) :=
  if (decide (i_1 < (d.2.2.1.length : Int))) = true then
  r3_Check_L19 d i_1 r16 (0 : Int) else
  r3_Check_L24 d (0 : Int)
noncomputable def r3_Check_L16_F (d : (Int × Int × (List (List Int)) × (List Int) × Unit)) : (Int → Option (Int)) → Int → Option (Int) :=
  fun rec x => r3_Check_L16_B d (fun i_1 => rec i_1) x
noncomputable def r3_Check_L16 (d : (Int × Int × (List (List Int)) × (List Int) × Unit)) (i_1 : Int) : Option (Int) := LFix (r3_Check_L16_F d ) i_1
noncomputable def r3_Check_L9_B (d : (Int × Int × (List (List Int)) × (List Int) × Unit)) (r9 : Int → Option (Int)) (i : Int) : Option (Int) :=
  if (decide (i < (d.2.2.1.length : Int))) = true then
  G (0 ≤ i ∧ i < (d.2.2.1.length : Int)) (
  if (decide (¬ ((ix d.2.2.1 i).length : Int) = d.1)) = true then
  some (3 : Int) else
  G (fits (i + (1 : Int))) (
  r9 (i + (1 : Int)))) else
  if (decide (d.2.1 < (0 : Int))) = true then
  some (2 : Int) else
  if (decide ((d.2.2.1.length : Int) ≤ d.2.1)) = true then
  some (2 : Int) else
  r3_Check_L16 d (0 : Int)
noncomputable def r3_Check_L9_F (d : (Int × Int × (List (List Int)) × (List Int) × Unit)) : (Int → Option (Int)) → Int → Option (Int) :=
  fun rec x => r3_Check_L9_B d (fun i => rec i) x
noncomputable def r3_Check_L9 (d : (Int × Int × (List (List Int)) × (List Int) × Unit)) (i : Int) : Option (Int) := LFix (r3_Check_L9_F d ) i
noncomputable def r3_Check (d : (Int × Int × (List (List Int)) × (List Int) × Unit)) : Option (Int) :=
  if (decide (d.1 < (1 : Int))) = true then
  some (2 : Int) else
  if (decide ((4 : Int) < d.1)) = true then
  some (2 : Int) else
  if (decide ((d.2.2.1.length : Int) < (1 : Int))) = true then
  some (1 : Int) else
  if (decide ((3000 : Int) < (d.2.2.1.length : Int))) = true then
  some (1 : Int) else
  if (decide (¬ (d.2.2.2.1.length : Int) = (d.2.2.1.length : Int))) = true then
  some (3 : Int) else
  r3_Check_L9 d (0 : Int)
theorem r3_Check_L19_B_ch (r16 : Nat → Int → Option (Int)) (r16' : Int → Option (Int)) (h_r16 : ∀ a0, ChO (fun κ => r16 κ a0) (r16' a0)) (r19 : Nat → Int → Option (Int)) (r19' : Int → Option (Int)) (h_r19 : ∀ a0, ChO (fun κ => r19 κ a0) (r19' a0)) (d : (Int × Int × (List (List Int)) × (List Int) × Unit)) (i_1 : Int) (k : Int) : ChO (fun κ => r3_Check_L19_B d i_1 (r16 κ) (r19 κ) k) (r3_Check_L19_B d i_1 r16' r19' k) := by
  unfold r3_Check_L19_B
  repeat' with_reducible first | exact ChO.const _ | exact h_r16 _ | exact h_r19 _ | apply ChO.ite | apply ChO.G | apply ChO.both | (apply ChO.bind; intro _)
theorem r3_Check_L19_cn (r16 : Int → Option (Int)) (d : (Int × Int × (List (List Int)) × (List Int) × Unit)) (i_1 : Int) : Cn (r3_Check_L19_F d i_1 r16) := fun g h hg x => r3_Check_L19_B_ch (fun _ => r16) r16 (fun _ => ChO.const _) (fun κ k => g κ k) (fun k => h k) (fun k => hg k) d i_1 x
theorem r3_Check_L19_eq (r16 : Int → Option (Int)) (d : (Int × Int × (List (List Int)) × (List Int) × Unit)) (i_1 : Int) (k : Int) : r3_Check_L19 d i_1 r16 k = r3_Check_L19_B d i_1 r16 (r3_Check_L19 d i_1 r16) k := LFix_eq (r3_Check_L19_cn r16 d i_1) k
theorem r3_Check_L19_ch (r16 : Nat → Int → Option (Int)) (r16' : Int → Option (Int)) (h_r16 : ∀ a0, ChO (fun κ => r16 κ a0) (r16' a0)) (d : (Int × Int × (List (List Int)) × (List Int) × Unit)) (i_1 : Int) (k : Int) : ChO (fun κ => r3_Check_L19 d i_1 (r16 κ) k) (r3_Check_L19 d i_1 r16' k) := by
  unfold r3_Check_L19
  exact LFix_ch (fun κ => (r3_Check_L19_cn (r16 κ) d i_1).mono) (r3_Check_L19_cn r16' d i_1).mono (fun g h hg x => r3_Check_L19_B_ch r16 r16' h_r16 (fun κ k => g κ k) (fun k => h k) (fun k => hg k) d i_1 x) _
theorem r3_Check_L24_B_ch (r24 : Nat → Int → Option (Int)) (r24' : Int → Option (Int)) (h_r24 : ∀ a0, ChO (fun κ => r24 κ a0) (r24' a0)) (d : (Int × Int × (List (List Int)) × (List Int) × Unit)) (i_2 : Int) : ChO (fun κ => r3_Check_L24_B d (r24 κ) i_2) (r3_Check_L24_B d r24' i_2) := by
  unfold r3_Check_L24_B
  repeat' with_reducible first | exact ChO.const _ | exact h_r24 _ | (apply r3_Check_L19_ch <;> assumption) | apply ChO.ite | apply ChO.G | apply ChO.both | (apply ChO.bind; intro _)
theorem r3_Check_L24_cn  (d : (Int × Int × (List (List Int)) × (List Int) × Unit)) : Cn (r3_Check_L24_F d) := fun g h hg x => r3_Check_L24_B_ch  (fun κ i_2 => g κ i_2) (fun i_2 => h i_2) (fun i_2 => hg i_2) d x
theorem r3_Check_L24_eq  (d : (Int × Int × (List (List Int)) × (List Int) × Unit)) (i_2 : Int) : r3_Check_L24 d i_2 = r3_Check_L24_B d (r3_Check_L24 d) i_2 := LFix_eq (r3_Check_L24_cn d) i_2
theorem r3_Check_L16_B_ch (r16 : Nat → Int → Option (Int)) (r16' : Int → Option (Int)) (h_r16 : ∀ a0, ChO (fun κ => r16 κ a0) (r16' a0)) (d : (Int × Int × (List (List Int)) × (List Int) × Unit)) (i_1 : Int) : ChO (fun κ => r3_Check_L16_B d (r16 κ) i_1) (r3_Check_L16_B d r16' i_1) := by
  unfold r3_Check_L16_B
  repeat' with_reducible first | exact ChO.const _ | exact h_r16 _ | (apply r3_Check_L19_ch <;> assumption) | apply ChO.ite | apply ChO.G | apply ChO.both | (apply ChO.bind; intro _)
theorem r3_Check_L16_cn  (d : (Int × Int × (List (List Int)) × (List Int) × Unit)) : Cn (r3_Check_L16_F d) := fun g h hg x => r3_Check_L16_B_ch  (fun κ i_1 => g κ i_1) (fun i_1 => h i_1) (fun i_1 => hg i_1) d x
theorem r3_Check_L16_eq  (d : (Int × Int × (List (List Int)) × (List Int) × Unit)) (i_1 : Int) : r3_Check_L16 d i_1 = r3_Check_L16_B d (r3_Check_L16 d) i_1 := LFix_eq (r3_Check_L16_cn d) i_1
theorem r3_Check_L9_B_ch (r9 : Nat → Int → Option (Int)) (r9' : Int → Option (Int)) (h_r9 : ∀ a0, ChO (fun κ => r9 κ a0) (r9' a0)) (d : (Int × Int × (List (List Int)) × (List Int) × Unit)) (i : Int) : ChO (fun κ => r3_Check_L9_B d (r9 κ) i) (r3_Check_L9_B d r9' i) := by
  unfold r3_Check_L9_B
  repeat' with_reducible first | exact ChO.const _ | exact h_r9 _ | (apply r3_Check_L19_ch <;> assumption) | apply ChO.ite | apply ChO.G | apply ChO.both | (apply ChO.bind; intro _)
theorem r3_Check_L9_cn  (d : (Int × Int × (List (List Int)) × (List Int) × Unit)) : Cn (r3_Check_L9_F d) := fun g h hg x => r3_Check_L9_B_ch  (fun κ i => g κ i) (fun i => h i) (fun i => hg i) d x
theorem r3_Check_L9_eq  (d : (Int × Int × (List (List Int)) × (List Int) × Unit)) (i : Int) : r3_Check_L9 d i = r3_Check_L9_B d (r3_Check_L9 d) i := LFix_eq (r3_Check_L9_cn d) i

noncomputable def r3_Classes_J21 (q : Int) (next' : (List Int)) (r7 : (Int → Int → (List Int) → (List Int) → Option (List Int))) (k_1 : Int) (n_1 : Int) (first_1 : (List Int)) : Option (List Int) :=
  G (0 ≤ q ∧ q < (next'.length : Int)) (
  G ((q).toNat < next'.length) (
  G (fits (q + (1 : Int))) (
  r7 n_1 (q + (1 : Int)) (next'.set (q).toNat k_1) first_1)))
noncomputable def r3_Classes_J18 (n : Int) (q : Int) (next' : (List Int)) (first : (List Int)) (r7 : (Int → Int → (List Int) → (List Int) → Option (List Int))) (k_1 : Int) : Option (List Int) :=
  if (decide (k_1 = n)) = true then
  G (room first ([q]) 8) (
  G (fits (n + (1 : Int))) (
  r3_Classes_J21 q next' r7 k_1 (n + (1 : Int)) (first ++ ([q])))) else
  r3_Classes_J21 q next' r7 k_1 n first
noncomputable def r3_Classes_J15 (n : Int) (q : Int) (next' : (List Int)) (first : (List Int)) (r7 : (Int → Int → (List Int) → (List Int) → Option (List Int))) (k : Int) (r10 : (Int → Option (List Int))) (same_1 : Bool) : Option (List Int) :=
  if same_1 = true then
  r3_Classes_J18 n q next' first r7 k else
  G (fits (k + (1 : Int))) (
  r10 (k + (1 : Int)))
noncomputable def r3_Classes_L14_B (d : (Int × Int × (List (List Int)) × (List Int) × Unit)) (class' : (List Int)) (n : Int) (q : Int) (next' : (List Int)) (first : (List Int)) (r7 : (Int → Int → (List Int) → (List Int) → Option (List Int))) (k : Int) (r10 : (Int → Option (List Int))) (r14 : Bool → Int → Option (List Int)) (same : Bool) (a : Int) : Option (List Int) :=
  if (decide (a < d.1)) = true then
  if same = true then
  G (0 ≤ ix first k ∧ ix first k < (d.2.2.1.length : Int)) (
  G (0 ≤ a ∧ a < ((ix d.2.2.1 (ix first k)).length : Int)) (
  G (0 ≤ ix (ix d.2.2.1 (ix first k)) a ∧ ix (ix d.2.2.1 (ix first k)) a < (class'.length : Int)) (
  G ((ix (ix d.2.2.1 (ix first k)) a).toNat < class'.length) (
  G (0 ≤ q ∧ q < (d.2.2.1.length : Int)) (
  G (0 ≤ a ∧ a < ((ix d.2.2.1 q).length : Int)) (
  G (0 ≤ ix (ix d.2.2.1 q) a ∧ ix (ix d.2.2.1 q) a < (class'.length : Int)) (
  G ((ix (ix d.2.2.1 q) a).toNat < class'.length) (
  G (fits (a + (1 : Int))) (
  r14 (decide ((ix class' (ix (ix d.2.2.1 (ix first k)) a)) = (ix class' (ix (ix d.2.2.1 q) a)))) (a + (1 : Int))))))))))) else
  r3_Classes_J15 n q next' first r7 k r10 same else
  r3_Classes_J15 n q next' first r7 k r10 same
noncomputable def r3_Classes_L14_F (d : (Int × Int × (List (List Int)) × (List Int) × Unit)) (class' : (List Int)) (n : Int) (q : Int) (next' : (List Int)) (first : (List Int)) (r7 : (Int → Int → (List Int) → (List Int) → Option (List Int))) (k : Int) (r10 : (Int → Option (List Int))) : (Bool × Int → Option (List Int)) → Bool × Int → Option (List Int) :=
  fun rec x => r3_Classes_L14_B d class' n q next' first r7 k r10 (fun same a => rec (same, a)) x.1 x.2
noncomputable def r3_Classes_L14 (d : (Int × Int × (List (List Int)) × (List Int) × Unit)) (class' : (List Int)) (n : Int) (q : Int) (next' : (List Int)) (first : (List Int)) (r7 : (Int → Int → (List Int) → (List Int) → Option (List Int))) (k : Int) (r10 : (Int → Option (List Int))) (same : Bool) (a : Int) : Option (List Int) := LFix (r3_Classes_L14_F d class' n q next' first r7 k r10 ) (same, a)
noncomputable def r3_Classes_L10_B (d : (Int × Int × (List (List Int)) × (List Int) × Unit)) (class' : (List Int)) (n : Int) (q : Int) (next' : (List Int)) (first : (List Int)) (r7 : (Int → Int → (List Int) → (List Int) → Option (List Int))) (r10 : Int → Option (List Int)) (k : Int) : Option (List Int) :=
  if (decide (k < n)) = true then
  G (0 ≤ k ∧ k < (first.length : Int)) (
  G ((k).toNat < first.length) (
  G (0 ≤ ix first k ∧ ix first k < (class'.length : Int)) (
  G ((ix first k).toNat < class'.length) (
  G (0 ≤ q ∧ q < (class'.length : Int)) (
  G ((q).toNat < class'.length) (
  r3_Classes_L14 d class' n q next' first r7 k r10 (decide ((ix class' (ix first k)) = (ix class' q))) (0 : Int))))))) else
  r3_Classes_J18 n q next' first r7 k
noncomputable def r3_Classes_L10_F (d : (Int × Int × (List (List Int)) × (List Int) × Unit)) (class' : (List Int)) (n : Int) (q : Int) (next' : (List Int)) (first : (List Int)) (r7 : (Int → Int → (List Int) → (List Int) → Option (List Int))) : (Int → Option (List Int)) → Int → Option (List Int) :=
  fun rec x => r3_Classes_L10_B d class' n q next' first r7 (fun k => rec k) x
noncomputable def r3_Classes_L10 (d : (Int × Int × (List (List Int)) × (List Int) × Unit)) (class' : (List Int)) (n : Int) (q : Int) (next' : (List Int)) (first : (List Int)) (r7 : (Int → Int → (List Int) → (List Int) → Option (List Int))) (k : Int) : Option (List Int) := LFix (r3_Classes_L10_F d class' n q next' first r7 ) k
noncomputable def r3_Classes_L7_B (d : (Int × Int × (List (List Int)) × (List Int) × Unit)) (count : Int) (class' : (List Int)) (r3 : (Int → (List Int) → Option (List Int))) (r7 : Int → Int → (List Int) → (List Int) → Option (List Int)) (n : Int) (q : Int) (next' : (List Int)) (first : (List Int)) : Option (List Int) :=
  if (decide (q < (class'.length : Int))) = true then
  r3_Classes_L10 d class' n q next' first r7 (0 : Int) else
  if (decide (n = count)) = true then
  some next' else
  r3 n next'
noncomputable def r3_Classes_L7_F (d : (Int × Int × (List (List Int)) × (List Int) × Unit)) (count : Int) (class' : (List Int)) (r3 : (Int → (List Int) → Option (List Int))) : (Int × Int × (List Int) × (List Int) → Option (List Int)) → Int × Int × (List Int) × (List Int) → Option (List Int) :=
  fun rec x => r3_Classes_L7_B d count class' r3 (fun n q next' first => rec (n, q, next', first)) x.1 x.2.1 x.2.2.1 x.2.2.2
noncomputable def r3_Classes_L7 (d : (Int × Int × (List (List Int)) × (List Int) × Unit)) (count : Int) (class' : (List Int)) (r3 : (Int → (List Int) → Option (List Int))) (n : Int) (q : Int) (next' : (List Int)) (first : (List Int)) : Option (List Int) := LFix (r3_Classes_L7_F d count class' r3 ) (n, q, next', first)
noncomputable def r3_Classes_L3_B (d : (Int × Int × (List (List Int)) × (List Int) × Unit)) (r3 : Int → (List Int) → Option (List Int)) (count : Int) (class' : (List Int)) : Option (List Int) :=
  G (mkOK (class'.length : Int) (class'.length : Int) 8) (
  r3_Classes_L7 d count class' r3 (0 : Int) (0 : Int) (List.replicate ((class'.length : Int)).toNat (0 : Int)) ([]))
noncomputable def r3_Classes_L3_F (d : (Int × Int × (List (List Int)) × (List Int) × Unit)) : (Int × (List Int) → Option (List Int)) → Int × (List Int) → Option (List Int) :=
  fun rec x => r3_Classes_L3_B d (fun count class' => rec (count, class')) x.1 x.2
noncomputable def r3_Classes_L3 (d : (Int × Int × (List (List Int)) × (List Int) × Unit)) (count : Int) (class' : (List Int)) : Option (List Int) := LFix (r3_Classes_L3_F d ) (count, class')
noncomputable def r3_Classes (d : (Int × Int × (List (List Int)) × (List Int) × Unit)) : Option (List Int) :=
  G (room ([] : List Int) d.2.2.2.1 8) (
  r3_Classes_L3 d (0 : Int) (([] : List Int) ++ d.2.2.2.1))
theorem r3_Classes_J21_ch (r7 : Nat → Int → Int → (List Int) → (List Int) → Option (List Int)) (r7' : Int → Int → (List Int) → (List Int) → Option (List Int)) (h_r7 : ∀ a0 a1 a2 a3, ChO (fun κ => r7 κ a0 a1 a2 a3) (r7' a0 a1 a2 a3)) (q : Int) (next' : (List Int)) (k_1 : Int) (n_1 : Int) (first_1 : (List Int)) : ChO (fun κ => r3_Classes_J21 q next' (r7 κ) k_1 n_1 first_1) (r3_Classes_J21 q next' r7' k_1 n_1 first_1) := by
  unfold r3_Classes_J21
  repeat' with_reducible first | exact ChO.const _ | exact h_r7 _ _ _ _ | apply ChO.ite | apply ChO.G | apply ChO.both | (apply ChO.bind; intro _)
theorem r3_Classes_J18_ch (r7 : Nat → Int → Int → (List Int) → (List Int) → Option (List Int)) (r7' : Int → Int → (List Int) → (List Int) → Option (List Int)) (h_r7 : ∀ a0 a1 a2 a3, ChO (fun κ => r7 κ a0 a1 a2 a3) (r7' a0 a1 a2 a3)) (n : Int) (q : Int) (next' : (List Int)) (first : (List Int)) (k_1 : Int) : ChO (fun κ => r3_Classes_J18 n q next' first (r7 κ) k_1) (r3_Classes_J18 n q next' first r7' k_1) := by
  unfold r3_Classes_J18
  repeat' with_reducible first | exact ChO.const _ | exact h_r7 _ _ _ _ | (apply r3_Classes_J21_ch <;> assumption) | apply ChO.ite | apply ChO.G | apply ChO.both | (apply ChO.bind; intro _)
theorem r3_Classes_J15_ch (r7 : Nat → Int → Int → (List Int) → (List Int) → Option (List Int)) (r7' : Int → Int → (List Int) → (List Int) → Option (List Int)) (h_r7 : ∀ a0 a1 a2 a3, ChO (fun κ => r7 κ a0 a1 a2 a3) (r7' a0 a1 a2 a3)) (r10 : Nat → Int → Option (List Int)) (r10' : Int → Option (List Int)) (h_r10 : ∀ a0, ChO (fun κ => r10 κ a0) (r10' a0)) (n : Int) (q : Int) (next' : (List Int)) (first : (List Int)) (k : Int) (same_1 : Bool) : ChO (fun κ => r3_Classes_J15 n q next' first (r7 κ) k (r10 κ) same_1) (r3_Classes_J15 n q next' first r7' k r10' same_1) := by
  unfold r3_Classes_J15
  repeat' with_reducible first | exact ChO.const _ | exact h_r7 _ _ _ _ | exact h_r10 _ | (apply r3_Classes_J21_ch <;> assumption) | (apply r3_Classes_J18_ch <;> assumption) | apply ChO.ite | apply ChO.G | apply ChO.both | (apply ChO.bind; intro _)
theorem r3_Classes_L14_B_ch (r7 : Nat → Int → Int → (List Int) → (List Int) → Option (List Int)) (r7' : Int → Int → (List Int) → (List Int) → Option (List Int)) (h_r7 : ∀ a0 a1 a2 a3, ChO (fun κ => r7 κ a0 a1 a2 a3) (r7' a0 a1 a2 a3)) (r10 : Nat → Int → Option (List Int)) (r10' : Int → Option (List Int)) (h_r10 : ∀ a0, ChO (fun κ => r10 κ a0) (r10' a0)) (r14 : Nat → Bool → Int → Option (List Int)) (r14' : Bool → Int → Option (List Int)) (h_r14 : ∀ a0 a1, ChO (fun κ => r14 κ a0 a1) (r14' a0 a1)) (d : (Int × Int × (List (List Int)) × (List Int) × Unit)) (class' : (List Int)) (n : Int) (q : Int) (next' : (List Int)) (first : (List Int)) (k : Int) (same : Bool) (a : Int) : ChO (fun κ => r3_Classes_L14_B d class' n q next' first (r7 κ) k (r10 κ) (r14 κ) same a) (r3_Classes_L14_B d class' n q next' first r7' k r10' r14' same a) := by
  unfold r3_Classes_L14_B
  repeat' with_reducible first | exact ChO.const _ | exact h_r7 _ _ _ _ | exact h_r10 _ | exact h_r14 _ _ | (apply r3_Classes_J21_ch <;> assumption) | (apply r3_Classes_J18_ch <;> assumption) | (apply r3_Classes_J15_ch <;> assumption) | apply ChO.ite | apply ChO.G | apply ChO.both | (apply ChO.bind; intro _)
theorem r3_Classes_L14_cn (r7 : Int → Int → (List Int) → (List Int) → Option (List Int)) (r10 : Int → Option (List Int)) (d : (Int × Int × (List (List Int)) × (List Int) × Unit)) (class' : (List Int)) (n : Int) (q : Int) (next' : (List Int)) (first : (List Int)) (k : Int) : Cn (r3_Classes_L14_F d class' n q next' first r7 k r10) := fun g h hg x => r3_Classes_L14_B_ch (fun _ => r7) r7 (fun _ _ _ _ => ChO.const _) (fun _ => r10) r10 (fun _ => ChO.const _) (fun κ same a => g κ (same, a)) (fun same a => h (same, a)) (fun same a => hg (same, a)) d class' n q next' first k x.1 x.2
theorem r3_Classes_L14_eq (r7 : Int → Int → (List Int) → (List Int) → Option (List Int)) (r10 : Int → Option (List Int)) (d : (Int × Int × (List (List Int)) × (List Int) × Unit)) (class' : (List Int)) (n : Int) (q : Int) (next' : (List Int)) (first : (List Int)) (k : Int) (same : Bool) (a : Int) : r3_Classes_L14 d class' n q next' first r7 k r10 same a = r3_Classes_L14_B d class' n q next' first r7 k r10 (r3_Classes_L14 d class' n q next' first r7 k r10) same a := LFix_eq (r3_Classes_L14_cn r7 r10 d class' n q next' first k) (same, a)
theorem r3_Classes_L14_ch (r7 : Nat → Int → Int → (List Int) → (List Int) → Option (List Int)) (r7' : Int → Int → (List Int) → (List Int) → Option (List Int)) (h_r7 : ∀ a0 a1 a2 a3, ChO (fun κ => r7 κ a0 a1 a2 a3) (r7' a0 a1 a2 a3)) (r10 : Nat → Int → Option (List Int)) (r10' : Int → Option (List Int)) (h_r10 : ∀ a0, ChO (fun κ => r10 κ a0) (r10' a0)) (d : (Int × Int × (List (List Int)) × (List Int) × Unit)) (class' : (List Int)) (n : Int) (q : Int) (next' : (List Int)) (first : (List Int)) (k : Int) (same : Bool) (a : Int) : ChO (fun κ => r3_Classes_L14 d class' n q next' first (r7 κ) k (r10 κ) same a) (r3_Classes_L14 d class' n q next' first r7' k r10' same a) := by
  unfold r3_Classes_L14
  exact LFix_ch (fun κ => (r3_Classes_L14_cn (r7 κ) (r10 κ) d class' n q next' first k).mono) (r3_Classes_L14_cn r7' r10' d class' n q next' first k).mono (fun g h hg x => r3_Classes_L14_B_ch r7 r7' h_r7 r10 r10' h_r10 (fun κ same a => g κ (same, a)) (fun same a => h (same, a)) (fun same a => hg (same, a)) d class' n q next' first k x.1 x.2) _
theorem r3_Classes_L10_B_ch (r7 : Nat → Int → Int → (List Int) → (List Int) → Option (List Int)) (r7' : Int → Int → (List Int) → (List Int) → Option (List Int)) (h_r7 : ∀ a0 a1 a2 a3, ChO (fun κ => r7 κ a0 a1 a2 a3) (r7' a0 a1 a2 a3)) (r10 : Nat → Int → Option (List Int)) (r10' : Int → Option (List Int)) (h_r10 : ∀ a0, ChO (fun κ => r10 κ a0) (r10' a0)) (d : (Int × Int × (List (List Int)) × (List Int) × Unit)) (class' : (List Int)) (n : Int) (q : Int) (next' : (List Int)) (first : (List Int)) (k : Int) : ChO (fun κ => r3_Classes_L10_B d class' n q next' first (r7 κ) (r10 κ) k) (r3_Classes_L10_B d class' n q next' first r7' r10' k) := by
  unfold r3_Classes_L10_B
  repeat' with_reducible first | exact ChO.const _ | exact h_r7 _ _ _ _ | exact h_r10 _ | (apply r3_Classes_J21_ch <;> assumption) | (apply r3_Classes_J18_ch <;> assumption) | (apply r3_Classes_J15_ch <;> assumption) | (apply r3_Classes_L14_ch <;> assumption) | apply ChO.ite | apply ChO.G | apply ChO.both | (apply ChO.bind; intro _)
theorem r3_Classes_L10_cn (r7 : Int → Int → (List Int) → (List Int) → Option (List Int)) (d : (Int × Int × (List (List Int)) × (List Int) × Unit)) (class' : (List Int)) (n : Int) (q : Int) (next' : (List Int)) (first : (List Int)) : Cn (r3_Classes_L10_F d class' n q next' first r7) := fun g h hg x => r3_Classes_L10_B_ch (fun _ => r7) r7 (fun _ _ _ _ => ChO.const _) (fun κ k => g κ k) (fun k => h k) (fun k => hg k) d class' n q next' first x
theorem r3_Classes_L10_eq (r7 : Int → Int → (List Int) → (List Int) → Option (List Int)) (d : (Int × Int × (List (List Int)) × (List Int) × Unit)) (class' : (List Int)) (n : Int) (q : Int) (next' : (List Int)) (first : (List Int)) (k : Int) : r3_Classes_L10 d class' n q next' first r7 k = r3_Classes_L10_B d class' n q next' first r7 (r3_Classes_L10 d class' n q next' first r7) k := LFix_eq (r3_Classes_L10_cn r7 d class' n q next' first) k
theorem r3_Classes_L10_ch (r7 : Nat → Int → Int → (List Int) → (List Int) → Option (List Int)) (r7' : Int → Int → (List Int) → (List Int) → Option (List Int)) (h_r7 : ∀ a0 a1 a2 a3, ChO (fun κ => r7 κ a0 a1 a2 a3) (r7' a0 a1 a2 a3)) (d : (Int × Int × (List (List Int)) × (List Int) × Unit)) (class' : (List Int)) (n : Int) (q : Int) (next' : (List Int)) (first : (List Int)) (k : Int) : ChO (fun κ => r3_Classes_L10 d class' n q next' first (r7 κ) k) (r3_Classes_L10 d class' n q next' first r7' k) := by
  unfold r3_Classes_L10
  exact LFix_ch (fun κ => (r3_Classes_L10_cn (r7 κ) d class' n q next' first).mono) (r3_Classes_L10_cn r7' d class' n q next' first).mono (fun g h hg x => r3_Classes_L10_B_ch r7 r7' h_r7 (fun κ k => g κ k) (fun k => h k) (fun k => hg k) d class' n q next' first x) _
theorem r3_Classes_L7_B_ch (r3 : Nat → Int → (List Int) → Option (List Int)) (r3' : Int → (List Int) → Option (List Int)) (h_r3 : ∀ a0 a1, ChO (fun κ => r3 κ a0 a1) (r3' a0 a1)) (r7 : Nat → Int → Int → (List Int) → (List Int) → Option (List Int)) (r7' : Int → Int → (List Int) → (List Int) → Option (List Int)) (h_r7 : ∀ a0 a1 a2 a3, ChO (fun κ => r7 κ a0 a1 a2 a3) (r7' a0 a1 a2 a3)) (d : (Int × Int × (List (List Int)) × (List Int) × Unit)) (count : Int) (class' : (List Int)) (n : Int) (q : Int) (next' : (List Int)) (first : (List Int)) : ChO (fun κ => r3_Classes_L7_B d count class' (r3 κ) (r7 κ) n q next' first) (r3_Classes_L7_B d count class' r3' r7' n q next' first) := by
  unfold r3_Classes_L7_B
  repeat' with_reducible first | exact ChO.const _ | exact h_r3 _ _ | exact h_r7 _ _ _ _ | (apply r3_Classes_J21_ch <;> assumption) | (apply r3_Classes_J18_ch <;> assumption) | (apply r3_Classes_J15_ch <;> assumption) | (apply r3_Classes_L14_ch <;> assumption) | (apply r3_Classes_L10_ch <;> assumption) | apply ChO.ite | apply ChO.G | apply ChO.both | (apply ChO.bind; intro _)
theorem r3_Classes_L7_cn (r3 : Int → (List Int) → Option (List Int)) (d : (Int × Int × (List (List Int)) × (List Int) × Unit)) (count : Int) (class' : (List Int)) : Cn (r3_Classes_L7_F d count class' r3) := fun g h hg x => r3_Classes_L7_B_ch (fun _ => r3) r3 (fun _ _ => ChO.const _) (fun κ n q next' first => g κ (n, q, next', first)) (fun n q next' first => h (n, q, next', first)) (fun n q next' first => hg (n, q, next', first)) d count class' x.1 x.2.1 x.2.2.1 x.2.2.2
theorem r3_Classes_L7_eq (r3 : Int → (List Int) → Option (List Int)) (d : (Int × Int × (List (List Int)) × (List Int) × Unit)) (count : Int) (class' : (List Int)) (n : Int) (q : Int) (next' : (List Int)) (first : (List Int)) : r3_Classes_L7 d count class' r3 n q next' first = r3_Classes_L7_B d count class' r3 (r3_Classes_L7 d count class' r3) n q next' first := LFix_eq (r3_Classes_L7_cn r3 d count class') (n, q, next', first)
theorem r3_Classes_L7_ch (r3 : Nat → Int → (List Int) → Option (List Int)) (r3' : Int → (List Int) → Option (List Int)) (h_r3 : ∀ a0 a1, ChO (fun κ => r3 κ a0 a1) (r3' a0 a1)) (d : (Int × Int × (List (List Int)) × (List Int) × Unit)) (count : Int) (class' : (List Int)) (n : Int) (q : Int) (next' : (List Int)) (first : (List Int)) : ChO (fun κ => r3_Classes_L7 d count class' (r3 κ) n q next' first) (r3_Classes_L7 d count class' r3' n q next' first) := by
  unfold r3_Classes_L7
  exact LFix_ch (fun κ => (r3_Classes_L7_cn (r3 κ) d count class').mono) (r3_Classes_L7_cn r3' d count class').mono (fun g h hg x => r3_Classes_L7_B_ch r3 r3' h_r3 (fun κ n q next' first => g κ (n, q, next', first)) (fun n q next' first => h (n, q, next', first)) (fun n q next' first => hg (n, q, next', first)) d count class' x.1 x.2.1 x.2.2.1 x.2.2.2) _
theorem r3_Classes_L3_B_ch (r3 : Nat → Int → (List Int) → Option (List Int)) (r3' : Int → (List Int) → Option (List Int)) (h_r3 : ∀ a0 a1, ChO (fun κ => r3 κ a0 a1) (r3' a0 a1)) (d : (Int × Int × (List (List Int)) × (List Int) × Unit)) (count : Int) (class' : (List Int)) : ChO (fun κ => r3_Classes_L3_B d (r3 κ) count class') (r3_Classes_L3_B d r3' count class') := by
  unfold r3_Classes_L3_B
  repeat' with_reducible first | exact ChO.const _ | exact h_r3 _ _ | (apply r3_Classes_J21_ch <;> assumption) | (apply r3_Classes_J18_ch <;> assumption) | (apply r3_Classes_J15_ch <;> assumption) | (apply r3_Classes_L14_ch <;> assumption) | (apply r3_Classes_L10_ch <;> assumption) | (apply r3_Classes_L7_ch <;> assumption) | apply ChO.ite | apply ChO.G | apply ChO.both | (apply ChO.bind; intro _)
theorem r3_Classes_L3_cn  (d : (Int × Int × (List (List Int)) × (List Int) × Unit)) : Cn (r3_Classes_L3_F d) := fun g h hg x => r3_Classes_L3_B_ch  (fun κ count class' => g κ (count, class')) (fun count class' => h (count, class')) (fun count class' => hg (count, class')) d x.1 x.2
theorem r3_Classes_L3_eq  (d : (Int × Int × (List (List Int)) × (List Int) × Unit)) (count : Int) (class' : (List Int)) : r3_Classes_L3 d count class' = r3_Classes_L3_B d (r3_Classes_L3 d) count class' := LFix_eq (r3_Classes_L3_cn d) (count, class')

noncomputable def r3_Least_J20 (d : (Int × Int × (List (List Int)) × (List Int) × Unit)) (y' : (List Int)) (i_1 : Int) (a : Int) (row_1 : (List Int)) (next' : (List Int)) (r15 : (Int → (List Int) → (List Int) → (List Int) → Option (Int × Int × (List (List Int)) × (List Int) × Unit))) (number_3 : (List Int)) (row_2 : (List Int)) : Option (Int × Int × (List (List Int)) × (List Int) × Unit) :=
  G (0 ≤ ix (ix d.2.2.1 (ix row_1 i_1)) a ∧ ix (ix d.2.2.1 (ix row_1 i_1)) a < (y'.length : Int)) (
  G ((ix (ix d.2.2.1 (ix row_1 i_1)) a).toNat < y'.length) (
  G (0 ≤ ix y' (ix (ix d.2.2.1 (ix row_1 i_1)) a) ∧ ix y' (ix (ix d.2.2.1 (ix row_1 i_1)) a) < (number_3.length : Int)) (
  G ((ix y' (ix (ix d.2.2.1 (ix row_1 i_1)) a)).toNat < number_3.length) (
  G (0 ≤ a ∧ a < (next'.length : Int)) (
  G ((a).toNat < next'.length) (
  G (fits (a + (1 : Int))) (
  r15 (a + (1 : Int)) number_3 row_2 (next'.set (a).toNat (ix number_3 (ix y' (ix (ix d.2.2.1 (ix row_1 i_1)) a)))))))))))
noncomputable def r3_Least_L15_B (d : (Int × Int × (List (List Int)) × (List Int) × Unit)) (y' : (List Int)) (i_1 : Int) (out : Int) (out_1 : Int) (out_2 : (List (List Int))) (out_3 : (List Int)) (r11 : (Int → (List Int) → (List Int) → Int → Int → (List (List Int)) → (List Int) → Option (Int × Int × (List (List Int)) × (List Int) × Unit))) (r15 : Int → (List Int) → (List Int) → (List Int) → Option (Int × Int × (List (List Int)) × (List Int) × Unit)) (a : Int) (number_2 : (List Int)) (row_1 : (List Int)) (next' : (List Int)) : Option (Int × Int × (List (List Int)) × (List Int) × Unit) :=
  if (decide (a < d.1)) = true then
  G (0 ≤ i_1 ∧ i_1 < (row_1.length : Int)) (
  G ((i_1).toNat < row_1.length) (
  G (0 ≤ ix row_1 i_1 ∧ ix row_1 i_1 < (d.2.2.1.length : Int)) (
  G (0 ≤ a ∧ a < ((ix d.2.2.1 (ix row_1 i_1)).length : Int)) (
  G (0 ≤ ix (ix d.2.2.1 (ix row_1 i_1)) a ∧ ix (ix d.2.2.1 (ix row_1 i_1)) a < (y'.length : Int)) (
  G ((ix (ix d.2.2.1 (ix row_1 i_1)) a).toNat < y'.length) (
  G (0 ≤ ix y' (ix (ix d.2.2.1 (ix row_1 i_1)) a) ∧ ix y' (ix (ix d.2.2.1 (ix row_1 i_1)) a) < (number_2.length : Int)) (
  G ((ix y' (ix (ix d.2.2.1 (ix row_1 i_1)) a)).toNat < number_2.length) (
  if (decide ((ix number_2 (ix y' (ix (ix d.2.2.1 (ix row_1 i_1)) a))) < (0 : Int))) = true then
  G (0 ≤ ix (ix d.2.2.1 (ix row_1 i_1)) a ∧ ix (ix d.2.2.1 (ix row_1 i_1)) a < (y'.length : Int)) (
  G ((ix (ix d.2.2.1 (ix row_1 i_1)) a).toNat < y'.length) (
  G (0 ≤ ix y' (ix (ix d.2.2.1 (ix row_1 i_1)) a) ∧ ix y' (ix (ix d.2.2.1 (ix row_1 i_1)) a) < (number_2.length : Int)) (
  G ((ix y' (ix (ix d.2.2.1 (ix row_1 i_1)) a)).toNat < number_2.length) (
  G (room row_1 ([ix (ix d.2.2.1 (ix row_1 i_1)) a]) 8) (
  r3_Least_J20 d y' i_1 a row_1 next' r15 (number_2.set (ix y' (ix (ix d.2.2.1 (ix row_1 i_1)) a)).toNat (row_1.length : Int)) (row_1 ++ ([ix (ix d.2.2.1 (ix row_1 i_1)) a]))))))) else
  r3_Least_J20 d y' i_1 a row_1 next' r15 number_2 row_1)))))))) else
  G (room out_2 ([next']) 24) (
  G (0 ≤ i_1 ∧ i_1 < (row_1.length : Int)) (
  G ((i_1).toNat < row_1.length) (
  G (0 ≤ ix row_1 i_1 ∧ ix row_1 i_1 < (d.2.2.2.1.length : Int)) (
  G (room out_3 ([ix d.2.2.2.1 (ix row_1 i_1)]) 8) (
  G (fits (i_1 + (1 : Int))) (
  r11 (i_1 + (1 : Int)) number_2 row_1 out out_1 (out_2 ++ ([next'])) (out_3 ++ ([ix d.2.2.2.1 (ix row_1 i_1)]))))))))
noncomputable def r3_Least_L15_F (d : (Int × Int × (List (List Int)) × (List Int) × Unit)) (y' : (List Int)) (i_1 : Int) (out : Int) (out_1 : Int) (out_2 : (List (List Int))) (out_3 : (List Int)) (r11 : (Int → (List Int) → (List Int) → Int → Int → (List (List Int)) → (List Int) → Option (Int × Int × (List (List Int)) × (List Int) × Unit))) : (Int × (List Int) × (List Int) × (List Int) → Option (Int × Int × (List (List Int)) × (List Int) × Unit)) → Int × (List Int) × (List Int) × (List Int) → Option (Int × Int × (List (List Int)) × (List Int) × Unit) :=
  fun rec x => r3_Least_L15_B d y' i_1 out out_1 out_2 out_3 r11 (fun a number_2 row_1 next' => rec (a, number_2, row_1, next')) x.1 x.2.1 x.2.2.1 x.2.2.2
noncomputable def r3_Least_L15 (d : (Int × Int × (List (List Int)) × (List Int) × Unit)) (y' : (List Int)) (i_1 : Int) (out : Int) (out_1 : Int) (out_2 : (List (List Int))) (out_3 : (List Int)) (r11 : (Int → (List Int) → (List Int) → Int → Int → (List (List Int)) → (List Int) → Option (Int × Int × (List (List Int)) × (List Int) × Unit))) (a : Int) (number_2 : (List Int)) (row_1 : (List Int)) (next' : (List Int)) : Option (Int × Int × (List (List Int)) × (List Int) × Unit) := LFix (r3_Least_L15_F d y' i_1 out out_1 out_2 out_3 r11 ) (a, number_2, row_1, next')
noncomputable def r3_Least_L11_B (d : (Int × Int × (List (List Int)) × (List Int) × Unit)) (y' : (List Int)) (r11 : Int → (List Int) → (List Int) → Int → Int → (List (List Int)) → (List Int) → Option (Int × Int × (List (List Int)) × (List Int) × Unit)) (i_1 : Int) (number_1 : (List Int)) (row : (List Int)) (out : Int) (out_1 : Int) (out_2 : (List (List Int))) (out_3 : (List Int)) : Option (Int × Int × (List (List Int)) × (List Int) × Unit) :=
  if (decide (i_1 < (row.length : Int))) = true then
  G (mkOK d.1 d.1 8) (
  r3_Least_L15 d y' i_1 out out_1 out_2 out_3 r11 (0 : Int) number_1 row (List.replicate (d.1).toNat (0 : Int))) else
  some (out, (out_1, (out_2, (out_3, ()))))
noncomputable def r3_Least_L11_F (d : (Int × Int × (List (List Int)) × (List Int) × Unit)) (y' : (List Int)) : (Int × (List Int) × (List Int) × Int × Int × (List (List Int)) × (List Int) → Option (Int × Int × (List (List Int)) × (List Int) × Unit)) → Int × (List Int) × (List Int) × Int × Int × (List (List Int)) × (List Int) → Option (Int × Int × (List (List Int)) × (List Int) × Unit) :=
  fun rec x => r3_Least_L11_B d y' (fun i_1 number_1 row out out_1 out_2 out_3 => rec (i_1, number_1, row, out, out_1, out_2, out_3)) x.1 x.2.1 x.2.2.1 x.2.2.2.1 x.2.2.2.2.1 x.2.2.2.2.2.1 x.2.2.2.2.2.2
noncomputable def r3_Least_L11 (d : (Int × Int × (List (List Int)) × (List Int) × Unit)) (y' : (List Int)) (i_1 : Int) (number_1 : (List Int)) (row : (List Int)) (out : Int) (out_1 : Int) (out_2 : (List (List Int))) (out_3 : (List Int)) : Option (Int × Int × (List (List Int)) × (List Int) × Unit) := LFix (r3_Least_L11_F d y' ) (i_1, number_1, row, out, out_1, out_2, out_3)
noncomputable def r3_Least_L4_B (d : (Int × Int × (List (List Int)) × (List Int) × Unit)) (y' : (List Int)) (r4 : Int → (List Int) → Option (Int × Int × (List (List Int)) × (List Int) × Unit)) (i : Int) (number : (List Int)) : Option (Int × Int × (List (List Int)) × (List Int) × Unit) :=
  if (decide (i < (number.length : Int))) = true then
  G (0 ≤ i ∧ i < (number.length : Int)) (
  G ((i).toNat < number.length) (
  G (fits (i + (1 : Int))) (
  r4 (i + (1 : Int)) (number.set (i).toNat (-1 : Int))))) else
  G (0 ≤ d.2.1 ∧ d.2.1 < (y'.length : Int)) (
  G ((d.2.1).toNat < y'.length) (
  G (0 ≤ ix y' d.2.1 ∧ ix y' d.2.1 < (number.length : Int)) (
  G ((ix y' d.2.1).toNat < number.length) (
  r3_Least_L11 d y' (0 : Int) (number.set (ix y' d.2.1).toNat (0 : Int)) ([d.2.1]) d.1 (0 : Int) ([] : List (List Int)) ([] : List Int)))))
noncomputable def r3_Least_L4_F (d : (Int × Int × (List (List Int)) × (List Int) × Unit)) (y' : (List Int)) : (Int × (List Int) → Option (Int × Int × (List (List Int)) × (List Int) × Unit)) → Int × (List Int) → Option (Int × Int × (List (List Int)) × (List Int) × Unit) :=
  fun rec x => r3_Least_L4_B d y' (fun i number => rec (i, number)) x.1 x.2
noncomputable def r3_Least_L4 (d : (Int × Int × (List (List Int)) × (List Int) × Unit)) (y' : (List Int)) (i : Int) (number : (List Int)) : Option (Int × Int × (List (List Int)) × (List Int) × Unit) := LFix (r3_Least_L4_F d y' ) (i, number)
noncomputable def r3_Least (d : (Int × Int × (List (List Int)) × (List Int) × Unit)) : Option (Int × Int × (List (List Int)) × (List Int) × Unit) :=
  (r3_Classes (d.1, (d.2.1, (d.2.2.1, (d.2.2.2.1, ()))))).bind (fun y' =>
  G (mkOK (y'.length : Int) (y'.length : Int) 8) (
  r3_Least_L4 d y' (0 : Int) (List.replicate ((y'.length : Int)).toNat (0 : Int))))
theorem r3_Least_J20_ch (r15 : Nat → Int → (List Int) → (List Int) → (List Int) → Option (Int × Int × (List (List Int)) × (List Int) × Unit)) (r15' : Int → (List Int) → (List Int) → (List Int) → Option (Int × Int × (List (List Int)) × (List Int) × Unit)) (h_r15 : ∀ a0 a1 a2 a3, ChO (fun κ => r15 κ a0 a1 a2 a3) (r15' a0 a1 a2 a3)) (d : (Int × Int × (List (List Int)) × (List Int) × Unit)) (y' : (List Int)) (i_1 : Int) (a : Int) (row_1 : (List Int)) (next' : (List Int)) (number_3 : (List Int)) (row_2 : (List Int)) : ChO (fun κ => r3_Least_J20 d y' i_1 a row_1 next' (r15 κ) number_3 row_2) (r3_Least_J20 d y' i_1 a row_1 next' r15' number_3 row_2) := by
  unfold r3_Least_J20
  repeat' with_reducible first | exact ChO.const _ | exact h_r15 _ _ _ _ | apply ChO.ite | apply ChO.G | apply ChO.both | (apply ChO.bind; intro _)
theorem r3_Least_L15_B_ch (r11 : Nat → Int → (List Int) → (List Int) → Int → Int → (List (List Int)) → (List Int) → Option (Int × Int × (List (List Int)) × (List Int) × Unit)) (r11' : Int → (List Int) → (List Int) → Int → Int → (List (List Int)) → (List Int) → Option (Int × Int × (List (List Int)) × (List Int) × Unit)) (h_r11 : ∀ a0 a1 a2 a3 a4 a5 a6, ChO (fun κ => r11 κ a0 a1 a2 a3 a4 a5 a6) (r11' a0 a1 a2 a3 a4 a5 a6)) (r15 : Nat → Int → (List Int) → (List Int) → (List Int) → Option (Int × Int × (List (List Int)) × (List Int) × Unit)) (r15' : Int → (List Int) → (List Int) → (List Int) → Option (Int × Int × (List (List Int)) × (List Int) × Unit)) (h_r15 : ∀ a0 a1 a2 a3, ChO (fun κ => r15 κ a0 a1 a2 a3) (r15' a0 a1 a2 a3)) (d : (Int × Int × (List (List Int)) × (List Int) × Unit)) (y' : (List Int)) (i_1 : Int) (out : Int) (out_1 : Int) (out_2 : (List (List Int))) (out_3 : (List Int)) (a : Int) (number_2 : (List Int)) (row_1 : (List Int)) (next' : (List Int)) : ChO (fun κ => r3_Least_L15_B d y' i_1 out out_1 out_2 out_3 (r11 κ) (r15 κ) a number_2 row_1 next') (r3_Least_L15_B d y' i_1 out out_1 out_2 out_3 r11' r15' a number_2 row_1 next') := by
  unfold r3_Least_L15_B
  repeat' with_reducible first | exact ChO.const _ | exact h_r11 _ _ _ _ _ _ _ | exact h_r15 _ _ _ _ | (apply r3_Least_J20_ch <;> assumption) | apply ChO.ite | apply ChO.G | apply ChO.both | (apply ChO.bind; intro _)
theorem r3_Least_L15_cn (r11 : Int → (List Int) → (List Int) → Int → Int → (List (List Int)) → (List Int) → Option (Int × Int × (List (List Int)) × (List Int) × Unit)) (d : (Int × Int × (List (List Int)) × (List Int) × Unit)) (y' : (List Int)) (i_1 : Int) (out : Int) (out_1 : Int) (out_2 : (List (List Int))) (out_3 : (List Int)) : Cn (r3_Least_L15_F d y' i_1 out out_1 out_2 out_3 r11) := fun g h hg x => r3_Least_L15_B_ch (fun _ => r11) r11 (fun _ _ _ _ _ _ _ => ChO.const _) (fun κ a number_2 row_1 next' => g κ (a, number_2, row_1, next')) (fun a number_2 row_1 next' => h (a, number_2, row_1, next')) (fun a number_2 row_1 next' => hg (a, number_2, row_1, next')) d y' i_1 out out_1 out_2 out_3 x.1 x.2.1 x.2.2.1 x.2.2.2
theorem r3_Least_L15_eq (r11 : Int → (List Int) → (List Int) → Int → Int → (List (List Int)) → (List Int) → Option (Int × Int × (List (List Int)) × (List Int) × Unit)) (d : (Int × Int × (List (List Int)) × (List Int) × Unit)) (y' : (List Int)) (i_1 : Int) (out : Int) (out_1 : Int) (out_2 : (List (List Int))) (out_3 : (List Int)) (a : Int) (number_2 : (List Int)) (row_1 : (List Int)) (next' : (List Int)) : r3_Least_L15 d y' i_1 out out_1 out_2 out_3 r11 a number_2 row_1 next' = r3_Least_L15_B d y' i_1 out out_1 out_2 out_3 r11 (r3_Least_L15 d y' i_1 out out_1 out_2 out_3 r11) a number_2 row_1 next' := LFix_eq (r3_Least_L15_cn r11 d y' i_1 out out_1 out_2 out_3) (a, number_2, row_1, next')
theorem r3_Least_L15_ch (r11 : Nat → Int → (List Int) → (List Int) → Int → Int → (List (List Int)) → (List Int) → Option (Int × Int × (List (List Int)) × (List Int) × Unit)) (r11' : Int → (List Int) → (List Int) → Int → Int → (List (List Int)) → (List Int) → Option (Int × Int × (List (List Int)) × (List Int) × Unit)) (h_r11 : ∀ a0 a1 a2 a3 a4 a5 a6, ChO (fun κ => r11 κ a0 a1 a2 a3 a4 a5 a6) (r11' a0 a1 a2 a3 a4 a5 a6)) (d : (Int × Int × (List (List Int)) × (List Int) × Unit)) (y' : (List Int)) (i_1 : Int) (out : Int) (out_1 : Int) (out_2 : (List (List Int))) (out_3 : (List Int)) (a : Int) (number_2 : (List Int)) (row_1 : (List Int)) (next' : (List Int)) : ChO (fun κ => r3_Least_L15 d y' i_1 out out_1 out_2 out_3 (r11 κ) a number_2 row_1 next') (r3_Least_L15 d y' i_1 out out_1 out_2 out_3 r11' a number_2 row_1 next') := by
  unfold r3_Least_L15
  exact LFix_ch (fun κ => (r3_Least_L15_cn (r11 κ) d y' i_1 out out_1 out_2 out_3).mono) (r3_Least_L15_cn r11' d y' i_1 out out_1 out_2 out_3).mono (fun g h hg x => r3_Least_L15_B_ch r11 r11' h_r11 (fun κ a number_2 row_1 next' => g κ (a, number_2, row_1, next')) (fun a number_2 row_1 next' => h (a, number_2, row_1, next')) (fun a number_2 row_1 next' => hg (a, number_2, row_1, next')) d y' i_1 out out_1 out_2 out_3 x.1 x.2.1 x.2.2.1 x.2.2.2) _
theorem r3_Least_L11_B_ch (r11 : Nat → Int → (List Int) → (List Int) → Int → Int → (List (List Int)) → (List Int) → Option (Int × Int × (List (List Int)) × (List Int) × Unit)) (r11' : Int → (List Int) → (List Int) → Int → Int → (List (List Int)) → (List Int) → Option (Int × Int × (List (List Int)) × (List Int) × Unit)) (h_r11 : ∀ a0 a1 a2 a3 a4 a5 a6, ChO (fun κ => r11 κ a0 a1 a2 a3 a4 a5 a6) (r11' a0 a1 a2 a3 a4 a5 a6)) (d : (Int × Int × (List (List Int)) × (List Int) × Unit)) (y' : (List Int)) (i_1 : Int) (number_1 : (List Int)) (row : (List Int)) (out : Int) (out_1 : Int) (out_2 : (List (List Int))) (out_3 : (List Int)) : ChO (fun κ => r3_Least_L11_B d y' (r11 κ) i_1 number_1 row out out_1 out_2 out_3) (r3_Least_L11_B d y' r11' i_1 number_1 row out out_1 out_2 out_3) := by
  unfold r3_Least_L11_B
  repeat' with_reducible first | exact ChO.const _ | exact h_r11 _ _ _ _ _ _ _ | (apply r3_Least_J20_ch <;> assumption) | (apply r3_Least_L15_ch <;> assumption) | apply ChO.ite | apply ChO.G | apply ChO.both | (apply ChO.bind; intro _)
theorem r3_Least_L11_cn  (d : (Int × Int × (List (List Int)) × (List Int) × Unit)) (y' : (List Int)) : Cn (r3_Least_L11_F d y') := fun g h hg x => r3_Least_L11_B_ch  (fun κ i_1 number_1 row out out_1 out_2 out_3 => g κ (i_1, number_1, row, out, out_1, out_2, out_3)) (fun i_1 number_1 row out out_1 out_2 out_3 => h (i_1, number_1, row, out, out_1, out_2, out_3)) (fun i_1 number_1 row out out_1 out_2 out_3 => hg (i_1, number_1, row, out, out_1, out_2, out_3)) d y' x.1 x.2.1 x.2.2.1 x.2.2.2.1 x.2.2.2.2.1 x.2.2.2.2.2.1 x.2.2.2.2.2.2
theorem r3_Least_L11_eq  (d : (Int × Int × (List (List Int)) × (List Int) × Unit)) (y' : (List Int)) (i_1 : Int) (number_1 : (List Int)) (row : (List Int)) (out : Int) (out_1 : Int) (out_2 : (List (List Int))) (out_3 : (List Int)) : r3_Least_L11 d y' i_1 number_1 row out out_1 out_2 out_3 = r3_Least_L11_B d y' (r3_Least_L11 d y') i_1 number_1 row out out_1 out_2 out_3 := LFix_eq (r3_Least_L11_cn d y') (i_1, number_1, row, out, out_1, out_2, out_3)
theorem r3_Least_L4_B_ch (r4 : Nat → Int → (List Int) → Option (Int × Int × (List (List Int)) × (List Int) × Unit)) (r4' : Int → (List Int) → Option (Int × Int × (List (List Int)) × (List Int) × Unit)) (h_r4 : ∀ a0 a1, ChO (fun κ => r4 κ a0 a1) (r4' a0 a1)) (d : (Int × Int × (List (List Int)) × (List Int) × Unit)) (y' : (List Int)) (i : Int) (number : (List Int)) : ChO (fun κ => r3_Least_L4_B d y' (r4 κ) i number) (r3_Least_L4_B d y' r4' i number) := by
  unfold r3_Least_L4_B
  repeat' with_reducible first | exact ChO.const _ | exact h_r4 _ _ | (apply r3_Least_J20_ch <;> assumption) | (apply r3_Least_L15_ch <;> assumption) | apply ChO.ite | apply ChO.G | apply ChO.both | (apply ChO.bind; intro _)
theorem r3_Least_L4_cn  (d : (Int × Int × (List (List Int)) × (List Int) × Unit)) (y' : (List Int)) : Cn (r3_Least_L4_F d y') := fun g h hg x => r3_Least_L4_B_ch  (fun κ i number => g κ (i, number)) (fun i number => h (i, number)) (fun i number => hg (i, number)) d y' x.1 x.2
theorem r3_Least_L4_eq  (d : (Int × Int × (List (List Int)) × (List Int) × Unit)) (y' : (List Int)) (i : Int) (number : (List Int)) : r3_Least_L4 d y' i number = r3_Least_L4_B d y' (r3_Least_L4 d y') i number := LFix_eq (r3_Least_L4_cn d y') (i, number)

noncomputable def law_small (d : (Int × Int × (List (List Int)) × (List Int) × Unit)) : Option ((Int × Int × (List (List Int)) × (List Int) × Unit) × Int) :=
  (r3_Check (d.1, (d.2.1, (d.2.2.1, (d.2.2.2.1, ()))))).bind (fun y' =>
  if (decide (¬ y' = (0 : Int))) = true then
  some (((0 : Int), ((0 : Int), ([], ([], ())))), y') else
  (r3_Least (d.1, (d.2.1, (d.2.2.1, (d.2.2.2.1, ()))))).bind (fun y'_1 =>
  if (decide ((5 : Int) < (y'_1.2.2.1.length : Int))) = true then
  some (((0 : Int), ((0 : Int), ([], ([], ())))), (1 : Int)) else
  some ((y'_1.1, (y'_1.2.1, (y'_1.2.2.1, (y'_1.2.2.2.1, ())))), (0 : Int))))

noncomputable def r1_May_L6_B (letters : Int) (w : (List Int)) (r6 : Int → Option (Int)) (i : Int) : Option (Int) :=
  if (decide (i < (w.length : Int))) = true then
  G (0 ≤ i ∧ i < (w.length : Int)) (
  if (decide ((ix w i) < (0 : Int))) = true then
  some (2 : Int) else
  G (0 ≤ i ∧ i < (w.length : Int)) (
  if (decide (letters ≤ (ix w i))) = true then
  some (2 : Int) else
  G (fits (i + (1 : Int))) (
  r6 (i + (1 : Int))))) else
  some (0 : Int)
noncomputable def r1_May_L6_F (letters : Int) (w : (List Int)) : (Int → Option (Int)) → Int → Option (Int) :=
  fun rec x => r1_May_L6_B letters w (fun i => rec i) x
noncomputable def r1_May_L6 (letters : Int) (w : (List Int)) (i : Int) : Option (Int) := LFix (r1_May_L6_F letters w ) i
noncomputable def r1_May (letters : Int) (w : (List Int)) : Option (Int) :=
  if (decide (letters < (1 : Int))) = true then
  some (2 : Int) else
  if (decide ((4 : Int) < letters)) = true then
  some (2 : Int) else
  if (decide ((60 : Int) < (w.length : Int))) = true then
  some (1 : Int) else
  r1_May_L6 letters w (0 : Int)
theorem r1_May_L6_B_ch (r6 : Nat → Int → Option (Int)) (r6' : Int → Option (Int)) (h_r6 : ∀ a0, ChO (fun κ => r6 κ a0) (r6' a0)) (letters : Int) (w : (List Int)) (i : Int) : ChO (fun κ => r1_May_L6_B letters w (r6 κ) i) (r1_May_L6_B letters w r6' i) := by
  unfold r1_May_L6_B
  repeat' with_reducible first | exact ChO.const _ | exact h_r6 _ | apply ChO.ite | apply ChO.G | apply ChO.both | (apply ChO.bind; intro _)
theorem r1_May_L6_cn  (letters : Int) (w : (List Int)) : Cn (r1_May_L6_F letters w) := fun g h hg x => r1_May_L6_B_ch  (fun κ i => g κ i) (fun i => h i) (fun i => hg i) letters w x
theorem r1_May_L6_eq  (letters : Int) (w : (List Int)) (i : Int) : r1_May_L6 letters w i = r1_May_L6_B letters w (r1_May_L6 letters w) i := LFix_eq (r1_May_L6_cn letters w) i

noncomputable def r3_After_L2_B (d : (Int × Int × (List (List Int)) × (List Int) × Unit)) (w : (List Int)) (r2 : Int → Int → Option (Int)) (q_1 : Int) (i : Int) : Option (Int) :=
  if (decide (i < (w.length : Int))) = true then
  G (0 ≤ q_1 ∧ q_1 < (d.2.2.1.length : Int)) (
  G (0 ≤ i ∧ i < (w.length : Int)) (
  G (0 ≤ ix w i ∧ ix w i < ((ix d.2.2.1 q_1).length : Int)) (
  G (fits (i + (1 : Int))) (
  r2 (ix (ix d.2.2.1 q_1) (ix w i)) (i + (1 : Int)))))) else
  some q_1
noncomputable def r3_After_L2_F (d : (Int × Int × (List (List Int)) × (List Int) × Unit)) (w : (List Int)) : (Int × Int → Option (Int)) → Int × Int → Option (Int) :=
  fun rec x => r3_After_L2_B d w (fun q_1 i => rec (q_1, i)) x.1 x.2
noncomputable def r3_After_L2 (d : (Int × Int × (List (List Int)) × (List Int) × Unit)) (w : (List Int)) (q_1 : Int) (i : Int) : Option (Int) := LFix (r3_After_L2_F d w ) (q_1, i)
noncomputable def r3_After (d : (Int × Int × (List (List Int)) × (List Int) × Unit)) (q : Int) (w : (List Int)) : Option (Int) :=
  r3_After_L2 d w q (0 : Int)
theorem r3_After_L2_B_ch (r2 : Nat → Int → Int → Option (Int)) (r2' : Int → Int → Option (Int)) (h_r2 : ∀ a0 a1, ChO (fun κ => r2 κ a0 a1) (r2' a0 a1)) (d : (Int × Int × (List (List Int)) × (List Int) × Unit)) (w : (List Int)) (q_1 : Int) (i : Int) : ChO (fun κ => r3_After_L2_B d w (r2 κ) q_1 i) (r3_After_L2_B d w r2' q_1 i) := by
  unfold r3_After_L2_B
  repeat' with_reducible first | exact ChO.const _ | exact h_r2 _ _ | apply ChO.ite | apply ChO.G | apply ChO.both | (apply ChO.bind; intro _)
theorem r3_After_L2_cn  (d : (Int × Int × (List (List Int)) × (List Int) × Unit)) (w : (List Int)) : Cn (r3_After_L2_F d w) := fun g h hg x => r3_After_L2_B_ch  (fun κ q_1 i => g κ (q_1, i)) (fun q_1 i => h (q_1, i)) (fun q_1 i => hg (q_1, i)) d w x.1 x.2
theorem r3_After_L2_eq  (d : (Int × Int × (List (List Int)) × (List Int) × Unit)) (w : (List Int)) (q_1 : Int) (i : Int) : r3_After_L2 d w q_1 i = r3_After_L2_B d w (r3_After_L2 d w) q_1 i := LFix_eq (r3_After_L2_cn d w) (q_1, i)

noncomputable def r4_Does_L3_B (d : (Int × Int × (List (List Int)) × (List Int) × Unit)) (w : (List Int)) (r3 : Int → (List Int) → Option (List Int)) (q : Int) (out : (List Int)) : Option (List Int) :=
  if (decide (q < (d.2.2.1.length : Int))) = true then
  (r3_After (d.1, (d.2.1, (d.2.2.1, (d.2.2.2.1, ())))) q w).bind (fun y' =>
  G (room out ([y']) 8) (
  G (fits (q + (1 : Int))) (
  r3 (q + (1 : Int)) (out ++ ([y']))))) else
  some out
noncomputable def r4_Does_L3_F (d : (Int × Int × (List (List Int)) × (List Int) × Unit)) (w : (List Int)) : (Int × (List Int) → Option (List Int)) → Int × (List Int) → Option (List Int) :=
  fun rec x => r4_Does_L3_B d w (fun q out => rec (q, out)) x.1 x.2
noncomputable def r4_Does_L3 (d : (Int × Int × (List (List Int)) × (List Int) × Unit)) (w : (List Int)) (q : Int) (out : (List Int)) : Option (List Int) := LFix (r4_Does_L3_F d w ) (q, out)
noncomputable def r4_Does (d : (Int × Int × (List (List Int)) × (List Int) × Unit)) (w : (List Int)) : Option (List Int) :=
  r4_Does_L3 d w (0 : Int) ([])
theorem r4_Does_L3_B_ch (r3 : Nat → Int → (List Int) → Option (List Int)) (r3' : Int → (List Int) → Option (List Int)) (h_r3 : ∀ a0 a1, ChO (fun κ => r3 κ a0 a1) (r3' a0 a1)) (d : (Int × Int × (List (List Int)) × (List Int) × Unit)) (w : (List Int)) (q : Int) (out : (List Int)) : ChO (fun κ => r4_Does_L3_B d w (r3 κ) q out) (r4_Does_L3_B d w r3' q out) := by
  unfold r4_Does_L3_B
  repeat' with_reducible first | exact ChO.const _ | exact h_r3 _ _ | apply ChO.ite | apply ChO.G | apply ChO.both | (apply ChO.bind; intro _)
theorem r4_Does_L3_cn  (d : (Int × Int × (List (List Int)) × (List Int) × Unit)) (w : (List Int)) : Cn (r4_Does_L3_F d w) := fun g h hg x => r4_Does_L3_B_ch  (fun κ q out => g κ (q, out)) (fun q out => h (q, out)) (fun q out => hg (q, out)) d w x.1 x.2
theorem r4_Does_L3_eq  (d : (Int × Int × (List (List Int)) × (List Int) × Unit)) (w : (List Int)) (q : Int) (out : (List Int)) : r4_Does_L3 d w q out = r4_Does_L3_B d w (r4_Does_L3 d w) q out := LFix_eq (r4_Does_L3_cn d w) (q, out)

noncomputable def r1_Words_L4_B (a : (List Int)) (b : (List Int)) (r4 : Int → Option (Bool)) (i : Int) : Option (Bool) :=
  if (decide (i < (a.length : Int))) = true then
  G (0 ≤ i ∧ i < (a.length : Int)) (
  G (0 ≤ i ∧ i < (b.length : Int)) (
  if (decide (¬ (ix a i) = (ix b i))) = true then
  some false else
  G (fits (i + (1 : Int))) (
  r4 (i + (1 : Int))))) else
  some true
noncomputable def r1_Words_L4_F (a : (List Int)) (b : (List Int)) : (Int → Option (Bool)) → Int → Option (Bool) :=
  fun rec x => r1_Words_L4_B a b (fun i => rec i) x
noncomputable def r1_Words_L4 (a : (List Int)) (b : (List Int)) (i : Int) : Option (Bool) := LFix (r1_Words_L4_F a b ) i
noncomputable def r1_Words (a : (List Int)) (b : (List Int)) : Option (Bool) :=
  if (decide (¬ (a.length : Int) = (b.length : Int))) = true then
  some false else
  r1_Words_L4 a b (0 : Int)
theorem r1_Words_L4_B_ch (r4 : Nat → Int → Option (Bool)) (r4' : Int → Option (Bool)) (h_r4 : ∀ a0, ChO (fun κ => r4 κ a0) (r4' a0)) (a : (List Int)) (b : (List Int)) (i : Int) : ChO (fun κ => r1_Words_L4_B a b (r4 κ) i) (r1_Words_L4_B a b r4' i) := by
  unfold r1_Words_L4_B
  repeat' with_reducible first | exact ChO.const _ | exact h_r4 _ | apply ChO.ite | apply ChO.G | apply ChO.both | (apply ChO.bind; intro _)
theorem r1_Words_L4_cn  (a : (List Int)) (b : (List Int)) : Cn (r1_Words_L4_F a b) := fun g h hg x => r1_Words_L4_B_ch  (fun κ i => g κ i) (fun i => h i) (fun i => hg i) a b x
theorem r1_Words_L4_eq  (a : (List Int)) (b : (List Int)) (i : Int) : r1_Words_L4 a b i = r1_Words_L4_B a b (r1_Words_L4 a b) i := LFix_eq (r1_Words_L4_cn a b) i

noncomputable def law_MonoidAlike_J24 (d : (Int × Int × (List (List Int)) × (List Int) × Unit)) (i : Int) (r19 : (Int → Option (Bool))) (k : Int) : Option (Bool) :=
  if (decide (k < (0 : Int))) = true then
  some false else
  if (decide (d.1 ≤ k)) = true then
  some false else
  G (fits (i + (1 : Int))) (
  r19 (i + (1 : Int)))
noncomputable def law_MonoidAlike_L19_B (d : (Int × Int × (List (List Int)) × (List Int) × Unit)) (u : (List Int)) (v : (List Int)) (y' : (List Int)) (y'_1 : (List Int)) (r19 : Int → Option (Bool)) (i : Int) : Option (Bool) :=
  G (fits ((y'.length : Int) + (y'_1.length : Int))) (
  if (decide (i < ((y'.length : Int) + (y'_1.length : Int)))) = true then
  if (decide (i < (y'.length : Int))) = true then
  G (0 ≤ i ∧ i < (y'.length : Int)) (
  law_MonoidAlike_J24 d i r19 (ix y' i)) else
  G (fits (i - (y'.length : Int))) (
  G (0 ≤ i - (y'.length : Int) ∧ i - (y'.length : Int) < (y'_1.length : Int)) (
  law_MonoidAlike_J24 d i r19 (ix y'_1 (i - (y'.length : Int))))) else
  (r3_After (d.1, (d.2.1, (d.2.2.1, (d.2.2.2.1, ())))) d.2.1 y').bind (fun y'_13 =>
  (r3_After (d.1, (d.2.1, (d.2.2.1, (d.2.2.2.1, ())))) y'_13 u).bind (fun y'_14 =>
  (r3_After (d.1, (d.2.1, (d.2.2.1, (d.2.2.2.1, ())))) y'_13 v).bind (fun y'_15 =>
  (r3_After (d.1, (d.2.1, (d.2.2.1, (d.2.2.2.1, ())))) y'_14 y'_1).bind (fun y'_16 =>
  (r3_After (d.1, (d.2.1, (d.2.2.1, (d.2.2.2.1, ())))) y'_15 y'_1).bind (fun y'_17 =>
  G (0 ≤ y'_16 ∧ y'_16 < (d.2.2.2.1.length : Int)) (
  G (0 ≤ y'_17 ∧ y'_17 < (d.2.2.2.1.length : Int)) (
  some (decide (¬ (ix d.2.2.2.1 y'_16) = (ix d.2.2.2.1 y'_17)))))))))))
noncomputable def law_MonoidAlike_L19_F (d : (Int × Int × (List (List Int)) × (List Int) × Unit)) (u : (List Int)) (v : (List Int)) (y' : (List Int)) (y'_1 : (List Int)) : (Int → Option (Bool)) → Int → Option (Bool) :=
  fun rec x => law_MonoidAlike_L19_B d u v y' y'_1 (fun i => rec i) x
noncomputable def law_MonoidAlike_L19 (d : (Int × Int × (List (List Int)) × (List Int) × Unit)) (u : (List Int)) (v : (List Int)) (y' : (List Int)) (y'_1 : (List Int)) (i : Int) : Option (Bool) := LFix (law_MonoidAlike_L19_F d u v y' y'_1 ) i
noncomputable def law_MonoidAlike_J6 (d : (Int × Int × (List (List Int)) × (List Int) × Unit)) (u : (List Int)) (v : (List Int)) (y' : (List Int)) (y'_1 : (List Int)) (y'_2 : Bool) (y'_3 : Int) (y'_5 : (Int × Int × (List (List Int)) × (List Int) × Unit)) (no_1 : Int) : Option (Bool) :=
  if (decide (¬ no_1 = (0 : Int))) = true then
  if (decide (y'_3 = no_1)) = true then
  if (!y'_2) = true then
  G (fits ((y'.length : Int) + (y'_1.length : Int))) (
  some (decide (((y'.length : Int) + (y'_1.length : Int)) = (0 : Int)))) else
  some false else
  some false else
  if (decide (¬ y'_3 = (0 : Int))) = true then
  some false else
  (r4_Does (y'_5.1, (y'_5.2.1, (y'_5.2.2.1, (y'_5.2.2.2.1, ())))) u).bind (fun y'_10 =>
  (r4_Does (y'_5.1, (y'_5.2.1, (y'_5.2.2.1, (y'_5.2.2.2.1, ())))) v).bind (fun y'_11 =>
  (r1_Words y'_10 y'_11).bind (fun y'_12 =>
  if y'_12 = true then
  if y'_2 = true then
  G (fits ((y'.length : Int) + (y'_1.length : Int))) (
  some (decide (((y'.length : Int) + (y'_1.length : Int)) = (0 : Int)))) else
  some false else
  if y'_2 = true then
  some false else
  law_MonoidAlike_L19 d u v y' y'_1 (0 : Int))))
noncomputable def law_MonoidAlike_J4 (d : (Int × Int × (List (List Int)) × (List Int) × Unit)) (u : (List Int)) (v : (List Int)) (y' : (List Int)) (y'_1 : (List Int)) (y'_2 : Bool) (y'_3 : Int) (y'_5 : (Int × Int × (List (List Int)) × (List Int) × Unit)) (no : Int) : Option (Bool) :=
  if (decide (no = (0 : Int))) = true then
  (r1_May d.1 v).bind (fun y'_9 =>
  law_MonoidAlike_J6 d u v y' y'_1 y'_2 y'_3 y'_5 y'_9) else
  law_MonoidAlike_J6 d u v y' y'_1 y'_2 y'_3 y'_5 no
noncomputable def law_MonoidAlike (d : (Int × Int × (List (List Int)) × (List Int) × Unit)) (u : (List Int)) (v : (List Int)) : Option (Bool) :=
  (monoid_Alike (d.1, (d.2.1, (d.2.2.1, (d.2.2.2.1, ())))) u v).bind (fun y'_19 =>
  (law_small (d.1, (d.2.1, (d.2.2.1, (d.2.2.2.1, ()))))).bind (fun y'_18 =>
  if (decide (y'_18.2 = (0 : Int))) = true then
  (r1_May d.1 u).bind (fun y'_8 =>
  law_MonoidAlike_J4 d u v y'_19.1 y'_19.2.1 y'_19.2.2.1 y'_19.2.2.2 y'_18.1 y'_8) else
  law_MonoidAlike_J4 d u v y'_19.1 y'_19.2.1 y'_19.2.2.1 y'_19.2.2.2 y'_18.1 y'_18.2))
theorem law_MonoidAlike_J24_ch (r19 : Nat → Int → Option (Bool)) (r19' : Int → Option (Bool)) (h_r19 : ∀ a0, ChO (fun κ => r19 κ a0) (r19' a0)) (d : (Int × Int × (List (List Int)) × (List Int) × Unit)) (i : Int) (k : Int) : ChO (fun κ => law_MonoidAlike_J24 d i (r19 κ) k) (law_MonoidAlike_J24 d i r19' k) := by
  unfold law_MonoidAlike_J24
  repeat' with_reducible first | exact ChO.const _ | exact h_r19 _ | apply ChO.ite | apply ChO.G | apply ChO.both | (apply ChO.bind; intro _)
theorem law_MonoidAlike_L19_B_ch (r19 : Nat → Int → Option (Bool)) (r19' : Int → Option (Bool)) (h_r19 : ∀ a0, ChO (fun κ => r19 κ a0) (r19' a0)) (d : (Int × Int × (List (List Int)) × (List Int) × Unit)) (u : (List Int)) (v : (List Int)) (y' : (List Int)) (y'_1 : (List Int)) (i : Int) : ChO (fun κ => law_MonoidAlike_L19_B d u v y' y'_1 (r19 κ) i) (law_MonoidAlike_L19_B d u v y' y'_1 r19' i) := by
  unfold law_MonoidAlike_L19_B
  repeat' with_reducible first | exact ChO.const _ | exact h_r19 _ | (apply law_MonoidAlike_J24_ch <;> assumption) | apply ChO.ite | apply ChO.G | apply ChO.both | (apply ChO.bind; intro _)
theorem law_MonoidAlike_L19_cn  (d : (Int × Int × (List (List Int)) × (List Int) × Unit)) (u : (List Int)) (v : (List Int)) (y' : (List Int)) (y'_1 : (List Int)) : Cn (law_MonoidAlike_L19_F d u v y' y'_1) := fun g h hg x => law_MonoidAlike_L19_B_ch  (fun κ i => g κ i) (fun i => h i) (fun i => hg i) d u v y' y'_1 x
theorem law_MonoidAlike_L19_eq  (d : (Int × Int × (List (List Int)) × (List Int) × Unit)) (u : (List Int)) (v : (List Int)) (y' : (List Int)) (y'_1 : (List Int)) (i : Int) : law_MonoidAlike_L19 d u v y' y'_1 i = law_MonoidAlike_L19_B d u v y' y'_1 (law_MonoidAlike_L19 d u v y' y'_1) i := LFix_eq (law_MonoidAlike_L19_cn d u v y' y'_1) i

end Go.Proofs.Ytlgimlpijfbbcaa.monoidAlikeW
