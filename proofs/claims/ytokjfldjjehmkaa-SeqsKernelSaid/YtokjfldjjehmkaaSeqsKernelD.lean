/- What the functions that 'SeqsKernel' reaches compute: plain functions. -/
import Derived.Test.YtokjfldjjehmkaaEv9n21
set_option maxHeartbeats 1000000
set_option maxRecDepth 20000
set_option linter.unusedSimpArgs false
set_option linter.unusedVariables false
namespace Go.Proofs.Ytokjfldjjehmkaa.seqsKernelW
open Go Go.Ab
noncomputable def seqs_Check_1 (w : (List Int)) (t : (Int × (List (List Int)) × (List Int) × Unit)) : Option (Bool) :=
  some (decide (¬ (w.length : Int) = t.1))

noncomputable def slices_IndexFunc_L2_B (s : (List (List Int))) (c : (Int × (List (List Int)) × (List Int) × Unit)) (r2 : Int → Option (Int)) (t : Int) : Option (Int) :=
  if (decide (t < (s.length : Int))) = true then
  G (0 ≤ t ∧ t < (s.length : Int)) (
  (seqs_Check_1 (ix s t) c).bind (fun y' =>
  if y' = true then
  some t else
  G (fits (t + (1 : Int))) (
  r2 (t + (1 : Int))))) else
  some (-1 : Int)
noncomputable def slices_IndexFunc_L2_F (s : (List (List Int))) (c : (Int × (List (List Int)) × (List Int) × Unit)) : (Int → Option (Int)) → Int → Option (Int) :=
  fun rec x => slices_IndexFunc_L2_B s c (fun t => rec t) x
noncomputable def slices_IndexFunc_L2 (s : (List (List Int))) (c : (Int × (List (List Int)) × (List Int) × Unit)) (t : Int) : Option (Int) := LFix (slices_IndexFunc_L2_F s c ) t
noncomputable def slices_IndexFunc (s : (List (List Int))) (c : (Int × (List (List Int)) × (List Int) × Unit)) : Option (Int) :=
  slices_IndexFunc_L2 s c (0 : Int)
theorem slices_IndexFunc_L2_B_ch (r2 : Nat → Int → Option (Int)) (r2' : Int → Option (Int)) (h_r2 : ∀ a0, ChO (fun κ => r2 κ a0) (r2' a0)) (s : (List (List Int))) (c : (Int × (List (List Int)) × (List Int) × Unit)) (t : Int) : ChO (fun κ => slices_IndexFunc_L2_B s c (r2 κ) t) (slices_IndexFunc_L2_B s c r2' t) := by
  unfold slices_IndexFunc_L2_B
  repeat' first | exact ChO.const _ | exact h_r2 _ | apply ChO.ite | apply ChO.G | apply ChO.both | (apply ChO.bind; intro _)
theorem slices_IndexFunc_L2_cn  (s : (List (List Int))) (c : (Int × (List (List Int)) × (List Int) × Unit)) : Cn (slices_IndexFunc_L2_F s c) := fun g h hg x => slices_IndexFunc_L2_B_ch  (fun κ t => g κ t) (fun t => h t) (fun t => hg t) s c x
theorem slices_IndexFunc_L2_eq  (s : (List (List Int))) (c : (Int × (List (List Int)) × (List Int) × Unit)) (t : Int) : slices_IndexFunc_L2 s c t = slices_IndexFunc_L2_B s c (slices_IndexFunc_L2 s c) t := LFix_eq (slices_IndexFunc_L2_cn s c) t

noncomputable def slices_ContainsFunc (s : (List (List Int))) (c : (Int × (List (List Int)) × (List Int) × Unit)) : Option (Bool) :=
  (slices_IndexFunc s c).bind (fun y' =>
  some (decide ((0 : Int) ≤ y')))

noncomputable def seqs_Check_2 (b : Int) (t : Int) : Option (Bool) :=
  if (decide (b < (0 : Int))) = true then
  some true else
  some (decide (t ≤ b))

noncomputable def slices_IndexFunc_1_L2_B (s : (List Int)) (c : Int) (r2 : Int → Option (Int)) (t : Int) : Option (Int) :=
  if (decide (t < (s.length : Int))) = true then
  G (0 ≤ t ∧ t < (s.length : Int)) (
  (seqs_Check_2 (ix s t) c).bind (fun y' =>
  if y' = true then
  some t else
  G (fits (t + (1 : Int))) (
  r2 (t + (1 : Int))))) else
  some (-1 : Int)
noncomputable def slices_IndexFunc_1_L2_F (s : (List Int)) (c : Int) : (Int → Option (Int)) → Int → Option (Int) :=
  fun rec x => slices_IndexFunc_1_L2_B s c (fun t => rec t) x
noncomputable def slices_IndexFunc_1_L2 (s : (List Int)) (c : Int) (t : Int) : Option (Int) := LFix (slices_IndexFunc_1_L2_F s c ) t
noncomputable def slices_IndexFunc_1 (s : (List Int)) (c : Int) : Option (Int) :=
  slices_IndexFunc_1_L2 s c (0 : Int)
theorem slices_IndexFunc_1_L2_B_ch (r2 : Nat → Int → Option (Int)) (r2' : Int → Option (Int)) (h_r2 : ∀ a0, ChO (fun κ => r2 κ a0) (r2' a0)) (s : (List Int)) (c : Int) (t : Int) : ChO (fun κ => slices_IndexFunc_1_L2_B s c (r2 κ) t) (slices_IndexFunc_1_L2_B s c r2' t) := by
  unfold slices_IndexFunc_1_L2_B
  repeat' first | exact ChO.const _ | exact h_r2 _ | apply ChO.ite | apply ChO.G | apply ChO.both | (apply ChO.bind; intro _)
theorem slices_IndexFunc_1_L2_cn  (s : (List Int)) (c : Int) : Cn (slices_IndexFunc_1_L2_F s c) := fun g h hg x => slices_IndexFunc_1_L2_B_ch  (fun κ t => g κ t) (fun t => h t) (fun t => hg t) s c x
theorem slices_IndexFunc_1_L2_eq  (s : (List Int)) (c : Int) (t : Int) : slices_IndexFunc_1_L2 s c t = slices_IndexFunc_1_L2_B s c (slices_IndexFunc_1_L2 s c) t := LFix_eq (slices_IndexFunc_1_L2_cn s c) t

noncomputable def slices_ContainsFunc_1 (s : (List Int)) (c : Int) : Option (Bool) :=
  (slices_IndexFunc_1 s c).bind (fun y' =>
  some (decide ((0 : Int) ≤ y')))

noncomputable def seqs_Check_L9_B (m : (Int × (List (List Int)) × (List Int) × Unit)) (r9 : Int → Option (Int)) (t : Int) : Option (Int) :=
  if (decide (t < (m.2.1.length : Int))) = true then
  G (0 ≤ t ∧ t < (m.2.1.length : Int)) (
  (slices_ContainsFunc_1 (ix m.2.1 t) (m.2.1.length : Int)).bind (fun y'_1 =>
  if y'_1 = true then
  some (2 : Int) else
  G (0 ≤ t ∧ t < (m.2.2.1.length : Int)) (
  if (decide ((ix m.2.2.1 t) < (0 : Int))) = true then
  some (2 : Int) else
  G (0 ≤ t ∧ t < (m.2.2.1.length : Int)) (
  if (decide ((9 : Int) < (ix m.2.2.1 t))) = true then
  some (2 : Int) else
  G (fits (t + (1 : Int))) (
  r9 (t + (1 : Int))))))) else
  G (0 ≤ (0 : Int) ∧ (0 : Int) < (m.2.1.length : Int)) (
  G (0 ≤ (0 : Int) ∧ (0 : Int) < ((ix m.2.1 (0 : Int)).length : Int)) (
  if (decide (¬ (ix (ix m.2.1 (0 : Int)) (0 : Int)) = (0 : Int))) = true then
  some (3 : Int) else
  some (0 : Int)))
noncomputable def seqs_Check_L9_F (m : (Int × (List (List Int)) × (List Int) × Unit)) : (Int → Option (Int)) → Int → Option (Int) :=
  fun rec x => seqs_Check_L9_B m (fun t => rec t) x
noncomputable def seqs_Check_L9 (m : (Int × (List (List Int)) × (List Int) × Unit)) (t : Int) : Option (Int) := LFix (seqs_Check_L9_F m ) t
noncomputable def seqs_Check (m : (Int × (List (List Int)) × (List Int) × Unit)) : Option (Int) :=
  if (decide (m.1 < (2 : Int))) = true then
  some (2 : Int) else
  if (decide ((4 : Int) < m.1)) = true then
  some (2 : Int) else
  if (decide ((m.2.1.length : Int) < (1 : Int))) = true then
  some (1 : Int) else
  if (decide ((4 : Int) < (m.2.1.length : Int))) = true then
  some (1 : Int) else
  if (decide (¬ (m.2.2.1.length : Int) = (m.2.1.length : Int))) = true then
  some (3 : Int) else
  (slices_ContainsFunc m.2.1 (m.1, (m.2.1, (m.2.2.1, ())))).bind (fun y' =>
  if y' = true then
  some (3 : Int) else
  seqs_Check_L9 m (0 : Int))
theorem seqs_Check_L9_B_ch (r9 : Nat → Int → Option (Int)) (r9' : Int → Option (Int)) (h_r9 : ∀ a0, ChO (fun κ => r9 κ a0) (r9' a0)) (m : (Int × (List (List Int)) × (List Int) × Unit)) (t : Int) : ChO (fun κ => seqs_Check_L9_B m (r9 κ) t) (seqs_Check_L9_B m r9' t) := by
  unfold seqs_Check_L9_B
  repeat' first | exact ChO.const _ | exact h_r9 _ | apply ChO.ite | apply ChO.G | apply ChO.both | (apply ChO.bind; intro _)
theorem seqs_Check_L9_cn  (m : (Int × (List (List Int)) × (List Int) × Unit)) : Cn (seqs_Check_L9_F m) := fun g h hg x => seqs_Check_L9_B_ch  (fun κ t => g κ t) (fun t => h t) (fun t => hg t) m x
theorem seqs_Check_L9_eq  (m : (Int × (List (List Int)) × (List Int) × Unit)) (t : Int) : seqs_Check_L9 m t = seqs_Check_L9_B m (seqs_Check_L9 m) t := LFix_eq (seqs_Check_L9_cn m) t

noncomputable def slices_Index_L2_B (s : (List Int)) (v : Int) (r2 : Int → Option (Int)) (t : Int) : Option (Int) :=
  if (decide (t < (s.length : Int))) = true then
  G (0 ≤ t ∧ t < (s.length : Int)) (
  if (decide (v = (ix s t))) = true then
  some t else
  G (fits (t + (1 : Int))) (
  r2 (t + (1 : Int)))) else
  some (-1 : Int)
noncomputable def slices_Index_L2_F (s : (List Int)) (v : Int) : (Int → Option (Int)) → Int → Option (Int) :=
  fun rec x => slices_Index_L2_B s v (fun t => rec t) x
noncomputable def slices_Index_L2 (s : (List Int)) (v : Int) (t : Int) : Option (Int) := LFix (slices_Index_L2_F s v ) t
noncomputable def slices_Index (s : (List Int)) (v : Int) : Option (Int) :=
  slices_Index_L2 s v (0 : Int)
theorem slices_Index_L2_B_ch (r2 : Nat → Int → Option (Int)) (r2' : Int → Option (Int)) (h_r2 : ∀ a0, ChO (fun κ => r2 κ a0) (r2' a0)) (s : (List Int)) (v : Int) (t : Int) : ChO (fun κ => slices_Index_L2_B s v (r2 κ) t) (slices_Index_L2_B s v r2' t) := by
  unfold slices_Index_L2_B
  repeat' first | exact ChO.const _ | exact h_r2 _ | apply ChO.ite | apply ChO.G | apply ChO.both | (apply ChO.bind; intro _)
theorem slices_Index_L2_cn  (s : (List Int)) (v : Int) : Cn (slices_Index_L2_F s v) := fun g h hg x => slices_Index_L2_B_ch  (fun κ t => g κ t) (fun t => h t) (fun t => hg t) s v x
theorem slices_Index_L2_eq  (s : (List Int)) (v : Int) (t : Int) : slices_Index_L2 s v t = slices_Index_L2_B s v (slices_Index_L2 s v) t := LFix_eq (slices_Index_L2_cn s v) t

noncomputable def slices_Contains (s : (List Int)) (v : Int) : Option (Bool) :=
  (slices_Index s v).bind (fun y' =>
  some (decide ((0 : Int) ≤ y')))

noncomputable def seqs_met_L6_B (m : (Int × (List (List Int)) × (List Int) × Unit)) (i : Int) (l : (List Int)) (r3 : (Int → (List Int) → Option (List Int))) (r6 : Int → (List Int) → Option (List Int)) (t : Int) (l_1 : (List Int)) : Option (List Int) :=
  if (decide (t < ((ix m.2.1 (ix l i)).length : Int))) = true then
  G (0 ≤ t ∧ t < ((ix m.2.1 (ix l i)).length : Int)) (
  (slices_Contains l_1 (ix (ix m.2.1 (ix l i)) t)).bind (fun y' =>
  if (!y') = true then
  G (room l_1 ([ix (ix m.2.1 (ix l i)) t]) 8) (
  G (fits (t + (1 : Int))) (
  r6 (t + (1 : Int)) (l_1 ++ ([ix (ix m.2.1 (ix l i)) t])))) else
  G (fits (t + (1 : Int))) (
  r6 (t + (1 : Int)) l_1))) else
  G (fits (i + (1 : Int))) (
  r3 (i + (1 : Int)) l_1)
noncomputable def seqs_met_L6_F (m : (Int × (List (List Int)) × (List Int) × Unit)) (i : Int) (l : (List Int)) (r3 : (Int → (List Int) → Option (List Int))) : (Int × (List Int) → Option (List Int)) → Int × (List Int) → Option (List Int) :=
  fun rec x => seqs_met_L6_B m i l r3 (fun t l_1 => rec (t, l_1)) x.1 x.2
noncomputable def seqs_met_L6 (m : (Int × (List (List Int)) × (List Int) × Unit)) (i : Int) (l : (List Int)) (r3 : (Int → (List Int) → Option (List Int))) (t : Int) (l_1 : (List Int)) : Option (List Int) := LFix (seqs_met_L6_F m i l r3 ) (t, l_1)
noncomputable def seqs_met_L3_B (m : (Int × (List (List Int)) × (List Int) × Unit)) (r3 : Int → (List Int) → Option (List Int)) (i : Int) (l : (List Int)) : Option (List Int) :=
  if (decide (i < (l.length : Int))) = true then
  G (0 ≤ i ∧ i < (l.length : Int)) (
  G ((i).toNat < l.length) (
  G (0 ≤ ix l i ∧ ix l i < (m.2.1.length : Int)) (
  seqs_met_L6 m i l r3 (0 : Int) l))) else
  some l
noncomputable def seqs_met_L3_F (m : (Int × (List (List Int)) × (List Int) × Unit)) : (Int × (List Int) → Option (List Int)) → Int × (List Int) → Option (List Int) :=
  fun rec x => seqs_met_L3_B m (fun i l => rec (i, l)) x.1 x.2
noncomputable def seqs_met_L3 (m : (Int × (List (List Int)) × (List Int) × Unit)) (i : Int) (l : (List Int)) : Option (List Int) := LFix (seqs_met_L3_F m ) (i, l)
noncomputable def seqs_met (m : (Int × (List (List Int)) × (List Int) × Unit)) : Option (List Int) :=
  seqs_met_L3 m (0 : Int) ([(0 : Int)])
theorem seqs_met_L6_B_ch (r3 : Nat → Int → (List Int) → Option (List Int)) (r3' : Int → (List Int) → Option (List Int)) (h_r3 : ∀ a0 a1, ChO (fun κ => r3 κ a0 a1) (r3' a0 a1)) (r6 : Nat → Int → (List Int) → Option (List Int)) (r6' : Int → (List Int) → Option (List Int)) (h_r6 : ∀ a0 a1, ChO (fun κ => r6 κ a0 a1) (r6' a0 a1)) (m : (Int × (List (List Int)) × (List Int) × Unit)) (i : Int) (l : (List Int)) (t : Int) (l_1 : (List Int)) : ChO (fun κ => seqs_met_L6_B m i l (r3 κ) (r6 κ) t l_1) (seqs_met_L6_B m i l r3' r6' t l_1) := by
  unfold seqs_met_L6_B
  repeat' first | exact ChO.const _ | exact h_r3 _ _ | exact h_r6 _ _ | apply ChO.ite | apply ChO.G | apply ChO.both | (apply ChO.bind; intro _)
theorem seqs_met_L6_cn (r3 : Int → (List Int) → Option (List Int)) (m : (Int × (List (List Int)) × (List Int) × Unit)) (i : Int) (l : (List Int)) : Cn (seqs_met_L6_F m i l r3) := fun g h hg x => seqs_met_L6_B_ch (fun _ => r3) r3 (fun _ _ => ChO.const _) (fun κ t l_1 => g κ (t, l_1)) (fun t l_1 => h (t, l_1)) (fun t l_1 => hg (t, l_1)) m i l x.1 x.2
theorem seqs_met_L6_eq (r3 : Int → (List Int) → Option (List Int)) (m : (Int × (List (List Int)) × (List Int) × Unit)) (i : Int) (l : (List Int)) (t : Int) (l_1 : (List Int)) : seqs_met_L6 m i l r3 t l_1 = seqs_met_L6_B m i l r3 (seqs_met_L6 m i l r3) t l_1 := LFix_eq (seqs_met_L6_cn r3 m i l) (t, l_1)
theorem seqs_met_L6_ch (r3 : Nat → Int → (List Int) → Option (List Int)) (r3' : Int → (List Int) → Option (List Int)) (h_r3 : ∀ a0 a1, ChO (fun κ => r3 κ a0 a1) (r3' a0 a1)) (m : (Int × (List (List Int)) × (List Int) × Unit)) (i : Int) (l : (List Int)) (t : Int) (l_1 : (List Int)) : ChO (fun κ => seqs_met_L6 m i l (r3 κ) t l_1) (seqs_met_L6 m i l r3' t l_1) := by
  unfold seqs_met_L6
  exact LFix_ch (fun κ => (seqs_met_L6_cn (r3 κ) m i l).mono) (seqs_met_L6_cn r3' m i l).mono (fun g h hg x => seqs_met_L6_B_ch r3 r3' h_r3 (fun κ t l_1 => g κ (t, l_1)) (fun t l_1 => h (t, l_1)) (fun t l_1 => hg (t, l_1)) m i l x.1 x.2) _
theorem seqs_met_L3_B_ch (r3 : Nat → Int → (List Int) → Option (List Int)) (r3' : Int → (List Int) → Option (List Int)) (h_r3 : ∀ a0 a1, ChO (fun κ => r3 κ a0 a1) (r3' a0 a1)) (m : (Int × (List (List Int)) × (List Int) × Unit)) (i : Int) (l : (List Int)) : ChO (fun κ => seqs_met_L3_B m (r3 κ) i l) (seqs_met_L3_B m r3' i l) := by
  unfold seqs_met_L3_B
  repeat' first | exact ChO.const _ | exact h_r3 _ _ | (apply seqs_met_L6_ch <;> assumption) | apply ChO.ite | apply ChO.G | apply ChO.both | (apply ChO.bind; intro _)
theorem seqs_met_L3_cn  (m : (Int × (List (List Int)) × (List Int) × Unit)) : Cn (seqs_met_L3_F m) := fun g h hg x => seqs_met_L3_B_ch  (fun κ i l => g κ (i, l)) (fun i l => h (i, l)) (fun i l => hg (i, l)) m x.1 x.2
theorem seqs_met_L3_eq  (m : (Int × (List (List Int)) × (List Int) × Unit)) (i : Int) (l : (List Int)) : seqs_met_L3 m i l = seqs_met_L3_B m (seqs_met_L3 m) i l := LFix_eq (seqs_met_L3_cn m) (i, l)

noncomputable def slices_Clone (s : (List Int)) : Option (List Int) :=
  if s.length = 0 then both [(.list (.int .i64))] (
  some ([])) (
  G (room ([] : List Int) s 8) (
  some (([] : List Int) ++ s))) else
  G (room ([] : List Int) s 8) (
  some (([] : List Int) ++ s))

noncomputable def det_Key_L3_B (l : (List Int)) (r3 : Int → (List Int) → Option (List UInt8)) (t : Int) (b : (List Int)) : Option (List UInt8) :=
  if (decide (t < (l.length : Int))) = true then
  G (0 ≤ t ∧ t < (l.length : Int)) (
  G (0 ≤ (8 : Int)) (
  G (room b ([IntKind.wrap .u8 (ix l t), IntKind.wrap .u8 (ishr .i64 (ix l t) (8 : Int))]) 1) (
  G (fits (t + (1 : Int))) (
  r3 (t + (1 : Int)) (b ++ ([IntKind.wrap .u8 (ix l t), IntKind.wrap .u8 (ishr .i64 (ix l t) (8 : Int))])))))) else
  some (bstr b)
noncomputable def det_Key_L3_F (l : (List Int)) : (Int × (List Int) → Option (List UInt8)) → Int × (List Int) → Option (List UInt8) :=
  fun rec x => det_Key_L3_B l (fun t b => rec (t, b)) x.1 x.2
noncomputable def det_Key_L3 (l : (List Int)) (t : Int) (b : (List Int)) : Option (List UInt8) := LFix (det_Key_L3_F l ) (t, b)
noncomputable def det_Key (l : (List Int)) : Option (List UInt8) :=
  det_Key_L3 l (0 : Int) ([])
theorem det_Key_L3_B_ch (r3 : Nat → Int → (List Int) → Option (List UInt8)) (r3' : Int → (List Int) → Option (List UInt8)) (h_r3 : ∀ a0 a1, ChO (fun κ => r3 κ a0 a1) (r3' a0 a1)) (l : (List Int)) (t : Int) (b : (List Int)) : ChO (fun κ => det_Key_L3_B l (r3 κ) t b) (det_Key_L3_B l r3' t b) := by
  unfold det_Key_L3_B
  repeat' first | exact ChO.const _ | exact h_r3 _ _ | apply ChO.ite | apply ChO.G | apply ChO.both | (apply ChO.bind; intro _)
theorem det_Key_L3_cn  (l : (List Int)) : Cn (det_Key_L3_F l) := fun g h hg x => det_Key_L3_B_ch  (fun κ t b => g κ (t, b)) (fun t b => h (t, b)) (fun t b => hg (t, b)) l x.1 x.2
theorem det_Key_L3_eq  (l : (List Int)) (t : Int) (b : (List Int)) : det_Key_L3 l t b = det_Key_L3_B l (det_Key_L3 l) t b := LFix_eq (det_Key_L3_cn l) (t, b)

noncomputable def seqs_Kernel_1_L3_B (f : (List Int)) (t : (List Int)) (r3 : Int → (List Int) → Option (List UInt8)) (t_1 : Int) (l : (List Int)) : Option (List UInt8) :=
  if (decide (t_1 < (t.length : Int))) = true then
  G (0 ≤ t_1 ∧ t_1 < (t.length : Int)) (
  G (0 ≤ ix t t_1 ∧ ix t t_1 < (f.length : Int)) (
  G (room l ([ix f (ix t t_1)]) 8) (
  G (fits (t_1 + (1 : Int))) (
  r3 (t_1 + (1 : Int)) (l ++ ([ix f (ix t t_1)])))))) else
  (det_Key l).bind (fun y' =>
  some y')
noncomputable def seqs_Kernel_1_L3_F (f : (List Int)) (t : (List Int)) : (Int × (List Int) → Option (List UInt8)) → Int × (List Int) → Option (List UInt8) :=
  fun rec x => seqs_Kernel_1_L3_B f t (fun t_1 l => rec (t_1, l)) x.1 x.2
noncomputable def seqs_Kernel_1_L3 (f : (List Int)) (t : (List Int)) (t_1 : Int) (l : (List Int)) : Option (List UInt8) := LFix (seqs_Kernel_1_L3_F f t ) (t_1, l)
noncomputable def seqs_Kernel_1 (f : (List Int)) (t : (List Int)) : Option (List UInt8) :=
  seqs_Kernel_1_L3 f t (0 : Int) ([])
theorem seqs_Kernel_1_L3_B_ch (r3 : Nat → Int → (List Int) → Option (List UInt8)) (r3' : Int → (List Int) → Option (List UInt8)) (h_r3 : ∀ a0 a1, ChO (fun κ => r3 κ a0 a1) (r3' a0 a1)) (f : (List Int)) (t : (List Int)) (t_1 : Int) (l : (List Int)) : ChO (fun κ => seqs_Kernel_1_L3_B f t (r3 κ) t_1 l) (seqs_Kernel_1_L3_B f t r3' t_1 l) := by
  unfold seqs_Kernel_1_L3_B
  repeat' first | exact ChO.const _ | exact h_r3 _ _ | apply ChO.ite | apply ChO.G | apply ChO.both | (apply ChO.bind; intro _)
theorem seqs_Kernel_1_L3_cn  (f : (List Int)) (t : (List Int)) : Cn (seqs_Kernel_1_L3_F f t) := fun g h hg x => seqs_Kernel_1_L3_B_ch  (fun κ t_1 l => g κ (t_1, l)) (fun t_1 l => h (t_1, l)) (fun t_1 l => hg (t_1, l)) f t x.1 x.2
theorem seqs_Kernel_1_L3_eq  (f : (List Int)) (t : (List Int)) (t_1 : Int) (l : (List Int)) : seqs_Kernel_1_L3 f t t_1 l = seqs_Kernel_1_L3_B f t (seqs_Kernel_1_L3 f t) t_1 l := LFix_eq (seqs_Kernel_1_L3_cn f t) (t_1, l)

noncomputable def seqs_Kernel_L17_B (m : (Int × (List (List Int)) × (List Int) × Unit)) (y'_1 : (List Int)) (t : Int) (seen_2 : (List (List UInt8))) (seen_3 : (List Int)) (l_1 : (List (List Int))) (r13 : (Int → (List (List UInt8)) → (List Int) → (List (List Int)) → Option (Int × Int))) (r17 : Int → (List Int) → Option (Int × Int)) (t_1 : Int) (next' : (List Int)) : Option (Int × Int) :=
  if (decide (t_1 < (m.2.1.length : Int))) = true then
  G (0 ≤ t_1 ∧ t_1 < (m.2.1.length : Int)) (
  G (0 ≤ (0 : Int) ∧ (0 : Int) < (l_1.length : Int)) (
  G (((0 : Int)).toNat < l_1.length) (
  G (0 ≤ t ∧ t < ((ix m.2.1 t_1).length : Int)) (
  G (0 ≤ ix (ix m.2.1 t_1) t ∧ ix (ix m.2.1 t_1) t < ((ix l_1 (0 : Int)).length : Int)) (
  G (0 ≤ t_1 ∧ t_1 < (next'.length : Int)) (
  G ((t_1).toNat < next'.length) (
  G (fits (t_1 + (1 : Int))) (
  r17 (t_1 + (1 : Int)) (next'.set (t_1).toNat (ix (ix l_1 (0 : Int)) (ix (ix m.2.1 t_1) t))))))))))) else
  (seqs_Kernel_1 next' y'_1).bind (fun y'_4 =>
  if (decide ((mget seen_2 seen_3 y'_4 (0 : Int)) = (0 : Int))) = true then
  G (room l_1 ([next']) 24) (
  G (fits (t + (1 : Int))) (
  r13 (t + (1 : Int)) (mputK seen_2 y'_4) (mputV seen_2 seen_3 y'_4 (1 : Int)) (l_1 ++ ([next'])))) else
  G (fits (t + (1 : Int))) (
  r13 (t + (1 : Int)) seen_2 seen_3 l_1))
noncomputable def seqs_Kernel_L17_F (m : (Int × (List (List Int)) × (List Int) × Unit)) (y'_1 : (List Int)) (t : Int) (seen_2 : (List (List UInt8))) (seen_3 : (List Int)) (l_1 : (List (List Int))) (r13 : (Int → (List (List UInt8)) → (List Int) → (List (List Int)) → Option (Int × Int))) : (Int × (List Int) → Option (Int × Int)) → Int × (List Int) → Option (Int × Int) :=
  fun rec x => seqs_Kernel_L17_B m y'_1 t seen_2 seen_3 l_1 r13 (fun t_1 next' => rec (t_1, next')) x.1 x.2
noncomputable def seqs_Kernel_L17 (m : (Int × (List (List Int)) × (List Int) × Unit)) (y'_1 : (List Int)) (t : Int) (seen_2 : (List (List UInt8))) (seen_3 : (List Int)) (l_1 : (List (List Int))) (r13 : (Int → (List (List UInt8)) → (List Int) → (List (List Int)) → Option (Int × Int))) (t_1 : Int) (next' : (List Int)) : Option (Int × Int) := LFix (seqs_Kernel_L17_F m y'_1 t seen_2 seen_3 l_1 r13 ) (t_1, next')
noncomputable def seqs_Kernel_L13_B (m : (Int × (List (List Int)) × (List Int) × Unit)) (y'_1 : (List Int)) (y'_2 : (List Int)) (r10 : ((List (List UInt8)) → (List Int) → (List (List Int)) → Option (Int × Int))) (r13 : Int → (List (List UInt8)) → (List Int) → (List (List Int)) → Option (Int × Int)) (t : Int) (seen_2 : (List (List UInt8))) (seen_3 : (List Int)) (l_1 : (List (List Int))) : Option (Int × Int) :=
  if (decide (t < m.1)) = true then
  G (mkOK (y'_2.length : Int) (y'_2.length : Int) 8) (
  seqs_Kernel_L17 m y'_1 t seen_2 seen_3 l_1 r13 (0 : Int) (List.replicate ((y'_2.length : Int)).toNat (0 : Int))) else
  G (0 ≤ (1 : Int) ∧ (1 : Int) ≤ (l_1.length : Int)) (
  r10 seen_2 seen_3 (l_1.drop ((1 : Int)).toNat))
noncomputable def seqs_Kernel_L13_F (m : (Int × (List (List Int)) × (List Int) × Unit)) (y'_1 : (List Int)) (y'_2 : (List Int)) (r10 : ((List (List UInt8)) → (List Int) → (List (List Int)) → Option (Int × Int))) : (Int × (List (List UInt8)) × (List Int) × (List (List Int)) → Option (Int × Int)) → Int × (List (List UInt8)) × (List Int) × (List (List Int)) → Option (Int × Int) :=
  fun rec x => seqs_Kernel_L13_B m y'_1 y'_2 r10 (fun t seen_2 seen_3 l_1 => rec (t, seen_2, seen_3, l_1)) x.1 x.2.1 x.2.2.1 x.2.2.2
noncomputable def seqs_Kernel_L13 (m : (Int × (List (List Int)) × (List Int) × Unit)) (y'_1 : (List Int)) (y'_2 : (List Int)) (r10 : ((List (List UInt8)) → (List Int) → (List (List Int)) → Option (Int × Int))) (t : Int) (seen_2 : (List (List UInt8))) (seen_3 : (List Int)) (l_1 : (List (List Int))) : Option (Int × Int) := LFix (seqs_Kernel_L13_F m y'_1 y'_2 r10 ) (t, seen_2, seen_3, l_1)
noncomputable def seqs_Kernel_L10_B (m : (Int × (List (List Int)) × (List Int) × Unit)) (y'_1 : (List Int)) (y'_2 : (List Int)) (r10 : (List (List UInt8)) → (List Int) → (List (List Int)) → Option (Int × Int)) (seen : (List (List UInt8))) (seen_1 : (List Int)) (l : (List (List Int))) : Option (Int × Int) :=
  if (decide ((0 : Int) < (l.length : Int))) = true then
  seqs_Kernel_L13 m y'_1 y'_2 r10 (0 : Int) seen seen_1 l else
  some ((seen.length : Int), (0 : Int))
noncomputable def seqs_Kernel_L10_F (m : (Int × (List (List Int)) × (List Int) × Unit)) (y'_1 : (List Int)) (y'_2 : (List Int)) : ((List (List UInt8)) × (List Int) × (List (List Int)) → Option (Int × Int)) → (List (List UInt8)) × (List Int) × (List (List Int)) → Option (Int × Int) :=
  fun rec x => seqs_Kernel_L10_B m y'_1 y'_2 (fun seen seen_1 l => rec (seen, seen_1, l)) x.1 x.2.1 x.2.2
noncomputable def seqs_Kernel_L10 (m : (Int × (List (List Int)) × (List Int) × Unit)) (y'_1 : (List Int)) (y'_2 : (List Int)) (seen : (List (List UInt8))) (seen_1 : (List Int)) (l : (List (List Int))) : Option (Int × Int) := LFix (seqs_Kernel_L10_F m y'_1 y'_2 ) (seen, seen_1, l)
noncomputable def seqs_Kernel (m : (Int × (List (List Int)) × (List Int) × Unit)) : Option (Int × Int) :=
  (seqs_Check (m.1, (m.2.1, (m.2.2.1, ())))).bind (fun y' =>
  if (decide (¬ y' = (0 : Int))) = true then
  some ((0 : Int), y') else
  (seqs_met (m.1, (m.2.1, (m.2.2.1, ())))).bind (fun y'_1 =>
  (slices_Clone m.2.2.1).bind (fun y'_2 =>
  (seqs_Kernel_1 y'_2 y'_1).bind (fun y'_3 =>
  seqs_Kernel_L10 m y'_1 y'_2 (mputK ([] : List (List UInt8)) y'_3) (mputV ([] : List (List UInt8)) ([] : List Int) y'_3 (1 : Int)) ([y'_2])))))
theorem seqs_Kernel_L17_B_ch (r13 : Nat → Int → (List (List UInt8)) → (List Int) → (List (List Int)) → Option (Int × Int)) (r13' : Int → (List (List UInt8)) → (List Int) → (List (List Int)) → Option (Int × Int)) (h_r13 : ∀ a0 a1 a2 a3, ChO (fun κ => r13 κ a0 a1 a2 a3) (r13' a0 a1 a2 a3)) (r17 : Nat → Int → (List Int) → Option (Int × Int)) (r17' : Int → (List Int) → Option (Int × Int)) (h_r17 : ∀ a0 a1, ChO (fun κ => r17 κ a0 a1) (r17' a0 a1)) (m : (Int × (List (List Int)) × (List Int) × Unit)) (y'_1 : (List Int)) (t : Int) (seen_2 : (List (List UInt8))) (seen_3 : (List Int)) (l_1 : (List (List Int))) (t_1 : Int) (next' : (List Int)) : ChO (fun κ => seqs_Kernel_L17_B m y'_1 t seen_2 seen_3 l_1 (r13 κ) (r17 κ) t_1 next') (seqs_Kernel_L17_B m y'_1 t seen_2 seen_3 l_1 r13' r17' t_1 next') := by
  unfold seqs_Kernel_L17_B
  repeat' first | exact ChO.const _ | exact h_r13 _ _ _ _ | exact h_r17 _ _ | apply ChO.ite | apply ChO.G | apply ChO.both | (apply ChO.bind; intro _)
theorem seqs_Kernel_L17_cn (r13 : Int → (List (List UInt8)) → (List Int) → (List (List Int)) → Option (Int × Int)) (m : (Int × (List (List Int)) × (List Int) × Unit)) (y'_1 : (List Int)) (t : Int) (seen_2 : (List (List UInt8))) (seen_3 : (List Int)) (l_1 : (List (List Int))) : Cn (seqs_Kernel_L17_F m y'_1 t seen_2 seen_3 l_1 r13) := fun g h hg x => seqs_Kernel_L17_B_ch (fun _ => r13) r13 (fun _ _ _ _ => ChO.const _) (fun κ t_1 next' => g κ (t_1, next')) (fun t_1 next' => h (t_1, next')) (fun t_1 next' => hg (t_1, next')) m y'_1 t seen_2 seen_3 l_1 x.1 x.2
theorem seqs_Kernel_L17_eq (r13 : Int → (List (List UInt8)) → (List Int) → (List (List Int)) → Option (Int × Int)) (m : (Int × (List (List Int)) × (List Int) × Unit)) (y'_1 : (List Int)) (t : Int) (seen_2 : (List (List UInt8))) (seen_3 : (List Int)) (l_1 : (List (List Int))) (t_1 : Int) (next' : (List Int)) : seqs_Kernel_L17 m y'_1 t seen_2 seen_3 l_1 r13 t_1 next' = seqs_Kernel_L17_B m y'_1 t seen_2 seen_3 l_1 r13 (seqs_Kernel_L17 m y'_1 t seen_2 seen_3 l_1 r13) t_1 next' := LFix_eq (seqs_Kernel_L17_cn r13 m y'_1 t seen_2 seen_3 l_1) (t_1, next')
theorem seqs_Kernel_L17_ch (r13 : Nat → Int → (List (List UInt8)) → (List Int) → (List (List Int)) → Option (Int × Int)) (r13' : Int → (List (List UInt8)) → (List Int) → (List (List Int)) → Option (Int × Int)) (h_r13 : ∀ a0 a1 a2 a3, ChO (fun κ => r13 κ a0 a1 a2 a3) (r13' a0 a1 a2 a3)) (m : (Int × (List (List Int)) × (List Int) × Unit)) (y'_1 : (List Int)) (t : Int) (seen_2 : (List (List UInt8))) (seen_3 : (List Int)) (l_1 : (List (List Int))) (t_1 : Int) (next' : (List Int)) : ChO (fun κ => seqs_Kernel_L17 m y'_1 t seen_2 seen_3 l_1 (r13 κ) t_1 next') (seqs_Kernel_L17 m y'_1 t seen_2 seen_3 l_1 r13' t_1 next') := by
  unfold seqs_Kernel_L17
  exact LFix_ch (fun κ => (seqs_Kernel_L17_cn (r13 κ) m y'_1 t seen_2 seen_3 l_1).mono) (seqs_Kernel_L17_cn r13' m y'_1 t seen_2 seen_3 l_1).mono (fun g h hg x => seqs_Kernel_L17_B_ch r13 r13' h_r13 (fun κ t_1 next' => g κ (t_1, next')) (fun t_1 next' => h (t_1, next')) (fun t_1 next' => hg (t_1, next')) m y'_1 t seen_2 seen_3 l_1 x.1 x.2) _
theorem seqs_Kernel_L13_B_ch (r10 : Nat → (List (List UInt8)) → (List Int) → (List (List Int)) → Option (Int × Int)) (r10' : (List (List UInt8)) → (List Int) → (List (List Int)) → Option (Int × Int)) (h_r10 : ∀ a0 a1 a2, ChO (fun κ => r10 κ a0 a1 a2) (r10' a0 a1 a2)) (r13 : Nat → Int → (List (List UInt8)) → (List Int) → (List (List Int)) → Option (Int × Int)) (r13' : Int → (List (List UInt8)) → (List Int) → (List (List Int)) → Option (Int × Int)) (h_r13 : ∀ a0 a1 a2 a3, ChO (fun κ => r13 κ a0 a1 a2 a3) (r13' a0 a1 a2 a3)) (m : (Int × (List (List Int)) × (List Int) × Unit)) (y'_1 : (List Int)) (y'_2 : (List Int)) (t : Int) (seen_2 : (List (List UInt8))) (seen_3 : (List Int)) (l_1 : (List (List Int))) : ChO (fun κ => seqs_Kernel_L13_B m y'_1 y'_2 (r10 κ) (r13 κ) t seen_2 seen_3 l_1) (seqs_Kernel_L13_B m y'_1 y'_2 r10' r13' t seen_2 seen_3 l_1) := by
  unfold seqs_Kernel_L13_B
  repeat' first | exact ChO.const _ | exact h_r10 _ _ _ | exact h_r13 _ _ _ _ | (apply seqs_Kernel_L17_ch <;> assumption) | apply ChO.ite | apply ChO.G | apply ChO.both | (apply ChO.bind; intro _)
theorem seqs_Kernel_L13_cn (r10 : (List (List UInt8)) → (List Int) → (List (List Int)) → Option (Int × Int)) (m : (Int × (List (List Int)) × (List Int) × Unit)) (y'_1 : (List Int)) (y'_2 : (List Int)) : Cn (seqs_Kernel_L13_F m y'_1 y'_2 r10) := fun g h hg x => seqs_Kernel_L13_B_ch (fun _ => r10) r10 (fun _ _ _ => ChO.const _) (fun κ t seen_2 seen_3 l_1 => g κ (t, seen_2, seen_3, l_1)) (fun t seen_2 seen_3 l_1 => h (t, seen_2, seen_3, l_1)) (fun t seen_2 seen_3 l_1 => hg (t, seen_2, seen_3, l_1)) m y'_1 y'_2 x.1 x.2.1 x.2.2.1 x.2.2.2
theorem seqs_Kernel_L13_eq (r10 : (List (List UInt8)) → (List Int) → (List (List Int)) → Option (Int × Int)) (m : (Int × (List (List Int)) × (List Int) × Unit)) (y'_1 : (List Int)) (y'_2 : (List Int)) (t : Int) (seen_2 : (List (List UInt8))) (seen_3 : (List Int)) (l_1 : (List (List Int))) : seqs_Kernel_L13 m y'_1 y'_2 r10 t seen_2 seen_3 l_1 = seqs_Kernel_L13_B m y'_1 y'_2 r10 (seqs_Kernel_L13 m y'_1 y'_2 r10) t seen_2 seen_3 l_1 := LFix_eq (seqs_Kernel_L13_cn r10 m y'_1 y'_2) (t, seen_2, seen_3, l_1)
theorem seqs_Kernel_L13_ch (r10 : Nat → (List (List UInt8)) → (List Int) → (List (List Int)) → Option (Int × Int)) (r10' : (List (List UInt8)) → (List Int) → (List (List Int)) → Option (Int × Int)) (h_r10 : ∀ a0 a1 a2, ChO (fun κ => r10 κ a0 a1 a2) (r10' a0 a1 a2)) (m : (Int × (List (List Int)) × (List Int) × Unit)) (y'_1 : (List Int)) (y'_2 : (List Int)) (t : Int) (seen_2 : (List (List UInt8))) (seen_3 : (List Int)) (l_1 : (List (List Int))) : ChO (fun κ => seqs_Kernel_L13 m y'_1 y'_2 (r10 κ) t seen_2 seen_3 l_1) (seqs_Kernel_L13 m y'_1 y'_2 r10' t seen_2 seen_3 l_1) := by
  unfold seqs_Kernel_L13
  exact LFix_ch (fun κ => (seqs_Kernel_L13_cn (r10 κ) m y'_1 y'_2).mono) (seqs_Kernel_L13_cn r10' m y'_1 y'_2).mono (fun g h hg x => seqs_Kernel_L13_B_ch r10 r10' h_r10 (fun κ t seen_2 seen_3 l_1 => g κ (t, seen_2, seen_3, l_1)) (fun t seen_2 seen_3 l_1 => h (t, seen_2, seen_3, l_1)) (fun t seen_2 seen_3 l_1 => hg (t, seen_2, seen_3, l_1)) m y'_1 y'_2 x.1 x.2.1 x.2.2.1 x.2.2.2) _
theorem seqs_Kernel_L10_B_ch (r10 : Nat → (List (List UInt8)) → (List Int) → (List (List Int)) → Option (Int × Int)) (r10' : (List (List UInt8)) → (List Int) → (List (List Int)) → Option (Int × Int)) (h_r10 : ∀ a0 a1 a2, ChO (fun κ => r10 κ a0 a1 a2) (r10' a0 a1 a2)) (m : (Int × (List (List Int)) × (List Int) × Unit)) (y'_1 : (List Int)) (y'_2 : (List Int)) (seen : (List (List UInt8))) (seen_1 : (List Int)) (l : (List (List Int))) : ChO (fun κ => seqs_Kernel_L10_B m y'_1 y'_2 (r10 κ) seen seen_1 l) (seqs_Kernel_L10_B m y'_1 y'_2 r10' seen seen_1 l) := by
  unfold seqs_Kernel_L10_B
  repeat' first | exact ChO.const _ | exact h_r10 _ _ _ | (apply seqs_Kernel_L17_ch <;> assumption) | (apply seqs_Kernel_L13_ch <;> assumption) | apply ChO.ite | apply ChO.G | apply ChO.both | (apply ChO.bind; intro _)
theorem seqs_Kernel_L10_cn  (m : (Int × (List (List Int)) × (List Int) × Unit)) (y'_1 : (List Int)) (y'_2 : (List Int)) : Cn (seqs_Kernel_L10_F m y'_1 y'_2) := fun g h hg x => seqs_Kernel_L10_B_ch  (fun κ seen seen_1 l => g κ (seen, seen_1, l)) (fun seen seen_1 l => h (seen, seen_1, l)) (fun seen seen_1 l => hg (seen, seen_1, l)) m y'_1 y'_2 x.1 x.2.1 x.2.2
theorem seqs_Kernel_L10_eq  (m : (Int × (List (List Int)) × (List Int) × Unit)) (y'_1 : (List Int)) (y'_2 : (List Int)) (seen : (List (List UInt8))) (seen_1 : (List Int)) (l : (List (List Int))) : seqs_Kernel_L10 m y'_1 y'_2 seen seen_1 l = seqs_Kernel_L10_B m y'_1 y'_2 (seqs_Kernel_L10 m y'_1 y'_2) seen seen_1 l := LFix_eq (seqs_Kernel_L10_cn m y'_1 y'_2) (seen, seen_1, l)

noncomputable def r23_Check_L17_B (m : (Int × (List (List Int)) × (List Int) × Unit)) (a_1 : Int) (r14 : (Int → Option (Int))) (r17 : Int → Option (Int)) (k : Int) : Option (Int) :=
  if (decide (k < m.1)) = true then
  G (0 ≤ a_1 ∧ a_1 < (m.2.1.length : Int)) (
  G (0 ≤ k ∧ k < ((ix m.2.1 a_1).length : Int)) (
  if (decide ((ix (ix m.2.1 a_1) k) < (0 : Int))) = true then
  some (2 : Int) else
  G (0 ≤ a_1 ∧ a_1 < (m.2.1.length : Int)) (
  G (0 ≤ k ∧ k < ((ix m.2.1 a_1).length : Int)) (
  if (decide ((m.2.1.length : Int) ≤ (ix (ix m.2.1 a_1) k))) = true then
  some (2 : Int) else
  G (fits (k + (1 : Int))) (
  r17 (k + (1 : Int))))))) else
  G (0 ≤ a_1 ∧ a_1 < (m.2.2.1.length : Int)) (
  if (decide ((ix m.2.2.1 a_1) < (0 : Int))) = true then
  some (2 : Int) else
  G (0 ≤ a_1 ∧ a_1 < (m.2.2.1.length : Int)) (
  if (decide ((9 : Int) < (ix m.2.2.1 a_1))) = true then
  some (2 : Int) else
  G (fits (a_1 + (1 : Int))) (
  r14 (a_1 + (1 : Int)))))
noncomputable def r23_Check_L17_F (m : (Int × (List (List Int)) × (List Int) × Unit)) (a_1 : Int) (r14 : (Int → Option (Int))) : (Int → Option (Int)) → Int → Option (Int) :=
  fun rec x => r23_Check_L17_B m a_1 r14 (fun k => rec k) x
noncomputable def r23_Check_L17 (m : (Int × (List (List Int)) × (List Int) × Unit)) (a_1 : Int) (r14 : (Int → Option (Int))) (k : Int) : Option (Int) := LFix (r23_Check_L17_F m a_1 r14 ) k
noncomputable def r23_Check_L14_B (m : (Int × (List (List Int)) × (List Int) × Unit)) (r14 : Int → Option (Int)) (a_1 : Int) : Option (Int) :=
  if (decide (a_1 < (m.2.1.length : Int))) = true then
  r23_Check_L17 m a_1 r14 (0 : Int) else
  G (0 ≤ (0 : Int) ∧ (0 : Int) < (m.2.1.length : Int)) (
  G (0 ≤ (0 : Int) ∧ (0 : Int) < ((ix m.2.1 (0 : Int)).length : Int)) (
  if (decide (¬ (ix (ix m.2.1 (0 : Int)) (0 : Int)) = (0 : Int))) = true then
  some (3 : Int) else
  some (0 : Int)))
noncomputable def r23_Check_L14_F (m : (Int × (List (List Int)) × (List Int) × Unit)) : (Int → Option (Int)) → Int → Option (Int) :=
  fun rec x => r23_Check_L14_B m (fun a_1 => rec a_1) x
noncomputable def r23_Check_L14 (m : (Int × (List (List Int)) × (List Int) × Unit)) (a_1 : Int) : Option (Int) := LFix (r23_Check_L14_F m ) a_1
noncomputable def r23_Check_L9_B (m : (Int × (List (List Int)) × (List Int) × Unit)) (r9 : Int → Option (Int)) (a : Int) : Option (Int) :=
  if (decide (a < (m.2.1.length : Int))) = true then
  G (0 ≤ a ∧ a < (m.2.1.length : Int)) (
  if (decide (¬ ((ix m.2.1 a).length : Int) = m.1)) = true then
  some (3 : Int) else
  G (fits (a + (1 : Int))) (
  r9 (a + (1 : Int)))) else
  r23_Check_L14 m (0 : Int)
noncomputable def r23_Check_L9_F (m : (Int × (List (List Int)) × (List Int) × Unit)) : (Int → Option (Int)) → Int → Option (Int) :=
  fun rec x => r23_Check_L9_B m (fun a => rec a) x
noncomputable def r23_Check_L9 (m : (Int × (List (List Int)) × (List Int) × Unit)) (a : Int) : Option (Int) := LFix (r23_Check_L9_F m ) a
noncomputable def r23_Check (m : (Int × (List (List Int)) × (List Int) × Unit)) : Option (Int) :=
  if (decide (m.1 < (2 : Int))) = true then
  some (2 : Int) else
  if (decide ((4 : Int) < m.1)) = true then
  some (2 : Int) else
  if (decide ((m.2.1.length : Int) < (1 : Int))) = true then
  some (1 : Int) else
  if (decide ((4 : Int) < (m.2.1.length : Int))) = true then
  some (1 : Int) else
  if (decide (¬ (m.2.2.1.length : Int) = (m.2.1.length : Int))) = true then
  some (3 : Int) else
  r23_Check_L9 m (0 : Int)
theorem r23_Check_L17_B_ch (r14 : Nat → Int → Option (Int)) (r14' : Int → Option (Int)) (h_r14 : ∀ a0, ChO (fun κ => r14 κ a0) (r14' a0)) (r17 : Nat → Int → Option (Int)) (r17' : Int → Option (Int)) (h_r17 : ∀ a0, ChO (fun κ => r17 κ a0) (r17' a0)) (m : (Int × (List (List Int)) × (List Int) × Unit)) (a_1 : Int) (k : Int) : ChO (fun κ => r23_Check_L17_B m a_1 (r14 κ) (r17 κ) k) (r23_Check_L17_B m a_1 r14' r17' k) := by
  unfold r23_Check_L17_B
  repeat' first | exact ChO.const _ | exact h_r14 _ | exact h_r17 _ | apply ChO.ite | apply ChO.G | apply ChO.both | (apply ChO.bind; intro _)
theorem r23_Check_L17_cn (r14 : Int → Option (Int)) (m : (Int × (List (List Int)) × (List Int) × Unit)) (a_1 : Int) : Cn (r23_Check_L17_F m a_1 r14) := fun g h hg x => r23_Check_L17_B_ch (fun _ => r14) r14 (fun _ => ChO.const _) (fun κ k => g κ k) (fun k => h k) (fun k => hg k) m a_1 x
theorem r23_Check_L17_eq (r14 : Int → Option (Int)) (m : (Int × (List (List Int)) × (List Int) × Unit)) (a_1 : Int) (k : Int) : r23_Check_L17 m a_1 r14 k = r23_Check_L17_B m a_1 r14 (r23_Check_L17 m a_1 r14) k := LFix_eq (r23_Check_L17_cn r14 m a_1) k
theorem r23_Check_L17_ch (r14 : Nat → Int → Option (Int)) (r14' : Int → Option (Int)) (h_r14 : ∀ a0, ChO (fun κ => r14 κ a0) (r14' a0)) (m : (Int × (List (List Int)) × (List Int) × Unit)) (a_1 : Int) (k : Int) : ChO (fun κ => r23_Check_L17 m a_1 (r14 κ) k) (r23_Check_L17 m a_1 r14' k) := by
  unfold r23_Check_L17
  exact LFix_ch (fun κ => (r23_Check_L17_cn (r14 κ) m a_1).mono) (r23_Check_L17_cn r14' m a_1).mono (fun g h hg x => r23_Check_L17_B_ch r14 r14' h_r14 (fun κ k => g κ k) (fun k => h k) (fun k => hg k) m a_1 x) _
theorem r23_Check_L14_B_ch (r14 : Nat → Int → Option (Int)) (r14' : Int → Option (Int)) (h_r14 : ∀ a0, ChO (fun κ => r14 κ a0) (r14' a0)) (m : (Int × (List (List Int)) × (List Int) × Unit)) (a_1 : Int) : ChO (fun κ => r23_Check_L14_B m (r14 κ) a_1) (r23_Check_L14_B m r14' a_1) := by
  unfold r23_Check_L14_B
  repeat' first | exact ChO.const _ | exact h_r14 _ | (apply r23_Check_L17_ch <;> assumption) | apply ChO.ite | apply ChO.G | apply ChO.both | (apply ChO.bind; intro _)
theorem r23_Check_L14_cn  (m : (Int × (List (List Int)) × (List Int) × Unit)) : Cn (r23_Check_L14_F m) := fun g h hg x => r23_Check_L14_B_ch  (fun κ a_1 => g κ a_1) (fun a_1 => h a_1) (fun a_1 => hg a_1) m x
theorem r23_Check_L14_eq  (m : (Int × (List (List Int)) × (List Int) × Unit)) (a_1 : Int) : r23_Check_L14 m a_1 = r23_Check_L14_B m (r23_Check_L14 m) a_1 := LFix_eq (r23_Check_L14_cn m) a_1
theorem r23_Check_L9_B_ch (r9 : Nat → Int → Option (Int)) (r9' : Int → Option (Int)) (h_r9 : ∀ a0, ChO (fun κ => r9 κ a0) (r9' a0)) (m : (Int × (List (List Int)) × (List Int) × Unit)) (a : Int) : ChO (fun κ => r23_Check_L9_B m (r9 κ) a) (r23_Check_L9_B m r9' a) := by
  unfold r23_Check_L9_B
  repeat' first | exact ChO.const _ | exact h_r9 _ | (apply r23_Check_L17_ch <;> assumption) | apply ChO.ite | apply ChO.G | apply ChO.both | (apply ChO.bind; intro _)
theorem r23_Check_L9_cn  (m : (Int × (List (List Int)) × (List Int) × Unit)) : Cn (r23_Check_L9_F m) := fun g h hg x => r23_Check_L9_B_ch  (fun κ a => g κ a) (fun a => h a) (fun a => hg a) m x
theorem r23_Check_L9_eq  (m : (Int × (List (List Int)) × (List Int) × Unit)) (a : Int) : r23_Check_L9 m a = r23_Check_L9_B m (r23_Check_L9 m) a := LFix_eq (r23_Check_L9_cn m) a

noncomputable def r23_kept_L3_B (l : (List Int)) (met : (List Bool)) (r3 : Int → (List Int) → Option (List Int)) (a : Int) (out : (List Int)) : Option (List Int) :=
  if (decide (a < (l.length : Int))) = true then
  G (0 ≤ a ∧ a < (l.length : Int)) (
  G (0 ≤ a ∧ a < (met.length : Int)) (
  if (!(ix met a)) = true then
  G (room out ([(0 : Int)]) 8) (
  G (fits (a + (1 : Int))) (
  r3 (a + (1 : Int)) (out ++ ([(0 : Int)])))) else
  G (room out ([ix l a]) 8) (
  G (fits (a + (1 : Int))) (
  r3 (a + (1 : Int)) (out ++ ([ix l a])))))) else
  some out
noncomputable def r23_kept_L3_F (l : (List Int)) (met : (List Bool)) : (Int × (List Int) → Option (List Int)) → Int × (List Int) → Option (List Int) :=
  fun rec x => r23_kept_L3_B l met (fun a out => rec (a, out)) x.1 x.2
noncomputable def r23_kept_L3 (l : (List Int)) (met : (List Bool)) (a : Int) (out : (List Int)) : Option (List Int) := LFix (r23_kept_L3_F l met ) (a, out)
noncomputable def r23_kept (l : (List Int)) (met : (List Bool)) : Option (List Int) :=
  r23_kept_L3 l met (0 : Int) ([])
theorem r23_kept_L3_B_ch (r3 : Nat → Int → (List Int) → Option (List Int)) (r3' : Int → (List Int) → Option (List Int)) (h_r3 : ∀ a0 a1, ChO (fun κ => r3 κ a0 a1) (r3' a0 a1)) (l : (List Int)) (met : (List Bool)) (a : Int) (out : (List Int)) : ChO (fun κ => r23_kept_L3_B l met (r3 κ) a out) (r23_kept_L3_B l met r3' a out) := by
  unfold r23_kept_L3_B
  repeat' first | exact ChO.const _ | exact h_r3 _ _ | apply ChO.ite | apply ChO.G | apply ChO.both | (apply ChO.bind; intro _)
theorem r23_kept_L3_cn  (l : (List Int)) (met : (List Bool)) : Cn (r23_kept_L3_F l met) := fun g h hg x => r23_kept_L3_B_ch  (fun κ a out => g κ (a, out)) (fun a out => h (a, out)) (fun a out => hg (a, out)) l met x.1 x.2
theorem r23_kept_L3_eq  (l : (List Int)) (met : (List Bool)) (a : Int) (out : (List Int)) : r23_kept_L3 l met a out = r23_kept_L3_B l met (r23_kept_L3 l met) a out := LFix_eq (r23_kept_L3_cn l met) (a, out)

noncomputable def r1_Words_L4_B (a : (List Int)) (b : (List Int)) (r4 : Int → Option (Bool)) (i : Int) : Option (Bool) :=
  if (decide (i < (a.length : Int))) = true then
  G (0 ≤ i ∧ i < (a.length : Int)) (
  G (0 ≤ i ∧ i < (b.length : Int)) (
  if (decide (¬ (ix a i) = (ix b i))) = true then
  some false else
  G (fits (i + (1 : Int))) (
  r4 (i + (1 : Int))))) else
  some true
noncomputable def r1_Words_L4_F (a : (List Int)) (b : (List Int)) : (Int → Option (Bool)) → Int → Option (Bool) :=
  fun rec x => r1_Words_L4_B a b (fun i => rec i) x
noncomputable def r1_Words_L4 (a : (List Int)) (b : (List Int)) (i : Int) : Option (Bool) := LFix (r1_Words_L4_F a b ) i
noncomputable def r1_Words (a : (List Int)) (b : (List Int)) : Option (Bool) :=
  if (decide (¬ (a.length : Int) = (b.length : Int))) = true then
  some false else
  r1_Words_L4 a b (0 : Int)
theorem r1_Words_L4_B_ch (r4 : Nat → Int → Option (Bool)) (r4' : Int → Option (Bool)) (h_r4 : ∀ a0, ChO (fun κ => r4 κ a0) (r4' a0)) (a : (List Int)) (b : (List Int)) (i : Int) : ChO (fun κ => r1_Words_L4_B a b (r4 κ) i) (r1_Words_L4_B a b r4' i) := by
  unfold r1_Words_L4_B
  repeat' first | exact ChO.const _ | exact h_r4 _ | apply ChO.ite | apply ChO.G | apply ChO.both | (apply ChO.bind; intro _)
theorem r1_Words_L4_cn  (a : (List Int)) (b : (List Int)) : Cn (r1_Words_L4_F a b) := fun g h hg x => r1_Words_L4_B_ch  (fun κ i => g κ i) (fun i => h i) (fun i => hg i) a b x
theorem r1_Words_L4_eq  (a : (List Int)) (b : (List Int)) (i : Int) : r1_Words_L4 a b i = r1_Words_L4_B a b (r1_Words_L4 a b) i := LFix_eq (r1_Words_L4_cn a b) i

noncomputable def r23_Kernel_J13 (m : (Int × (List (List Int)) × (List Int) × Unit)) (a : Int) (k : Int) (r10 : (Bool → Int → (List Bool) → Option (Int))) (met_4 : (List Bool)) (again_3 : Bool) : Option (Int) :=
  G (0 ≤ ix (ix m.2.1 a) k ∧ ix (ix m.2.1 a) k < (met_4.length : Int)) (
  G ((ix (ix m.2.1 a) k).toNat < met_4.length) (
  G (fits (k + (1 : Int))) (
  r10 again_3 (k + (1 : Int)) (met_4.set (ix (ix m.2.1 a) k).toNat true))))
noncomputable def r23_Kernel_J10_1 (m : (Int × (List (List Int)) × (List Int) × Unit)) (a : Int) (again_2 : Bool) (k : Int) (r10 : (Bool → Int → (List Bool) → Option (Int))) (t_1 : Bool) (met_4 : (List Bool)) : Option (Int) :=
  G (0 ≤ a ∧ a < (m.2.1.length : Int)) (
  G (0 ≤ k ∧ k < ((ix m.2.1 a).length : Int)) (
  if again_2 = true then
  r23_Kernel_J13 m a k r10 met_4 true else
  G (0 ≤ ix (ix m.2.1 a) k ∧ ix (ix m.2.1 a) k < (met_4.length : Int)) (
  G ((ix (ix m.2.1 a) k).toNat < met_4.length) (
  r23_Kernel_J13 m a k r10 met_4 (!(ix met_4 (ix (ix m.2.1 a) k)))))))
noncomputable def r23_Kernel_J10 (m : (Int × (List (List Int)) × (List Int) × Unit)) (a : Int) (r7 : (Bool → Int → (List Bool) → Option (Int))) (again_2 : Bool) (k : Int) (r10 : (Bool → Int → (List Bool) → Option (Int))) (t : Bool) (met_3 : (List Bool)) : Option (Int) :=
  if t = true then
  r23_Kernel_J10_1 m a again_2 k r10 t met_3 else
  G (fits (a + (1 : Int))) (
  r7 again_2 (a + (1 : Int)) met_3)
noncomputable def r23_Kernel_L10_B (m : (Int × (List (List Int)) × (List Int) × Unit)) (a : Int) (r7 : (Bool → Int → (List Bool) → Option (Int))) (r10 : Bool → Int → (List Bool) → Option (Int)) (again_2 : Bool) (k : Int) (met_2 : (List Bool)) : Option (Int) :=
  if (decide (k < m.1)) = true then
  G (0 ≤ a ∧ a < (met_2.length : Int)) (
  G ((a).toNat < met_2.length) (
  r23_Kernel_J10 m a r7 again_2 k r10 (ix met_2 a) met_2)) else
  r23_Kernel_J10 m a r7 again_2 k r10 false met_2
noncomputable def r23_Kernel_L10_F (m : (Int × (List (List Int)) × (List Int) × Unit)) (a : Int) (r7 : (Bool → Int → (List Bool) → Option (Int))) : (Bool × Int × (List Bool) → Option (Int)) → Bool × Int × (List Bool) → Option (Int) :=
  fun rec x => r23_Kernel_L10_B m a r7 (fun again_2 k met_2 => rec (again_2, k, met_2)) x.1 x.2.1 x.2.2
noncomputable def r23_Kernel_L10 (m : (Int × (List (List Int)) × (List Int) × Unit)) (a : Int) (r7 : (Bool → Int → (List Bool) → Option (Int))) (again_2 : Bool) (k : Int) (met_2 : (List Bool)) : Option (Int) := LFix (r23_Kernel_L10_F m a r7 ) (again_2, k, met_2)
noncomputable def r23_Kernel_L7_B (m : (Int × (List (List Int)) × (List Int) × Unit)) (r4 : (Bool → (List Bool) → Option (Int))) (r7 : Bool → Int → (List Bool) → Option (Int)) (again_1 : Bool) (a : Int) (met_1 : (List Bool)) : Option (Int) :=
  if (decide (a < (m.2.1.length : Int))) = true then
  r23_Kernel_L10 m a r7 again_1 (0 : Int) met_1 else
  r4 again_1 met_1
noncomputable def r23_Kernel_L7_F (m : (Int × (List (List Int)) × (List Int) × Unit)) (r4 : (Bool → (List Bool) → Option (Int))) : (Bool × Int × (List Bool) → Option (Int)) → Bool × Int × (List Bool) → Option (Int) :=
  fun rec x => r23_Kernel_L7_B m r4 (fun again_1 a met_1 => rec (again_1, a, met_1)) x.1 x.2.1 x.2.2
noncomputable def r23_Kernel_L7 (m : (Int × (List (List Int)) × (List Int) × Unit)) (r4 : (Bool → (List Bool) → Option (Int))) (again_1 : Bool) (a : Int) (met_1 : (List Bool)) : Option (Int) := LFix (r23_Kernel_L7_F m r4 ) (again_1, a, met_1)
noncomputable def r23_Kernel_J31_1 (l_1 : (List (List Int))) (y'_1 : (List Int)) (k_1 : Int) (r31 : (Bool → Int → Option (Int))) (t_3 : Bool) : Option (Int) :=
  G (0 ≤ k_1 ∧ k_1 < (l_1.length : Int)) (
  G ((k_1).toNat < l_1.length) (
  (r1_Words (ix l_1 k_1) y'_1).bind (fun y'_2 =>
  G (fits (k_1 + (1 : Int))) (
  r31 y'_2 (k_1 + (1 : Int))))))
noncomputable def r23_Kernel_J31 (d : Int) (l_1 : (List (List Int))) (r21 : (Int → (List (List Int)) → Option (Int))) (y'_1 : (List Int)) (known : Bool) (k_1 : Int) (r31 : (Bool → Int → Option (Int))) (t_2 : Bool) : Option (Int) :=
  if t_2 = true then
  r23_Kernel_J31_1 l_1 y'_1 k_1 r31 t_2 else
  if (!known) = true then
  G (room l_1 ([y'_1]) 24) (
  G (fits (d + (1 : Int))) (
  r21 (d + (1 : Int)) (l_1 ++ ([y'_1])))) else
  G (fits (d + (1 : Int))) (
  r21 (d + (1 : Int)) l_1)
noncomputable def r23_Kernel_L31_B (d : Int) (l_1 : (List (List Int))) (r21 : (Int → (List (List Int)) → Option (Int))) (y'_1 : (List Int)) (r31 : Bool → Int → Option (Int)) (known : Bool) (k_1 : Int) : Option (Int) :=
  if (decide (k_1 < (l_1.length : Int))) = true then
  r23_Kernel_J31 d l_1 r21 y'_1 known k_1 r31 (!known) else
  r23_Kernel_J31 d l_1 r21 y'_1 known k_1 r31 false
noncomputable def r23_Kernel_L31_F (d : Int) (l_1 : (List (List Int))) (r21 : (Int → (List (List Int)) → Option (Int))) (y'_1 : (List Int)) : (Bool × Int → Option (Int)) → Bool × Int → Option (Int) :=
  fun rec x => r23_Kernel_L31_B d l_1 r21 y'_1 (fun known k_1 => rec (known, k_1)) x.1 x.2
noncomputable def r23_Kernel_L31 (d : Int) (l_1 : (List (List Int))) (r21 : (Int → (List (List Int)) → Option (Int))) (y'_1 : (List Int)) (known : Bool) (k_1 : Int) : Option (Int) := LFix (r23_Kernel_L31_F d l_1 r21 y'_1 ) (known, k_1)
noncomputable def r23_Kernel_L25_B (m : (Int × (List (List Int)) × (List Int) × Unit)) (met : (List Bool)) (i : Int) (d : Int) (l_1 : (List (List Int))) (r21 : (Int → (List (List Int)) → Option (Int))) (r25 : Int → (List Int) → Option (Int)) (a_1 : Int) (next' : (List Int)) : Option (Int) :=
  if (decide (a_1 < (m.2.1.length : Int))) = true then
  G (0 ≤ i ∧ i < (l_1.length : Int)) (
  G ((i).toNat < l_1.length) (
  G (0 ≤ a_1 ∧ a_1 < (m.2.1.length : Int)) (
  G (0 ≤ d ∧ d < ((ix m.2.1 a_1).length : Int)) (
  G (0 ≤ ix (ix m.2.1 a_1) d ∧ ix (ix m.2.1 a_1) d < ((ix l_1 i).length : Int)) (
  G (room next' ([ix (ix l_1 i) (ix (ix m.2.1 a_1) d)]) 8) (
  G (fits (a_1 + (1 : Int))) (
  r25 (a_1 + (1 : Int)) (next' ++ ([ix (ix l_1 i) (ix (ix m.2.1 a_1) d)]))))))))) else
  (r23_kept next' met).bind (fun y'_1 =>
  r23_Kernel_L31 d l_1 r21 y'_1 false (0 : Int))
noncomputable def r23_Kernel_L25_F (m : (Int × (List (List Int)) × (List Int) × Unit)) (met : (List Bool)) (i : Int) (d : Int) (l_1 : (List (List Int))) (r21 : (Int → (List (List Int)) → Option (Int))) : (Int × (List Int) → Option (Int)) → Int × (List Int) → Option (Int) :=
  fun rec x => r23_Kernel_L25_B m met i d l_1 r21 (fun a_1 next' => rec (a_1, next')) x.1 x.2
noncomputable def r23_Kernel_L25 (m : (Int × (List (List Int)) × (List Int) × Unit)) (met : (List Bool)) (i : Int) (d : Int) (l_1 : (List (List Int))) (r21 : (Int → (List (List Int)) → Option (Int))) (a_1 : Int) (next' : (List Int)) : Option (Int) := LFix (r23_Kernel_L25_F m met i d l_1 r21 ) (a_1, next')
noncomputable def r23_Kernel_L21_B (m : (Int × (List (List Int)) × (List Int) × Unit)) (met : (List Bool)) (i : Int) (r18 : (Int → (List (List Int)) → Option (Int))) (r21 : Int → (List (List Int)) → Option (Int)) (d : Int) (l_1 : (List (List Int))) : Option (Int) :=
  if (decide (d < m.1)) = true then
  r23_Kernel_L25 m met i d l_1 r21 (0 : Int) ([]) else
  G (fits (i + (1 : Int))) (
  r18 (i + (1 : Int)) l_1)
noncomputable def r23_Kernel_L21_F (m : (Int × (List (List Int)) × (List Int) × Unit)) (met : (List Bool)) (i : Int) (r18 : (Int → (List (List Int)) → Option (Int))) : (Int × (List (List Int)) → Option (Int)) → Int × (List (List Int)) → Option (Int) :=
  fun rec x => r23_Kernel_L21_B m met i r18 (fun d l_1 => rec (d, l_1)) x.1 x.2
noncomputable def r23_Kernel_L21 (m : (Int × (List (List Int)) × (List Int) × Unit)) (met : (List Bool)) (i : Int) (r18 : (Int → (List (List Int)) → Option (Int))) (d : Int) (l_1 : (List (List Int))) : Option (Int) := LFix (r23_Kernel_L21_F m met i r18 ) (d, l_1)
noncomputable def r23_Kernel_L18_B (m : (Int × (List (List Int)) × (List Int) × Unit)) (met : (List Bool)) (r18 : Int → (List (List Int)) → Option (Int)) (i : Int) (l : (List (List Int))) : Option (Int) :=
  if (decide (i < (l.length : Int))) = true then
  r23_Kernel_L21 m met i r18 (0 : Int) l else
  some (l.length : Int)
noncomputable def r23_Kernel_L18_F (m : (Int × (List (List Int)) × (List Int) × Unit)) (met : (List Bool)) : (Int × (List (List Int)) → Option (Int)) → Int × (List (List Int)) → Option (Int) :=
  fun rec x => r23_Kernel_L18_B m met (fun i l => rec (i, l)) x.1 x.2
noncomputable def r23_Kernel_L18 (m : (Int × (List (List Int)) × (List Int) × Unit)) (met : (List Bool)) (i : Int) (l : (List (List Int))) : Option (Int) := LFix (r23_Kernel_L18_F m met ) (i, l)
noncomputable def r23_Kernel_L4_B (m : (Int × (List (List Int)) × (List Int) × Unit)) (r4 : Bool → (List Bool) → Option (Int)) (again : Bool) (met : (List Bool)) : Option (Int) :=
  if again = true then
  r23_Kernel_L7 m r4 false (0 : Int) met else
  (r23_kept m.2.2.1 met).bind (fun y' =>
  r23_Kernel_L18 m met (0 : Int) ([y']))
noncomputable def r23_Kernel_L4_F (m : (Int × (List (List Int)) × (List Int) × Unit)) : (Bool × (List Bool) → Option (Int)) → Bool × (List Bool) → Option (Int) :=
  fun rec x => r23_Kernel_L4_B m (fun again met => rec (again, met)) x.1 x.2
noncomputable def r23_Kernel_L4 (m : (Int × (List (List Int)) × (List Int) × Unit)) (again : Bool) (met : (List Bool)) : Option (Int) := LFix (r23_Kernel_L4_F m ) (again, met)
noncomputable def r23_Kernel (m : (Int × (List (List Int)) × (List Int) × Unit)) : Option (Int) :=
  G (mkOK (m.2.1.length : Int) (m.2.1.length : Int) 1) (
  G (0 ≤ (0 : Int) ∧ (0 : Int) < ((List.replicate ((m.2.1.length : Int)).toNat (false : Bool)).length : Int)) (
  G (((0 : Int)).toNat < (List.replicate ((m.2.1.length : Int)).toNat (false : Bool)).length) (
  r23_Kernel_L4 m true ((List.replicate ((m.2.1.length : Int)).toNat (false : Bool)).set ((0 : Int)).toNat true))))
theorem r23_Kernel_J13_ch (r10 : Nat → Bool → Int → (List Bool) → Option (Int)) (r10' : Bool → Int → (List Bool) → Option (Int)) (h_r10 : ∀ a0 a1 a2, ChO (fun κ => r10 κ a0 a1 a2) (r10' a0 a1 a2)) (m : (Int × (List (List Int)) × (List Int) × Unit)) (a : Int) (k : Int) (met_4 : (List Bool)) (again_3 : Bool) : ChO (fun κ => r23_Kernel_J13 m a k (r10 κ) met_4 again_3) (r23_Kernel_J13 m a k r10' met_4 again_3) := by
  unfold r23_Kernel_J13
  repeat' first | exact ChO.const _ | exact h_r10 _ _ _ | apply ChO.ite | apply ChO.G | apply ChO.both | (apply ChO.bind; intro _)
theorem r23_Kernel_J10_1_ch (r10 : Nat → Bool → Int → (List Bool) → Option (Int)) (r10' : Bool → Int → (List Bool) → Option (Int)) (h_r10 : ∀ a0 a1 a2, ChO (fun κ => r10 κ a0 a1 a2) (r10' a0 a1 a2)) (m : (Int × (List (List Int)) × (List Int) × Unit)) (a : Int) (again_2 : Bool) (k : Int) (t_1 : Bool) (met_4 : (List Bool)) : ChO (fun κ => r23_Kernel_J10_1 m a again_2 k (r10 κ) t_1 met_4) (r23_Kernel_J10_1 m a again_2 k r10' t_1 met_4) := by
  unfold r23_Kernel_J10_1
  repeat' first | exact ChO.const _ | exact h_r10 _ _ _ | (apply r23_Kernel_J13_ch <;> assumption) | apply ChO.ite | apply ChO.G | apply ChO.both | (apply ChO.bind; intro _)
theorem r23_Kernel_J10_ch (r7 : Nat → Bool → Int → (List Bool) → Option (Int)) (r7' : Bool → Int → (List Bool) → Option (Int)) (h_r7 : ∀ a0 a1 a2, ChO (fun κ => r7 κ a0 a1 a2) (r7' a0 a1 a2)) (r10 : Nat → Bool → Int → (List Bool) → Option (Int)) (r10' : Bool → Int → (List Bool) → Option (Int)) (h_r10 : ∀ a0 a1 a2, ChO (fun κ => r10 κ a0 a1 a2) (r10' a0 a1 a2)) (m : (Int × (List (List Int)) × (List Int) × Unit)) (a : Int) (again_2 : Bool) (k : Int) (t : Bool) (met_3 : (List Bool)) : ChO (fun κ => r23_Kernel_J10 m a (r7 κ) again_2 k (r10 κ) t met_3) (r23_Kernel_J10 m a r7' again_2 k r10' t met_3) := by
  unfold r23_Kernel_J10
  repeat' first | exact ChO.const _ | exact h_r7 _ _ _ | exact h_r10 _ _ _ | (apply r23_Kernel_J13_ch <;> assumption) | (apply r23_Kernel_J10_1_ch <;> assumption) | apply ChO.ite | apply ChO.G | apply ChO.both | (apply ChO.bind; intro _)
theorem r23_Kernel_L10_B_ch (r7 : Nat → Bool → Int → (List Bool) → Option (Int)) (r7' : Bool → Int → (List Bool) → Option (Int)) (h_r7 : ∀ a0 a1 a2, ChO (fun κ => r7 κ a0 a1 a2) (r7' a0 a1 a2)) (r10 : Nat → Bool → Int → (List Bool) → Option (Int)) (r10' : Bool → Int → (List Bool) → Option (Int)) (h_r10 : ∀ a0 a1 a2, ChO (fun κ => r10 κ a0 a1 a2) (r10' a0 a1 a2)) (m : (Int × (List (List Int)) × (List Int) × Unit)) (a : Int) (again_2 : Bool) (k : Int) (met_2 : (List Bool)) : ChO (fun κ => r23_Kernel_L10_B m a (r7 κ) (r10 κ) again_2 k met_2) (r23_Kernel_L10_B m a r7' r10' again_2 k met_2) := by
  unfold r23_Kernel_L10_B
  repeat' first | exact ChO.const _ | exact h_r7 _ _ _ | exact h_r10 _ _ _ | (apply r23_Kernel_J13_ch <;> assumption) | (apply r23_Kernel_J10_1_ch <;> assumption) | (apply r23_Kernel_J10_ch <;> assumption) | apply ChO.ite | apply ChO.G | apply ChO.both | (apply ChO.bind; intro _)
theorem r23_Kernel_L10_cn (r7 : Bool → Int → (List Bool) → Option (Int)) (m : (Int × (List (List Int)) × (List Int) × Unit)) (a : Int) : Cn (r23_Kernel_L10_F m a r7) := fun g h hg x => r23_Kernel_L10_B_ch (fun _ => r7) r7 (fun _ _ _ => ChO.const _) (fun κ again_2 k met_2 => g κ (again_2, k, met_2)) (fun again_2 k met_2 => h (again_2, k, met_2)) (fun again_2 k met_2 => hg (again_2, k, met_2)) m a x.1 x.2.1 x.2.2
theorem r23_Kernel_L10_eq (r7 : Bool → Int → (List Bool) → Option (Int)) (m : (Int × (List (List Int)) × (List Int) × Unit)) (a : Int) (again_2 : Bool) (k : Int) (met_2 : (List Bool)) : r23_Kernel_L10 m a r7 again_2 k met_2 = r23_Kernel_L10_B m a r7 (r23_Kernel_L10 m a r7) again_2 k met_2 := LFix_eq (r23_Kernel_L10_cn r7 m a) (again_2, k, met_2)
theorem r23_Kernel_L10_ch (r7 : Nat → Bool → Int → (List Bool) → Option (Int)) (r7' : Bool → Int → (List Bool) → Option (Int)) (h_r7 : ∀ a0 a1 a2, ChO (fun κ => r7 κ a0 a1 a2) (r7' a0 a1 a2)) (m : (Int × (List (List Int)) × (List Int) × Unit)) (a : Int) (again_2 : Bool) (k : Int) (met_2 : (List Bool)) : ChO (fun κ => r23_Kernel_L10 m a (r7 κ) again_2 k met_2) (r23_Kernel_L10 m a r7' again_2 k met_2) := by
  unfold r23_Kernel_L10
  exact LFix_ch (fun κ => (r23_Kernel_L10_cn (r7 κ) m a).mono) (r23_Kernel_L10_cn r7' m a).mono (fun g h hg x => r23_Kernel_L10_B_ch r7 r7' h_r7 (fun κ again_2 k met_2 => g κ (again_2, k, met_2)) (fun again_2 k met_2 => h (again_2, k, met_2)) (fun again_2 k met_2 => hg (again_2, k, met_2)) m a x.1 x.2.1 x.2.2) _
theorem r23_Kernel_L7_B_ch (r4 : Nat → Bool → (List Bool) → Option (Int)) (r4' : Bool → (List Bool) → Option (Int)) (h_r4 : ∀ a0 a1, ChO (fun κ => r4 κ a0 a1) (r4' a0 a1)) (r7 : Nat → Bool → Int → (List Bool) → Option (Int)) (r7' : Bool → Int → (List Bool) → Option (Int)) (h_r7 : ∀ a0 a1 a2, ChO (fun κ => r7 κ a0 a1 a2) (r7' a0 a1 a2)) (m : (Int × (List (List Int)) × (List Int) × Unit)) (again_1 : Bool) (a : Int) (met_1 : (List Bool)) : ChO (fun κ => r23_Kernel_L7_B m (r4 κ) (r7 κ) again_1 a met_1) (r23_Kernel_L7_B m r4' r7' again_1 a met_1) := by
  unfold r23_Kernel_L7_B
  repeat' first | exact ChO.const _ | exact h_r4 _ _ | exact h_r7 _ _ _ | (apply r23_Kernel_J13_ch <;> assumption) | (apply r23_Kernel_J10_1_ch <;> assumption) | (apply r23_Kernel_J10_ch <;> assumption) | (apply r23_Kernel_L10_ch <;> assumption) | apply ChO.ite | apply ChO.G | apply ChO.both | (apply ChO.bind; intro _)
theorem r23_Kernel_L7_cn (r4 : Bool → (List Bool) → Option (Int)) (m : (Int × (List (List Int)) × (List Int) × Unit)) : Cn (r23_Kernel_L7_F m r4) := fun g h hg x => r23_Kernel_L7_B_ch (fun _ => r4) r4 (fun _ _ => ChO.const _) (fun κ again_1 a met_1 => g κ (again_1, a, met_1)) (fun again_1 a met_1 => h (again_1, a, met_1)) (fun again_1 a met_1 => hg (again_1, a, met_1)) m x.1 x.2.1 x.2.2
theorem r23_Kernel_L7_eq (r4 : Bool → (List Bool) → Option (Int)) (m : (Int × (List (List Int)) × (List Int) × Unit)) (again_1 : Bool) (a : Int) (met_1 : (List Bool)) : r23_Kernel_L7 m r4 again_1 a met_1 = r23_Kernel_L7_B m r4 (r23_Kernel_L7 m r4) again_1 a met_1 := LFix_eq (r23_Kernel_L7_cn r4 m) (again_1, a, met_1)
theorem r23_Kernel_L7_ch (r4 : Nat → Bool → (List Bool) → Option (Int)) (r4' : Bool → (List Bool) → Option (Int)) (h_r4 : ∀ a0 a1, ChO (fun κ => r4 κ a0 a1) (r4' a0 a1)) (m : (Int × (List (List Int)) × (List Int) × Unit)) (again_1 : Bool) (a : Int) (met_1 : (List Bool)) : ChO (fun κ => r23_Kernel_L7 m (r4 κ) again_1 a met_1) (r23_Kernel_L7 m r4' again_1 a met_1) := by
  unfold r23_Kernel_L7
  exact LFix_ch (fun κ => (r23_Kernel_L7_cn (r4 κ) m).mono) (r23_Kernel_L7_cn r4' m).mono (fun g h hg x => r23_Kernel_L7_B_ch r4 r4' h_r4 (fun κ again_1 a met_1 => g κ (again_1, a, met_1)) (fun again_1 a met_1 => h (again_1, a, met_1)) (fun again_1 a met_1 => hg (again_1, a, met_1)) m x.1 x.2.1 x.2.2) _
theorem r23_Kernel_J31_1_ch (r31 : Nat → Bool → Int → Option (Int)) (r31' : Bool → Int → Option (Int)) (h_r31 : ∀ a0 a1, ChO (fun κ => r31 κ a0 a1) (r31' a0 a1)) (l_1 : (List (List Int))) (y'_1 : (List Int)) (k_1 : Int) (t_3 : Bool) : ChO (fun κ => r23_Kernel_J31_1 l_1 y'_1 k_1 (r31 κ) t_3) (r23_Kernel_J31_1 l_1 y'_1 k_1 r31' t_3) := by
  unfold r23_Kernel_J31_1
  repeat' first | exact ChO.const _ | exact h_r31 _ _ | (apply r23_Kernel_J13_ch <;> assumption) | (apply r23_Kernel_J10_1_ch <;> assumption) | (apply r23_Kernel_J10_ch <;> assumption) | (apply r23_Kernel_L10_ch <;> assumption) | (apply r23_Kernel_L7_ch <;> assumption) | apply ChO.ite | apply ChO.G | apply ChO.both | (apply ChO.bind; intro _)
theorem r23_Kernel_J31_ch (r21 : Nat → Int → (List (List Int)) → Option (Int)) (r21' : Int → (List (List Int)) → Option (Int)) (h_r21 : ∀ a0 a1, ChO (fun κ => r21 κ a0 a1) (r21' a0 a1)) (r31 : Nat → Bool → Int → Option (Int)) (r31' : Bool → Int → Option (Int)) (h_r31 : ∀ a0 a1, ChO (fun κ => r31 κ a0 a1) (r31' a0 a1)) (d : Int) (l_1 : (List (List Int))) (y'_1 : (List Int)) (known : Bool) (k_1 : Int) (t_2 : Bool) : ChO (fun κ => r23_Kernel_J31 d l_1 (r21 κ) y'_1 known k_1 (r31 κ) t_2) (r23_Kernel_J31 d l_1 r21' y'_1 known k_1 r31' t_2) := by
  unfold r23_Kernel_J31
  repeat' first | exact ChO.const _ | exact h_r21 _ _ | exact h_r31 _ _ | (apply r23_Kernel_J13_ch <;> assumption) | (apply r23_Kernel_J10_1_ch <;> assumption) | (apply r23_Kernel_J10_ch <;> assumption) | (apply r23_Kernel_L10_ch <;> assumption) | (apply r23_Kernel_L7_ch <;> assumption) | (apply r23_Kernel_J31_1_ch <;> assumption) | apply ChO.ite | apply ChO.G | apply ChO.both | (apply ChO.bind; intro _)
theorem r23_Kernel_L31_B_ch (r21 : Nat → Int → (List (List Int)) → Option (Int)) (r21' : Int → (List (List Int)) → Option (Int)) (h_r21 : ∀ a0 a1, ChO (fun κ => r21 κ a0 a1) (r21' a0 a1)) (r31 : Nat → Bool → Int → Option (Int)) (r31' : Bool → Int → Option (Int)) (h_r31 : ∀ a0 a1, ChO (fun κ => r31 κ a0 a1) (r31' a0 a1)) (d : Int) (l_1 : (List (List Int))) (y'_1 : (List Int)) (known : Bool) (k_1 : Int) : ChO (fun κ => r23_Kernel_L31_B d l_1 (r21 κ) y'_1 (r31 κ) known k_1) (r23_Kernel_L31_B d l_1 r21' y'_1 r31' known k_1) := by
  unfold r23_Kernel_L31_B
  repeat' first | exact ChO.const _ | exact h_r21 _ _ | exact h_r31 _ _ | (apply r23_Kernel_J13_ch <;> assumption) | (apply r23_Kernel_J10_1_ch <;> assumption) | (apply r23_Kernel_J10_ch <;> assumption) | (apply r23_Kernel_L10_ch <;> assumption) | (apply r23_Kernel_L7_ch <;> assumption) | (apply r23_Kernel_J31_1_ch <;> assumption) | (apply r23_Kernel_J31_ch <;> assumption) | apply ChO.ite | apply ChO.G | apply ChO.both | (apply ChO.bind; intro _)
theorem r23_Kernel_L31_cn (r21 : Int → (List (List Int)) → Option (Int)) (d : Int) (l_1 : (List (List Int))) (y'_1 : (List Int)) : Cn (r23_Kernel_L31_F d l_1 r21 y'_1) := fun g h hg x => r23_Kernel_L31_B_ch (fun _ => r21) r21 (fun _ _ => ChO.const _) (fun κ known k_1 => g κ (known, k_1)) (fun known k_1 => h (known, k_1)) (fun known k_1 => hg (known, k_1)) d l_1 y'_1 x.1 x.2
theorem r23_Kernel_L31_eq (r21 : Int → (List (List Int)) → Option (Int)) (d : Int) (l_1 : (List (List Int))) (y'_1 : (List Int)) (known : Bool) (k_1 : Int) : r23_Kernel_L31 d l_1 r21 y'_1 known k_1 = r23_Kernel_L31_B d l_1 r21 y'_1 (r23_Kernel_L31 d l_1 r21 y'_1) known k_1 := LFix_eq (r23_Kernel_L31_cn r21 d l_1 y'_1) (known, k_1)
theorem r23_Kernel_L31_ch (r21 : Nat → Int → (List (List Int)) → Option (Int)) (r21' : Int → (List (List Int)) → Option (Int)) (h_r21 : ∀ a0 a1, ChO (fun κ => r21 κ a0 a1) (r21' a0 a1)) (d : Int) (l_1 : (List (List Int))) (y'_1 : (List Int)) (known : Bool) (k_1 : Int) : ChO (fun κ => r23_Kernel_L31 d l_1 (r21 κ) y'_1 known k_1) (r23_Kernel_L31 d l_1 r21' y'_1 known k_1) := by
  unfold r23_Kernel_L31
  exact LFix_ch (fun κ => (r23_Kernel_L31_cn (r21 κ) d l_1 y'_1).mono) (r23_Kernel_L31_cn r21' d l_1 y'_1).mono (fun g h hg x => r23_Kernel_L31_B_ch r21 r21' h_r21 (fun κ known k_1 => g κ (known, k_1)) (fun known k_1 => h (known, k_1)) (fun known k_1 => hg (known, k_1)) d l_1 y'_1 x.1 x.2) _
theorem r23_Kernel_L25_B_ch (r21 : Nat → Int → (List (List Int)) → Option (Int)) (r21' : Int → (List (List Int)) → Option (Int)) (h_r21 : ∀ a0 a1, ChO (fun κ => r21 κ a0 a1) (r21' a0 a1)) (r25 : Nat → Int → (List Int) → Option (Int)) (r25' : Int → (List Int) → Option (Int)) (h_r25 : ∀ a0 a1, ChO (fun κ => r25 κ a0 a1) (r25' a0 a1)) (m : (Int × (List (List Int)) × (List Int) × Unit)) (met : (List Bool)) (i : Int) (d : Int) (l_1 : (List (List Int))) (a_1 : Int) (next' : (List Int)) : ChO (fun κ => r23_Kernel_L25_B m met i d l_1 (r21 κ) (r25 κ) a_1 next') (r23_Kernel_L25_B m met i d l_1 r21' r25' a_1 next') := by
  unfold r23_Kernel_L25_B
  repeat' first | exact ChO.const _ | exact h_r21 _ _ | exact h_r25 _ _ | (apply r23_Kernel_J13_ch <;> assumption) | (apply r23_Kernel_J10_1_ch <;> assumption) | (apply r23_Kernel_J10_ch <;> assumption) | (apply r23_Kernel_L10_ch <;> assumption) | (apply r23_Kernel_L7_ch <;> assumption) | (apply r23_Kernel_J31_1_ch <;> assumption) | (apply r23_Kernel_J31_ch <;> assumption) | (apply r23_Kernel_L31_ch <;> assumption) | apply ChO.ite | apply ChO.G | apply ChO.both | (apply ChO.bind; intro _)
theorem r23_Kernel_L25_cn (r21 : Int → (List (List Int)) → Option (Int)) (m : (Int × (List (List Int)) × (List Int) × Unit)) (met : (List Bool)) (i : Int) (d : Int) (l_1 : (List (List Int))) : Cn (r23_Kernel_L25_F m met i d l_1 r21) := fun g h hg x => r23_Kernel_L25_B_ch (fun _ => r21) r21 (fun _ _ => ChO.const _) (fun κ a_1 next' => g κ (a_1, next')) (fun a_1 next' => h (a_1, next')) (fun a_1 next' => hg (a_1, next')) m met i d l_1 x.1 x.2
theorem r23_Kernel_L25_eq (r21 : Int → (List (List Int)) → Option (Int)) (m : (Int × (List (List Int)) × (List Int) × Unit)) (met : (List Bool)) (i : Int) (d : Int) (l_1 : (List (List Int))) (a_1 : Int) (next' : (List Int)) : r23_Kernel_L25 m met i d l_1 r21 a_1 next' = r23_Kernel_L25_B m met i d l_1 r21 (r23_Kernel_L25 m met i d l_1 r21) a_1 next' := LFix_eq (r23_Kernel_L25_cn r21 m met i d l_1) (a_1, next')
theorem r23_Kernel_L25_ch (r21 : Nat → Int → (List (List Int)) → Option (Int)) (r21' : Int → (List (List Int)) → Option (Int)) (h_r21 : ∀ a0 a1, ChO (fun κ => r21 κ a0 a1) (r21' a0 a1)) (m : (Int × (List (List Int)) × (List Int) × Unit)) (met : (List Bool)) (i : Int) (d : Int) (l_1 : (List (List Int))) (a_1 : Int) (next' : (List Int)) : ChO (fun κ => r23_Kernel_L25 m met i d l_1 (r21 κ) a_1 next') (r23_Kernel_L25 m met i d l_1 r21' a_1 next') := by
  unfold r23_Kernel_L25
  exact LFix_ch (fun κ => (r23_Kernel_L25_cn (r21 κ) m met i d l_1).mono) (r23_Kernel_L25_cn r21' m met i d l_1).mono (fun g h hg x => r23_Kernel_L25_B_ch r21 r21' h_r21 (fun κ a_1 next' => g κ (a_1, next')) (fun a_1 next' => h (a_1, next')) (fun a_1 next' => hg (a_1, next')) m met i d l_1 x.1 x.2) _
theorem r23_Kernel_L21_B_ch (r18 : Nat → Int → (List (List Int)) → Option (Int)) (r18' : Int → (List (List Int)) → Option (Int)) (h_r18 : ∀ a0 a1, ChO (fun κ => r18 κ a0 a1) (r18' a0 a1)) (r21 : Nat → Int → (List (List Int)) → Option (Int)) (r21' : Int → (List (List Int)) → Option (Int)) (h_r21 : ∀ a0 a1, ChO (fun κ => r21 κ a0 a1) (r21' a0 a1)) (m : (Int × (List (List Int)) × (List Int) × Unit)) (met : (List Bool)) (i : Int) (d : Int) (l_1 : (List (List Int))) : ChO (fun κ => r23_Kernel_L21_B m met i (r18 κ) (r21 κ) d l_1) (r23_Kernel_L21_B m met i r18' r21' d l_1) := by
  unfold r23_Kernel_L21_B
  repeat' first | exact ChO.const _ | exact h_r18 _ _ | exact h_r21 _ _ | (apply r23_Kernel_J13_ch <;> assumption) | (apply r23_Kernel_J10_1_ch <;> assumption) | (apply r23_Kernel_J10_ch <;> assumption) | (apply r23_Kernel_L10_ch <;> assumption) | (apply r23_Kernel_L7_ch <;> assumption) | (apply r23_Kernel_J31_1_ch <;> assumption) | (apply r23_Kernel_J31_ch <;> assumption) | (apply r23_Kernel_L31_ch <;> assumption) | (apply r23_Kernel_L25_ch <;> assumption) | apply ChO.ite | apply ChO.G | apply ChO.both | (apply ChO.bind; intro _)
theorem r23_Kernel_L21_cn (r18 : Int → (List (List Int)) → Option (Int)) (m : (Int × (List (List Int)) × (List Int) × Unit)) (met : (List Bool)) (i : Int) : Cn (r23_Kernel_L21_F m met i r18) := fun g h hg x => r23_Kernel_L21_B_ch (fun _ => r18) r18 (fun _ _ => ChO.const _) (fun κ d l_1 => g κ (d, l_1)) (fun d l_1 => h (d, l_1)) (fun d l_1 => hg (d, l_1)) m met i x.1 x.2
theorem r23_Kernel_L21_eq (r18 : Int → (List (List Int)) → Option (Int)) (m : (Int × (List (List Int)) × (List Int) × Unit)) (met : (List Bool)) (i : Int) (d : Int) (l_1 : (List (List Int))) : r23_Kernel_L21 m met i r18 d l_1 = r23_Kernel_L21_B m met i r18 (r23_Kernel_L21 m met i r18) d l_1 := LFix_eq (r23_Kernel_L21_cn r18 m met i) (d, l_1)
theorem r23_Kernel_L21_ch (r18 : Nat → Int → (List (List Int)) → Option (Int)) (r18' : Int → (List (List Int)) → Option (Int)) (h_r18 : ∀ a0 a1, ChO (fun κ => r18 κ a0 a1) (r18' a0 a1)) (m : (Int × (List (List Int)) × (List Int) × Unit)) (met : (List Bool)) (i : Int) (d : Int) (l_1 : (List (List Int))) : ChO (fun κ => r23_Kernel_L21 m met i (r18 κ) d l_1) (r23_Kernel_L21 m met i r18' d l_1) := by
  unfold r23_Kernel_L21
  exact LFix_ch (fun κ => (r23_Kernel_L21_cn (r18 κ) m met i).mono) (r23_Kernel_L21_cn r18' m met i).mono (fun g h hg x => r23_Kernel_L21_B_ch r18 r18' h_r18 (fun κ d l_1 => g κ (d, l_1)) (fun d l_1 => h (d, l_1)) (fun d l_1 => hg (d, l_1)) m met i x.1 x.2) _
theorem r23_Kernel_L18_B_ch (r18 : Nat → Int → (List (List Int)) → Option (Int)) (r18' : Int → (List (List Int)) → Option (Int)) (h_r18 : ∀ a0 a1, ChO (fun κ => r18 κ a0 a1) (r18' a0 a1)) (m : (Int × (List (List Int)) × (List Int) × Unit)) (met : (List Bool)) (i : Int) (l : (List (List Int))) : ChO (fun κ => r23_Kernel_L18_B m met (r18 κ) i l) (r23_Kernel_L18_B m met r18' i l) := by
  unfold r23_Kernel_L18_B
  repeat' first | exact ChO.const _ | exact h_r18 _ _ | (apply r23_Kernel_J13_ch <;> assumption) | (apply r23_Kernel_J10_1_ch <;> assumption) | (apply r23_Kernel_J10_ch <;> assumption) | (apply r23_Kernel_L10_ch <;> assumption) | (apply r23_Kernel_L7_ch <;> assumption) | (apply r23_Kernel_J31_1_ch <;> assumption) | (apply r23_Kernel_J31_ch <;> assumption) | (apply r23_Kernel_L31_ch <;> assumption) | (apply r23_Kernel_L25_ch <;> assumption) | (apply r23_Kernel_L21_ch <;> assumption) | apply ChO.ite | apply ChO.G | apply ChO.both | (apply ChO.bind; intro _)
theorem r23_Kernel_L18_cn  (m : (Int × (List (List Int)) × (List Int) × Unit)) (met : (List Bool)) : Cn (r23_Kernel_L18_F m met) := fun g h hg x => r23_Kernel_L18_B_ch  (fun κ i l => g κ (i, l)) (fun i l => h (i, l)) (fun i l => hg (i, l)) m met x.1 x.2
theorem r23_Kernel_L18_eq  (m : (Int × (List (List Int)) × (List Int) × Unit)) (met : (List Bool)) (i : Int) (l : (List (List Int))) : r23_Kernel_L18 m met i l = r23_Kernel_L18_B m met (r23_Kernel_L18 m met) i l := LFix_eq (r23_Kernel_L18_cn m met) (i, l)
theorem r23_Kernel_L4_B_ch (r4 : Nat → Bool → (List Bool) → Option (Int)) (r4' : Bool → (List Bool) → Option (Int)) (h_r4 : ∀ a0 a1, ChO (fun κ => r4 κ a0 a1) (r4' a0 a1)) (m : (Int × (List (List Int)) × (List Int) × Unit)) (again : Bool) (met : (List Bool)) : ChO (fun κ => r23_Kernel_L4_B m (r4 κ) again met) (r23_Kernel_L4_B m r4' again met) := by
  unfold r23_Kernel_L4_B
  repeat' first | exact ChO.const _ | exact h_r4 _ _ | (apply r23_Kernel_J13_ch <;> assumption) | (apply r23_Kernel_J10_1_ch <;> assumption) | (apply r23_Kernel_J10_ch <;> assumption) | (apply r23_Kernel_L10_ch <;> assumption) | (apply r23_Kernel_L7_ch <;> assumption) | (apply r23_Kernel_J31_1_ch <;> assumption) | (apply r23_Kernel_J31_ch <;> assumption) | (apply r23_Kernel_L31_ch <;> assumption) | (apply r23_Kernel_L25_ch <;> assumption) | (apply r23_Kernel_L21_ch <;> assumption) | apply ChO.ite | apply ChO.G | apply ChO.both | (apply ChO.bind; intro _)
theorem r23_Kernel_L4_cn  (m : (Int × (List (List Int)) × (List Int) × Unit)) : Cn (r23_Kernel_L4_F m) := fun g h hg x => r23_Kernel_L4_B_ch  (fun κ again met => g κ (again, met)) (fun again met => h (again, met)) (fun again met => hg (again, met)) m x.1 x.2
theorem r23_Kernel_L4_eq  (m : (Int × (List (List Int)) × (List Int) × Unit)) (again : Bool) (met : (List Bool)) : r23_Kernel_L4 m again met = r23_Kernel_L4_B m (r23_Kernel_L4 m) again met := LFix_eq (r23_Kernel_L4_cn m) (again, met)

noncomputable def law_SeqsKernel (m : (Int × (List (List Int)) × (List Int) × Unit)) : Option (Bool) :=
  (seqs_Kernel (m.1, (m.2.1, (m.2.2.1, ())))).bind (fun y'_5 =>
  (r23_Check (m.1, (m.2.1, (m.2.2.1, ())))).bind (fun y'_3 =>
  if (decide (¬ y'_3 = (0 : Int))) = true then
  if (decide (y'_5.2 = y'_3)) = true then
  some (decide (y'_5.1 = (0 : Int))) else
  some false else
  (r23_Kernel (m.1, (m.2.1, (m.2.2.1, ())))).bind (fun y'_4 =>
  if (decide (y'_5.2 = (0 : Int))) = true then
  some (decide (y'_5.1 = y'_4)) else
  some false)))

end Go.Proofs.Ytokjfldjjehmkaa.seqsKernelW
