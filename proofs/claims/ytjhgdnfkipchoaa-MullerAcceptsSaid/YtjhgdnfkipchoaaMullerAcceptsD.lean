/- What the functions that 'MullerAccepts' reaches compute: plain functions. -/
import Derived.Test.YtjhgdnfkipchoaaEv3n21
set_option maxHeartbeats 1000000
set_option maxRecDepth 20000
set_option linter.unusedSimpArgs false
set_option linter.unusedVariables false
namespace Go.Proofs.Ytjhgdnfkipchoaa.mullerAcceptsW
open Go Go.Ab
noncomputable def muller_Check_1 (r : (List Int)) (t : (Int × Int × (List (List Int)) × (List Int) × Unit)) : Option (Bool) :=
  some (decide (¬ (r.length : Int) = t.1))

noncomputable def slices_IndexFunc_L2_B (s : (List (List Int))) (c : (Int × Int × (List (List Int)) × (List Int) × Unit)) (r2 : Int → Option (Int)) (t : Int) : Option (Int) :=
  if (decide (t < (s.length : Int))) = true then
  G (0 ≤ t ∧ t < (s.length : Int)) (
  (muller_Check_1 (ix s t) c).bind (fun y' =>
  if y' = true then
  some t else
  G (fits (t + (1 : Int))) (
  r2 (t + (1 : Int))))) else
  some (-1 : Int)
noncomputable def slices_IndexFunc_L2_F (s : (List (List Int))) (c : (Int × Int × (List (List Int)) × (List Int) × Unit)) : (Int → Option (Int)) → Int → Option (Int) :=
  fun rec x => slices_IndexFunc_L2_B s c (fun t => rec t) x
noncomputable def slices_IndexFunc_L2 (s : (List (List Int))) (c : (Int × Int × (List (List Int)) × (List Int) × Unit)) (t : Int) : Option (Int) := LFix (slices_IndexFunc_L2_F s c ) t
noncomputable def slices_IndexFunc (s : (List (List Int))) (c : (Int × Int × (List (List Int)) × (List Int) × Unit)) : Option (Int) :=
  slices_IndexFunc_L2 s c (0 : Int)
theorem slices_IndexFunc_L2_B_ch (r2 : Nat → Int → Option (Int)) (r2' : Int → Option (Int)) (h_r2 : ∀ a0, ChO (fun κ => r2 κ a0) (r2' a0)) (s : (List (List Int))) (c : (Int × Int × (List (List Int)) × (List Int) × Unit)) (t : Int) : ChO (fun κ => slices_IndexFunc_L2_B s c (r2 κ) t) (slices_IndexFunc_L2_B s c r2' t) := by
  unfold slices_IndexFunc_L2_B
  repeat' first | exact ChO.const _ | exact h_r2 _ | apply ChO.ite | apply ChO.G | apply ChO.both | (apply ChO.bind; intro _)
theorem slices_IndexFunc_L2_cn  (s : (List (List Int))) (c : (Int × Int × (List (List Int)) × (List Int) × Unit)) : Cn (slices_IndexFunc_L2_F s c) := fun g h hg x => slices_IndexFunc_L2_B_ch  (fun κ t => g κ t) (fun t => h t) (fun t => hg t) s c x
theorem slices_IndexFunc_L2_eq  (s : (List (List Int))) (c : (Int × Int × (List (List Int)) × (List Int) × Unit)) (t : Int) : slices_IndexFunc_L2 s c t = slices_IndexFunc_L2_B s c (slices_IndexFunc_L2 s c) t := LFix_eq (slices_IndexFunc_L2_cn s c) t

noncomputable def slices_ContainsFunc (s : (List (List Int))) (c : (Int × Int × (List (List Int)) × (List Int) × Unit)) : Option (Bool) :=
  (slices_IndexFunc s c).bind (fun y' =>
  some (decide ((0 : Int) ≤ y')))

noncomputable def muller_Check_2 (q : Int) (t : Int) : Option (Bool) :=
  if (decide (q < (0 : Int))) = true then
  some true else
  some (decide (t ≤ q))

noncomputable def slices_IndexFunc_1_L2_B (s : (List Int)) (c : Int) (r2 : Int → Option (Int)) (t : Int) : Option (Int) :=
  if (decide (t < (s.length : Int))) = true then
  G (0 ≤ t ∧ t < (s.length : Int)) (
  (muller_Check_2 (ix s t) c).bind (fun y' =>
  if y' = true then
  some t else
  G (fits (t + (1 : Int))) (
  r2 (t + (1 : Int))))) else
  some (-1 : Int)
noncomputable def slices_IndexFunc_1_L2_F (s : (List Int)) (c : Int) : (Int → Option (Int)) → Int → Option (Int) :=
  fun rec x => slices_IndexFunc_1_L2_B s c (fun t => rec t) x
noncomputable def slices_IndexFunc_1_L2 (s : (List Int)) (c : Int) (t : Int) : Option (Int) := LFix (slices_IndexFunc_1_L2_F s c ) t
noncomputable def slices_IndexFunc_1 (s : (List Int)) (c : Int) : Option (Int) :=
  slices_IndexFunc_1_L2 s c (0 : Int)
theorem slices_IndexFunc_1_L2_B_ch (r2 : Nat → Int → Option (Int)) (r2' : Int → Option (Int)) (h_r2 : ∀ a0, ChO (fun κ => r2 κ a0) (r2' a0)) (s : (List Int)) (c : Int) (t : Int) : ChO (fun κ => slices_IndexFunc_1_L2_B s c (r2 κ) t) (slices_IndexFunc_1_L2_B s c r2' t) := by
  unfold slices_IndexFunc_1_L2_B
  repeat' first | exact ChO.const _ | exact h_r2 _ | apply ChO.ite | apply ChO.G | apply ChO.both | (apply ChO.bind; intro _)
theorem slices_IndexFunc_1_L2_cn  (s : (List Int)) (c : Int) : Cn (slices_IndexFunc_1_L2_F s c) := fun g h hg x => slices_IndexFunc_1_L2_B_ch  (fun κ t => g κ t) (fun t => h t) (fun t => hg t) s c x
theorem slices_IndexFunc_1_L2_eq  (s : (List Int)) (c : Int) (t : Int) : slices_IndexFunc_1_L2 s c t = slices_IndexFunc_1_L2_B s c (slices_IndexFunc_1_L2 s c) t := LFix_eq (slices_IndexFunc_1_L2_cn s c) t

noncomputable def slices_ContainsFunc_1 (s : (List Int)) (c : Int) : Option (Bool) :=
  (slices_IndexFunc_1 s c).bind (fun y' =>
  some (decide ((0 : Int) ≤ y')))

noncomputable def muller_Check_3 (r : (List Int)) (c : Int) : Option (Bool × Int) :=
  (slices_ContainsFunc_1 r c).bind (fun y' =>
  some (y', c))

noncomputable def slices_IndexFunc_2_L2_B (s : (List (List Int))) (r2 : Int → Int → Option (Int × Int)) (t : Int) (l : Int) : Option (Int × Int) :=
  if (decide (t < (s.length : Int))) = true then
  G (0 ≤ t ∧ t < (s.length : Int)) (
  (muller_Check_3 (ix s t) l).bind (fun y'_3 =>
  if y'_3.1 = true then
  some (t, y'_3.2) else
  G (fits (t + (1 : Int))) (
  r2 (t + (1 : Int)) y'_3.2))) else
  some ((-1 : Int), l)
noncomputable def slices_IndexFunc_2_L2_F (s : (List (List Int))) : (Int × Int → Option (Int × Int)) → Int × Int → Option (Int × Int) :=
  fun rec x => slices_IndexFunc_2_L2_B s (fun t l => rec (t, l)) x.1 x.2
noncomputable def slices_IndexFunc_2_L2 (s : (List (List Int))) (t : Int) (l : Int) : Option (Int × Int) := LFix (slices_IndexFunc_2_L2_F s ) (t, l)
noncomputable def slices_IndexFunc_2 (s : (List (List Int))) (c : Int) : Option (Int × Int) :=
  slices_IndexFunc_2_L2 s (0 : Int) c
theorem slices_IndexFunc_2_L2_B_ch (r2 : Nat → Int → Int → Option (Int × Int)) (r2' : Int → Int → Option (Int × Int)) (h_r2 : ∀ a0 a1, ChO (fun κ => r2 κ a0 a1) (r2' a0 a1)) (s : (List (List Int))) (t : Int) (l : Int) : ChO (fun κ => slices_IndexFunc_2_L2_B s (r2 κ) t l) (slices_IndexFunc_2_L2_B s r2' t l) := by
  unfold slices_IndexFunc_2_L2_B
  repeat' first | exact ChO.const _ | exact h_r2 _ _ | apply ChO.ite | apply ChO.G | apply ChO.both | (apply ChO.bind; intro _)
theorem slices_IndexFunc_2_L2_cn  (s : (List (List Int))) : Cn (slices_IndexFunc_2_L2_F s) := fun g h hg x => slices_IndexFunc_2_L2_B_ch  (fun κ t l => g κ (t, l)) (fun t l => h (t, l)) (fun t l => hg (t, l)) s x.1 x.2
theorem slices_IndexFunc_2_L2_eq  (s : (List (List Int))) (t : Int) (l : Int) : slices_IndexFunc_2_L2 s t l = slices_IndexFunc_2_L2_B s (slices_IndexFunc_2_L2 s) t l := LFix_eq (slices_IndexFunc_2_L2_cn s) (t, l)

noncomputable def slices_ContainsFunc_2 (s : (List (List Int))) (c : Int) : Option (Bool × Int) :=
  (slices_IndexFunc_2 s c).bind (fun y'_3 =>
  some (decide ((0 : Int) ≤ y'_3.1), y'_3.2))

noncomputable def muller_Check_4 (s : Int) (t : Int) : Option (Bool) :=
  if (decide (s < (1 : Int))) = true then
  some true else
  G (0 ≤ t) (
  some (decide ((ishl .i64 (1 : Int) t) ≤ s)))

noncomputable def slices_IndexFunc_4_L2_B (s : (List Int)) (c : Int) (r2 : Int → Option (Int)) (t : Int) : Option (Int) :=
  if (decide (t < (s.length : Int))) = true then
  G (0 ≤ t ∧ t < (s.length : Int)) (
  (muller_Check_4 (ix s t) c).bind (fun y' =>
  if y' = true then
  some t else
  G (fits (t + (1 : Int))) (
  r2 (t + (1 : Int))))) else
  some (-1 : Int)
noncomputable def slices_IndexFunc_4_L2_F (s : (List Int)) (c : Int) : (Int → Option (Int)) → Int → Option (Int) :=
  fun rec x => slices_IndexFunc_4_L2_B s c (fun t => rec t) x
noncomputable def slices_IndexFunc_4_L2 (s : (List Int)) (c : Int) (t : Int) : Option (Int) := LFix (slices_IndexFunc_4_L2_F s c ) t
noncomputable def slices_IndexFunc_4 (s : (List Int)) (c : Int) : Option (Int) :=
  slices_IndexFunc_4_L2 s c (0 : Int)
theorem slices_IndexFunc_4_L2_B_ch (r2 : Nat → Int → Option (Int)) (r2' : Int → Option (Int)) (h_r2 : ∀ a0, ChO (fun κ => r2 κ a0) (r2' a0)) (s : (List Int)) (c : Int) (t : Int) : ChO (fun κ => slices_IndexFunc_4_L2_B s c (r2 κ) t) (slices_IndexFunc_4_L2_B s c r2' t) := by
  unfold slices_IndexFunc_4_L2_B
  repeat' first | exact ChO.const _ | exact h_r2 _ | apply ChO.ite | apply ChO.G | apply ChO.both | (apply ChO.bind; intro _)
theorem slices_IndexFunc_4_L2_cn  (s : (List Int)) (c : Int) : Cn (slices_IndexFunc_4_L2_F s c) := fun g h hg x => slices_IndexFunc_4_L2_B_ch  (fun κ t => g κ t) (fun t => h t) (fun t => hg t) s c x
theorem slices_IndexFunc_4_L2_eq  (s : (List Int)) (c : Int) (t : Int) : slices_IndexFunc_4_L2 s c t = slices_IndexFunc_4_L2_B s c (slices_IndexFunc_4_L2 s c) t := LFix_eq (slices_IndexFunc_4_L2_cn s c) t

noncomputable def slices_ContainsFunc_4 (s : (List Int)) (c : Int) : Option (Bool) :=
  (slices_IndexFunc_4 s c).bind (fun y' =>
  some (decide ((0 : Int) ≤ y')))

noncomputable def muller_Check_L12_B (m : (Int × Int × (List (List Int)) × (List Int) × Unit)) (r12 : Int → Option (Int)) (t : Int) : Option (Int) :=
  if (decide (t < (m.2.2.2.1.length : Int))) = true then
  if (decide ((0 : Int) < t)) = true then
  G (fits (t - (1 : Int))) (
  G (0 ≤ t - (1 : Int) ∧ t - (1 : Int) < (m.2.2.2.1.length : Int)) (
  G (0 ≤ t ∧ t < (m.2.2.2.1.length : Int)) (
  if (decide ((ix m.2.2.2.1 t) ≤ (ix m.2.2.2.1 (t - (1 : Int))))) = true then
  some (3 : Int) else
  G (fits (t + (1 : Int))) (
  r12 (t + (1 : Int)))))) else
  G (fits (t + (1 : Int))) (
  r12 (t + (1 : Int))) else
  some (0 : Int)
noncomputable def muller_Check_L12_F (m : (Int × Int × (List (List Int)) × (List Int) × Unit)) : (Int → Option (Int)) → Int → Option (Int) :=
  fun rec x => muller_Check_L12_B m (fun t => rec t) x
noncomputable def muller_Check_L12 (m : (Int × Int × (List (List Int)) × (List Int) × Unit)) (t : Int) : Option (Int) := LFix (muller_Check_L12_F m ) t
noncomputable def muller_Check (m : (Int × Int × (List (List Int)) × (List Int) × Unit)) : Option (Int) :=
  if (decide (m.1 < (1 : Int))) = true then
  some (2 : Int) else
  if (decide ((4 : Int) < m.1)) = true then
  some (2 : Int) else
  if (decide ((m.2.2.1.length : Int) < (1 : Int))) = true then
  some (1 : Int) else
  if (decide ((4 : Int) < (m.2.2.1.length : Int))) = true then
  some (1 : Int) else
  (slices_ContainsFunc m.2.2.1 (m.1, (m.2.1, (m.2.2.1, (m.2.2.2.1, ()))))).bind (fun y' =>
  if y' = true then
  some (3 : Int) else
  (muller_Check_2 m.2.1 (m.2.2.1.length : Int)).bind (fun y'_1 =>
  if y'_1 = true then
  some (2 : Int) else
  (slices_ContainsFunc_2 m.2.2.1 (m.2.2.1.length : Int)).bind (fun y'_6 =>
  if y'_6.1 = true then
  some (2 : Int) else
  (slices_ContainsFunc_4 m.2.2.2.1 (m.2.2.1.length : Int)).bind (fun y'_5 =>
  if y'_5 = true then
  some (2 : Int) else
  muller_Check_L12 m (0 : Int)))))
theorem muller_Check_L12_B_ch (r12 : Nat → Int → Option (Int)) (r12' : Int → Option (Int)) (h_r12 : ∀ a0, ChO (fun κ => r12 κ a0) (r12' a0)) (m : (Int × Int × (List (List Int)) × (List Int) × Unit)) (t : Int) : ChO (fun κ => muller_Check_L12_B m (r12 κ) t) (muller_Check_L12_B m r12' t) := by
  unfold muller_Check_L12_B
  repeat' first | exact ChO.const _ | exact h_r12 _ | apply ChO.ite | apply ChO.G | apply ChO.both | (apply ChO.bind; intro _)
theorem muller_Check_L12_cn  (m : (Int × Int × (List (List Int)) × (List Int) × Unit)) : Cn (muller_Check_L12_F m) := fun g h hg x => muller_Check_L12_B_ch  (fun κ t => g κ t) (fun t => h t) (fun t => hg t) m x
theorem muller_Check_L12_eq  (m : (Int × Int × (List (List Int)) × (List Int) × Unit)) (t : Int) : muller_Check_L12 m t = muller_Check_L12_B m (muller_Check_L12 m) t := LFix_eq (muller_Check_L12_cn m) t

noncomputable def r34_Check_L17_B (m : (Int × Int × (List (List Int)) × (List Int) × Unit)) (q_1 : Int) (r14 : (Int → Option (Int))) (r17 : Int → Option (Int)) (a : Int) : Option (Int) :=
  if (decide (a < m.1)) = true then
  G (0 ≤ q_1 ∧ q_1 < (m.2.2.1.length : Int)) (
  G (0 ≤ a ∧ a < ((ix m.2.2.1 q_1).length : Int)) (
  if (decide ((ix (ix m.2.2.1 q_1) a) < (0 : Int))) = true then
  some (2 : Int) else
  G (0 ≤ q_1 ∧ q_1 < (m.2.2.1.length : Int)) (
  G (0 ≤ a ∧ a < ((ix m.2.2.1 q_1).length : Int)) (
  if (decide ((m.2.2.1.length : Int) ≤ (ix (ix m.2.2.1 q_1) a))) = true then
  some (2 : Int) else
  G (fits (a + (1 : Int))) (
  r17 (a + (1 : Int))))))) else
  G (fits (q_1 + (1 : Int))) (
  r14 (q_1 + (1 : Int)))
noncomputable def r34_Check_L17_F (m : (Int × Int × (List (List Int)) × (List Int) × Unit)) (q_1 : Int) (r14 : (Int → Option (Int))) : (Int → Option (Int)) → Int → Option (Int) :=
  fun rec x => r34_Check_L17_B m q_1 r14 (fun a => rec a) x
noncomputable def r34_Check_L17 (m : (Int × Int × (List (List Int)) × (List Int) × Unit)) (q_1 : Int) (r14 : (Int → Option (Int))) (a : Int) : Option (Int) := LFix (r34_Check_L17_F m q_1 r14 ) a
noncomputable def r34_Check_L27_B (m : (Int × Int × (List (List Int)) × (List Int) × Unit)) (r27 : Int → Option (Int)) (i_1 : Int) : Option (Int) :=
  if (decide (i_1 < (m.2.2.2.1.length : Int))) = true then
  G (fits (i_1 - (1 : Int))) (
  G (0 ≤ i_1 - (1 : Int) ∧ i_1 - (1 : Int) < (m.2.2.2.1.length : Int)) (
  G (0 ≤ i_1 ∧ i_1 < (m.2.2.2.1.length : Int)) (
  if (decide ((ix m.2.2.2.1 i_1) ≤ (ix m.2.2.2.1 (i_1 - (1 : Int))))) = true then
  some (3 : Int) else
  G (fits (i_1 + (1 : Int))) (
  r27 (i_1 + (1 : Int)))))) else
  some (0 : Int)
noncomputable def r34_Check_L27_F (m : (Int × Int × (List (List Int)) × (List Int) × Unit)) : (Int → Option (Int)) → Int → Option (Int) :=
  fun rec x => r34_Check_L27_B m (fun i_1 => rec i_1) x
noncomputable def r34_Check_L27 (m : (Int × Int × (List (List Int)) × (List Int) × Unit)) (i_1 : Int) : Option (Int) := LFix (r34_Check_L27_F m ) i_1
noncomputable def r34_Check_L22_B (m : (Int × Int × (List (List Int)) × (List Int) × Unit)) (r22 : Int → Option (Int)) (i : Int) : Option (Int) :=
  if (decide (i < (m.2.2.2.1.length : Int))) = true then
  G (0 ≤ i ∧ i < (m.2.2.2.1.length : Int)) (
  if (decide ((ix m.2.2.2.1 i) < (1 : Int))) = true then
  some (2 : Int) else
  G (0 ≤ i ∧ i < (m.2.2.2.1.length : Int)) (
  G (0 ≤ (m.2.2.1.length : Int)) (
  if (decide ((ishl .i64 (1 : Int) (m.2.2.1.length : Int)) ≤ (ix m.2.2.2.1 i))) = true then
  some (2 : Int) else
  G (fits (i + (1 : Int))) (
  r22 (i + (1 : Int)))))) else
  r34_Check_L27 m (1 : Int)
noncomputable def r34_Check_L22_F (m : (Int × Int × (List (List Int)) × (List Int) × Unit)) : (Int → Option (Int)) → Int → Option (Int) :=
  fun rec x => r34_Check_L22_B m (fun i => rec i) x
noncomputable def r34_Check_L22 (m : (Int × Int × (List (List Int)) × (List Int) × Unit)) (i : Int) : Option (Int) := LFix (r34_Check_L22_F m ) i
noncomputable def r34_Check_L14_B (m : (Int × Int × (List (List Int)) × (List Int) × Unit)) (r14 : Int → Option (Int)) (q_1 : Int) : Option (Int) :=
  if (decide (q_1 < (m.2.2.1.length : Int))) = true then
  r34_Check_L17 m q_1 r14 (0 : Int) else
  r34_Check_L22 m (0 : Int)
noncomputable def r34_Check_L14_F (m : (Int × Int × (List (List Int)) × (List Int) × Unit)) : (Int → Option (Int)) → Int → Option (Int) :=
  fun rec x => r34_Check_L14_B m (fun q_1 => rec q_1) x
noncomputable def r34_Check_L14 (m : (Int × Int × (List (List Int)) × (List Int) × Unit)) (q_1 : Int) : Option (Int) := LFix (r34_Check_L14_F m ) q_1
noncomputable def r34_Check_L7_B (m : (Int × Int × (List (List Int)) × (List Int) × Unit)) (r7 : Int → Option (Int)) (q : Int) : Option (Int) :=
  if (decide (q < (m.2.2.1.length : Int))) = true then
  G (0 ≤ q ∧ q < (m.2.2.1.length : Int)) (
  if (decide (¬ ((ix m.2.2.1 q).length : Int) = m.1)) = true then
  some (3 : Int) else
  G (fits (q + (1 : Int))) (
  r7 (q + (1 : Int)))) else
  if (decide (m.2.1 < (0 : Int))) = true then
  some (2 : Int) else
  if (decide ((m.2.2.1.length : Int) ≤ m.2.1)) = true then
  some (2 : Int) else
  r34_Check_L14 m (0 : Int)
noncomputable def r34_Check_L7_F (m : (Int × Int × (List (List Int)) × (List Int) × Unit)) : (Int → Option (Int)) → Int → Option (Int) :=
  fun rec x => r34_Check_L7_B m (fun q => rec q) x
noncomputable def r34_Check_L7 (m : (Int × Int × (List (List Int)) × (List Int) × Unit)) (q : Int) : Option (Int) := LFix (r34_Check_L7_F m ) q
noncomputable def r34_Check (m : (Int × Int × (List (List Int)) × (List Int) × Unit)) : Option (Int) :=
  if (decide (m.1 < (1 : Int))) = true then
  some (2 : Int) else
  if (decide ((4 : Int) < m.1)) = true then
  some (2 : Int) else
  if (decide ((m.2.2.1.length : Int) < (1 : Int))) = true then
  some (1 : Int) else
  if (decide ((4 : Int) < (m.2.2.1.length : Int))) = true then
  some (1 : Int) else
  r34_Check_L7 m (0 : Int)
theorem r34_Check_L17_B_ch (r14 : Nat → Int → Option (Int)) (r14' : Int → Option (Int)) (h_r14 : ∀ a0, ChO (fun κ => r14 κ a0) (r14' a0)) (r17 : Nat → Int → Option (Int)) (r17' : Int → Option (Int)) (h_r17 : ∀ a0, ChO (fun κ => r17 κ a0) (r17' a0)) (m : (Int × Int × (List (List Int)) × (List Int) × Unit)) (q_1 : Int) (a : Int) : ChO (fun κ => r34_Check_L17_B m q_1 (r14 κ) (r17 κ) a) (r34_Check_L17_B m q_1 r14' r17' a) := by
  unfold r34_Check_L17_B
  repeat' first | exact ChO.const _ | exact h_r14 _ | exact h_r17 _ | apply ChO.ite | apply ChO.G | apply ChO.both | (apply ChO.bind; intro _)
theorem r34_Check_L17_cn (r14 : Int → Option (Int)) (m : (Int × Int × (List (List Int)) × (List Int) × Unit)) (q_1 : Int) : Cn (r34_Check_L17_F m q_1 r14) := fun g h hg x => r34_Check_L17_B_ch (fun _ => r14) r14 (fun _ => ChO.const _) (fun κ a => g κ a) (fun a => h a) (fun a => hg a) m q_1 x
theorem r34_Check_L17_eq (r14 : Int → Option (Int)) (m : (Int × Int × (List (List Int)) × (List Int) × Unit)) (q_1 : Int) (a : Int) : r34_Check_L17 m q_1 r14 a = r34_Check_L17_B m q_1 r14 (r34_Check_L17 m q_1 r14) a := LFix_eq (r34_Check_L17_cn r14 m q_1) a
theorem r34_Check_L17_ch (r14 : Nat → Int → Option (Int)) (r14' : Int → Option (Int)) (h_r14 : ∀ a0, ChO (fun κ => r14 κ a0) (r14' a0)) (m : (Int × Int × (List (List Int)) × (List Int) × Unit)) (q_1 : Int) (a : Int) : ChO (fun κ => r34_Check_L17 m q_1 (r14 κ) a) (r34_Check_L17 m q_1 r14' a) := by
  unfold r34_Check_L17
  exact LFix_ch (fun κ => (r34_Check_L17_cn (r14 κ) m q_1).mono) (r34_Check_L17_cn r14' m q_1).mono (fun g h hg x => r34_Check_L17_B_ch r14 r14' h_r14 (fun κ a => g κ a) (fun a => h a) (fun a => hg a) m q_1 x) _
theorem r34_Check_L27_B_ch (r27 : Nat → Int → Option (Int)) (r27' : Int → Option (Int)) (h_r27 : ∀ a0, ChO (fun κ => r27 κ a0) (r27' a0)) (m : (Int × Int × (List (List Int)) × (List Int) × Unit)) (i_1 : Int) : ChO (fun κ => r34_Check_L27_B m (r27 κ) i_1) (r34_Check_L27_B m r27' i_1) := by
  unfold r34_Check_L27_B
  repeat' first | exact ChO.const _ | exact h_r27 _ | (apply r34_Check_L17_ch <;> assumption) | apply ChO.ite | apply ChO.G | apply ChO.both | (apply ChO.bind; intro _)
theorem r34_Check_L27_cn  (m : (Int × Int × (List (List Int)) × (List Int) × Unit)) : Cn (r34_Check_L27_F m) := fun g h hg x => r34_Check_L27_B_ch  (fun κ i_1 => g κ i_1) (fun i_1 => h i_1) (fun i_1 => hg i_1) m x
theorem r34_Check_L27_eq  (m : (Int × Int × (List (List Int)) × (List Int) × Unit)) (i_1 : Int) : r34_Check_L27 m i_1 = r34_Check_L27_B m (r34_Check_L27 m) i_1 := LFix_eq (r34_Check_L27_cn m) i_1
theorem r34_Check_L22_B_ch (r22 : Nat → Int → Option (Int)) (r22' : Int → Option (Int)) (h_r22 : ∀ a0, ChO (fun κ => r22 κ a0) (r22' a0)) (m : (Int × Int × (List (List Int)) × (List Int) × Unit)) (i : Int) : ChO (fun κ => r34_Check_L22_B m (r22 κ) i) (r34_Check_L22_B m r22' i) := by
  unfold r34_Check_L22_B
  repeat' first | exact ChO.const _ | exact h_r22 _ | (apply r34_Check_L17_ch <;> assumption) | apply ChO.ite | apply ChO.G | apply ChO.both | (apply ChO.bind; intro _)
theorem r34_Check_L22_cn  (m : (Int × Int × (List (List Int)) × (List Int) × Unit)) : Cn (r34_Check_L22_F m) := fun g h hg x => r34_Check_L22_B_ch  (fun κ i => g κ i) (fun i => h i) (fun i => hg i) m x
theorem r34_Check_L22_eq  (m : (Int × Int × (List (List Int)) × (List Int) × Unit)) (i : Int) : r34_Check_L22 m i = r34_Check_L22_B m (r34_Check_L22 m) i := LFix_eq (r34_Check_L22_cn m) i
theorem r34_Check_L14_B_ch (r14 : Nat → Int → Option (Int)) (r14' : Int → Option (Int)) (h_r14 : ∀ a0, ChO (fun κ => r14 κ a0) (r14' a0)) (m : (Int × Int × (List (List Int)) × (List Int) × Unit)) (q_1 : Int) : ChO (fun κ => r34_Check_L14_B m (r14 κ) q_1) (r34_Check_L14_B m r14' q_1) := by
  unfold r34_Check_L14_B
  repeat' first | exact ChO.const _ | exact h_r14 _ | (apply r34_Check_L17_ch <;> assumption) | apply ChO.ite | apply ChO.G | apply ChO.both | (apply ChO.bind; intro _)
theorem r34_Check_L14_cn  (m : (Int × Int × (List (List Int)) × (List Int) × Unit)) : Cn (r34_Check_L14_F m) := fun g h hg x => r34_Check_L14_B_ch  (fun κ q_1 => g κ q_1) (fun q_1 => h q_1) (fun q_1 => hg q_1) m x
theorem r34_Check_L14_eq  (m : (Int × Int × (List (List Int)) × (List Int) × Unit)) (q_1 : Int) : r34_Check_L14 m q_1 = r34_Check_L14_B m (r34_Check_L14 m) q_1 := LFix_eq (r34_Check_L14_cn m) q_1
theorem r34_Check_L7_B_ch (r7 : Nat → Int → Option (Int)) (r7' : Int → Option (Int)) (h_r7 : ∀ a0, ChO (fun κ => r7 κ a0) (r7' a0)) (m : (Int × Int × (List (List Int)) × (List Int) × Unit)) (q : Int) : ChO (fun κ => r34_Check_L7_B m (r7 κ) q) (r34_Check_L7_B m r7' q) := by
  unfold r34_Check_L7_B
  repeat' first | exact ChO.const _ | exact h_r7 _ | (apply r34_Check_L17_ch <;> assumption) | apply ChO.ite | apply ChO.G | apply ChO.both | (apply ChO.bind; intro _)
theorem r34_Check_L7_cn  (m : (Int × Int × (List (List Int)) × (List Int) × Unit)) : Cn (r34_Check_L7_F m) := fun g h hg x => r34_Check_L7_B_ch  (fun κ q => g κ q) (fun q => h q) (fun q => hg q) m x
theorem r34_Check_L7_eq  (m : (Int × Int × (List (List Int)) × (List Int) × Unit)) (q : Int) : r34_Check_L7 m q = r34_Check_L7_B m (r34_Check_L7 m) q := LFix_eq (r34_Check_L7_cn m) q

noncomputable def word_May_L6_B (letters : Int) (w : (List Int)) (r6 : Int → Option (Int)) (t : Int) : Option (Int) :=
  if (decide (t < (w.length : Int))) = true then
  G (0 ≤ t ∧ t < (w.length : Int)) (
  if (decide ((ix w t) < (0 : Int))) = true then
  some (2 : Int) else
  if (decide (letters ≤ (ix w t))) = true then
  some (2 : Int) else
  G (fits (t + (1 : Int))) (
  r6 (t + (1 : Int)))) else
  some (0 : Int)
noncomputable def word_May_L6_F (letters : Int) (w : (List Int)) : (Int → Option (Int)) → Int → Option (Int) :=
  fun rec x => word_May_L6_B letters w (fun t => rec t) x
noncomputable def word_May_L6 (letters : Int) (w : (List Int)) (t : Int) : Option (Int) := LFix (word_May_L6_F letters w ) t
noncomputable def word_May (letters : Int) (w : (List Int)) : Option (Int) :=
  if (decide (letters < (1 : Int))) = true then
  some (2 : Int) else
  if (decide ((4 : Int) < letters)) = true then
  some (2 : Int) else
  if (decide ((60 : Int) < (w.length : Int))) = true then
  some (1 : Int) else
  word_May_L6 letters w (0 : Int)
theorem word_May_L6_B_ch (r6 : Nat → Int → Option (Int)) (r6' : Int → Option (Int)) (h_r6 : ∀ a0, ChO (fun κ => r6 κ a0) (r6' a0)) (letters : Int) (w : (List Int)) (t : Int) : ChO (fun κ => word_May_L6_B letters w (r6 κ) t) (word_May_L6_B letters w r6' t) := by
  unfold word_May_L6_B
  repeat' first | exact ChO.const _ | exact h_r6 _ | apply ChO.ite | apply ChO.G | apply ChO.both | (apply ChO.bind; intro _)
theorem word_May_L6_cn  (letters : Int) (w : (List Int)) : Cn (word_May_L6_F letters w) := fun g h hg x => word_May_L6_B_ch  (fun κ t => g κ t) (fun t => h t) (fun t => hg t) letters w x
theorem word_May_L6_eq  (letters : Int) (w : (List Int)) (t : Int) : word_May_L6 letters w t = word_May_L6_B letters w (word_May_L6 letters w) t := LFix_eq (word_May_L6_cn letters w) t

noncomputable def word_Lasso_L2_B (letters : Int) (l : ((List Int) × (List Int) × Unit)) (r2 : Int → Option (Int)) (t : Int) : Option (Int) :=
  if (decide (t < (2 : Int))) = true then
  G (0 ≤ t ∧ t < (2 : Int)) (
  (word_May letters (vget (.list (.int .i64)) 2 (l.1, (l.2.1, ())) (t).toNat)).bind (fun y' =>
  if (decide (¬ y' = (0 : Int))) = true then
  some y' else
  G (fits (t + (1 : Int))) (
  r2 (t + (1 : Int))))) else
  if (decide ((l.2.1.length : Int) = (0 : Int))) = true then
  some (1 : Int) else
  some (0 : Int)
noncomputable def word_Lasso_L2_F (letters : Int) (l : ((List Int) × (List Int) × Unit)) : (Int → Option (Int)) → Int → Option (Int) :=
  fun rec x => word_Lasso_L2_B letters l (fun t => rec t) x
noncomputable def word_Lasso_L2 (letters : Int) (l : ((List Int) × (List Int) × Unit)) (t : Int) : Option (Int) := LFix (word_Lasso_L2_F letters l ) t
noncomputable def word_Lasso (letters : Int) (l : ((List Int) × (List Int) × Unit)) : Option (Int) :=
  word_Lasso_L2 letters l (0 : Int)
theorem word_Lasso_L2_B_ch (r2 : Nat → Int → Option (Int)) (r2' : Int → Option (Int)) (h_r2 : ∀ a0, ChO (fun κ => r2 κ a0) (r2' a0)) (letters : Int) (l : ((List Int) × (List Int) × Unit)) (t : Int) : ChO (fun κ => word_Lasso_L2_B letters l (r2 κ) t) (word_Lasso_L2_B letters l r2' t) := by
  unfold word_Lasso_L2_B
  repeat' first | exact ChO.const _ | exact h_r2 _ | apply ChO.ite | apply ChO.G | apply ChO.both | (apply ChO.bind; intro _)
theorem word_Lasso_L2_cn  (letters : Int) (l : ((List Int) × (List Int) × Unit)) : Cn (word_Lasso_L2_F letters l) := fun g h hg x => word_Lasso_L2_B_ch  (fun κ t => g κ t) (fun t => h t) (fun t => hg t) letters l x
theorem word_Lasso_L2_eq  (letters : Int) (l : ((List Int) × (List Int) × Unit)) (t : Int) : word_Lasso_L2 letters l t = word_Lasso_L2_B letters l (word_Lasso_L2 letters l) t := LFix_eq (word_Lasso_L2_cn letters l) t

noncomputable def det_After_L2_B (d : (Int × Int × (List (List Int)) × (List Int) × Unit)) (w : (List Int)) (r2 : Int → Int → Option (Int)) (q_1 : Int) (t : Int) : Option (Int) :=
  if (decide (t < (w.length : Int))) = true then
  G (0 ≤ t ∧ t < (w.length : Int)) (
  G (0 ≤ q_1 ∧ q_1 < (d.2.2.1.length : Int)) (
  G (0 ≤ ix w t ∧ ix w t < ((ix d.2.2.1 q_1).length : Int)) (
  G (fits (t + (1 : Int))) (
  r2 (ix (ix d.2.2.1 q_1) (ix w t)) (t + (1 : Int)))))) else
  some q_1
noncomputable def det_After_L2_F (d : (Int × Int × (List (List Int)) × (List Int) × Unit)) (w : (List Int)) : (Int × Int → Option (Int)) → Int × Int → Option (Int) :=
  fun rec x => det_After_L2_B d w (fun q_1 t => rec (q_1, t)) x.1 x.2
noncomputable def det_After_L2 (d : (Int × Int × (List (List Int)) × (List Int) × Unit)) (w : (List Int)) (q_1 : Int) (t : Int) : Option (Int) := LFix (det_After_L2_F d w ) (q_1, t)
noncomputable def det_After (d : (Int × Int × (List (List Int)) × (List Int) × Unit)) (q : Int) (w : (List Int)) : Option (Int) :=
  det_After_L2 d w q (0 : Int)
theorem det_After_L2_B_ch (r2 : Nat → Int → Int → Option (Int)) (r2' : Int → Int → Option (Int)) (h_r2 : ∀ a0 a1, ChO (fun κ => r2 κ a0 a1) (r2' a0 a1)) (d : (Int × Int × (List (List Int)) × (List Int) × Unit)) (w : (List Int)) (q_1 : Int) (t : Int) : ChO (fun κ => det_After_L2_B d w (r2 κ) q_1 t) (det_After_L2_B d w r2' q_1 t) := by
  unfold det_After_L2_B
  repeat' first | exact ChO.const _ | exact h_r2 _ _ | apply ChO.ite | apply ChO.G | apply ChO.both | (apply ChO.bind; intro _)
theorem det_After_L2_cn  (d : (Int × Int × (List (List Int)) × (List Int) × Unit)) (w : (List Int)) : Cn (det_After_L2_F d w) := fun g h hg x => det_After_L2_B_ch  (fun κ q_1 t => g κ (q_1, t)) (fun q_1 t => h (q_1, t)) (fun q_1 t => hg (q_1, t)) d w x.1 x.2
theorem det_After_L2_eq  (d : (Int × Int × (List (List Int)) × (List Int) × Unit)) (w : (List Int)) (q_1 : Int) (t : Int) : det_After_L2 d w q_1 t = det_After_L2_B d w (det_After_L2 d w) q_1 t := LFix_eq (det_After_L2_cn d w) (q_1, t)

noncomputable def slices_Index_L2_B (s : (List Int)) (v : Int) (r2 : Int → Option (Int)) (t : Int) : Option (Int) :=
  if (decide (t < (s.length : Int))) = true then
  G (0 ≤ t ∧ t < (s.length : Int)) (
  if (decide (v = (ix s t))) = true then
  some t else
  G (fits (t + (1 : Int))) (
  r2 (t + (1 : Int)))) else
  some (-1 : Int)
noncomputable def slices_Index_L2_F (s : (List Int)) (v : Int) : (Int → Option (Int)) → Int → Option (Int) :=
  fun rec x => slices_Index_L2_B s v (fun t => rec t) x
noncomputable def slices_Index_L2 (s : (List Int)) (v : Int) (t : Int) : Option (Int) := LFix (slices_Index_L2_F s v ) t
noncomputable def slices_Index (s : (List Int)) (v : Int) : Option (Int) :=
  slices_Index_L2 s v (0 : Int)
theorem slices_Index_L2_B_ch (r2 : Nat → Int → Option (Int)) (r2' : Int → Option (Int)) (h_r2 : ∀ a0, ChO (fun κ => r2 κ a0) (r2' a0)) (s : (List Int)) (v : Int) (t : Int) : ChO (fun κ => slices_Index_L2_B s v (r2 κ) t) (slices_Index_L2_B s v r2' t) := by
  unfold slices_Index_L2_B
  repeat' first | exact ChO.const _ | exact h_r2 _ | apply ChO.ite | apply ChO.G | apply ChO.both | (apply ChO.bind; intro _)
theorem slices_Index_L2_cn  (s : (List Int)) (v : Int) : Cn (slices_Index_L2_F s v) := fun g h hg x => slices_Index_L2_B_ch  (fun κ t => g κ t) (fun t => h t) (fun t => hg t) s v x
theorem slices_Index_L2_eq  (s : (List Int)) (v : Int) (t : Int) : slices_Index_L2 s v t = slices_Index_L2_B s v (slices_Index_L2 s v) t := LFix_eq (slices_Index_L2_cn s v) t

noncomputable def slices_Contains (s : (List Int)) (v : Int) : Option (Bool) :=
  (slices_Index s v).bind (fun y' =>
  some (decide ((0 : Int) ≤ y')))

noncomputable def muller_Accepts_L16_B (m : (Int × Int × (List (List Int)) × (List Int) × Unit)) (l : ((List Int) × (List Int) × Unit)) (q : Int) (r15 : (Int → Int → Option (Bool × Int))) (r16 : Int → Int → Int → Option (Bool × Int)) (q_2 : Int) (set'_1 : Int) (t_1 : Int) : Option (Bool × Int) :=
  if (decide (t_1 < (l.2.1.length : Int))) = true then
  G (0 ≤ t_1 ∧ t_1 < (l.2.1.length : Int)) (
  G (0 ≤ q_2 ∧ q_2 < (m.2.2.1.length : Int)) (
  G (0 ≤ ix l.2.1 t_1 ∧ ix l.2.1 t_1 < ((ix m.2.2.1 q_2).length : Int)) (
  G (0 ≤ ix (ix m.2.2.1 q_2) (ix l.2.1 t_1)) (
  G (fits (t_1 + (1 : Int))) (
  r16 (ix (ix m.2.2.1 q_2) (ix l.2.1 t_1)) (ior .i64 set'_1 (ishl .i64 (1 : Int) (ix (ix m.2.2.1 q_2) (ix l.2.1 t_1)))) (t_1 + (1 : Int))))))) else
  if (decide (q_2 = q)) = true then
  (slices_Contains m.2.2.2.1 set'_1).bind (fun y'_4 =>
  some (y'_4, (0 : Int))) else
  r15 q_2 set'_1
noncomputable def muller_Accepts_L16_F (m : (Int × Int × (List (List Int)) × (List Int) × Unit)) (l : ((List Int) × (List Int) × Unit)) (q : Int) (r15 : (Int → Int → Option (Bool × Int))) : (Int × Int × Int → Option (Bool × Int)) → Int × Int × Int → Option (Bool × Int) :=
  fun rec x => muller_Accepts_L16_B m l q r15 (fun q_2 set'_1 t_1 => rec (q_2, set'_1, t_1)) x.1 x.2.1 x.2.2
noncomputable def muller_Accepts_L16 (m : (Int × Int × (List (List Int)) × (List Int) × Unit)) (l : ((List Int) × (List Int) × Unit)) (q : Int) (r15 : (Int → Int → Option (Bool × Int))) (q_2 : Int) (set'_1 : Int) (t_1 : Int) : Option (Bool × Int) := LFix (muller_Accepts_L16_F m l q r15 ) (q_2, set'_1, t_1)
noncomputable def muller_Accepts_L15_B (m : (Int × Int × (List (List Int)) × (List Int) × Unit)) (l : ((List Int) × (List Int) × Unit)) (q : Int) (r15 : Int → Int → Option (Bool × Int)) (q_1 : Int) (set' : Int) : Option (Bool × Int) :=
  muller_Accepts_L16 m l q r15 q_1 set' (0 : Int)
noncomputable def muller_Accepts_L15_F (m : (Int × Int × (List (List Int)) × (List Int) × Unit)) (l : ((List Int) × (List Int) × Unit)) (q : Int) : (Int × Int → Option (Bool × Int)) → Int × Int → Option (Bool × Int) :=
  fun rec x => muller_Accepts_L15_B m l q (fun q_1 set' => rec (q_1, set')) x.1 x.2
noncomputable def muller_Accepts_L15 (m : (Int × Int × (List (List Int)) × (List Int) × Unit)) (l : ((List Int) × (List Int) × Unit)) (q : Int) (q_1 : Int) (set' : Int) : Option (Bool × Int) := LFix (muller_Accepts_L15_F m l q ) (q_1, set')
noncomputable def muller_Accepts_L10_B (m : (Int × Int × (List (List Int)) × (List Int) × Unit)) (l : ((List Int) × (List Int) × Unit)) (r10 : Int → Int → Option (Bool × Int)) (q : Int) (t : Int) : Option (Bool × Int) :=
  if (decide (t < (m.2.2.1.length : Int))) = true then
  (det_After (m.1, ((0 : Int), (m.2.2.1, ([], ())))) q l.2.1).bind (fun y'_3 =>
  G (fits (t + (1 : Int))) (
  r10 y'_3 (t + (1 : Int)))) else
  muller_Accepts_L15 m l q q (0 : Int)
noncomputable def muller_Accepts_L10_F (m : (Int × Int × (List (List Int)) × (List Int) × Unit)) (l : ((List Int) × (List Int) × Unit)) : (Int × Int → Option (Bool × Int)) → Int × Int → Option (Bool × Int) :=
  fun rec x => muller_Accepts_L10_B m l (fun q t => rec (q, t)) x.1 x.2
noncomputable def muller_Accepts_L10 (m : (Int × Int × (List (List Int)) × (List Int) × Unit)) (l : ((List Int) × (List Int) × Unit)) (q : Int) (t : Int) : Option (Bool × Int) := LFix (muller_Accepts_L10_F m l ) (q, t)
noncomputable def muller_Accepts (m : (Int × Int × (List (List Int)) × (List Int) × Unit)) (l : ((List Int) × (List Int) × Unit)) : Option (Bool × Int) :=
  (muller_Check (m.1, (m.2.1, (m.2.2.1, (m.2.2.2.1, ()))))).bind (fun y' =>
  if (decide (¬ y' = (0 : Int))) = true then
  some (false, y') else
  (word_Lasso m.1 (l.1, (l.2.1, ()))).bind (fun y'_1 =>
  if (decide (¬ y'_1 = (0 : Int))) = true then
  some (false, y'_1) else
  (det_After (m.1, ((0 : Int), (m.2.2.1, ([], ())))) m.2.1 l.1).bind (fun y'_2 =>
  muller_Accepts_L10 m l y'_2 (0 : Int))))
theorem muller_Accepts_L16_B_ch (r15 : Nat → Int → Int → Option (Bool × Int)) (r15' : Int → Int → Option (Bool × Int)) (h_r15 : ∀ a0 a1, ChO (fun κ => r15 κ a0 a1) (r15' a0 a1)) (r16 : Nat → Int → Int → Int → Option (Bool × Int)) (r16' : Int → Int → Int → Option (Bool × Int)) (h_r16 : ∀ a0 a1 a2, ChO (fun κ => r16 κ a0 a1 a2) (r16' a0 a1 a2)) (m : (Int × Int × (List (List Int)) × (List Int) × Unit)) (l : ((List Int) × (List Int) × Unit)) (q : Int) (q_2 : Int) (set'_1 : Int) (t_1 : Int) : ChO (fun κ => muller_Accepts_L16_B m l q (r15 κ) (r16 κ) q_2 set'_1 t_1) (muller_Accepts_L16_B m l q r15' r16' q_2 set'_1 t_1) := by
  unfold muller_Accepts_L16_B
  repeat' first | exact ChO.const _ | exact h_r15 _ _ | exact h_r16 _ _ _ | apply ChO.ite | apply ChO.G | apply ChO.both | (apply ChO.bind; intro _)
theorem muller_Accepts_L16_cn (r15 : Int → Int → Option (Bool × Int)) (m : (Int × Int × (List (List Int)) × (List Int) × Unit)) (l : ((List Int) × (List Int) × Unit)) (q : Int) : Cn (muller_Accepts_L16_F m l q r15) := fun g h hg x => muller_Accepts_L16_B_ch (fun _ => r15) r15 (fun _ _ => ChO.const _) (fun κ q_2 set'_1 t_1 => g κ (q_2, set'_1, t_1)) (fun q_2 set'_1 t_1 => h (q_2, set'_1, t_1)) (fun q_2 set'_1 t_1 => hg (q_2, set'_1, t_1)) m l q x.1 x.2.1 x.2.2
theorem muller_Accepts_L16_eq (r15 : Int → Int → Option (Bool × Int)) (m : (Int × Int × (List (List Int)) × (List Int) × Unit)) (l : ((List Int) × (List Int) × Unit)) (q : Int) (q_2 : Int) (set'_1 : Int) (t_1 : Int) : muller_Accepts_L16 m l q r15 q_2 set'_1 t_1 = muller_Accepts_L16_B m l q r15 (muller_Accepts_L16 m l q r15) q_2 set'_1 t_1 := LFix_eq (muller_Accepts_L16_cn r15 m l q) (q_2, set'_1, t_1)
theorem muller_Accepts_L16_ch (r15 : Nat → Int → Int → Option (Bool × Int)) (r15' : Int → Int → Option (Bool × Int)) (h_r15 : ∀ a0 a1, ChO (fun κ => r15 κ a0 a1) (r15' a0 a1)) (m : (Int × Int × (List (List Int)) × (List Int) × Unit)) (l : ((List Int) × (List Int) × Unit)) (q : Int) (q_2 : Int) (set'_1 : Int) (t_1 : Int) : ChO (fun κ => muller_Accepts_L16 m l q (r15 κ) q_2 set'_1 t_1) (muller_Accepts_L16 m l q r15' q_2 set'_1 t_1) := by
  unfold muller_Accepts_L16
  exact LFix_ch (fun κ => (muller_Accepts_L16_cn (r15 κ) m l q).mono) (muller_Accepts_L16_cn r15' m l q).mono (fun g h hg x => muller_Accepts_L16_B_ch r15 r15' h_r15 (fun κ q_2 set'_1 t_1 => g κ (q_2, set'_1, t_1)) (fun q_2 set'_1 t_1 => h (q_2, set'_1, t_1)) (fun q_2 set'_1 t_1 => hg (q_2, set'_1, t_1)) m l q x.1 x.2.1 x.2.2) _
theorem muller_Accepts_L15_B_ch (r15 : Nat → Int → Int → Option (Bool × Int)) (r15' : Int → Int → Option (Bool × Int)) (h_r15 : ∀ a0 a1, ChO (fun κ => r15 κ a0 a1) (r15' a0 a1)) (m : (Int × Int × (List (List Int)) × (List Int) × Unit)) (l : ((List Int) × (List Int) × Unit)) (q : Int) (q_1 : Int) (set' : Int) : ChO (fun κ => muller_Accepts_L15_B m l q (r15 κ) q_1 set') (muller_Accepts_L15_B m l q r15' q_1 set') := by
  unfold muller_Accepts_L15_B
  repeat' first | exact ChO.const _ | exact h_r15 _ _ | (apply muller_Accepts_L16_ch <;> assumption) | apply ChO.ite | apply ChO.G | apply ChO.both | (apply ChO.bind; intro _)
theorem muller_Accepts_L15_cn  (m : (Int × Int × (List (List Int)) × (List Int) × Unit)) (l : ((List Int) × (List Int) × Unit)) (q : Int) : Cn (muller_Accepts_L15_F m l q) := fun g h hg x => muller_Accepts_L15_B_ch  (fun κ q_1 set' => g κ (q_1, set')) (fun q_1 set' => h (q_1, set')) (fun q_1 set' => hg (q_1, set')) m l q x.1 x.2
theorem muller_Accepts_L15_eq  (m : (Int × Int × (List (List Int)) × (List Int) × Unit)) (l : ((List Int) × (List Int) × Unit)) (q : Int) (q_1 : Int) (set' : Int) : muller_Accepts_L15 m l q q_1 set' = muller_Accepts_L15_B m l q (muller_Accepts_L15 m l q) q_1 set' := LFix_eq (muller_Accepts_L15_cn m l q) (q_1, set')
theorem muller_Accepts_L10_B_ch (r10 : Nat → Int → Int → Option (Bool × Int)) (r10' : Int → Int → Option (Bool × Int)) (h_r10 : ∀ a0 a1, ChO (fun κ => r10 κ a0 a1) (r10' a0 a1)) (m : (Int × Int × (List (List Int)) × (List Int) × Unit)) (l : ((List Int) × (List Int) × Unit)) (q : Int) (t : Int) : ChO (fun κ => muller_Accepts_L10_B m l (r10 κ) q t) (muller_Accepts_L10_B m l r10' q t) := by
  unfold muller_Accepts_L10_B
  repeat' first | exact ChO.const _ | exact h_r10 _ _ | (apply muller_Accepts_L16_ch <;> assumption) | apply ChO.ite | apply ChO.G | apply ChO.both | (apply ChO.bind; intro _)
theorem muller_Accepts_L10_cn  (m : (Int × Int × (List (List Int)) × (List Int) × Unit)) (l : ((List Int) × (List Int) × Unit)) : Cn (muller_Accepts_L10_F m l) := fun g h hg x => muller_Accepts_L10_B_ch  (fun κ q t => g κ (q, t)) (fun q t => h (q, t)) (fun q t => hg (q, t)) m l x.1 x.2
theorem muller_Accepts_L10_eq  (m : (Int × Int × (List (List Int)) × (List Int) × Unit)) (l : ((List Int) × (List Int) × Unit)) (q : Int) (t : Int) : muller_Accepts_L10 m l q t = muller_Accepts_L10_B m l (muller_Accepts_L10 m l) q t := LFix_eq (muller_Accepts_L10_cn m l) (q, t)

noncomputable def r1_May_L6_B (letters : Int) (w : (List Int)) (r6 : Int → Option (Int)) (i : Int) : Option (Int) :=
  if (decide (i < (w.length : Int))) = true then
  G (0 ≤ i ∧ i < (w.length : Int)) (
  if (decide ((ix w i) < (0 : Int))) = true then
  some (2 : Int) else
  G (0 ≤ i ∧ i < (w.length : Int)) (
  if (decide (letters ≤ (ix w i))) = true then
  some (2 : Int) else
  G (fits (i + (1 : Int))) (
  r6 (i + (1 : Int))))) else
  some (0 : Int)
noncomputable def r1_May_L6_F (letters : Int) (w : (List Int)) : (Int → Option (Int)) → Int → Option (Int) :=
  fun rec x => r1_May_L6_B letters w (fun i => rec i) x
noncomputable def r1_May_L6 (letters : Int) (w : (List Int)) (i : Int) : Option (Int) := LFix (r1_May_L6_F letters w ) i
noncomputable def r1_May (letters : Int) (w : (List Int)) : Option (Int) :=
  if (decide (letters < (1 : Int))) = true then
  some (2 : Int) else
  if (decide ((4 : Int) < letters)) = true then
  some (2 : Int) else
  if (decide ((60 : Int) < (w.length : Int))) = true then
  some (1 : Int) else
  r1_May_L6 letters w (0 : Int)
theorem r1_May_L6_B_ch (r6 : Nat → Int → Option (Int)) (r6' : Int → Option (Int)) (h_r6 : ∀ a0, ChO (fun κ => r6 κ a0) (r6' a0)) (letters : Int) (w : (List Int)) (i : Int) : ChO (fun κ => r1_May_L6_B letters w (r6 κ) i) (r1_May_L6_B letters w r6' i) := by
  unfold r1_May_L6_B
  repeat' first | exact ChO.const _ | exact h_r6 _ | apply ChO.ite | apply ChO.G | apply ChO.both | (apply ChO.bind; intro _)
theorem r1_May_L6_cn  (letters : Int) (w : (List Int)) : Cn (r1_May_L6_F letters w) := fun g h hg x => r1_May_L6_B_ch  (fun κ i => g κ i) (fun i => h i) (fun i => hg i) letters w x
theorem r1_May_L6_eq  (letters : Int) (w : (List Int)) (i : Int) : r1_May_L6 letters w i = r1_May_L6_B letters w (r1_May_L6 letters w) i := LFix_eq (r1_May_L6_cn letters w) i

noncomputable def r1_Lasso (letters : Int) (l : ((List Int) × (List Int) × Unit)) : Option (Int) :=
  (r1_May letters l.1).bind (fun y' =>
  if (decide (¬ y' = (0 : Int))) = true then
  some y' else
  (r1_May letters l.2.1).bind (fun y'_1 =>
  if (decide (¬ y'_1 = (0 : Int))) = true then
  some y'_1 else
  if (decide ((l.2.1.length : Int) = (0 : Int))) = true then
  some (1 : Int) else
  some (0 : Int)))

noncomputable def r34_Accepts_L13_B (m : (Int × Int × (List (List Int)) × (List Int) × Unit)) (l : ((List Int) × (List Int) × Unit)) (round : Int) (r8 : (Int → Int → Int → Option (Bool))) (r13 : Int → Int → Int → Option (Bool)) (q_2 : Int) (set'_2 : Int) (i_1 : Int) : Option (Bool) :=
  if (decide (i_1 < (l.2.1.length : Int))) = true then
  G (0 ≤ q_2 ∧ q_2 < (m.2.2.1.length : Int)) (
  G (0 ≤ i_1 ∧ i_1 < (l.2.1.length : Int)) (
  G (0 ≤ ix l.2.1 i_1 ∧ ix l.2.1 i_1 < ((ix m.2.2.1 q_2).length : Int)) (
  G (0 ≤ ix (ix m.2.2.1 q_2) (ix l.2.1 i_1)) (
  G (fits (i_1 + (1 : Int))) (
  r13 (ix (ix m.2.2.1 q_2) (ix l.2.1 i_1)) (ior .i64 set'_2 (ishl .i64 (1 : Int) (ix (ix m.2.2.1 q_2) (ix l.2.1 i_1)))) (i_1 + (1 : Int))))))) else
  G (fits (round + (1 : Int))) (
  r8 q_2 set'_2 (round + (1 : Int)))
noncomputable def r34_Accepts_L13_F (m : (Int × Int × (List (List Int)) × (List Int) × Unit)) (l : ((List Int) × (List Int) × Unit)) (round : Int) (r8 : (Int → Int → Int → Option (Bool))) : (Int × Int × Int → Option (Bool)) → Int × Int × Int → Option (Bool) :=
  fun rec x => r34_Accepts_L13_B m l round r8 (fun q_2 set'_2 i_1 => rec (q_2, set'_2, i_1)) x.1 x.2.1 x.2.2
noncomputable def r34_Accepts_L13 (m : (Int × Int × (List (List Int)) × (List Int) × Unit)) (l : ((List Int) × (List Int) × Unit)) (round : Int) (r8 : (Int → Int → Int → Option (Bool))) (q_2 : Int) (set'_2 : Int) (i_1 : Int) : Option (Bool) := LFix (r34_Accepts_L13_F m l round r8 ) (q_2, set'_2, i_1)
noncomputable def r34_Accepts_J11 (m : (Int × Int × (List (List Int)) × (List Int) × Unit)) (l : ((List Int) × (List Int) × Unit)) (q_1 : Int) (round : Int) (r8 : (Int → Int → Int → Option (Bool))) (set'_1 : Int) : Option (Bool) :=
  r34_Accepts_L13 m l round r8 q_1 set'_1 (0 : Int)
noncomputable def r34_Accepts_L18_B (m : (Int × Int × (List (List Int)) × (List Int) × Unit)) (set' : Int) (r18 : Int → Option (Bool)) (i_2 : Int) : Option (Bool) :=
  if (decide (i_2 < (m.2.2.2.1.length : Int))) = true then
  G (0 ≤ i_2 ∧ i_2 < (m.2.2.2.1.length : Int)) (
  if (decide ((ix m.2.2.2.1 i_2) = set')) = true then
  some true else
  G (fits (i_2 + (1 : Int))) (
  r18 (i_2 + (1 : Int)))) else
  some false
noncomputable def r34_Accepts_L18_F (m : (Int × Int × (List (List Int)) × (List Int) × Unit)) (set' : Int) : (Int → Option (Bool)) → Int → Option (Bool) :=
  fun rec x => r34_Accepts_L18_B m set' (fun i_2 => rec i_2) x
noncomputable def r34_Accepts_L18 (m : (Int × Int × (List (List Int)) × (List Int) × Unit)) (set' : Int) (i_2 : Int) : Option (Bool) := LFix (r34_Accepts_L18_F m set' ) i_2
noncomputable def r34_Accepts_L8_B (m : (Int × Int × (List (List Int)) × (List Int) × Unit)) (l : ((List Int) × (List Int) × Unit)) (r8 : Int → Int → Int → Option (Bool)) (q_1 : Int) (set' : Int) (round : Int) : Option (Bool) :=
  G (fits ((2 : Int) * (m.2.2.1.length : Int))) (
  if (decide (round < ((2 : Int) * (m.2.2.1.length : Int)))) = true then
  if (decide (round = (m.2.2.1.length : Int))) = true then
  r34_Accepts_J11 m l q_1 round r8 (0 : Int) else
  r34_Accepts_J11 m l q_1 round r8 set' else
  r34_Accepts_L18 m set' (0 : Int))
noncomputable def r34_Accepts_L8_F (m : (Int × Int × (List (List Int)) × (List Int) × Unit)) (l : ((List Int) × (List Int) × Unit)) : (Int × Int × Int → Option (Bool)) → Int × Int × Int → Option (Bool) :=
  fun rec x => r34_Accepts_L8_B m l (fun q_1 set' round => rec (q_1, set', round)) x.1 x.2.1 x.2.2
noncomputable def r34_Accepts_L8 (m : (Int × Int × (List (List Int)) × (List Int) × Unit)) (l : ((List Int) × (List Int) × Unit)) (q_1 : Int) (set' : Int) (round : Int) : Option (Bool) := LFix (r34_Accepts_L8_F m l ) (q_1, set', round)
noncomputable def r34_Accepts_L3_B (m : (Int × Int × (List (List Int)) × (List Int) × Unit)) (l : ((List Int) × (List Int) × Unit)) (r3 : Int → Int → Option (Bool)) (q : Int) (i : Int) : Option (Bool) :=
  if (decide (i < (l.1.length : Int))) = true then
  G (0 ≤ q ∧ q < (m.2.2.1.length : Int)) (
  G (0 ≤ i ∧ i < (l.1.length : Int)) (
  G (0 ≤ ix l.1 i ∧ ix l.1 i < ((ix m.2.2.1 q).length : Int)) (
  G (fits (i + (1 : Int))) (
  r3 (ix (ix m.2.2.1 q) (ix l.1 i)) (i + (1 : Int)))))) else
  r34_Accepts_L8 m l q (0 : Int) (0 : Int)
noncomputable def r34_Accepts_L3_F (m : (Int × Int × (List (List Int)) × (List Int) × Unit)) (l : ((List Int) × (List Int) × Unit)) : (Int × Int → Option (Bool)) → Int × Int → Option (Bool) :=
  fun rec x => r34_Accepts_L3_B m l (fun q i => rec (q, i)) x.1 x.2
noncomputable def r34_Accepts_L3 (m : (Int × Int × (List (List Int)) × (List Int) × Unit)) (l : ((List Int) × (List Int) × Unit)) (q : Int) (i : Int) : Option (Bool) := LFix (r34_Accepts_L3_F m l ) (q, i)
noncomputable def r34_Accepts (m : (Int × Int × (List (List Int)) × (List Int) × Unit)) (l : ((List Int) × (List Int) × Unit)) : Option (Bool) :=
  r34_Accepts_L3 m l m.2.1 (0 : Int)
theorem r34_Accepts_L13_B_ch (r8 : Nat → Int → Int → Int → Option (Bool)) (r8' : Int → Int → Int → Option (Bool)) (h_r8 : ∀ a0 a1 a2, ChO (fun κ => r8 κ a0 a1 a2) (r8' a0 a1 a2)) (r13 : Nat → Int → Int → Int → Option (Bool)) (r13' : Int → Int → Int → Option (Bool)) (h_r13 : ∀ a0 a1 a2, ChO (fun κ => r13 κ a0 a1 a2) (r13' a0 a1 a2)) (m : (Int × Int × (List (List Int)) × (List Int) × Unit)) (l : ((List Int) × (List Int) × Unit)) (round : Int) (q_2 : Int) (set'_2 : Int) (i_1 : Int) : ChO (fun κ => r34_Accepts_L13_B m l round (r8 κ) (r13 κ) q_2 set'_2 i_1) (r34_Accepts_L13_B m l round r8' r13' q_2 set'_2 i_1) := by
  unfold r34_Accepts_L13_B
  repeat' first | exact ChO.const _ | exact h_r8 _ _ _ | exact h_r13 _ _ _ | apply ChO.ite | apply ChO.G | apply ChO.both | (apply ChO.bind; intro _)
theorem r34_Accepts_L13_cn (r8 : Int → Int → Int → Option (Bool)) (m : (Int × Int × (List (List Int)) × (List Int) × Unit)) (l : ((List Int) × (List Int) × Unit)) (round : Int) : Cn (r34_Accepts_L13_F m l round r8) := fun g h hg x => r34_Accepts_L13_B_ch (fun _ => r8) r8 (fun _ _ _ => ChO.const _) (fun κ q_2 set'_2 i_1 => g κ (q_2, set'_2, i_1)) (fun q_2 set'_2 i_1 => h (q_2, set'_2, i_1)) (fun q_2 set'_2 i_1 => hg (q_2, set'_2, i_1)) m l round x.1 x.2.1 x.2.2
theorem r34_Accepts_L13_eq (r8 : Int → Int → Int → Option (Bool)) (m : (Int × Int × (List (List Int)) × (List Int) × Unit)) (l : ((List Int) × (List Int) × Unit)) (round : Int) (q_2 : Int) (set'_2 : Int) (i_1 : Int) : r34_Accepts_L13 m l round r8 q_2 set'_2 i_1 = r34_Accepts_L13_B m l round r8 (r34_Accepts_L13 m l round r8) q_2 set'_2 i_1 := LFix_eq (r34_Accepts_L13_cn r8 m l round) (q_2, set'_2, i_1)
theorem r34_Accepts_L13_ch (r8 : Nat → Int → Int → Int → Option (Bool)) (r8' : Int → Int → Int → Option (Bool)) (h_r8 : ∀ a0 a1 a2, ChO (fun κ => r8 κ a0 a1 a2) (r8' a0 a1 a2)) (m : (Int × Int × (List (List Int)) × (List Int) × Unit)) (l : ((List Int) × (List Int) × Unit)) (round : Int) (q_2 : Int) (set'_2 : Int) (i_1 : Int) : ChO (fun κ => r34_Accepts_L13 m l round (r8 κ) q_2 set'_2 i_1) (r34_Accepts_L13 m l round r8' q_2 set'_2 i_1) := by
  unfold r34_Accepts_L13
  exact LFix_ch (fun κ => (r34_Accepts_L13_cn (r8 κ) m l round).mono) (r34_Accepts_L13_cn r8' m l round).mono (fun g h hg x => r34_Accepts_L13_B_ch r8 r8' h_r8 (fun κ q_2 set'_2 i_1 => g κ (q_2, set'_2, i_1)) (fun q_2 set'_2 i_1 => h (q_2, set'_2, i_1)) (fun q_2 set'_2 i_1 => hg (q_2, set'_2, i_1)) m l round x.1 x.2.1 x.2.2) _
theorem r34_Accepts_J11_ch (r8 : Nat → Int → Int → Int → Option (Bool)) (r8' : Int → Int → Int → Option (Bool)) (h_r8 : ∀ a0 a1 a2, ChO (fun κ => r8 κ a0 a1 a2) (r8' a0 a1 a2)) (m : (Int × Int × (List (List Int)) × (List Int) × Unit)) (l : ((List Int) × (List Int) × Unit)) (q_1 : Int) (round : Int) (set'_1 : Int) : ChO (fun κ => r34_Accepts_J11 m l q_1 round (r8 κ) set'_1) (r34_Accepts_J11 m l q_1 round r8' set'_1) := by
  unfold r34_Accepts_J11
  repeat' first | exact ChO.const _ | exact h_r8 _ _ _ | (apply r34_Accepts_L13_ch <;> assumption) | apply ChO.ite | apply ChO.G | apply ChO.both | (apply ChO.bind; intro _)
theorem r34_Accepts_L18_B_ch (r18 : Nat → Int → Option (Bool)) (r18' : Int → Option (Bool)) (h_r18 : ∀ a0, ChO (fun κ => r18 κ a0) (r18' a0)) (m : (Int × Int × (List (List Int)) × (List Int) × Unit)) (set' : Int) (i_2 : Int) : ChO (fun κ => r34_Accepts_L18_B m set' (r18 κ) i_2) (r34_Accepts_L18_B m set' r18' i_2) := by
  unfold r34_Accepts_L18_B
  repeat' first | exact ChO.const _ | exact h_r18 _ | (apply r34_Accepts_L13_ch <;> assumption) | (apply r34_Accepts_J11_ch <;> assumption) | apply ChO.ite | apply ChO.G | apply ChO.both | (apply ChO.bind; intro _)
theorem r34_Accepts_L18_cn  (m : (Int × Int × (List (List Int)) × (List Int) × Unit)) (set' : Int) : Cn (r34_Accepts_L18_F m set') := fun g h hg x => r34_Accepts_L18_B_ch  (fun κ i_2 => g κ i_2) (fun i_2 => h i_2) (fun i_2 => hg i_2) m set' x
theorem r34_Accepts_L18_eq  (m : (Int × Int × (List (List Int)) × (List Int) × Unit)) (set' : Int) (i_2 : Int) : r34_Accepts_L18 m set' i_2 = r34_Accepts_L18_B m set' (r34_Accepts_L18 m set') i_2 := LFix_eq (r34_Accepts_L18_cn m set') i_2
theorem r34_Accepts_L8_B_ch (r8 : Nat → Int → Int → Int → Option (Bool)) (r8' : Int → Int → Int → Option (Bool)) (h_r8 : ∀ a0 a1 a2, ChO (fun κ => r8 κ a0 a1 a2) (r8' a0 a1 a2)) (m : (Int × Int × (List (List Int)) × (List Int) × Unit)) (l : ((List Int) × (List Int) × Unit)) (q_1 : Int) (set' : Int) (round : Int) : ChO (fun κ => r34_Accepts_L8_B m l (r8 κ) q_1 set' round) (r34_Accepts_L8_B m l r8' q_1 set' round) := by
  unfold r34_Accepts_L8_B
  repeat' first | exact ChO.const _ | exact h_r8 _ _ _ | (apply r34_Accepts_L13_ch <;> assumption) | (apply r34_Accepts_J11_ch <;> assumption) | apply ChO.ite | apply ChO.G | apply ChO.both | (apply ChO.bind; intro _)
theorem r34_Accepts_L8_cn  (m : (Int × Int × (List (List Int)) × (List Int) × Unit)) (l : ((List Int) × (List Int) × Unit)) : Cn (r34_Accepts_L8_F m l) := fun g h hg x => r34_Accepts_L8_B_ch  (fun κ q_1 set' round => g κ (q_1, set', round)) (fun q_1 set' round => h (q_1, set', round)) (fun q_1 set' round => hg (q_1, set', round)) m l x.1 x.2.1 x.2.2
theorem r34_Accepts_L8_eq  (m : (Int × Int × (List (List Int)) × (List Int) × Unit)) (l : ((List Int) × (List Int) × Unit)) (q_1 : Int) (set' : Int) (round : Int) : r34_Accepts_L8 m l q_1 set' round = r34_Accepts_L8_B m l (r34_Accepts_L8 m l) q_1 set' round := LFix_eq (r34_Accepts_L8_cn m l) (q_1, set', round)
theorem r34_Accepts_L3_B_ch (r3 : Nat → Int → Int → Option (Bool)) (r3' : Int → Int → Option (Bool)) (h_r3 : ∀ a0 a1, ChO (fun κ => r3 κ a0 a1) (r3' a0 a1)) (m : (Int × Int × (List (List Int)) × (List Int) × Unit)) (l : ((List Int) × (List Int) × Unit)) (q : Int) (i : Int) : ChO (fun κ => r34_Accepts_L3_B m l (r3 κ) q i) (r34_Accepts_L3_B m l r3' q i) := by
  unfold r34_Accepts_L3_B
  repeat' first | exact ChO.const _ | exact h_r3 _ _ | (apply r34_Accepts_L13_ch <;> assumption) | (apply r34_Accepts_J11_ch <;> assumption) | apply ChO.ite | apply ChO.G | apply ChO.both | (apply ChO.bind; intro _)
theorem r34_Accepts_L3_cn  (m : (Int × Int × (List (List Int)) × (List Int) × Unit)) (l : ((List Int) × (List Int) × Unit)) : Cn (r34_Accepts_L3_F m l) := fun g h hg x => r34_Accepts_L3_B_ch  (fun κ q i => g κ (q, i)) (fun q i => h (q, i)) (fun q i => hg (q, i)) m l x.1 x.2
theorem r34_Accepts_L3_eq  (m : (Int × Int × (List (List Int)) × (List Int) × Unit)) (l : ((List Int) × (List Int) × Unit)) (q : Int) (i : Int) : r34_Accepts_L3 m l q i = r34_Accepts_L3_B m l (r34_Accepts_L3 m l) q i := LFix_eq (r34_Accepts_L3_cn m l) (q, i)

noncomputable def law_MullerAccepts_J7 (m : (Int × Int × (List (List Int)) × (List Int) × Unit)) (l : ((List Int) × (List Int) × Unit)) (y'_2 : Bool) (y'_3 : Int) (no : Int) : Option (Bool) :=
  if (decide (¬ no = (0 : Int))) = true then
  if (decide (y'_3 = no)) = true then
  some (!y'_2) else
  some false else
  (r34_Accepts (m.1, (m.2.1, (m.2.2.1, (m.2.2.2.1, ())))) (l.1, (l.2.1, ()))).bind (fun y'_6 =>
  if (decide (y'_3 = (0 : Int))) = true then
  some (decide (y'_2 = y'_6)) else
  some false)
noncomputable def law_MullerAccepts (m : (Int × Int × (List (List Int)) × (List Int) × Unit)) (l : ((List Int) × (List Int) × Unit)) : Option (Bool) :=
  (muller_Check (m.1, (m.2.1, (m.2.2.1, (m.2.2.2.1, ()))))).bind (fun y' =>
  (r34_Check (m.1, (m.2.1, (m.2.2.1, (m.2.2.2.1, ()))))).bind (fun y'_1 =>
  (muller_Accepts (m.1, (m.2.1, (m.2.2.1, (m.2.2.2.1, ())))) (l.1, (l.2.1, ()))).bind (fun y'_7 =>
  if (decide (¬ y' = y'_1)) = true then
  some false else
  if (decide (y'_1 = (0 : Int))) = true then
  (r1_Lasso m.1 (l.1, (l.2.1, ()))).bind (fun y'_5 =>
  law_MullerAccepts_J7 m l y'_7.1 y'_7.2 y'_5) else
  law_MullerAccepts_J7 m l y'_7.1 y'_7.2 y'_1)))

end Go.Proofs.Ytjhgdnfkipchoaa.mullerAcceptsW
