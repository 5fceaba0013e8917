/- What the functions that 'SafraAccepts' reaches compute: plain functions. -/
import Derived.Test.YtjhgdnfkipchoaaEv4n21
set_option maxHeartbeats 1000000
set_option maxRecDepth 20000
set_option linter.unusedSimpArgs false
set_option linter.unusedVariables false
namespace Go.Proofs.Ytjhgdnfkipchoaa.safraAcceptsW
open Go Go.Ab
noncomputable def safra_Check_1 (r : (List Int)) (t : (Int × Int × (List (List Int)) × (List Int) × Unit)) : Option (Bool) :=
  some (decide (¬ (r.length : Int) = t.1))

noncomputable def slices_IndexFunc_L2_B (s : (List (List Int))) (c : (Int × Int × (List (List Int)) × (List Int) × Unit)) (r2 : Int → Option (Int)) (t : Int) : Option (Int) :=
  if (decide (t < (s.length : Int))) = true then
  G (0 ≤ t ∧ t < (s.length : Int)) (
  (safra_Check_1 (ix s t) c).bind (fun y' =>
  if y' = true then
  some t else
  G (fits (t + (1 : Int))) (
  r2 (t + (1 : Int))))) else
  some (-1 : Int)
noncomputable def slices_IndexFunc_L2_F (s : (List (List Int))) (c : (Int × Int × (List (List Int)) × (List Int) × Unit)) : (Int → Option (Int)) → Int → Option (Int) :=
  fun rec x => slices_IndexFunc_L2_B s c (fun t => rec t) x
noncomputable def slices_IndexFunc_L2 (s : (List (List Int))) (c : (Int × Int × (List (List Int)) × (List Int) × Unit)) (t : Int) : Option (Int) := LFix (slices_IndexFunc_L2_F s c ) t
noncomputable def slices_IndexFunc (s : (List (List Int))) (c : (Int × Int × (List (List Int)) × (List Int) × Unit)) : Option (Int) :=
  slices_IndexFunc_L2 s c (0 : Int)
theorem slices_IndexFunc_L2_B_ch (r2 : Nat → Int → Option (Int)) (r2' : Int → Option (Int)) (h_r2 : ∀ a0, ChO (fun κ => r2 κ a0) (r2' a0)) (s : (List (List Int))) (c : (Int × Int × (List (List Int)) × (List Int) × Unit)) (t : Int) : ChO (fun κ => slices_IndexFunc_L2_B s c (r2 κ) t) (slices_IndexFunc_L2_B s c r2' t) := by
  unfold slices_IndexFunc_L2_B
  repeat' first | exact ChO.const _ | exact h_r2 _ | apply ChO.ite | apply ChO.G | apply ChO.both | (apply ChO.bind; intro _)
theorem slices_IndexFunc_L2_cn  (s : (List (List Int))) (c : (Int × Int × (List (List Int)) × (List Int) × Unit)) : Cn (slices_IndexFunc_L2_F s c) := fun g h hg x => slices_IndexFunc_L2_B_ch  (fun κ t => g κ t) (fun t => h t) (fun t => hg t) s c x
theorem slices_IndexFunc_L2_eq  (s : (List (List Int))) (c : (Int × Int × (List (List Int)) × (List Int) × Unit)) (t : Int) : slices_IndexFunc_L2 s c t = slices_IndexFunc_L2_B s c (slices_IndexFunc_L2 s c) t := LFix_eq (slices_IndexFunc_L2_cn s c) t

noncomputable def slices_ContainsFunc (s : (List (List Int))) (c : (Int × Int × (List (List Int)) × (List Int) × Unit)) : Option (Bool) :=
  (slices_IndexFunc s c).bind (fun y' =>
  some (decide ((0 : Int) ≤ y')))

noncomputable def safra_Check_2 (q : Int) (t : Int) : Option (Bool) :=
  if (decide (q < (0 : Int))) = true then
  some true else
  some (decide (t ≤ q))

noncomputable def slices_IndexFunc_2_L2_B (s : (List Int)) (c : Int) (r2 : Int → Option (Int)) (t : Int) : Option (Int) :=
  if (decide (t < (s.length : Int))) = true then
  G (0 ≤ t ∧ t < (s.length : Int)) (
  (safra_Check_2 (ix s t) c).bind (fun y' =>
  if y' = true then
  some t else
  G (fits (t + (1 : Int))) (
  r2 (t + (1 : Int))))) else
  some (-1 : Int)
noncomputable def slices_IndexFunc_2_L2_F (s : (List Int)) (c : Int) : (Int → Option (Int)) → Int → Option (Int) :=
  fun rec x => slices_IndexFunc_2_L2_B s c (fun t => rec t) x
noncomputable def slices_IndexFunc_2_L2 (s : (List Int)) (c : Int) (t : Int) : Option (Int) := LFix (slices_IndexFunc_2_L2_F s c ) t
noncomputable def slices_IndexFunc_2 (s : (List Int)) (c : Int) : Option (Int) :=
  slices_IndexFunc_2_L2 s c (0 : Int)
theorem slices_IndexFunc_2_L2_B_ch (r2 : Nat → Int → Option (Int)) (r2' : Int → Option (Int)) (h_r2 : ∀ a0, ChO (fun κ => r2 κ a0) (r2' a0)) (s : (List Int)) (c : Int) (t : Int) : ChO (fun κ => slices_IndexFunc_2_L2_B s c (r2 κ) t) (slices_IndexFunc_2_L2_B s c r2' t) := by
  unfold slices_IndexFunc_2_L2_B
  repeat' first | exact ChO.const _ | exact h_r2 _ | apply ChO.ite | apply ChO.G | apply ChO.both | (apply ChO.bind; intro _)
theorem slices_IndexFunc_2_L2_cn  (s : (List Int)) (c : Int) : Cn (slices_IndexFunc_2_L2_F s c) := fun g h hg x => slices_IndexFunc_2_L2_B_ch  (fun κ t => g κ t) (fun t => h t) (fun t => hg t) s c x
theorem slices_IndexFunc_2_L2_eq  (s : (List Int)) (c : Int) (t : Int) : slices_IndexFunc_2_L2 s c t = slices_IndexFunc_2_L2_B s c (slices_IndexFunc_2_L2 s c) t := LFix_eq (slices_IndexFunc_2_L2_cn s c) t

noncomputable def slices_ContainsFunc_2 (s : (List Int)) (c : Int) : Option (Bool) :=
  (slices_IndexFunc_2 s c).bind (fun y' =>
  some (decide ((0 : Int) ≤ y')))

noncomputable def safra_Check_3 (r : (List Int)) (c : Int) : Option (Bool × Int) :=
  (slices_ContainsFunc_2 r c).bind (fun y' =>
  some (y', c))

noncomputable def slices_IndexFunc_1_L2_B (s : (List (List Int))) (r2 : Int → Int → Option (Int × Int)) (t : Int) (l : Int) : Option (Int × Int) :=
  if (decide (t < (s.length : Int))) = true then
  G (0 ≤ t ∧ t < (s.length : Int)) (
  (safra_Check_3 (ix s t) l).bind (fun y'_3 =>
  if y'_3.1 = true then
  some (t, y'_3.2) else
  G (fits (t + (1 : Int))) (
  r2 (t + (1 : Int)) y'_3.2))) else
  some ((-1 : Int), l)
noncomputable def slices_IndexFunc_1_L2_F (s : (List (List Int))) : (Int × Int → Option (Int × Int)) → Int × Int → Option (Int × Int) :=
  fun rec x => slices_IndexFunc_1_L2_B s (fun t l => rec (t, l)) x.1 x.2
noncomputable def slices_IndexFunc_1_L2 (s : (List (List Int))) (t : Int) (l : Int) : Option (Int × Int) := LFix (slices_IndexFunc_1_L2_F s ) (t, l)
noncomputable def slices_IndexFunc_1 (s : (List (List Int))) (c : Int) : Option (Int × Int) :=
  slices_IndexFunc_1_L2 s (0 : Int) c
theorem slices_IndexFunc_1_L2_B_ch (r2 : Nat → Int → Int → Option (Int × Int)) (r2' : Int → Int → Option (Int × Int)) (h_r2 : ∀ a0 a1, ChO (fun κ => r2 κ a0 a1) (r2' a0 a1)) (s : (List (List Int))) (t : Int) (l : Int) : ChO (fun κ => slices_IndexFunc_1_L2_B s (r2 κ) t l) (slices_IndexFunc_1_L2_B s r2' t l) := by
  unfold slices_IndexFunc_1_L2_B
  repeat' first | exact ChO.const _ | exact h_r2 _ _ | apply ChO.ite | apply ChO.G | apply ChO.both | (apply ChO.bind; intro _)
theorem slices_IndexFunc_1_L2_cn  (s : (List (List Int))) : Cn (slices_IndexFunc_1_L2_F s) := fun g h hg x => slices_IndexFunc_1_L2_B_ch  (fun κ t l => g κ (t, l)) (fun t l => h (t, l)) (fun t l => hg (t, l)) s x.1 x.2
theorem slices_IndexFunc_1_L2_eq  (s : (List (List Int))) (t : Int) (l : Int) : slices_IndexFunc_1_L2 s t l = slices_IndexFunc_1_L2_B s (slices_IndexFunc_1_L2 s) t l := LFix_eq (slices_IndexFunc_1_L2_cn s) (t, l)

noncomputable def slices_ContainsFunc_1 (s : (List (List Int))) (c : Int) : Option (Bool × Int) :=
  (slices_IndexFunc_1 s c).bind (fun y'_3 =>
  some (decide ((0 : Int) ≤ y'_3.1), y'_3.2))

noncomputable def safra_Check_4 (m : Int) : Option (Bool) :=
  if (decide (m < (0 : Int))) = true then
  some true else
  some (decide ((9 : Int) < m))

noncomputable def slices_IndexFunc_3_L2_B (s : (List Int)) (r2 : Int → Option (Int)) (t : Int) : Option (Int) :=
  if (decide (t < (s.length : Int))) = true then
  G (0 ≤ t ∧ t < (s.length : Int)) (
  (safra_Check_4 (ix s t)).bind (fun y' =>
  if y' = true then
  some t else
  G (fits (t + (1 : Int))) (
  r2 (t + (1 : Int))))) else
  some (-1 : Int)
noncomputable def slices_IndexFunc_3_L2_F (s : (List Int)) : (Int → Option (Int)) → Int → Option (Int) :=
  fun rec x => slices_IndexFunc_3_L2_B s (fun t => rec t) x
noncomputable def slices_IndexFunc_3_L2 (s : (List Int)) (t : Int) : Option (Int) := LFix (slices_IndexFunc_3_L2_F s ) t
noncomputable def slices_IndexFunc_3 (s : (List Int)) : Option (Int) :=
  slices_IndexFunc_3_L2 s (0 : Int)
theorem slices_IndexFunc_3_L2_B_ch (r2 : Nat → Int → Option (Int)) (r2' : Int → Option (Int)) (h_r2 : ∀ a0, ChO (fun κ => r2 κ a0) (r2' a0)) (s : (List Int)) (t : Int) : ChO (fun κ => slices_IndexFunc_3_L2_B s (r2 κ) t) (slices_IndexFunc_3_L2_B s r2' t) := by
  unfold slices_IndexFunc_3_L2_B
  repeat' first | exact ChO.const _ | exact h_r2 _ | apply ChO.ite | apply ChO.G | apply ChO.both | (apply ChO.bind; intro _)
theorem slices_IndexFunc_3_L2_cn  (s : (List Int)) : Cn (slices_IndexFunc_3_L2_F s) := fun g h hg x => slices_IndexFunc_3_L2_B_ch  (fun κ t => g κ t) (fun t => h t) (fun t => hg t) s x
theorem slices_IndexFunc_3_L2_eq  (s : (List Int)) (t : Int) : slices_IndexFunc_3_L2 s t = slices_IndexFunc_3_L2_B s (slices_IndexFunc_3_L2 s) t := LFix_eq (slices_IndexFunc_3_L2_cn s) t

noncomputable def slices_ContainsFunc_3 (s : (List Int)) : Option (Bool) :=
  (slices_IndexFunc_3 s).bind (fun y' =>
  some (decide ((0 : Int) ≤ y')))

noncomputable def safra_Check (d : (Int × Int × (List (List Int)) × (List Int) × Unit)) : Option (Int) :=
  if (decide (d.1 < (1 : Int))) = true then
  some (2 : Int) else
  if (decide ((4 : Int) < d.1)) = true then
  some (2 : Int) else
  if (decide ((d.2.2.1.length : Int) < (1 : Int))) = true then
  some (1 : Int) else
  if (decide ((20000 : Int) < (d.2.2.1.length : Int))) = true then
  some (1 : Int) else
  if (decide (¬ (d.2.2.2.1.length : Int) = (d.2.2.1.length : Int))) = true then
  some (3 : Int) else
  (slices_ContainsFunc d.2.2.1 (d.1, (d.2.1, (d.2.2.1, (d.2.2.2.1, ()))))).bind (fun y' =>
  if y' = true then
  some (3 : Int) else
  (safra_Check_2 d.2.1 (d.2.2.1.length : Int)).bind (fun y'_1 =>
  if y'_1 = true then
  some (2 : Int) else
  (slices_ContainsFunc_1 d.2.2.1 (d.2.2.1.length : Int)).bind (fun y'_6 =>
  if y'_6.1 = true then
  some (2 : Int) else
  (slices_ContainsFunc_3 d.2.2.2.1).bind (fun y'_5 =>
  if y'_5 = true then
  some (2 : Int) else
  some (0 : Int)))))

noncomputable def r9_Check_L19_B (d : (Int × Int × (List (List Int)) × (List Int) × Unit)) (i_1 : Int) (r16 : (Int → Option (Int))) (r19 : Int → Option (Int)) (k : Int) : Option (Int) :=
  if (decide (k < d.1)) = true then
  G (0 ≤ i_1 ∧ i_1 < (d.2.2.1.length : Int)) (
  G (0 ≤ k ∧ k < ((ix d.2.2.1 i_1).length : Int)) (
  if (decide ((ix (ix d.2.2.1 i_1) k) < (0 : Int))) = true then
  some (2 : Int) else
  G (0 ≤ i_1 ∧ i_1 < (d.2.2.1.length : Int)) (
  G (0 ≤ k ∧ k < ((ix d.2.2.1 i_1).length : Int)) (
  if (decide ((d.2.2.1.length : Int) ≤ (ix (ix d.2.2.1 i_1) k))) = true then
  some (2 : Int) else
  G (fits (k + (1 : Int))) (
  r19 (k + (1 : Int))))))) else
  G (fits (i_1 + (1 : Int))) (
  r16 (i_1 + (1 : Int)))
noncomputable def r9_Check_L19_F (d : (Int × Int × (List (List Int)) × (List Int) × Unit)) (i_1 : Int) (r16 : (Int → Option (Int))) : (Int → Option (Int)) → Int → Option (Int) :=
  fun rec x => r9_Check_L19_B d i_1 r16 (fun k => rec k) x
noncomputable def r9_Check_L19 (d : (Int × Int × (List (List Int)) × (List Int) × Unit)) (i_1 : Int) (r16 : (Int → Option (Int))) (k : Int) : Option (Int) := LFix (r9_Check_L19_F d i_1 r16 ) k
noncomputable def r9_Check_L24_B (d : (Int × Int × (List (List Int)) × (List Int) × Unit)) (r24 : Int → Option (Int)) (i_2 : Int) : Option (Int) :=
  if (decide (i_2 < (d.2.2.1.length : Int))) = true then
  G (0 ≤ i_2 ∧ i_2 < (d.2.2.2.1.length : Int)) (
  if (decide ((ix d.2.2.2.1 i_2) < (0 : Int))) = true then
  some (2 : Int) else
  G (0 ≤ i_2 ∧ i_2 < (d.2.2.2.1.length : Int)) (
  if (decide ((9 : Int) < (ix d.2.2.2.1 i_2))) = true then
  some (2 : Int) else
  G (fits (i_2 + (1 : Int))) (
  r24 (i_2 + (1 : Int))))) else
  some (0 : Int)
noncomputable def r9_Check_L24_F (d : (Int × Int × (List (List Int)) × (List Int) × Unit)) : (Int → Option (Int)) → Int → Option (Int) :=
  fun rec x => r9_Check_L24_B d (fun i_2 => rec i_2) x
noncomputable def r9_Check_L24 (d : (Int × Int × (List (List Int)) × (List Int) × Unit)) (i_2 : Int) : Option (Int) := LFix (r9_Check_L24_F d ) i_2
noncomputable def r9_Check_L16_B (d : (Int × Int × (List (List Int)) × (List Int) × Unit)) (r16 : Int → Option (Int)) (i_1 : Int) : Option (Int) :=
  if (decide (i_1 < (d.2.2.1.length : Int))) = true then
  r9_Check_L19 d i_1 r16 (0 : Int) else
  r9_Check_L24 d (0 : Int)
noncomputable def r9_Check_L16_F (d : (Int × Int × (List (List Int)) × (List Int) × Unit)) : (Int → Option (Int)) → Int → Option (Int) :=
  fun rec x => r9_Check_L16_B d (fun i_1 => rec i_1) x
noncomputable def r9_Check_L16 (d : (Int × Int × (List (List Int)) × (List Int) × Unit)) (i_1 : Int) : Option (Int) := LFix (r9_Check_L16_F d ) i_1
noncomputable def r9_Check_L9_B (d : (Int × Int × (List (List Int)) × (List Int) × Unit)) (r9 : Int → Option (Int)) (i : Int) : Option (Int) :=
  if (decide (i < (d.2.2.1.length : Int))) = true then
  G (0 ≤ i ∧ i < (d.2.2.1.length : Int)) (
  if (decide (¬ ((ix d.2.2.1 i).length : Int) = d.1)) = true then
  some (3 : Int) else
  G (fits (i + (1 : Int))) (
  r9 (i + (1 : Int)))) else
  if (decide (d.2.1 < (0 : Int))) = true then
  some (2 : Int) else
  if (decide ((d.2.2.1.length : Int) ≤ d.2.1)) = true then
  some (2 : Int) else
  r9_Check_L16 d (0 : Int)
noncomputable def r9_Check_L9_F (d : (Int × Int × (List (List Int)) × (List Int) × Unit)) : (Int → Option (Int)) → Int → Option (Int) :=
  fun rec x => r9_Check_L9_B d (fun i => rec i) x
noncomputable def r9_Check_L9 (d : (Int × Int × (List (List Int)) × (List Int) × Unit)) (i : Int) : Option (Int) := LFix (r9_Check_L9_F d ) i
noncomputable def r9_Check (d : (Int × Int × (List (List Int)) × (List Int) × Unit)) : Option (Int) :=
  if (decide (d.1 < (1 : Int))) = true then
  some (2 : Int) else
  if (decide ((4 : Int) < d.1)) = true then
  some (2 : Int) else
  if (decide ((d.2.2.1.length : Int) < (1 : Int))) = true then
  some (1 : Int) else
  if (decide ((20000 : Int) < (d.2.2.1.length : Int))) = true then
  some (1 : Int) else
  if (decide (¬ (d.2.2.2.1.length : Int) = (d.2.2.1.length : Int))) = true then
  some (3 : Int) else
  r9_Check_L9 d (0 : Int)
theorem r9_Check_L19_B_ch (r16 : Nat → Int → Option (Int)) (r16' : Int → Option (Int)) (h_r16 : ∀ a0, ChO (fun κ => r16 κ a0) (r16' a0)) (r19 : Nat → Int → Option (Int)) (r19' : Int → Option (Int)) (h_r19 : ∀ a0, ChO (fun κ => r19 κ a0) (r19' a0)) (d : (Int × Int × (List (List Int)) × (List Int) × Unit)) (i_1 : Int) (k : Int) : ChO (fun κ => r9_Check_L19_B d i_1 (r16 κ) (r19 κ) k) (r9_Check_L19_B d i_1 r16' r19' k) := by
  unfold r9_Check_L19_B
  repeat' first | exact ChO.const _ | exact h_r16 _ | exact h_r19 _ | apply ChO.ite | apply ChO.G | apply ChO.both | (apply ChO.bind; intro _)
theorem r9_Check_L19_cn (r16 : Int → Option (Int)) (d : (Int × Int × (List (List Int)) × (List Int) × Unit)) (i_1 : Int) : Cn (r9_Check_L19_F d i_1 r16) := fun g h hg x => r9_Check_L19_B_ch (fun _ => r16) r16 (fun _ => ChO.const _) (fun κ k => g κ k) (fun k => h k) (fun k => hg k) d i_1 x
theorem r9_Check_L19_eq (r16 : Int → Option (Int)) (d : (Int × Int × (List (List Int)) × (List Int) × Unit)) (i_1 : Int) (k : Int) : r9_Check_L19 d i_1 r16 k = r9_Check_L19_B d i_1 r16 (r9_Check_L19 d i_1 r16) k := LFix_eq (r9_Check_L19_cn r16 d i_1) k
theorem r9_Check_L19_ch (r16 : Nat → Int → Option (Int)) (r16' : Int → Option (Int)) (h_r16 : ∀ a0, ChO (fun κ => r16 κ a0) (r16' a0)) (d : (Int × Int × (List (List Int)) × (List Int) × Unit)) (i_1 : Int) (k : Int) : ChO (fun κ => r9_Check_L19 d i_1 (r16 κ) k) (r9_Check_L19 d i_1 r16' k) := by
  unfold r9_Check_L19
  exact LFix_ch (fun κ => (r9_Check_L19_cn (r16 κ) d i_1).mono) (r9_Check_L19_cn r16' d i_1).mono (fun g h hg x => r9_Check_L19_B_ch r16 r16' h_r16 (fun κ k => g κ k) (fun k => h k) (fun k => hg k) d i_1 x) _
theorem r9_Check_L24_B_ch (r24 : Nat → Int → Option (Int)) (r24' : Int → Option (Int)) (h_r24 : ∀ a0, ChO (fun κ => r24 κ a0) (r24' a0)) (d : (Int × Int × (List (List Int)) × (List Int) × Unit)) (i_2 : Int) : ChO (fun κ => r9_Check_L24_B d (r24 κ) i_2) (r9_Check_L24_B d r24' i_2) := by
  unfold r9_Check_L24_B
  repeat' first | exact ChO.const _ | exact h_r24 _ | (apply r9_Check_L19_ch <;> assumption) | apply ChO.ite | apply ChO.G | apply ChO.both | (apply ChO.bind; intro _)
theorem r9_Check_L24_cn  (d : (Int × Int × (List (List Int)) × (List Int) × Unit)) : Cn (r9_Check_L24_F d) := fun g h hg x => r9_Check_L24_B_ch  (fun κ i_2 => g κ i_2) (fun i_2 => h i_2) (fun i_2 => hg i_2) d x
theorem r9_Check_L24_eq  (d : (Int × Int × (List (List Int)) × (List Int) × Unit)) (i_2 : Int) : r9_Check_L24 d i_2 = r9_Check_L24_B d (r9_Check_L24 d) i_2 := LFix_eq (r9_Check_L24_cn d) i_2
theorem r9_Check_L16_B_ch (r16 : Nat → Int → Option (Int)) (r16' : Int → Option (Int)) (h_r16 : ∀ a0, ChO (fun κ => r16 κ a0) (r16' a0)) (d : (Int × Int × (List (List Int)) × (List Int) × Unit)) (i_1 : Int) : ChO (fun κ => r9_Check_L16_B d (r16 κ) i_1) (r9_Check_L16_B d r16' i_1) := by
  unfold r9_Check_L16_B
  repeat' first | exact ChO.const _ | exact h_r16 _ | (apply r9_Check_L19_ch <;> assumption) | apply ChO.ite | apply ChO.G | apply ChO.both | (apply ChO.bind; intro _)
theorem r9_Check_L16_cn  (d : (Int × Int × (List (List Int)) × (List Int) × Unit)) : Cn (r9_Check_L16_F d) := fun g h hg x => r9_Check_L16_B_ch  (fun κ i_1 => g κ i_1) (fun i_1 => h i_1) (fun i_1 => hg i_1) d x
theorem r9_Check_L16_eq  (d : (Int × Int × (List (List Int)) × (List Int) × Unit)) (i_1 : Int) : r9_Check_L16 d i_1 = r9_Check_L16_B d (r9_Check_L16 d) i_1 := LFix_eq (r9_Check_L16_cn d) i_1
theorem r9_Check_L9_B_ch (r9 : Nat → Int → Option (Int)) (r9' : Int → Option (Int)) (h_r9 : ∀ a0, ChO (fun κ => r9 κ a0) (r9' a0)) (d : (Int × Int × (List (List Int)) × (List Int) × Unit)) (i : Int) : ChO (fun κ => r9_Check_L9_B d (r9 κ) i) (r9_Check_L9_B d r9' i) := by
  unfold r9_Check_L9_B
  repeat' first | exact ChO.const _ | exact h_r9 _ | (apply r9_Check_L19_ch <;> assumption) | apply ChO.ite | apply ChO.G | apply ChO.both | (apply ChO.bind; intro _)
theorem r9_Check_L9_cn  (d : (Int × Int × (List (List Int)) × (List Int) × Unit)) : Cn (r9_Check_L9_F d) := fun g h hg x => r9_Check_L9_B_ch  (fun κ i => g κ i) (fun i => h i) (fun i => hg i) d x
theorem r9_Check_L9_eq  (d : (Int × Int × (List (List Int)) × (List Int) × Unit)) (i : Int) : r9_Check_L9 d i = r9_Check_L9_B d (r9_Check_L9 d) i := LFix_eq (r9_Check_L9_cn d) i

noncomputable def word_May_L6_B (letters : Int) (w : (List Int)) (r6 : Int → Option (Int)) (t : Int) : Option (Int) :=
  if (decide (t < (w.length : Int))) = true then
  G (0 ≤ t ∧ t < (w.length : Int)) (
  if (decide ((ix w t) < (0 : Int))) = true then
  some (2 : Int) else
  if (decide (letters ≤ (ix w t))) = true then
  some (2 : Int) else
  G (fits (t + (1 : Int))) (
  r6 (t + (1 : Int)))) else
  some (0 : Int)
noncomputable def word_May_L6_F (letters : Int) (w : (List Int)) : (Int → Option (Int)) → Int → Option (Int) :=
  fun rec x => word_May_L6_B letters w (fun t => rec t) x
noncomputable def word_May_L6 (letters : Int) (w : (List Int)) (t : Int) : Option (Int) := LFix (word_May_L6_F letters w ) t
noncomputable def word_May (letters : Int) (w : (List Int)) : Option (Int) :=
  if (decide (letters < (1 : Int))) = true then
  some (2 : Int) else
  if (decide ((4 : Int) < letters)) = true then
  some (2 : Int) else
  if (decide ((60 : Int) < (w.length : Int))) = true then
  some (1 : Int) else
  word_May_L6 letters w (0 : Int)
theorem word_May_L6_B_ch (r6 : Nat → Int → Option (Int)) (r6' : Int → Option (Int)) (h_r6 : ∀ a0, ChO (fun κ => r6 κ a0) (r6' a0)) (letters : Int) (w : (List Int)) (t : Int) : ChO (fun κ => word_May_L6_B letters w (r6 κ) t) (word_May_L6_B letters w r6' t) := by
  unfold word_May_L6_B
  repeat' first | exact ChO.const _ | exact h_r6 _ | apply ChO.ite | apply ChO.G | apply ChO.both | (apply ChO.bind; intro _)
theorem word_May_L6_cn  (letters : Int) (w : (List Int)) : Cn (word_May_L6_F letters w) := fun g h hg x => word_May_L6_B_ch  (fun κ t => g κ t) (fun t => h t) (fun t => hg t) letters w x
theorem word_May_L6_eq  (letters : Int) (w : (List Int)) (t : Int) : word_May_L6 letters w t = word_May_L6_B letters w (word_May_L6 letters w) t := LFix_eq (word_May_L6_cn letters w) t

noncomputable def word_Lasso_L2_B (letters : Int) (l : ((List Int) × (List Int) × Unit)) (r2 : Int → Option (Int)) (t : Int) : Option (Int) :=
  if (decide (t < (2 : Int))) = true then
  G (0 ≤ t ∧ t < (2 : Int)) (
  (word_May letters (vget (.list (.int .i64)) 2 (l.1, (l.2.1, ())) (t).toNat)).bind (fun y' =>
  if (decide (¬ y' = (0 : Int))) = true then
  some y' else
  G (fits (t + (1 : Int))) (
  r2 (t + (1 : Int))))) else
  if (decide ((l.2.1.length : Int) = (0 : Int))) = true then
  some (1 : Int) else
  some (0 : Int)
noncomputable def word_Lasso_L2_F (letters : Int) (l : ((List Int) × (List Int) × Unit)) : (Int → Option (Int)) → Int → Option (Int) :=
  fun rec x => word_Lasso_L2_B letters l (fun t => rec t) x
noncomputable def word_Lasso_L2 (letters : Int) (l : ((List Int) × (List Int) × Unit)) (t : Int) : Option (Int) := LFix (word_Lasso_L2_F letters l ) t
noncomputable def word_Lasso (letters : Int) (l : ((List Int) × (List Int) × Unit)) : Option (Int) :=
  word_Lasso_L2 letters l (0 : Int)
theorem word_Lasso_L2_B_ch (r2 : Nat → Int → Option (Int)) (r2' : Int → Option (Int)) (h_r2 : ∀ a0, ChO (fun κ => r2 κ a0) (r2' a0)) (letters : Int) (l : ((List Int) × (List Int) × Unit)) (t : Int) : ChO (fun κ => word_Lasso_L2_B letters l (r2 κ) t) (word_Lasso_L2_B letters l r2' t) := by
  unfold word_Lasso_L2_B
  repeat' first | exact ChO.const _ | exact h_r2 _ | apply ChO.ite | apply ChO.G | apply ChO.both | (apply ChO.bind; intro _)
theorem word_Lasso_L2_cn  (letters : Int) (l : ((List Int) × (List Int) × Unit)) : Cn (word_Lasso_L2_F letters l) := fun g h hg x => word_Lasso_L2_B_ch  (fun κ t => g κ t) (fun t => h t) (fun t => hg t) letters l x
theorem word_Lasso_L2_eq  (letters : Int) (l : ((List Int) × (List Int) × Unit)) (t : Int) : word_Lasso_L2 letters l t = word_Lasso_L2_B letters l (word_Lasso_L2 letters l) t := LFix_eq (word_Lasso_L2_cn letters l) t

noncomputable def det_After_L2_B (d : (Int × Int × (List (List Int)) × (List Int) × Unit)) (w : (List Int)) (r2 : Int → Int → Option (Int)) (q_1 : Int) (t : Int) : Option (Int) :=
  if (decide (t < (w.length : Int))) = true then
  G (0 ≤ t ∧ t < (w.length : Int)) (
  G (0 ≤ q_1 ∧ q_1 < (d.2.2.1.length : Int)) (
  G (0 ≤ ix w t ∧ ix w t < ((ix d.2.2.1 q_1).length : Int)) (
  G (fits (t + (1 : Int))) (
  r2 (ix (ix d.2.2.1 q_1) (ix w t)) (t + (1 : Int)))))) else
  some q_1
noncomputable def det_After_L2_F (d : (Int × Int × (List (List Int)) × (List Int) × Unit)) (w : (List Int)) : (Int × Int → Option (Int)) → Int × Int → Option (Int) :=
  fun rec x => det_After_L2_B d w (fun q_1 t => rec (q_1, t)) x.1 x.2
noncomputable def det_After_L2 (d : (Int × Int × (List (List Int)) × (List Int) × Unit)) (w : (List Int)) (q_1 : Int) (t : Int) : Option (Int) := LFix (det_After_L2_F d w ) (q_1, t)
noncomputable def det_After (d : (Int × Int × (List (List Int)) × (List Int) × Unit)) (q : Int) (w : (List Int)) : Option (Int) :=
  det_After_L2 d w q (0 : Int)
theorem det_After_L2_B_ch (r2 : Nat → Int → Int → Option (Int)) (r2' : Int → Int → Option (Int)) (h_r2 : ∀ a0 a1, ChO (fun κ => r2 κ a0 a1) (r2' a0 a1)) (d : (Int × Int × (List (List Int)) × (List Int) × Unit)) (w : (List Int)) (q_1 : Int) (t : Int) : ChO (fun κ => det_After_L2_B d w (r2 κ) q_1 t) (det_After_L2_B d w r2' q_1 t) := by
  unfold det_After_L2_B
  repeat' first | exact ChO.const _ | exact h_r2 _ _ | apply ChO.ite | apply ChO.G | apply ChO.both | (apply ChO.bind; intro _)
theorem det_After_L2_cn  (d : (Int × Int × (List (List Int)) × (List Int) × Unit)) (w : (List Int)) : Cn (det_After_L2_F d w) := fun g h hg x => det_After_L2_B_ch  (fun κ q_1 t => g κ (q_1, t)) (fun q_1 t => h (q_1, t)) (fun q_1 t => hg (q_1, t)) d w x.1 x.2
theorem det_After_L2_eq  (d : (Int × Int × (List (List Int)) × (List Int) × Unit)) (w : (List Int)) (q_1 : Int) (t : Int) : det_After_L2 d w q_1 t = det_After_L2_B d w (det_After_L2 d w) q_1 t := LFix_eq (det_After_L2_cn d w) (q_1, t)

noncomputable def safra_Accepts_L14_B (d : (Int × Int × (List (List Int)) × (List Int) × Unit)) (l : ((List Int) × (List Int) × Unit)) (q : Int) (r13 : (Int → Int → Option (Bool × Int))) (r14 : Int → Int → Int → Option (Bool × Int)) (q_2 : Int) (least_1 : Int) (t_1 : Int) : Option (Bool × Int) :=
  if (decide (t_1 < (l.2.1.length : Int))) = true then
  G (0 ≤ t_1 ∧ t_1 < (l.2.1.length : Int)) (
  G (0 ≤ q_2 ∧ q_2 < (d.2.2.1.length : Int)) (
  G (0 ≤ ix l.2.1 t_1 ∧ ix l.2.1 t_1 < ((ix d.2.2.1 q_2).length : Int)) (
  G (0 ≤ ix (ix d.2.2.1 q_2) (ix l.2.1 t_1) ∧ ix (ix d.2.2.1 q_2) (ix l.2.1 t_1) < (d.2.2.2.1.length : Int)) (
  G (fits (t_1 + (1 : Int))) (
  r14 (ix (ix d.2.2.1 q_2) (ix l.2.1 t_1)) (imin least_1 (ix d.2.2.2.1 (ix (ix d.2.2.1 q_2) (ix l.2.1 t_1)))) (t_1 + (1 : Int))))))) else
  if (decide (q_2 = q)) = true then
  G ((2 : Int) ≠ 0) (
  some (decide ((Int.tmod least_1 (2 : Int)) = (0 : Int)), (0 : Int))) else
  r13 q_2 least_1
noncomputable def safra_Accepts_L14_F (d : (Int × Int × (List (List Int)) × (List Int) × Unit)) (l : ((List Int) × (List Int) × Unit)) (q : Int) (r13 : (Int → Int → Option (Bool × Int))) : (Int × Int × Int → Option (Bool × Int)) → Int × Int × Int → Option (Bool × Int) :=
  fun rec x => safra_Accepts_L14_B d l q r13 (fun q_2 least_1 t_1 => rec (q_2, least_1, t_1)) x.1 x.2.1 x.2.2
noncomputable def safra_Accepts_L14 (d : (Int × Int × (List (List Int)) × (List Int) × Unit)) (l : ((List Int) × (List Int) × Unit)) (q : Int) (r13 : (Int → Int → Option (Bool × Int))) (q_2 : Int) (least_1 : Int) (t_1 : Int) : Option (Bool × Int) := LFix (safra_Accepts_L14_F d l q r13 ) (q_2, least_1, t_1)
noncomputable def safra_Accepts_L13_B (d : (Int × Int × (List (List Int)) × (List Int) × Unit)) (l : ((List Int) × (List Int) × Unit)) (q : Int) (r13 : Int → Int → Option (Bool × Int)) (q_1 : Int) (least : Int) : Option (Bool × Int) :=
  safra_Accepts_L14 d l q r13 q_1 least (0 : Int)
noncomputable def safra_Accepts_L13_F (d : (Int × Int × (List (List Int)) × (List Int) × Unit)) (l : ((List Int) × (List Int) × Unit)) (q : Int) : (Int × Int → Option (Bool × Int)) → Int × Int → Option (Bool × Int) :=
  fun rec x => safra_Accepts_L13_B d l q (fun q_1 least => rec (q_1, least)) x.1 x.2
noncomputable def safra_Accepts_L13 (d : (Int × Int × (List (List Int)) × (List Int) × Unit)) (l : ((List Int) × (List Int) × Unit)) (q : Int) (q_1 : Int) (least : Int) : Option (Bool × Int) := LFix (safra_Accepts_L13_F d l q ) (q_1, least)
noncomputable def safra_Accepts_L9_B (d : (Int × Int × (List (List Int)) × (List Int) × Unit)) (l : ((List Int) × (List Int) × Unit)) (r9 : Int → Int → Option (Bool × Int)) (q : Int) (t : Int) : Option (Bool × Int) :=
  if (decide (t < (d.2.2.1.length : Int))) = true then
  (det_After (d.1, (d.2.1, (d.2.2.1, (d.2.2.2.1, ())))) q l.2.1).bind (fun y'_3 =>
  G (fits (t + (1 : Int))) (
  r9 y'_3 (t + (1 : Int)))) else
  safra_Accepts_L13 d l q q (10 : Int)
noncomputable def safra_Accepts_L9_F (d : (Int × Int × (List (List Int)) × (List Int) × Unit)) (l : ((List Int) × (List Int) × Unit)) : (Int × Int → Option (Bool × Int)) → Int × Int → Option (Bool × Int) :=
  fun rec x => safra_Accepts_L9_B d l (fun q t => rec (q, t)) x.1 x.2
noncomputable def safra_Accepts_L9 (d : (Int × Int × (List (List Int)) × (List Int) × Unit)) (l : ((List Int) × (List Int) × Unit)) (q : Int) (t : Int) : Option (Bool × Int) := LFix (safra_Accepts_L9_F d l ) (q, t)
noncomputable def safra_Accepts (d : (Int × Int × (List (List Int)) × (List Int) × Unit)) (l : ((List Int) × (List Int) × Unit)) : Option (Bool × Int) :=
  (safra_Check (d.1, (d.2.1, (d.2.2.1, (d.2.2.2.1, ()))))).bind (fun y' =>
  if (decide (¬ y' = (0 : Int))) = true then
  some (false, y') else
  (word_Lasso d.1 (l.1, (l.2.1, ()))).bind (fun y'_1 =>
  if (decide (¬ y'_1 = (0 : Int))) = true then
  some (false, y'_1) else
  (det_After (d.1, (d.2.1, (d.2.2.1, (d.2.2.2.1, ())))) d.2.1 l.1).bind (fun y'_2 =>
  safra_Accepts_L9 d l y'_2 (0 : Int))))
theorem safra_Accepts_L14_B_ch (r13 : Nat → Int → Int → Option (Bool × Int)) (r13' : Int → Int → Option (Bool × Int)) (h_r13 : ∀ a0 a1, ChO (fun κ => r13 κ a0 a1) (r13' a0 a1)) (r14 : Nat → Int → Int → Int → Option (Bool × Int)) (r14' : Int → Int → Int → Option (Bool × Int)) (h_r14 : ∀ a0 a1 a2, ChO (fun κ => r14 κ a0 a1 a2) (r14' a0 a1 a2)) (d : (Int × Int × (List (List Int)) × (List Int) × Unit)) (l : ((List Int) × (List Int) × Unit)) (q : Int) (q_2 : Int) (least_1 : Int) (t_1 : Int) : ChO (fun κ => safra_Accepts_L14_B d l q (r13 κ) (r14 κ) q_2 least_1 t_1) (safra_Accepts_L14_B d l q r13' r14' q_2 least_1 t_1) := by
  unfold safra_Accepts_L14_B
  repeat' first | exact ChO.const _ | exact h_r13 _ _ | exact h_r14 _ _ _ | apply ChO.ite | apply ChO.G | apply ChO.both | (apply ChO.bind; intro _)
theorem safra_Accepts_L14_cn (r13 : Int → Int → Option (Bool × Int)) (d : (Int × Int × (List (List Int)) × (List Int) × Unit)) (l : ((List Int) × (List Int) × Unit)) (q : Int) : Cn (safra_Accepts_L14_F d l q r13) := fun g h hg x => safra_Accepts_L14_B_ch (fun _ => r13) r13 (fun _ _ => ChO.const _) (fun κ q_2 least_1 t_1 => g κ (q_2, least_1, t_1)) (fun q_2 least_1 t_1 => h (q_2, least_1, t_1)) (fun q_2 least_1 t_1 => hg (q_2, least_1, t_1)) d l q x.1 x.2.1 x.2.2
theorem safra_Accepts_L14_eq (r13 : Int → Int → Option (Bool × Int)) (d : (Int × Int × (List (List Int)) × (List Int) × Unit)) (l : ((List Int) × (List Int) × Unit)) (q : Int) (q_2 : Int) (least_1 : Int) (t_1 : Int) : safra_Accepts_L14 d l q r13 q_2 least_1 t_1 = safra_Accepts_L14_B d l q r13 (safra_Accepts_L14 d l q r13) q_2 least_1 t_1 := LFix_eq (safra_Accepts_L14_cn r13 d l q) (q_2, least_1, t_1)
theorem safra_Accepts_L14_ch (r13 : Nat → Int → Int → Option (Bool × Int)) (r13' : Int → Int → Option (Bool × Int)) (h_r13 : ∀ a0 a1, ChO (fun κ => r13 κ a0 a1) (r13' a0 a1)) (d : (Int × Int × (List (List Int)) × (List Int) × Unit)) (l : ((List Int) × (List Int) × Unit)) (q : Int) (q_2 : Int) (least_1 : Int) (t_1 : Int) : ChO (fun κ => safra_Accepts_L14 d l q (r13 κ) q_2 least_1 t_1) (safra_Accepts_L14 d l q r13' q_2 least_1 t_1) := by
  unfold safra_Accepts_L14
  exact LFix_ch (fun κ => (safra_Accepts_L14_cn (r13 κ) d l q).mono) (safra_Accepts_L14_cn r13' d l q).mono (fun g h hg x => safra_Accepts_L14_B_ch r13 r13' h_r13 (fun κ q_2 least_1 t_1 => g κ (q_2, least_1, t_1)) (fun q_2 least_1 t_1 => h (q_2, least_1, t_1)) (fun q_2 least_1 t_1 => hg (q_2, least_1, t_1)) d l q x.1 x.2.1 x.2.2) _
theorem safra_Accepts_L13_B_ch (r13 : Nat → Int → Int → Option (Bool × Int)) (r13' : Int → Int → Option (Bool × Int)) (h_r13 : ∀ a0 a1, ChO (fun κ => r13 κ a0 a1) (r13' a0 a1)) (d : (Int × Int × (List (List Int)) × (List Int) × Unit)) (l : ((List Int) × (List Int) × Unit)) (q : Int) (q_1 : Int) (least : Int) : ChO (fun κ => safra_Accepts_L13_B d l q (r13 κ) q_1 least) (safra_Accepts_L13_B d l q r13' q_1 least) := by
  unfold safra_Accepts_L13_B
  repeat' first | exact ChO.const _ | exact h_r13 _ _ | (apply safra_Accepts_L14_ch <;> assumption) | apply ChO.ite | apply ChO.G | apply ChO.both | (apply ChO.bind; intro _)
theorem safra_Accepts_L13_cn  (d : (Int × Int × (List (List Int)) × (List Int) × Unit)) (l : ((List Int) × (List Int) × Unit)) (q : Int) : Cn (safra_Accepts_L13_F d l q) := fun g h hg x => safra_Accepts_L13_B_ch  (fun κ q_1 least => g κ (q_1, least)) (fun q_1 least => h (q_1, least)) (fun q_1 least => hg (q_1, least)) d l q x.1 x.2
theorem safra_Accepts_L13_eq  (d : (Int × Int × (List (List Int)) × (List Int) × Unit)) (l : ((List Int) × (List Int) × Unit)) (q : Int) (q_1 : Int) (least : Int) : safra_Accepts_L13 d l q q_1 least = safra_Accepts_L13_B d l q (safra_Accepts_L13 d l q) q_1 least := LFix_eq (safra_Accepts_L13_cn d l q) (q_1, least)
theorem safra_Accepts_L9_B_ch (r9 : Nat → Int → Int → Option (Bool × Int)) (r9' : Int → Int → Option (Bool × Int)) (h_r9 : ∀ a0 a1, ChO (fun κ => r9 κ a0 a1) (r9' a0 a1)) (d : (Int × Int × (List (List Int)) × (List Int) × Unit)) (l : ((List Int) × (List Int) × Unit)) (q : Int) (t : Int) : ChO (fun κ => safra_Accepts_L9_B d l (r9 κ) q t) (safra_Accepts_L9_B d l r9' q t) := by
  unfold safra_Accepts_L9_B
  repeat' first | exact ChO.const _ | exact h_r9 _ _ | (apply safra_Accepts_L14_ch <;> assumption) | apply ChO.ite | apply ChO.G | apply ChO.both | (apply ChO.bind; intro _)
theorem safra_Accepts_L9_cn  (d : (Int × Int × (List (List Int)) × (List Int) × Unit)) (l : ((List Int) × (List Int) × Unit)) : Cn (safra_Accepts_L9_F d l) := fun g h hg x => safra_Accepts_L9_B_ch  (fun κ q t => g κ (q, t)) (fun q t => h (q, t)) (fun q t => hg (q, t)) d l x.1 x.2
theorem safra_Accepts_L9_eq  (d : (Int × Int × (List (List Int)) × (List Int) × Unit)) (l : ((List Int) × (List Int) × Unit)) (q : Int) (t : Int) : safra_Accepts_L9 d l q t = safra_Accepts_L9_B d l (safra_Accepts_L9 d l) q t := LFix_eq (safra_Accepts_L9_cn d l) (q, t)

noncomputable def r1_May_L6_B (letters : Int) (w : (List Int)) (r6 : Int → Option (Int)) (i : Int) : Option (Int) :=
  if (decide (i < (w.length : Int))) = true then
  G (0 ≤ i ∧ i < (w.length : Int)) (
  if (decide ((ix w i) < (0 : Int))) = true then
  some (2 : Int) else
  G (0 ≤ i ∧ i < (w.length : Int)) (
  if (decide (letters ≤ (ix w i))) = true then
  some (2 : Int) else
  G (fits (i + (1 : Int))) (
  r6 (i + (1 : Int))))) else
  some (0 : Int)
noncomputable def r1_May_L6_F (letters : Int) (w : (List Int)) : (Int → Option (Int)) → Int → Option (Int) :=
  fun rec x => r1_May_L6_B letters w (fun i => rec i) x
noncomputable def r1_May_L6 (letters : Int) (w : (List Int)) (i : Int) : Option (Int) := LFix (r1_May_L6_F letters w ) i
noncomputable def r1_May (letters : Int) (w : (List Int)) : Option (Int) :=
  if (decide (letters < (1 : Int))) = true then
  some (2 : Int) else
  if (decide ((4 : Int) < letters)) = true then
  some (2 : Int) else
  if (decide ((60 : Int) < (w.length : Int))) = true then
  some (1 : Int) else
  r1_May_L6 letters w (0 : Int)
theorem r1_May_L6_B_ch (r6 : Nat → Int → Option (Int)) (r6' : Int → Option (Int)) (h_r6 : ∀ a0, ChO (fun κ => r6 κ a0) (r6' a0)) (letters : Int) (w : (List Int)) (i : Int) : ChO (fun κ => r1_May_L6_B letters w (r6 κ) i) (r1_May_L6_B letters w r6' i) := by
  unfold r1_May_L6_B
  repeat' first | exact ChO.const _ | exact h_r6 _ | apply ChO.ite | apply ChO.G | apply ChO.both | (apply ChO.bind; intro _)
theorem r1_May_L6_cn  (letters : Int) (w : (List Int)) : Cn (r1_May_L6_F letters w) := fun g h hg x => r1_May_L6_B_ch  (fun κ i => g κ i) (fun i => h i) (fun i => hg i) letters w x
theorem r1_May_L6_eq  (letters : Int) (w : (List Int)) (i : Int) : r1_May_L6 letters w i = r1_May_L6_B letters w (r1_May_L6 letters w) i := LFix_eq (r1_May_L6_cn letters w) i

noncomputable def r1_Lasso (letters : Int) (l : ((List Int) × (List Int) × Unit)) : Option (Int) :=
  (r1_May letters l.1).bind (fun y' =>
  if (decide (¬ y' = (0 : Int))) = true then
  some y' else
  (r1_May letters l.2.1).bind (fun y'_1 =>
  if (decide (¬ y'_1 = (0 : Int))) = true then
  some y'_1 else
  if (decide ((l.2.1.length : Int) = (0 : Int))) = true then
  some (1 : Int) else
  some (0 : Int)))

noncomputable def r3_After_L2_B (d : (Int × Int × (List (List Int)) × (List Int) × Unit)) (w : (List Int)) (r2 : Int → Int → Option (Int)) (q_1 : Int) (i : Int) : Option (Int) :=
  if (decide (i < (w.length : Int))) = true then
  G (0 ≤ q_1 ∧ q_1 < (d.2.2.1.length : Int)) (
  G (0 ≤ i ∧ i < (w.length : Int)) (
  G (0 ≤ ix w i ∧ ix w i < ((ix d.2.2.1 q_1).length : Int)) (
  G (fits (i + (1 : Int))) (
  r2 (ix (ix d.2.2.1 q_1) (ix w i)) (i + (1 : Int)))))) else
  some q_1
noncomputable def r3_After_L2_F (d : (Int × Int × (List (List Int)) × (List Int) × Unit)) (w : (List Int)) : (Int × Int → Option (Int)) → Int × Int → Option (Int) :=
  fun rec x => r3_After_L2_B d w (fun q_1 i => rec (q_1, i)) x.1 x.2
noncomputable def r3_After_L2 (d : (Int × Int × (List (List Int)) × (List Int) × Unit)) (w : (List Int)) (q_1 : Int) (i : Int) : Option (Int) := LFix (r3_After_L2_F d w ) (q_1, i)
noncomputable def r3_After (d : (Int × Int × (List (List Int)) × (List Int) × Unit)) (q : Int) (w : (List Int)) : Option (Int) :=
  r3_After_L2 d w q (0 : Int)
theorem r3_After_L2_B_ch (r2 : Nat → Int → Int → Option (Int)) (r2' : Int → Int → Option (Int)) (h_r2 : ∀ a0 a1, ChO (fun κ => r2 κ a0 a1) (r2' a0 a1)) (d : (Int × Int × (List (List Int)) × (List Int) × Unit)) (w : (List Int)) (q_1 : Int) (i : Int) : ChO (fun κ => r3_After_L2_B d w (r2 κ) q_1 i) (r3_After_L2_B d w r2' q_1 i) := by
  unfold r3_After_L2_B
  repeat' first | exact ChO.const _ | exact h_r2 _ _ | apply ChO.ite | apply ChO.G | apply ChO.both | (apply ChO.bind; intro _)
theorem r3_After_L2_cn  (d : (Int × Int × (List (List Int)) × (List Int) × Unit)) (w : (List Int)) : Cn (r3_After_L2_F d w) := fun g h hg x => r3_After_L2_B_ch  (fun κ q_1 i => g κ (q_1, i)) (fun q_1 i => h (q_1, i)) (fun q_1 i => hg (q_1, i)) d w x.1 x.2
theorem r3_After_L2_eq  (d : (Int × Int × (List (List Int)) × (List Int) × Unit)) (w : (List Int)) (q_1 : Int) (i : Int) : r3_After_L2 d w q_1 i = r3_After_L2_B d w (r3_After_L2 d w) q_1 i := LFix_eq (r3_After_L2_cn d w) (q_1, i)

noncomputable def r9_Accepts_L11_B (d : (Int × Int × (List (List Int)) × (List Int) × Unit)) (l : ((List Int) × (List Int) × Unit)) (i_1 : Int) (r8 : (Int → Int → Int → Option (Bool))) (r11 : Int → Int → Int → Option (Bool)) (q_2 : Int) (least_1 : Int) (k : Int) : Option (Bool) :=
  if (decide (k < (l.2.1.length : Int))) = true then
  G (0 ≤ q_2 ∧ q_2 < (d.2.2.1.length : Int)) (
  G (0 ≤ k ∧ k < (l.2.1.length : Int)) (
  G (0 ≤ ix l.2.1 k ∧ ix l.2.1 k < ((ix d.2.2.1 q_2).length : Int)) (
  G (0 ≤ ix (ix d.2.2.1 q_2) (ix l.2.1 k) ∧ ix (ix d.2.2.1 q_2) (ix l.2.1 k) < (d.2.2.2.1.length : Int)) (
  if (decide ((ix d.2.2.2.1 (ix (ix d.2.2.1 q_2) (ix l.2.1 k))) < least_1)) = true then
  G (0 ≤ ix (ix d.2.2.1 q_2) (ix l.2.1 k) ∧ ix (ix d.2.2.1 q_2) (ix l.2.1 k) < (d.2.2.2.1.length : Int)) (
  G (fits (k + (1 : Int))) (
  r11 (ix (ix d.2.2.1 q_2) (ix l.2.1 k)) (ix d.2.2.2.1 (ix (ix d.2.2.1 q_2) (ix l.2.1 k))) (k + (1 : Int)))) else
  G (fits (k + (1 : Int))) (
  r11 (ix (ix d.2.2.1 q_2) (ix l.2.1 k)) least_1 (k + (1 : Int))))))) else
  G (fits (i_1 + (1 : Int))) (
  r8 q_2 least_1 (i_1 + (1 : Int)))
noncomputable def r9_Accepts_L11_F (d : (Int × Int × (List (List Int)) × (List Int) × Unit)) (l : ((List Int) × (List Int) × Unit)) (i_1 : Int) (r8 : (Int → Int → Int → Option (Bool))) : (Int × Int × Int → Option (Bool)) → Int × Int × Int → Option (Bool) :=
  fun rec x => r9_Accepts_L11_B d l i_1 r8 (fun q_2 least_1 k => rec (q_2, least_1, k)) x.1 x.2.1 x.2.2
noncomputable def r9_Accepts_L11 (d : (Int × Int × (List (List Int)) × (List Int) × Unit)) (l : ((List Int) × (List Int) × Unit)) (i_1 : Int) (r8 : (Int → Int → Int → Option (Bool))) (q_2 : Int) (least_1 : Int) (k : Int) : Option (Bool) := LFix (r9_Accepts_L11_F d l i_1 r8 ) (q_2, least_1, k)
noncomputable def r9_Accepts_L8_B (d : (Int × Int × (List (List Int)) × (List Int) × Unit)) (l : ((List Int) × (List Int) × Unit)) (r8 : Int → Int → Int → Option (Bool)) (q_1 : Int) (least : Int) (i_1 : Int) : Option (Bool) :=
  if (decide (i_1 < (d.2.2.1.length : Int))) = true then
  r9_Accepts_L11 d l i_1 r8 q_1 least (0 : Int) else
  G ((2 : Int) ≠ 0) (
  some (decide ((Int.tmod least (2 : Int)) = (0 : Int))))
noncomputable def r9_Accepts_L8_F (d : (Int × Int × (List (List Int)) × (List Int) × Unit)) (l : ((List Int) × (List Int) × Unit)) : (Int × Int × Int → Option (Bool)) → Int × Int × Int → Option (Bool) :=
  fun rec x => r9_Accepts_L8_B d l (fun q_1 least i_1 => rec (q_1, least, i_1)) x.1 x.2.1 x.2.2
noncomputable def r9_Accepts_L8 (d : (Int × Int × (List (List Int)) × (List Int) × Unit)) (l : ((List Int) × (List Int) × Unit)) (q_1 : Int) (least : Int) (i_1 : Int) : Option (Bool) := LFix (r9_Accepts_L8_F d l ) (q_1, least, i_1)
noncomputable def r9_Accepts_L3_B (d : (Int × Int × (List (List Int)) × (List Int) × Unit)) (l : ((List Int) × (List Int) × Unit)) (r3 : Int → Int → Option (Bool)) (q : Int) (i : Int) : Option (Bool) :=
  if (decide (i < (d.2.2.1.length : Int))) = true then
  (r3_After (d.1, (d.2.1, (d.2.2.1, (d.2.2.2.1, ())))) q l.2.1).bind (fun y'_1 =>
  G (fits (i + (1 : Int))) (
  r3 y'_1 (i + (1 : Int)))) else
  r9_Accepts_L8 d l q (10 : Int) (0 : Int)
noncomputable def r9_Accepts_L3_F (d : (Int × Int × (List (List Int)) × (List Int) × Unit)) (l : ((List Int) × (List Int) × Unit)) : (Int × Int → Option (Bool)) → Int × Int → Option (Bool) :=
  fun rec x => r9_Accepts_L3_B d l (fun q i => rec (q, i)) x.1 x.2
noncomputable def r9_Accepts_L3 (d : (Int × Int × (List (List Int)) × (List Int) × Unit)) (l : ((List Int) × (List Int) × Unit)) (q : Int) (i : Int) : Option (Bool) := LFix (r9_Accepts_L3_F d l ) (q, i)
noncomputable def r9_Accepts (d : (Int × Int × (List (List Int)) × (List Int) × Unit)) (l : ((List Int) × (List Int) × Unit)) : Option (Bool) :=
  (r3_After (d.1, (d.2.1, (d.2.2.1, (d.2.2.2.1, ())))) d.2.1 l.1).bind (fun y' =>
  r9_Accepts_L3 d l y' (0 : Int))
theorem r9_Accepts_L11_B_ch (r8 : Nat → Int → Int → Int → Option (Bool)) (r8' : Int → Int → Int → Option (Bool)) (h_r8 : ∀ a0 a1 a2, ChO (fun κ => r8 κ a0 a1 a2) (r8' a0 a1 a2)) (r11 : Nat → Int → Int → Int → Option (Bool)) (r11' : Int → Int → Int → Option (Bool)) (h_r11 : ∀ a0 a1 a2, ChO (fun κ => r11 κ a0 a1 a2) (r11' a0 a1 a2)) (d : (Int × Int × (List (List Int)) × (List Int) × Unit)) (l : ((List Int) × (List Int) × Unit)) (i_1 : Int) (q_2 : Int) (least_1 : Int) (k : Int) : ChO (fun κ => r9_Accepts_L11_B d l i_1 (r8 κ) (r11 κ) q_2 least_1 k) (r9_Accepts_L11_B d l i_1 r8' r11' q_2 least_1 k) := by
  unfold r9_Accepts_L11_B
  repeat' first | exact ChO.const _ | exact h_r8 _ _ _ | exact h_r11 _ _ _ | apply ChO.ite | apply ChO.G | apply ChO.both | (apply ChO.bind; intro _)
theorem r9_Accepts_L11_cn (r8 : Int → Int → Int → Option (Bool)) (d : (Int × Int × (List (List Int)) × (List Int) × Unit)) (l : ((List Int) × (List Int) × Unit)) (i_1 : Int) : Cn (r9_Accepts_L11_F d l i_1 r8) := fun g h hg x => r9_Accepts_L11_B_ch (fun _ => r8) r8 (fun _ _ _ => ChO.const _) (fun κ q_2 least_1 k => g κ (q_2, least_1, k)) (fun q_2 least_1 k => h (q_2, least_1, k)) (fun q_2 least_1 k => hg (q_2, least_1, k)) d l i_1 x.1 x.2.1 x.2.2
theorem r9_Accepts_L11_eq (r8 : Int → Int → Int → Option (Bool)) (d : (Int × Int × (List (List Int)) × (List Int) × Unit)) (l : ((List Int) × (List Int) × Unit)) (i_1 : Int) (q_2 : Int) (least_1 : Int) (k : Int) : r9_Accepts_L11 d l i_1 r8 q_2 least_1 k = r9_Accepts_L11_B d l i_1 r8 (r9_Accepts_L11 d l i_1 r8) q_2 least_1 k := LFix_eq (r9_Accepts_L11_cn r8 d l i_1) (q_2, least_1, k)
theorem r9_Accepts_L11_ch (r8 : Nat → Int → Int → Int → Option (Bool)) (r8' : Int → Int → Int → Option (Bool)) (h_r8 : ∀ a0 a1 a2, ChO (fun κ => r8 κ a0 a1 a2) (r8' a0 a1 a2)) (d : (Int × Int × (List (List Int)) × (List Int) × Unit)) (l : ((List Int) × (List Int) × Unit)) (i_1 : Int) (q_2 : Int) (least_1 : Int) (k : Int) : ChO (fun κ => r9_Accepts_L11 d l i_1 (r8 κ) q_2 least_1 k) (r9_Accepts_L11 d l i_1 r8' q_2 least_1 k) := by
  unfold r9_Accepts_L11
  exact LFix_ch (fun κ => (r9_Accepts_L11_cn (r8 κ) d l i_1).mono) (r9_Accepts_L11_cn r8' d l i_1).mono (fun g h hg x => r9_Accepts_L11_B_ch r8 r8' h_r8 (fun κ q_2 least_1 k => g κ (q_2, least_1, k)) (fun q_2 least_1 k => h (q_2, least_1, k)) (fun q_2 least_1 k => hg (q_2, least_1, k)) d l i_1 x.1 x.2.1 x.2.2) _
theorem r9_Accepts_L8_B_ch (r8 : Nat → Int → Int → Int → Option (Bool)) (r8' : Int → Int → Int → Option (Bool)) (h_r8 : ∀ a0 a1 a2, ChO (fun κ => r8 κ a0 a1 a2) (r8' a0 a1 a2)) (d : (Int × Int × (List (List Int)) × (List Int) × Unit)) (l : ((List Int) × (List Int) × Unit)) (q_1 : Int) (least : Int) (i_1 : Int) : ChO (fun κ => r9_Accepts_L8_B d l (r8 κ) q_1 least i_1) (r9_Accepts_L8_B d l r8' q_1 least i_1) := by
  unfold r9_Accepts_L8_B
  repeat' first | exact ChO.const _ | exact h_r8 _ _ _ | (apply r9_Accepts_L11_ch <;> assumption) | apply ChO.ite | apply ChO.G | apply ChO.both | (apply ChO.bind; intro _)
theorem r9_Accepts_L8_cn  (d : (Int × Int × (List (List Int)) × (List Int) × Unit)) (l : ((List Int) × (List Int) × Unit)) : Cn (r9_Accepts_L8_F d l) := fun g h hg x => r9_Accepts_L8_B_ch  (fun κ q_1 least i_1 => g κ (q_1, least, i_1)) (fun q_1 least i_1 => h (q_1, least, i_1)) (fun q_1 least i_1 => hg (q_1, least, i_1)) d l x.1 x.2.1 x.2.2
theorem r9_Accepts_L8_eq  (d : (Int × Int × (List (List Int)) × (List Int) × Unit)) (l : ((List Int) × (List Int) × Unit)) (q_1 : Int) (least : Int) (i_1 : Int) : r9_Accepts_L8 d l q_1 least i_1 = r9_Accepts_L8_B d l (r9_Accepts_L8 d l) q_1 least i_1 := LFix_eq (r9_Accepts_L8_cn d l) (q_1, least, i_1)
theorem r9_Accepts_L3_B_ch (r3 : Nat → Int → Int → Option (Bool)) (r3' : Int → Int → Option (Bool)) (h_r3 : ∀ a0 a1, ChO (fun κ => r3 κ a0 a1) (r3' a0 a1)) (d : (Int × Int × (List (List Int)) × (List Int) × Unit)) (l : ((List Int) × (List Int) × Unit)) (q : Int) (i : Int) : ChO (fun κ => r9_Accepts_L3_B d l (r3 κ) q i) (r9_Accepts_L3_B d l r3' q i) := by
  unfold r9_Accepts_L3_B
  repeat' first | exact ChO.const _ | exact h_r3 _ _ | (apply r9_Accepts_L11_ch <;> assumption) | apply ChO.ite | apply ChO.G | apply ChO.both | (apply ChO.bind; intro _)
theorem r9_Accepts_L3_cn  (d : (Int × Int × (List (List Int)) × (List Int) × Unit)) (l : ((List Int) × (List Int) × Unit)) : Cn (r9_Accepts_L3_F d l) := fun g h hg x => r9_Accepts_L3_B_ch  (fun κ q i => g κ (q, i)) (fun q i => h (q, i)) (fun q i => hg (q, i)) d l x.1 x.2
theorem r9_Accepts_L3_eq  (d : (Int × Int × (List (List Int)) × (List Int) × Unit)) (l : ((List Int) × (List Int) × Unit)) (q : Int) (i : Int) : r9_Accepts_L3 d l q i = r9_Accepts_L3_B d l (r9_Accepts_L3 d l) q i := LFix_eq (r9_Accepts_L3_cn d l) (q, i)

noncomputable def law_SafraAccepts (d : (Int × Int × (List (List Int)) × (List Int) × Unit)) (l : ((List Int) × (List Int) × Unit)) : Option (Bool) :=
  (safra_Check (d.1, (d.2.1, (d.2.2.1, (d.2.2.2.1, ()))))).bind (fun y' =>
  (r9_Check (d.1, (d.2.1, (d.2.2.1, (d.2.2.2.1, ()))))).bind (fun y'_1 =>
  (safra_Accepts (d.1, (d.2.1, (d.2.2.1, (d.2.2.2.1, ())))) (l.1, (l.2.1, ()))).bind (fun y'_7 =>
  if (decide (¬ y' = y'_1)) = true then
  some false else
  if (decide (¬ y'_1 = (0 : Int))) = true then
  if (decide (y'_7.2 = y'_1)) = true then
  some (!y'_7.1) else
  some false else
  (r1_Lasso d.1 (l.1, (l.2.1, ()))).bind (fun y'_5 =>
  if (decide (¬ y'_5 = (0 : Int))) = true then
  if (decide (y'_7.2 = y'_5)) = true then
  some (!y'_7.1) else
  some false else
  (r9_Accepts (d.1, (d.2.1, (d.2.2.1, (d.2.2.2.1, ())))) (l.1, (l.2.1, ()))).bind (fun y'_6 =>
  if (decide (y'_7.2 = (0 : Int))) = true then
  some (decide (y'_7.1 = y'_6)) else
  some false)))))

end Go.Proofs.Ytjhgdnfkipchoaa.safraAcceptsW
