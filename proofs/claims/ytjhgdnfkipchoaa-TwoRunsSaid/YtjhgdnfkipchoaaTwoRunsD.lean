/- What the functions that 'TwoRuns' reaches compute: plain functions. -/
import Derived.Test.YtjhgdnfkipchoaaEv4n21
set_option maxHeartbeats 1000000
set_option maxRecDepth 20000
set_option linter.unusedSimpArgs false
set_option linter.unusedVariables false
namespace Go.Proofs.Ytjhgdnfkipchoaa.twoRunsW
open Go Go.Ab
noncomputable def two_Check_1 (r : (List (Int × Int × Unit))) (t : (Int × Int × (List (List (Int × Int × Unit))) × (List Int) × Unit)) : Option (Bool) :=
  G (fits (t.1 + (2 : Int))) (
  some (decide (¬ (r.length : Int) = (t.1 + (2 : Int)))))

noncomputable def slices_IndexFunc_L2_B (s : (List (List (Int × Int × Unit)))) (c : (Int × Int × (List (List (Int × Int × Unit))) × (List Int) × Unit)) (r2 : Int → Option (Int)) (t : Int) : Option (Int) :=
  if (decide (t < (s.length : Int))) = true then
  G (0 ≤ t ∧ t < (s.length : Int)) (
  (two_Check_1 (ix s t) c).bind (fun y' =>
  if y' = true then
  some t else
  G (fits (t + (1 : Int))) (
  r2 (t + (1 : Int))))) else
  some (-1 : Int)
noncomputable def slices_IndexFunc_L2_F (s : (List (List (Int × Int × Unit)))) (c : (Int × Int × (List (List (Int × Int × Unit))) × (List Int) × Unit)) : (Int → Option (Int)) → Int → Option (Int) :=
  fun rec x => slices_IndexFunc_L2_B s c (fun t => rec t) x
noncomputable def slices_IndexFunc_L2 (s : (List (List (Int × Int × Unit)))) (c : (Int × Int × (List (List (Int × Int × Unit))) × (List Int) × Unit)) (t : Int) : Option (Int) := LFix (slices_IndexFunc_L2_F s c ) t
noncomputable def slices_IndexFunc (s : (List (List (Int × Int × Unit)))) (c : (Int × Int × (List (List (Int × Int × Unit))) × (List Int) × Unit)) : Option (Int) :=
  slices_IndexFunc_L2 s c (0 : Int)
theorem slices_IndexFunc_L2_B_ch (r2 : Nat → Int → Option (Int)) (r2' : Int → Option (Int)) (h_r2 : ∀ a0, ChO (fun κ => r2 κ a0) (r2' a0)) (s : (List (List (Int × Int × Unit)))) (c : (Int × Int × (List (List (Int × Int × Unit))) × (List Int) × Unit)) (t : Int) : ChO (fun κ => slices_IndexFunc_L2_B s c (r2 κ) t) (slices_IndexFunc_L2_B s c r2' t) := by
  unfold slices_IndexFunc_L2_B
  repeat' first | exact ChO.const _ | exact h_r2 _ | apply ChO.ite | apply ChO.G | apply ChO.both | (apply ChO.bind; intro _)
theorem slices_IndexFunc_L2_cn  (s : (List (List (Int × Int × Unit)))) (c : (Int × Int × (List (List (Int × Int × Unit))) × (List Int) × Unit)) : Cn (slices_IndexFunc_L2_F s c) := fun g h hg x => slices_IndexFunc_L2_B_ch  (fun κ t => g κ t) (fun t => h t) (fun t => hg t) s c x
theorem slices_IndexFunc_L2_eq  (s : (List (List (Int × Int × Unit)))) (c : (Int × Int × (List (List (Int × Int × Unit))) × (List Int) × Unit)) (t : Int) : slices_IndexFunc_L2 s c t = slices_IndexFunc_L2_B s c (slices_IndexFunc_L2 s c) t := LFix_eq (slices_IndexFunc_L2_cn s c) t

noncomputable def slices_ContainsFunc (s : (List (List (Int × Int × Unit)))) (c : (Int × Int × (List (List (Int × Int × Unit))) × (List Int) × Unit)) : Option (Bool) :=
  (slices_IndexFunc s c).bind (fun y' =>
  some (decide ((0 : Int) ≤ y')))

noncomputable def two_Check_2 (q : Int) (t : Int) : Option (Bool) :=
  if (decide (q < (0 : Int))) = true then
  some true else
  some (decide (t ≤ q))

noncomputable def two_Check_3_1 (x' : (Int × Int × Unit)) (c : Int) : Option (Bool × Int) :=
  (two_Check_2 x'.1 c).bind (fun y' =>
  if y' = true then
  some (true, c) else
  if (decide (¬ x'.2.1 = (1 : Int))) = true then
  some (decide (¬ x'.2.1 = (-1 : Int)), c) else
  some (false, c))

noncomputable def slices_IndexFunc_2_L2_B (s : (List (Int × Int × Unit))) (r2 : Int → Int → Option (Int × Int)) (t : Int) (l : Int) : Option (Int × Int) :=
  if (decide (t < (s.length : Int))) = true then
  G (0 ≤ t ∧ t < (s.length : Int)) (
  (two_Check_3_1 (ix s t) l).bind (fun y'_3 =>
  if y'_3.1 = true then
  some (t, y'_3.2) else
  G (fits (t + (1 : Int))) (
  r2 (t + (1 : Int)) y'_3.2))) else
  some ((-1 : Int), l)
noncomputable def slices_IndexFunc_2_L2_F (s : (List (Int × Int × Unit))) : (Int × Int → Option (Int × Int)) → Int × Int → Option (Int × Int) :=
  fun rec x => slices_IndexFunc_2_L2_B s (fun t l => rec (t, l)) x.1 x.2
noncomputable def slices_IndexFunc_2_L2 (s : (List (Int × Int × Unit))) (t : Int) (l : Int) : Option (Int × Int) := LFix (slices_IndexFunc_2_L2_F s ) (t, l)
noncomputable def slices_IndexFunc_2 (s : (List (Int × Int × Unit))) (c : Int) : Option (Int × Int) :=
  slices_IndexFunc_2_L2 s (0 : Int) c
theorem slices_IndexFunc_2_L2_B_ch (r2 : Nat → Int → Int → Option (Int × Int)) (r2' : Int → Int → Option (Int × Int)) (h_r2 : ∀ a0 a1, ChO (fun κ => r2 κ a0 a1) (r2' a0 a1)) (s : (List (Int × Int × Unit))) (t : Int) (l : Int) : ChO (fun κ => slices_IndexFunc_2_L2_B s (r2 κ) t l) (slices_IndexFunc_2_L2_B s r2' t l) := by
  unfold slices_IndexFunc_2_L2_B
  repeat' first | exact ChO.const _ | exact h_r2 _ _ | apply ChO.ite | apply ChO.G | apply ChO.both | (apply ChO.bind; intro _)
theorem slices_IndexFunc_2_L2_cn  (s : (List (Int × Int × Unit))) : Cn (slices_IndexFunc_2_L2_F s) := fun g h hg x => slices_IndexFunc_2_L2_B_ch  (fun κ t l => g κ (t, l)) (fun t l => h (t, l)) (fun t l => hg (t, l)) s x.1 x.2
theorem slices_IndexFunc_2_L2_eq  (s : (List (Int × Int × Unit))) (t : Int) (l : Int) : slices_IndexFunc_2_L2 s t l = slices_IndexFunc_2_L2_B s (slices_IndexFunc_2_L2 s) t l := LFix_eq (slices_IndexFunc_2_L2_cn s) (t, l)

noncomputable def slices_ContainsFunc_2 (s : (List (Int × Int × Unit))) (c : Int) : Option (Bool × Int) :=
  (slices_IndexFunc_2 s c).bind (fun y'_3 =>
  some (decide ((0 : Int) ≤ y'_3.1), y'_3.2))

noncomputable def two_Check_3 (r : (List (Int × Int × Unit))) (c : Int) : Option (Bool × Int) :=
  (slices_ContainsFunc_2 r c).bind (fun y'_3 =>
  some (y'_3.1, y'_3.2))

noncomputable def slices_IndexFunc_1_L2_B (s : (List (List (Int × Int × Unit)))) (r2 : Int → Int → Option (Int × Int)) (t : Int) (l : Int) : Option (Int × Int) :=
  if (decide (t < (s.length : Int))) = true then
  G (0 ≤ t ∧ t < (s.length : Int)) (
  (two_Check_3 (ix s t) l).bind (fun y'_3 =>
  if y'_3.1 = true then
  some (t, y'_3.2) else
  G (fits (t + (1 : Int))) (
  r2 (t + (1 : Int)) y'_3.2))) else
  some ((-1 : Int), l)
noncomputable def slices_IndexFunc_1_L2_F (s : (List (List (Int × Int × Unit)))) : (Int × Int → Option (Int × Int)) → Int × Int → Option (Int × Int) :=
  fun rec x => slices_IndexFunc_1_L2_B s (fun t l => rec (t, l)) x.1 x.2
noncomputable def slices_IndexFunc_1_L2 (s : (List (List (Int × Int × Unit)))) (t : Int) (l : Int) : Option (Int × Int) := LFix (slices_IndexFunc_1_L2_F s ) (t, l)
noncomputable def slices_IndexFunc_1 (s : (List (List (Int × Int × Unit)))) (c : Int) : Option (Int × Int) :=
  slices_IndexFunc_1_L2 s (0 : Int) c
theorem slices_IndexFunc_1_L2_B_ch (r2 : Nat → Int → Int → Option (Int × Int)) (r2' : Int → Int → Option (Int × Int)) (h_r2 : ∀ a0 a1, ChO (fun κ => r2 κ a0 a1) (r2' a0 a1)) (s : (List (List (Int × Int × Unit)))) (t : Int) (l : Int) : ChO (fun κ => slices_IndexFunc_1_L2_B s (r2 κ) t l) (slices_IndexFunc_1_L2_B s r2' t l) := by
  unfold slices_IndexFunc_1_L2_B
  repeat' first | exact ChO.const _ | exact h_r2 _ _ | apply ChO.ite | apply ChO.G | apply ChO.both | (apply ChO.bind; intro _)
theorem slices_IndexFunc_1_L2_cn  (s : (List (List (Int × Int × Unit)))) : Cn (slices_IndexFunc_1_L2_F s) := fun g h hg x => slices_IndexFunc_1_L2_B_ch  (fun κ t l => g κ (t, l)) (fun t l => h (t, l)) (fun t l => hg (t, l)) s x.1 x.2
theorem slices_IndexFunc_1_L2_eq  (s : (List (List (Int × Int × Unit)))) (t : Int) (l : Int) : slices_IndexFunc_1_L2 s t l = slices_IndexFunc_1_L2_B s (slices_IndexFunc_1_L2 s) t l := LFix_eq (slices_IndexFunc_1_L2_cn s) (t, l)

noncomputable def slices_ContainsFunc_1 (s : (List (List (Int × Int × Unit)))) (c : Int) : Option (Bool × Int) :=
  (slices_IndexFunc_1 s c).bind (fun y'_3 =>
  some (decide ((0 : Int) ≤ y'_3.1), y'_3.2))

noncomputable def two_Check_4 (m : Int) : Option (Bool) :=
  if (decide (¬ m = (0 : Int))) = true then
  some (decide (¬ m = (1 : Int))) else
  some false

noncomputable def slices_IndexFunc_3_L2_B (s : (List Int)) (r2 : Int → Option (Int)) (t : Int) : Option (Int) :=
  if (decide (t < (s.length : Int))) = true then
  G (0 ≤ t ∧ t < (s.length : Int)) (
  (two_Check_4 (ix s t)).bind (fun y' =>
  if y' = true then
  some t else
  G (fits (t + (1 : Int))) (
  r2 (t + (1 : Int))))) else
  some (-1 : Int)
noncomputable def slices_IndexFunc_3_L2_F (s : (List Int)) : (Int → Option (Int)) → Int → Option (Int) :=
  fun rec x => slices_IndexFunc_3_L2_B s (fun t => rec t) x
noncomputable def slices_IndexFunc_3_L2 (s : (List Int)) (t : Int) : Option (Int) := LFix (slices_IndexFunc_3_L2_F s ) t
noncomputable def slices_IndexFunc_3 (s : (List Int)) : Option (Int) :=
  slices_IndexFunc_3_L2 s (0 : Int)
theorem slices_IndexFunc_3_L2_B_ch (r2 : Nat → Int → Option (Int)) (r2' : Int → Option (Int)) (h_r2 : ∀ a0, ChO (fun κ => r2 κ a0) (r2' a0)) (s : (List Int)) (t : Int) : ChO (fun κ => slices_IndexFunc_3_L2_B s (r2 κ) t) (slices_IndexFunc_3_L2_B s r2' t) := by
  unfold slices_IndexFunc_3_L2_B
  repeat' first | exact ChO.const _ | exact h_r2 _ | apply ChO.ite | apply ChO.G | apply ChO.both | (apply ChO.bind; intro _)
theorem slices_IndexFunc_3_L2_cn  (s : (List Int)) : Cn (slices_IndexFunc_3_L2_F s) := fun g h hg x => slices_IndexFunc_3_L2_B_ch  (fun κ t => g κ t) (fun t => h t) (fun t => hg t) s x
theorem slices_IndexFunc_3_L2_eq  (s : (List Int)) (t : Int) : slices_IndexFunc_3_L2 s t = slices_IndexFunc_3_L2_B s (slices_IndexFunc_3_L2 s) t := LFix_eq (slices_IndexFunc_3_L2_cn s) t

noncomputable def slices_ContainsFunc_3 (s : (List Int)) : Option (Bool) :=
  (slices_IndexFunc_3 s).bind (fun y' =>
  some (decide ((0 : Int) ≤ y')))

noncomputable def two_Check (t : (Int × Int × (List (List (Int × Int × Unit))) × (List Int) × Unit)) : Option (Int) :=
  if (decide (t.1 < (1 : Int))) = true then
  some (2 : Int) else
  if (decide ((4 : Int) < t.1)) = true then
  some (2 : Int) else
  if (decide ((t.2.2.1.length : Int) < (1 : Int))) = true then
  some (1 : Int) else
  if (decide ((4 : Int) < (t.2.2.1.length : Int))) = true then
  some (1 : Int) else
  if (decide (¬ (t.2.2.2.1.length : Int) = (t.2.2.1.length : Int))) = true then
  some (3 : Int) else
  (slices_ContainsFunc t.2.2.1 (t.1, (t.2.1, (t.2.2.1, (t.2.2.2.1, ()))))).bind (fun y' =>
  if y' = true then
  some (3 : Int) else
  (two_Check_2 t.2.1 (t.2.2.1.length : Int)).bind (fun y'_1 =>
  if y'_1 = true then
  some (2 : Int) else
  (slices_ContainsFunc_1 t.2.2.1 (t.2.2.1.length : Int)).bind (fun y'_6 =>
  if y'_6.1 = true then
  some (2 : Int) else
  (slices_ContainsFunc_3 t.2.2.2.1).bind (fun y'_5 =>
  if y'_5 = true then
  some (2 : Int) else
  some (0 : Int)))))

noncomputable def r25_Check_L19_B (t : (Int × Int × (List (List (Int × Int × Unit))) × (List Int) × Unit)) (q_1 : Int) (r16 : (Int → Option (Int))) (r19 : Int → Option (Int)) (a : Int) : Option (Int) :=
  G (fits (t.1 + (2 : Int))) (
  if (decide (a < (t.1 + (2 : Int)))) = true then
  G (0 ≤ q_1 ∧ q_1 < (t.2.2.1.length : Int)) (
  G (0 ≤ a ∧ a < ((ix t.2.2.1 q_1).length : Int)) (
  if (decide (((ix (ix t.2.2.1 q_1) a).1) < (0 : Int))) = true then
  some (2 : Int) else
  if (decide ((t.2.2.1.length : Int) ≤ ((ix (ix t.2.2.1 q_1) a).1))) = true then
  some (2 : Int) else
  if (decide (¬ (((ix (ix t.2.2.1 q_1) a).2).1) = (1 : Int))) = true then
  if (decide (¬ (((ix (ix t.2.2.1 q_1) a).2).1) = (-1 : Int))) = true then
  some (2 : Int) else
  G (fits (a + (1 : Int))) (
  r19 (a + (1 : Int))) else
  G (fits (a + (1 : Int))) (
  r19 (a + (1 : Int))))) else
  G (0 ≤ q_1 ∧ q_1 < (t.2.2.2.1.length : Int)) (
  if (decide (¬ (ix t.2.2.2.1 q_1) = (0 : Int))) = true then
  G (0 ≤ q_1 ∧ q_1 < (t.2.2.2.1.length : Int)) (
  if (decide (¬ (ix t.2.2.2.1 q_1) = (1 : Int))) = true then
  some (2 : Int) else
  G (fits (q_1 + (1 : Int))) (
  r16 (q_1 + (1 : Int)))) else
  G (fits (q_1 + (1 : Int))) (
  r16 (q_1 + (1 : Int)))))
noncomputable def r25_Check_L19_F (t : (Int × Int × (List (List (Int × Int × Unit))) × (List Int) × Unit)) (q_1 : Int) (r16 : (Int → Option (Int))) : (Int → Option (Int)) → Int → Option (Int) :=
  fun rec x => r25_Check_L19_B t q_1 r16 (fun a => rec a) x
noncomputable def r25_Check_L19 (t : (Int × Int × (List (List (Int × Int × Unit))) × (List Int) × Unit)) (q_1 : Int) (r16 : (Int → Option (Int))) (a : Int) : Option (Int) := LFix (r25_Check_L19_F t q_1 r16 ) a
noncomputable def r25_Check_L16_B (t : (Int × Int × (List (List (Int × Int × Unit))) × (List Int) × Unit)) (r16 : Int → Option (Int)) (q_1 : Int) : Option (Int) :=
  if (decide (q_1 < (t.2.2.1.length : Int))) = true then
  r25_Check_L19 t q_1 r16 (0 : Int) else
  some (0 : Int)
noncomputable def r25_Check_L16_F (t : (Int × Int × (List (List (Int × Int × Unit))) × (List Int) × Unit)) : (Int → Option (Int)) → Int → Option (Int) :=
  fun rec x => r25_Check_L16_B t (fun q_1 => rec q_1) x
noncomputable def r25_Check_L16 (t : (Int × Int × (List (List (Int × Int × Unit))) × (List Int) × Unit)) (q_1 : Int) : Option (Int) := LFix (r25_Check_L16_F t ) q_1
noncomputable def r25_Check_L9_B (t : (Int × Int × (List (List (Int × Int × Unit))) × (List Int) × Unit)) (r9 : Int → Option (Int)) (q : Int) : Option (Int) :=
  if (decide (q < (t.2.2.1.length : Int))) = true then
  G (0 ≤ q ∧ q < (t.2.2.1.length : Int)) (
  G (fits (t.1 + (2 : Int))) (
  if (decide (¬ ((ix t.2.2.1 q).length : Int) = (t.1 + (2 : Int)))) = true then
  some (3 : Int) else
  G (fits (q + (1 : Int))) (
  r9 (q + (1 : Int))))) else
  if (decide (t.2.1 < (0 : Int))) = true then
  some (2 : Int) else
  if (decide ((t.2.2.1.length : Int) ≤ t.2.1)) = true then
  some (2 : Int) else
  r25_Check_L16 t (0 : Int)
noncomputable def r25_Check_L9_F (t : (Int × Int × (List (List (Int × Int × Unit))) × (List Int) × Unit)) : (Int → Option (Int)) → Int → Option (Int) :=
  fun rec x => r25_Check_L9_B t (fun q => rec q) x
noncomputable def r25_Check_L9 (t : (Int × Int × (List (List (Int × Int × Unit))) × (List Int) × Unit)) (q : Int) : Option (Int) := LFix (r25_Check_L9_F t ) q
noncomputable def r25_Check (t : (Int × Int × (List (List (Int × Int × Unit))) × (List Int) × Unit)) : Option (Int) :=
  if (decide (t.1 < (1 : Int))) = true then
  some (2 : Int) else
  if (decide ((4 : Int) < t.1)) = true then
  some (2 : Int) else
  if (decide ((t.2.2.1.length : Int) < (1 : Int))) = true then
  some (1 : Int) else
  if (decide ((4 : Int) < (t.2.2.1.length : Int))) = true then
  some (1 : Int) else
  if (decide (¬ (t.2.2.2.1.length : Int) = (t.2.2.1.length : Int))) = true then
  some (3 : Int) else
  r25_Check_L9 t (0 : Int)
theorem r25_Check_L19_B_ch (r16 : Nat → Int → Option (Int)) (r16' : Int → Option (Int)) (h_r16 : ∀ a0, ChO (fun κ => r16 κ a0) (r16' a0)) (r19 : Nat → Int → Option (Int)) (r19' : Int → Option (Int)) (h_r19 : ∀ a0, ChO (fun κ => r19 κ a0) (r19' a0)) (t : (Int × Int × (List (List (Int × Int × Unit))) × (List Int) × Unit)) (q_1 : Int) (a : Int) : ChO (fun κ => r25_Check_L19_B t q_1 (r16 κ) (r19 κ) a) (r25_Check_L19_B t q_1 r16' r19' a) := by
  unfold r25_Check_L19_B
  repeat' first | exact ChO.const _ | exact h_r16 _ | exact h_r19 _ | apply ChO.ite | apply ChO.G | apply ChO.both | (apply ChO.bind; intro _)
theorem r25_Check_L19_cn (r16 : Int → Option (Int)) (t : (Int × Int × (List (List (Int × Int × Unit))) × (List Int) × Unit)) (q_1 : Int) : Cn (r25_Check_L19_F t q_1 r16) := fun g h hg x => r25_Check_L19_B_ch (fun _ => r16) r16 (fun _ => ChO.const _) (fun κ a => g κ a) (fun a => h a) (fun a => hg a) t q_1 x
theorem r25_Check_L19_eq (r16 : Int → Option (Int)) (t : (Int × Int × (List (List (Int × Int × Unit))) × (List Int) × Unit)) (q_1 : Int) (a : Int) : r25_Check_L19 t q_1 r16 a = r25_Check_L19_B t q_1 r16 (r25_Check_L19 t q_1 r16) a := LFix_eq (r25_Check_L19_cn r16 t q_1) a
theorem r25_Check_L19_ch (r16 : Nat → Int → Option (Int)) (r16' : Int → Option (Int)) (h_r16 : ∀ a0, ChO (fun κ => r16 κ a0) (r16' a0)) (t : (Int × Int × (List (List (Int × Int × Unit))) × (List Int) × Unit)) (q_1 : Int) (a : Int) : ChO (fun κ => r25_Check_L19 t q_1 (r16 κ) a) (r25_Check_L19 t q_1 r16' a) := by
  unfold r25_Check_L19
  exact LFix_ch (fun κ => (r25_Check_L19_cn (r16 κ) t q_1).mono) (r25_Check_L19_cn r16' t q_1).mono (fun g h hg x => r25_Check_L19_B_ch r16 r16' h_r16 (fun κ a => g κ a) (fun a => h a) (fun a => hg a) t q_1 x) _
theorem r25_Check_L16_B_ch (r16 : Nat → Int → Option (Int)) (r16' : Int → Option (Int)) (h_r16 : ∀ a0, ChO (fun κ => r16 κ a0) (r16' a0)) (t : (Int × Int × (List (List (Int × Int × Unit))) × (List Int) × Unit)) (q_1 : Int) : ChO (fun κ => r25_Check_L16_B t (r16 κ) q_1) (r25_Check_L16_B t r16' q_1) := by
  unfold r25_Check_L16_B
  repeat' first | exact ChO.const _ | exact h_r16 _ | (apply r25_Check_L19_ch <;> assumption) | apply ChO.ite | apply ChO.G | apply ChO.both | (apply ChO.bind; intro _)
theorem r25_Check_L16_cn  (t : (Int × Int × (List (List (Int × Int × Unit))) × (List Int) × Unit)) : Cn (r25_Check_L16_F t) := fun g h hg x => r25_Check_L16_B_ch  (fun κ q_1 => g κ q_1) (fun q_1 => h q_1) (fun q_1 => hg q_1) t x
theorem r25_Check_L16_eq  (t : (Int × Int × (List (List (Int × Int × Unit))) × (List Int) × Unit)) (q_1 : Int) : r25_Check_L16 t q_1 = r25_Check_L16_B t (r25_Check_L16 t) q_1 := LFix_eq (r25_Check_L16_cn t) q_1
theorem r25_Check_L9_B_ch (r9 : Nat → Int → Option (Int)) (r9' : Int → Option (Int)) (h_r9 : ∀ a0, ChO (fun κ => r9 κ a0) (r9' a0)) (t : (Int × Int × (List (List (Int × Int × Unit))) × (List Int) × Unit)) (q : Int) : ChO (fun κ => r25_Check_L9_B t (r9 κ) q) (r25_Check_L9_B t r9' q) := by
  unfold r25_Check_L9_B
  repeat' first | exact ChO.const _ | exact h_r9 _ | (apply r25_Check_L19_ch <;> assumption) | apply ChO.ite | apply ChO.G | apply ChO.both | (apply ChO.bind; intro _)
theorem r25_Check_L9_cn  (t : (Int × Int × (List (List (Int × Int × Unit))) × (List Int) × Unit)) : Cn (r25_Check_L9_F t) := fun g h hg x => r25_Check_L9_B_ch  (fun κ q => g κ q) (fun q => h q) (fun q => hg q) t x
theorem r25_Check_L9_eq  (t : (Int × Int × (List (List (Int × Int × Unit))) × (List Int) × Unit)) (q : Int) : r25_Check_L9 t q = r25_Check_L9_B t (r25_Check_L9 t) q := LFix_eq (r25_Check_L9_cn t) q

noncomputable def word_May_L6_B (letters : Int) (w : (List Int)) (r6 : Int → Option (Int)) (t : Int) : Option (Int) :=
  if (decide (t < (w.length : Int))) = true then
  G (0 ≤ t ∧ t < (w.length : Int)) (
  if (decide ((ix w t) < (0 : Int))) = true then
  some (2 : Int) else
  if (decide (letters ≤ (ix w t))) = true then
  some (2 : Int) else
  G (fits (t + (1 : Int))) (
  r6 (t + (1 : Int)))) else
  some (0 : Int)
noncomputable def word_May_L6_F (letters : Int) (w : (List Int)) : (Int → Option (Int)) → Int → Option (Int) :=
  fun rec x => word_May_L6_B letters w (fun t => rec t) x
noncomputable def word_May_L6 (letters : Int) (w : (List Int)) (t : Int) : Option (Int) := LFix (word_May_L6_F letters w ) t
noncomputable def word_May (letters : Int) (w : (List Int)) : Option (Int) :=
  if (decide (letters < (1 : Int))) = true then
  some (2 : Int) else
  if (decide ((4 : Int) < letters)) = true then
  some (2 : Int) else
  if (decide ((60 : Int) < (w.length : Int))) = true then
  some (1 : Int) else
  word_May_L6 letters w (0 : Int)
theorem word_May_L6_B_ch (r6 : Nat → Int → Option (Int)) (r6' : Int → Option (Int)) (h_r6 : ∀ a0, ChO (fun κ => r6 κ a0) (r6' a0)) (letters : Int) (w : (List Int)) (t : Int) : ChO (fun κ => word_May_L6_B letters w (r6 κ) t) (word_May_L6_B letters w r6' t) := by
  unfold word_May_L6_B
  repeat' first | exact ChO.const _ | exact h_r6 _ | apply ChO.ite | apply ChO.G | apply ChO.both | (apply ChO.bind; intro _)
theorem word_May_L6_cn  (letters : Int) (w : (List Int)) : Cn (word_May_L6_F letters w) := fun g h hg x => word_May_L6_B_ch  (fun κ t => g κ t) (fun t => h t) (fun t => hg t) letters w x
theorem word_May_L6_eq  (letters : Int) (w : (List Int)) (t : Int) : word_May_L6 letters w t = word_May_L6_B letters w (word_May_L6 letters w) t := LFix_eq (word_May_L6_cn letters w) t

noncomputable def slices_Grow (n : Int) : Option (List Int) :=
  if (decide (n < (0 : Int))) = true then
  none else
  G (fits ((0 : Int) - (0 : Int))) (
  G (fits (n - ((0 : Int) - (0 : Int)))) (
  if (decide ((0 : Int) < (n - ((0 : Int) - (0 : Int))))) = true then
  G ((0 : Int) = (0 : Int)) (
  G (0 < n - ((0 : Int) - (0 : Int)) ∧ (n - ((0 : Int) - (0 : Int))) * 8 ≤ 140737488355328) (
  G (0 ≤ (0 : Int) ∧ (0 : Int) ≤ ((List.replicate (n - ((0 : Int) - (0 : Int))).toNat (0 : Int)).length : Int)) (
  some ((List.replicate (n - ((0 : Int) - (0 : Int))).toNat (0 : Int)).take ((0 : Int)).toNat)))) else
  some ([])))

noncomputable def slices_Concat_L11_B (slices : (List (List Int))) (r11 : Int → (List Int) → Option (List Int)) (t_1 : Int) (newslice : (List Int)) : Option (List Int) :=
  if (decide (t_1 < (slices.length : Int))) = true then
  G (0 ≤ t_1 ∧ t_1 < (slices.length : Int)) (
  G (room newslice (ix slices t_1) 8) (
  G (fits (t_1 + (1 : Int))) (
  r11 (t_1 + (1 : Int)) (newslice ++ (ix slices t_1))))) else
  some newslice
noncomputable def slices_Concat_L11_F (slices : (List (List Int))) : (Int × (List Int) → Option (List Int)) → Int × (List Int) → Option (List Int) :=
  fun rec x => slices_Concat_L11_B slices (fun t_1 newslice => rec (t_1, newslice)) x.1 x.2
noncomputable def slices_Concat_L11 (slices : (List (List Int))) (t_1 : Int) (newslice : (List Int)) : Option (List Int) := LFix (slices_Concat_L11_F slices ) (t_1, newslice)
noncomputable def slices_Concat_L3_B (slices : (List (List Int))) (r3 : Int → Int → Option (List Int)) (size : Int) (t : Int) : Option (List Int) :=
  if (decide (t < (slices.length : Int))) = true then
  G (0 ≤ t ∧ t < (slices.length : Int)) (
  G (fits (size + ((ix slices t).length : Int))) (
  if (decide ((size + ((ix slices t).length : Int)) < (0 : Int))) = true then
  none else
  G (fits (t + (1 : Int))) (
  r3 (size + ((ix slices t).length : Int)) (t + (1 : Int))))) else
  (slices_Grow size).bind (fun y' =>
  slices_Concat_L11 slices (0 : Int) y')
noncomputable def slices_Concat_L3_F (slices : (List (List Int))) : (Int × Int → Option (List Int)) → Int × Int → Option (List Int) :=
  fun rec x => slices_Concat_L3_B slices (fun size t => rec (size, t)) x.1 x.2
noncomputable def slices_Concat_L3 (slices : (List (List Int))) (size : Int) (t : Int) : Option (List Int) := LFix (slices_Concat_L3_F slices ) (size, t)
noncomputable def slices_Concat (slices : (List (List Int))) : Option (List Int) :=
  slices_Concat_L3 slices (0 : Int) (0 : Int)
theorem slices_Concat_L11_B_ch (r11 : Nat → Int → (List Int) → Option (List Int)) (r11' : Int → (List Int) → Option (List Int)) (h_r11 : ∀ a0 a1, ChO (fun κ => r11 κ a0 a1) (r11' a0 a1)) (slices : (List (List Int))) (t_1 : Int) (newslice : (List Int)) : ChO (fun κ => slices_Concat_L11_B slices (r11 κ) t_1 newslice) (slices_Concat_L11_B slices r11' t_1 newslice) := by
  unfold slices_Concat_L11_B
  repeat' first | exact ChO.const _ | exact h_r11 _ _ | apply ChO.ite | apply ChO.G | apply ChO.both | (apply ChO.bind; intro _)
theorem slices_Concat_L11_cn  (slices : (List (List Int))) : Cn (slices_Concat_L11_F slices) := fun g h hg x => slices_Concat_L11_B_ch  (fun κ t_1 newslice => g κ (t_1, newslice)) (fun t_1 newslice => h (t_1, newslice)) (fun t_1 newslice => hg (t_1, newslice)) slices x.1 x.2
theorem slices_Concat_L11_eq  (slices : (List (List Int))) (t_1 : Int) (newslice : (List Int)) : slices_Concat_L11 slices t_1 newslice = slices_Concat_L11_B slices (slices_Concat_L11 slices) t_1 newslice := LFix_eq (slices_Concat_L11_cn slices) (t_1, newslice)
theorem slices_Concat_L3_B_ch (r3 : Nat → Int → Int → Option (List Int)) (r3' : Int → Int → Option (List Int)) (h_r3 : ∀ a0 a1, ChO (fun κ => r3 κ a0 a1) (r3' a0 a1)) (slices : (List (List Int))) (size : Int) (t : Int) : ChO (fun κ => slices_Concat_L3_B slices (r3 κ) size t) (slices_Concat_L3_B slices r3' size t) := by
  unfold slices_Concat_L3_B
  repeat' first | exact ChO.const _ | exact h_r3 _ _ | apply ChO.ite | apply ChO.G | apply ChO.both | (apply ChO.bind; intro _)
theorem slices_Concat_L3_cn  (slices : (List (List Int))) : Cn (slices_Concat_L3_F slices) := fun g h hg x => slices_Concat_L3_B_ch  (fun κ size t => g κ (size, t)) (fun size t => h (size, t)) (fun size t => hg (size, t)) slices x.1 x.2
theorem slices_Concat_L3_eq  (slices : (List (List Int))) (size : Int) (t : Int) : slices_Concat_L3 slices size t = slices_Concat_L3_B slices (slices_Concat_L3 slices) size t := LFix_eq (slices_Concat_L3_cn slices) (size, t)

noncomputable def two_Run_J9_1 (t : (Int × Int × (List (List (Int × Int × Unit))) × (List Int) × Unit)) (y'_2 : (List Int)) (steps : Int) (at' : Int) (q : Int) (r9 : (Int → Int → Int → Option (Bool × Int × Int))) (t_2 : Bool) : Option (Bool × Int × Int) :=
  G (fits ((y'_2.length : Int) * (t.2.2.1.length : Int))) (
  if (decide (((y'_2.length : Int) * (t.2.2.1.length : Int)) < steps)) = true then
  some (false, (0 : Int), (0 : Int)) else
  G (0 ≤ q ∧ q < (t.2.2.1.length : Int)) (
  G (0 ≤ at' ∧ at' < (y'_2.length : Int)) (
  G ((at').toNat < y'_2.length) (
  G (0 ≤ ix y'_2 at' ∧ ix y'_2 at' < ((ix t.2.2.1 q).length : Int)) (
  G (fits (at' + (((ix (ix t.2.2.1 q) (ix y'_2 at')).2).1))) (
  G (fits (steps + (1 : Int))) (
  r9 (steps + (1 : Int)) (at' + (((ix (ix t.2.2.1 q) (ix y'_2 at')).2).1)) ((ix (ix t.2.2.1 q) (ix y'_2 at')).1))))))))
noncomputable def two_Run_J9 (t : (Int × Int × (List (List (Int × Int × Unit))) × (List Int) × Unit)) (y'_2 : (List Int)) (steps : Int) (at' : Int) (q : Int) (r9 : (Int → Int → Int → Option (Bool × Int × Int))) (t_1 : Bool) : Option (Bool × Int × Int) :=
  if t_1 = true then
  two_Run_J9_1 t y'_2 steps at' q r9 t_1 else
  if (decide ((0 : Int) < at')) = true then
  G (0 ≤ q ∧ q < (t.2.2.2.1.length : Int)) (
  some (decide ((ix t.2.2.2.1 q) = (1 : Int)), steps, (0 : Int))) else
  some (false, steps, (0 : Int))
noncomputable def two_Run_L9_B (t : (Int × Int × (List (List (Int × Int × Unit))) × (List Int) × Unit)) (y'_2 : (List Int)) (r9 : Int → Int → Int → Option (Bool × Int × Int)) (steps : Int) (at' : Int) (q : Int) : Option (Bool × Int × Int) :=
  if (decide ((0 : Int) ≤ at')) = true then
  two_Run_J9 t y'_2 steps at' q r9 (decide (at' < (y'_2.length : Int))) else
  two_Run_J9 t y'_2 steps at' q r9 false
noncomputable def two_Run_L9_F (t : (Int × Int × (List (List (Int × Int × Unit))) × (List Int) × Unit)) (y'_2 : (List Int)) : (Int × Int × Int → Option (Bool × Int × Int)) → Int × Int × Int → Option (Bool × Int × Int) :=
  fun rec x => two_Run_L9_B t y'_2 (fun steps at' q => rec (steps, at', q)) x.1 x.2.1 x.2.2
noncomputable def two_Run_L9 (t : (Int × Int × (List (List (Int × Int × Unit))) × (List Int) × Unit)) (y'_2 : (List Int)) (steps : Int) (at' : Int) (q : Int) : Option (Bool × Int × Int) := LFix (two_Run_L9_F t y'_2 ) (steps, at', q)
noncomputable def two_Run (t : (Int × Int × (List (List (Int × Int × Unit))) × (List Int) × Unit)) (w : (List Int)) : Option (Bool × Int × Int) :=
  (two_Check (t.1, (t.2.1, (t.2.2.1, (t.2.2.2.1, ()))))).bind (fun y' =>
  if (decide (¬ y' = (0 : Int))) = true then
  some (false, (0 : Int), y') else
  (word_May t.1 w).bind (fun y'_1 =>
  if (decide (¬ y'_1 = (0 : Int))) = true then
  some (false, (0 : Int), y'_1) else
  G (fits (t.1 + (1 : Int))) (
  (slices_Concat ([[t.1], w, [t.1 + (1 : Int)]])).bind (fun y'_2 =>
  two_Run_L9 t y'_2 (0 : Int) (0 : Int) t.2.1))))
theorem two_Run_J9_1_ch (r9 : Nat → Int → Int → Int → Option (Bool × Int × Int)) (r9' : Int → Int → Int → Option (Bool × Int × Int)) (h_r9 : ∀ a0 a1 a2, ChO (fun κ => r9 κ a0 a1 a2) (r9' a0 a1 a2)) (t : (Int × Int × (List (List (Int × Int × Unit))) × (List Int) × Unit)) (y'_2 : (List Int)) (steps : Int) (at' : Int) (q : Int) (t_2 : Bool) : ChO (fun κ => two_Run_J9_1 t y'_2 steps at' q (r9 κ) t_2) (two_Run_J9_1 t y'_2 steps at' q r9' t_2) := by
  unfold two_Run_J9_1
  repeat' first | exact ChO.const _ | exact h_r9 _ _ _ | apply ChO.ite | apply ChO.G | apply ChO.both | (apply ChO.bind; intro _)
theorem two_Run_J9_ch (r9 : Nat → Int → Int → Int → Option (Bool × Int × Int)) (r9' : Int → Int → Int → Option (Bool × Int × Int)) (h_r9 : ∀ a0 a1 a2, ChO (fun κ => r9 κ a0 a1 a2) (r9' a0 a1 a2)) (t : (Int × Int × (List (List (Int × Int × Unit))) × (List Int) × Unit)) (y'_2 : (List Int)) (steps : Int) (at' : Int) (q : Int) (t_1 : Bool) : ChO (fun κ => two_Run_J9 t y'_2 steps at' q (r9 κ) t_1) (two_Run_J9 t y'_2 steps at' q r9' t_1) := by
  unfold two_Run_J9
  repeat' first | exact ChO.const _ | exact h_r9 _ _ _ | (apply two_Run_J9_1_ch <;> assumption) | apply ChO.ite | apply ChO.G | apply ChO.both | (apply ChO.bind; intro _)
theorem two_Run_L9_B_ch (r9 : Nat → Int → Int → Int → Option (Bool × Int × Int)) (r9' : Int → Int → Int → Option (Bool × Int × Int)) (h_r9 : ∀ a0 a1 a2, ChO (fun κ => r9 κ a0 a1 a2) (r9' a0 a1 a2)) (t : (Int × Int × (List (List (Int × Int × Unit))) × (List Int) × Unit)) (y'_2 : (List Int)) (steps : Int) (at' : Int) (q : Int) : ChO (fun κ => two_Run_L9_B t y'_2 (r9 κ) steps at' q) (two_Run_L9_B t y'_2 r9' steps at' q) := by
  unfold two_Run_L9_B
  repeat' first | exact ChO.const _ | exact h_r9 _ _ _ | (apply two_Run_J9_1_ch <;> assumption) | (apply two_Run_J9_ch <;> assumption) | apply ChO.ite | apply ChO.G | apply ChO.both | (apply ChO.bind; intro _)
theorem two_Run_L9_cn  (t : (Int × Int × (List (List (Int × Int × Unit))) × (List Int) × Unit)) (y'_2 : (List Int)) : Cn (two_Run_L9_F t y'_2) := fun g h hg x => two_Run_L9_B_ch  (fun κ steps at' q => g κ (steps, at', q)) (fun steps at' q => h (steps, at', q)) (fun steps at' q => hg (steps, at', q)) t y'_2 x.1 x.2.1 x.2.2
theorem two_Run_L9_eq  (t : (Int × Int × (List (List (Int × Int × Unit))) × (List Int) × Unit)) (y'_2 : (List Int)) (steps : Int) (at' : Int) (q : Int) : two_Run_L9 t y'_2 steps at' q = two_Run_L9_B t y'_2 (two_Run_L9 t y'_2) steps at' q := LFix_eq (two_Run_L9_cn t y'_2) (steps, at', q)

noncomputable def r1_May_L6_B (letters : Int) (w : (List Int)) (r6 : Int → Option (Int)) (i : Int) : Option (Int) :=
  if (decide (i < (w.length : Int))) = true then
  G (0 ≤ i ∧ i < (w.length : Int)) (
  if (decide ((ix w i) < (0 : Int))) = true then
  some (2 : Int) else
  G (0 ≤ i ∧ i < (w.length : Int)) (
  if (decide (letters ≤ (ix w i))) = true then
  some (2 : Int) else
  G (fits (i + (1 : Int))) (
  r6 (i + (1 : Int))))) else
  some (0 : Int)
noncomputable def r1_May_L6_F (letters : Int) (w : (List Int)) : (Int → Option (Int)) → Int → Option (Int) :=
  fun rec x => r1_May_L6_B letters w (fun i => rec i) x
noncomputable def r1_May_L6 (letters : Int) (w : (List Int)) (i : Int) : Option (Int) := LFix (r1_May_L6_F letters w ) i
noncomputable def r1_May (letters : Int) (w : (List Int)) : Option (Int) :=
  if (decide (letters < (1 : Int))) = true then
  some (2 : Int) else
  if (decide ((4 : Int) < letters)) = true then
  some (2 : Int) else
  if (decide ((60 : Int) < (w.length : Int))) = true then
  some (1 : Int) else
  r1_May_L6 letters w (0 : Int)
theorem r1_May_L6_B_ch (r6 : Nat → Int → Option (Int)) (r6' : Int → Option (Int)) (h_r6 : ∀ a0, ChO (fun κ => r6 κ a0) (r6' a0)) (letters : Int) (w : (List Int)) (i : Int) : ChO (fun κ => r1_May_L6_B letters w (r6 κ) i) (r1_May_L6_B letters w r6' i) := by
  unfold r1_May_L6_B
  repeat' first | exact ChO.const _ | exact h_r6 _ | apply ChO.ite | apply ChO.G | apply ChO.both | (apply ChO.bind; intro _)
theorem r1_May_L6_cn  (letters : Int) (w : (List Int)) : Cn (r1_May_L6_F letters w) := fun g h hg x => r1_May_L6_B_ch  (fun κ i => g κ i) (fun i => h i) (fun i => hg i) letters w x
theorem r1_May_L6_eq  (letters : Int) (w : (List Int)) (i : Int) : r1_May_L6 letters w i = r1_May_L6_B letters w (r1_May_L6 letters w) i := LFix_eq (r1_May_L6_cn letters w) i

noncomputable def r25_Run_L7_B (t : (Int × Int × (List (List (Int × Int × Unit))) × (List Int) × Unit)) (w : (List Int)) (r7 : Int → Int → Int → Option (Bool × Int)) (q : Int) (at' : Int) (n : Int) : Option (Bool × Int) :=
  G (fits ((((([t.1]) ++ w) ++ ([t.1 + (1 : Int)])).length : Int) * (t.2.2.1.length : Int))) (
  if (decide (n ≤ ((((([t.1]) ++ w) ++ ([t.1 + (1 : Int)])).length : Int) * (t.2.2.1.length : Int)))) = true then
  if (decide (at' < (0 : Int))) = true then
  some (false, n) else
  if (decide (at' = (((([t.1]) ++ w) ++ ([t.1 + (1 : Int)])).length : Int))) = true then
  G (0 ≤ q ∧ q < (t.2.2.2.1.length : Int)) (
  some (decide ((ix t.2.2.2.1 q) = (1 : Int)), n)) else
  G (0 ≤ q ∧ q < (t.2.2.1.length : Int)) (
  G (0 ≤ at' ∧ at' < (((([t.1]) ++ w) ++ ([t.1 + (1 : Int)])).length : Int)) (
  G ((at').toNat < ((([t.1]) ++ w) ++ ([t.1 + (1 : Int)])).length) (
  G (0 ≤ ix ((([t.1]) ++ w) ++ ([t.1 + (1 : Int)])) at' ∧ ix ((([t.1]) ++ w) ++ ([t.1 + (1 : Int)])) at' < ((ix t.2.2.1 q).length : Int)) (
  G (fits (at' + (((ix (ix t.2.2.1 q) (ix ((([t.1]) ++ w) ++ ([t.1 + (1 : Int)])) at')).2).1))) (
  G (fits (n + (1 : Int))) (
  r7 ((ix (ix t.2.2.1 q) (ix ((([t.1]) ++ w) ++ ([t.1 + (1 : Int)])) at')).1) (at' + (((ix (ix t.2.2.1 q) (ix ((([t.1]) ++ w) ++ ([t.1 + (1 : Int)])) at')).2).1)) (n + (1 : Int)))))))) else
  some (false, (0 : Int)))
noncomputable def r25_Run_L7_F (t : (Int × Int × (List (List (Int × Int × Unit))) × (List Int) × Unit)) (w : (List Int)) : (Int × Int × Int → Option (Bool × Int)) → Int × Int × Int → Option (Bool × Int) :=
  fun rec x => r25_Run_L7_B t w (fun q at' n => rec (q, at', n)) x.1 x.2.1 x.2.2
noncomputable def r25_Run_L7 (t : (Int × Int × (List (List (Int × Int × Unit))) × (List Int) × Unit)) (w : (List Int)) (q : Int) (at' : Int) (n : Int) : Option (Bool × Int) := LFix (r25_Run_L7_F t w ) (q, at', n)
noncomputable def r25_Run (t : (Int × Int × (List (List (Int × Int × Unit))) × (List Int) × Unit)) (w : (List Int)) : Option (Bool × Int) :=
  G (room ([t.1]) w 8) (
  G (fits (t.1 + (1 : Int))) (
  G (room (([t.1]) ++ w) ([t.1 + (1 : Int)]) 8) (
  r25_Run_L7 t w t.2.1 (0 : Int) (0 : Int))))
theorem r25_Run_L7_B_ch (r7 : Nat → Int → Int → Int → Option (Bool × Int)) (r7' : Int → Int → Int → Option (Bool × Int)) (h_r7 : ∀ a0 a1 a2, ChO (fun κ => r7 κ a0 a1 a2) (r7' a0 a1 a2)) (t : (Int × Int × (List (List (Int × Int × Unit))) × (List Int) × Unit)) (w : (List Int)) (q : Int) (at' : Int) (n : Int) : ChO (fun κ => r25_Run_L7_B t w (r7 κ) q at' n) (r25_Run_L7_B t w r7' q at' n) := by
  unfold r25_Run_L7_B
  repeat' first | exact ChO.const _ | exact h_r7 _ _ _ | apply ChO.ite | apply ChO.G | apply ChO.both | (apply ChO.bind; intro _)
theorem r25_Run_L7_cn  (t : (Int × Int × (List (List (Int × Int × Unit))) × (List Int) × Unit)) (w : (List Int)) : Cn (r25_Run_L7_F t w) := fun g h hg x => r25_Run_L7_B_ch  (fun κ q at' n => g κ (q, at', n)) (fun q at' n => h (q, at', n)) (fun q at' n => hg (q, at', n)) t w x.1 x.2.1 x.2.2
theorem r25_Run_L7_eq  (t : (Int × Int × (List (List (Int × Int × Unit))) × (List Int) × Unit)) (w : (List Int)) (q : Int) (at' : Int) (n : Int) : r25_Run_L7 t w q at' n = r25_Run_L7_B t w (r25_Run_L7 t w) q at' n := LFix_eq (r25_Run_L7_cn t w) (q, at', n)

noncomputable def law_TwoRuns_J7 (t : (Int × Int × (List (List (Int × Int × Unit))) × (List Int) × Unit)) (w : (List Int)) (y'_2 : Bool) (y'_3 : Int) (y'_4 : Int) (no : Int) : Option (Bool) :=
  if (decide (¬ no = (0 : Int))) = true then
  if (decide (y'_4 = no)) = true then
  if (!y'_2) = true then
  some (decide (y'_3 = (0 : Int))) else
  some false else
  some false else
  (r25_Run (t.1, (t.2.1, (t.2.2.1, (t.2.2.2.1, ())))) w).bind (fun y'_10 =>
  if (decide (y'_4 = (0 : Int))) = true then
  if (decide (y'_2 = y'_10.1)) = true then
  some (decide (y'_3 = y'_10.2)) else
  some false else
  some false)
noncomputable def law_TwoRuns (t : (Int × Int × (List (List (Int × Int × Unit))) × (List Int) × Unit)) (w : (List Int)) : Option (Bool) :=
  (two_Check (t.1, (t.2.1, (t.2.2.1, (t.2.2.2.1, ()))))).bind (fun y' =>
  (r25_Check (t.1, (t.2.1, (t.2.2.1, (t.2.2.2.1, ()))))).bind (fun y'_1 =>
  (two_Run (t.1, (t.2.1, (t.2.2.1, (t.2.2.2.1, ())))) w).bind (fun y'_11 =>
  if (decide (¬ y' = y'_1)) = true then
  some false else
  if (decide (y'_1 = (0 : Int))) = true then
  (r1_May t.1 w).bind (fun y'_6 =>
  law_TwoRuns_J7 t w y'_11.1 y'_11.2.1 y'_11.2.2 y'_6) else
  law_TwoRuns_J7 t w y'_11.1 y'_11.2.1 y'_11.2.2 y'_1)))

end Go.Proofs.Ytjhgdnfkipchoaa.twoRunsW
