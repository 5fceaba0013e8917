/- What the functions that 'SeqsCounts' reaches compute: plain functions. -/
import Derived.Test.YtgjpkfbaobanlaaEv1n21
set_option maxHeartbeats 1000000
set_option maxRecDepth 20000
set_option linter.unusedSimpArgs false
set_option linter.unusedVariables false
namespace Go.Proofs.Ytgjpkfbaobanlaa.seqsCountsW
open Go Go.Ab
noncomputable def seqs_Check_1 (w : (List Int)) (t : (Int × (List (List Int)) × (List Int) × Unit)) : Option (Bool) :=
  some (decide (¬ (w.length : Int) = t.1))

noncomputable def slices_IndexFunc_L2_B (s : (List (List Int))) (c : (Int × (List (List Int)) × (List Int) × Unit)) (r2 : Int → Option (Int)) (t : Int) : Option (Int) :=
  if (decide (t < (s.length : Int))) = true then
  G (0 ≤ t ∧ t < (s.length : Int)) (
  (seqs_Check_1 (ix s t) c).bind (fun y' =>
  if y' = true then
  some t else
  G (fits (t + (1 : Int))) (
  r2 (t + (1 : Int))))) else
  some (-1 : Int)
noncomputable def slices_IndexFunc_L2_F (s : (List (List Int))) (c : (Int × (List (List Int)) × (List Int) × Unit)) : (Int → Option (Int)) → Int → Option (Int) :=
  fun rec x => slices_IndexFunc_L2_B s c (fun t => rec t) x
noncomputable def slices_IndexFunc_L2 (s : (List (List Int))) (c : (Int × (List (List Int)) × (List Int) × Unit)) (t : Int) : Option (Int) := LFix (slices_IndexFunc_L2_F s c ) t
noncomputable def slices_IndexFunc (s : (List (List Int))) (c : (Int × (List (List Int)) × (List Int) × Unit)) : Option (Int) :=
  slices_IndexFunc_L2 s c (0 : Int)
theorem slices_IndexFunc_L2_B_ch (r2 : Nat → Int → Option (Int)) (r2' : Int → Option (Int)) (h_r2 : ∀ a0, ChO (fun κ => r2 κ a0) (r2' a0)) (s : (List (List Int))) (c : (Int × (List (List Int)) × (List Int) × Unit)) (t : Int) : ChO (fun κ => slices_IndexFunc_L2_B s c (r2 κ) t) (slices_IndexFunc_L2_B s c r2' t) := by
  unfold slices_IndexFunc_L2_B
  repeat' first | exact ChO.const _ | exact h_r2 _ | apply ChO.ite | apply ChO.G | apply ChO.both | (apply ChO.bind; intro _)
theorem slices_IndexFunc_L2_cn  (s : (List (List Int))) (c : (Int × (List (List Int)) × (List Int) × Unit)) : Cn (slices_IndexFunc_L2_F s c) := fun g h hg x => slices_IndexFunc_L2_B_ch  (fun κ t => g κ t) (fun t => h t) (fun t => hg t) s c x
theorem slices_IndexFunc_L2_eq  (s : (List (List Int))) (c : (Int × (List (List Int)) × (List Int) × Unit)) (t : Int) : slices_IndexFunc_L2 s c t = slices_IndexFunc_L2_B s c (slices_IndexFunc_L2 s c) t := LFix_eq (slices_IndexFunc_L2_cn s c) t

noncomputable def slices_ContainsFunc (s : (List (List Int))) (c : (Int × (List (List Int)) × (List Int) × Unit)) : Option (Bool) :=
  (slices_IndexFunc s c).bind (fun y' =>
  some (decide ((0 : Int) ≤ y')))

noncomputable def seqs_Check_2 (b : Int) (t : Int) : Option (Bool) :=
  if (decide (b < (0 : Int))) = true then
  some true else
  some (decide (t ≤ b))

noncomputable def slices_IndexFunc_1_L2_B (s : (List Int)) (c : Int) (r2 : Int → Option (Int)) (t : Int) : Option (Int) :=
  if (decide (t < (s.length : Int))) = true then
  G (0 ≤ t ∧ t < (s.length : Int)) (
  (seqs_Check_2 (ix s t) c).bind (fun y' =>
  if y' = true then
  some t else
  G (fits (t + (1 : Int))) (
  r2 (t + (1 : Int))))) else
  some (-1 : Int)
noncomputable def slices_IndexFunc_1_L2_F (s : (List Int)) (c : Int) : (Int → Option (Int)) → Int → Option (Int) :=
  fun rec x => slices_IndexFunc_1_L2_B s c (fun t => rec t) x
noncomputable def slices_IndexFunc_1_L2 (s : (List Int)) (c : Int) (t : Int) : Option (Int) := LFix (slices_IndexFunc_1_L2_F s c ) t
noncomputable def slices_IndexFunc_1 (s : (List Int)) (c : Int) : Option (Int) :=
  slices_IndexFunc_1_L2 s c (0 : Int)
theorem slices_IndexFunc_1_L2_B_ch (r2 : Nat → Int → Option (Int)) (r2' : Int → Option (Int)) (h_r2 : ∀ a0, ChO (fun κ => r2 κ a0) (r2' a0)) (s : (List Int)) (c : Int) (t : Int) : ChO (fun κ => slices_IndexFunc_1_L2_B s c (r2 κ) t) (slices_IndexFunc_1_L2_B s c r2' t) := by
  unfold slices_IndexFunc_1_L2_B
  repeat' first | exact ChO.const _ | exact h_r2 _ | apply ChO.ite | apply ChO.G | apply ChO.both | (apply ChO.bind; intro _)
theorem slices_IndexFunc_1_L2_cn  (s : (List Int)) (c : Int) : Cn (slices_IndexFunc_1_L2_F s c) := fun g h hg x => slices_IndexFunc_1_L2_B_ch  (fun κ t => g κ t) (fun t => h t) (fun t => hg t) s c x
theorem slices_IndexFunc_1_L2_eq  (s : (List Int)) (c : Int) (t : Int) : slices_IndexFunc_1_L2 s c t = slices_IndexFunc_1_L2_B s c (slices_IndexFunc_1_L2 s c) t := LFix_eq (slices_IndexFunc_1_L2_cn s c) t

noncomputable def slices_ContainsFunc_1 (s : (List Int)) (c : Int) : Option (Bool) :=
  (slices_IndexFunc_1 s c).bind (fun y' =>
  some (decide ((0 : Int) ≤ y')))

noncomputable def seqs_Check_L9_B (m : (Int × (List (List Int)) × (List Int) × Unit)) (r9 : Int → Option (Int)) (t : Int) : Option (Int) :=
  if (decide (t < (m.2.1.length : Int))) = true then
  G (0 ≤ t ∧ t < (m.2.1.length : Int)) (
  (slices_ContainsFunc_1 (ix m.2.1 t) (m.2.1.length : Int)).bind (fun y'_1 =>
  if y'_1 = true then
  some (2 : Int) else
  G (0 ≤ t ∧ t < (m.2.2.1.length : Int)) (
  if (decide ((ix m.2.2.1 t) < (0 : Int))) = true then
  some (2 : Int) else
  G (0 ≤ t ∧ t < (m.2.2.1.length : Int)) (
  if (decide ((9 : Int) < (ix m.2.2.1 t))) = true then
  some (2 : Int) else
  G (fits (t + (1 : Int))) (
  r9 (t + (1 : Int))))))) else
  G (0 ≤ (0 : Int) ∧ (0 : Int) < (m.2.1.length : Int)) (
  G (0 ≤ (0 : Int) ∧ (0 : Int) < ((ix m.2.1 (0 : Int)).length : Int)) (
  if (decide (¬ (ix (ix m.2.1 (0 : Int)) (0 : Int)) = (0 : Int))) = true then
  some (3 : Int) else
  some (0 : Int)))
noncomputable def seqs_Check_L9_F (m : (Int × (List (List Int)) × (List Int) × Unit)) : (Int → Option (Int)) → Int → Option (Int) :=
  fun rec x => seqs_Check_L9_B m (fun t => rec t) x
noncomputable def seqs_Check_L9 (m : (Int × (List (List Int)) × (List Int) × Unit)) (t : Int) : Option (Int) := LFix (seqs_Check_L9_F m ) t
noncomputable def seqs_Check (m : (Int × (List (List Int)) × (List Int) × Unit)) : Option (Int) :=
  if (decide (m.1 < (2 : Int))) = true then
  some (2 : Int) else
  if (decide ((4 : Int) < m.1)) = true then
  some (2 : Int) else
  if (decide ((m.2.1.length : Int) < (1 : Int))) = true then
  some (1 : Int) else
  if (decide ((4 : Int) < (m.2.1.length : Int))) = true then
  some (1 : Int) else
  if (decide (¬ (m.2.2.1.length : Int) = (m.2.1.length : Int))) = true then
  some (3 : Int) else
  (slices_ContainsFunc m.2.1 (m.1, (m.2.1, (m.2.2.1, ())))).bind (fun y' =>
  if y' = true then
  some (3 : Int) else
  seqs_Check_L9 m (0 : Int))
theorem seqs_Check_L9_B_ch (r9 : Nat → Int → Option (Int)) (r9' : Int → Option (Int)) (h_r9 : ∀ a0, ChO (fun κ => r9 κ a0) (r9' a0)) (m : (Int × (List (List Int)) × (List Int) × Unit)) (t : Int) : ChO (fun κ => seqs_Check_L9_B m (r9 κ) t) (seqs_Check_L9_B m r9' t) := by
  unfold seqs_Check_L9_B
  repeat' first | exact ChO.const _ | exact h_r9 _ | apply ChO.ite | apply ChO.G | apply ChO.both | (apply ChO.bind; intro _)
theorem seqs_Check_L9_cn  (m : (Int × (List (List Int)) × (List Int) × Unit)) : Cn (seqs_Check_L9_F m) := fun g h hg x => seqs_Check_L9_B_ch  (fun κ t => g κ t) (fun t => h t) (fun t => hg t) m x
theorem seqs_Check_L9_eq  (m : (Int × (List (List Int)) × (List Int) × Unit)) (t : Int) : seqs_Check_L9 m t = seqs_Check_L9_B m (seqs_Check_L9 m) t := LFix_eq (seqs_Check_L9_cn m) t

noncomputable def seqs_letter_B (rc_seqs_letter : (Int × (List (List Int)) × (List Int) × Unit) → Int → Option (Int)) (m : (Int × (List (List Int)) × (List Int) × Unit)) (n : Int) : Option (Int) :=
  if (decide (n = (0 : Int))) = true then
  some (0 : Int) else
  G (m.1 ≠ 0) (
  G (fits (Int.tdiv n m.1)) (
  G (m.1 ≠ 0) (
  (rc_seqs_letter (m.1, (m.2.1, (m.2.2.1, ()))) (Int.tdiv n m.1)).bind (fun y' =>
  G (0 ≤ y' ∧ y' < (m.2.1.length : Int)) (
  G (0 ≤ Int.tmod n m.1 ∧ Int.tmod n m.1 < ((ix m.2.1 y').length : Int)) (
  some (ix (ix m.2.1 y') (Int.tmod n m.1))))))))
theorem seqs_letter_B_ch (rc_seqs_letter : Nat → (Int × (List (List Int)) × (List Int) × Unit) → Int → Option (Int)) (rc_seqs_letter' : (Int × (List (List Int)) × (List Int) × Unit) → Int → Option (Int)) (h_rc_seqs_letter : ∀ a0 a1, ChO (fun κ => rc_seqs_letter κ a0 a1) (rc_seqs_letter' a0 a1)) (m : (Int × (List (List Int)) × (List Int) × Unit)) (n : Int) : ChO (fun κ => seqs_letter_B (rc_seqs_letter κ) m n) (seqs_letter_B rc_seqs_letter' m n) := by
  unfold seqs_letter_B
  repeat' first | exact ChO.const _ | exact h_rc_seqs_letter _ _ | apply ChO.ite | apply ChO.G | apply ChO.both | (apply ChO.bind; intro _) | (apply ChO.bind2 (h_rc_seqs_letter _ _); intro _)
noncomputable def seqs_letter_F : ((Int × (List (List Int)) × (List Int) × Unit) × Int → Option (Int)) → (Int × (List (List Int)) × (List Int) × Unit) × Int → Option (Int) :=
  fun rec X => seqs_letter_B (fun m n => rec (m, n)) X.1 X.2
noncomputable def seqs_letter (m : (Int × (List (List Int)) × (List Int) × Unit)) (n : Int) : Option (Int) := LFix seqs_letter_F (m, n)
theorem seqs_letter_cn : Cn seqs_letter_F := fun g h hg X => seqs_letter_B_ch _ _ (fun m n => hg (m, n)) X.1 X.2
theorem seqs_letter_eq (m : (Int × (List (List Int)) × (List Int) × Unit)) (n : Int) : seqs_letter m n = seqs_letter_B seqs_letter m n := LFix_eq seqs_letter_cn (m, n)

noncomputable def seqs_counts_L11_B (m : (Int × (List (List Int)) × (List Int) × Unit)) (y' : (List Int)) (t : Int) (r8 : (Int → (List Int) → Option (List Int))) (r11 : Int → (List Int) → Option (List Int)) (t_1 : Int) (out_1 : (List Int)) : Option (List Int) :=
  if (decide (t_1 < ((ix m.2.1 t).length : Int))) = true then
  G (0 ≤ t_1 ∧ t_1 < ((ix m.2.1 t).length : Int)) (
  G (0 ≤ ix (ix m.2.1 t) t_1 ∧ ix (ix m.2.1 t) t_1 < (out_1.length : Int)) (
  G ((ix (ix m.2.1 t) t_1).toNat < out_1.length) (
  G (fits ((ix out_1 (ix (ix m.2.1 t) t_1)) + (ix y' t))) (
  G (0 ≤ ix (ix m.2.1 t) t_1 ∧ ix (ix m.2.1 t) t_1 < (out_1.length : Int)) (
  G ((ix (ix m.2.1 t) t_1).toNat < out_1.length) (
  G (fits (t_1 + (1 : Int))) (
  r11 (t_1 + (1 : Int)) (out_1.set (ix (ix m.2.1 t) t_1).toNat ((ix out_1 (ix (ix m.2.1 t) t_1)) + (ix y' t)))))))))) else
  G (fits (t + (1 : Int))) (
  r8 (t + (1 : Int)) out_1)
noncomputable def seqs_counts_L11_F (m : (Int × (List (List Int)) × (List Int) × Unit)) (y' : (List Int)) (t : Int) (r8 : (Int → (List Int) → Option (List Int))) : (Int × (List Int) → Option (List Int)) → Int × (List Int) → Option (List Int) :=
  fun rec x => seqs_counts_L11_B m y' t r8 (fun t_1 out_1 => rec (t_1, out_1)) x.1 x.2
noncomputable def seqs_counts_L11 (m : (Int × (List (List Int)) × (List Int) × Unit)) (y' : (List Int)) (t : Int) (r8 : (Int → (List Int) → Option (List Int))) (t_1 : Int) (out_1 : (List Int)) : Option (List Int) := LFix (seqs_counts_L11_F m y' t r8 ) (t_1, out_1)
noncomputable def seqs_counts_L17_B (m : (Int × (List (List Int)) × (List Int) × Unit)) (n : Int) (r17 : Int → (List Int) → Option (List Int)) (k : Int) (out_2 : (List Int)) : Option (List Int) :=
  if (decide (k < n)) = true then
  (seqs_letter (m.1, (m.2.1, (m.2.2.1, ()))) k).bind (fun y'_1 =>
  G (0 ≤ y'_1 ∧ y'_1 < (out_2.length : Int)) (
  G ((y'_1).toNat < out_2.length) (
  G (fits ((ix out_2 y'_1) + (1 : Int))) (
  G (0 ≤ y'_1 ∧ y'_1 < (out_2.length : Int)) (
  G ((y'_1).toNat < out_2.length) (
  G (fits (k + (1 : Int))) (
  r17 (k + (1 : Int)) (out_2.set (y'_1).toNat ((ix out_2 y'_1) + (1 : Int)))))))))) else
  some out_2
noncomputable def seqs_counts_L17_F (m : (Int × (List (List Int)) × (List Int) × Unit)) (n : Int) : (Int × (List Int) → Option (List Int)) → Int × (List Int) → Option (List Int) :=
  fun rec x => seqs_counts_L17_B m n (fun k out_2 => rec (k, out_2)) x.1 x.2
noncomputable def seqs_counts_L17 (m : (Int × (List (List Int)) × (List Int) × Unit)) (n : Int) (k : Int) (out_2 : (List Int)) : Option (List Int) := LFix (seqs_counts_L17_F m n ) (k, out_2)
noncomputable def seqs_counts_L8_B (m : (Int × (List (List Int)) × (List Int) × Unit)) (n : Int) (y' : (List Int)) (r8 : Int → (List Int) → Option (List Int)) (t : Int) (out : (List Int)) : Option (List Int) :=
  if (decide (t < (y'.length : Int))) = true then
  G (0 ≤ t ∧ t < (y'.length : Int)) (
  G ((t).toNat < y'.length) (
  G (0 ≤ t ∧ t < (m.2.1.length : Int)) (
  seqs_counts_L11 m y' t r8 (0 : Int) out))) else
  G (m.1 ≠ 0) (
  G (fits (Int.tdiv n m.1)) (
  G (fits ((Int.tdiv n m.1) * m.1)) (
  seqs_counts_L17 m n ((Int.tdiv n m.1) * m.1) out)))
noncomputable def seqs_counts_L8_F (m : (Int × (List (List Int)) × (List Int) × Unit)) (n : Int) (y' : (List Int)) : (Int × (List Int) → Option (List Int)) → Int × (List Int) → Option (List Int) :=
  fun rec x => seqs_counts_L8_B m n y' (fun t out => rec (t, out)) x.1 x.2
noncomputable def seqs_counts_L8 (m : (Int × (List (List Int)) × (List Int) × Unit)) (n : Int) (y' : (List Int)) (t : Int) (out : (List Int)) : Option (List Int) := LFix (seqs_counts_L8_F m n y' ) (t, out)
noncomputable def seqs_counts_B (rc_seqs_counts : (Int × (List (List Int)) × (List Int) × Unit) → Int → Option (List Int)) (m : (Int × (List (List Int)) × (List Int) × Unit)) (n : Int) : Option (List Int) :=
  G (mkOK (m.2.1.length : Int) (m.2.1.length : Int) 8) (
  if (decide (n = (0 : Int))) = true then
  some (List.replicate ((m.2.1.length : Int)).toNat (0 : Int)) else
  if (decide (n = (1 : Int))) = true then
  G (0 ≤ (0 : Int) ∧ (0 : Int) < ((List.replicate ((m.2.1.length : Int)).toNat (0 : Int)).length : Int)) (
  G (((0 : Int)).toNat < (List.replicate ((m.2.1.length : Int)).toNat (0 : Int)).length) (
  some ((List.replicate ((m.2.1.length : Int)).toNat (0 : Int)).set ((0 : Int)).toNat (1 : Int)))) else
  G (m.1 ≠ 0) (
  G (fits (Int.tdiv n m.1)) (
  (rc_seqs_counts (m.1, (m.2.1, (m.2.2.1, ()))) (Int.tdiv n m.1)).bind (fun y' =>
  seqs_counts_L8 m n y' (0 : Int) (List.replicate ((m.2.1.length : Int)).toNat (0 : Int))))))
theorem seqs_counts_L11_B_ch (r8 : Nat → Int → (List Int) → Option (List Int)) (r8' : Int → (List Int) → Option (List Int)) (h_r8 : ∀ a0 a1, ChO (fun κ => r8 κ a0 a1) (r8' a0 a1)) (r11 : Nat → Int → (List Int) → Option (List Int)) (r11' : Int → (List Int) → Option (List Int)) (h_r11 : ∀ a0 a1, ChO (fun κ => r11 κ a0 a1) (r11' a0 a1)) (m : (Int × (List (List Int)) × (List Int) × Unit)) (y' : (List Int)) (t : Int) (t_1 : Int) (out_1 : (List Int)) : ChO (fun κ => seqs_counts_L11_B m y' t (r8 κ) (r11 κ) t_1 out_1) (seqs_counts_L11_B m y' t r8' r11' t_1 out_1) := by
  unfold seqs_counts_L11_B
  repeat' first | exact ChO.const _ | exact h_r8 _ _ | exact h_r11 _ _ | apply ChO.ite | apply ChO.G | apply ChO.both | (apply ChO.bind; intro _)
theorem seqs_counts_L11_cn (r8 : Int → (List Int) → Option (List Int)) (m : (Int × (List (List Int)) × (List Int) × Unit)) (y' : (List Int)) (t : Int) : Cn (seqs_counts_L11_F m y' t r8) := fun g h hg x => seqs_counts_L11_B_ch (fun _ => r8) r8 (fun _ _ => ChO.const _) (fun κ t_1 out_1 => g κ (t_1, out_1)) (fun t_1 out_1 => h (t_1, out_1)) (fun t_1 out_1 => hg (t_1, out_1)) m y' t x.1 x.2
theorem seqs_counts_L11_eq (r8 : Int → (List Int) → Option (List Int)) (m : (Int × (List (List Int)) × (List Int) × Unit)) (y' : (List Int)) (t : Int) (t_1 : Int) (out_1 : (List Int)) : seqs_counts_L11 m y' t r8 t_1 out_1 = seqs_counts_L11_B m y' t r8 (seqs_counts_L11 m y' t r8) t_1 out_1 := LFix_eq (seqs_counts_L11_cn r8 m y' t) (t_1, out_1)
theorem seqs_counts_L11_ch (r8 : Nat → Int → (List Int) → Option (List Int)) (r8' : Int → (List Int) → Option (List Int)) (h_r8 : ∀ a0 a1, ChO (fun κ => r8 κ a0 a1) (r8' a0 a1)) (m : (Int × (List (List Int)) × (List Int) × Unit)) (y' : (List Int)) (t : Int) (t_1 : Int) (out_1 : (List Int)) : ChO (fun κ => seqs_counts_L11 m y' t (r8 κ) t_1 out_1) (seqs_counts_L11 m y' t r8' t_1 out_1) := by
  unfold seqs_counts_L11
  exact LFix_ch (fun κ => (seqs_counts_L11_cn (r8 κ) m y' t).mono) (seqs_counts_L11_cn r8' m y' t).mono (fun g h hg x => seqs_counts_L11_B_ch r8 r8' h_r8 (fun κ t_1 out_1 => g κ (t_1, out_1)) (fun t_1 out_1 => h (t_1, out_1)) (fun t_1 out_1 => hg (t_1, out_1)) m y' t x.1 x.2) _
theorem seqs_counts_L17_B_ch (r17 : Nat → Int → (List Int) → Option (List Int)) (r17' : Int → (List Int) → Option (List Int)) (h_r17 : ∀ a0 a1, ChO (fun κ => r17 κ a0 a1) (r17' a0 a1)) (m : (Int × (List (List Int)) × (List Int) × Unit)) (n : Int) (k : Int) (out_2 : (List Int)) : ChO (fun κ => seqs_counts_L17_B m n (r17 κ) k out_2) (seqs_counts_L17_B m n r17' k out_2) := by
  unfold seqs_counts_L17_B
  repeat' first | exact ChO.const _ | exact h_r17 _ _ | (apply seqs_counts_L11_ch <;> assumption) | apply ChO.ite | apply ChO.G | apply ChO.both | (apply ChO.bind; intro _)
theorem seqs_counts_L17_cn  (m : (Int × (List (List Int)) × (List Int) × Unit)) (n : Int) : Cn (seqs_counts_L17_F m n) := fun g h hg x => seqs_counts_L17_B_ch  (fun κ k out_2 => g κ (k, out_2)) (fun k out_2 => h (k, out_2)) (fun k out_2 => hg (k, out_2)) m n x.1 x.2
theorem seqs_counts_L17_eq  (m : (Int × (List (List Int)) × (List Int) × Unit)) (n : Int) (k : Int) (out_2 : (List Int)) : seqs_counts_L17 m n k out_2 = seqs_counts_L17_B m n (seqs_counts_L17 m n) k out_2 := LFix_eq (seqs_counts_L17_cn m n) (k, out_2)
theorem seqs_counts_L8_B_ch (r8 : Nat → Int → (List Int) → Option (List Int)) (r8' : Int → (List Int) → Option (List Int)) (h_r8 : ∀ a0 a1, ChO (fun κ => r8 κ a0 a1) (r8' a0 a1)) (m : (Int × (List (List Int)) × (List Int) × Unit)) (n : Int) (y' : (List Int)) (t : Int) (out : (List Int)) : ChO (fun κ => seqs_counts_L8_B m n y' (r8 κ) t out) (seqs_counts_L8_B m n y' r8' t out) := by
  unfold seqs_counts_L8_B
  repeat' first | exact ChO.const _ | exact h_r8 _ _ | (apply seqs_counts_L11_ch <;> assumption) | apply ChO.ite | apply ChO.G | apply ChO.both | (apply ChO.bind; intro _)
theorem seqs_counts_L8_cn  (m : (Int × (List (List Int)) × (List Int) × Unit)) (n : Int) (y' : (List Int)) : Cn (seqs_counts_L8_F m n y') := fun g h hg x => seqs_counts_L8_B_ch  (fun κ t out => g κ (t, out)) (fun t out => h (t, out)) (fun t out => hg (t, out)) m n y' x.1 x.2
theorem seqs_counts_L8_eq  (m : (Int × (List (List Int)) × (List Int) × Unit)) (n : Int) (y' : (List Int)) (t : Int) (out : (List Int)) : seqs_counts_L8 m n y' t out = seqs_counts_L8_B m n y' (seqs_counts_L8 m n y') t out := LFix_eq (seqs_counts_L8_cn m n y') (t, out)
theorem seqs_counts_B_ch (rc_seqs_counts : Nat → (Int × (List (List Int)) × (List Int) × Unit) → Int → Option (List Int)) (rc_seqs_counts' : (Int × (List (List Int)) × (List Int) × Unit) → Int → Option (List Int)) (h_rc_seqs_counts : ∀ a0 a1, ChO (fun κ => rc_seqs_counts κ a0 a1) (rc_seqs_counts' a0 a1)) (m : (Int × (List (List Int)) × (List Int) × Unit)) (n : Int) : ChO (fun κ => seqs_counts_B (rc_seqs_counts κ) m n) (seqs_counts_B rc_seqs_counts' m n) := by
  unfold seqs_counts_B
  repeat' first | exact ChO.const _ | exact h_rc_seqs_counts _ _ | (apply seqs_counts_L11_ch <;> assumption) | apply ChO.ite | apply ChO.G | apply ChO.both | (apply ChO.bind; intro _) | (apply ChO.bind2 (h_rc_seqs_counts _ _); intro _)
noncomputable def seqs_counts_F : ((Int × (List (List Int)) × (List Int) × Unit) × Int → Option (List Int)) → (Int × (List (List Int)) × (List Int) × Unit) × Int → Option (List Int) :=
  fun rec X => seqs_counts_B (fun m n => rec (m, n)) X.1 X.2
noncomputable def seqs_counts (m : (Int × (List (List Int)) × (List Int) × Unit)) (n : Int) : Option (List Int) := LFix seqs_counts_F (m, n)
theorem seqs_counts_cn : Cn seqs_counts_F := fun g h hg X => seqs_counts_B_ch _ _ (fun m n => hg (m, n)) X.1 X.2
theorem seqs_counts_eq (m : (Int × (List (List Int)) × (List Int) × Unit)) (n : Int) : seqs_counts m n = seqs_counts_B seqs_counts m n := LFix_eq seqs_counts_cn (m, n)

noncomputable def seqs_Counts_L8_B (m : (Int × (List (List Int)) × (List Int) × Unit)) (y'_1 : (List Int)) (r8 : Int → (List Int) → Option (Int × (List Int))) (t : Int) (out : (List Int)) : Option (Int × (List Int)) :=
  if (decide (t < (y'_1.length : Int))) = true then
  G (0 ≤ t ∧ t < (y'_1.length : Int)) (
  G ((t).toNat < y'_1.length) (
  G (0 ≤ t ∧ t < (m.2.2.1.length : Int)) (
  G (0 ≤ ix m.2.2.1 t ∧ ix m.2.2.1 t < (out.length : Int)) (
  G ((ix m.2.2.1 t).toNat < out.length) (
  G (fits ((ix out (ix m.2.2.1 t)) + (ix y'_1 t))) (
  G (0 ≤ ix m.2.2.1 t ∧ ix m.2.2.1 t < (out.length : Int)) (
  G ((ix m.2.2.1 t).toNat < out.length) (
  G (fits (t + (1 : Int))) (
  r8 (t + (1 : Int)) (out.set (ix m.2.2.1 t).toNat ((ix out (ix m.2.2.1 t)) + (ix y'_1 t)))))))))))) else
  some ((0 : Int), out)
noncomputable def seqs_Counts_L8_F (m : (Int × (List (List Int)) × (List Int) × Unit)) (y'_1 : (List Int)) : (Int × (List Int) → Option (Int × (List Int))) → Int × (List Int) → Option (Int × (List Int)) :=
  fun rec x => seqs_Counts_L8_B m y'_1 (fun t out => rec (t, out)) x.1 x.2
noncomputable def seqs_Counts_L8 (m : (Int × (List (List Int)) × (List Int) × Unit)) (y'_1 : (List Int)) (t : Int) (out : (List Int)) : Option (Int × (List Int)) := LFix (seqs_Counts_L8_F m y'_1 ) (t, out)
noncomputable def seqs_Counts (m : (Int × (List (List Int)) × (List Int) × Unit)) (n : Int) : Option (Int × (List Int)) :=
  (seqs_Check (m.1, (m.2.1, (m.2.2.1, ())))).bind (fun y' =>
  if (decide (¬ y' = (0 : Int))) = true then
  some (y', []) else
  if (decide (n < (0 : Int))) = true then
  some ((2 : Int), []) else
  if (decide ((1000000000000000 : Int) < n)) = true then
  some ((2 : Int), []) else
  G (mkOK (10 : Int) (10 : Int) 8) (
  (seqs_counts (m.1, (m.2.1, (m.2.2.1, ()))) n).bind (fun y'_1 =>
  seqs_Counts_L8 m y'_1 (0 : Int) (List.replicate ((10 : Int)).toNat (0 : Int)))))
theorem seqs_Counts_L8_B_ch (r8 : Nat → Int → (List Int) → Option (Int × (List Int))) (r8' : Int → (List Int) → Option (Int × (List Int))) (h_r8 : ∀ a0 a1, ChO (fun κ => r8 κ a0 a1) (r8' a0 a1)) (m : (Int × (List (List Int)) × (List Int) × Unit)) (y'_1 : (List Int)) (t : Int) (out : (List Int)) : ChO (fun κ => seqs_Counts_L8_B m y'_1 (r8 κ) t out) (seqs_Counts_L8_B m y'_1 r8' t out) := by
  unfold seqs_Counts_L8_B
  repeat' first | exact ChO.const _ | exact h_r8 _ _ | apply ChO.ite | apply ChO.G | apply ChO.both | (apply ChO.bind; intro _)
theorem seqs_Counts_L8_cn  (m : (Int × (List (List Int)) × (List Int) × Unit)) (y'_1 : (List Int)) : Cn (seqs_Counts_L8_F m y'_1) := fun g h hg x => seqs_Counts_L8_B_ch  (fun κ t out => g κ (t, out)) (fun t out => h (t, out)) (fun t out => hg (t, out)) m y'_1 x.1 x.2
theorem seqs_Counts_L8_eq  (m : (Int × (List (List Int)) × (List Int) × Unit)) (y'_1 : (List Int)) (t : Int) (out : (List Int)) : seqs_Counts_L8 m y'_1 t out = seqs_Counts_L8_B m y'_1 (seqs_Counts_L8 m y'_1) t out := LFix_eq (seqs_Counts_L8_cn m y'_1) (t, out)

noncomputable def r23_Check_L17_B (m : (Int × (List (List Int)) × (List Int) × Unit)) (a_1 : Int) (r14 : (Int → Option (Int))) (r17 : Int → Option (Int)) (k : Int) : Option (Int) :=
  if (decide (k < m.1)) = true then
  G (0 ≤ a_1 ∧ a_1 < (m.2.1.length : Int)) (
  G (0 ≤ k ∧ k < ((ix m.2.1 a_1).length : Int)) (
  if (decide ((ix (ix m.2.1 a_1) k) < (0 : Int))) = true then
  some (2 : Int) else
  G (0 ≤ a_1 ∧ a_1 < (m.2.1.length : Int)) (
  G (0 ≤ k ∧ k < ((ix m.2.1 a_1).length : Int)) (
  if (decide ((m.2.1.length : Int) ≤ (ix (ix m.2.1 a_1) k))) = true then
  some (2 : Int) else
  G (fits (k + (1 : Int))) (
  r17 (k + (1 : Int))))))) else
  G (0 ≤ a_1 ∧ a_1 < (m.2.2.1.length : Int)) (
  if (decide ((ix m.2.2.1 a_1) < (0 : Int))) = true then
  some (2 : Int) else
  G (0 ≤ a_1 ∧ a_1 < (m.2.2.1.length : Int)) (
  if (decide ((9 : Int) < (ix m.2.2.1 a_1))) = true then
  some (2 : Int) else
  G (fits (a_1 + (1 : Int))) (
  r14 (a_1 + (1 : Int)))))
noncomputable def r23_Check_L17_F (m : (Int × (List (List Int)) × (List Int) × Unit)) (a_1 : Int) (r14 : (Int → Option (Int))) : (Int → Option (Int)) → Int → Option (Int) :=
  fun rec x => r23_Check_L17_B m a_1 r14 (fun k => rec k) x
noncomputable def r23_Check_L17 (m : (Int × (List (List Int)) × (List Int) × Unit)) (a_1 : Int) (r14 : (Int → Option (Int))) (k : Int) : Option (Int) := LFix (r23_Check_L17_F m a_1 r14 ) k
noncomputable def r23_Check_L14_B (m : (Int × (List (List Int)) × (List Int) × Unit)) (r14 : Int → Option (Int)) (a_1 : Int) : Option (Int) :=
  if (decide (a_1 < (m.2.1.length : Int))) = true then
  r23_Check_L17 m a_1 r14 (0 : Int) else
  G (0 ≤ (0 : Int) ∧ (0 : Int) < (m.2.1.length : Int)) (
  G (0 ≤ (0 : Int) ∧ (0 : Int) < ((ix m.2.1 (0 : Int)).length : Int)) (
  if (decide (¬ (ix (ix m.2.1 (0 : Int)) (0 : Int)) = (0 : Int))) = true then
  some (3 : Int) else
  some (0 : Int)))
noncomputable def r23_Check_L14_F (m : (Int × (List (List Int)) × (List Int) × Unit)) : (Int → Option (Int)) → Int → Option (Int) :=
  fun rec x => r23_Check_L14_B m (fun a_1 => rec a_1) x
noncomputable def r23_Check_L14 (m : (Int × (List (List Int)) × (List Int) × Unit)) (a_1 : Int) : Option (Int) := LFix (r23_Check_L14_F m ) a_1
noncomputable def r23_Check_L9_B (m : (Int × (List (List Int)) × (List Int) × Unit)) (r9 : Int → Option (Int)) (a : Int) : Option (Int) :=
  if (decide (a < (m.2.1.length : Int))) = true then
  G (0 ≤ a ∧ a < (m.2.1.length : Int)) (
  if (decide (¬ ((ix m.2.1 a).length : Int) = m.1)) = true then
  some (3 : Int) else
  G (fits (a + (1 : Int))) (
  r9 (a + (1 : Int)))) else
  r23_Check_L14 m (0 : Int)
noncomputable def r23_Check_L9_F (m : (Int × (List (List Int)) × (List Int) × Unit)) : (Int → Option (Int)) → Int → Option (Int) :=
  fun rec x => r23_Check_L9_B m (fun a => rec a) x
noncomputable def r23_Check_L9 (m : (Int × (List (List Int)) × (List Int) × Unit)) (a : Int) : Option (Int) := LFix (r23_Check_L9_F m ) a
noncomputable def r23_Check (m : (Int × (List (List Int)) × (List Int) × Unit)) : Option (Int) :=
  if (decide (m.1 < (2 : Int))) = true then
  some (2 : Int) else
  if (decide ((4 : Int) < m.1)) = true then
  some (2 : Int) else
  if (decide ((m.2.1.length : Int) < (1 : Int))) = true then
  some (1 : Int) else
  if (decide ((4 : Int) < (m.2.1.length : Int))) = true then
  some (1 : Int) else
  if (decide (¬ (m.2.2.1.length : Int) = (m.2.1.length : Int))) = true then
  some (3 : Int) else
  r23_Check_L9 m (0 : Int)
theorem r23_Check_L17_B_ch (r14 : Nat → Int → Option (Int)) (r14' : Int → Option (Int)) (h_r14 : ∀ a0, ChO (fun κ => r14 κ a0) (r14' a0)) (r17 : Nat → Int → Option (Int)) (r17' : Int → Option (Int)) (h_r17 : ∀ a0, ChO (fun κ => r17 κ a0) (r17' a0)) (m : (Int × (List (List Int)) × (List Int) × Unit)) (a_1 : Int) (k : Int) : ChO (fun κ => r23_Check_L17_B m a_1 (r14 κ) (r17 κ) k) (r23_Check_L17_B m a_1 r14' r17' k) := by
  unfold r23_Check_L17_B
  repeat' first | exact ChO.const _ | exact h_r14 _ | exact h_r17 _ | apply ChO.ite | apply ChO.G | apply ChO.both | (apply ChO.bind; intro _)
theorem r23_Check_L17_cn (r14 : Int → Option (Int)) (m : (Int × (List (List Int)) × (List Int) × Unit)) (a_1 : Int) : Cn (r23_Check_L17_F m a_1 r14) := fun g h hg x => r23_Check_L17_B_ch (fun _ => r14) r14 (fun _ => ChO.const _) (fun κ k => g κ k) (fun k => h k) (fun k => hg k) m a_1 x
theorem r23_Check_L17_eq (r14 : Int → Option (Int)) (m : (Int × (List (List Int)) × (List Int) × Unit)) (a_1 : Int) (k : Int) : r23_Check_L17 m a_1 r14 k = r23_Check_L17_B m a_1 r14 (r23_Check_L17 m a_1 r14) k := LFix_eq (r23_Check_L17_cn r14 m a_1) k
theorem r23_Check_L17_ch (r14 : Nat → Int → Option (Int)) (r14' : Int → Option (Int)) (h_r14 : ∀ a0, ChO (fun κ => r14 κ a0) (r14' a0)) (m : (Int × (List (List Int)) × (List Int) × Unit)) (a_1 : Int) (k : Int) : ChO (fun κ => r23_Check_L17 m a_1 (r14 κ) k) (r23_Check_L17 m a_1 r14' k) := by
  unfold r23_Check_L17
  exact LFix_ch (fun κ => (r23_Check_L17_cn (r14 κ) m a_1).mono) (r23_Check_L17_cn r14' m a_1).mono (fun g h hg x => r23_Check_L17_B_ch r14 r14' h_r14 (fun κ k => g κ k) (fun k => h k) (fun k => hg k) m a_1 x) _
theorem r23_Check_L14_B_ch (r14 : Nat → Int → Option (Int)) (r14' : Int → Option (Int)) (h_r14 : ∀ a0, ChO (fun κ => r14 κ a0) (r14' a0)) (m : (Int × (List (List Int)) × (List Int) × Unit)) (a_1 : Int) : ChO (fun κ => r23_Check_L14_B m (r14 κ) a_1) (r23_Check_L14_B m r14' a_1) := by
  unfold r23_Check_L14_B
  repeat' first | exact ChO.const _ | exact h_r14 _ | (apply r23_Check_L17_ch <;> assumption) | apply ChO.ite | apply ChO.G | apply ChO.both | (apply ChO.bind; intro _)
theorem r23_Check_L14_cn  (m : (Int × (List (List Int)) × (List Int) × Unit)) : Cn (r23_Check_L14_F m) := fun g h hg x => r23_Check_L14_B_ch  (fun κ a_1 => g κ a_1) (fun a_1 => h a_1) (fun a_1 => hg a_1) m x
theorem r23_Check_L14_eq  (m : (Int × (List (List Int)) × (List Int) × Unit)) (a_1 : Int) : r23_Check_L14 m a_1 = r23_Check_L14_B m (r23_Check_L14 m) a_1 := LFix_eq (r23_Check_L14_cn m) a_1
theorem r23_Check_L9_B_ch (r9 : Nat → Int → Option (Int)) (r9' : Int → Option (Int)) (h_r9 : ∀ a0, ChO (fun κ => r9 κ a0) (r9' a0)) (m : (Int × (List (List Int)) × (List Int) × Unit)) (a : Int) : ChO (fun κ => r23_Check_L9_B m (r9 κ) a) (r23_Check_L9_B m r9' a) := by
  unfold r23_Check_L9_B
  repeat' first | exact ChO.const _ | exact h_r9 _ | (apply r23_Check_L17_ch <;> assumption) | apply ChO.ite | apply ChO.G | apply ChO.both | (apply ChO.bind; intro _)
theorem r23_Check_L9_cn  (m : (Int × (List (List Int)) × (List Int) × Unit)) : Cn (r23_Check_L9_F m) := fun g h hg x => r23_Check_L9_B_ch  (fun κ a => g κ a) (fun a => h a) (fun a => hg a) m x
theorem r23_Check_L9_eq  (m : (Int × (List (List Int)) × (List Int) × Unit)) (a : Int) : r23_Check_L9 m a = r23_Check_L9_B m (r23_Check_L9 m) a := LFix_eq (r23_Check_L9_cn m) a

noncomputable def r23_Letter_L7_B (m : (Int × (List (List Int)) × (List Int) × Unit)) (digits : (List Int)) (r7 : Int → Int → Option (Int)) (a : Int) (i : Int) : Option (Int) :=
  if (decide ((0 : Int) ≤ i)) = true then
  G (0 ≤ a ∧ a < (m.2.1.length : Int)) (
  G (0 ≤ i ∧ i < (digits.length : Int)) (
  G ((i).toNat < digits.length) (
  G (0 ≤ ix digits i ∧ ix digits i < ((ix m.2.1 a).length : Int)) (
  G (fits (i - (1 : Int))) (
  r7 (ix (ix m.2.1 a) (ix digits i)) (i - (1 : Int))))))) else
  some a
noncomputable def r23_Letter_L7_F (m : (Int × (List (List Int)) × (List Int) × Unit)) (digits : (List Int)) : (Int × Int → Option (Int)) → Int × Int → Option (Int) :=
  fun rec x => r23_Letter_L7_B m digits (fun a i => rec (a, i)) x.1 x.2
noncomputable def r23_Letter_L7 (m : (Int × (List (List Int)) × (List Int) × Unit)) (digits : (List Int)) (a : Int) (i : Int) : Option (Int) := LFix (r23_Letter_L7_F m digits ) (a, i)
noncomputable def r23_Letter_L2_B (m : (Int × (List (List Int)) × (List Int) × Unit)) (r2 : Int → (List Int) → Option (Int)) (n_1 : Int) (digits : (List Int)) : Option (Int) :=
  if (decide ((0 : Int) < n_1)) = true then
  G (m.1 ≠ 0) (
  G (room digits ([Int.tmod n_1 m.1]) 8) (
  G (m.1 ≠ 0) (
  G (fits (Int.tdiv n_1 m.1)) (
  r2 (Int.tdiv n_1 m.1) (digits ++ ([Int.tmod n_1 m.1])))))) else
  G (fits ((digits.length : Int) - (1 : Int))) (
  r23_Letter_L7 m digits (0 : Int) ((digits.length : Int) - (1 : Int)))
noncomputable def r23_Letter_L2_F (m : (Int × (List (List Int)) × (List Int) × Unit)) : (Int × (List Int) → Option (Int)) → Int × (List Int) → Option (Int) :=
  fun rec x => r23_Letter_L2_B m (fun n_1 digits => rec (n_1, digits)) x.1 x.2
noncomputable def r23_Letter_L2 (m : (Int × (List (List Int)) × (List Int) × Unit)) (n_1 : Int) (digits : (List Int)) : Option (Int) := LFix (r23_Letter_L2_F m ) (n_1, digits)
noncomputable def r23_Letter (m : (Int × (List (List Int)) × (List Int) × Unit)) (n : Int) : Option (Int) :=
  r23_Letter_L2 m n ([])
theorem r23_Letter_L7_B_ch (r7 : Nat → Int → Int → Option (Int)) (r7' : Int → Int → Option (Int)) (h_r7 : ∀ a0 a1, ChO (fun κ => r7 κ a0 a1) (r7' a0 a1)) (m : (Int × (List (List Int)) × (List Int) × Unit)) (digits : (List Int)) (a : Int) (i : Int) : ChO (fun κ => r23_Letter_L7_B m digits (r7 κ) a i) (r23_Letter_L7_B m digits r7' a i) := by
  unfold r23_Letter_L7_B
  repeat' first | exact ChO.const _ | exact h_r7 _ _ | apply ChO.ite | apply ChO.G | apply ChO.both | (apply ChO.bind; intro _)
theorem r23_Letter_L7_cn  (m : (Int × (List (List Int)) × (List Int) × Unit)) (digits : (List Int)) : Cn (r23_Letter_L7_F m digits) := fun g h hg x => r23_Letter_L7_B_ch  (fun κ a i => g κ (a, i)) (fun a i => h (a, i)) (fun a i => hg (a, i)) m digits x.1 x.2
theorem r23_Letter_L7_eq  (m : (Int × (List (List Int)) × (List Int) × Unit)) (digits : (List Int)) (a : Int) (i : Int) : r23_Letter_L7 m digits a i = r23_Letter_L7_B m digits (r23_Letter_L7 m digits) a i := LFix_eq (r23_Letter_L7_cn m digits) (a, i)
theorem r23_Letter_L2_B_ch (r2 : Nat → Int → (List Int) → Option (Int)) (r2' : Int → (List Int) → Option (Int)) (h_r2 : ∀ a0 a1, ChO (fun κ => r2 κ a0 a1) (r2' a0 a1)) (m : (Int × (List (List Int)) × (List Int) × Unit)) (n_1 : Int) (digits : (List Int)) : ChO (fun κ => r23_Letter_L2_B m (r2 κ) n_1 digits) (r23_Letter_L2_B m r2' n_1 digits) := by
  unfold r23_Letter_L2_B
  repeat' first | exact ChO.const _ | exact h_r2 _ _ | apply ChO.ite | apply ChO.G | apply ChO.both | (apply ChO.bind; intro _)
theorem r23_Letter_L2_cn  (m : (Int × (List (List Int)) × (List Int) × Unit)) : Cn (r23_Letter_L2_F m) := fun g h hg x => r23_Letter_L2_B_ch  (fun κ n_1 digits => g κ (n_1, digits)) (fun n_1 digits => h (n_1, digits)) (fun n_1 digits => hg (n_1, digits)) m x.1 x.2
theorem r23_Letter_L2_eq  (m : (Int × (List (List Int)) × (List Int) × Unit)) (n_1 : Int) (digits : (List Int)) : r23_Letter_L2 m n_1 digits = r23_Letter_L2_B m (r23_Letter_L2 m) n_1 digits := LFix_eq (r23_Letter_L2_cn m) (n_1, digits)

noncomputable def r23_Below_L4_B (m : (Int × (List (List Int)) × (List Int) × Unit)) (n : Int) (r4 : Int → (List Int) → Option (List Int)) (i : Int) (out : (List Int)) : Option (List Int) :=
  if (decide (i < n)) = true then
  (r23_Letter (m.1, (m.2.1, (m.2.2.1, ()))) i).bind (fun y' =>
  G (0 ≤ y' ∧ y' < (out.length : Int)) (
  G ((y').toNat < out.length) (
  G (fits ((ix out y') + (1 : Int))) (
  G (0 ≤ y' ∧ y' < (out.length : Int)) (
  G ((y').toNat < out.length) (
  G (fits (i + (1 : Int))) (
  r4 (i + (1 : Int)) (out.set (y').toNat ((ix out y') + (1 : Int)))))))))) else
  some out
noncomputable def r23_Below_L4_F (m : (Int × (List (List Int)) × (List Int) × Unit)) (n : Int) : (Int × (List Int) → Option (List Int)) → Int × (List Int) → Option (List Int) :=
  fun rec x => r23_Below_L4_B m n (fun i out => rec (i, out)) x.1 x.2
noncomputable def r23_Below_L4 (m : (Int × (List (List Int)) × (List Int) × Unit)) (n : Int) (i : Int) (out : (List Int)) : Option (List Int) := LFix (r23_Below_L4_F m n ) (i, out)
noncomputable def r23_Below_L14_B (m : (Int × (List (List Int)) × (List Int) × Unit)) (y'_1 : (List Int)) (a : Int) (r11 : (Int → (List Int) → Option (List Int))) (r14 : Int → (List Int) → Option (List Int)) (k : Int) (out_2 : (List Int)) : Option (List Int) :=
  if (decide (k < m.1)) = true then
  G (0 ≤ a ∧ a < (m.2.1.length : Int)) (
  G (0 ≤ k ∧ k < ((ix m.2.1 a).length : Int)) (
  G (0 ≤ a ∧ a < (m.2.1.length : Int)) (
  G (0 ≤ k ∧ k < ((ix m.2.1 a).length : Int)) (
  G (0 ≤ ix (ix m.2.1 a) k ∧ ix (ix m.2.1 a) k < (out_2.length : Int)) (
  G ((ix (ix m.2.1 a) k).toNat < out_2.length) (
  G (0 ≤ a ∧ a < (y'_1.length : Int)) (
  G ((a).toNat < y'_1.length) (
  G (fits ((ix out_2 (ix (ix m.2.1 a) k)) + (ix y'_1 a))) (
  G (0 ≤ ix (ix m.2.1 a) k ∧ ix (ix m.2.1 a) k < (out_2.length : Int)) (
  G ((ix (ix m.2.1 a) k).toNat < out_2.length) (
  G (fits (k + (1 : Int))) (
  r14 (k + (1 : Int)) (out_2.set (ix (ix m.2.1 a) k).toNat ((ix out_2 (ix (ix m.2.1 a) k)) + (ix y'_1 a))))))))))))))) else
  G (fits (a + (1 : Int))) (
  r11 (a + (1 : Int)) out_2)
noncomputable def r23_Below_L14_F (m : (Int × (List (List Int)) × (List Int) × Unit)) (y'_1 : (List Int)) (a : Int) (r11 : (Int → (List Int) → Option (List Int))) : (Int × (List Int) → Option (List Int)) → Int × (List Int) → Option (List Int) :=
  fun rec x => r23_Below_L14_B m y'_1 a r11 (fun k out_2 => rec (k, out_2)) x.1 x.2
noncomputable def r23_Below_L14 (m : (Int × (List (List Int)) × (List Int) × Unit)) (y'_1 : (List Int)) (a : Int) (r11 : (Int → (List Int) → Option (List Int))) (k : Int) (out_2 : (List Int)) : Option (List Int) := LFix (r23_Below_L14_F m y'_1 a r11 ) (k, out_2)
noncomputable def r23_Below_L18_B (m : (Int × (List (List Int)) × (List Int) × Unit)) (n : Int) (r18 : Int → (List Int) → Option (List Int)) (i_1 : Int) (out_3 : (List Int)) : Option (List Int) :=
  if (decide (i_1 < n)) = true then
  (r23_Letter (m.1, (m.2.1, (m.2.2.1, ()))) i_1).bind (fun y'_2 =>
  G (0 ≤ y'_2 ∧ y'_2 < (out_3.length : Int)) (
  G ((y'_2).toNat < out_3.length) (
  G (fits ((ix out_3 y'_2) + (1 : Int))) (
  G (0 ≤ y'_2 ∧ y'_2 < (out_3.length : Int)) (
  G ((y'_2).toNat < out_3.length) (
  G (fits (i_1 + (1 : Int))) (
  r18 (i_1 + (1 : Int)) (out_3.set (y'_2).toNat ((ix out_3 y'_2) + (1 : Int)))))))))) else
  some out_3
noncomputable def r23_Below_L18_F (m : (Int × (List (List Int)) × (List Int) × Unit)) (n : Int) : (Int × (List Int) → Option (List Int)) → Int × (List Int) → Option (List Int) :=
  fun rec x => r23_Below_L18_B m n (fun i_1 out_3 => rec (i_1, out_3)) x.1 x.2
noncomputable def r23_Below_L18 (m : (Int × (List (List Int)) × (List Int) × Unit)) (n : Int) (i_1 : Int) (out_3 : (List Int)) : Option (List Int) := LFix (r23_Below_L18_F m n ) (i_1, out_3)
noncomputable def r23_Below_L11_B (m : (Int × (List (List Int)) × (List Int) × Unit)) (n : Int) (y'_1 : (List Int)) (r11 : Int → (List Int) → Option (List Int)) (a : Int) (out_1 : (List Int)) : Option (List Int) :=
  if (decide (a < (y'_1.length : Int))) = true then
  r23_Below_L14 m y'_1 a r11 (0 : Int) out_1 else
  G (m.1 ≠ 0) (
  G (fits (n - (Int.tmod n m.1))) (
  r23_Below_L18 m n (n - (Int.tmod n m.1)) out_1))
noncomputable def r23_Below_L11_F (m : (Int × (List (List Int)) × (List Int) × Unit)) (n : Int) (y'_1 : (List Int)) : (Int × (List Int) → Option (List Int)) → Int × (List Int) → Option (List Int) :=
  fun rec x => r23_Below_L11_B m n y'_1 (fun a out_1 => rec (a, out_1)) x.1 x.2
noncomputable def r23_Below_L11 (m : (Int × (List (List Int)) × (List Int) × Unit)) (n : Int) (y'_1 : (List Int)) (a : Int) (out_1 : (List Int)) : Option (List Int) := LFix (r23_Below_L11_F m n y'_1 ) (a, out_1)
noncomputable def r23_Below_B (rc_r23_Below : (Int × (List (List Int)) × (List Int) × Unit) → Int → Option (List Int)) (m : (Int × (List (List Int)) × (List Int) × Unit)) (n : Int) : Option (List Int) :=
  G (mkOK (m.2.1.length : Int) (m.2.1.length : Int) 8) (
  if (decide (n < (4 : Int))) = true then
  r23_Below_L4 m n (0 : Int) (List.replicate ((m.2.1.length : Int)).toNat (0 : Int)) else
  G (m.1 ≠ 0) (
  G (fits (Int.tdiv n m.1)) (
  (rc_r23_Below (m.1, (m.2.1, (m.2.2.1, ()))) (Int.tdiv n m.1)).bind (fun y'_1 =>
  r23_Below_L11 m n y'_1 (0 : Int) (List.replicate ((m.2.1.length : Int)).toNat (0 : Int))))))
theorem r23_Below_L4_B_ch (r4 : Nat → Int → (List Int) → Option (List Int)) (r4' : Int → (List Int) → Option (List Int)) (h_r4 : ∀ a0 a1, ChO (fun κ => r4 κ a0 a1) (r4' a0 a1)) (m : (Int × (List (List Int)) × (List Int) × Unit)) (n : Int) (i : Int) (out : (List Int)) : ChO (fun κ => r23_Below_L4_B m n (r4 κ) i out) (r23_Below_L4_B m n r4' i out) := by
  unfold r23_Below_L4_B
  repeat' first | exact ChO.const _ | exact h_r4 _ _ | apply ChO.ite | apply ChO.G | apply ChO.both | (apply ChO.bind; intro _)
theorem r23_Below_L4_cn  (m : (Int × (List (List Int)) × (List Int) × Unit)) (n : Int) : Cn (r23_Below_L4_F m n) := fun g h hg x => r23_Below_L4_B_ch  (fun κ i out => g κ (i, out)) (fun i out => h (i, out)) (fun i out => hg (i, out)) m n x.1 x.2
theorem r23_Below_L4_eq  (m : (Int × (List (List Int)) × (List Int) × Unit)) (n : Int) (i : Int) (out : (List Int)) : r23_Below_L4 m n i out = r23_Below_L4_B m n (r23_Below_L4 m n) i out := LFix_eq (r23_Below_L4_cn m n) (i, out)
theorem r23_Below_L14_B_ch (r11 : Nat → Int → (List Int) → Option (List Int)) (r11' : Int → (List Int) → Option (List Int)) (h_r11 : ∀ a0 a1, ChO (fun κ => r11 κ a0 a1) (r11' a0 a1)) (r14 : Nat → Int → (List Int) → Option (List Int)) (r14' : Int → (List Int) → Option (List Int)) (h_r14 : ∀ a0 a1, ChO (fun κ => r14 κ a0 a1) (r14' a0 a1)) (m : (Int × (List (List Int)) × (List Int) × Unit)) (y'_1 : (List Int)) (a : Int) (k : Int) (out_2 : (List Int)) : ChO (fun κ => r23_Below_L14_B m y'_1 a (r11 κ) (r14 κ) k out_2) (r23_Below_L14_B m y'_1 a r11' r14' k out_2) := by
  unfold r23_Below_L14_B
  repeat' first | exact ChO.const _ | exact h_r11 _ _ | exact h_r14 _ _ | apply ChO.ite | apply ChO.G | apply ChO.both | (apply ChO.bind; intro _)
theorem r23_Below_L14_cn (r11 : Int → (List Int) → Option (List Int)) (m : (Int × (List (List Int)) × (List Int) × Unit)) (y'_1 : (List Int)) (a : Int) : Cn (r23_Below_L14_F m y'_1 a r11) := fun g h hg x => r23_Below_L14_B_ch (fun _ => r11) r11 (fun _ _ => ChO.const _) (fun κ k out_2 => g κ (k, out_2)) (fun k out_2 => h (k, out_2)) (fun k out_2 => hg (k, out_2)) m y'_1 a x.1 x.2
theorem r23_Below_L14_eq (r11 : Int → (List Int) → Option (List Int)) (m : (Int × (List (List Int)) × (List Int) × Unit)) (y'_1 : (List Int)) (a : Int) (k : Int) (out_2 : (List Int)) : r23_Below_L14 m y'_1 a r11 k out_2 = r23_Below_L14_B m y'_1 a r11 (r23_Below_L14 m y'_1 a r11) k out_2 := LFix_eq (r23_Below_L14_cn r11 m y'_1 a) (k, out_2)
theorem r23_Below_L14_ch (r11 : Nat → Int → (List Int) → Option (List Int)) (r11' : Int → (List Int) → Option (List Int)) (h_r11 : ∀ a0 a1, ChO (fun κ => r11 κ a0 a1) (r11' a0 a1)) (m : (Int × (List (List Int)) × (List Int) × Unit)) (y'_1 : (List Int)) (a : Int) (k : Int) (out_2 : (List Int)) : ChO (fun κ => r23_Below_L14 m y'_1 a (r11 κ) k out_2) (r23_Below_L14 m y'_1 a r11' k out_2) := by
  unfold r23_Below_L14
  exact LFix_ch (fun κ => (r23_Below_L14_cn (r11 κ) m y'_1 a).mono) (r23_Below_L14_cn r11' m y'_1 a).mono (fun g h hg x => r23_Below_L14_B_ch r11 r11' h_r11 (fun κ k out_2 => g κ (k, out_2)) (fun k out_2 => h (k, out_2)) (fun k out_2 => hg (k, out_2)) m y'_1 a x.1 x.2) _
theorem r23_Below_L18_B_ch (r18 : Nat → Int → (List Int) → Option (List Int)) (r18' : Int → (List Int) → Option (List Int)) (h_r18 : ∀ a0 a1, ChO (fun κ => r18 κ a0 a1) (r18' a0 a1)) (m : (Int × (List (List Int)) × (List Int) × Unit)) (n : Int) (i_1 : Int) (out_3 : (List Int)) : ChO (fun κ => r23_Below_L18_B m n (r18 κ) i_1 out_3) (r23_Below_L18_B m n r18' i_1 out_3) := by
  unfold r23_Below_L18_B
  repeat' first | exact ChO.const _ | exact h_r18 _ _ | (apply r23_Below_L14_ch <;> assumption) | apply ChO.ite | apply ChO.G | apply ChO.both | (apply ChO.bind; intro _)
theorem r23_Below_L18_cn  (m : (Int × (List (List Int)) × (List Int) × Unit)) (n : Int) : Cn (r23_Below_L18_F m n) := fun g h hg x => r23_Below_L18_B_ch  (fun κ i_1 out_3 => g κ (i_1, out_3)) (fun i_1 out_3 => h (i_1, out_3)) (fun i_1 out_3 => hg (i_1, out_3)) m n x.1 x.2
theorem r23_Below_L18_eq  (m : (Int × (List (List Int)) × (List Int) × Unit)) (n : Int) (i_1 : Int) (out_3 : (List Int)) : r23_Below_L18 m n i_1 out_3 = r23_Below_L18_B m n (r23_Below_L18 m n) i_1 out_3 := LFix_eq (r23_Below_L18_cn m n) (i_1, out_3)
theorem r23_Below_L11_B_ch (r11 : Nat → Int → (List Int) → Option (List Int)) (r11' : Int → (List Int) → Option (List Int)) (h_r11 : ∀ a0 a1, ChO (fun κ => r11 κ a0 a1) (r11' a0 a1)) (m : (Int × (List (List Int)) × (List Int) × Unit)) (n : Int) (y'_1 : (List Int)) (a : Int) (out_1 : (List Int)) : ChO (fun κ => r23_Below_L11_B m n y'_1 (r11 κ) a out_1) (r23_Below_L11_B m n y'_1 r11' a out_1) := by
  unfold r23_Below_L11_B
  repeat' first | exact ChO.const _ | exact h_r11 _ _ | (apply r23_Below_L14_ch <;> assumption) | apply ChO.ite | apply ChO.G | apply ChO.both | (apply ChO.bind; intro _)
theorem r23_Below_L11_cn  (m : (Int × (List (List Int)) × (List Int) × Unit)) (n : Int) (y'_1 : (List Int)) : Cn (r23_Below_L11_F m n y'_1) := fun g h hg x => r23_Below_L11_B_ch  (fun κ a out_1 => g κ (a, out_1)) (fun a out_1 => h (a, out_1)) (fun a out_1 => hg (a, out_1)) m n y'_1 x.1 x.2
theorem r23_Below_L11_eq  (m : (Int × (List (List Int)) × (List Int) × Unit)) (n : Int) (y'_1 : (List Int)) (a : Int) (out_1 : (List Int)) : r23_Below_L11 m n y'_1 a out_1 = r23_Below_L11_B m n y'_1 (r23_Below_L11 m n y'_1) a out_1 := LFix_eq (r23_Below_L11_cn m n y'_1) (a, out_1)
theorem r23_Below_B_ch (rc_r23_Below : Nat → (Int × (List (List Int)) × (List Int) × Unit) → Int → Option (List Int)) (rc_r23_Below' : (Int × (List (List Int)) × (List Int) × Unit) → Int → Option (List Int)) (h_rc_r23_Below : ∀ a0 a1, ChO (fun κ => rc_r23_Below κ a0 a1) (rc_r23_Below' a0 a1)) (m : (Int × (List (List Int)) × (List Int) × Unit)) (n : Int) : ChO (fun κ => r23_Below_B (rc_r23_Below κ) m n) (r23_Below_B rc_r23_Below' m n) := by
  unfold r23_Below_B
  repeat' first | exact ChO.const _ | exact h_rc_r23_Below _ _ | (apply r23_Below_L14_ch <;> assumption) | apply ChO.ite | apply ChO.G | apply ChO.both | (apply ChO.bind; intro _) | (apply ChO.bind2 (h_rc_r23_Below _ _); intro _)
noncomputable def r23_Below_F : ((Int × (List (List Int)) × (List Int) × Unit) × Int → Option (List Int)) → (Int × (List (List Int)) × (List Int) × Unit) × Int → Option (List Int) :=
  fun rec X => r23_Below_B (fun m n => rec (m, n)) X.1 X.2
noncomputable def r23_Below (m : (Int × (List (List Int)) × (List Int) × Unit)) (n : Int) : Option (List Int) := LFix r23_Below_F (m, n)
theorem r23_Below_cn : Cn r23_Below_F := fun g h hg X => r23_Below_B_ch _ _ (fun m n => hg (m, n)) X.1 X.2
theorem r23_Below_eq (m : (Int × (List (List Int)) × (List Int) × Unit)) (n : Int) : r23_Below m n = r23_Below_B r23_Below m n := LFix_eq r23_Below_cn (m, n)

noncomputable def r1_Words_L4_B (a : (List Int)) (b : (List Int)) (r4 : Int → Option (Bool)) (i : Int) : Option (Bool) :=
  if (decide (i < (a.length : Int))) = true then
  G (0 ≤ i ∧ i < (a.length : Int)) (
  G (0 ≤ i ∧ i < (b.length : Int)) (
  if (decide (¬ (ix a i) = (ix b i))) = true then
  some false else
  G (fits (i + (1 : Int))) (
  r4 (i + (1 : Int))))) else
  some true
noncomputable def r1_Words_L4_F (a : (List Int)) (b : (List Int)) : (Int → Option (Bool)) → Int → Option (Bool) :=
  fun rec x => r1_Words_L4_B a b (fun i => rec i) x
noncomputable def r1_Words_L4 (a : (List Int)) (b : (List Int)) (i : Int) : Option (Bool) := LFix (r1_Words_L4_F a b ) i
noncomputable def r1_Words (a : (List Int)) (b : (List Int)) : Option (Bool) :=
  if (decide (¬ (a.length : Int) = (b.length : Int))) = true then
  some false else
  r1_Words_L4 a b (0 : Int)
theorem r1_Words_L4_B_ch (r4 : Nat → Int → Option (Bool)) (r4' : Int → Option (Bool)) (h_r4 : ∀ a0, ChO (fun κ => r4 κ a0) (r4' a0)) (a : (List Int)) (b : (List Int)) (i : Int) : ChO (fun κ => r1_Words_L4_B a b (r4 κ) i) (r1_Words_L4_B a b r4' i) := by
  unfold r1_Words_L4_B
  repeat' first | exact ChO.const _ | exact h_r4 _ | apply ChO.ite | apply ChO.G | apply ChO.both | (apply ChO.bind; intro _)
theorem r1_Words_L4_cn  (a : (List Int)) (b : (List Int)) : Cn (r1_Words_L4_F a b) := fun g h hg x => r1_Words_L4_B_ch  (fun κ i => g κ i) (fun i => h i) (fun i => hg i) a b x
theorem r1_Words_L4_eq  (a : (List Int)) (b : (List Int)) (i : Int) : r1_Words_L4 a b i = r1_Words_L4_B a b (r1_Words_L4 a b) i := LFix_eq (r1_Words_L4_cn a b) i

noncomputable def law_SeqsCounts_L10_B (m : (Int × (List (List Int)) × (List Int) × Unit)) (y' : Int) (y'_1 : (List Int)) (y'_4 : (List Int)) (r10 : Int → (List Int) → Option (Bool)) (a : Int) (want : (List Int)) : Option (Bool) :=
  if (decide (a < (y'_4.length : Int))) = true then
  G (0 ≤ a ∧ a < (m.2.2.1.length : Int)) (
  G (0 ≤ a ∧ a < (m.2.2.1.length : Int)) (
  G (0 ≤ ix m.2.2.1 a ∧ ix m.2.2.1 a < (want.length : Int)) (
  G ((ix m.2.2.1 a).toNat < want.length) (
  G (0 ≤ a ∧ a < (y'_4.length : Int)) (
  G ((a).toNat < y'_4.length) (
  G (fits ((ix want (ix m.2.2.1 a)) + (ix y'_4 a))) (
  G (0 ≤ ix m.2.2.1 a ∧ ix m.2.2.1 a < (want.length : Int)) (
  G ((ix m.2.2.1 a).toNat < want.length) (
  G (fits (a + (1 : Int))) (
  r10 (a + (1 : Int)) (want.set (ix m.2.2.1 a).toNat ((ix want (ix m.2.2.1 a)) + (ix y'_4 a))))))))))))) else
  (r1_Words y'_1 want).bind (fun y'_5 =>
  if (decide (y' = (0 : Int))) = true then
  some y'_5 else
  some false)
noncomputable def law_SeqsCounts_L10_F (m : (Int × (List (List Int)) × (List Int) × Unit)) (y' : Int) (y'_1 : (List Int)) (y'_4 : (List Int)) : (Int × (List Int) → Option (Bool)) → Int × (List Int) → Option (Bool) :=
  fun rec x => law_SeqsCounts_L10_B m y' y'_1 y'_4 (fun a want => rec (a, want)) x.1 x.2
noncomputable def law_SeqsCounts_L10 (m : (Int × (List (List Int)) × (List Int) × Unit)) (y' : Int) (y'_1 : (List Int)) (y'_4 : (List Int)) (a : Int) (want : (List Int)) : Option (Bool) := LFix (law_SeqsCounts_L10_F m y' y'_1 y'_4 ) (a, want)
noncomputable def law_SeqsCounts_J4 (m : (Int × (List (List Int)) × (List Int) × Unit)) (n : Int) (y' : Int) (y'_1 : (List Int)) (no : Int) : Option (Bool) :=
  if (decide (¬ no = (0 : Int))) = true then
  if (decide (y' = no)) = true then
  some (decide ((y'_1.length : Int) = (0 : Int))) else
  some false else
  G (mkOK (10 : Int) (10 : Int) 8) (
  (r23_Below (m.1, (m.2.1, (m.2.2.1, ()))) n).bind (fun y'_4 =>
  law_SeqsCounts_L10 m y' y'_1 y'_4 (0 : Int) (List.replicate ((10 : Int)).toNat (0 : Int))))
noncomputable def law_SeqsCounts_J3 (m : (Int × (List (List Int)) × (List Int) × Unit)) (n : Int) (y' : Int) (y'_1 : (List Int)) (y'_3 : Int) (t : Bool) : Option (Bool) :=
  if t = true then
  law_SeqsCounts_J4 m n y' y'_1 (2 : Int) else
  law_SeqsCounts_J4 m n y' y'_1 y'_3
noncomputable def law_SeqsCounts (m : (Int × (List (List Int)) × (List Int) × Unit)) (n : Int) : Option (Bool) :=
  (seqs_Counts (m.1, (m.2.1, (m.2.2.1, ()))) n).bind (fun y'_6 =>
  (r23_Check (m.1, (m.2.1, (m.2.2.1, ())))).bind (fun y'_3 =>
  if (decide (y'_3 = (0 : Int))) = true then
  if (decide (n < (0 : Int))) = true then
  law_SeqsCounts_J3 m n y'_6.1 y'_6.2 y'_3 true else
  law_SeqsCounts_J3 m n y'_6.1 y'_6.2 y'_3 (decide ((1000000000000000 : Int) < n)) else
  law_SeqsCounts_J3 m n y'_6.1 y'_6.2 y'_3 false))
theorem law_SeqsCounts_L10_B_ch (r10 : Nat → Int → (List Int) → Option (Bool)) (r10' : Int → (List Int) → Option (Bool)) (h_r10 : ∀ a0 a1, ChO (fun κ => r10 κ a0 a1) (r10' a0 a1)) (m : (Int × (List (List Int)) × (List Int) × Unit)) (y' : Int) (y'_1 : (List Int)) (y'_4 : (List Int)) (a : Int) (want : (List Int)) : ChO (fun κ => law_SeqsCounts_L10_B m y' y'_1 y'_4 (r10 κ) a want) (law_SeqsCounts_L10_B m y' y'_1 y'_4 r10' a want) := by
  unfold law_SeqsCounts_L10_B
  repeat' first | exact ChO.const _ | exact h_r10 _ _ | apply ChO.ite | apply ChO.G | apply ChO.both | (apply ChO.bind; intro _)
theorem law_SeqsCounts_L10_cn  (m : (Int × (List (List Int)) × (List Int) × Unit)) (y' : Int) (y'_1 : (List Int)) (y'_4 : (List Int)) : Cn (law_SeqsCounts_L10_F m y' y'_1 y'_4) := fun g h hg x => law_SeqsCounts_L10_B_ch  (fun κ a want => g κ (a, want)) (fun a want => h (a, want)) (fun a want => hg (a, want)) m y' y'_1 y'_4 x.1 x.2
theorem law_SeqsCounts_L10_eq  (m : (Int × (List (List Int)) × (List Int) × Unit)) (y' : Int) (y'_1 : (List Int)) (y'_4 : (List Int)) (a : Int) (want : (List Int)) : law_SeqsCounts_L10 m y' y'_1 y'_4 a want = law_SeqsCounts_L10_B m y' y'_1 y'_4 (law_SeqsCounts_L10 m y' y'_1 y'_4) a want := LFix_eq (law_SeqsCounts_L10_cn m y' y'_1 y'_4) (a, want)

end Go.Proofs.Ytgjpkfbaobanlaa.seqsCountsW
