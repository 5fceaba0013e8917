/- What the functions that 'CodeCheap' reaches compute: plain functions. -/
import Derived.Test.YtkjapglopaoknaaEv11n21
set_option maxHeartbeats 1000000
set_option maxRecDepth 20000
set_option linter.unusedSimpArgs false
set_option linter.unusedVariables false
namespace Go.Proofs.Ytkjapglopaoknaa.codeCheapW
open Go Go.Ab
noncomputable def cmp_isNaN (x' : Int) : Option (Bool) :=
  some (decide (¬ x' = x'))

noncomputable def cmp_Compare (x' : Int) (y' : Int) : Option (Int) :=
  (cmp_isNaN x').bind (fun y'_1 =>
  (cmp_isNaN y').bind (fun y'_2 =>
  if y'_1 = true then
  if y'_2 = true then
  some (0 : Int) else
  some (-1 : Int) else
  if y'_2 = true then
  some (1 : Int) else
  if (decide (x' < y')) = true then
  some (-1 : Int) else
  if (decide (y' < x')) = true then
  some (1 : Int) else
  some (0 : Int)))

noncomputable def code_Cheap_1 (x' : (Int × (List Int) × Unit)) (y' : (Int × (List Int) × Unit)) : Option (Int) :=
  (cmp_Compare x'.1 y'.1).bind (fun y'_1 =>
  some y'_1)

noncomputable def slices_insertionSortCmpFunc_J4_1 (j : Int) (r4 : (Int → (List (Int × (List Int) × Unit)) → Option (List (Int × (List Int) × Unit)))) (t_1 : Bool) (data_4 : (List (Int × (List Int) × Unit))) : Option (List (Int × (List Int) × Unit)) :=
  G (fits (j - (1 : Int))) (
  G (fits (j - (1 : Int))) (
  G (0 ≤ j - (1 : Int) ∧ j - (1 : Int) < (data_4.length : Int)) (
  G ((j - (1 : Int)).toNat < data_4.length) (
  G (0 ≤ j ∧ j < (data_4.length : Int)) (
  G ((j).toNat < data_4.length) (
  G (0 ≤ j ∧ j < (data_4.length : Int)) (
  G ((j).toNat < data_4.length) (
  G (0 ≤ j - (1 : Int) ∧ j - (1 : Int) < ((data_4.set (j).toNat (ix data_4 (j - (1 : Int)))).length : Int)) (
  G ((j - (1 : Int)).toNat < (data_4.set (j).toNat (ix data_4 (j - (1 : Int)))).length) (
  G (fits (j - (1 : Int))) (
  r4 (j - (1 : Int)) ((data_4.set (j).toNat (ix data_4 (j - (1 : Int)))).set (j - (1 : Int)).toNat (ix data_4 j)))))))))))))
noncomputable def slices_insertionSortCmpFunc_J4 (i : Int) (r1 : (Int → (List (Int × (List Int) × Unit)) → Option (List (Int × (List Int) × Unit)))) (j : Int) (r4 : (Int → (List (Int × (List Int) × Unit)) → Option (List (Int × (List Int) × Unit)))) (t : Bool) (data_3 : (List (Int × (List Int) × Unit))) : Option (List (Int × (List Int) × Unit)) :=
  if t = true then
  slices_insertionSortCmpFunc_J4_1 j r4 t data_3 else
  G (fits (i + (1 : Int))) (
  r1 (i + (1 : Int)) data_3)
noncomputable def slices_insertionSortCmpFunc_L4_B (a : Int) (i : Int) (r1 : (Int → (List (Int × (List Int) × Unit)) → Option (List (Int × (List Int) × Unit)))) (r4 : Int → (List (Int × (List Int) × Unit)) → Option (List (Int × (List Int) × Unit))) (j : Int) (data_2 : (List (Int × (List Int) × Unit))) : Option (List (Int × (List Int) × Unit)) :=
  if (decide (a < j)) = true then
  G (0 ≤ j ∧ j < (data_2.length : Int)) (
  G ((j).toNat < data_2.length) (
  G (fits (j - (1 : Int))) (
  G (0 ≤ j - (1 : Int) ∧ j - (1 : Int) < (data_2.length : Int)) (
  G ((j - (1 : Int)).toNat < data_2.length) (
  (code_Cheap_1 (ix data_2 j) (ix data_2 (j - (1 : Int)))).bind (fun y' =>
  slices_insertionSortCmpFunc_J4 i r1 j r4 (decide (y' < (0 : Int))) data_2)))))) else
  slices_insertionSortCmpFunc_J4 i r1 j r4 false data_2
noncomputable def slices_insertionSortCmpFunc_L4_F (a : Int) (i : Int) (r1 : (Int → (List (Int × (List Int) × Unit)) → Option (List (Int × (List Int) × Unit)))) : (Int × (List (Int × (List Int) × Unit)) → Option (List (Int × (List Int) × Unit))) → Int × (List (Int × (List Int) × Unit)) → Option (List (Int × (List Int) × Unit)) :=
  fun rec x => slices_insertionSortCmpFunc_L4_B a i r1 (fun j data_2 => rec (j, data_2)) x.1 x.2
noncomputable def slices_insertionSortCmpFunc_L4 (a : Int) (i : Int) (r1 : (Int → (List (Int × (List Int) × Unit)) → Option (List (Int × (List Int) × Unit)))) (j : Int) (data_2 : (List (Int × (List Int) × Unit))) : Option (List (Int × (List Int) × Unit)) := LFix (slices_insertionSortCmpFunc_L4_F a i r1 ) (j, data_2)
noncomputable def slices_insertionSortCmpFunc_L1_B (a : Int) (b : Int) (r1 : Int → (List (Int × (List Int) × Unit)) → Option (List (Int × (List Int) × Unit))) (i : Int) (data_1 : (List (Int × (List Int) × Unit))) : Option (List (Int × (List Int) × Unit)) :=
  if (decide (i < b)) = true then
  slices_insertionSortCmpFunc_L4 a i r1 i data_1 else
  some data_1
noncomputable def slices_insertionSortCmpFunc_L1_F (a : Int) (b : Int) : (Int × (List (Int × (List Int) × Unit)) → Option (List (Int × (List Int) × Unit))) → Int × (List (Int × (List Int) × Unit)) → Option (List (Int × (List Int) × Unit)) :=
  fun rec x => slices_insertionSortCmpFunc_L1_B a b (fun i data_1 => rec (i, data_1)) x.1 x.2
noncomputable def slices_insertionSortCmpFunc_L1 (a : Int) (b : Int) (i : Int) (data_1 : (List (Int × (List Int) × Unit))) : Option (List (Int × (List Int) × Unit)) := LFix (slices_insertionSortCmpFunc_L1_F a b ) (i, data_1)
noncomputable def slices_insertionSortCmpFunc (a : Int) (b : Int) (data : (List (Int × (List Int) × Unit))) : Option (List (Int × (List Int) × Unit)) :=
  G (fits (a + (1 : Int))) (
  slices_insertionSortCmpFunc_L1 a b (a + (1 : Int)) data)
theorem slices_insertionSortCmpFunc_J4_1_ch (r4 : Nat → Int → (List (Int × (List Int) × Unit)) → Option (List (Int × (List Int) × Unit))) (r4' : Int → (List (Int × (List Int) × Unit)) → Option (List (Int × (List Int) × Unit))) (h_r4 : ∀ a0 a1, ChO (fun κ => r4 κ a0 a1) (r4' a0 a1)) (j : Int) (t_1 : Bool) (data_4 : (List (Int × (List Int) × Unit))) : ChO (fun κ => slices_insertionSortCmpFunc_J4_1 j (r4 κ) t_1 data_4) (slices_insertionSortCmpFunc_J4_1 j r4' t_1 data_4) := by
  unfold slices_insertionSortCmpFunc_J4_1
  repeat' with_reducible first | exact ChO.const _ | exact h_r4 _ _ | apply ChO.ite | apply ChO.G | apply ChO.both | (apply ChO.bind; intro _)
theorem slices_insertionSortCmpFunc_J4_ch (r1 : Nat → Int → (List (Int × (List Int) × Unit)) → Option (List (Int × (List Int) × Unit))) (r1' : Int → (List (Int × (List Int) × Unit)) → Option (List (Int × (List Int) × Unit))) (h_r1 : ∀ a0 a1, ChO (fun κ => r1 κ a0 a1) (r1' a0 a1)) (r4 : Nat → Int → (List (Int × (List Int) × Unit)) → Option (List (Int × (List Int) × Unit))) (r4' : Int → (List (Int × (List Int) × Unit)) → Option (List (Int × (List Int) × Unit))) (h_r4 : ∀ a0 a1, ChO (fun κ => r4 κ a0 a1) (r4' a0 a1)) (i : Int) (j : Int) (t : Bool) (data_3 : (List (Int × (List Int) × Unit))) : ChO (fun κ => slices_insertionSortCmpFunc_J4 i (r1 κ) j (r4 κ) t data_3) (slices_insertionSortCmpFunc_J4 i r1' j r4' t data_3) := by
  unfold slices_insertionSortCmpFunc_J4
  repeat' with_reducible first | exact ChO.const _ | exact h_r1 _ _ | exact h_r4 _ _ | (apply slices_insertionSortCmpFunc_J4_1_ch <;> assumption) | apply ChO.ite | apply ChO.G | apply ChO.both | (apply ChO.bind; intro _)
theorem slices_insertionSortCmpFunc_L4_B_ch (r1 : Nat → Int → (List (Int × (List Int) × Unit)) → Option (List (Int × (List Int) × Unit))) (r1' : Int → (List (Int × (List Int) × Unit)) → Option (List (Int × (List Int) × Unit))) (h_r1 : ∀ a0 a1, ChO (fun κ => r1 κ a0 a1) (r1' a0 a1)) (r4 : Nat → Int → (List (Int × (List Int) × Unit)) → Option (List (Int × (List Int) × Unit))) (r4' : Int → (List (Int × (List Int) × Unit)) → Option (List (Int × (List Int) × Unit))) (h_r4 : ∀ a0 a1, ChO (fun κ => r4 κ a0 a1) (r4' a0 a1)) (a : Int) (i : Int) (j : Int) (data_2 : (List (Int × (List Int) × Unit))) : ChO (fun κ => slices_insertionSortCmpFunc_L4_B a i (r1 κ) (r4 κ) j data_2) (slices_insertionSortCmpFunc_L4_B a i r1' r4' j data_2) := by
  unfold slices_insertionSortCmpFunc_L4_B
  repeat' with_reducible first | exact ChO.const _ | exact h_r1 _ _ | exact h_r4 _ _ | (apply slices_insertionSortCmpFunc_J4_1_ch <;> assumption) | (apply slices_insertionSortCmpFunc_J4_ch <;> assumption) | apply ChO.ite | apply ChO.G | apply ChO.both | (apply ChO.bind; intro _)
theorem slices_insertionSortCmpFunc_L4_cn (r1 : Int → (List (Int × (List Int) × Unit)) → Option (List (Int × (List Int) × Unit))) (a : Int) (i : Int) : Cn (slices_insertionSortCmpFunc_L4_F a i r1) := fun g h hg x => slices_insertionSortCmpFunc_L4_B_ch (fun _ => r1) r1 (fun _ _ => ChO.const _) (fun κ j data_2 => g κ (j, data_2)) (fun j data_2 => h (j, data_2)) (fun j data_2 => hg (j, data_2)) a i x.1 x.2
theorem slices_insertionSortCmpFunc_L4_eq (r1 : Int → (List (Int × (List Int) × Unit)) → Option (List (Int × (List Int) × Unit))) (a : Int) (i : Int) (j : Int) (data_2 : (List (Int × (List Int) × Unit))) : slices_insertionSortCmpFunc_L4 a i r1 j data_2 = slices_insertionSortCmpFunc_L4_B a i r1 (slices_insertionSortCmpFunc_L4 a i r1) j data_2 := LFix_eq (slices_insertionSortCmpFunc_L4_cn r1 a i) (j, data_2)
theorem slices_insertionSortCmpFunc_L4_ch (r1 : Nat → Int → (List (Int × (List Int) × Unit)) → Option (List (Int × (List Int) × Unit))) (r1' : Int → (List (Int × (List Int) × Unit)) → Option (List (Int × (List Int) × Unit))) (h_r1 : ∀ a0 a1, ChO (fun κ => r1 κ a0 a1) (r1' a0 a1)) (a : Int) (i : Int) (j : Int) (data_2 : (List (Int × (List Int) × Unit))) : ChO (fun κ => slices_insertionSortCmpFunc_L4 a i (r1 κ) j data_2) (slices_insertionSortCmpFunc_L4 a i r1' j data_2) := by
  unfold slices_insertionSortCmpFunc_L4
  exact LFix_ch (fun κ => (slices_insertionSortCmpFunc_L4_cn (r1 κ) a i).mono) (slices_insertionSortCmpFunc_L4_cn r1' a i).mono (fun g h hg x => slices_insertionSortCmpFunc_L4_B_ch r1 r1' h_r1 (fun κ j data_2 => g κ (j, data_2)) (fun j data_2 => h (j, data_2)) (fun j data_2 => hg (j, data_2)) a i x.1 x.2) _
theorem slices_insertionSortCmpFunc_L1_B_ch (r1 : Nat → Int → (List (Int × (List Int) × Unit)) → Option (List (Int × (List Int) × Unit))) (r1' : Int → (List (Int × (List Int) × Unit)) → Option (List (Int × (List Int) × Unit))) (h_r1 : ∀ a0 a1, ChO (fun κ => r1 κ a0 a1) (r1' a0 a1)) (a : Int) (b : Int) (i : Int) (data_1 : (List (Int × (List Int) × Unit))) : ChO (fun κ => slices_insertionSortCmpFunc_L1_B a b (r1 κ) i data_1) (slices_insertionSortCmpFunc_L1_B a b r1' i data_1) := by
  unfold slices_insertionSortCmpFunc_L1_B
  repeat' with_reducible first | exact ChO.const _ | exact h_r1 _ _ | (apply slices_insertionSortCmpFunc_J4_1_ch <;> assumption) | (apply slices_insertionSortCmpFunc_J4_ch <;> assumption) | (apply slices_insertionSortCmpFunc_L4_ch <;> assumption) | apply ChO.ite | apply ChO.G | apply ChO.both | (apply ChO.bind; intro _)
theorem slices_insertionSortCmpFunc_L1_cn  (a : Int) (b : Int) : Cn (slices_insertionSortCmpFunc_L1_F a b) := fun g h hg x => slices_insertionSortCmpFunc_L1_B_ch  (fun κ i data_1 => g κ (i, data_1)) (fun i data_1 => h (i, data_1)) (fun i data_1 => hg (i, data_1)) a b x.1 x.2
theorem slices_insertionSortCmpFunc_L1_eq  (a : Int) (b : Int) (i : Int) (data_1 : (List (Int × (List Int) × Unit))) : slices_insertionSortCmpFunc_L1 a b i data_1 = slices_insertionSortCmpFunc_L1_B a b (slices_insertionSortCmpFunc_L1 a b) i data_1 := LFix_eq (slices_insertionSortCmpFunc_L1_cn a b) (i, data_1)

noncomputable def slices_swapRangeCmpFunc_L1_B (a : Int) (b : Int) (n : Int) (r1 : Int → (List (Int × (List Int) × Unit)) → Option (List (Int × (List Int) × Unit))) (i : Int) (data_1 : (List (Int × (List Int) × Unit))) : Option (List (Int × (List Int) × Unit)) :=
  if (decide (i < n)) = true then
  G (fits (a + i)) (
  G (fits (b + i)) (
  G (fits (b + i)) (
  G (0 ≤ b + i ∧ b + i < (data_1.length : Int)) (
  G ((b + i).toNat < data_1.length) (
  G (fits (a + i)) (
  G (0 ≤ a + i ∧ a + i < (data_1.length : Int)) (
  G ((a + i).toNat < data_1.length) (
  G (0 ≤ a + i ∧ a + i < (data_1.length : Int)) (
  G ((a + i).toNat < data_1.length) (
  G (0 ≤ b + i ∧ b + i < ((data_1.set (a + i).toNat (ix data_1 (b + i))).length : Int)) (
  G ((b + i).toNat < (data_1.set (a + i).toNat (ix data_1 (b + i))).length) (
  G (fits (i + (1 : Int))) (
  r1 (i + (1 : Int)) ((data_1.set (a + i).toNat (ix data_1 (b + i))).set (b + i).toNat (ix data_1 (a + i)))))))))))))))) else
  some data_1
noncomputable def slices_swapRangeCmpFunc_L1_F (a : Int) (b : Int) (n : Int) : (Int × (List (Int × (List Int) × Unit)) → Option (List (Int × (List Int) × Unit))) → Int × (List (Int × (List Int) × Unit)) → Option (List (Int × (List Int) × Unit)) :=
  fun rec x => slices_swapRangeCmpFunc_L1_B a b n (fun i data_1 => rec (i, data_1)) x.1 x.2
noncomputable def slices_swapRangeCmpFunc_L1 (a : Int) (b : Int) (n : Int) (i : Int) (data_1 : (List (Int × (List Int) × Unit))) : Option (List (Int × (List Int) × Unit)) := LFix (slices_swapRangeCmpFunc_L1_F a b n ) (i, data_1)
noncomputable def slices_swapRangeCmpFunc (a : Int) (b : Int) (n : Int) (data : (List (Int × (List Int) × Unit))) : Option (List (Int × (List Int) × Unit)) :=
  slices_swapRangeCmpFunc_L1 a b n (0 : Int) data
theorem slices_swapRangeCmpFunc_L1_B_ch (r1 : Nat → Int → (List (Int × (List Int) × Unit)) → Option (List (Int × (List Int) × Unit))) (r1' : Int → (List (Int × (List Int) × Unit)) → Option (List (Int × (List Int) × Unit))) (h_r1 : ∀ a0 a1, ChO (fun κ => r1 κ a0 a1) (r1' a0 a1)) (a : Int) (b : Int) (n : Int) (i : Int) (data_1 : (List (Int × (List Int) × Unit))) : ChO (fun κ => slices_swapRangeCmpFunc_L1_B a b n (r1 κ) i data_1) (slices_swapRangeCmpFunc_L1_B a b n r1' i data_1) := by
  unfold slices_swapRangeCmpFunc_L1_B
  repeat' with_reducible first | exact ChO.const _ | exact h_r1 _ _ | apply ChO.ite | apply ChO.G | apply ChO.both | (apply ChO.bind; intro _)
theorem slices_swapRangeCmpFunc_L1_cn  (a : Int) (b : Int) (n : Int) : Cn (slices_swapRangeCmpFunc_L1_F a b n) := fun g h hg x => slices_swapRangeCmpFunc_L1_B_ch  (fun κ i data_1 => g κ (i, data_1)) (fun i data_1 => h (i, data_1)) (fun i data_1 => hg (i, data_1)) a b n x.1 x.2
theorem slices_swapRangeCmpFunc_L1_eq  (a : Int) (b : Int) (n : Int) (i : Int) (data_1 : (List (Int × (List Int) × Unit))) : slices_swapRangeCmpFunc_L1 a b n i data_1 = slices_swapRangeCmpFunc_L1_B a b n (slices_swapRangeCmpFunc_L1 a b n) i data_1 := LFix_eq (slices_swapRangeCmpFunc_L1_cn a b n) (i, data_1)

noncomputable def slices_rotateCmpFunc_L2_B (m : Int) (r2 : Int → Int → (List (Int × (List Int) × Unit)) → Option (List (Int × (List Int) × Unit))) (i : Int) (j : Int) (data_1 : (List (Int × (List Int) × Unit))) : Option (List (Int × (List Int) × Unit)) :=
  if (decide (¬ i = j)) = true then
  if (decide (j < i)) = true then
  G (fits (m - i)) (
  (slices_swapRangeCmpFunc (m - i) m j data_1).bind (fun y' =>
  G (fits (i - j)) (
  r2 (i - j) j y'))) else
  G (fits (m - i)) (
  G (fits (m + j)) (
  G (fits ((m + j) - i)) (
  (slices_swapRangeCmpFunc (m - i) ((m + j) - i) i data_1).bind (fun y'_1 =>
  G (fits (j - i)) (
  r2 i (j - i) y'_1))))) else
  G (fits (m - i)) (
  (slices_swapRangeCmpFunc (m - i) m i data_1).bind (fun y'_2 =>
  some y'_2))
noncomputable def slices_rotateCmpFunc_L2_F (m : Int) : (Int × Int × (List (Int × (List Int) × Unit)) → Option (List (Int × (List Int) × Unit))) → Int × Int × (List (Int × (List Int) × Unit)) → Option (List (Int × (List Int) × Unit)) :=
  fun rec x => slices_rotateCmpFunc_L2_B m (fun i j data_1 => rec (i, j, data_1)) x.1 x.2.1 x.2.2
noncomputable def slices_rotateCmpFunc_L2 (m : Int) (i : Int) (j : Int) (data_1 : (List (Int × (List Int) × Unit))) : Option (List (Int × (List Int) × Unit)) := LFix (slices_rotateCmpFunc_L2_F m ) (i, j, data_1)
noncomputable def slices_rotateCmpFunc (a : Int) (m : Int) (b : Int) (data : (List (Int × (List Int) × Unit))) : Option (List (Int × (List Int) × Unit)) :=
  G (fits (m - a)) (
  G (fits (b - m)) (
  slices_rotateCmpFunc_L2 m (m - a) (b - m) data))
theorem slices_rotateCmpFunc_L2_B_ch (r2 : Nat → Int → Int → (List (Int × (List Int) × Unit)) → Option (List (Int × (List Int) × Unit))) (r2' : Int → Int → (List (Int × (List Int) × Unit)) → Option (List (Int × (List Int) × Unit))) (h_r2 : ∀ a0 a1 a2, ChO (fun κ => r2 κ a0 a1 a2) (r2' a0 a1 a2)) (m : Int) (i : Int) (j : Int) (data_1 : (List (Int × (List Int) × Unit))) : ChO (fun κ => slices_rotateCmpFunc_L2_B m (r2 κ) i j data_1) (slices_rotateCmpFunc_L2_B m r2' i j data_1) := by
  unfold slices_rotateCmpFunc_L2_B
  repeat' with_reducible first | exact ChO.const _ | exact h_r2 _ _ _ | apply ChO.ite | apply ChO.G | apply ChO.both | (apply ChO.bind; intro _)
theorem slices_rotateCmpFunc_L2_cn  (m : Int) : Cn (slices_rotateCmpFunc_L2_F m) := fun g h hg x => slices_rotateCmpFunc_L2_B_ch  (fun κ i j data_1 => g κ (i, j, data_1)) (fun i j data_1 => h (i, j, data_1)) (fun i j data_1 => hg (i, j, data_1)) m x.1 x.2.1 x.2.2
theorem slices_rotateCmpFunc_L2_eq  (m : Int) (i : Int) (j : Int) (data_1 : (List (Int × (List Int) × Unit))) : slices_rotateCmpFunc_L2 m i j data_1 = slices_rotateCmpFunc_L2_B m (slices_rotateCmpFunc_L2 m) i j data_1 := LFix_eq (slices_rotateCmpFunc_L2_cn m) (i, j, data_1)

noncomputable def slices_symMergeCmpFunc_L9_B (i : Int) (r9 : Int → (List (Int × (List Int) × Unit)) → Option (List (Int × (List Int) × Unit))) (k : Int) (data_1 : (List (Int × (List Int) × Unit))) : Option (List (Int × (List Int) × Unit)) :=
  G (fits (i - (1 : Int))) (
  if (decide (k < (i - (1 : Int)))) = true then
  G (fits (k + (1 : Int))) (
  G (fits (k + (1 : Int))) (
  G (0 ≤ k + (1 : Int) ∧ k + (1 : Int) < (data_1.length : Int)) (
  G ((k + (1 : Int)).toNat < data_1.length) (
  G (0 ≤ k ∧ k < (data_1.length : Int)) (
  G ((k).toNat < data_1.length) (
  G (0 ≤ k ∧ k < (data_1.length : Int)) (
  G ((k).toNat < data_1.length) (
  G (0 ≤ k + (1 : Int) ∧ k + (1 : Int) < ((data_1.set (k).toNat (ix data_1 (k + (1 : Int)))).length : Int)) (
  G ((k + (1 : Int)).toNat < (data_1.set (k).toNat (ix data_1 (k + (1 : Int)))).length) (
  G (fits (k + (1 : Int))) (
  r9 (k + (1 : Int)) ((data_1.set (k).toNat (ix data_1 (k + (1 : Int)))).set (k + (1 : Int)).toNat (ix data_1 k))))))))))))) else
  some data_1)
noncomputable def slices_symMergeCmpFunc_L9_F (i : Int) : (Int × (List (Int × (List Int) × Unit)) → Option (List (Int × (List Int) × Unit))) → Int × (List (Int × (List Int) × Unit)) → Option (List (Int × (List Int) × Unit)) :=
  fun rec x => slices_symMergeCmpFunc_L9_B i (fun k data_1 => rec (k, data_1)) x.1 x.2
noncomputable def slices_symMergeCmpFunc_L9 (i : Int) (k : Int) (data_1 : (List (Int × (List Int) × Unit))) : Option (List (Int × (List Int) × Unit)) := LFix (slices_symMergeCmpFunc_L9_F i ) (k, data_1)
noncomputable def slices_symMergeCmpFunc_L3_B (a : Int) (data : (List (Int × (List Int) × Unit))) (r3 : Int → Int → Option (List (Int × (List Int) × Unit))) (i : Int) (j : Int) : Option (List (Int × (List Int) × Unit)) :=
  if (decide (i < j)) = true then
  G (fits (i + j)) (
  G (0 ≤ (1 : Int)) (
  G (0 ≤ IntKind.wrap .i64 (ishr .u64 (IntKind.wrap .u64 (i + j)) (1 : Int)) ∧ IntKind.wrap .i64 (ishr .u64 (IntKind.wrap .u64 (i + j)) (1 : Int)) < (data.length : Int)) (
  G ((IntKind.wrap .i64 (ishr .u64 (IntKind.wrap .u64 (i + j)) (1 : Int))).toNat < data.length) (
  G (0 ≤ a ∧ a < (data.length : Int)) (
  G ((a).toNat < data.length) (
  (code_Cheap_1 (ix data (IntKind.wrap .i64 (ishr .u64 (IntKind.wrap .u64 (i + j)) (1 : Int)))) (ix data a)).bind (fun y' =>
  if (decide (y' < (0 : Int))) = true then
  G (fits ((IntKind.wrap .i64 (ishr .u64 (IntKind.wrap .u64 (i + j)) (1 : Int))) + (1 : Int))) (
  r3 ((IntKind.wrap .i64 (ishr .u64 (IntKind.wrap .u64 (i + j)) (1 : Int))) + (1 : Int)) j) else
  r3 i (IntKind.wrap .i64 (ishr .u64 (IntKind.wrap .u64 (i + j)) (1 : Int)))))))))) else
  slices_symMergeCmpFunc_L9 i a data
noncomputable def slices_symMergeCmpFunc_L3_F (a : Int) (data : (List (Int × (List Int) × Unit))) : (Int × Int → Option (List (Int × (List Int) × Unit))) → Int × Int → Option (List (Int × (List Int) × Unit)) :=
  fun rec x => slices_symMergeCmpFunc_L3_B a data (fun i j => rec (i, j)) x.1 x.2
noncomputable def slices_symMergeCmpFunc_L3 (a : Int) (data : (List (Int × (List Int) × Unit))) (i : Int) (j : Int) : Option (List (Int × (List Int) × Unit)) := LFix (slices_symMergeCmpFunc_L3_F a data ) (i, j)
noncomputable def slices_symMergeCmpFunc_L21_B (i_1 : Int) (r21 : Int → (List (Int × (List Int) × Unit)) → Option (List (Int × (List Int) × Unit))) (k_1 : Int) (data_2 : (List (Int × (List Int) × Unit))) : Option (List (Int × (List Int) × Unit)) :=
  if (decide (i_1 < k_1)) = true then
  G (fits (k_1 - (1 : Int))) (
  G (fits (k_1 - (1 : Int))) (
  G (0 ≤ k_1 - (1 : Int) ∧ k_1 - (1 : Int) < (data_2.length : Int)) (
  G ((k_1 - (1 : Int)).toNat < data_2.length) (
  G (0 ≤ k_1 ∧ k_1 < (data_2.length : Int)) (
  G ((k_1).toNat < data_2.length) (
  G (0 ≤ k_1 ∧ k_1 < (data_2.length : Int)) (
  G ((k_1).toNat < data_2.length) (
  G (0 ≤ k_1 - (1 : Int) ∧ k_1 - (1 : Int) < ((data_2.set (k_1).toNat (ix data_2 (k_1 - (1 : Int)))).length : Int)) (
  G ((k_1 - (1 : Int)).toNat < (data_2.set (k_1).toNat (ix data_2 (k_1 - (1 : Int)))).length) (
  G (fits (k_1 - (1 : Int))) (
  r21 (k_1 - (1 : Int)) ((data_2.set (k_1).toNat (ix data_2 (k_1 - (1 : Int)))).set (k_1 - (1 : Int)).toNat (ix data_2 k_1))))))))))))) else
  some data_2
noncomputable def slices_symMergeCmpFunc_L21_F (i_1 : Int) : (Int × (List (Int × (List Int) × Unit)) → Option (List (Int × (List Int) × Unit))) → Int × (List (Int × (List Int) × Unit)) → Option (List (Int × (List Int) × Unit)) :=
  fun rec x => slices_symMergeCmpFunc_L21_B i_1 (fun k_1 data_2 => rec (k_1, data_2)) x.1 x.2
noncomputable def slices_symMergeCmpFunc_L21 (i_1 : Int) (k_1 : Int) (data_2 : (List (Int × (List Int) × Unit))) : Option (List (Int × (List Int) × Unit)) := LFix (slices_symMergeCmpFunc_L21_F i_1 ) (k_1, data_2)
noncomputable def slices_symMergeCmpFunc_L15_B (m : Int) (data : (List (Int × (List Int) × Unit))) (r15 : Int → Int → Option (List (Int × (List Int) × Unit))) (i_1 : Int) (j_1 : Int) : Option (List (Int × (List Int) × Unit)) :=
  if (decide (i_1 < j_1)) = true then
  G (fits (i_1 + j_1)) (
  G (0 ≤ (1 : Int)) (
  G (0 ≤ m ∧ m < (data.length : Int)) (
  G ((m).toNat < data.length) (
  G (0 ≤ IntKind.wrap .i64 (ishr .u64 (IntKind.wrap .u64 (i_1 + j_1)) (1 : Int)) ∧ IntKind.wrap .i64 (ishr .u64 (IntKind.wrap .u64 (i_1 + j_1)) (1 : Int)) < (data.length : Int)) (
  G ((IntKind.wrap .i64 (ishr .u64 (IntKind.wrap .u64 (i_1 + j_1)) (1 : Int))).toNat < data.length) (
  (code_Cheap_1 (ix data m) (ix data (IntKind.wrap .i64 (ishr .u64 (IntKind.wrap .u64 (i_1 + j_1)) (1 : Int))))).bind (fun y'_1 =>
  if (!(decide (y'_1 < (0 : Int)))) = true then
  G (fits ((IntKind.wrap .i64 (ishr .u64 (IntKind.wrap .u64 (i_1 + j_1)) (1 : Int))) + (1 : Int))) (
  r15 ((IntKind.wrap .i64 (ishr .u64 (IntKind.wrap .u64 (i_1 + j_1)) (1 : Int))) + (1 : Int)) j_1) else
  r15 i_1 (IntKind.wrap .i64 (ishr .u64 (IntKind.wrap .u64 (i_1 + j_1)) (1 : Int)))))))))) else
  slices_symMergeCmpFunc_L21 i_1 m data
noncomputable def slices_symMergeCmpFunc_L15_F (m : Int) (data : (List (Int × (List Int) × Unit))) : (Int × Int → Option (List (Int × (List Int) × Unit))) → Int × Int → Option (List (Int × (List Int) × Unit)) :=
  fun rec x => slices_symMergeCmpFunc_L15_B m data (fun i_1 j_1 => rec (i_1, j_1)) x.1 x.2
noncomputable def slices_symMergeCmpFunc_L15 (m : Int) (data : (List (Int × (List Int) × Unit))) (i_1 : Int) (j_1 : Int) : Option (List (Int × (List Int) × Unit)) := LFix (slices_symMergeCmpFunc_L15_F m data ) (i_1, j_1)
noncomputable def slices_symMergeCmpFunc_J43 (rc_slices_symMergeCmpFunc : Int → Int → Int → (List (Int × (List Int) × Unit)) → Option (List (Int × (List Int) × Unit))) (a : Int) (m : Int) (b : Int) (start_1 : Int) (data_4 : (List (Int × (List Int) × Unit))) (t_2 : Bool) : Option (List (Int × (List Int) × Unit)) :=
  if t_2 = true then
  (rc_slices_symMergeCmpFunc (IntKind.wrap .i64 (ishr .u64 (IntKind.wrap .u64 (a + b)) (1 : Int))) (((IntKind.wrap .i64 (ishr .u64 (IntKind.wrap .u64 (a + b)) (1 : Int))) + m) - start_1) b data_4).bind (fun y'_5 =>
  some y'_5) else
  some data_4
noncomputable def slices_symMergeCmpFunc_J42 (rc_slices_symMergeCmpFunc : Int → Int → Int → (List (Int × (List Int) × Unit)) → Option (List (Int × (List Int) × Unit))) (a : Int) (m : Int) (b : Int) (start_1 : Int) (data_4 : (List (Int × (List Int) × Unit))) : Option (List (Int × (List Int) × Unit)) :=
  if (decide ((IntKind.wrap .i64 (ishr .u64 (IntKind.wrap .u64 (a + b)) (1 : Int))) < (((IntKind.wrap .i64 (ishr .u64 (IntKind.wrap .u64 (a + b)) (1 : Int))) + m) - start_1))) = true then
  slices_symMergeCmpFunc_J43 rc_slices_symMergeCmpFunc a m b start_1 data_4 (decide ((((IntKind.wrap .i64 (ishr .u64 (IntKind.wrap .u64 (a + b)) (1 : Int))) + m) - start_1) < b)) else
  slices_symMergeCmpFunc_J43 rc_slices_symMergeCmpFunc a m b start_1 data_4 false
noncomputable def slices_symMergeCmpFunc_J41 (rc_slices_symMergeCmpFunc : Int → Int → Int → (List (Int × (List Int) × Unit)) → Option (List (Int × (List Int) × Unit))) (a : Int) (m : Int) (b : Int) (start_1 : Int) (data_3 : (List (Int × (List Int) × Unit))) (t_1 : Bool) : Option (List (Int × (List Int) × Unit)) :=
  if t_1 = true then
  (rc_slices_symMergeCmpFunc a start_1 (IntKind.wrap .i64 (ishr .u64 (IntKind.wrap .u64 (a + b)) (1 : Int))) data_3).bind (fun y'_4 =>
  slices_symMergeCmpFunc_J42 rc_slices_symMergeCmpFunc a m b start_1 y'_4) else
  slices_symMergeCmpFunc_J42 rc_slices_symMergeCmpFunc a m b start_1 data_3
noncomputable def slices_symMergeCmpFunc_J40 (rc_slices_symMergeCmpFunc : Int → Int → Int → (List (Int × (List Int) × Unit)) → Option (List (Int × (List Int) × Unit))) (a : Int) (m : Int) (b : Int) (start_1 : Int) (data_3 : (List (Int × (List Int) × Unit))) : Option (List (Int × (List Int) × Unit)) :=
  if (decide (a < start_1)) = true then
  slices_symMergeCmpFunc_J41 rc_slices_symMergeCmpFunc a m b start_1 data_3 (decide (start_1 < (IntKind.wrap .i64 (ishr .u64 (IntKind.wrap .u64 (a + b)) (1 : Int))))) else
  slices_symMergeCmpFunc_J41 rc_slices_symMergeCmpFunc a m b start_1 data_3 false
noncomputable def slices_symMergeCmpFunc_J39 (rc_slices_symMergeCmpFunc : Int → Int → Int → (List (Int × (List Int) × Unit)) → Option (List (Int × (List Int) × Unit))) (a : Int) (m : Int) (b : Int) (data : (List (Int × (List Int) × Unit))) (start_1 : Int) (t : Bool) : Option (List (Int × (List Int) × Unit)) :=
  if t = true then
  (slices_rotateCmpFunc start_1 m (((IntKind.wrap .i64 (ishr .u64 (IntKind.wrap .u64 (a + b)) (1 : Int))) + m) - start_1) data).bind (fun y'_3 =>
  slices_symMergeCmpFunc_J40 rc_slices_symMergeCmpFunc a m b start_1 y'_3) else
  slices_symMergeCmpFunc_J40 rc_slices_symMergeCmpFunc a m b start_1 data
noncomputable def slices_symMergeCmpFunc_L33_B (rc_slices_symMergeCmpFunc : Int → Int → Int → (List (Int × (List Int) × Unit)) → Option (List (Int × (List Int) × Unit))) (a : Int) (m : Int) (b : Int) (data : (List (Int × (List Int) × Unit))) (r33 : Int → Int → Option (List (Int × (List Int) × Unit))) (start_1 : Int) (r_1 : Int) : Option (List (Int × (List Int) × Unit)) :=
  if (decide (start_1 < r_1)) = true then
  G (fits (start_1 + r_1)) (
  G (0 ≤ (1 : Int)) (
  G (fits ((((IntKind.wrap .i64 (ishr .u64 (IntKind.wrap .u64 (a + b)) (1 : Int))) + m) - (1 : Int)) - (IntKind.wrap .i64 (ishr .u64 (IntKind.wrap .u64 (start_1 + r_1)) (1 : Int))))) (
  G (0 ≤ (((IntKind.wrap .i64 (ishr .u64 (IntKind.wrap .u64 (a + b)) (1 : Int))) + m) - (1 : Int)) - (IntKind.wrap .i64 (ishr .u64 (IntKind.wrap .u64 (start_1 + r_1)) (1 : Int))) ∧ (((IntKind.wrap .i64 (ishr .u64 (IntKind.wrap .u64 (a + b)) (1 : Int))) + m) - (1 : Int)) - (IntKind.wrap .i64 (ishr .u64 (IntKind.wrap .u64 (start_1 + r_1)) (1 : Int))) < (data.length : Int)) (
  G (((((IntKind.wrap .i64 (ishr .u64 (IntKind.wrap .u64 (a + b)) (1 : Int))) + m) - (1 : Int)) - (IntKind.wrap .i64 (ishr .u64 (IntKind.wrap .u64 (start_1 + r_1)) (1 : Int)))).toNat < data.length) (
  G (0 ≤ IntKind.wrap .i64 (ishr .u64 (IntKind.wrap .u64 (start_1 + r_1)) (1 : Int)) ∧ IntKind.wrap .i64 (ishr .u64 (IntKind.wrap .u64 (start_1 + r_1)) (1 : Int)) < (data.length : Int)) (
  G ((IntKind.wrap .i64 (ishr .u64 (IntKind.wrap .u64 (start_1 + r_1)) (1 : Int))).toNat < data.length) (
  (code_Cheap_1 (ix data ((((IntKind.wrap .i64 (ishr .u64 (IntKind.wrap .u64 (a + b)) (1 : Int))) + m) - (1 : Int)) - (IntKind.wrap .i64 (ishr .u64 (IntKind.wrap .u64 (start_1 + r_1)) (1 : Int))))) (ix data (IntKind.wrap .i64 (ishr .u64 (IntKind.wrap .u64 (start_1 + r_1)) (1 : Int))))).bind (fun y'_2 =>
  if (!(decide (y'_2 < (0 : Int)))) = true then
  G (fits ((IntKind.wrap .i64 (ishr .u64 (IntKind.wrap .u64 (start_1 + r_1)) (1 : Int))) + (1 : Int))) (
  r33 ((IntKind.wrap .i64 (ishr .u64 (IntKind.wrap .u64 (start_1 + r_1)) (1 : Int))) + (1 : Int)) r_1) else
  r33 start_1 (IntKind.wrap .i64 (ishr .u64 (IntKind.wrap .u64 (start_1 + r_1)) (1 : Int))))))))))) else
  G (fits (((IntKind.wrap .i64 (ishr .u64 (IntKind.wrap .u64 (a + b)) (1 : Int))) + m) - start_1)) (
  if (decide (start_1 < m)) = true then
  slices_symMergeCmpFunc_J39 rc_slices_symMergeCmpFunc a m b data start_1 (decide (m < (((IntKind.wrap .i64 (ishr .u64 (IntKind.wrap .u64 (a + b)) (1 : Int))) + m) - start_1))) else
  slices_symMergeCmpFunc_J39 rc_slices_symMergeCmpFunc a m b data start_1 false)
noncomputable def slices_symMergeCmpFunc_L33_F (rc_slices_symMergeCmpFunc : Int → Int → Int → (List (Int × (List Int) × Unit)) → Option (List (Int × (List Int) × Unit))) (a : Int) (m : Int) (b : Int) (data : (List (Int × (List Int) × Unit))) : (Int × Int → Option (List (Int × (List Int) × Unit))) → Int × Int → Option (List (Int × (List Int) × Unit)) :=
  fun rec x => slices_symMergeCmpFunc_L33_B rc_slices_symMergeCmpFunc a m b data (fun start_1 r_1 => rec (start_1, r_1)) x.1 x.2
noncomputable def slices_symMergeCmpFunc_L33 (rc_slices_symMergeCmpFunc : Int → Int → Int → (List (Int × (List Int) × Unit)) → Option (List (Int × (List Int) × Unit))) (a : Int) (m : Int) (b : Int) (data : (List (Int × (List Int) × Unit))) (start_1 : Int) (r_1 : Int) : Option (List (Int × (List Int) × Unit)) := LFix (slices_symMergeCmpFunc_L33_F rc_slices_symMergeCmpFunc a m b data ) (start_1, r_1)
noncomputable def slices_symMergeCmpFunc_J31 (rc_slices_symMergeCmpFunc : Int → Int → Int → (List (Int × (List Int) × Unit)) → Option (List (Int × (List Int) × Unit))) (a : Int) (m : Int) (b : Int) (data : (List (Int × (List Int) × Unit))) (start : Int) (r : Int) : Option (List (Int × (List Int) × Unit)) :=
  G (fits (((IntKind.wrap .i64 (ishr .u64 (IntKind.wrap .u64 (a + b)) (1 : Int))) + m) - (1 : Int))) (
  slices_symMergeCmpFunc_L33 rc_slices_symMergeCmpFunc a m b data start r)
noncomputable def slices_symMergeCmpFunc_B (rc_slices_symMergeCmpFunc : Int → Int → Int → (List (Int × (List Int) × Unit)) → Option (List (Int × (List Int) × Unit))) (a : Int) (m : Int) (b : Int) (data : (List (Int × (List Int) × Unit))) : Option (List (Int × (List Int) × Unit)) :=
  G (fits (m - a)) (
  if (decide ((m - a) = (1 : Int))) = true then
  slices_symMergeCmpFunc_L3 a data m b else
  G (fits (b - m)) (
  if (decide ((b - m) = (1 : Int))) = true then
  slices_symMergeCmpFunc_L15 m data a m else
  G (fits (a + b)) (
  G (0 ≤ (1 : Int)) (
  G (fits ((IntKind.wrap .i64 (ishr .u64 (IntKind.wrap .u64 (a + b)) (1 : Int))) + m)) (
  if (decide ((IntKind.wrap .i64 (ishr .u64 (IntKind.wrap .u64 (a + b)) (1 : Int))) < m)) = true then
  G (fits (((IntKind.wrap .i64 (ishr .u64 (IntKind.wrap .u64 (a + b)) (1 : Int))) + m) - b)) (
  slices_symMergeCmpFunc_J31 rc_slices_symMergeCmpFunc a m b data (((IntKind.wrap .i64 (ishr .u64 (IntKind.wrap .u64 (a + b)) (1 : Int))) + m) - b) (IntKind.wrap .i64 (ishr .u64 (IntKind.wrap .u64 (a + b)) (1 : Int)))) else
  slices_symMergeCmpFunc_J31 rc_slices_symMergeCmpFunc a m b data a m)))))
theorem slices_symMergeCmpFunc_L9_B_ch (r9 : Nat → Int → (List (Int × (List Int) × Unit)) → Option (List (Int × (List Int) × Unit))) (r9' : Int → (List (Int × (List Int) × Unit)) → Option (List (Int × (List Int) × Unit))) (h_r9 : ∀ a0 a1, ChO (fun κ => r9 κ a0 a1) (r9' a0 a1)) (i : Int) (k : Int) (data_1 : (List (Int × (List Int) × Unit))) : ChO (fun κ => slices_symMergeCmpFunc_L9_B i (r9 κ) k data_1) (slices_symMergeCmpFunc_L9_B i r9' k data_1) := by
  unfold slices_symMergeCmpFunc_L9_B
  repeat' with_reducible first | exact ChO.const _ | exact h_r9 _ _ | apply ChO.ite | apply ChO.G | apply ChO.both | (apply ChO.bind; intro _)
theorem slices_symMergeCmpFunc_L9_cn  (i : Int) : Cn (slices_symMergeCmpFunc_L9_F i) := fun g h hg x => slices_symMergeCmpFunc_L9_B_ch  (fun κ k data_1 => g κ (k, data_1)) (fun k data_1 => h (k, data_1)) (fun k data_1 => hg (k, data_1)) i x.1 x.2
theorem slices_symMergeCmpFunc_L9_eq  (i : Int) (k : Int) (data_1 : (List (Int × (List Int) × Unit))) : slices_symMergeCmpFunc_L9 i k data_1 = slices_symMergeCmpFunc_L9_B i (slices_symMergeCmpFunc_L9 i) k data_1 := LFix_eq (slices_symMergeCmpFunc_L9_cn i) (k, data_1)
theorem slices_symMergeCmpFunc_L3_B_ch (r3 : Nat → Int → Int → Option (List (Int × (List Int) × Unit))) (r3' : Int → Int → Option (List (Int × (List Int) × Unit))) (h_r3 : ∀ a0 a1, ChO (fun κ => r3 κ a0 a1) (r3' a0 a1)) (a : Int) (data : (List (Int × (List Int) × Unit))) (i : Int) (j : Int) : ChO (fun κ => slices_symMergeCmpFunc_L3_B a data (r3 κ) i j) (slices_symMergeCmpFunc_L3_B a data r3' i j) := by
  unfold slices_symMergeCmpFunc_L3_B
  repeat' with_reducible first | exact ChO.const _ | exact h_r3 _ _ | apply ChO.ite | apply ChO.G | apply ChO.both | (apply ChO.bind; intro _)
theorem slices_symMergeCmpFunc_L3_cn  (a : Int) (data : (List (Int × (List Int) × Unit))) : Cn (slices_symMergeCmpFunc_L3_F a data) := fun g h hg x => slices_symMergeCmpFunc_L3_B_ch  (fun κ i j => g κ (i, j)) (fun i j => h (i, j)) (fun i j => hg (i, j)) a data x.1 x.2
theorem slices_symMergeCmpFunc_L3_eq  (a : Int) (data : (List (Int × (List Int) × Unit))) (i : Int) (j : Int) : slices_symMergeCmpFunc_L3 a data i j = slices_symMergeCmpFunc_L3_B a data (slices_symMergeCmpFunc_L3 a data) i j := LFix_eq (slices_symMergeCmpFunc_L3_cn a data) (i, j)
theorem slices_symMergeCmpFunc_L21_B_ch (r21 : Nat → Int → (List (Int × (List Int) × Unit)) → Option (List (Int × (List Int) × Unit))) (r21' : Int → (List (Int × (List Int) × Unit)) → Option (List (Int × (List Int) × Unit))) (h_r21 : ∀ a0 a1, ChO (fun κ => r21 κ a0 a1) (r21' a0 a1)) (i_1 : Int) (k_1 : Int) (data_2 : (List (Int × (List Int) × Unit))) : ChO (fun κ => slices_symMergeCmpFunc_L21_B i_1 (r21 κ) k_1 data_2) (slices_symMergeCmpFunc_L21_B i_1 r21' k_1 data_2) := by
  unfold slices_symMergeCmpFunc_L21_B
  repeat' with_reducible first | exact ChO.const _ | exact h_r21 _ _ | apply ChO.ite | apply ChO.G | apply ChO.both | (apply ChO.bind; intro _)
theorem slices_symMergeCmpFunc_L21_cn  (i_1 : Int) : Cn (slices_symMergeCmpFunc_L21_F i_1) := fun g h hg x => slices_symMergeCmpFunc_L21_B_ch  (fun κ k_1 data_2 => g κ (k_1, data_2)) (fun k_1 data_2 => h (k_1, data_2)) (fun k_1 data_2 => hg (k_1, data_2)) i_1 x.1 x.2
theorem slices_symMergeCmpFunc_L21_eq  (i_1 : Int) (k_1 : Int) (data_2 : (List (Int × (List Int) × Unit))) : slices_symMergeCmpFunc_L21 i_1 k_1 data_2 = slices_symMergeCmpFunc_L21_B i_1 (slices_symMergeCmpFunc_L21 i_1) k_1 data_2 := LFix_eq (slices_symMergeCmpFunc_L21_cn i_1) (k_1, data_2)
theorem slices_symMergeCmpFunc_L15_B_ch (r15 : Nat → Int → Int → Option (List (Int × (List Int) × Unit))) (r15' : Int → Int → Option (List (Int × (List Int) × Unit))) (h_r15 : ∀ a0 a1, ChO (fun κ => r15 κ a0 a1) (r15' a0 a1)) (m : Int) (data : (List (Int × (List Int) × Unit))) (i_1 : Int) (j_1 : Int) : ChO (fun κ => slices_symMergeCmpFunc_L15_B m data (r15 κ) i_1 j_1) (slices_symMergeCmpFunc_L15_B m data r15' i_1 j_1) := by
  unfold slices_symMergeCmpFunc_L15_B
  repeat' with_reducible first | exact ChO.const _ | exact h_r15 _ _ | apply ChO.ite | apply ChO.G | apply ChO.both | (apply ChO.bind; intro _)
theorem slices_symMergeCmpFunc_L15_cn  (m : Int) (data : (List (Int × (List Int) × Unit))) : Cn (slices_symMergeCmpFunc_L15_F m data) := fun g h hg x => slices_symMergeCmpFunc_L15_B_ch  (fun κ i_1 j_1 => g κ (i_1, j_1)) (fun i_1 j_1 => h (i_1, j_1)) (fun i_1 j_1 => hg (i_1, j_1)) m data x.1 x.2
theorem slices_symMergeCmpFunc_L15_eq  (m : Int) (data : (List (Int × (List Int) × Unit))) (i_1 : Int) (j_1 : Int) : slices_symMergeCmpFunc_L15 m data i_1 j_1 = slices_symMergeCmpFunc_L15_B m data (slices_symMergeCmpFunc_L15 m data) i_1 j_1 := LFix_eq (slices_symMergeCmpFunc_L15_cn m data) (i_1, j_1)
theorem slices_symMergeCmpFunc_J43_ch (rc_slices_symMergeCmpFunc : Nat → Int → Int → Int → (List (Int × (List Int) × Unit)) → Option (List (Int × (List Int) × Unit))) (rc_slices_symMergeCmpFunc' : Int → Int → Int → (List (Int × (List Int) × Unit)) → Option (List (Int × (List Int) × Unit))) (h_rc_slices_symMergeCmpFunc : ∀ a0 a1 a2 a3, ChO (fun κ => rc_slices_symMergeCmpFunc κ a0 a1 a2 a3) (rc_slices_symMergeCmpFunc' a0 a1 a2 a3)) (a : Int) (m : Int) (b : Int) (start_1 : Int) (data_4 : (List (Int × (List Int) × Unit))) (t_2 : Bool) : ChO (fun κ => slices_symMergeCmpFunc_J43 (rc_slices_symMergeCmpFunc κ) a m b start_1 data_4 t_2) (slices_symMergeCmpFunc_J43 rc_slices_symMergeCmpFunc' a m b start_1 data_4 t_2) := by
  unfold slices_symMergeCmpFunc_J43
  repeat' with_reducible first | exact ChO.const _ | exact h_rc_slices_symMergeCmpFunc _ _ _ _ | apply ChO.ite | apply ChO.G | apply ChO.both | (apply ChO.bind; intro _) | (apply ChO.bind2 (h_rc_slices_symMergeCmpFunc _ _ _ _); intro _)
theorem slices_symMergeCmpFunc_J42_ch (rc_slices_symMergeCmpFunc : Nat → Int → Int → Int → (List (Int × (List Int) × Unit)) → Option (List (Int × (List Int) × Unit))) (rc_slices_symMergeCmpFunc' : Int → Int → Int → (List (Int × (List Int) × Unit)) → Option (List (Int × (List Int) × Unit))) (h_rc_slices_symMergeCmpFunc : ∀ a0 a1 a2 a3, ChO (fun κ => rc_slices_symMergeCmpFunc κ a0 a1 a2 a3) (rc_slices_symMergeCmpFunc' a0 a1 a2 a3)) (a : Int) (m : Int) (b : Int) (start_1 : Int) (data_4 : (List (Int × (List Int) × Unit))) : ChO (fun κ => slices_symMergeCmpFunc_J42 (rc_slices_symMergeCmpFunc κ) a m b start_1 data_4) (slices_symMergeCmpFunc_J42 rc_slices_symMergeCmpFunc' a m b start_1 data_4) := by
  unfold slices_symMergeCmpFunc_J42
  repeat' with_reducible first | exact ChO.const _ | exact h_rc_slices_symMergeCmpFunc _ _ _ _ | (apply slices_symMergeCmpFunc_J43_ch <;> assumption) | apply ChO.ite | apply ChO.G | apply ChO.both | (apply ChO.bind; intro _) | (apply ChO.bind2 (h_rc_slices_symMergeCmpFunc _ _ _ _); intro _)
theorem slices_symMergeCmpFunc_J41_ch (rc_slices_symMergeCmpFunc : Nat → Int → Int → Int → (List (Int × (List Int) × Unit)) → Option (List (Int × (List Int) × Unit))) (rc_slices_symMergeCmpFunc' : Int → Int → Int → (List (Int × (List Int) × Unit)) → Option (List (Int × (List Int) × Unit))) (h_rc_slices_symMergeCmpFunc : ∀ a0 a1 a2 a3, ChO (fun κ => rc_slices_symMergeCmpFunc κ a0 a1 a2 a3) (rc_slices_symMergeCmpFunc' a0 a1 a2 a3)) (a : Int) (m : Int) (b : Int) (start_1 : Int) (data_3 : (List (Int × (List Int) × Unit))) (t_1 : Bool) : ChO (fun κ => slices_symMergeCmpFunc_J41 (rc_slices_symMergeCmpFunc κ) a m b start_1 data_3 t_1) (slices_symMergeCmpFunc_J41 rc_slices_symMergeCmpFunc' a m b start_1 data_3 t_1) := by
  unfold slices_symMergeCmpFunc_J41
  repeat' with_reducible first | exact ChO.const _ | exact h_rc_slices_symMergeCmpFunc _ _ _ _ | (apply slices_symMergeCmpFunc_J43_ch <;> assumption) | (apply slices_symMergeCmpFunc_J42_ch <;> assumption) | apply ChO.ite | apply ChO.G | apply ChO.both | (apply ChO.bind; intro _) | (apply ChO.bind2 (h_rc_slices_symMergeCmpFunc _ _ _ _); intro _)
theorem slices_symMergeCmpFunc_J40_ch (rc_slices_symMergeCmpFunc : Nat → Int → Int → Int → (List (Int × (List Int) × Unit)) → Option (List (Int × (List Int) × Unit))) (rc_slices_symMergeCmpFunc' : Int → Int → Int → (List (Int × (List Int) × Unit)) → Option (List (Int × (List Int) × Unit))) (h_rc_slices_symMergeCmpFunc : ∀ a0 a1 a2 a3, ChO (fun κ => rc_slices_symMergeCmpFunc κ a0 a1 a2 a3) (rc_slices_symMergeCmpFunc' a0 a1 a2 a3)) (a : Int) (m : Int) (b : Int) (start_1 : Int) (data_3 : (List (Int × (List Int) × Unit))) : ChO (fun κ => slices_symMergeCmpFunc_J40 (rc_slices_symMergeCmpFunc κ) a m b start_1 data_3) (slices_symMergeCmpFunc_J40 rc_slices_symMergeCmpFunc' a m b start_1 data_3) := by
  unfold slices_symMergeCmpFunc_J40
  repeat' with_reducible first | exact ChO.const _ | exact h_rc_slices_symMergeCmpFunc _ _ _ _ | (apply slices_symMergeCmpFunc_J43_ch <;> assumption) | (apply slices_symMergeCmpFunc_J42_ch <;> assumption) | (apply slices_symMergeCmpFunc_J41_ch <;> assumption) | apply ChO.ite | apply ChO.G | apply ChO.both | (apply ChO.bind; intro _) | (apply ChO.bind2 (h_rc_slices_symMergeCmpFunc _ _ _ _); intro _)
theorem slices_symMergeCmpFunc_J39_ch (rc_slices_symMergeCmpFunc : Nat → Int → Int → Int → (List (Int × (List Int) × Unit)) → Option (List (Int × (List Int) × Unit))) (rc_slices_symMergeCmpFunc' : Int → Int → Int → (List (Int × (List Int) × Unit)) → Option (List (Int × (List Int) × Unit))) (h_rc_slices_symMergeCmpFunc : ∀ a0 a1 a2 a3, ChO (fun κ => rc_slices_symMergeCmpFunc κ a0 a1 a2 a3) (rc_slices_symMergeCmpFunc' a0 a1 a2 a3)) (a : Int) (m : Int) (b : Int) (data : (List (Int × (List Int) × Unit))) (start_1 : Int) (t : Bool) : ChO (fun κ => slices_symMergeCmpFunc_J39 (rc_slices_symMergeCmpFunc κ) a m b data start_1 t) (slices_symMergeCmpFunc_J39 rc_slices_symMergeCmpFunc' a m b data start_1 t) := by
  unfold slices_symMergeCmpFunc_J39
  repeat' with_reducible first | exact ChO.const _ | exact h_rc_slices_symMergeCmpFunc _ _ _ _ | (apply slices_symMergeCmpFunc_J43_ch <;> assumption) | (apply slices_symMergeCmpFunc_J42_ch <;> assumption) | (apply slices_symMergeCmpFunc_J41_ch <;> assumption) | (apply slices_symMergeCmpFunc_J40_ch <;> assumption) | apply ChO.ite | apply ChO.G | apply ChO.both | (apply ChO.bind; intro _) | (apply ChO.bind2 (h_rc_slices_symMergeCmpFunc _ _ _ _); intro _)
theorem slices_symMergeCmpFunc_L33_B_ch (rc_slices_symMergeCmpFunc : Nat → Int → Int → Int → (List (Int × (List Int) × Unit)) → Option (List (Int × (List Int) × Unit))) (rc_slices_symMergeCmpFunc' : Int → Int → Int → (List (Int × (List Int) × Unit)) → Option (List (Int × (List Int) × Unit))) (h_rc_slices_symMergeCmpFunc : ∀ a0 a1 a2 a3, ChO (fun κ => rc_slices_symMergeCmpFunc κ a0 a1 a2 a3) (rc_slices_symMergeCmpFunc' a0 a1 a2 a3)) (r33 : Nat → Int → Int → Option (List (Int × (List Int) × Unit))) (r33' : Int → Int → Option (List (Int × (List Int) × Unit))) (h_r33 : ∀ a0 a1, ChO (fun κ => r33 κ a0 a1) (r33' a0 a1)) (a : Int) (m : Int) (b : Int) (data : (List (Int × (List Int) × Unit))) (start_1 : Int) (r_1 : Int) : ChO (fun κ => slices_symMergeCmpFunc_L33_B (rc_slices_symMergeCmpFunc κ) a m b data (r33 κ) start_1 r_1) (slices_symMergeCmpFunc_L33_B rc_slices_symMergeCmpFunc' a m b data r33' start_1 r_1) := by
  unfold slices_symMergeCmpFunc_L33_B
  repeat' with_reducible first | exact ChO.const _ | exact h_rc_slices_symMergeCmpFunc _ _ _ _ | exact h_r33 _ _ | (apply slices_symMergeCmpFunc_J43_ch <;> assumption) | (apply slices_symMergeCmpFunc_J42_ch <;> assumption) | (apply slices_symMergeCmpFunc_J41_ch <;> assumption) | (apply slices_symMergeCmpFunc_J40_ch <;> assumption) | (apply slices_symMergeCmpFunc_J39_ch <;> assumption) | apply ChO.ite | apply ChO.G | apply ChO.both | (apply ChO.bind; intro _) | (apply ChO.bind2 (h_rc_slices_symMergeCmpFunc _ _ _ _); intro _)
theorem slices_symMergeCmpFunc_L33_cn (rc_slices_symMergeCmpFunc : Int → Int → Int → (List (Int × (List Int) × Unit)) → Option (List (Int × (List Int) × Unit))) (a : Int) (m : Int) (b : Int) (data : (List (Int × (List Int) × Unit))) : Cn (slices_symMergeCmpFunc_L33_F rc_slices_symMergeCmpFunc a m b data) := fun g h hg x => slices_symMergeCmpFunc_L33_B_ch (fun _ => rc_slices_symMergeCmpFunc) rc_slices_symMergeCmpFunc (fun _ _ _ _ => ChO.const _) (fun κ start_1 r_1 => g κ (start_1, r_1)) (fun start_1 r_1 => h (start_1, r_1)) (fun start_1 r_1 => hg (start_1, r_1)) a m b data x.1 x.2
theorem slices_symMergeCmpFunc_L33_eq (rc_slices_symMergeCmpFunc : Int → Int → Int → (List (Int × (List Int) × Unit)) → Option (List (Int × (List Int) × Unit))) (a : Int) (m : Int) (b : Int) (data : (List (Int × (List Int) × Unit))) (start_1 : Int) (r_1 : Int) : slices_symMergeCmpFunc_L33 rc_slices_symMergeCmpFunc a m b data start_1 r_1 = slices_symMergeCmpFunc_L33_B rc_slices_symMergeCmpFunc a m b data (slices_symMergeCmpFunc_L33 rc_slices_symMergeCmpFunc a m b data) start_1 r_1 := LFix_eq (slices_symMergeCmpFunc_L33_cn rc_slices_symMergeCmpFunc a m b data) (start_1, r_1)
theorem slices_symMergeCmpFunc_L33_ch (rc_slices_symMergeCmpFunc : Nat → Int → Int → Int → (List (Int × (List Int) × Unit)) → Option (List (Int × (List Int) × Unit))) (rc_slices_symMergeCmpFunc' : Int → Int → Int → (List (Int × (List Int) × Unit)) → Option (List (Int × (List Int) × Unit))) (h_rc_slices_symMergeCmpFunc : ∀ a0 a1 a2 a3, ChO (fun κ => rc_slices_symMergeCmpFunc κ a0 a1 a2 a3) (rc_slices_symMergeCmpFunc' a0 a1 a2 a3)) (a : Int) (m : Int) (b : Int) (data : (List (Int × (List Int) × Unit))) (start_1 : Int) (r_1 : Int) : ChO (fun κ => slices_symMergeCmpFunc_L33 (rc_slices_symMergeCmpFunc κ) a m b data start_1 r_1) (slices_symMergeCmpFunc_L33 rc_slices_symMergeCmpFunc' a m b data start_1 r_1) := by
  unfold slices_symMergeCmpFunc_L33
  exact LFix_ch (fun κ => (slices_symMergeCmpFunc_L33_cn (rc_slices_symMergeCmpFunc κ) a m b data).mono) (slices_symMergeCmpFunc_L33_cn rc_slices_symMergeCmpFunc' a m b data).mono (fun g h hg x => slices_symMergeCmpFunc_L33_B_ch rc_slices_symMergeCmpFunc rc_slices_symMergeCmpFunc' h_rc_slices_symMergeCmpFunc (fun κ start_1 r_1 => g κ (start_1, r_1)) (fun start_1 r_1 => h (start_1, r_1)) (fun start_1 r_1 => hg (start_1, r_1)) a m b data x.1 x.2) _
theorem slices_symMergeCmpFunc_J31_ch (rc_slices_symMergeCmpFunc : Nat → Int → Int → Int → (List (Int × (List Int) × Unit)) → Option (List (Int × (List Int) × Unit))) (rc_slices_symMergeCmpFunc' : Int → Int → Int → (List (Int × (List Int) × Unit)) → Option (List (Int × (List Int) × Unit))) (h_rc_slices_symMergeCmpFunc : ∀ a0 a1 a2 a3, ChO (fun κ => rc_slices_symMergeCmpFunc κ a0 a1 a2 a3) (rc_slices_symMergeCmpFunc' a0 a1 a2 a3)) (a : Int) (m : Int) (b : Int) (data : (List (Int × (List Int) × Unit))) (start : Int) (r : Int) : ChO (fun κ => slices_symMergeCmpFunc_J31 (rc_slices_symMergeCmpFunc κ) a m b data start r) (slices_symMergeCmpFunc_J31 rc_slices_symMergeCmpFunc' a m b data start r) := by
  unfold slices_symMergeCmpFunc_J31
  repeat' with_reducible first | exact ChO.const _ | exact h_rc_slices_symMergeCmpFunc _ _ _ _ | (apply slices_symMergeCmpFunc_J43_ch <;> assumption) | (apply slices_symMergeCmpFunc_J42_ch <;> assumption) | (apply slices_symMergeCmpFunc_J41_ch <;> assumption) | (apply slices_symMergeCmpFunc_J40_ch <;> assumption) | (apply slices_symMergeCmpFunc_J39_ch <;> assumption) | (apply slices_symMergeCmpFunc_L33_ch <;> assumption) | apply ChO.ite | apply ChO.G | apply ChO.both | (apply ChO.bind; intro _) | (apply ChO.bind2 (h_rc_slices_symMergeCmpFunc _ _ _ _); intro _)
theorem slices_symMergeCmpFunc_B_ch (rc_slices_symMergeCmpFunc : Nat → Int → Int → Int → (List (Int × (List Int) × Unit)) → Option (List (Int × (List Int) × Unit))) (rc_slices_symMergeCmpFunc' : Int → Int → Int → (List (Int × (List Int) × Unit)) → Option (List (Int × (List Int) × Unit))) (h_rc_slices_symMergeCmpFunc : ∀ a0 a1 a2 a3, ChO (fun κ => rc_slices_symMergeCmpFunc κ a0 a1 a2 a3) (rc_slices_symMergeCmpFunc' a0 a1 a2 a3)) (a : Int) (m : Int) (b : Int) (data : (List (Int × (List Int) × Unit))) : ChO (fun κ => slices_symMergeCmpFunc_B (rc_slices_symMergeCmpFunc κ) a m b data) (slices_symMergeCmpFunc_B rc_slices_symMergeCmpFunc' a m b data) := by
  unfold slices_symMergeCmpFunc_B
  repeat' with_reducible first | exact ChO.const _ | exact h_rc_slices_symMergeCmpFunc _ _ _ _ | (apply slices_symMergeCmpFunc_J43_ch <;> assumption) | (apply slices_symMergeCmpFunc_J42_ch <;> assumption) | (apply slices_symMergeCmpFunc_J41_ch <;> assumption) | (apply slices_symMergeCmpFunc_J40_ch <;> assumption) | (apply slices_symMergeCmpFunc_J39_ch <;> assumption) | (apply slices_symMergeCmpFunc_L33_ch <;> assumption) | (apply slices_symMergeCmpFunc_J31_ch <;> assumption) | apply ChO.ite | apply ChO.G | apply ChO.both | (apply ChO.bind; intro _) | (apply ChO.bind2 (h_rc_slices_symMergeCmpFunc _ _ _ _); intro _)
noncomputable def slices_symMergeCmpFunc_F : (Int × Int × Int × (List (Int × (List Int) × Unit)) → Option (List (Int × (List Int) × Unit))) → Int × Int × Int × (List (Int × (List Int) × Unit)) → Option (List (Int × (List Int) × Unit)) :=
  fun rec X => slices_symMergeCmpFunc_B (fun a m b data => rec (a, m, b, data)) X.1 X.2.1 X.2.2.1 X.2.2.2
noncomputable def slices_symMergeCmpFunc (a : Int) (m : Int) (b : Int) (data : (List (Int × (List Int) × Unit))) : Option (List (Int × (List Int) × Unit)) := LFix slices_symMergeCmpFunc_F (a, m, b, data)
theorem slices_symMergeCmpFunc_cn : Cn slices_symMergeCmpFunc_F := fun g h hg X => slices_symMergeCmpFunc_B_ch _ _ (fun a m b data => hg (a, m, b, data)) X.1 X.2.1 X.2.2.1 X.2.2.2
theorem slices_symMergeCmpFunc_eq (a : Int) (m : Int) (b : Int) (data : (List (Int × (List Int) × Unit))) : slices_symMergeCmpFunc a m b data = slices_symMergeCmpFunc_B slices_symMergeCmpFunc a m b data := LFix_eq slices_symMergeCmpFunc_cn (a, m, b, data)

noncomputable def slices_stableCmpFunc_L9_B (n : Int) (blockSize : Int) (r7 : (Int → (List (Int × (List Int) × Unit)) → Option (List (Int × (List Int) × Unit)))) (r9 : Int → Int → (List (Int × (List Int) × Unit)) → Option (List (Int × (List Int) × Unit))) (a_1 : Int) (b_1 : Int) (data_3 : (List (Int × (List Int) × Unit))) : Option (List (Int × (List Int) × Unit)) :=
  if (decide (b_1 ≤ n)) = true then
  G (fits (a_1 + blockSize)) (
  (slices_symMergeCmpFunc a_1 (a_1 + blockSize) b_1 data_3).bind (fun y'_2 =>
  G (fits ((2 : Int) * blockSize)) (
  G (fits (b_1 + ((2 : Int) * blockSize))) (
  r9 b_1 (b_1 + ((2 : Int) * blockSize)) y'_2)))) else
  G (fits (a_1 + blockSize)) (
  if (decide ((a_1 + blockSize) < n)) = true then
  (slices_symMergeCmpFunc a_1 (a_1 + blockSize) n data_3).bind (fun y'_3 =>
  G (fits (blockSize * (2 : Int))) (
  r7 (blockSize * (2 : Int)) y'_3)) else
  G (fits (blockSize * (2 : Int))) (
  r7 (blockSize * (2 : Int)) data_3))
noncomputable def slices_stableCmpFunc_L9_F (n : Int) (blockSize : Int) (r7 : (Int → (List (Int × (List Int) × Unit)) → Option (List (Int × (List Int) × Unit)))) : (Int × Int × (List (Int × (List Int) × Unit)) → Option (List (Int × (List Int) × Unit))) → Int × Int × (List (Int × (List Int) × Unit)) → Option (List (Int × (List Int) × Unit)) :=
  fun rec x => slices_stableCmpFunc_L9_B n blockSize r7 (fun a_1 b_1 data_3 => rec (a_1, b_1, data_3)) x.1 x.2.1 x.2.2
noncomputable def slices_stableCmpFunc_L9 (n : Int) (blockSize : Int) (r7 : (Int → (List (Int × (List Int) × Unit)) → Option (List (Int × (List Int) × Unit)))) (a_1 : Int) (b_1 : Int) (data_3 : (List (Int × (List Int) × Unit))) : Option (List (Int × (List Int) × Unit)) := LFix (slices_stableCmpFunc_L9_F n blockSize r7 ) (a_1, b_1, data_3)
noncomputable def slices_stableCmpFunc_L7_B (n : Int) (r7 : Int → (List (Int × (List Int) × Unit)) → Option (List (Int × (List Int) × Unit))) (blockSize : Int) (data_2 : (List (Int × (List Int) × Unit))) : Option (List (Int × (List Int) × Unit)) :=
  if (decide (blockSize < n)) = true then
  G (fits ((2 : Int) * blockSize)) (
  slices_stableCmpFunc_L9 n blockSize r7 (0 : Int) ((2 : Int) * blockSize) data_2) else
  some data_2
noncomputable def slices_stableCmpFunc_L7_F (n : Int) : (Int × (List (Int × (List Int) × Unit)) → Option (List (Int × (List Int) × Unit))) → Int × (List (Int × (List Int) × Unit)) → Option (List (Int × (List Int) × Unit)) :=
  fun rec x => slices_stableCmpFunc_L7_B n (fun blockSize data_2 => rec (blockSize, data_2)) x.1 x.2
noncomputable def slices_stableCmpFunc_L7 (n : Int) (blockSize : Int) (data_2 : (List (Int × (List Int) × Unit))) : Option (List (Int × (List Int) × Unit)) := LFix (slices_stableCmpFunc_L7_F n ) (blockSize, data_2)
noncomputable def slices_stableCmpFunc_L2_B (n : Int) (r2 : Int → Int → (List (Int × (List Int) × Unit)) → Option (List (Int × (List Int) × Unit))) (a : Int) (b : Int) (data_1 : (List (Int × (List Int) × Unit))) : Option (List (Int × (List Int) × Unit)) :=
  if (decide (b ≤ n)) = true then
  (slices_insertionSortCmpFunc a b data_1).bind (fun y' =>
  G (fits (b + (20 : Int))) (
  r2 b (b + (20 : Int)) y')) else
  (slices_insertionSortCmpFunc a n data_1).bind (fun y'_1 =>
  slices_stableCmpFunc_L7 n (20 : Int) y'_1)
noncomputable def slices_stableCmpFunc_L2_F (n : Int) : (Int × Int × (List (Int × (List Int) × Unit)) → Option (List (Int × (List Int) × Unit))) → Int × Int × (List (Int × (List Int) × Unit)) → Option (List (Int × (List Int) × Unit)) :=
  fun rec x => slices_stableCmpFunc_L2_B n (fun a b data_1 => rec (a, b, data_1)) x.1 x.2.1 x.2.2
noncomputable def slices_stableCmpFunc_L2 (n : Int) (a : Int) (b : Int) (data_1 : (List (Int × (List Int) × Unit))) : Option (List (Int × (List Int) × Unit)) := LFix (slices_stableCmpFunc_L2_F n ) (a, b, data_1)
noncomputable def slices_stableCmpFunc (n : Int) (data : (List (Int × (List Int) × Unit))) : Option (List (Int × (List Int) × Unit)) :=
  slices_stableCmpFunc_L2 n (0 : Int) (20 : Int) data
theorem slices_stableCmpFunc_L9_B_ch (r7 : Nat → Int → (List (Int × (List Int) × Unit)) → Option (List (Int × (List Int) × Unit))) (r7' : Int → (List (Int × (List Int) × Unit)) → Option (List (Int × (List Int) × Unit))) (h_r7 : ∀ a0 a1, ChO (fun κ => r7 κ a0 a1) (r7' a0 a1)) (r9 : Nat → Int → Int → (List (Int × (List Int) × Unit)) → Option (List (Int × (List Int) × Unit))) (r9' : Int → Int → (List (Int × (List Int) × Unit)) → Option (List (Int × (List Int) × Unit))) (h_r9 : ∀ a0 a1 a2, ChO (fun κ => r9 κ a0 a1 a2) (r9' a0 a1 a2)) (n : Int) (blockSize : Int) (a_1 : Int) (b_1 : Int) (data_3 : (List (Int × (List Int) × Unit))) : ChO (fun κ => slices_stableCmpFunc_L9_B n blockSize (r7 κ) (r9 κ) a_1 b_1 data_3) (slices_stableCmpFunc_L9_B n blockSize r7' r9' a_1 b_1 data_3) := by
  unfold slices_stableCmpFunc_L9_B
  repeat' with_reducible first | exact ChO.const _ | exact h_r7 _ _ | exact h_r9 _ _ _ | apply ChO.ite | apply ChO.G | apply ChO.both | (apply ChO.bind; intro _)
theorem slices_stableCmpFunc_L9_cn (r7 : Int → (List (Int × (List Int) × Unit)) → Option (List (Int × (List Int) × Unit))) (n : Int) (blockSize : Int) : Cn (slices_stableCmpFunc_L9_F n blockSize r7) := fun g h hg x => slices_stableCmpFunc_L9_B_ch (fun _ => r7) r7 (fun _ _ => ChO.const _) (fun κ a_1 b_1 data_3 => g κ (a_1, b_1, data_3)) (fun a_1 b_1 data_3 => h (a_1, b_1, data_3)) (fun a_1 b_1 data_3 => hg (a_1, b_1, data_3)) n blockSize x.1 x.2.1 x.2.2
theorem slices_stableCmpFunc_L9_eq (r7 : Int → (List (Int × (List Int) × Unit)) → Option (List (Int × (List Int) × Unit))) (n : Int) (blockSize : Int) (a_1 : Int) (b_1 : Int) (data_3 : (List (Int × (List Int) × Unit))) : slices_stableCmpFunc_L9 n blockSize r7 a_1 b_1 data_3 = slices_stableCmpFunc_L9_B n blockSize r7 (slices_stableCmpFunc_L9 n blockSize r7) a_1 b_1 data_3 := LFix_eq (slices_stableCmpFunc_L9_cn r7 n blockSize) (a_1, b_1, data_3)
theorem slices_stableCmpFunc_L9_ch (r7 : Nat → Int → (List (Int × (List Int) × Unit)) → Option (List (Int × (List Int) × Unit))) (r7' : Int → (List (Int × (List Int) × Unit)) → Option (List (Int × (List Int) × Unit))) (h_r7 : ∀ a0 a1, ChO (fun κ => r7 κ a0 a1) (r7' a0 a1)) (n : Int) (blockSize : Int) (a_1 : Int) (b_1 : Int) (data_3 : (List (Int × (List Int) × Unit))) : ChO (fun κ => slices_stableCmpFunc_L9 n blockSize (r7 κ) a_1 b_1 data_3) (slices_stableCmpFunc_L9 n blockSize r7' a_1 b_1 data_3) := by
  unfold slices_stableCmpFunc_L9
  exact LFix_ch (fun κ => (slices_stableCmpFunc_L9_cn (r7 κ) n blockSize).mono) (slices_stableCmpFunc_L9_cn r7' n blockSize).mono (fun g h hg x => slices_stableCmpFunc_L9_B_ch r7 r7' h_r7 (fun κ a_1 b_1 data_3 => g κ (a_1, b_1, data_3)) (fun a_1 b_1 data_3 => h (a_1, b_1, data_3)) (fun a_1 b_1 data_3 => hg (a_1, b_1, data_3)) n blockSize x.1 x.2.1 x.2.2) _
theorem slices_stableCmpFunc_L7_B_ch (r7 : Nat → Int → (List (Int × (List Int) × Unit)) → Option (List (Int × (List Int) × Unit))) (r7' : Int → (List (Int × (List Int) × Unit)) → Option (List (Int × (List Int) × Unit))) (h_r7 : ∀ a0 a1, ChO (fun κ => r7 κ a0 a1) (r7' a0 a1)) (n : Int) (blockSize : Int) (data_2 : (List (Int × (List Int) × Unit))) : ChO (fun κ => slices_stableCmpFunc_L7_B n (r7 κ) blockSize data_2) (slices_stableCmpFunc_L7_B n r7' blockSize data_2) := by
  unfold slices_stableCmpFunc_L7_B
  repeat' with_reducible first | exact ChO.const _ | exact h_r7 _ _ | (apply slices_stableCmpFunc_L9_ch <;> assumption) | apply ChO.ite | apply ChO.G | apply ChO.both | (apply ChO.bind; intro _)
theorem slices_stableCmpFunc_L7_cn  (n : Int) : Cn (slices_stableCmpFunc_L7_F n) := fun g h hg x => slices_stableCmpFunc_L7_B_ch  (fun κ blockSize data_2 => g κ (blockSize, data_2)) (fun blockSize data_2 => h (blockSize, data_2)) (fun blockSize data_2 => hg (blockSize, data_2)) n x.1 x.2
theorem slices_stableCmpFunc_L7_eq  (n : Int) (blockSize : Int) (data_2 : (List (Int × (List Int) × Unit))) : slices_stableCmpFunc_L7 n blockSize data_2 = slices_stableCmpFunc_L7_B n (slices_stableCmpFunc_L7 n) blockSize data_2 := LFix_eq (slices_stableCmpFunc_L7_cn n) (blockSize, data_2)
theorem slices_stableCmpFunc_L2_B_ch (r2 : Nat → Int → Int → (List (Int × (List Int) × Unit)) → Option (List (Int × (List Int) × Unit))) (r2' : Int → Int → (List (Int × (List Int) × Unit)) → Option (List (Int × (List Int) × Unit))) (h_r2 : ∀ a0 a1 a2, ChO (fun κ => r2 κ a0 a1 a2) (r2' a0 a1 a2)) (n : Int) (a : Int) (b : Int) (data_1 : (List (Int × (List Int) × Unit))) : ChO (fun κ => slices_stableCmpFunc_L2_B n (r2 κ) a b data_1) (slices_stableCmpFunc_L2_B n r2' a b data_1) := by
  unfold slices_stableCmpFunc_L2_B
  repeat' with_reducible first | exact ChO.const _ | exact h_r2 _ _ _ | (apply slices_stableCmpFunc_L9_ch <;> assumption) | apply ChO.ite | apply ChO.G | apply ChO.both | (apply ChO.bind; intro _)
theorem slices_stableCmpFunc_L2_cn  (n : Int) : Cn (slices_stableCmpFunc_L2_F n) := fun g h hg x => slices_stableCmpFunc_L2_B_ch  (fun κ a b data_1 => g κ (a, b, data_1)) (fun a b data_1 => h (a, b, data_1)) (fun a b data_1 => hg (a, b, data_1)) n x.1 x.2.1 x.2.2
theorem slices_stableCmpFunc_L2_eq  (n : Int) (a : Int) (b : Int) (data_1 : (List (Int × (List Int) × Unit))) : slices_stableCmpFunc_L2 n a b data_1 = slices_stableCmpFunc_L2_B n (slices_stableCmpFunc_L2 n) a b data_1 := LFix_eq (slices_stableCmpFunc_L2_cn n) (a, b, data_1)

noncomputable def slices_SortStableFunc (x' : (List (Int × (List Int) × Unit))) : Option (List (Int × (List Int) × Unit)) :=
  (slices_stableCmpFunc (x'.length : Int) x').bind (fun y' =>
  some y')

noncomputable def slices_Grow (n : Int) : Option (List Int) :=
  if (decide (n < (0 : Int))) = true then
  none else
  G (fits ((0 : Int) - (0 : Int))) (
  G (fits (n - ((0 : Int) - (0 : Int)))) (
  if (decide ((0 : Int) < (n - ((0 : Int) - (0 : Int))))) = true then
  G ((0 : Int) = (0 : Int)) (
  G (0 < n - ((0 : Int) - (0 : Int)) ∧ (n - ((0 : Int) - (0 : Int))) * 8 ≤ 140737488355328) (
  G (0 ≤ (0 : Int) ∧ (0 : Int) ≤ ((List.replicate (n - ((0 : Int) - (0 : Int))).toNat (0 : Int)).length : Int)) (
  some ((List.replicate (n - ((0 : Int) - (0 : Int))).toNat (0 : Int)).take ((0 : Int)).toNat)))) else
  some ([])))

noncomputable def slices_Concat_L11_B (slices : (List (List Int))) (r11 : Int → (List Int) → Option (List Int)) (t_1 : Int) (newslice : (List Int)) : Option (List Int) :=
  if (decide (t_1 < (slices.length : Int))) = true then
  G (0 ≤ t_1 ∧ t_1 < (slices.length : Int)) (
  G (room newslice (ix slices t_1) 8) (
  G (fits (t_1 + (1 : Int))) (
  r11 (t_1 + (1 : Int)) (newslice ++ (ix slices t_1))))) else
  some newslice
noncomputable def slices_Concat_L11_F (slices : (List (List Int))) : (Int × (List Int) → Option (List Int)) → Int × (List Int) → Option (List Int) :=
  fun rec x => slices_Concat_L11_B slices (fun t_1 newslice => rec (t_1, newslice)) x.1 x.2
noncomputable def slices_Concat_L11 (slices : (List (List Int))) (t_1 : Int) (newslice : (List Int)) : Option (List Int) := LFix (slices_Concat_L11_F slices ) (t_1, newslice)
noncomputable def slices_Concat_L3_B (slices : (List (List Int))) (r3 : Int → Int → Option (List Int)) (size : Int) (t : Int) : Option (List Int) :=
  if (decide (t < (slices.length : Int))) = true then
  G (0 ≤ t ∧ t < (slices.length : Int)) (
  G (fits (size + ((ix slices t).length : Int))) (
  if (decide ((size + ((ix slices t).length : Int)) < (0 : Int))) = true then
  none else
  G (fits (t + (1 : Int))) (
  r3 (size + ((ix slices t).length : Int)) (t + (1 : Int))))) else
  (slices_Grow size).bind (fun y' =>
  slices_Concat_L11 slices (0 : Int) y')
noncomputable def slices_Concat_L3_F (slices : (List (List Int))) : (Int × Int → Option (List Int)) → Int × Int → Option (List Int) :=
  fun rec x => slices_Concat_L3_B slices (fun size t => rec (size, t)) x.1 x.2
noncomputable def slices_Concat_L3 (slices : (List (List Int))) (size : Int) (t : Int) : Option (List Int) := LFix (slices_Concat_L3_F slices ) (size, t)
noncomputable def slices_Concat (slices : (List (List Int))) : Option (List Int) :=
  slices_Concat_L3 slices (0 : Int) (0 : Int)
theorem slices_Concat_L11_B_ch (r11 : Nat → Int → (List Int) → Option (List Int)) (r11' : Int → (List Int) → Option (List Int)) (h_r11 : ∀ a0 a1, ChO (fun κ => r11 κ a0 a1) (r11' a0 a1)) (slices : (List (List Int))) (t_1 : Int) (newslice : (List Int)) : ChO (fun κ => slices_Concat_L11_B slices (r11 κ) t_1 newslice) (slices_Concat_L11_B slices r11' t_1 newslice) := by
  unfold slices_Concat_L11_B
  repeat' with_reducible first | exact ChO.const _ | exact h_r11 _ _ | apply ChO.ite | apply ChO.G | apply ChO.both | (apply ChO.bind; intro _)
theorem slices_Concat_L11_cn  (slices : (List (List Int))) : Cn (slices_Concat_L11_F slices) := fun g h hg x => slices_Concat_L11_B_ch  (fun κ t_1 newslice => g κ (t_1, newslice)) (fun t_1 newslice => h (t_1, newslice)) (fun t_1 newslice => hg (t_1, newslice)) slices x.1 x.2
theorem slices_Concat_L11_eq  (slices : (List (List Int))) (t_1 : Int) (newslice : (List Int)) : slices_Concat_L11 slices t_1 newslice = slices_Concat_L11_B slices (slices_Concat_L11 slices) t_1 newslice := LFix_eq (slices_Concat_L11_cn slices) (t_1, newslice)
theorem slices_Concat_L3_B_ch (r3 : Nat → Int → Int → Option (List Int)) (r3' : Int → Int → Option (List Int)) (h_r3 : ∀ a0 a1, ChO (fun κ => r3 κ a0 a1) (r3' a0 a1)) (slices : (List (List Int))) (size : Int) (t : Int) : ChO (fun κ => slices_Concat_L3_B slices (r3 κ) size t) (slices_Concat_L3_B slices r3' size t) := by
  unfold slices_Concat_L3_B
  repeat' with_reducible first | exact ChO.const _ | exact h_r3 _ _ | apply ChO.ite | apply ChO.G | apply ChO.both | (apply ChO.bind; intro _)
theorem slices_Concat_L3_cn  (slices : (List (List Int))) : Cn (slices_Concat_L3_F slices) := fun g h hg x => slices_Concat_L3_B_ch  (fun κ size t => g κ (size, t)) (fun size t => h (size, t)) (fun size t => hg (size, t)) slices x.1 x.2
theorem slices_Concat_L3_eq  (slices : (List (List Int))) (size : Int) (t : Int) : slices_Concat_L3 slices size t = slices_Concat_L3_B slices (slices_Concat_L3 slices) size t := LFix_eq (slices_Concat_L3_cn slices) (size, t)

noncomputable def code_Cheap_L18_B (y' : (List (Int × (List Int) × Unit))) (t_1 : Int) (r15 : (Int → (List (List Int)) → Option (Int × Int × (List (List Int))))) (r18 : Int → (List (List Int)) → Option (Int × Int × (List (List Int)))) (t_2 : Int) (l_2 : (List (List Int))) : Option (Int × Int × (List (List Int))) :=
  if (decide (t_2 < ((((ix y' t_1).2).1).length : Int))) = true then
  G (0 ≤ t_2 ∧ t_2 < ((((ix y' t_1).2).1).length : Int)) (
  G (0 ≤ ix (((ix y' t_1).2).1) t_2 ∧ ix (((ix y' t_1).2).1) t_2 < (l_2.length : Int)) (
  G ((ix (((ix y' t_1).2).1) t_2).toNat < l_2.length) (
  G (room ([t_1]) (ix l_2 (ix (((ix y' t_1).2).1) t_2)) 8) (
  G (0 ≤ ix (((ix y' t_1).2).1) t_2 ∧ ix (((ix y' t_1).2).1) t_2 < (l_2.length : Int)) (
  G ((ix (((ix y' t_1).2).1) t_2).toNat < l_2.length) (
  G (fits (t_2 + (1 : Int))) (
  r18 (t_2 + (1 : Int)) (l_2.set (ix (((ix y' t_1).2).1) t_2).toNat (([t_1]) ++ (ix l_2 (ix (((ix y' t_1).2).1) t_2))))))))))) else
  G (fits (t_1 + (1 : Int))) (
  r15 (t_1 + (1 : Int)) l_2)
noncomputable def code_Cheap_L18_F (y' : (List (Int × (List Int) × Unit))) (t_1 : Int) (r15 : (Int → (List (List Int)) → Option (Int × Int × (List (List Int))))) : (Int × (List (List Int)) → Option (Int × Int × (List (List Int)))) → Int × (List (List Int)) → Option (Int × Int × (List (List Int))) :=
  fun rec x => code_Cheap_L18_B y' t_1 r15 (fun t_2 l_2 => rec (t_2, l_2)) x.1 x.2
noncomputable def code_Cheap_L18 (y' : (List (Int × (List Int) × Unit))) (t_1 : Int) (r15 : (Int → (List (List Int)) → Option (Int × Int × (List (List Int))))) (t_2 : Int) (l_2 : (List (List Int))) : Option (Int × Int × (List (List Int))) := LFix (code_Cheap_L18_F y' t_1 r15 ) (t_2, l_2)
noncomputable def code_Cheap_J23 (cost_1 : Int) (r12 : (Int → (List (List Int)) → (List (Int × (List Int) × Unit)) → Option (Int × Int × (List (List Int))))) (y' : (List (Int × (List Int) × Unit))) (l_1 : (List (List Int))) (both' : Int) (both'_1 : (List Int)) : Option (Int × Int × (List (List Int))) :=
  G (fits (cost_1 + both')) (
  both [(.int .i64), (.int .i64), (.list (.list (.int .i64)))] (
  G (0 ≤ (2 : Int) ∧ (2 : Int) ≤ (y'.length : Int)) (
  G (room (y'.drop ((2 : Int)).toNat) ([(both', (both'_1, ()))]) 32) (
  r12 (cost_1 + both') l_1 ((y'.drop ((2 : Int)).toNat) ++ ([(both', (both'_1, ()))]))))) (
  G (0 ≤ (2 : Int) ∧ (2 : Int) ≤ (y'.length : Int)) (
  G (room (y'.drop ((2 : Int)).toNat) ([(both', (both'_1, ()))]) 32) (
  r12 (cost_1 + both') l_1 ((y'.drop ((2 : Int)).toNat) ++ ([(both', (both'_1, ()))]))))))
noncomputable def code_Cheap_L15_B (cost_1 : Int) (r12 : (Int → (List (List Int)) → (List (Int × (List Int) × Unit)) → Option (Int × Int × (List (List Int))))) (y' : (List (Int × (List Int) × Unit))) (r15 : Int → (List (List Int)) → Option (Int × Int × (List (List Int)))) (t_1 : Int) (l_1 : (List (List Int))) : Option (Int × Int × (List (List Int))) :=
  if (decide (t_1 < (2 : Int))) = true then
  G (0 ≤ t_1 ∧ t_1 < (y'.length : Int)) (
  G ((t_1).toNat < y'.length) (
  code_Cheap_L18 y' t_1 r15 (0 : Int) l_1)) else
  G (0 ≤ (0 : Int) ∧ (0 : Int) < (y'.length : Int)) (
  G (0 ≤ (1 : Int) ∧ (1 : Int) < (y'.length : Int)) (
  G (0 ≤ (0 : Int) ∧ (0 : Int) < (y'.length : Int)) (
  G (0 ≤ (1 : Int) ∧ (1 : Int) < (y'.length : Int)) (
  G (((0 : Int)).toNat < y'.length) (
  G (((1 : Int)).toNat < y'.length) (
  G (fits (((ix y' (0 : Int)).1) + ((ix y' (1 : Int)).1))) (
  G (((0 : Int)).toNat < y'.length) (
  G (((1 : Int)).toNat < y'.length) (
  both [(.int .i64), (.int .i64), (.list (.list (.int .i64)))] (
  both [(.int .i64), (.int .i64), (.list (.list (.int .i64)))] (
  (slices_Concat ([((ix y' (0 : Int)).2).1, ((ix y' (1 : Int)).2).1])).bind (fun y'_1 =>
  code_Cheap_J23 cost_1 r12 y' l_1 (((ix y' (0 : Int)).1) + ((ix y' (1 : Int)).1)) y'_1)) (
  (slices_Concat ([((ix y' (0 : Int)).2).1, ((ix y' (1 : Int)).2).1])).bind (fun y'_2 =>
  code_Cheap_J23 cost_1 r12 y' l_1 (((ix y' (0 : Int)).1) + ((ix y' (1 : Int)).1)) y'_2))) (
  (slices_Concat ([((ix y' (0 : Int)).2).1, ((ix y' (1 : Int)).2).1])).bind (fun y'_3 =>
  code_Cheap_J23 cost_1 r12 y' l_1 (((ix y' (0 : Int)).1) + ((ix y' (1 : Int)).1)) y'_3)))))))))))
noncomputable def code_Cheap_L15_F (cost_1 : Int) (r12 : (Int → (List (List Int)) → (List (Int × (List Int) × Unit)) → Option (Int × Int × (List (List Int))))) (y' : (List (Int × (List Int) × Unit))) : (Int × (List (List Int)) → Option (Int × Int × (List (List Int)))) → Int × (List (List Int)) → Option (Int × Int × (List (List Int))) :=
  fun rec x => code_Cheap_L15_B cost_1 r12 y' (fun t_1 l_1 => rec (t_1, l_1)) x.1 x.2
noncomputable def code_Cheap_L15 (cost_1 : Int) (r12 : (Int → (List (List Int)) → (List (Int × (List Int) × Unit)) → Option (Int × Int × (List (List Int))))) (y' : (List (Int × (List Int) × Unit))) (t_1 : Int) (l_1 : (List (List Int))) : Option (Int × Int × (List (List Int))) := LFix (code_Cheap_L15_F cost_1 r12 y' ) (t_1, l_1)
noncomputable def code_Cheap_J25 (cost_2 : Int) (l_3 : (List (List Int))) : Option (Int × Int × (List (List Int))) :=
  some (cost_2, (0 : Int), l_3)
noncomputable def code_Cheap_L12_B  (r12 : Int → (List (List Int)) → (List (Int × (List Int) × Unit)) → Option (Int × Int × (List (List Int)))) (cost_1 : Int) (l : (List (List Int))) (rows_1 : (List (Int × (List Int) × Unit))) : Option (Int × Int × (List (List Int))) :=
  if (decide ((1 : Int) < (rows_1.length : Int))) = true then
  (slices_SortStableFunc rows_1).bind (fun y' =>
  code_Cheap_L15 cost_1 r12 y' (0 : Int) l) else
  code_Cheap_J25 cost_1 l
noncomputable def code_Cheap_L12_F  : (Int × (List (List Int)) × (List (Int × (List Int) × Unit)) → Option (Int × Int × (List (List Int)))) → Int × (List (List Int)) × (List (Int × (List Int) × Unit)) → Option (Int × Int × (List (List Int))) :=
  fun rec x => code_Cheap_L12_B (fun cost_1 l rows_1 => rec (cost_1, l, rows_1)) x.1 x.2.1 x.2.2
noncomputable def code_Cheap_L12  (cost_1 : Int) (l : (List (List Int))) (rows_1 : (List (Int × (List Int) × Unit))) : Option (Int × Int × (List (List Int))) := LFix (code_Cheap_L12_F ) (cost_1, l, rows_1)
noncomputable def code_Cheap_L5_B (weights : (List Int)) (r5 : Int → Int → (List (Int × (List Int) × Unit)) → Option (Int × Int × (List (List Int)))) (cost : Int) (t : Int) (rows : (List (Int × (List Int) × Unit))) : Option (Int × Int × (List (List Int))) :=
  if (decide (t < (weights.length : Int))) = true then
  G (0 ≤ t ∧ t < (weights.length : Int)) (
  if (decide ((ix weights t) < (1 : Int))) = true then
  some ((0 : Int), (2 : Int), []) else
  if (decide ((1000000 : Int) < (ix weights t))) = true then
  some ((0 : Int), (2 : Int), []) else
  G (room rows ([(ix weights t, ([t], ()))]) 32) (
  G (fits (t + (1 : Int))) (
  r5 cost (t + (1 : Int)) (rows ++ ([(ix weights t, ([t], ()))]))))) else
  G (mkOK (weights.length : Int) (weights.length : Int) 24) (
  code_Cheap_L12 cost (List.replicate ((weights.length : Int)).toNat ([] : List Int)) rows)
noncomputable def code_Cheap_L5_F (weights : (List Int)) : (Int × Int × (List (Int × (List Int) × Unit)) → Option (Int × Int × (List (List Int)))) → Int × Int × (List (Int × (List Int) × Unit)) → Option (Int × Int × (List (List Int))) :=
  fun rec x => code_Cheap_L5_B weights (fun cost t rows => rec (cost, t, rows)) x.1 x.2.1 x.2.2
noncomputable def code_Cheap_L5 (weights : (List Int)) (cost : Int) (t : Int) (rows : (List (Int × (List Int) × Unit))) : Option (Int × Int × (List (List Int))) := LFix (code_Cheap_L5_F weights ) (cost, t, rows)
noncomputable def code_Cheap (weights : (List Int)) : Option (Int × Int × (List (List Int))) :=
  if (decide ((weights.length : Int) < (1 : Int))) = true then
  some ((0 : Int), (1 : Int), []) else
  if (decide ((20 : Int) < (weights.length : Int))) = true then
  some ((0 : Int), (1 : Int), []) else
  code_Cheap_L5 weights (0 : Int) (0 : Int) ([])
theorem code_Cheap_L18_B_ch (r15 : Nat → Int → (List (List Int)) → Option (Int × Int × (List (List Int)))) (r15' : Int → (List (List Int)) → Option (Int × Int × (List (List Int)))) (h_r15 : ∀ a0 a1, ChO (fun κ => r15 κ a0 a1) (r15' a0 a1)) (r18 : Nat → Int → (List (List Int)) → Option (Int × Int × (List (List Int)))) (r18' : Int → (List (List Int)) → Option (Int × Int × (List (List Int)))) (h_r18 : ∀ a0 a1, ChO (fun κ => r18 κ a0 a1) (r18' a0 a1)) (y' : (List (Int × (List Int) × Unit))) (t_1 : Int) (t_2 : Int) (l_2 : (List (List Int))) : ChO (fun κ => code_Cheap_L18_B y' t_1 (r15 κ) (r18 κ) t_2 l_2) (code_Cheap_L18_B y' t_1 r15' r18' t_2 l_2) := by
  unfold code_Cheap_L18_B
  repeat' with_reducible first | exact ChO.const _ | exact h_r15 _ _ | exact h_r18 _ _ | apply ChO.ite | apply ChO.G | apply ChO.both | (apply ChO.bind; intro _)
theorem code_Cheap_L18_cn (r15 : Int → (List (List Int)) → Option (Int × Int × (List (List Int)))) (y' : (List (Int × (List Int) × Unit))) (t_1 : Int) : Cn (code_Cheap_L18_F y' t_1 r15) := fun g h hg x => code_Cheap_L18_B_ch (fun _ => r15) r15 (fun _ _ => ChO.const _) (fun κ t_2 l_2 => g κ (t_2, l_2)) (fun t_2 l_2 => h (t_2, l_2)) (fun t_2 l_2 => hg (t_2, l_2)) y' t_1 x.1 x.2
theorem code_Cheap_L18_eq (r15 : Int → (List (List Int)) → Option (Int × Int × (List (List Int)))) (y' : (List (Int × (List Int) × Unit))) (t_1 : Int) (t_2 : Int) (l_2 : (List (List Int))) : code_Cheap_L18 y' t_1 r15 t_2 l_2 = code_Cheap_L18_B y' t_1 r15 (code_Cheap_L18 y' t_1 r15) t_2 l_2 := LFix_eq (code_Cheap_L18_cn r15 y' t_1) (t_2, l_2)
theorem code_Cheap_L18_ch (r15 : Nat → Int → (List (List Int)) → Option (Int × Int × (List (List Int)))) (r15' : Int → (List (List Int)) → Option (Int × Int × (List (List Int)))) (h_r15 : ∀ a0 a1, ChO (fun κ => r15 κ a0 a1) (r15' a0 a1)) (y' : (List (Int × (List Int) × Unit))) (t_1 : Int) (t_2 : Int) (l_2 : (List (List Int))) : ChO (fun κ => code_Cheap_L18 y' t_1 (r15 κ) t_2 l_2) (code_Cheap_L18 y' t_1 r15' t_2 l_2) := by
  unfold code_Cheap_L18
  exact LFix_ch (fun κ => (code_Cheap_L18_cn (r15 κ) y' t_1).mono) (code_Cheap_L18_cn r15' y' t_1).mono (fun g h hg x => code_Cheap_L18_B_ch r15 r15' h_r15 (fun κ t_2 l_2 => g κ (t_2, l_2)) (fun t_2 l_2 => h (t_2, l_2)) (fun t_2 l_2 => hg (t_2, l_2)) y' t_1 x.1 x.2) _
theorem code_Cheap_J23_ch (r12 : Nat → Int → (List (List Int)) → (List (Int × (List Int) × Unit)) → Option (Int × Int × (List (List Int)))) (r12' : Int → (List (List Int)) → (List (Int × (List Int) × Unit)) → Option (Int × Int × (List (List Int)))) (h_r12 : ∀ a0 a1 a2, ChO (fun κ => r12 κ a0 a1 a2) (r12' a0 a1 a2)) (cost_1 : Int) (y' : (List (Int × (List Int) × Unit))) (l_1 : (List (List Int))) (both' : Int) (both'_1 : (List Int)) : ChO (fun κ => code_Cheap_J23 cost_1 (r12 κ) y' l_1 both' both'_1) (code_Cheap_J23 cost_1 r12' y' l_1 both' both'_1) := by
  unfold code_Cheap_J23
  repeat' with_reducible first | exact ChO.const _ | exact h_r12 _ _ _ | (apply code_Cheap_L18_ch <;> assumption) | apply ChO.ite | apply ChO.G | apply ChO.both | (apply ChO.bind; intro _)
theorem code_Cheap_L15_B_ch (r12 : Nat → Int → (List (List Int)) → (List (Int × (List Int) × Unit)) → Option (Int × Int × (List (List Int)))) (r12' : Int → (List (List Int)) → (List (Int × (List Int) × Unit)) → Option (Int × Int × (List (List Int)))) (h_r12 : ∀ a0 a1 a2, ChO (fun κ => r12 κ a0 a1 a2) (r12' a0 a1 a2)) (r15 : Nat → Int → (List (List Int)) → Option (Int × Int × (List (List Int)))) (r15' : Int → (List (List Int)) → Option (Int × Int × (List (List Int)))) (h_r15 : ∀ a0 a1, ChO (fun κ => r15 κ a0 a1) (r15' a0 a1)) (cost_1 : Int) (y' : (List (Int × (List Int) × Unit))) (t_1 : Int) (l_1 : (List (List Int))) : ChO (fun κ => code_Cheap_L15_B cost_1 (r12 κ) y' (r15 κ) t_1 l_1) (code_Cheap_L15_B cost_1 r12' y' r15' t_1 l_1) := by
  unfold code_Cheap_L15_B
  repeat' with_reducible first | exact ChO.const _ | exact h_r12 _ _ _ | exact h_r15 _ _ | (apply code_Cheap_L18_ch <;> assumption) | (apply code_Cheap_J23_ch <;> assumption) | apply ChO.ite | apply ChO.G | apply ChO.both | (apply ChO.bind; intro _)
theorem code_Cheap_L15_cn (r12 : Int → (List (List Int)) → (List (Int × (List Int) × Unit)) → Option (Int × Int × (List (List Int)))) (cost_1 : Int) (y' : (List (Int × (List Int) × Unit))) : Cn (code_Cheap_L15_F cost_1 r12 y') := fun g h hg x => code_Cheap_L15_B_ch (fun _ => r12) r12 (fun _ _ _ => ChO.const _) (fun κ t_1 l_1 => g κ (t_1, l_1)) (fun t_1 l_1 => h (t_1, l_1)) (fun t_1 l_1 => hg (t_1, l_1)) cost_1 y' x.1 x.2
theorem code_Cheap_L15_eq (r12 : Int → (List (List Int)) → (List (Int × (List Int) × Unit)) → Option (Int × Int × (List (List Int)))) (cost_1 : Int) (y' : (List (Int × (List Int) × Unit))) (t_1 : Int) (l_1 : (List (List Int))) : code_Cheap_L15 cost_1 r12 y' t_1 l_1 = code_Cheap_L15_B cost_1 r12 y' (code_Cheap_L15 cost_1 r12 y') t_1 l_1 := LFix_eq (code_Cheap_L15_cn r12 cost_1 y') (t_1, l_1)
theorem code_Cheap_L15_ch (r12 : Nat → Int → (List (List Int)) → (List (Int × (List Int) × Unit)) → Option (Int × Int × (List (List Int)))) (r12' : Int → (List (List Int)) → (List (Int × (List Int) × Unit)) → Option (Int × Int × (List (List Int)))) (h_r12 : ∀ a0 a1 a2, ChO (fun κ => r12 κ a0 a1 a2) (r12' a0 a1 a2)) (cost_1 : Int) (y' : (List (Int × (List Int) × Unit))) (t_1 : Int) (l_1 : (List (List Int))) : ChO (fun κ => code_Cheap_L15 cost_1 (r12 κ) y' t_1 l_1) (code_Cheap_L15 cost_1 r12' y' t_1 l_1) := by
  unfold code_Cheap_L15
  exact LFix_ch (fun κ => (code_Cheap_L15_cn (r12 κ) cost_1 y').mono) (code_Cheap_L15_cn r12' cost_1 y').mono (fun g h hg x => code_Cheap_L15_B_ch r12 r12' h_r12 (fun κ t_1 l_1 => g κ (t_1, l_1)) (fun t_1 l_1 => h (t_1, l_1)) (fun t_1 l_1 => hg (t_1, l_1)) cost_1 y' x.1 x.2) _
theorem code_Cheap_L12_B_ch (r12 : Nat → Int → (List (List Int)) → (List (Int × (List Int) × Unit)) → Option (Int × Int × (List (List Int)))) (r12' : Int → (List (List Int)) → (List (Int × (List Int) × Unit)) → Option (Int × Int × (List (List Int)))) (h_r12 : ∀ a0 a1 a2, ChO (fun κ => r12 κ a0 a1 a2) (r12' a0 a1 a2)) (cost_1 : Int) (l : (List (List Int))) (rows_1 : (List (Int × (List Int) × Unit))) : ChO (fun κ => code_Cheap_L12_B (r12 κ) cost_1 l rows_1) (code_Cheap_L12_B r12' cost_1 l rows_1) := by
  unfold code_Cheap_L12_B
  repeat' with_reducible first | exact ChO.const _ | exact h_r12 _ _ _ | (apply code_Cheap_L18_ch <;> assumption) | (apply code_Cheap_J23_ch <;> assumption) | (apply code_Cheap_L15_ch <;> assumption) | apply ChO.ite | apply ChO.G | apply ChO.both | (apply ChO.bind; intro _)
theorem code_Cheap_L12_cn   : Cn (code_Cheap_L12_F) := fun g h hg x => code_Cheap_L12_B_ch  (fun κ cost_1 l rows_1 => g κ (cost_1, l, rows_1)) (fun cost_1 l rows_1 => h (cost_1, l, rows_1)) (fun cost_1 l rows_1 => hg (cost_1, l, rows_1))  x.1 x.2.1 x.2.2
theorem code_Cheap_L12_eq   (cost_1 : Int) (l : (List (List Int))) (rows_1 : (List (Int × (List Int) × Unit))) : code_Cheap_L12 cost_1 l rows_1 = code_Cheap_L12_B (code_Cheap_L12) cost_1 l rows_1 := LFix_eq (code_Cheap_L12_cn ) (cost_1, l, rows_1)
theorem code_Cheap_L5_B_ch (r5 : Nat → Int → Int → (List (Int × (List Int) × Unit)) → Option (Int × Int × (List (List Int)))) (r5' : Int → Int → (List (Int × (List Int) × Unit)) → Option (Int × Int × (List (List Int)))) (h_r5 : ∀ a0 a1 a2, ChO (fun κ => r5 κ a0 a1 a2) (r5' a0 a1 a2)) (weights : (List Int)) (cost : Int) (t : Int) (rows : (List (Int × (List Int) × Unit))) : ChO (fun κ => code_Cheap_L5_B weights (r5 κ) cost t rows) (code_Cheap_L5_B weights r5' cost t rows) := by
  unfold code_Cheap_L5_B
  repeat' with_reducible first | exact ChO.const _ | exact h_r5 _ _ _ | (apply code_Cheap_L18_ch <;> assumption) | (apply code_Cheap_J23_ch <;> assumption) | (apply code_Cheap_L15_ch <;> assumption) | apply ChO.ite | apply ChO.G | apply ChO.both | (apply ChO.bind; intro _)
theorem code_Cheap_L5_cn  (weights : (List Int)) : Cn (code_Cheap_L5_F weights) := fun g h hg x => code_Cheap_L5_B_ch  (fun κ cost t rows => g κ (cost, t, rows)) (fun cost t rows => h (cost, t, rows)) (fun cost t rows => hg (cost, t, rows)) weights x.1 x.2.1 x.2.2
theorem code_Cheap_L5_eq  (weights : (List Int)) (cost : Int) (t : Int) (rows : (List (Int × (List Int) × Unit))) : code_Cheap_L5 weights cost t rows = code_Cheap_L5_B weights (code_Cheap_L5 weights) cost t rows := LFix_eq (code_Cheap_L5_cn weights) (cost, t, rows)

noncomputable def r24_Cheapest_L8_B (k : Int) (r5 : (Int → (List Int) → Option (Int))) (r8 : Int → (List Int) → Option (Int)) (i : Int) (l_2 : (List Int)) : Option (Int) :=
  if (decide (i < (l_2.length : Int))) = true then
  G (0 ≤ i ∧ i < (l_2.length : Int)) (
  G ((i).toNat < l_2.length) (
  G (0 ≤ k ∧ k < (l_2.length : Int)) (
  G ((k).toNat < l_2.length) (
  if (decide ((ix l_2 i) < (ix l_2 k))) = true then
  G (0 ≤ k ∧ k < (l_2.length : Int)) (
  G ((k).toNat < l_2.length) (
  G (0 ≤ i ∧ i < (l_2.length : Int)) (
  G ((i).toNat < l_2.length) (
  G (0 ≤ i ∧ i < (l_2.length : Int)) (
  G ((i).toNat < l_2.length) (
  G (0 ≤ k ∧ k < ((l_2.set (i).toNat (ix l_2 k)).length : Int)) (
  G ((k).toNat < (l_2.set (i).toNat (ix l_2 k)).length) (
  G (fits (i + (1 : Int))) (
  r8 (i + (1 : Int)) ((l_2.set (i).toNat (ix l_2 k)).set (k).toNat (ix l_2 i))))))))))) else
  G (fits (i + (1 : Int))) (
  r8 (i + (1 : Int)) l_2))))) else
  G (fits (k + (1 : Int))) (
  r5 (k + (1 : Int)) l_2)
noncomputable def r24_Cheapest_L8_F (k : Int) (r5 : (Int → (List Int) → Option (Int))) : (Int × (List Int) → Option (Int)) → Int × (List Int) → Option (Int) :=
  fun rec x => r24_Cheapest_L8_B k r5 (fun i l_2 => rec (i, l_2)) x.1 x.2
noncomputable def r24_Cheapest_L8 (k : Int) (r5 : (Int → (List Int) → Option (Int))) (i : Int) (l_2 : (List Int)) : Option (Int) := LFix (r24_Cheapest_L8_F k r5 ) (i, l_2)
noncomputable def r24_Cheapest_L5_B (cost : Int) (r3 : (Int → (List Int) → Option (Int))) (r5 : Int → (List Int) → Option (Int)) (k : Int) (l_1 : (List Int)) : Option (Int) :=
  if (decide (k < (2 : Int))) = true then
  G (fits (k + (1 : Int))) (
  r24_Cheapest_L8 k r5 (k + (1 : Int)) l_1) else
  G (0 ≤ (0 : Int) ∧ (0 : Int) < (l_1.length : Int)) (
  G (((0 : Int)).toNat < l_1.length) (
  G (fits (cost + (ix l_1 (0 : Int)))) (
  G (0 ≤ (1 : Int) ∧ (1 : Int) < (l_1.length : Int)) (
  G (((1 : Int)).toNat < l_1.length) (
  G (fits ((cost + (ix l_1 (0 : Int))) + (ix l_1 (1 : Int)))) (
  G (0 ≤ (0 : Int) ∧ (0 : Int) < (l_1.length : Int)) (
  G (((0 : Int)).toNat < l_1.length) (
  G (0 ≤ (1 : Int) ∧ (1 : Int) < (l_1.length : Int)) (
  G (((1 : Int)).toNat < l_1.length) (
  G (fits ((ix l_1 (0 : Int)) + (ix l_1 (1 : Int)))) (
  G (0 ≤ (1 : Int) ∧ (1 : Int) < (l_1.length : Int)) (
  G (((1 : Int)).toNat < l_1.length) (
  G (0 ≤ (1 : Int) ∧ (1 : Int) ≤ ((l_1.set ((1 : Int)).toNat ((ix l_1 (0 : Int)) + (ix l_1 (1 : Int)))).length : Int)) (
  r3 ((cost + (ix l_1 (0 : Int))) + (ix l_1 (1 : Int))) ((l_1.set ((1 : Int)).toNat ((ix l_1 (0 : Int)) + (ix l_1 (1 : Int)))).drop ((1 : Int)).toNat)))))))))))))))
noncomputable def r24_Cheapest_L5_F (cost : Int) (r3 : (Int → (List Int) → Option (Int))) : (Int × (List Int) → Option (Int)) → Int × (List Int) → Option (Int) :=
  fun rec x => r24_Cheapest_L5_B cost r3 (fun k l_1 => rec (k, l_1)) x.1 x.2
noncomputable def r24_Cheapest_L5 (cost : Int) (r3 : (Int → (List Int) → Option (Int))) (k : Int) (l_1 : (List Int)) : Option (Int) := LFix (r24_Cheapest_L5_F cost r3 ) (k, l_1)
noncomputable def r24_Cheapest_L3_B  (r3 : Int → (List Int) → Option (Int)) (cost : Int) (l : (List Int)) : Option (Int) :=
  if (decide ((1 : Int) < (l.length : Int))) = true then
  r24_Cheapest_L5 cost r3 (0 : Int) l else
  some cost
noncomputable def r24_Cheapest_L3_F  : (Int × (List Int) → Option (Int)) → Int × (List Int) → Option (Int) :=
  fun rec x => r24_Cheapest_L3_B (fun cost l => rec (cost, l)) x.1 x.2
noncomputable def r24_Cheapest_L3  (cost : Int) (l : (List Int)) : Option (Int) := LFix (r24_Cheapest_L3_F ) (cost, l)
noncomputable def r24_Cheapest (weights : (List Int)) : Option (Int) :=
  G (room ([] : List Int) weights 8) (
  r24_Cheapest_L3 (0 : Int) (([] : List Int) ++ weights))
theorem r24_Cheapest_L8_B_ch (r5 : Nat → Int → (List Int) → Option (Int)) (r5' : Int → (List Int) → Option (Int)) (h_r5 : ∀ a0 a1, ChO (fun κ => r5 κ a0 a1) (r5' a0 a1)) (r8 : Nat → Int → (List Int) → Option (Int)) (r8' : Int → (List Int) → Option (Int)) (h_r8 : ∀ a0 a1, ChO (fun κ => r8 κ a0 a1) (r8' a0 a1)) (k : Int) (i : Int) (l_2 : (List Int)) : ChO (fun κ => r24_Cheapest_L8_B k (r5 κ) (r8 κ) i l_2) (r24_Cheapest_L8_B k r5' r8' i l_2) := by
  unfold r24_Cheapest_L8_B
  repeat' with_reducible first | exact ChO.const _ | exact h_r5 _ _ | exact h_r8 _ _ | apply ChO.ite | apply ChO.G | apply ChO.both | (apply ChO.bind; intro _)
theorem r24_Cheapest_L8_cn (r5 : Int → (List Int) → Option (Int)) (k : Int) : Cn (r24_Cheapest_L8_F k r5) := fun g h hg x => r24_Cheapest_L8_B_ch (fun _ => r5) r5 (fun _ _ => ChO.const _) (fun κ i l_2 => g κ (i, l_2)) (fun i l_2 => h (i, l_2)) (fun i l_2 => hg (i, l_2)) k x.1 x.2
theorem r24_Cheapest_L8_eq (r5 : Int → (List Int) → Option (Int)) (k : Int) (i : Int) (l_2 : (List Int)) : r24_Cheapest_L8 k r5 i l_2 = r24_Cheapest_L8_B k r5 (r24_Cheapest_L8 k r5) i l_2 := LFix_eq (r24_Cheapest_L8_cn r5 k) (i, l_2)
theorem r24_Cheapest_L8_ch (r5 : Nat → Int → (List Int) → Option (Int)) (r5' : Int → (List Int) → Option (Int)) (h_r5 : ∀ a0 a1, ChO (fun κ => r5 κ a0 a1) (r5' a0 a1)) (k : Int) (i : Int) (l_2 : (List Int)) : ChO (fun κ => r24_Cheapest_L8 k (r5 κ) i l_2) (r24_Cheapest_L8 k r5' i l_2) := by
  unfold r24_Cheapest_L8
  exact LFix_ch (fun κ => (r24_Cheapest_L8_cn (r5 κ) k).mono) (r24_Cheapest_L8_cn r5' k).mono (fun g h hg x => r24_Cheapest_L8_B_ch r5 r5' h_r5 (fun κ i l_2 => g κ (i, l_2)) (fun i l_2 => h (i, l_2)) (fun i l_2 => hg (i, l_2)) k x.1 x.2) _
theorem r24_Cheapest_L5_B_ch (r3 : Nat → Int → (List Int) → Option (Int)) (r3' : Int → (List Int) → Option (Int)) (h_r3 : ∀ a0 a1, ChO (fun κ => r3 κ a0 a1) (r3' a0 a1)) (r5 : Nat → Int → (List Int) → Option (Int)) (r5' : Int → (List Int) → Option (Int)) (h_r5 : ∀ a0 a1, ChO (fun κ => r5 κ a0 a1) (r5' a0 a1)) (cost : Int) (k : Int) (l_1 : (List Int)) : ChO (fun κ => r24_Cheapest_L5_B cost (r3 κ) (r5 κ) k l_1) (r24_Cheapest_L5_B cost r3' r5' k l_1) := by
  unfold r24_Cheapest_L5_B
  repeat' with_reducible first | exact ChO.const _ | exact h_r3 _ _ | exact h_r5 _ _ | (apply r24_Cheapest_L8_ch <;> assumption) | apply ChO.ite | apply ChO.G | apply ChO.both | (apply ChO.bind; intro _)
theorem r24_Cheapest_L5_cn (r3 : Int → (List Int) → Option (Int)) (cost : Int) : Cn (r24_Cheapest_L5_F cost r3) := fun g h hg x => r24_Cheapest_L5_B_ch (fun _ => r3) r3 (fun _ _ => ChO.const _) (fun κ k l_1 => g κ (k, l_1)) (fun k l_1 => h (k, l_1)) (fun k l_1 => hg (k, l_1)) cost x.1 x.2
theorem r24_Cheapest_L5_eq (r3 : Int → (List Int) → Option (Int)) (cost : Int) (k : Int) (l_1 : (List Int)) : r24_Cheapest_L5 cost r3 k l_1 = r24_Cheapest_L5_B cost r3 (r24_Cheapest_L5 cost r3) k l_1 := LFix_eq (r24_Cheapest_L5_cn r3 cost) (k, l_1)
theorem r24_Cheapest_L5_ch (r3 : Nat → Int → (List Int) → Option (Int)) (r3' : Int → (List Int) → Option (Int)) (h_r3 : ∀ a0 a1, ChO (fun κ => r3 κ a0 a1) (r3' a0 a1)) (cost : Int) (k : Int) (l_1 : (List Int)) : ChO (fun κ => r24_Cheapest_L5 cost (r3 κ) k l_1) (r24_Cheapest_L5 cost r3' k l_1) := by
  unfold r24_Cheapest_L5
  exact LFix_ch (fun κ => (r24_Cheapest_L5_cn (r3 κ) cost).mono) (r24_Cheapest_L5_cn r3' cost).mono (fun g h hg x => r24_Cheapest_L5_B_ch r3 r3' h_r3 (fun κ k l_1 => g κ (k, l_1)) (fun k l_1 => h (k, l_1)) (fun k l_1 => hg (k, l_1)) cost x.1 x.2) _
theorem r24_Cheapest_L3_B_ch (r3 : Nat → Int → (List Int) → Option (Int)) (r3' : Int → (List Int) → Option (Int)) (h_r3 : ∀ a0 a1, ChO (fun κ => r3 κ a0 a1) (r3' a0 a1)) (cost : Int) (l : (List Int)) : ChO (fun κ => r24_Cheapest_L3_B (r3 κ) cost l) (r24_Cheapest_L3_B r3' cost l) := by
  unfold r24_Cheapest_L3_B
  repeat' with_reducible first | exact ChO.const _ | exact h_r3 _ _ | (apply r24_Cheapest_L8_ch <;> assumption) | (apply r24_Cheapest_L5_ch <;> assumption) | apply ChO.ite | apply ChO.G | apply ChO.both | (apply ChO.bind; intro _)
theorem r24_Cheapest_L3_cn   : Cn (r24_Cheapest_L3_F) := fun g h hg x => r24_Cheapest_L3_B_ch  (fun κ cost l => g κ (cost, l)) (fun cost l => h (cost, l)) (fun cost l => hg (cost, l))  x.1 x.2
theorem r24_Cheapest_L3_eq   (cost : Int) (l : (List Int)) : r24_Cheapest_L3 cost l = r24_Cheapest_L3_B (r24_Cheapest_L3) cost l := LFix_eq (r24_Cheapest_L3_cn ) (cost, l)

noncomputable def r1_May_L6_B (letters : Int) (w : (List Int)) (r6 : Int → Option (Int)) (i : Int) : Option (Int) :=
  if (decide (i < (w.length : Int))) = true then
  G (0 ≤ i ∧ i < (w.length : Int)) (
  if (decide ((ix w i) < (0 : Int))) = true then
  some (2 : Int) else
  G (0 ≤ i ∧ i < (w.length : Int)) (
  if (decide (letters ≤ (ix w i))) = true then
  some (2 : Int) else
  G (fits (i + (1 : Int))) (
  r6 (i + (1 : Int))))) else
  some (0 : Int)
noncomputable def r1_May_L6_F (letters : Int) (w : (List Int)) : (Int → Option (Int)) → Int → Option (Int) :=
  fun rec x => r1_May_L6_B letters w (fun i => rec i) x
noncomputable def r1_May_L6 (letters : Int) (w : (List Int)) (i : Int) : Option (Int) := LFix (r1_May_L6_F letters w ) i
noncomputable def r1_May (letters : Int) (w : (List Int)) : Option (Int) :=
  if (decide (letters < (1 : Int))) = true then
  some (2 : Int) else
  if (decide ((4 : Int) < letters)) = true then
  some (2 : Int) else
  if (decide ((60 : Int) < (w.length : Int))) = true then
  some (1 : Int) else
  r1_May_L6 letters w (0 : Int)
theorem r1_May_L6_B_ch (r6 : Nat → Int → Option (Int)) (r6' : Int → Option (Int)) (h_r6 : ∀ a0, ChO (fun κ => r6 κ a0) (r6' a0)) (letters : Int) (w : (List Int)) (i : Int) : ChO (fun κ => r1_May_L6_B letters w (r6 κ) i) (r1_May_L6_B letters w r6' i) := by
  unfold r1_May_L6_B
  repeat' with_reducible first | exact ChO.const _ | exact h_r6 _ | apply ChO.ite | apply ChO.G | apply ChO.both | (apply ChO.bind; intro _)
theorem r1_May_L6_cn  (letters : Int) (w : (List Int)) : Cn (r1_May_L6_F letters w) := fun g h hg x => r1_May_L6_B_ch  (fun κ i => g κ i) (fun i => h i) (fun i => hg i) letters w x
theorem r1_May_L6_eq  (letters : Int) (w : (List Int)) (i : Int) : r1_May_L6 letters w i = r1_May_L6_B letters w (r1_May_L6 letters w) i := LFix_eq (r1_May_L6_cn letters w) i

noncomputable def r1_Words_L4_B (a : (List Int)) (b : (List Int)) (r4 : Int → Option (Bool)) (i : Int) : Option (Bool) :=
  if (decide (i < (a.length : Int))) = true then
  G (0 ≤ i ∧ i < (a.length : Int)) (
  G (0 ≤ i ∧ i < (b.length : Int)) (
  if (decide (¬ (ix a i) = (ix b i))) = true then
  some false else
  G (fits (i + (1 : Int))) (
  r4 (i + (1 : Int))))) else
  some true
noncomputable def r1_Words_L4_F (a : (List Int)) (b : (List Int)) : (Int → Option (Bool)) → Int → Option (Bool) :=
  fun rec x => r1_Words_L4_B a b (fun i => rec i) x
noncomputable def r1_Words_L4 (a : (List Int)) (b : (List Int)) (i : Int) : Option (Bool) := LFix (r1_Words_L4_F a b ) i
noncomputable def r1_Words (a : (List Int)) (b : (List Int)) : Option (Bool) :=
  if (decide (¬ (a.length : Int) = (b.length : Int))) = true then
  some false else
  r1_Words_L4 a b (0 : Int)
theorem r1_Words_L4_B_ch (r4 : Nat → Int → Option (Bool)) (r4' : Int → Option (Bool)) (h_r4 : ∀ a0, ChO (fun κ => r4 κ a0) (r4' a0)) (a : (List Int)) (b : (List Int)) (i : Int) : ChO (fun κ => r1_Words_L4_B a b (r4 κ) i) (r1_Words_L4_B a b r4' i) := by
  unfold r1_Words_L4_B
  repeat' with_reducible first | exact ChO.const _ | exact h_r4 _ | apply ChO.ite | apply ChO.G | apply ChO.both | (apply ChO.bind; intro _)
theorem r1_Words_L4_cn  (a : (List Int)) (b : (List Int)) : Cn (r1_Words_L4_F a b) := fun g h hg x => r1_Words_L4_B_ch  (fun κ i => g κ i) (fun i => h i) (fun i => hg i) a b x
theorem r1_Words_L4_eq  (a : (List Int)) (b : (List Int)) (i : Int) : r1_Words_L4 a b i = r1_Words_L4_B a b (r1_Words_L4 a b) i := LFix_eq (r1_Words_L4_cn a b) i

noncomputable def r24_Begins (w : (List Int)) (v : (List Int)) : Option (Bool) :=
  if (decide ((w.length : Int) < (v.length : Int))) = true then
  some false else
  G (0 ≤ (0 : Int) ∧ (0 : Int) ≤ (v.length : Int) ∧ (v.length : Int) ≤ (w.length : Int)) (
  (r1_Words (cut w (0 : Int) (v.length : Int)) v).bind (fun y' =>
  some y'))

noncomputable def r24_Apart_L5_B (l : (List (List Int))) (i : Int) (r2 : (Int → Option (Bool))) (r5 : Int → Option (Bool)) (k : Int) : Option (Bool) :=
  if (decide (k < (l.length : Int))) = true then
  G (0 ≤ i ∧ i < (l.length : Int)) (
  G (0 ≤ k ∧ k < (l.length : Int)) (
  (r24_Begins (ix l i) (ix l k)).bind (fun y' =>
  if (decide (¬ i = k)) = true then
  if y' = true then
  some false else
  G (fits (k + (1 : Int))) (
  r5 (k + (1 : Int))) else
  G (fits (k + (1 : Int))) (
  r5 (k + (1 : Int)))))) else
  G (fits (i + (1 : Int))) (
  r2 (i + (1 : Int)))
noncomputable def r24_Apart_L5_F (l : (List (List Int))) (i : Int) (r2 : (Int → Option (Bool))) : (Int → Option (Bool)) → Int → Option (Bool) :=
  fun rec x => r24_Apart_L5_B l i r2 (fun k => rec k) x
noncomputable def r24_Apart_L5 (l : (List (List Int))) (i : Int) (r2 : (Int → Option (Bool))) (k : Int) : Option (Bool) := LFix (r24_Apart_L5_F l i r2 ) k
noncomputable def r24_Apart_L2_B (l : (List (List Int))) (r2 : Int → Option (Bool)) (i : Int) : Option (Bool) :=
  if (decide (i < (l.length : Int))) = true then
  r24_Apart_L5 l i r2 (0 : Int) else
  some true
noncomputable def r24_Apart_L2_F (l : (List (List Int))) : (Int → Option (Bool)) → Int → Option (Bool) :=
  fun rec x => r24_Apart_L2_B l (fun i => rec i) x
noncomputable def r24_Apart_L2 (l : (List (List Int))) (i : Int) : Option (Bool) := LFix (r24_Apart_L2_F l ) i
noncomputable def r24_Apart (l : (List (List Int))) : Option (Bool) :=
  r24_Apart_L2 l (0 : Int)
theorem r24_Apart_L5_B_ch (r2 : Nat → Int → Option (Bool)) (r2' : Int → Option (Bool)) (h_r2 : ∀ a0, ChO (fun κ => r2 κ a0) (r2' a0)) (r5 : Nat → Int → Option (Bool)) (r5' : Int → Option (Bool)) (h_r5 : ∀ a0, ChO (fun κ => r5 κ a0) (r5' a0)) (l : (List (List Int))) (i : Int) (k : Int) : ChO (fun κ => r24_Apart_L5_B l i (r2 κ) (r5 κ) k) (r24_Apart_L5_B l i r2' r5' k) := by
  unfold r24_Apart_L5_B
  repeat' with_reducible first | exact ChO.const _ | exact h_r2 _ | exact h_r5 _ | apply ChO.ite | apply ChO.G | apply ChO.both | (apply ChO.bind; intro _)
theorem r24_Apart_L5_cn (r2 : Int → Option (Bool)) (l : (List (List Int))) (i : Int) : Cn (r24_Apart_L5_F l i r2) := fun g h hg x => r24_Apart_L5_B_ch (fun _ => r2) r2 (fun _ => ChO.const _) (fun κ k => g κ k) (fun k => h k) (fun k => hg k) l i x
theorem r24_Apart_L5_eq (r2 : Int → Option (Bool)) (l : (List (List Int))) (i : Int) (k : Int) : r24_Apart_L5 l i r2 k = r24_Apart_L5_B l i r2 (r24_Apart_L5 l i r2) k := LFix_eq (r24_Apart_L5_cn r2 l i) k
theorem r24_Apart_L5_ch (r2 : Nat → Int → Option (Bool)) (r2' : Int → Option (Bool)) (h_r2 : ∀ a0, ChO (fun κ => r2 κ a0) (r2' a0)) (l : (List (List Int))) (i : Int) (k : Int) : ChO (fun κ => r24_Apart_L5 l i (r2 κ) k) (r24_Apart_L5 l i r2' k) := by
  unfold r24_Apart_L5
  exact LFix_ch (fun κ => (r24_Apart_L5_cn (r2 κ) l i).mono) (r24_Apart_L5_cn r2' l i).mono (fun g h hg x => r24_Apart_L5_B_ch r2 r2' h_r2 (fun κ k => g κ k) (fun k => h k) (fun k => hg k) l i x) _
theorem r24_Apart_L2_B_ch (r2 : Nat → Int → Option (Bool)) (r2' : Int → Option (Bool)) (h_r2 : ∀ a0, ChO (fun κ => r2 κ a0) (r2' a0)) (l : (List (List Int))) (i : Int) : ChO (fun κ => r24_Apart_L2_B l (r2 κ) i) (r24_Apart_L2_B l r2' i) := by
  unfold r24_Apart_L2_B
  repeat' with_reducible first | exact ChO.const _ | exact h_r2 _ | (apply r24_Apart_L5_ch <;> assumption) | apply ChO.ite | apply ChO.G | apply ChO.both | (apply ChO.bind; intro _)
theorem r24_Apart_L2_cn  (l : (List (List Int))) : Cn (r24_Apart_L2_F l) := fun g h hg x => r24_Apart_L2_B_ch  (fun κ i => g κ i) (fun i => h i) (fun i => hg i) l x
theorem r24_Apart_L2_eq  (l : (List (List Int))) (i : Int) : r24_Apart_L2 l i = r24_Apart_L2_B l (r24_Apart_L2 l) i := LFix_eq (r24_Apart_L2_cn l) i

noncomputable def law_CodeCheap_J6_1 (weights : (List Int)) (no_1 : Int) (i : Int) (r6 : (Int → Int → Option (Bool))) (t_2 : Bool) : Option (Bool) :=
  G (0 ≤ i ∧ i < (weights.length : Int)) (
  if (decide ((ix weights i) < (1 : Int))) = true then
  G (fits (i + (1 : Int))) (
  r6 (2 : Int) (i + (1 : Int))) else
  G (0 ≤ i ∧ i < (weights.length : Int)) (
  if (decide ((1000000 : Int) < (ix weights i))) = true then
  G (fits (i + (1 : Int))) (
  r6 (2 : Int) (i + (1 : Int))) else
  G (fits (i + (1 : Int))) (
  r6 no_1 (i + (1 : Int)))))
noncomputable def law_CodeCheap_L17_B (weights : (List Int)) (y' : Int) (y'_2 : (List (List Int))) (r17 : Int → Int → Option (Bool)) (sum : Int) (i_1 : Int) : Option (Bool) :=
  if (decide (i_1 < (y'_2.length : Int))) = true then
  G (0 ≤ i_1 ∧ i_1 < (y'_2.length : Int)) (
  G ((i_1).toNat < y'_2.length) (
  (r1_May (2 : Int) (ix y'_2 i_1)).bind (fun y'_5 =>
  if (decide (¬ y'_5 = (0 : Int))) = true then
  some false else
  G (0 ≤ i_1 ∧ i_1 < (weights.length : Int)) (
  G (0 ≤ i_1 ∧ i_1 < (y'_2.length : Int)) (
  G ((i_1).toNat < y'_2.length) (
  G (fits ((ix weights i_1) * ((ix y'_2 i_1).length : Int))) (
  G (fits (sum + ((ix weights i_1) * ((ix y'_2 i_1).length : Int)))) (
  G (fits (i_1 + (1 : Int))) (
  r17 (sum + ((ix weights i_1) * ((ix y'_2 i_1).length : Int))) (i_1 + (1 : Int))))))))))) else
  (r24_Apart y'_2).bind (fun y'_6 =>
  if (decide (sum = y')) = true then
  some y'_6 else
  some false)
noncomputable def law_CodeCheap_L17_F (weights : (List Int)) (y' : Int) (y'_2 : (List (List Int))) : (Int × Int → Option (Bool)) → Int × Int → Option (Bool) :=
  fun rec x => law_CodeCheap_L17_B weights y' y'_2 (fun sum i_1 => rec (sum, i_1)) x.1 x.2
noncomputable def law_CodeCheap_L17 (weights : (List Int)) (y' : Int) (y'_2 : (List (List Int))) (sum : Int) (i_1 : Int) : Option (Bool) := LFix (law_CodeCheap_L17_F weights y' y'_2 ) (sum, i_1)
noncomputable def law_CodeCheap_J6 (weights : (List Int)) (y' : Int) (y'_1 : Int) (y'_2 : (List (List Int))) (no_1 : Int) (i : Int) (r6 : (Int → Int → Option (Bool))) (t_1 : Bool) : Option (Bool) :=
  if t_1 = true then
  law_CodeCheap_J6_1 weights no_1 i r6 t_1 else
  if (decide (¬ no_1 = (0 : Int))) = true then
  if (decide (y'_1 = no_1)) = true then
  if (decide (y' = (0 : Int))) = true then
  some (decide ((y'_2.length : Int) = (0 : Int))) else
  some false else
  some false else
  (r24_Cheapest weights).bind (fun y'_4 =>
  if (decide (¬ y'_1 = (0 : Int))) = true then
  some false else
  if (decide (¬ y' = y'_4)) = true then
  some false else
  if (decide (¬ (y'_2.length : Int) = (weights.length : Int))) = true then
  some false else
  law_CodeCheap_L17 weights y' y'_2 (0 : Int) (0 : Int))
noncomputable def law_CodeCheap_L6_B (weights : (List Int)) (y' : Int) (y'_1 : Int) (y'_2 : (List (List Int))) (r6 : Int → Int → Option (Bool)) (no_1 : Int) (i : Int) : Option (Bool) :=
  if (decide (i < (weights.length : Int))) = true then
  law_CodeCheap_J6 weights y' y'_1 y'_2 no_1 i r6 (decide (no_1 = (0 : Int))) else
  law_CodeCheap_J6 weights y' y'_1 y'_2 no_1 i r6 false
noncomputable def law_CodeCheap_L6_F (weights : (List Int)) (y' : Int) (y'_1 : Int) (y'_2 : (List (List Int))) : (Int × Int → Option (Bool)) → Int × Int → Option (Bool) :=
  fun rec x => law_CodeCheap_L6_B weights y' y'_1 y'_2 (fun no_1 i => rec (no_1, i)) x.1 x.2
noncomputable def law_CodeCheap_L6 (weights : (List Int)) (y' : Int) (y'_1 : Int) (y'_2 : (List (List Int))) (no_1 : Int) (i : Int) : Option (Bool) := LFix (law_CodeCheap_L6_F weights y' y'_1 y'_2 ) (no_1, i)
noncomputable def law_CodeCheap_J4 (weights : (List Int)) (y' : Int) (y'_1 : Int) (y'_2 : (List (List Int))) (no : Int) : Option (Bool) :=
  law_CodeCheap_L6 weights y' y'_1 y'_2 no (0 : Int)
noncomputable def law_CodeCheap_J3 (weights : (List Int)) (y' : Int) (y'_1 : Int) (y'_2 : (List (List Int))) (t : Bool) : Option (Bool) :=
  if t = true then
  law_CodeCheap_J4 weights y' y'_1 y'_2 (1 : Int) else
  law_CodeCheap_J4 weights y' y'_1 y'_2 (0 : Int)
noncomputable def law_CodeCheap (weights : (List Int)) : Option (Bool) :=
  (code_Cheap weights).bind (fun y'_7 =>
  if (decide ((weights.length : Int) < (1 : Int))) = true then
  law_CodeCheap_J3 weights y'_7.1 y'_7.2.1 y'_7.2.2 true else
  law_CodeCheap_J3 weights y'_7.1 y'_7.2.1 y'_7.2.2 (decide ((20 : Int) < (weights.length : Int))))
theorem law_CodeCheap_J6_1_ch (r6 : Nat → Int → Int → Option (Bool)) (r6' : Int → Int → Option (Bool)) (h_r6 : ∀ a0 a1, ChO (fun κ => r6 κ a0 a1) (r6' a0 a1)) (weights : (List Int)) (no_1 : Int) (i : Int) (t_2 : Bool) : ChO (fun κ => law_CodeCheap_J6_1 weights no_1 i (r6 κ) t_2) (law_CodeCheap_J6_1 weights no_1 i r6' t_2) := by
  unfold law_CodeCheap_J6_1
  repeat' with_reducible first | exact ChO.const _ | exact h_r6 _ _ | apply ChO.ite | apply ChO.G | apply ChO.both | (apply ChO.bind; intro _)
theorem law_CodeCheap_L17_B_ch (r17 : Nat → Int → Int → Option (Bool)) (r17' : Int → Int → Option (Bool)) (h_r17 : ∀ a0 a1, ChO (fun κ => r17 κ a0 a1) (r17' a0 a1)) (weights : (List Int)) (y' : Int) (y'_2 : (List (List Int))) (sum : Int) (i_1 : Int) : ChO (fun κ => law_CodeCheap_L17_B weights y' y'_2 (r17 κ) sum i_1) (law_CodeCheap_L17_B weights y' y'_2 r17' sum i_1) := by
  unfold law_CodeCheap_L17_B
  repeat' with_reducible first | exact ChO.const _ | exact h_r17 _ _ | (apply law_CodeCheap_J6_1_ch <;> assumption) | apply ChO.ite | apply ChO.G | apply ChO.both | (apply ChO.bind; intro _)
theorem law_CodeCheap_L17_cn  (weights : (List Int)) (y' : Int) (y'_2 : (List (List Int))) : Cn (law_CodeCheap_L17_F weights y' y'_2) := fun g h hg x => law_CodeCheap_L17_B_ch  (fun κ sum i_1 => g κ (sum, i_1)) (fun sum i_1 => h (sum, i_1)) (fun sum i_1 => hg (sum, i_1)) weights y' y'_2 x.1 x.2
theorem law_CodeCheap_L17_eq  (weights : (List Int)) (y' : Int) (y'_2 : (List (List Int))) (sum : Int) (i_1 : Int) : law_CodeCheap_L17 weights y' y'_2 sum i_1 = law_CodeCheap_L17_B weights y' y'_2 (law_CodeCheap_L17 weights y' y'_2) sum i_1 := LFix_eq (law_CodeCheap_L17_cn weights y' y'_2) (sum, i_1)
theorem law_CodeCheap_J6_ch (r6 : Nat → Int → Int → Option (Bool)) (r6' : Int → Int → Option (Bool)) (h_r6 : ∀ a0 a1, ChO (fun κ => r6 κ a0 a1) (r6' a0 a1)) (weights : (List Int)) (y' : Int) (y'_1 : Int) (y'_2 : (List (List Int))) (no_1 : Int) (i : Int) (t_1 : Bool) : ChO (fun κ => law_CodeCheap_J6 weights y' y'_1 y'_2 no_1 i (r6 κ) t_1) (law_CodeCheap_J6 weights y' y'_1 y'_2 no_1 i r6' t_1) := by
  unfold law_CodeCheap_J6
  repeat' with_reducible first | exact ChO.const _ | exact h_r6 _ _ | (apply law_CodeCheap_J6_1_ch <;> assumption) | apply ChO.ite | apply ChO.G | apply ChO.both | (apply ChO.bind; intro _)
theorem law_CodeCheap_L6_B_ch (r6 : Nat → Int → Int → Option (Bool)) (r6' : Int → Int → Option (Bool)) (h_r6 : ∀ a0 a1, ChO (fun κ => r6 κ a0 a1) (r6' a0 a1)) (weights : (List Int)) (y' : Int) (y'_1 : Int) (y'_2 : (List (List Int))) (no_1 : Int) (i : Int) : ChO (fun κ => law_CodeCheap_L6_B weights y' y'_1 y'_2 (r6 κ) no_1 i) (law_CodeCheap_L6_B weights y' y'_1 y'_2 r6' no_1 i) := by
  unfold law_CodeCheap_L6_B
  repeat' with_reducible first | exact ChO.const _ | exact h_r6 _ _ | (apply law_CodeCheap_J6_1_ch <;> assumption) | (apply law_CodeCheap_J6_ch <;> assumption) | apply ChO.ite | apply ChO.G | apply ChO.both | (apply ChO.bind; intro _)
theorem law_CodeCheap_L6_cn  (weights : (List Int)) (y' : Int) (y'_1 : Int) (y'_2 : (List (List Int))) : Cn (law_CodeCheap_L6_F weights y' y'_1 y'_2) := fun g h hg x => law_CodeCheap_L6_B_ch  (fun κ no_1 i => g κ (no_1, i)) (fun no_1 i => h (no_1, i)) (fun no_1 i => hg (no_1, i)) weights y' y'_1 y'_2 x.1 x.2
theorem law_CodeCheap_L6_eq  (weights : (List Int)) (y' : Int) (y'_1 : Int) (y'_2 : (List (List Int))) (no_1 : Int) (i : Int) : law_CodeCheap_L6 weights y' y'_1 y'_2 no_1 i = law_CodeCheap_L6_B weights y' y'_1 y'_2 (law_CodeCheap_L6 weights y' y'_1 y'_2) no_1 i := LFix_eq (law_CodeCheap_L6_cn weights y' y'_1 y'_2) (no_1, i)

end Go.Proofs.Ytkjapglopaoknaa.codeCheapW
