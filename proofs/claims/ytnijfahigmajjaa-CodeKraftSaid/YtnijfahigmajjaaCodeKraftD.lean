/- What the functions that 'CodeKraft' reaches compute: plain functions. -/
import Derived.Test.YtnijfahigmajjaaEv4n21
set_option maxHeartbeats 1000000
set_option maxRecDepth 20000
set_option linter.unusedSimpArgs false
set_option linter.unusedVariables false
namespace Go.Proofs.Ytnijfahigmajjaa.codeKraftW
open Go Go.Ab
noncomputable def code_Kraft_1 (n : Int) : Option (Bool) :=
  if (decide (n < (1 : Int))) = true then
  some true else
  some (decide ((30 : Int) < n))

noncomputable def slices_IndexFunc_L2_B (s : (List Int)) (r2 : Int → Option (Int)) (t : Int) : Option (Int) :=
  if (decide (t < (s.length : Int))) = true then
  G (0 ≤ t ∧ t < (s.length : Int)) (
  (code_Kraft_1 (ix s t)).bind (fun y' =>
  if y' = true then
  some t else
  G (fits (t + (1 : Int))) (
  r2 (t + (1 : Int))))) else
  some (-1 : Int)
noncomputable def slices_IndexFunc_L2_F (s : (List Int)) : (Int → Option (Int)) → Int → Option (Int) :=
  fun rec x => slices_IndexFunc_L2_B s (fun t => rec t) x
noncomputable def slices_IndexFunc_L2 (s : (List Int)) (t : Int) : Option (Int) := LFix (slices_IndexFunc_L2_F s ) t
noncomputable def slices_IndexFunc (s : (List Int)) : Option (Int) :=
  slices_IndexFunc_L2 s (0 : Int)
theorem slices_IndexFunc_L2_B_ch (r2 : Nat → Int → Option (Int)) (r2' : Int → Option (Int)) (h_r2 : ∀ a0, ChO (fun κ => r2 κ a0) (r2' a0)) (s : (List Int)) (t : Int) : ChO (fun κ => slices_IndexFunc_L2_B s (r2 κ) t) (slices_IndexFunc_L2_B s r2' t) := by
  unfold slices_IndexFunc_L2_B
  repeat' first | exact ChO.const _ | exact h_r2 _ | apply ChO.ite | apply ChO.G | apply ChO.both | (apply ChO.bind; intro _)
theorem slices_IndexFunc_L2_cn  (s : (List Int)) : Cn (slices_IndexFunc_L2_F s) := fun g h hg x => slices_IndexFunc_L2_B_ch  (fun κ t => g κ t) (fun t => h t) (fun t => hg t) s x
theorem slices_IndexFunc_L2_eq  (s : (List Int)) (t : Int) : slices_IndexFunc_L2 s t = slices_IndexFunc_L2_B s (slices_IndexFunc_L2 s) t := LFix_eq (slices_IndexFunc_L2_cn s) t

noncomputable def slices_ContainsFunc (s : (List Int)) : Option (Bool) :=
  (slices_IndexFunc s).bind (fun y' =>
  some (decide ((0 : Int) ≤ y')))

noncomputable def cmp_isNaN (x' : Int) : Option (Bool) :=
  some (decide (¬ x' = x'))

noncomputable def cmp_Compare (x' : Int) (y' : Int) : Option (Int) :=
  (cmp_isNaN x').bind (fun y'_1 =>
  (cmp_isNaN y').bind (fun y'_2 =>
  if y'_1 = true then
  if y'_2 = true then
  some (0 : Int) else
  some (-1 : Int) else
  if y'_2 = true then
  some (1 : Int) else
  if (decide (x' < y')) = true then
  some (-1 : Int) else
  if (decide (y' < x')) = true then
  some (1 : Int) else
  some (0 : Int)))

noncomputable def code_Kraft_2 (i : Int) (k : Int) (t : (List Int)) : Option (Int) :=
  G (0 ≤ i ∧ i < (t.length : Int)) (
  G (0 ≤ k ∧ k < (t.length : Int)) (
  (cmp_Compare (ix t i) (ix t k)).bind (fun y' =>
  some y')))

noncomputable def slices_insertionSortCmpFunc_J4_1 (j : Int) (r4 : (Int → (List Int) → Option (List Int))) (t_1 : Bool) (data_4 : (List Int)) : Option (List Int) :=
  G (fits (j - (1 : Int))) (
  G (fits (j - (1 : Int))) (
  G (0 ≤ j - (1 : Int) ∧ j - (1 : Int) < (data_4.length : Int)) (
  G ((j - (1 : Int)).toNat < data_4.length) (
  G (0 ≤ j ∧ j < (data_4.length : Int)) (
  G ((j).toNat < data_4.length) (
  G (0 ≤ j ∧ j < (data_4.length : Int)) (
  G ((j).toNat < data_4.length) (
  G (0 ≤ j - (1 : Int) ∧ j - (1 : Int) < ((data_4.set (j).toNat (ix data_4 (j - (1 : Int)))).length : Int)) (
  G ((j - (1 : Int)).toNat < (data_4.set (j).toNat (ix data_4 (j - (1 : Int)))).length) (
  G (fits (j - (1 : Int))) (
  r4 (j - (1 : Int)) ((data_4.set (j).toNat (ix data_4 (j - (1 : Int)))).set (j - (1 : Int)).toNat (ix data_4 j)))))))))))))
noncomputable def slices_insertionSortCmpFunc_J4 (i : Int) (r1 : (Int → (List Int) → Option (List Int))) (j : Int) (r4 : (Int → (List Int) → Option (List Int))) (t : Bool) (data_3 : (List Int)) : Option (List Int) :=
  if t = true then
  slices_insertionSortCmpFunc_J4_1 j r4 t data_3 else
  G (fits (i + (1 : Int))) (
  r1 (i + (1 : Int)) data_3)
noncomputable def slices_insertionSortCmpFunc_L4_B (a : Int) (c : (List Int)) (i : Int) (r1 : (Int → (List Int) → Option (List Int))) (r4 : Int → (List Int) → Option (List Int)) (j : Int) (data_2 : (List Int)) : Option (List Int) :=
  if (decide (a < j)) = true then
  G (0 ≤ j ∧ j < (data_2.length : Int)) (
  G ((j).toNat < data_2.length) (
  G (fits (j - (1 : Int))) (
  G (0 ≤ j - (1 : Int) ∧ j - (1 : Int) < (data_2.length : Int)) (
  G ((j - (1 : Int)).toNat < data_2.length) (
  (code_Kraft_2 (ix data_2 j) (ix data_2 (j - (1 : Int))) c).bind (fun y' =>
  slices_insertionSortCmpFunc_J4 i r1 j r4 (decide (y' < (0 : Int))) data_2)))))) else
  slices_insertionSortCmpFunc_J4 i r1 j r4 false data_2
noncomputable def slices_insertionSortCmpFunc_L4_F (a : Int) (c : (List Int)) (i : Int) (r1 : (Int → (List Int) → Option (List Int))) : (Int × (List Int) → Option (List Int)) → Int × (List Int) → Option (List Int) :=
  fun rec x => slices_insertionSortCmpFunc_L4_B a c i r1 (fun j data_2 => rec (j, data_2)) x.1 x.2
noncomputable def slices_insertionSortCmpFunc_L4 (a : Int) (c : (List Int)) (i : Int) (r1 : (Int → (List Int) → Option (List Int))) (j : Int) (data_2 : (List Int)) : Option (List Int) := LFix (slices_insertionSortCmpFunc_L4_F a c i r1 ) (j, data_2)
noncomputable def slices_insertionSortCmpFunc_L1_B (a : Int) (b : Int) (c : (List Int)) (r1 : Int → (List Int) → Option (List Int)) (i : Int) (data_1 : (List Int)) : Option (List Int) :=
  if (decide (i < b)) = true then
  slices_insertionSortCmpFunc_L4 a c i r1 i data_1 else
  some data_1
noncomputable def slices_insertionSortCmpFunc_L1_F (a : Int) (b : Int) (c : (List Int)) : (Int × (List Int) → Option (List Int)) → Int × (List Int) → Option (List Int) :=
  fun rec x => slices_insertionSortCmpFunc_L1_B a b c (fun i data_1 => rec (i, data_1)) x.1 x.2
noncomputable def slices_insertionSortCmpFunc_L1 (a : Int) (b : Int) (c : (List Int)) (i : Int) (data_1 : (List Int)) : Option (List Int) := LFix (slices_insertionSortCmpFunc_L1_F a b c ) (i, data_1)
noncomputable def slices_insertionSortCmpFunc (a : Int) (b : Int) (c : (List Int)) (data : (List Int)) : Option (List Int) :=
  G (fits (a + (1 : Int))) (
  slices_insertionSortCmpFunc_L1 a b c (a + (1 : Int)) data)
theorem slices_insertionSortCmpFunc_J4_1_ch (r4 : Nat → Int → (List Int) → Option (List Int)) (r4' : Int → (List Int) → Option (List Int)) (h_r4 : ∀ a0 a1, ChO (fun κ => r4 κ a0 a1) (r4' a0 a1)) (j : Int) (t_1 : Bool) (data_4 : (List Int)) : ChO (fun κ => slices_insertionSortCmpFunc_J4_1 j (r4 κ) t_1 data_4) (slices_insertionSortCmpFunc_J4_1 j r4' t_1 data_4) := by
  unfold slices_insertionSortCmpFunc_J4_1
  repeat' first | exact ChO.const _ | exact h_r4 _ _ | apply ChO.ite | apply ChO.G | apply ChO.both | (apply ChO.bind; intro _)
theorem slices_insertionSortCmpFunc_J4_ch (r1 : Nat → Int → (List Int) → Option (List Int)) (r1' : Int → (List Int) → Option (List Int)) (h_r1 : ∀ a0 a1, ChO (fun κ => r1 κ a0 a1) (r1' a0 a1)) (r4 : Nat → Int → (List Int) → Option (List Int)) (r4' : Int → (List Int) → Option (List Int)) (h_r4 : ∀ a0 a1, ChO (fun κ => r4 κ a0 a1) (r4' a0 a1)) (i : Int) (j : Int) (t : Bool) (data_3 : (List Int)) : ChO (fun κ => slices_insertionSortCmpFunc_J4 i (r1 κ) j (r4 κ) t data_3) (slices_insertionSortCmpFunc_J4 i r1' j r4' t data_3) := by
  unfold slices_insertionSortCmpFunc_J4
  repeat' first | exact ChO.const _ | exact h_r1 _ _ | exact h_r4 _ _ | (apply slices_insertionSortCmpFunc_J4_1_ch <;> assumption) | apply ChO.ite | apply ChO.G | apply ChO.both | (apply ChO.bind; intro _)
theorem slices_insertionSortCmpFunc_L4_B_ch (r1 : Nat → Int → (List Int) → Option (List Int)) (r1' : Int → (List Int) → Option (List Int)) (h_r1 : ∀ a0 a1, ChO (fun κ => r1 κ a0 a1) (r1' a0 a1)) (r4 : Nat → Int → (List Int) → Option (List Int)) (r4' : Int → (List Int) → Option (List Int)) (h_r4 : ∀ a0 a1, ChO (fun κ => r4 κ a0 a1) (r4' a0 a1)) (a : Int) (c : (List Int)) (i : Int) (j : Int) (data_2 : (List Int)) : ChO (fun κ => slices_insertionSortCmpFunc_L4_B a c i (r1 κ) (r4 κ) j data_2) (slices_insertionSortCmpFunc_L4_B a c i r1' r4' j data_2) := by
  unfold slices_insertionSortCmpFunc_L4_B
  repeat' first | exact ChO.const _ | exact h_r1 _ _ | exact h_r4 _ _ | (apply slices_insertionSortCmpFunc_J4_1_ch <;> assumption) | (apply slices_insertionSortCmpFunc_J4_ch <;> assumption) | apply ChO.ite | apply ChO.G | apply ChO.both | (apply ChO.bind; intro _)
theorem slices_insertionSortCmpFunc_L4_cn (r1 : Int → (List Int) → Option (List Int)) (a : Int) (c : (List Int)) (i : Int) : Cn (slices_insertionSortCmpFunc_L4_F a c i r1) := fun g h hg x => slices_insertionSortCmpFunc_L4_B_ch (fun _ => r1) r1 (fun _ _ => ChO.const _) (fun κ j data_2 => g κ (j, data_2)) (fun j data_2 => h (j, data_2)) (fun j data_2 => hg (j, data_2)) a c i x.1 x.2
theorem slices_insertionSortCmpFunc_L4_eq (r1 : Int → (List Int) → Option (List Int)) (a : Int) (c : (List Int)) (i : Int) (j : Int) (data_2 : (List Int)) : slices_insertionSortCmpFunc_L4 a c i r1 j data_2 = slices_insertionSortCmpFunc_L4_B a c i r1 (slices_insertionSortCmpFunc_L4 a c i r1) j data_2 := LFix_eq (slices_insertionSortCmpFunc_L4_cn r1 a c i) (j, data_2)
theorem slices_insertionSortCmpFunc_L4_ch (r1 : Nat → Int → (List Int) → Option (List Int)) (r1' : Int → (List Int) → Option (List Int)) (h_r1 : ∀ a0 a1, ChO (fun κ => r1 κ a0 a1) (r1' a0 a1)) (a : Int) (c : (List Int)) (i : Int) (j : Int) (data_2 : (List Int)) : ChO (fun κ => slices_insertionSortCmpFunc_L4 a c i (r1 κ) j data_2) (slices_insertionSortCmpFunc_L4 a c i r1' j data_2) := by
  unfold slices_insertionSortCmpFunc_L4
  exact LFix_ch (fun κ => (slices_insertionSortCmpFunc_L4_cn (r1 κ) a c i).mono) (slices_insertionSortCmpFunc_L4_cn r1' a c i).mono (fun g h hg x => slices_insertionSortCmpFunc_L4_B_ch r1 r1' h_r1 (fun κ j data_2 => g κ (j, data_2)) (fun j data_2 => h (j, data_2)) (fun j data_2 => hg (j, data_2)) a c i x.1 x.2) _
theorem slices_insertionSortCmpFunc_L1_B_ch (r1 : Nat → Int → (List Int) → Option (List Int)) (r1' : Int → (List Int) → Option (List Int)) (h_r1 : ∀ a0 a1, ChO (fun κ => r1 κ a0 a1) (r1' a0 a1)) (a : Int) (b : Int) (c : (List Int)) (i : Int) (data_1 : (List Int)) : ChO (fun κ => slices_insertionSortCmpFunc_L1_B a b c (r1 κ) i data_1) (slices_insertionSortCmpFunc_L1_B a b c r1' i data_1) := by
  unfold slices_insertionSortCmpFunc_L1_B
  repeat' first | exact ChO.const _ | exact h_r1 _ _ | (apply slices_insertionSortCmpFunc_J4_1_ch <;> assumption) | (apply slices_insertionSortCmpFunc_J4_ch <;> assumption) | (apply slices_insertionSortCmpFunc_L4_ch <;> assumption) | apply ChO.ite | apply ChO.G | apply ChO.both | (apply ChO.bind; intro _)
theorem slices_insertionSortCmpFunc_L1_cn  (a : Int) (b : Int) (c : (List Int)) : Cn (slices_insertionSortCmpFunc_L1_F a b c) := fun g h hg x => slices_insertionSortCmpFunc_L1_B_ch  (fun κ i data_1 => g κ (i, data_1)) (fun i data_1 => h (i, data_1)) (fun i data_1 => hg (i, data_1)) a b c x.1 x.2
theorem slices_insertionSortCmpFunc_L1_eq  (a : Int) (b : Int) (c : (List Int)) (i : Int) (data_1 : (List Int)) : slices_insertionSortCmpFunc_L1 a b c i data_1 = slices_insertionSortCmpFunc_L1_B a b c (slices_insertionSortCmpFunc_L1 a b c) i data_1 := LFix_eq (slices_insertionSortCmpFunc_L1_cn a b c) (i, data_1)

noncomputable def slices_swapRangeCmpFunc_L1_B (a : Int) (b : Int) (n : Int) (r1 : Int → (List Int) → Option (List Int)) (i : Int) (data_1 : (List Int)) : Option (List Int) :=
  if (decide (i < n)) = true then
  G (fits (a + i)) (
  G (fits (b + i)) (
  G (fits (b + i)) (
  G (0 ≤ b + i ∧ b + i < (data_1.length : Int)) (
  G ((b + i).toNat < data_1.length) (
  G (fits (a + i)) (
  G (0 ≤ a + i ∧ a + i < (data_1.length : Int)) (
  G ((a + i).toNat < data_1.length) (
  G (0 ≤ a + i ∧ a + i < (data_1.length : Int)) (
  G ((a + i).toNat < data_1.length) (
  G (0 ≤ b + i ∧ b + i < ((data_1.set (a + i).toNat (ix data_1 (b + i))).length : Int)) (
  G ((b + i).toNat < (data_1.set (a + i).toNat (ix data_1 (b + i))).length) (
  G (fits (i + (1 : Int))) (
  r1 (i + (1 : Int)) ((data_1.set (a + i).toNat (ix data_1 (b + i))).set (b + i).toNat (ix data_1 (a + i)))))))))))))))) else
  some data_1
noncomputable def slices_swapRangeCmpFunc_L1_F (a : Int) (b : Int) (n : Int) : (Int × (List Int) → Option (List Int)) → Int × (List Int) → Option (List Int) :=
  fun rec x => slices_swapRangeCmpFunc_L1_B a b n (fun i data_1 => rec (i, data_1)) x.1 x.2
noncomputable def slices_swapRangeCmpFunc_L1 (a : Int) (b : Int) (n : Int) (i : Int) (data_1 : (List Int)) : Option (List Int) := LFix (slices_swapRangeCmpFunc_L1_F a b n ) (i, data_1)
noncomputable def slices_swapRangeCmpFunc (a : Int) (b : Int) (n : Int) (c : (List Int)) (data : (List Int)) : Option (List Int) :=
  slices_swapRangeCmpFunc_L1 a b n (0 : Int) data
theorem slices_swapRangeCmpFunc_L1_B_ch (r1 : Nat → Int → (List Int) → Option (List Int)) (r1' : Int → (List Int) → Option (List Int)) (h_r1 : ∀ a0 a1, ChO (fun κ => r1 κ a0 a1) (r1' a0 a1)) (a : Int) (b : Int) (n : Int) (i : Int) (data_1 : (List Int)) : ChO (fun κ => slices_swapRangeCmpFunc_L1_B a b n (r1 κ) i data_1) (slices_swapRangeCmpFunc_L1_B a b n r1' i data_1) := by
  unfold slices_swapRangeCmpFunc_L1_B
  repeat' first | exact ChO.const _ | exact h_r1 _ _ | apply ChO.ite | apply ChO.G | apply ChO.both | (apply ChO.bind; intro _)
theorem slices_swapRangeCmpFunc_L1_cn  (a : Int) (b : Int) (n : Int) : Cn (slices_swapRangeCmpFunc_L1_F a b n) := fun g h hg x => slices_swapRangeCmpFunc_L1_B_ch  (fun κ i data_1 => g κ (i, data_1)) (fun i data_1 => h (i, data_1)) (fun i data_1 => hg (i, data_1)) a b n x.1 x.2
theorem slices_swapRangeCmpFunc_L1_eq  (a : Int) (b : Int) (n : Int) (i : Int) (data_1 : (List Int)) : slices_swapRangeCmpFunc_L1 a b n i data_1 = slices_swapRangeCmpFunc_L1_B a b n (slices_swapRangeCmpFunc_L1 a b n) i data_1 := LFix_eq (slices_swapRangeCmpFunc_L1_cn a b n) (i, data_1)

noncomputable def slices_rotateCmpFunc_L2_B (m : Int) (c : (List Int)) (r2 : Int → Int → (List Int) → Option (List Int)) (i : Int) (j : Int) (data_1 : (List Int)) : Option (List Int) :=
  if (decide (¬ i = j)) = true then
  if (decide (j < i)) = true then
  G (fits (m - i)) (
  (slices_swapRangeCmpFunc (m - i) m j c data_1).bind (fun y' =>
  G (fits (i - j)) (
  r2 (i - j) j y'))) else
  G (fits (m - i)) (
  G (fits (m + j)) (
  G (fits ((m + j) - i)) (
  (slices_swapRangeCmpFunc (m - i) ((m + j) - i) i c data_1).bind (fun y'_1 =>
  G (fits (j - i)) (
  r2 i (j - i) y'_1))))) else
  G (fits (m - i)) (
  (slices_swapRangeCmpFunc (m - i) m i c data_1).bind (fun y'_2 =>
  some y'_2))
noncomputable def slices_rotateCmpFunc_L2_F (m : Int) (c : (List Int)) : (Int × Int × (List Int) → Option (List Int)) → Int × Int × (List Int) → Option (List Int) :=
  fun rec x => slices_rotateCmpFunc_L2_B m c (fun i j data_1 => rec (i, j, data_1)) x.1 x.2.1 x.2.2
noncomputable def slices_rotateCmpFunc_L2 (m : Int) (c : (List Int)) (i : Int) (j : Int) (data_1 : (List Int)) : Option (List Int) := LFix (slices_rotateCmpFunc_L2_F m c ) (i, j, data_1)
noncomputable def slices_rotateCmpFunc (a : Int) (m : Int) (b : Int) (c : (List Int)) (data : (List Int)) : Option (List Int) :=
  G (fits (m - a)) (
  G (fits (b - m)) (
  slices_rotateCmpFunc_L2 m c (m - a) (b - m) data))
theorem slices_rotateCmpFunc_L2_B_ch (r2 : Nat → Int → Int → (List Int) → Option (List Int)) (r2' : Int → Int → (List Int) → Option (List Int)) (h_r2 : ∀ a0 a1 a2, ChO (fun κ => r2 κ a0 a1 a2) (r2' a0 a1 a2)) (m : Int) (c : (List Int)) (i : Int) (j : Int) (data_1 : (List Int)) : ChO (fun κ => slices_rotateCmpFunc_L2_B m c (r2 κ) i j data_1) (slices_rotateCmpFunc_L2_B m c r2' i j data_1) := by
  unfold slices_rotateCmpFunc_L2_B
  repeat' first | exact ChO.const _ | exact h_r2 _ _ _ | apply ChO.ite | apply ChO.G | apply ChO.both | (apply ChO.bind; intro _)
theorem slices_rotateCmpFunc_L2_cn  (m : Int) (c : (List Int)) : Cn (slices_rotateCmpFunc_L2_F m c) := fun g h hg x => slices_rotateCmpFunc_L2_B_ch  (fun κ i j data_1 => g κ (i, j, data_1)) (fun i j data_1 => h (i, j, data_1)) (fun i j data_1 => hg (i, j, data_1)) m c x.1 x.2.1 x.2.2
theorem slices_rotateCmpFunc_L2_eq  (m : Int) (c : (List Int)) (i : Int) (j : Int) (data_1 : (List Int)) : slices_rotateCmpFunc_L2 m c i j data_1 = slices_rotateCmpFunc_L2_B m c (slices_rotateCmpFunc_L2 m c) i j data_1 := LFix_eq (slices_rotateCmpFunc_L2_cn m c) (i, j, data_1)

noncomputable def slices_symMergeCmpFunc_L9_B (i : Int) (r9 : Int → (List Int) → Option (List Int)) (k : Int) (data_1 : (List Int)) : Option (List Int) :=
  G (fits (i - (1 : Int))) (
  if (decide (k < (i - (1 : Int)))) = true then
  G (fits (k + (1 : Int))) (
  G (fits (k + (1 : Int))) (
  G (0 ≤ k + (1 : Int) ∧ k + (1 : Int) < (data_1.length : Int)) (
  G ((k + (1 : Int)).toNat < data_1.length) (
  G (0 ≤ k ∧ k < (data_1.length : Int)) (
  G ((k).toNat < data_1.length) (
  G (0 ≤ k ∧ k < (data_1.length : Int)) (
  G ((k).toNat < data_1.length) (
  G (0 ≤ k + (1 : Int) ∧ k + (1 : Int) < ((data_1.set (k).toNat (ix data_1 (k + (1 : Int)))).length : Int)) (
  G ((k + (1 : Int)).toNat < (data_1.set (k).toNat (ix data_1 (k + (1 : Int)))).length) (
  G (fits (k + (1 : Int))) (
  r9 (k + (1 : Int)) ((data_1.set (k).toNat (ix data_1 (k + (1 : Int)))).set (k + (1 : Int)).toNat (ix data_1 k))))))))))))) else
  some data_1)
noncomputable def slices_symMergeCmpFunc_L9_F (i : Int) : (Int × (List Int) → Option (List Int)) → Int × (List Int) → Option (List Int) :=
  fun rec x => slices_symMergeCmpFunc_L9_B i (fun k data_1 => rec (k, data_1)) x.1 x.2
noncomputable def slices_symMergeCmpFunc_L9 (i : Int) (k : Int) (data_1 : (List Int)) : Option (List Int) := LFix (slices_symMergeCmpFunc_L9_F i ) (k, data_1)
noncomputable def slices_symMergeCmpFunc_L3_B (a : Int) (c : (List Int)) (data : (List Int)) (r3 : Int → Int → Option (List Int)) (i : Int) (j : Int) : Option (List Int) :=
  if (decide (i < j)) = true then
  G (fits (i + j)) (
  G (0 ≤ (1 : Int)) (
  G (0 ≤ IntKind.wrap .i64 (ishr .u64 (IntKind.wrap .u64 (i + j)) (1 : Int)) ∧ IntKind.wrap .i64 (ishr .u64 (IntKind.wrap .u64 (i + j)) (1 : Int)) < (data.length : Int)) (
  G ((IntKind.wrap .i64 (ishr .u64 (IntKind.wrap .u64 (i + j)) (1 : Int))).toNat < data.length) (
  G (0 ≤ a ∧ a < (data.length : Int)) (
  G ((a).toNat < data.length) (
  (code_Kraft_2 (ix data (IntKind.wrap .i64 (ishr .u64 (IntKind.wrap .u64 (i + j)) (1 : Int)))) (ix data a) c).bind (fun y' =>
  if (decide (y' < (0 : Int))) = true then
  G (fits ((IntKind.wrap .i64 (ishr .u64 (IntKind.wrap .u64 (i + j)) (1 : Int))) + (1 : Int))) (
  r3 ((IntKind.wrap .i64 (ishr .u64 (IntKind.wrap .u64 (i + j)) (1 : Int))) + (1 : Int)) j) else
  r3 i (IntKind.wrap .i64 (ishr .u64 (IntKind.wrap .u64 (i + j)) (1 : Int)))))))))) else
  slices_symMergeCmpFunc_L9 i a data
noncomputable def slices_symMergeCmpFunc_L3_F (a : Int) (c : (List Int)) (data : (List Int)) : (Int × Int → Option (List Int)) → Int × Int → Option (List Int) :=
  fun rec x => slices_symMergeCmpFunc_L3_B a c data (fun i j => rec (i, j)) x.1 x.2
noncomputable def slices_symMergeCmpFunc_L3 (a : Int) (c : (List Int)) (data : (List Int)) (i : Int) (j : Int) : Option (List Int) := LFix (slices_symMergeCmpFunc_L3_F a c data ) (i, j)
noncomputable def slices_symMergeCmpFunc_L21_B (i_1 : Int) (r21 : Int → (List Int) → Option (List Int)) (k_1 : Int) (data_2 : (List Int)) : Option (List Int) :=
  if (decide (i_1 < k_1)) = true then
  G (fits (k_1 - (1 : Int))) (
  G (fits (k_1 - (1 : Int))) (
  G (0 ≤ k_1 - (1 : Int) ∧ k_1 - (1 : Int) < (data_2.length : Int)) (
  G ((k_1 - (1 : Int)).toNat < data_2.length) (
  G (0 ≤ k_1 ∧ k_1 < (data_2.length : Int)) (
  G ((k_1).toNat < data_2.length) (
  G (0 ≤ k_1 ∧ k_1 < (data_2.length : Int)) (
  G ((k_1).toNat < data_2.length) (
  G (0 ≤ k_1 - (1 : Int) ∧ k_1 - (1 : Int) < ((data_2.set (k_1).toNat (ix data_2 (k_1 - (1 : Int)))).length : Int)) (
  G ((k_1 - (1 : Int)).toNat < (data_2.set (k_1).toNat (ix data_2 (k_1 - (1 : Int)))).length) (
  G (fits (k_1 - (1 : Int))) (
  r21 (k_1 - (1 : Int)) ((data_2.set (k_1).toNat (ix data_2 (k_1 - (1 : Int)))).set (k_1 - (1 : Int)).toNat (ix data_2 k_1))))))))))))) else
  some data_2
noncomputable def slices_symMergeCmpFunc_L21_F (i_1 : Int) : (Int × (List Int) → Option (List Int)) → Int × (List Int) → Option (List Int) :=
  fun rec x => slices_symMergeCmpFunc_L21_B i_1 (fun k_1 data_2 => rec (k_1, data_2)) x.1 x.2
noncomputable def slices_symMergeCmpFunc_L21 (i_1 : Int) (k_1 : Int) (data_2 : (List Int)) : Option (List Int) := LFix (slices_symMergeCmpFunc_L21_F i_1 ) (k_1, data_2)
noncomputable def slices_symMergeCmpFunc_L15_B (m : Int) (c : (List Int)) (data : (List Int)) (r15 : Int → Int → Option (List Int)) (i_1 : Int) (j_1 : Int) : Option (List Int) :=
  if (decide (i_1 < j_1)) = true then
  G (fits (i_1 + j_1)) (
  G (0 ≤ (1 : Int)) (
  G (0 ≤ m ∧ m < (data.length : Int)) (
  G ((m).toNat < data.length) (
  G (0 ≤ IntKind.wrap .i64 (ishr .u64 (IntKind.wrap .u64 (i_1 + j_1)) (1 : Int)) ∧ IntKind.wrap .i64 (ishr .u64 (IntKind.wrap .u64 (i_1 + j_1)) (1 : Int)) < (data.length : Int)) (
  G ((IntKind.wrap .i64 (ishr .u64 (IntKind.wrap .u64 (i_1 + j_1)) (1 : Int))).toNat < data.length) (
  (code_Kraft_2 (ix data m) (ix data (IntKind.wrap .i64 (ishr .u64 (IntKind.wrap .u64 (i_1 + j_1)) (1 : Int)))) c).bind (fun y'_1 =>
  if (!(decide (y'_1 < (0 : Int)))) = true then
  G (fits ((IntKind.wrap .i64 (ishr .u64 (IntKind.wrap .u64 (i_1 + j_1)) (1 : Int))) + (1 : Int))) (
  r15 ((IntKind.wrap .i64 (ishr .u64 (IntKind.wrap .u64 (i_1 + j_1)) (1 : Int))) + (1 : Int)) j_1) else
  r15 i_1 (IntKind.wrap .i64 (ishr .u64 (IntKind.wrap .u64 (i_1 + j_1)) (1 : Int)))))))))) else
  slices_symMergeCmpFunc_L21 i_1 m data
noncomputable def slices_symMergeCmpFunc_L15_F (m : Int) (c : (List Int)) (data : (List Int)) : (Int × Int → Option (List Int)) → Int × Int → Option (List Int) :=
  fun rec x => slices_symMergeCmpFunc_L15_B m c data (fun i_1 j_1 => rec (i_1, j_1)) x.1 x.2
noncomputable def slices_symMergeCmpFunc_L15 (m : Int) (c : (List Int)) (data : (List Int)) (i_1 : Int) (j_1 : Int) : Option (List Int) := LFix (slices_symMergeCmpFunc_L15_F m c data ) (i_1, j_1)
noncomputable def slices_symMergeCmpFunc_J43 (rc_slices_symMergeCmpFunc : Int → Int → Int → (List Int) → (List Int) → Option (List Int)) (a : Int) (m : Int) (b : Int) (c : (List Int)) (start_1 : Int) (data_4 : (List Int)) (t_2 : Bool) : Option (List Int) :=
  if t_2 = true then
  (rc_slices_symMergeCmpFunc (IntKind.wrap .i64 (ishr .u64 (IntKind.wrap .u64 (a + b)) (1 : Int))) (((IntKind.wrap .i64 (ishr .u64 (IntKind.wrap .u64 (a + b)) (1 : Int))) + m) - start_1) b c data_4).bind (fun y'_5 =>
  some y'_5) else
  some data_4
noncomputable def slices_symMergeCmpFunc_J42 (rc_slices_symMergeCmpFunc : Int → Int → Int → (List Int) → (List Int) → Option (List Int)) (a : Int) (m : Int) (b : Int) (c : (List Int)) (start_1 : Int) (data_4 : (List Int)) : Option (List Int) :=
  if (decide ((IntKind.wrap .i64 (ishr .u64 (IntKind.wrap .u64 (a + b)) (1 : Int))) < (((IntKind.wrap .i64 (ishr .u64 (IntKind.wrap .u64 (a + b)) (1 : Int))) + m) - start_1))) = true then
  slices_symMergeCmpFunc_J43 rc_slices_symMergeCmpFunc a m b c start_1 data_4 (decide ((((IntKind.wrap .i64 (ishr .u64 (IntKind.wrap .u64 (a + b)) (1 : Int))) + m) - start_1) < b)) else
  slices_symMergeCmpFunc_J43 rc_slices_symMergeCmpFunc a m b c start_1 data_4 false
noncomputable def slices_symMergeCmpFunc_J41 (rc_slices_symMergeCmpFunc : Int → Int → Int → (List Int) → (List Int) → Option (List Int)) (a : Int) (m : Int) (b : Int) (c : (List Int)) (start_1 : Int) (data_3 : (List Int)) (t_1 : Bool) : Option (List Int) :=
  if t_1 = true then
  (rc_slices_symMergeCmpFunc a start_1 (IntKind.wrap .i64 (ishr .u64 (IntKind.wrap .u64 (a + b)) (1 : Int))) c data_3).bind (fun y'_4 =>
  slices_symMergeCmpFunc_J42 rc_slices_symMergeCmpFunc a m b c start_1 y'_4) else
  slices_symMergeCmpFunc_J42 rc_slices_symMergeCmpFunc a m b c start_1 data_3
noncomputable def slices_symMergeCmpFunc_J40 (rc_slices_symMergeCmpFunc : Int → Int → Int → (List Int) → (List Int) → Option (List Int)) (a : Int) (m : Int) (b : Int) (c : (List Int)) (start_1 : Int) (data_3 : (List Int)) : Option (List Int) :=
  if (decide (a < start_1)) = true then
  slices_symMergeCmpFunc_J41 rc_slices_symMergeCmpFunc a m b c start_1 data_3 (decide (start_1 < (IntKind.wrap .i64 (ishr .u64 (IntKind.wrap .u64 (a + b)) (1 : Int))))) else
  slices_symMergeCmpFunc_J41 rc_slices_symMergeCmpFunc a m b c start_1 data_3 false
noncomputable def slices_symMergeCmpFunc_J39 (rc_slices_symMergeCmpFunc : Int → Int → Int → (List Int) → (List Int) → Option (List Int)) (a : Int) (m : Int) (b : Int) (c : (List Int)) (data : (List Int)) (start_1 : Int) (t : Bool) : Option (List Int) :=
  if t = true then
  (slices_rotateCmpFunc start_1 m (((IntKind.wrap .i64 (ishr .u64 (IntKind.wrap .u64 (a + b)) (1 : Int))) + m) - start_1) c data).bind (fun y'_3 =>
  slices_symMergeCmpFunc_J40 rc_slices_symMergeCmpFunc a m b c start_1 y'_3) else
  slices_symMergeCmpFunc_J40 rc_slices_symMergeCmpFunc a m b c start_1 data
noncomputable def slices_symMergeCmpFunc_L33_B (rc_slices_symMergeCmpFunc : Int → Int → Int → (List Int) → (List Int) → Option (List Int)) (a : Int) (m : Int) (b : Int) (c : (List Int)) (data : (List Int)) (r33 : Int → Int → Option (List Int)) (start_1 : Int) (r_1 : Int) : Option (List Int) :=
  if (decide (start_1 < r_1)) = true then
  G (fits (start_1 + r_1)) (
  G (0 ≤ (1 : Int)) (
  G (fits ((((IntKind.wrap .i64 (ishr .u64 (IntKind.wrap .u64 (a + b)) (1 : Int))) + m) - (1 : Int)) - (IntKind.wrap .i64 (ishr .u64 (IntKind.wrap .u64 (start_1 + r_1)) (1 : Int))))) (
  G (0 ≤ (((IntKind.wrap .i64 (ishr .u64 (IntKind.wrap .u64 (a + b)) (1 : Int))) + m) - (1 : Int)) - (IntKind.wrap .i64 (ishr .u64 (IntKind.wrap .u64 (start_1 + r_1)) (1 : Int))) ∧ (((IntKind.wrap .i64 (ishr .u64 (IntKind.wrap .u64 (a + b)) (1 : Int))) + m) - (1 : Int)) - (IntKind.wrap .i64 (ishr .u64 (IntKind.wrap .u64 (start_1 + r_1)) (1 : Int))) < (data.length : Int)) (
  G (((((IntKind.wrap .i64 (ishr .u64 (IntKind.wrap .u64 (a + b)) (1 : Int))) + m) - (1 : Int)) - (IntKind.wrap .i64 (ishr .u64 (IntKind.wrap .u64 (start_1 + r_1)) (1 : Int)))).toNat < data.length) (
  G (0 ≤ IntKind.wrap .i64 (ishr .u64 (IntKind.wrap .u64 (start_1 + r_1)) (1 : Int)) ∧ IntKind.wrap .i64 (ishr .u64 (IntKind.wrap .u64 (start_1 + r_1)) (1 : Int)) < (data.length : Int)) (
  G ((IntKind.wrap .i64 (ishr .u64 (IntKind.wrap .u64 (start_1 + r_1)) (1 : Int))).toNat < data.length) (
  (code_Kraft_2 (ix data ((((IntKind.wrap .i64 (ishr .u64 (IntKind.wrap .u64 (a + b)) (1 : Int))) + m) - (1 : Int)) - (IntKind.wrap .i64 (ishr .u64 (IntKind.wrap .u64 (start_1 + r_1)) (1 : Int))))) (ix data (IntKind.wrap .i64 (ishr .u64 (IntKind.wrap .u64 (start_1 + r_1)) (1 : Int)))) c).bind (fun y'_2 =>
  if (!(decide (y'_2 < (0 : Int)))) = true then
  G (fits ((IntKind.wrap .i64 (ishr .u64 (IntKind.wrap .u64 (start_1 + r_1)) (1 : Int))) + (1 : Int))) (
  r33 ((IntKind.wrap .i64 (ishr .u64 (IntKind.wrap .u64 (start_1 + r_1)) (1 : Int))) + (1 : Int)) r_1) else
  r33 start_1 (IntKind.wrap .i64 (ishr .u64 (IntKind.wrap .u64 (start_1 + r_1)) (1 : Int))))))))))) else
  G (fits (((IntKind.wrap .i64 (ishr .u64 (IntKind.wrap .u64 (a + b)) (1 : Int))) + m) - start_1)) (
  if (decide (start_1 < m)) = true then
  slices_symMergeCmpFunc_J39 rc_slices_symMergeCmpFunc a m b c data start_1 (decide (m < (((IntKind.wrap .i64 (ishr .u64 (IntKind.wrap .u64 (a + b)) (1 : Int))) + m) - start_1))) else
  slices_symMergeCmpFunc_J39 rc_slices_symMergeCmpFunc a m b c data start_1 false)
noncomputable def slices_symMergeCmpFunc_L33_F (rc_slices_symMergeCmpFunc : Int → Int → Int → (List Int) → (List Int) → Option (List Int)) (a : Int) (m : Int) (b : Int) (c : (List Int)) (data : (List Int)) : (Int × Int → Option (List Int)) → Int × Int → Option (List Int) :=
  fun rec x => slices_symMergeCmpFunc_L33_B rc_slices_symMergeCmpFunc a m b c data (fun start_1 r_1 => rec (start_1, r_1)) x.1 x.2
noncomputable def slices_symMergeCmpFunc_L33 (rc_slices_symMergeCmpFunc : Int → Int → Int → (List Int) → (List Int) → Option (List Int)) (a : Int) (m : Int) (b : Int) (c : (List Int)) (data : (List Int)) (start_1 : Int) (r_1 : Int) : Option (List Int) := LFix (slices_symMergeCmpFunc_L33_F rc_slices_symMergeCmpFunc a m b c data ) (start_1, r_1)
noncomputable def slices_symMergeCmpFunc_J31 (rc_slices_symMergeCmpFunc : Int → Int → Int → (List Int) → (List Int) → Option (List Int)) (a : Int) (m : Int) (b : Int) (c : (List Int)) (data : (List Int)) (start : Int) (r : Int) : Option (List Int) :=
  G (fits (((IntKind.wrap .i64 (ishr .u64 (IntKind.wrap .u64 (a + b)) (1 : Int))) + m) - (1 : Int))) (
  slices_symMergeCmpFunc_L33 rc_slices_symMergeCmpFunc a m b c data start r)
noncomputable def slices_symMergeCmpFunc_B (rc_slices_symMergeCmpFunc : Int → Int → Int → (List Int) → (List Int) → Option (List Int)) (a : Int) (m : Int) (b : Int) (c : (List Int)) (data : (List Int)) : Option (List Int) :=
  G (fits (m - a)) (
  if (decide ((m - a) = (1 : Int))) = true then
  slices_symMergeCmpFunc_L3 a c data m b else
  G (fits (b - m)) (
  if (decide ((b - m) = (1 : Int))) = true then
  slices_symMergeCmpFunc_L15 m c data a m else
  G (fits (a + b)) (
  G (0 ≤ (1 : Int)) (
  G (fits ((IntKind.wrap .i64 (ishr .u64 (IntKind.wrap .u64 (a + b)) (1 : Int))) + m)) (
  if (decide ((IntKind.wrap .i64 (ishr .u64 (IntKind.wrap .u64 (a + b)) (1 : Int))) < m)) = true then
  G (fits (((IntKind.wrap .i64 (ishr .u64 (IntKind.wrap .u64 (a + b)) (1 : Int))) + m) - b)) (
  slices_symMergeCmpFunc_J31 rc_slices_symMergeCmpFunc a m b c data (((IntKind.wrap .i64 (ishr .u64 (IntKind.wrap .u64 (a + b)) (1 : Int))) + m) - b) (IntKind.wrap .i64 (ishr .u64 (IntKind.wrap .u64 (a + b)) (1 : Int)))) else
  slices_symMergeCmpFunc_J31 rc_slices_symMergeCmpFunc a m b c data a m)))))
theorem slices_symMergeCmpFunc_L9_B_ch (r9 : Nat → Int → (List Int) → Option (List Int)) (r9' : Int → (List Int) → Option (List Int)) (h_r9 : ∀ a0 a1, ChO (fun κ => r9 κ a0 a1) (r9' a0 a1)) (i : Int) (k : Int) (data_1 : (List Int)) : ChO (fun κ => slices_symMergeCmpFunc_L9_B i (r9 κ) k data_1) (slices_symMergeCmpFunc_L9_B i r9' k data_1) := by
  unfold slices_symMergeCmpFunc_L9_B
  repeat' first | exact ChO.const _ | exact h_r9 _ _ | apply ChO.ite | apply ChO.G | apply ChO.both | (apply ChO.bind; intro _)
theorem slices_symMergeCmpFunc_L9_cn  (i : Int) : Cn (slices_symMergeCmpFunc_L9_F i) := fun g h hg x => slices_symMergeCmpFunc_L9_B_ch  (fun κ k data_1 => g κ (k, data_1)) (fun k data_1 => h (k, data_1)) (fun k data_1 => hg (k, data_1)) i x.1 x.2
theorem slices_symMergeCmpFunc_L9_eq  (i : Int) (k : Int) (data_1 : (List Int)) : slices_symMergeCmpFunc_L9 i k data_1 = slices_symMergeCmpFunc_L9_B i (slices_symMergeCmpFunc_L9 i) k data_1 := LFix_eq (slices_symMergeCmpFunc_L9_cn i) (k, data_1)
theorem slices_symMergeCmpFunc_L3_B_ch (r3 : Nat → Int → Int → Option (List Int)) (r3' : Int → Int → Option (List Int)) (h_r3 : ∀ a0 a1, ChO (fun κ => r3 κ a0 a1) (r3' a0 a1)) (a : Int) (c : (List Int)) (data : (List Int)) (i : Int) (j : Int) : ChO (fun κ => slices_symMergeCmpFunc_L3_B a c data (r3 κ) i j) (slices_symMergeCmpFunc_L3_B a c data r3' i j) := by
  unfold slices_symMergeCmpFunc_L3_B
  repeat' first | exact ChO.const _ | exact h_r3 _ _ | apply ChO.ite | apply ChO.G | apply ChO.both | (apply ChO.bind; intro _)
theorem slices_symMergeCmpFunc_L3_cn  (a : Int) (c : (List Int)) (data : (List Int)) : Cn (slices_symMergeCmpFunc_L3_F a c data) := fun g h hg x => slices_symMergeCmpFunc_L3_B_ch  (fun κ i j => g κ (i, j)) (fun i j => h (i, j)) (fun i j => hg (i, j)) a c data x.1 x.2
theorem slices_symMergeCmpFunc_L3_eq  (a : Int) (c : (List Int)) (data : (List Int)) (i : Int) (j : Int) : slices_symMergeCmpFunc_L3 a c data i j = slices_symMergeCmpFunc_L3_B a c data (slices_symMergeCmpFunc_L3 a c data) i j := LFix_eq (slices_symMergeCmpFunc_L3_cn a c data) (i, j)
theorem slices_symMergeCmpFunc_L21_B_ch (r21 : Nat → Int → (List Int) → Option (List Int)) (r21' : Int → (List Int) → Option (List Int)) (h_r21 : ∀ a0 a1, ChO (fun κ => r21 κ a0 a1) (r21' a0 a1)) (i_1 : Int) (k_1 : Int) (data_2 : (List Int)) : ChO (fun κ => slices_symMergeCmpFunc_L21_B i_1 (r21 κ) k_1 data_2) (slices_symMergeCmpFunc_L21_B i_1 r21' k_1 data_2) := by
  unfold slices_symMergeCmpFunc_L21_B
  repeat' first | exact ChO.const _ | exact h_r21 _ _ | apply ChO.ite | apply ChO.G | apply ChO.both | (apply ChO.bind; intro _)
theorem slices_symMergeCmpFunc_L21_cn  (i_1 : Int) : Cn (slices_symMergeCmpFunc_L21_F i_1) := fun g h hg x => slices_symMergeCmpFunc_L21_B_ch  (fun κ k_1 data_2 => g κ (k_1, data_2)) (fun k_1 data_2 => h (k_1, data_2)) (fun k_1 data_2 => hg (k_1, data_2)) i_1 x.1 x.2
theorem slices_symMergeCmpFunc_L21_eq  (i_1 : Int) (k_1 : Int) (data_2 : (List Int)) : slices_symMergeCmpFunc_L21 i_1 k_1 data_2 = slices_symMergeCmpFunc_L21_B i_1 (slices_symMergeCmpFunc_L21 i_1) k_1 data_2 := LFix_eq (slices_symMergeCmpFunc_L21_cn i_1) (k_1, data_2)
theorem slices_symMergeCmpFunc_L15_B_ch (r15 : Nat → Int → Int → Option (List Int)) (r15' : Int → Int → Option (List Int)) (h_r15 : ∀ a0 a1, ChO (fun κ => r15 κ a0 a1) (r15' a0 a1)) (m : Int) (c : (List Int)) (data : (List Int)) (i_1 : Int) (j_1 : Int) : ChO (fun κ => slices_symMergeCmpFunc_L15_B m c data (r15 κ) i_1 j_1) (slices_symMergeCmpFunc_L15_B m c data r15' i_1 j_1) := by
  unfold slices_symMergeCmpFunc_L15_B
  repeat' first | exact ChO.const _ | exact h_r15 _ _ | apply ChO.ite | apply ChO.G | apply ChO.both | (apply ChO.bind; intro _)
theorem slices_symMergeCmpFunc_L15_cn  (m : Int) (c : (List Int)) (data : (List Int)) : Cn (slices_symMergeCmpFunc_L15_F m c data) := fun g h hg x => slices_symMergeCmpFunc_L15_B_ch  (fun κ i_1 j_1 => g κ (i_1, j_1)) (fun i_1 j_1 => h (i_1, j_1)) (fun i_1 j_1 => hg (i_1, j_1)) m c data x.1 x.2
theorem slices_symMergeCmpFunc_L15_eq  (m : Int) (c : (List Int)) (data : (List Int)) (i_1 : Int) (j_1 : Int) : slices_symMergeCmpFunc_L15 m c data i_1 j_1 = slices_symMergeCmpFunc_L15_B m c data (slices_symMergeCmpFunc_L15 m c data) i_1 j_1 := LFix_eq (slices_symMergeCmpFunc_L15_cn m c data) (i_1, j_1)
theorem slices_symMergeCmpFunc_J43_ch (rc_slices_symMergeCmpFunc : Nat → Int → Int → Int → (List Int) → (List Int) → Option (List Int)) (rc_slices_symMergeCmpFunc' : Int → Int → Int → (List Int) → (List Int) → Option (List Int)) (h_rc_slices_symMergeCmpFunc : ∀ a0 a1 a2 a3 a4, ChO (fun κ => rc_slices_symMergeCmpFunc κ a0 a1 a2 a3 a4) (rc_slices_symMergeCmpFunc' a0 a1 a2 a3 a4)) (a : Int) (m : Int) (b : Int) (c : (List Int)) (start_1 : Int) (data_4 : (List Int)) (t_2 : Bool) : ChO (fun κ => slices_symMergeCmpFunc_J43 (rc_slices_symMergeCmpFunc κ) a m b c start_1 data_4 t_2) (slices_symMergeCmpFunc_J43 rc_slices_symMergeCmpFunc' a m b c start_1 data_4 t_2) := by
  unfold slices_symMergeCmpFunc_J43
  repeat' first | exact ChO.const _ | exact h_rc_slices_symMergeCmpFunc _ _ _ _ _ | apply ChO.ite | apply ChO.G | apply ChO.both | (apply ChO.bind; intro _) | (apply ChO.bind2 (h_rc_slices_symMergeCmpFunc _ _ _ _ _); intro _)
theorem slices_symMergeCmpFunc_J42_ch (rc_slices_symMergeCmpFunc : Nat → Int → Int → Int → (List Int) → (List Int) → Option (List Int)) (rc_slices_symMergeCmpFunc' : Int → Int → Int → (List Int) → (List Int) → Option (List Int)) (h_rc_slices_symMergeCmpFunc : ∀ a0 a1 a2 a3 a4, ChO (fun κ => rc_slices_symMergeCmpFunc κ a0 a1 a2 a3 a4) (rc_slices_symMergeCmpFunc' a0 a1 a2 a3 a4)) (a : Int) (m : Int) (b : Int) (c : (List Int)) (start_1 : Int) (data_4 : (List Int)) : ChO (fun κ => slices_symMergeCmpFunc_J42 (rc_slices_symMergeCmpFunc κ) a m b c start_1 data_4) (slices_symMergeCmpFunc_J42 rc_slices_symMergeCmpFunc' a m b c start_1 data_4) := by
  unfold slices_symMergeCmpFunc_J42
  repeat' first | exact ChO.const _ | exact h_rc_slices_symMergeCmpFunc _ _ _ _ _ | (apply slices_symMergeCmpFunc_J43_ch <;> assumption) | apply ChO.ite | apply ChO.G | apply ChO.both | (apply ChO.bind; intro _) | (apply ChO.bind2 (h_rc_slices_symMergeCmpFunc _ _ _ _ _); intro _)
theorem slices_symMergeCmpFunc_J41_ch (rc_slices_symMergeCmpFunc : Nat → Int → Int → Int → (List Int) → (List Int) → Option (List Int)) (rc_slices_symMergeCmpFunc' : Int → Int → Int → (List Int) → (List Int) → Option (List Int)) (h_rc_slices_symMergeCmpFunc : ∀ a0 a1 a2 a3 a4, ChO (fun κ => rc_slices_symMergeCmpFunc κ a0 a1 a2 a3 a4) (rc_slices_symMergeCmpFunc' a0 a1 a2 a3 a4)) (a : Int) (m : Int) (b : Int) (c : (List Int)) (start_1 : Int) (data_3 : (List Int)) (t_1 : Bool) : ChO (fun κ => slices_symMergeCmpFunc_J41 (rc_slices_symMergeCmpFunc κ) a m b c start_1 data_3 t_1) (slices_symMergeCmpFunc_J41 rc_slices_symMergeCmpFunc' a m b c start_1 data_3 t_1) := by
  unfold slices_symMergeCmpFunc_J41
  repeat' first | exact ChO.const _ | exact h_rc_slices_symMergeCmpFunc _ _ _ _ _ | (apply slices_symMergeCmpFunc_J43_ch <;> assumption) | (apply slices_symMergeCmpFunc_J42_ch <;> assumption) | apply ChO.ite | apply ChO.G | apply ChO.both | (apply ChO.bind; intro _) | (apply ChO.bind2 (h_rc_slices_symMergeCmpFunc _ _ _ _ _); intro _)
theorem slices_symMergeCmpFunc_J40_ch (rc_slices_symMergeCmpFunc : Nat → Int → Int → Int → (List Int) → (List Int) → Option (List Int)) (rc_slices_symMergeCmpFunc' : Int → Int → Int → (List Int) → (List Int) → Option (List Int)) (h_rc_slices_symMergeCmpFunc : ∀ a0 a1 a2 a3 a4, ChO (fun κ => rc_slices_symMergeCmpFunc κ a0 a1 a2 a3 a4) (rc_slices_symMergeCmpFunc' a0 a1 a2 a3 a4)) (a : Int) (m : Int) (b : Int) (c : (List Int)) (start_1 : Int) (data_3 : (List Int)) : ChO (fun κ => slices_symMergeCmpFunc_J40 (rc_slices_symMergeCmpFunc κ) a m b c start_1 data_3) (slices_symMergeCmpFunc_J40 rc_slices_symMergeCmpFunc' a m b c start_1 data_3) := by
  unfold slices_symMergeCmpFunc_J40
  repeat' first | exact ChO.const _ | exact h_rc_slices_symMergeCmpFunc _ _ _ _ _ | (apply slices_symMergeCmpFunc_J43_ch <;> assumption) | (apply slices_symMergeCmpFunc_J42_ch <;> assumption) | (apply slices_symMergeCmpFunc_J41_ch <;> assumption) | apply ChO.ite | apply ChO.G | apply ChO.both | (apply ChO.bind; intro _) | (apply ChO.bind2 (h_rc_slices_symMergeCmpFunc _ _ _ _ _); intro _)
theorem slices_symMergeCmpFunc_J39_ch (rc_slices_symMergeCmpFunc : Nat → Int → Int → Int → (List Int) → (List Int) → Option (List Int)) (rc_slices_symMergeCmpFunc' : Int → Int → Int → (List Int) → (List Int) → Option (List Int)) (h_rc_slices_symMergeCmpFunc : ∀ a0 a1 a2 a3 a4, ChO (fun κ => rc_slices_symMergeCmpFunc κ a0 a1 a2 a3 a4) (rc_slices_symMergeCmpFunc' a0 a1 a2 a3 a4)) (a : Int) (m : Int) (b : Int) (c : (List Int)) (data : (List Int)) (start_1 : Int) (t : Bool) : ChO (fun κ => slices_symMergeCmpFunc_J39 (rc_slices_symMergeCmpFunc κ) a m b c data start_1 t) (slices_symMergeCmpFunc_J39 rc_slices_symMergeCmpFunc' a m b c data start_1 t) := by
  unfold slices_symMergeCmpFunc_J39
  repeat' first | exact ChO.const _ | exact h_rc_slices_symMergeCmpFunc _ _ _ _ _ | (apply slices_symMergeCmpFunc_J43_ch <;> assumption) | (apply slices_symMergeCmpFunc_J42_ch <;> assumption) | (apply slices_symMergeCmpFunc_J41_ch <;> assumption) | (apply slices_symMergeCmpFunc_J40_ch <;> assumption) | apply ChO.ite | apply ChO.G | apply ChO.both | (apply ChO.bind; intro _) | (apply ChO.bind2 (h_rc_slices_symMergeCmpFunc _ _ _ _ _); intro _)
theorem slices_symMergeCmpFunc_L33_B_ch (rc_slices_symMergeCmpFunc : Nat → Int → Int → Int → (List Int) → (List Int) → Option (List Int)) (rc_slices_symMergeCmpFunc' : Int → Int → Int → (List Int) → (List Int) → Option (List Int)) (h_rc_slices_symMergeCmpFunc : ∀ a0 a1 a2 a3 a4, ChO (fun κ => rc_slices_symMergeCmpFunc κ a0 a1 a2 a3 a4) (rc_slices_symMergeCmpFunc' a0 a1 a2 a3 a4)) (r33 : Nat → Int → Int → Option (List Int)) (r33' : Int → Int → Option (List Int)) (h_r33 : ∀ a0 a1, ChO (fun κ => r33 κ a0 a1) (r33' a0 a1)) (a : Int) (m : Int) (b : Int) (c : (List Int)) (data : (List Int)) (start_1 : Int) (r_1 : Int) : ChO (fun κ => slices_symMergeCmpFunc_L33_B (rc_slices_symMergeCmpFunc κ) a m b c data (r33 κ) start_1 r_1) (slices_symMergeCmpFunc_L33_B rc_slices_symMergeCmpFunc' a m b c data r33' start_1 r_1) := by
  unfold slices_symMergeCmpFunc_L33_B
  repeat' first | exact ChO.const _ | exact h_rc_slices_symMergeCmpFunc _ _ _ _ _ | exact h_r33 _ _ | (apply slices_symMergeCmpFunc_J43_ch <;> assumption) | (apply slices_symMergeCmpFunc_J42_ch <;> assumption) | (apply slices_symMergeCmpFunc_J41_ch <;> assumption) | (apply slices_symMergeCmpFunc_J40_ch <;> assumption) | (apply slices_symMergeCmpFunc_J39_ch <;> assumption) | apply ChO.ite | apply ChO.G | apply ChO.both | (apply ChO.bind; intro _) | (apply ChO.bind2 (h_rc_slices_symMergeCmpFunc _ _ _ _ _); intro _)
theorem slices_symMergeCmpFunc_L33_cn (rc_slices_symMergeCmpFunc : Int → Int → Int → (List Int) → (List Int) → Option (List Int)) (a : Int) (m : Int) (b : Int) (c : (List Int)) (data : (List Int)) : Cn (slices_symMergeCmpFunc_L33_F rc_slices_symMergeCmpFunc a m b c data) := fun g h hg x => slices_symMergeCmpFunc_L33_B_ch (fun _ => rc_slices_symMergeCmpFunc) rc_slices_symMergeCmpFunc (fun _ _ _ _ _ => ChO.const _) (fun κ start_1 r_1 => g κ (start_1, r_1)) (fun start_1 r_1 => h (start_1, r_1)) (fun start_1 r_1 => hg (start_1, r_1)) a m b c data x.1 x.2
theorem slices_symMergeCmpFunc_L33_eq (rc_slices_symMergeCmpFunc : Int → Int → Int → (List Int) → (List Int) → Option (List Int)) (a : Int) (m : Int) (b : Int) (c : (List Int)) (data : (List Int)) (start_1 : Int) (r_1 : Int) : slices_symMergeCmpFunc_L33 rc_slices_symMergeCmpFunc a m b c data start_1 r_1 = slices_symMergeCmpFunc_L33_B rc_slices_symMergeCmpFunc a m b c data (slices_symMergeCmpFunc_L33 rc_slices_symMergeCmpFunc a m b c data) start_1 r_1 := LFix_eq (slices_symMergeCmpFunc_L33_cn rc_slices_symMergeCmpFunc a m b c data) (start_1, r_1)
theorem slices_symMergeCmpFunc_L33_ch (rc_slices_symMergeCmpFunc : Nat → Int → Int → Int → (List Int) → (List Int) → Option (List Int)) (rc_slices_symMergeCmpFunc' : Int → Int → Int → (List Int) → (List Int) → Option (List Int)) (h_rc_slices_symMergeCmpFunc : ∀ a0 a1 a2 a3 a4, ChO (fun κ => rc_slices_symMergeCmpFunc κ a0 a1 a2 a3 a4) (rc_slices_symMergeCmpFunc' a0 a1 a2 a3 a4)) (a : Int) (m : Int) (b : Int) (c : (List Int)) (data : (List Int)) (start_1 : Int) (r_1 : Int) : ChO (fun κ => slices_symMergeCmpFunc_L33 (rc_slices_symMergeCmpFunc κ) a m b c data start_1 r_1) (slices_symMergeCmpFunc_L33 rc_slices_symMergeCmpFunc' a m b c data start_1 r_1) := by
  unfold slices_symMergeCmpFunc_L33
  exact LFix_ch (fun κ => (slices_symMergeCmpFunc_L33_cn (rc_slices_symMergeCmpFunc κ) a m b c data).mono) (slices_symMergeCmpFunc_L33_cn rc_slices_symMergeCmpFunc' a m b c data).mono (fun g h hg x => slices_symMergeCmpFunc_L33_B_ch rc_slices_symMergeCmpFunc rc_slices_symMergeCmpFunc' h_rc_slices_symMergeCmpFunc (fun κ start_1 r_1 => g κ (start_1, r_1)) (fun start_1 r_1 => h (start_1, r_1)) (fun start_1 r_1 => hg (start_1, r_1)) a m b c data x.1 x.2) _
theorem slices_symMergeCmpFunc_J31_ch (rc_slices_symMergeCmpFunc : Nat → Int → Int → Int → (List Int) → (List Int) → Option (List Int)) (rc_slices_symMergeCmpFunc' : Int → Int → Int → (List Int) → (List Int) → Option (List Int)) (h_rc_slices_symMergeCmpFunc : ∀ a0 a1 a2 a3 a4, ChO (fun κ => rc_slices_symMergeCmpFunc κ a0 a1 a2 a3 a4) (rc_slices_symMergeCmpFunc' a0 a1 a2 a3 a4)) (a : Int) (m : Int) (b : Int) (c : (List Int)) (data : (List Int)) (start : Int) (r : Int) : ChO (fun κ => slices_symMergeCmpFunc_J31 (rc_slices_symMergeCmpFunc κ) a m b c data start r) (slices_symMergeCmpFunc_J31 rc_slices_symMergeCmpFunc' a m b c data start r) := by
  unfold slices_symMergeCmpFunc_J31
  repeat' first | exact ChO.const _ | exact h_rc_slices_symMergeCmpFunc _ _ _ _ _ | (apply slices_symMergeCmpFunc_J43_ch <;> assumption) | (apply slices_symMergeCmpFunc_J42_ch <;> assumption) | (apply slices_symMergeCmpFunc_J41_ch <;> assumption) | (apply slices_symMergeCmpFunc_J40_ch <;> assumption) | (apply slices_symMergeCmpFunc_J39_ch <;> assumption) | (apply slices_symMergeCmpFunc_L33_ch <;> assumption) | apply ChO.ite | apply ChO.G | apply ChO.both | (apply ChO.bind; intro _) | (apply ChO.bind2 (h_rc_slices_symMergeCmpFunc _ _ _ _ _); intro _)
theorem slices_symMergeCmpFunc_B_ch (rc_slices_symMergeCmpFunc : Nat → Int → Int → Int → (List Int) → (List Int) → Option (List Int)) (rc_slices_symMergeCmpFunc' : Int → Int → Int → (List Int) → (List Int) → Option (List Int)) (h_rc_slices_symMergeCmpFunc : ∀ a0 a1 a2 a3 a4, ChO (fun κ => rc_slices_symMergeCmpFunc κ a0 a1 a2 a3 a4) (rc_slices_symMergeCmpFunc' a0 a1 a2 a3 a4)) (a : Int) (m : Int) (b : Int) (c : (List Int)) (data : (List Int)) : ChO (fun κ => slices_symMergeCmpFunc_B (rc_slices_symMergeCmpFunc κ) a m b c data) (slices_symMergeCmpFunc_B rc_slices_symMergeCmpFunc' a m b c data) := by
  unfold slices_symMergeCmpFunc_B
  repeat' first | exact ChO.const _ | exact h_rc_slices_symMergeCmpFunc _ _ _ _ _ | (apply slices_symMergeCmpFunc_J43_ch <;> assumption) | (apply slices_symMergeCmpFunc_J42_ch <;> assumption) | (apply slices_symMergeCmpFunc_J41_ch <;> assumption) | (apply slices_symMergeCmpFunc_J40_ch <;> assumption) | (apply slices_symMergeCmpFunc_J39_ch <;> assumption) | (apply slices_symMergeCmpFunc_L33_ch <;> assumption) | (apply slices_symMergeCmpFunc_J31_ch <;> assumption) | apply ChO.ite | apply ChO.G | apply ChO.both | (apply ChO.bind; intro _) | (apply ChO.bind2 (h_rc_slices_symMergeCmpFunc _ _ _ _ _); intro _)
noncomputable def slices_symMergeCmpFunc_F : (Int × Int × Int × (List Int) × (List Int) → Option (List Int)) → Int × Int × Int × (List Int) × (List Int) → Option (List Int) :=
  fun rec X => slices_symMergeCmpFunc_B (fun a m b c data => rec (a, m, b, c, data)) X.1 X.2.1 X.2.2.1 X.2.2.2.1 X.2.2.2.2
noncomputable def slices_symMergeCmpFunc (a : Int) (m : Int) (b : Int) (c : (List Int)) (data : (List Int)) : Option (List Int) := LFix slices_symMergeCmpFunc_F (a, m, b, c, data)
theorem slices_symMergeCmpFunc_cn : Cn slices_symMergeCmpFunc_F := fun g h hg X => slices_symMergeCmpFunc_B_ch _ _ (fun a m b c data => hg (a, m, b, c, data)) X.1 X.2.1 X.2.2.1 X.2.2.2.1 X.2.2.2.2
theorem slices_symMergeCmpFunc_eq (a : Int) (m : Int) (b : Int) (c : (List Int)) (data : (List Int)) : slices_symMergeCmpFunc a m b c data = slices_symMergeCmpFunc_B slices_symMergeCmpFunc a m b c data := LFix_eq slices_symMergeCmpFunc_cn (a, m, b, c, data)

noncomputable def slices_stableCmpFunc_L9_B (n : Int) (c : (List Int)) (blockSize : Int) (r7 : (Int → (List Int) → Option (List Int))) (r9 : Int → Int → (List Int) → Option (List Int)) (a_1 : Int) (b_1 : Int) (data_3 : (List Int)) : Option (List Int) :=
  if (decide (b_1 ≤ n)) = true then
  G (fits (a_1 + blockSize)) (
  (slices_symMergeCmpFunc a_1 (a_1 + blockSize) b_1 c data_3).bind (fun y'_2 =>
  G (fits ((2 : Int) * blockSize)) (
  G (fits (b_1 + ((2 : Int) * blockSize))) (
  r9 b_1 (b_1 + ((2 : Int) * blockSize)) y'_2)))) else
  G (fits (a_1 + blockSize)) (
  if (decide ((a_1 + blockSize) < n)) = true then
  (slices_symMergeCmpFunc a_1 (a_1 + blockSize) n c data_3).bind (fun y'_3 =>
  G (fits (blockSize * (2 : Int))) (
  r7 (blockSize * (2 : Int)) y'_3)) else
  G (fits (blockSize * (2 : Int))) (
  r7 (blockSize * (2 : Int)) data_3))
noncomputable def slices_stableCmpFunc_L9_F (n : Int) (c : (List Int)) (blockSize : Int) (r7 : (Int → (List Int) → Option (List Int))) : (Int × Int × (List Int) → Option (List Int)) → Int × Int × (List Int) → Option (List Int) :=
  fun rec x => slices_stableCmpFunc_L9_B n c blockSize r7 (fun a_1 b_1 data_3 => rec (a_1, b_1, data_3)) x.1 x.2.1 x.2.2
noncomputable def slices_stableCmpFunc_L9 (n : Int) (c : (List Int)) (blockSize : Int) (r7 : (Int → (List Int) → Option (List Int))) (a_1 : Int) (b_1 : Int) (data_3 : (List Int)) : Option (List Int) := LFix (slices_stableCmpFunc_L9_F n c blockSize r7 ) (a_1, b_1, data_3)
noncomputable def slices_stableCmpFunc_L7_B (n : Int) (c : (List Int)) (r7 : Int → (List Int) → Option (List Int)) (blockSize : Int) (data_2 : (List Int)) : Option (List Int) :=
  if (decide (blockSize < n)) = true then
  G (fits ((2 : Int) * blockSize)) (
  slices_stableCmpFunc_L9 n c blockSize r7 (0 : Int) ((2 : Int) * blockSize) data_2) else
  some data_2
noncomputable def slices_stableCmpFunc_L7_F (n : Int) (c : (List Int)) : (Int × (List Int) → Option (List Int)) → Int × (List Int) → Option (List Int) :=
  fun rec x => slices_stableCmpFunc_L7_B n c (fun blockSize data_2 => rec (blockSize, data_2)) x.1 x.2
noncomputable def slices_stableCmpFunc_L7 (n : Int) (c : (List Int)) (blockSize : Int) (data_2 : (List Int)) : Option (List Int) := LFix (slices_stableCmpFunc_L7_F n c ) (blockSize, data_2)
noncomputable def slices_stableCmpFunc_L2_B (n : Int) (c : (List Int)) (r2 : Int → Int → (List Int) → Option (List Int)) (a : Int) (b : Int) (data_1 : (List Int)) : Option (List Int) :=
  if (decide (b ≤ n)) = true then
  (slices_insertionSortCmpFunc a b c data_1).bind (fun y' =>
  G (fits (b + (20 : Int))) (
  r2 b (b + (20 : Int)) y')) else
  (slices_insertionSortCmpFunc a n c data_1).bind (fun y'_1 =>
  slices_stableCmpFunc_L7 n c (20 : Int) y'_1)
noncomputable def slices_stableCmpFunc_L2_F (n : Int) (c : (List Int)) : (Int × Int × (List Int) → Option (List Int)) → Int × Int × (List Int) → Option (List Int) :=
  fun rec x => slices_stableCmpFunc_L2_B n c (fun a b data_1 => rec (a, b, data_1)) x.1 x.2.1 x.2.2
noncomputable def slices_stableCmpFunc_L2 (n : Int) (c : (List Int)) (a : Int) (b : Int) (data_1 : (List Int)) : Option (List Int) := LFix (slices_stableCmpFunc_L2_F n c ) (a, b, data_1)
noncomputable def slices_stableCmpFunc (n : Int) (c : (List Int)) (data : (List Int)) : Option (List Int) :=
  slices_stableCmpFunc_L2 n c (0 : Int) (20 : Int) data
theorem slices_stableCmpFunc_L9_B_ch (r7 : Nat → Int → (List Int) → Option (List Int)) (r7' : Int → (List Int) → Option (List Int)) (h_r7 : ∀ a0 a1, ChO (fun κ => r7 κ a0 a1) (r7' a0 a1)) (r9 : Nat → Int → Int → (List Int) → Option (List Int)) (r9' : Int → Int → (List Int) → Option (List Int)) (h_r9 : ∀ a0 a1 a2, ChO (fun κ => r9 κ a0 a1 a2) (r9' a0 a1 a2)) (n : Int) (c : (List Int)) (blockSize : Int) (a_1 : Int) (b_1 : Int) (data_3 : (List Int)) : ChO (fun κ => slices_stableCmpFunc_L9_B n c blockSize (r7 κ) (r9 κ) a_1 b_1 data_3) (slices_stableCmpFunc_L9_B n c blockSize r7' r9' a_1 b_1 data_3) := by
  unfold slices_stableCmpFunc_L9_B
  repeat' first | exact ChO.const _ | exact h_r7 _ _ | exact h_r9 _ _ _ | apply ChO.ite | apply ChO.G | apply ChO.both | (apply ChO.bind; intro _)
theorem slices_stableCmpFunc_L9_cn (r7 : Int → (List Int) → Option (List Int)) (n : Int) (c : (List Int)) (blockSize : Int) : Cn (slices_stableCmpFunc_L9_F n c blockSize r7) := fun g h hg x => slices_stableCmpFunc_L9_B_ch (fun _ => r7) r7 (fun _ _ => ChO.const _) (fun κ a_1 b_1 data_3 => g κ (a_1, b_1, data_3)) (fun a_1 b_1 data_3 => h (a_1, b_1, data_3)) (fun a_1 b_1 data_3 => hg (a_1, b_1, data_3)) n c blockSize x.1 x.2.1 x.2.2
theorem slices_stableCmpFunc_L9_eq (r7 : Int → (List Int) → Option (List Int)) (n : Int) (c : (List Int)) (blockSize : Int) (a_1 : Int) (b_1 : Int) (data_3 : (List Int)) : slices_stableCmpFunc_L9 n c blockSize r7 a_1 b_1 data_3 = slices_stableCmpFunc_L9_B n c blockSize r7 (slices_stableCmpFunc_L9 n c blockSize r7) a_1 b_1 data_3 := LFix_eq (slices_stableCmpFunc_L9_cn r7 n c blockSize) (a_1, b_1, data_3)
theorem slices_stableCmpFunc_L9_ch (r7 : Nat → Int → (List Int) → Option (List Int)) (r7' : Int → (List Int) → Option (List Int)) (h_r7 : ∀ a0 a1, ChO (fun κ => r7 κ a0 a1) (r7' a0 a1)) (n : Int) (c : (List Int)) (blockSize : Int) (a_1 : Int) (b_1 : Int) (data_3 : (List Int)) : ChO (fun κ => slices_stableCmpFunc_L9 n c blockSize (r7 κ) a_1 b_1 data_3) (slices_stableCmpFunc_L9 n c blockSize r7' a_1 b_1 data_3) := by
  unfold slices_stableCmpFunc_L9
  exact LFix_ch (fun κ => (slices_stableCmpFunc_L9_cn (r7 κ) n c blockSize).mono) (slices_stableCmpFunc_L9_cn r7' n c blockSize).mono (fun g h hg x => slices_stableCmpFunc_L9_B_ch r7 r7' h_r7 (fun κ a_1 b_1 data_3 => g κ (a_1, b_1, data_3)) (fun a_1 b_1 data_3 => h (a_1, b_1, data_3)) (fun a_1 b_1 data_3 => hg (a_1, b_1, data_3)) n c blockSize x.1 x.2.1 x.2.2) _
theorem slices_stableCmpFunc_L7_B_ch (r7 : Nat → Int → (List Int) → Option (List Int)) (r7' : Int → (List Int) → Option (List Int)) (h_r7 : ∀ a0 a1, ChO (fun κ => r7 κ a0 a1) (r7' a0 a1)) (n : Int) (c : (List Int)) (blockSize : Int) (data_2 : (List Int)) : ChO (fun κ => slices_stableCmpFunc_L7_B n c (r7 κ) blockSize data_2) (slices_stableCmpFunc_L7_B n c r7' blockSize data_2) := by
  unfold slices_stableCmpFunc_L7_B
  repeat' first | exact ChO.const _ | exact h_r7 _ _ | (apply slices_stableCmpFunc_L9_ch <;> assumption) | apply ChO.ite | apply ChO.G | apply ChO.both | (apply ChO.bind; intro _)
theorem slices_stableCmpFunc_L7_cn  (n : Int) (c : (List Int)) : Cn (slices_stableCmpFunc_L7_F n c) := fun g h hg x => slices_stableCmpFunc_L7_B_ch  (fun κ blockSize data_2 => g κ (blockSize, data_2)) (fun blockSize data_2 => h (blockSize, data_2)) (fun blockSize data_2 => hg (blockSize, data_2)) n c x.1 x.2
theorem slices_stableCmpFunc_L7_eq  (n : Int) (c : (List Int)) (blockSize : Int) (data_2 : (List Int)) : slices_stableCmpFunc_L7 n c blockSize data_2 = slices_stableCmpFunc_L7_B n c (slices_stableCmpFunc_L7 n c) blockSize data_2 := LFix_eq (slices_stableCmpFunc_L7_cn n c) (blockSize, data_2)
theorem slices_stableCmpFunc_L2_B_ch (r2 : Nat → Int → Int → (List Int) → Option (List Int)) (r2' : Int → Int → (List Int) → Option (List Int)) (h_r2 : ∀ a0 a1 a2, ChO (fun κ => r2 κ a0 a1 a2) (r2' a0 a1 a2)) (n : Int) (c : (List Int)) (a : Int) (b : Int) (data_1 : (List Int)) : ChO (fun κ => slices_stableCmpFunc_L2_B n c (r2 κ) a b data_1) (slices_stableCmpFunc_L2_B n c r2' a b data_1) := by
  unfold slices_stableCmpFunc_L2_B
  repeat' first | exact ChO.const _ | exact h_r2 _ _ _ | (apply slices_stableCmpFunc_L9_ch <;> assumption) | apply ChO.ite | apply ChO.G | apply ChO.both | (apply ChO.bind; intro _)
theorem slices_stableCmpFunc_L2_cn  (n : Int) (c : (List Int)) : Cn (slices_stableCmpFunc_L2_F n c) := fun g h hg x => slices_stableCmpFunc_L2_B_ch  (fun κ a b data_1 => g κ (a, b, data_1)) (fun a b data_1 => h (a, b, data_1)) (fun a b data_1 => hg (a, b, data_1)) n c x.1 x.2.1 x.2.2
theorem slices_stableCmpFunc_L2_eq  (n : Int) (c : (List Int)) (a : Int) (b : Int) (data_1 : (List Int)) : slices_stableCmpFunc_L2 n c a b data_1 = slices_stableCmpFunc_L2_B n c (slices_stableCmpFunc_L2 n c) a b data_1 := LFix_eq (slices_stableCmpFunc_L2_cn n c) (a, b, data_1)

noncomputable def slices_SortStableFunc (c : (List Int)) (x' : (List Int)) : Option (List Int) :=
  (slices_stableCmpFunc (x'.length : Int) c x').bind (fun y' =>
  some y')

noncomputable def slices_Clone (s : (List Int)) : Option (List Int) :=
  if s.length = 0 then both [(.list (.int .i64))] (
  some ([])) (
  G (room ([] : List Int) s 8) (
  some (([] : List Int) ++ s))) else
  G (room ([] : List Int) s 8) (
  some (([] : List Int) ++ s))

noncomputable def code_Kraft_J25_1 (k : Int) (r25 : (Int → (List Int) → Option (Bool × Int × (List (List Int))))) (t_3 : Bool) (next'_4 : (List Int)) : Option (Bool × Int × (List (List Int))) :=
  G (0 ≤ k ∧ k < (next'_4.length : Int)) (
  G ((k).toNat < next'_4.length) (
  G (fits (k - (1 : Int))) (
  r25 (k - (1 : Int)) (next'_4.set (k).toNat (0 : Int)))))
noncomputable def code_Kraft_J30 (t_1 : Int) (r17 : (Bool → Int → (List (List Int)) → (List Int) → Option (Bool × Int × (List (List Int))))) (ok_1 : Bool) (l_1 : (List (List Int))) (next'_5 : (List Int)) : Option (Bool × Int × (List (List Int))) :=
  G (fits (t_1 + (1 : Int))) (
  r17 ok_1 (t_1 + (1 : Int)) l_1 next'_5)
noncomputable def code_Kraft_J25 (y'_1 : (List Int)) (t_1 : Int) (l : (List (List Int))) (r17 : (Bool → Int → (List (List Int)) → (List Int) → Option (Bool × Int × (List (List Int))))) (y'_2 : (List Int)) (k : Int) (r25 : (Int → (List Int) → Option (Bool × Int × (List (List Int))))) (t_2 : Bool) (next'_3 : (List Int)) : Option (Bool × Int × (List (List Int))) :=
  if t_2 = true then
  code_Kraft_J25_1 k r25 t_2 next'_3 else
  if (decide ((0 : Int) ≤ k)) = true then
  G (0 ≤ k ∧ k < (next'_3.length : Int)) (
  G ((k).toNat < next'_3.length) (
  G (fits ((ix next'_3 k) + (1 : Int))) (
  G (0 ≤ k ∧ k < (next'_3.length : Int)) (
  G ((k).toNat < next'_3.length) (
  code_Kraft_J30 t_1 r17 (decide ((0 : Int) ≤ k)) (l.set (ix y'_1 t_1).toNat y'_2) (next'_3.set (k).toNat ((ix next'_3 k) + (1 : Int)))))))) else
  code_Kraft_J30 t_1 r17 (decide ((0 : Int) ≤ k)) (l.set (ix y'_1 t_1).toNat y'_2) next'_3
noncomputable def code_Kraft_L25_B (letters : Int) (y'_1 : (List Int)) (t_1 : Int) (l : (List (List Int))) (r17 : (Bool → Int → (List (List Int)) → (List Int) → Option (Bool × Int × (List (List Int))))) (y'_2 : (List Int)) (r25 : Int → (List Int) → Option (Bool × Int × (List (List Int)))) (k : Int) (next'_2 : (List Int)) : Option (Bool × Int × (List (List Int))) :=
  if (decide ((0 : Int) ≤ k)) = true then
  G (0 ≤ k ∧ k < (next'_2.length : Int)) (
  G ((k).toNat < next'_2.length) (
  G (fits (letters - (1 : Int))) (
  code_Kraft_J25 y'_1 t_1 l r17 y'_2 k r25 (decide ((ix next'_2 k) = (letters - (1 : Int)))) next'_2))) else
  code_Kraft_J25 y'_1 t_1 l r17 y'_2 k r25 false next'_2
noncomputable def code_Kraft_L25_F (letters : Int) (y'_1 : (List Int)) (t_1 : Int) (l : (List (List Int))) (r17 : (Bool → Int → (List (List Int)) → (List Int) → Option (Bool × Int × (List (List Int))))) (y'_2 : (List Int)) : (Int × (List Int) → Option (Bool × Int × (List (List Int)))) → Int × (List Int) → Option (Bool × Int × (List (List Int))) :=
  fun rec x => code_Kraft_L25_B letters y'_1 t_1 l r17 y'_2 (fun k next'_2 => rec (k, next'_2)) x.1 x.2
noncomputable def code_Kraft_L25 (letters : Int) (y'_1 : (List Int)) (t_1 : Int) (l : (List (List Int))) (r17 : (Bool → Int → (List (List Int)) → (List Int) → Option (Bool × Int × (List (List Int))))) (y'_2 : (List Int)) (k : Int) (next'_2 : (List Int)) : Option (Bool × Int × (List (List Int))) := LFix (code_Kraft_L25_F letters y'_1 t_1 l r17 y'_2 ) (k, next'_2)
noncomputable def code_Kraft_L21_B (letters : Int) (sizes : (List Int)) (y'_1 : (List Int)) (t_1 : Int) (l : (List (List Int))) (r17 : (Bool → Int → (List (List Int)) → (List Int) → Option (Bool × Int × (List (List Int))))) (r21 : (List Int) → Option (Bool × Int × (List (List Int)))) (next'_1 : (List Int)) : Option (Bool × Int × (List (List Int))) :=
  G (0 ≤ ix y'_1 t_1 ∧ ix y'_1 t_1 < (sizes.length : Int)) (
  if (decide ((next'_1.length : Int) < (ix sizes (ix y'_1 t_1)))) = true then
  G (room next'_1 ([(0 : Int)]) 8) (
  r21 (next'_1 ++ ([(0 : Int)]))) else
  (slices_Clone next'_1).bind (fun y'_2 =>
  G (0 ≤ ix y'_1 t_1 ∧ ix y'_1 t_1 < (l.length : Int)) (
  G ((ix y'_1 t_1).toNat < l.length) (
  G (fits ((next'_1.length : Int) - (1 : Int))) (
  code_Kraft_L25 letters y'_1 t_1 l r17 y'_2 ((next'_1.length : Int) - (1 : Int)) next'_1)))))
noncomputable def code_Kraft_L21_F (letters : Int) (sizes : (List Int)) (y'_1 : (List Int)) (t_1 : Int) (l : (List (List Int))) (r17 : (Bool → Int → (List (List Int)) → (List Int) → Option (Bool × Int × (List (List Int))))) : (List Int → Option (Bool × Int × (List (List Int)))) → List Int → Option (Bool × Int × (List (List Int))) :=
  fun rec x => code_Kraft_L21_B letters sizes y'_1 t_1 l r17 (fun next'_1 => rec next'_1) x
noncomputable def code_Kraft_L21 (letters : Int) (sizes : (List Int)) (y'_1 : (List Int)) (t_1 : Int) (l : (List (List Int))) (r17 : (Bool → Int → (List (List Int)) → (List Int) → Option (Bool × Int × (List (List Int))))) (next'_1 : (List Int)) : Option (Bool × Int × (List (List Int))) := LFix (code_Kraft_L21_F letters sizes y'_1 t_1 l r17 ) next'_1
noncomputable def code_Kraft_L17_B (letters : Int) (sizes : (List Int)) (y'_1 : (List Int)) (r17 : Bool → Int → (List (List Int)) → (List Int) → Option (Bool × Int × (List (List Int)))) (ok : Bool) (t_1 : Int) (l : (List (List Int))) (next' : (List Int)) : Option (Bool × Int × (List (List Int))) :=
  if (decide (t_1 < (y'_1.length : Int))) = true then
  G (0 ≤ t_1 ∧ t_1 < (y'_1.length : Int)) (
  G ((t_1).toNat < y'_1.length) (
  if (!ok) = true then
  some (false, (0 : Int), []) else
  code_Kraft_L21 letters sizes y'_1 t_1 l r17 next')) else
  some (true, (0 : Int), l)
noncomputable def code_Kraft_L17_F (letters : Int) (sizes : (List Int)) (y'_1 : (List Int)) : (Bool × Int × (List (List Int)) × (List Int) → Option (Bool × Int × (List (List Int)))) → Bool × Int × (List (List Int)) × (List Int) → Option (Bool × Int × (List (List Int))) :=
  fun rec x => code_Kraft_L17_B letters sizes y'_1 (fun ok t_1 l next' => rec (ok, t_1, l, next')) x.1 x.2.1 x.2.2.1 x.2.2.2
noncomputable def code_Kraft_L17 (letters : Int) (sizes : (List Int)) (y'_1 : (List Int)) (ok : Bool) (t_1 : Int) (l : (List (List Int))) (next' : (List Int)) : Option (Bool × Int × (List (List Int))) := LFix (code_Kraft_L17_F letters sizes y'_1 ) (ok, t_1, l, next')
noncomputable def code_Kraft_L9_B (letters : Int) (sizes : (List Int)) (r9 : Int → (List Int) → Option (Bool × Int × (List (List Int)))) (t : Int) (order : (List Int)) : Option (Bool × Int × (List (List Int))) :=
  if (decide (t < ((List.replicate ((sizes.length : Int)).toNat (0 : Int)).length : Int))) = true then
  G (0 ≤ t ∧ t < (order.length : Int)) (
  G ((t).toNat < order.length) (
  G (fits (t + (1 : Int))) (
  r9 (t + (1 : Int)) (order.set (t).toNat t)))) else
  (slices_SortStableFunc sizes order).bind (fun y'_1 =>
  G (mkOK (sizes.length : Int) (sizes.length : Int) 24) (
  code_Kraft_L17 letters sizes y'_1 true (0 : Int) (List.replicate ((sizes.length : Int)).toNat ([] : List Int)) ([] : List Int)))
noncomputable def code_Kraft_L9_F (letters : Int) (sizes : (List Int)) : (Int × (List Int) → Option (Bool × Int × (List (List Int)))) → Int × (List Int) → Option (Bool × Int × (List (List Int))) :=
  fun rec x => code_Kraft_L9_B letters sizes (fun t order => rec (t, order)) x.1 x.2
noncomputable def code_Kraft_L9 (letters : Int) (sizes : (List Int)) (t : Int) (order : (List Int)) : Option (Bool × Int × (List (List Int))) := LFix (code_Kraft_L9_F letters sizes ) (t, order)
noncomputable def code_Kraft (letters : Int) (sizes : (List Int)) : Option (Bool × Int × (List (List Int))) :=
  if (decide (letters < (1 : Int))) = true then
  some (false, (2 : Int), []) else
  if (decide ((4 : Int) < letters)) = true then
  some (false, (2 : Int), []) else
  if (decide ((sizes.length : Int) < (1 : Int))) = true then
  some (false, (1 : Int), []) else
  if (decide ((20 : Int) < (sizes.length : Int))) = true then
  some (false, (1 : Int), []) else
  (slices_ContainsFunc sizes).bind (fun y' =>
  if y' = true then
  some (false, (2 : Int), []) else
  G (mkOK (sizes.length : Int) (sizes.length : Int) 8) (
  code_Kraft_L9 letters sizes (0 : Int) (List.replicate ((sizes.length : Int)).toNat (0 : Int))))
theorem code_Kraft_J25_1_ch (r25 : Nat → Int → (List Int) → Option (Bool × Int × (List (List Int)))) (r25' : Int → (List Int) → Option (Bool × Int × (List (List Int)))) (h_r25 : ∀ a0 a1, ChO (fun κ => r25 κ a0 a1) (r25' a0 a1)) (k : Int) (t_3 : Bool) (next'_4 : (List Int)) : ChO (fun κ => code_Kraft_J25_1 k (r25 κ) t_3 next'_4) (code_Kraft_J25_1 k r25' t_3 next'_4) := by
  unfold code_Kraft_J25_1
  repeat' first | exact ChO.const _ | exact h_r25 _ _ | apply ChO.ite | apply ChO.G | apply ChO.both | (apply ChO.bind; intro _)
theorem code_Kraft_J30_ch (r17 : Nat → Bool → Int → (List (List Int)) → (List Int) → Option (Bool × Int × (List (List Int)))) (r17' : Bool → Int → (List (List Int)) → (List Int) → Option (Bool × Int × (List (List Int)))) (h_r17 : ∀ a0 a1 a2 a3, ChO (fun κ => r17 κ a0 a1 a2 a3) (r17' a0 a1 a2 a3)) (t_1 : Int) (ok_1 : Bool) (l_1 : (List (List Int))) (next'_5 : (List Int)) : ChO (fun κ => code_Kraft_J30 t_1 (r17 κ) ok_1 l_1 next'_5) (code_Kraft_J30 t_1 r17' ok_1 l_1 next'_5) := by
  unfold code_Kraft_J30
  repeat' first | exact ChO.const _ | exact h_r17 _ _ _ _ | (apply code_Kraft_J25_1_ch <;> assumption) | apply ChO.ite | apply ChO.G | apply ChO.both | (apply ChO.bind; intro _)
theorem code_Kraft_J25_ch (r17 : Nat → Bool → Int → (List (List Int)) → (List Int) → Option (Bool × Int × (List (List Int)))) (r17' : Bool → Int → (List (List Int)) → (List Int) → Option (Bool × Int × (List (List Int)))) (h_r17 : ∀ a0 a1 a2 a3, ChO (fun κ => r17 κ a0 a1 a2 a3) (r17' a0 a1 a2 a3)) (r25 : Nat → Int → (List Int) → Option (Bool × Int × (List (List Int)))) (r25' : Int → (List Int) → Option (Bool × Int × (List (List Int)))) (h_r25 : ∀ a0 a1, ChO (fun κ => r25 κ a0 a1) (r25' a0 a1)) (y'_1 : (List Int)) (t_1 : Int) (l : (List (List Int))) (y'_2 : (List Int)) (k : Int) (t_2 : Bool) (next'_3 : (List Int)) : ChO (fun κ => code_Kraft_J25 y'_1 t_1 l (r17 κ) y'_2 k (r25 κ) t_2 next'_3) (code_Kraft_J25 y'_1 t_1 l r17' y'_2 k r25' t_2 next'_3) := by
  unfold code_Kraft_J25
  repeat' first | exact ChO.const _ | exact h_r17 _ _ _ _ | exact h_r25 _ _ | (apply code_Kraft_J25_1_ch <;> assumption) | (apply code_Kraft_J30_ch <;> assumption) | apply ChO.ite | apply ChO.G | apply ChO.both | (apply ChO.bind; intro _)
theorem code_Kraft_L25_B_ch (r17 : Nat → Bool → Int → (List (List Int)) → (List Int) → Option (Bool × Int × (List (List Int)))) (r17' : Bool → Int → (List (List Int)) → (List Int) → Option (Bool × Int × (List (List Int)))) (h_r17 : ∀ a0 a1 a2 a3, ChO (fun κ => r17 κ a0 a1 a2 a3) (r17' a0 a1 a2 a3)) (r25 : Nat → Int → (List Int) → Option (Bool × Int × (List (List Int)))) (r25' : Int → (List Int) → Option (Bool × Int × (List (List Int)))) (h_r25 : ∀ a0 a1, ChO (fun κ => r25 κ a0 a1) (r25' a0 a1)) (letters : Int) (y'_1 : (List Int)) (t_1 : Int) (l : (List (List Int))) (y'_2 : (List Int)) (k : Int) (next'_2 : (List Int)) : ChO (fun κ => code_Kraft_L25_B letters y'_1 t_1 l (r17 κ) y'_2 (r25 κ) k next'_2) (code_Kraft_L25_B letters y'_1 t_1 l r17' y'_2 r25' k next'_2) := by
  unfold code_Kraft_L25_B
  repeat' first | exact ChO.const _ | exact h_r17 _ _ _ _ | exact h_r25 _ _ | (apply code_Kraft_J25_1_ch <;> assumption) | (apply code_Kraft_J30_ch <;> assumption) | (apply code_Kraft_J25_ch <;> assumption) | apply ChO.ite | apply ChO.G | apply ChO.both | (apply ChO.bind; intro _)
theorem code_Kraft_L25_cn (r17 : Bool → Int → (List (List Int)) → (List Int) → Option (Bool × Int × (List (List Int)))) (letters : Int) (y'_1 : (List Int)) (t_1 : Int) (l : (List (List Int))) (y'_2 : (List Int)) : Cn (code_Kraft_L25_F letters y'_1 t_1 l r17 y'_2) := fun g h hg x => code_Kraft_L25_B_ch (fun _ => r17) r17 (fun _ _ _ _ => ChO.const _) (fun κ k next'_2 => g κ (k, next'_2)) (fun k next'_2 => h (k, next'_2)) (fun k next'_2 => hg (k, next'_2)) letters y'_1 t_1 l y'_2 x.1 x.2
theorem code_Kraft_L25_eq (r17 : Bool → Int → (List (List Int)) → (List Int) → Option (Bool × Int × (List (List Int)))) (letters : Int) (y'_1 : (List Int)) (t_1 : Int) (l : (List (List Int))) (y'_2 : (List Int)) (k : Int) (next'_2 : (List Int)) : code_Kraft_L25 letters y'_1 t_1 l r17 y'_2 k next'_2 = code_Kraft_L25_B letters y'_1 t_1 l r17 y'_2 (code_Kraft_L25 letters y'_1 t_1 l r17 y'_2) k next'_2 := LFix_eq (code_Kraft_L25_cn r17 letters y'_1 t_1 l y'_2) (k, next'_2)
theorem code_Kraft_L25_ch (r17 : Nat → Bool → Int → (List (List Int)) → (List Int) → Option (Bool × Int × (List (List Int)))) (r17' : Bool → Int → (List (List Int)) → (List Int) → Option (Bool × Int × (List (List Int)))) (h_r17 : ∀ a0 a1 a2 a3, ChO (fun κ => r17 κ a0 a1 a2 a3) (r17' a0 a1 a2 a3)) (letters : Int) (y'_1 : (List Int)) (t_1 : Int) (l : (List (List Int))) (y'_2 : (List Int)) (k : Int) (next'_2 : (List Int)) : ChO (fun κ => code_Kraft_L25 letters y'_1 t_1 l (r17 κ) y'_2 k next'_2) (code_Kraft_L25 letters y'_1 t_1 l r17' y'_2 k next'_2) := by
  unfold code_Kraft_L25
  exact LFix_ch (fun κ => (code_Kraft_L25_cn (r17 κ) letters y'_1 t_1 l y'_2).mono) (code_Kraft_L25_cn r17' letters y'_1 t_1 l y'_2).mono (fun g h hg x => code_Kraft_L25_B_ch r17 r17' h_r17 (fun κ k next'_2 => g κ (k, next'_2)) (fun k next'_2 => h (k, next'_2)) (fun k next'_2 => hg (k, next'_2)) letters y'_1 t_1 l y'_2 x.1 x.2) _
theorem code_Kraft_L21_B_ch (r17 : Nat → Bool → Int → (List (List Int)) → (List Int) → Option (Bool × Int × (List (List Int)))) (r17' : Bool → Int → (List (List Int)) → (List Int) → Option (Bool × Int × (List (List Int)))) (h_r17 : ∀ a0 a1 a2 a3, ChO (fun κ => r17 κ a0 a1 a2 a3) (r17' a0 a1 a2 a3)) (r21 : Nat → (List Int) → Option (Bool × Int × (List (List Int)))) (r21' : (List Int) → Option (Bool × Int × (List (List Int)))) (h_r21 : ∀ a0, ChO (fun κ => r21 κ a0) (r21' a0)) (letters : Int) (sizes : (List Int)) (y'_1 : (List Int)) (t_1 : Int) (l : (List (List Int))) (next'_1 : (List Int)) : ChO (fun κ => code_Kraft_L21_B letters sizes y'_1 t_1 l (r17 κ) (r21 κ) next'_1) (code_Kraft_L21_B letters sizes y'_1 t_1 l r17' r21' next'_1) := by
  unfold code_Kraft_L21_B
  repeat' first | exact ChO.const _ | exact h_r17 _ _ _ _ | exact h_r21 _ | (apply code_Kraft_J25_1_ch <;> assumption) | (apply code_Kraft_J30_ch <;> assumption) | (apply code_Kraft_J25_ch <;> assumption) | (apply code_Kraft_L25_ch <;> assumption) | apply ChO.ite | apply ChO.G | apply ChO.both | (apply ChO.bind; intro _)
theorem code_Kraft_L21_cn (r17 : Bool → Int → (List (List Int)) → (List Int) → Option (Bool × Int × (List (List Int)))) (letters : Int) (sizes : (List Int)) (y'_1 : (List Int)) (t_1 : Int) (l : (List (List Int))) : Cn (code_Kraft_L21_F letters sizes y'_1 t_1 l r17) := fun g h hg x => code_Kraft_L21_B_ch (fun _ => r17) r17 (fun _ _ _ _ => ChO.const _) (fun κ next'_1 => g κ next'_1) (fun next'_1 => h next'_1) (fun next'_1 => hg next'_1) letters sizes y'_1 t_1 l x
theorem code_Kraft_L21_eq (r17 : Bool → Int → (List (List Int)) → (List Int) → Option (Bool × Int × (List (List Int)))) (letters : Int) (sizes : (List Int)) (y'_1 : (List Int)) (t_1 : Int) (l : (List (List Int))) (next'_1 : (List Int)) : code_Kraft_L21 letters sizes y'_1 t_1 l r17 next'_1 = code_Kraft_L21_B letters sizes y'_1 t_1 l r17 (code_Kraft_L21 letters sizes y'_1 t_1 l r17) next'_1 := LFix_eq (code_Kraft_L21_cn r17 letters sizes y'_1 t_1 l) next'_1
theorem code_Kraft_L21_ch (r17 : Nat → Bool → Int → (List (List Int)) → (List Int) → Option (Bool × Int × (List (List Int)))) (r17' : Bool → Int → (List (List Int)) → (List Int) → Option (Bool × Int × (List (List Int)))) (h_r17 : ∀ a0 a1 a2 a3, ChO (fun κ => r17 κ a0 a1 a2 a3) (r17' a0 a1 a2 a3)) (letters : Int) (sizes : (List Int)) (y'_1 : (List Int)) (t_1 : Int) (l : (List (List Int))) (next'_1 : (List Int)) : ChO (fun κ => code_Kraft_L21 letters sizes y'_1 t_1 l (r17 κ) next'_1) (code_Kraft_L21 letters sizes y'_1 t_1 l r17' next'_1) := by
  unfold code_Kraft_L21
  exact LFix_ch (fun κ => (code_Kraft_L21_cn (r17 κ) letters sizes y'_1 t_1 l).mono) (code_Kraft_L21_cn r17' letters sizes y'_1 t_1 l).mono (fun g h hg x => code_Kraft_L21_B_ch r17 r17' h_r17 (fun κ next'_1 => g κ next'_1) (fun next'_1 => h next'_1) (fun next'_1 => hg next'_1) letters sizes y'_1 t_1 l x) _
theorem code_Kraft_L17_B_ch (r17 : Nat → Bool → Int → (List (List Int)) → (List Int) → Option (Bool × Int × (List (List Int)))) (r17' : Bool → Int → (List (List Int)) → (List Int) → Option (Bool × Int × (List (List Int)))) (h_r17 : ∀ a0 a1 a2 a3, ChO (fun κ => r17 κ a0 a1 a2 a3) (r17' a0 a1 a2 a3)) (letters : Int) (sizes : (List Int)) (y'_1 : (List Int)) (ok : Bool) (t_1 : Int) (l : (List (List Int))) (next' : (List Int)) : ChO (fun κ => code_Kraft_L17_B letters sizes y'_1 (r17 κ) ok t_1 l next') (code_Kraft_L17_B letters sizes y'_1 r17' ok t_1 l next') := by
  unfold code_Kraft_L17_B
  repeat' first | exact ChO.const _ | exact h_r17 _ _ _ _ | (apply code_Kraft_J25_1_ch <;> assumption) | (apply code_Kraft_J30_ch <;> assumption) | (apply code_Kraft_J25_ch <;> assumption) | (apply code_Kraft_L25_ch <;> assumption) | (apply code_Kraft_L21_ch <;> assumption) | apply ChO.ite | apply ChO.G | apply ChO.both | (apply ChO.bind; intro _)
theorem code_Kraft_L17_cn  (letters : Int) (sizes : (List Int)) (y'_1 : (List Int)) : Cn (code_Kraft_L17_F letters sizes y'_1) := fun g h hg x => code_Kraft_L17_B_ch  (fun κ ok t_1 l next' => g κ (ok, t_1, l, next')) (fun ok t_1 l next' => h (ok, t_1, l, next')) (fun ok t_1 l next' => hg (ok, t_1, l, next')) letters sizes y'_1 x.1 x.2.1 x.2.2.1 x.2.2.2
theorem code_Kraft_L17_eq  (letters : Int) (sizes : (List Int)) (y'_1 : (List Int)) (ok : Bool) (t_1 : Int) (l : (List (List Int))) (next' : (List Int)) : code_Kraft_L17 letters sizes y'_1 ok t_1 l next' = code_Kraft_L17_B letters sizes y'_1 (code_Kraft_L17 letters sizes y'_1) ok t_1 l next' := LFix_eq (code_Kraft_L17_cn letters sizes y'_1) (ok, t_1, l, next')
theorem code_Kraft_L9_B_ch (r9 : Nat → Int → (List Int) → Option (Bool × Int × (List (List Int)))) (r9' : Int → (List Int) → Option (Bool × Int × (List (List Int)))) (h_r9 : ∀ a0 a1, ChO (fun κ => r9 κ a0 a1) (r9' a0 a1)) (letters : Int) (sizes : (List Int)) (t : Int) (order : (List Int)) : ChO (fun κ => code_Kraft_L9_B letters sizes (r9 κ) t order) (code_Kraft_L9_B letters sizes r9' t order) := by
  unfold code_Kraft_L9_B
  repeat' first | exact ChO.const _ | exact h_r9 _ _ | (apply code_Kraft_J25_1_ch <;> assumption) | (apply code_Kraft_J30_ch <;> assumption) | (apply code_Kraft_J25_ch <;> assumption) | (apply code_Kraft_L25_ch <;> assumption) | (apply code_Kraft_L21_ch <;> assumption) | apply ChO.ite | apply ChO.G | apply ChO.both | (apply ChO.bind; intro _)
theorem code_Kraft_L9_cn  (letters : Int) (sizes : (List Int)) : Cn (code_Kraft_L9_F letters sizes) := fun g h hg x => code_Kraft_L9_B_ch  (fun κ t order => g κ (t, order)) (fun t order => h (t, order)) (fun t order => hg (t, order)) letters sizes x.1 x.2
theorem code_Kraft_L9_eq  (letters : Int) (sizes : (List Int)) (t : Int) (order : (List Int)) : code_Kraft_L9 letters sizes t order = code_Kraft_L9_B letters sizes (code_Kraft_L9 letters sizes) t order := LFix_eq (code_Kraft_L9_cn letters sizes) (t, order)

noncomputable def r24_Kraft_L6_B (letters : Int) (sizes : (List Int)) (size : Int) (r3 : (Int → Int → Option (Bool))) (r6 : Int → Int → Option (Bool)) (room'_1 : Int) (i : Int) : Option (Bool) :=
  if (decide (i < (sizes.length : Int))) = true then
  G (0 ≤ i ∧ i < (sizes.length : Int)) (
  if (decide ((ix sizes i) = size)) = true then
  G (fits (room'_1 - (1 : Int))) (
  G (fits (i + (1 : Int))) (
  r6 (room'_1 - (1 : Int)) (i + (1 : Int)))) else
  G (fits (i + (1 : Int))) (
  r6 room'_1 (i + (1 : Int)))) else
  if (decide (room'_1 < (0 : Int))) = true then
  some false else
  G (fits (room'_1 * letters)) (
  if (decide ((100 : Int) < (room'_1 * letters))) = true then
  G (fits (size + (1 : Int))) (
  r3 (100 : Int) (size + (1 : Int))) else
  G (fits (size + (1 : Int))) (
  r3 (room'_1 * letters) (size + (1 : Int))))
noncomputable def r24_Kraft_L6_F (letters : Int) (sizes : (List Int)) (size : Int) (r3 : (Int → Int → Option (Bool))) : (Int × Int → Option (Bool)) → Int × Int → Option (Bool) :=
  fun rec x => r24_Kraft_L6_B letters sizes size r3 (fun room'_1 i => rec (room'_1, i)) x.1 x.2
noncomputable def r24_Kraft_L6 (letters : Int) (sizes : (List Int)) (size : Int) (r3 : (Int → Int → Option (Bool))) (room'_1 : Int) (i : Int) : Option (Bool) := LFix (r24_Kraft_L6_F letters sizes size r3 ) (room'_1, i)
noncomputable def r24_Kraft_L3_B (letters : Int) (sizes : (List Int)) (r3 : Int → Int → Option (Bool)) (room' : Int) (size : Int) : Option (Bool) :=
  if (decide (size ≤ (30 : Int))) = true then
  r24_Kraft_L6 letters sizes size r3 room' (0 : Int) else
  some true
noncomputable def r24_Kraft_L3_F (letters : Int) (sizes : (List Int)) : (Int × Int → Option (Bool)) → Int × Int → Option (Bool) :=
  fun rec x => r24_Kraft_L3_B letters sizes (fun room' size => rec (room', size)) x.1 x.2
noncomputable def r24_Kraft_L3 (letters : Int) (sizes : (List Int)) (room' : Int) (size : Int) : Option (Bool) := LFix (r24_Kraft_L3_F letters sizes ) (room', size)
noncomputable def r24_Kraft (letters : Int) (sizes : (List Int)) : Option (Bool) :=
  r24_Kraft_L3 letters sizes (1 : Int) (0 : Int)
theorem r24_Kraft_L6_B_ch (r3 : Nat → Int → Int → Option (Bool)) (r3' : Int → Int → Option (Bool)) (h_r3 : ∀ a0 a1, ChO (fun κ => r3 κ a0 a1) (r3' a0 a1)) (r6 : Nat → Int → Int → Option (Bool)) (r6' : Int → Int → Option (Bool)) (h_r6 : ∀ a0 a1, ChO (fun κ => r6 κ a0 a1) (r6' a0 a1)) (letters : Int) (sizes : (List Int)) (size : Int) (room'_1 : Int) (i : Int) : ChO (fun κ => r24_Kraft_L6_B letters sizes size (r3 κ) (r6 κ) room'_1 i) (r24_Kraft_L6_B letters sizes size r3' r6' room'_1 i) := by
  unfold r24_Kraft_L6_B
  repeat' first | exact ChO.const _ | exact h_r3 _ _ | exact h_r6 _ _ | apply ChO.ite | apply ChO.G | apply ChO.both | (apply ChO.bind; intro _)
theorem r24_Kraft_L6_cn (r3 : Int → Int → Option (Bool)) (letters : Int) (sizes : (List Int)) (size : Int) : Cn (r24_Kraft_L6_F letters sizes size r3) := fun g h hg x => r24_Kraft_L6_B_ch (fun _ => r3) r3 (fun _ _ => ChO.const _) (fun κ room'_1 i => g κ (room'_1, i)) (fun room'_1 i => h (room'_1, i)) (fun room'_1 i => hg (room'_1, i)) letters sizes size x.1 x.2
theorem r24_Kraft_L6_eq (r3 : Int → Int → Option (Bool)) (letters : Int) (sizes : (List Int)) (size : Int) (room'_1 : Int) (i : Int) : r24_Kraft_L6 letters sizes size r3 room'_1 i = r24_Kraft_L6_B letters sizes size r3 (r24_Kraft_L6 letters sizes size r3) room'_1 i := LFix_eq (r24_Kraft_L6_cn r3 letters sizes size) (room'_1, i)
theorem r24_Kraft_L6_ch (r3 : Nat → Int → Int → Option (Bool)) (r3' : Int → Int → Option (Bool)) (h_r3 : ∀ a0 a1, ChO (fun κ => r3 κ a0 a1) (r3' a0 a1)) (letters : Int) (sizes : (List Int)) (size : Int) (room'_1 : Int) (i : Int) : ChO (fun κ => r24_Kraft_L6 letters sizes size (r3 κ) room'_1 i) (r24_Kraft_L6 letters sizes size r3' room'_1 i) := by
  unfold r24_Kraft_L6
  exact LFix_ch (fun κ => (r24_Kraft_L6_cn (r3 κ) letters sizes size).mono) (r24_Kraft_L6_cn r3' letters sizes size).mono (fun g h hg x => r24_Kraft_L6_B_ch r3 r3' h_r3 (fun κ room'_1 i => g κ (room'_1, i)) (fun room'_1 i => h (room'_1, i)) (fun room'_1 i => hg (room'_1, i)) letters sizes size x.1 x.2) _
theorem r24_Kraft_L3_B_ch (r3 : Nat → Int → Int → Option (Bool)) (r3' : Int → Int → Option (Bool)) (h_r3 : ∀ a0 a1, ChO (fun κ => r3 κ a0 a1) (r3' a0 a1)) (letters : Int) (sizes : (List Int)) (room' : Int) (size : Int) : ChO (fun κ => r24_Kraft_L3_B letters sizes (r3 κ) room' size) (r24_Kraft_L3_B letters sizes r3' room' size) := by
  unfold r24_Kraft_L3_B
  repeat' first | exact ChO.const _ | exact h_r3 _ _ | (apply r24_Kraft_L6_ch <;> assumption) | apply ChO.ite | apply ChO.G | apply ChO.both | (apply ChO.bind; intro _)
theorem r24_Kraft_L3_cn  (letters : Int) (sizes : (List Int)) : Cn (r24_Kraft_L3_F letters sizes) := fun g h hg x => r24_Kraft_L3_B_ch  (fun κ room' size => g κ (room', size)) (fun room' size => h (room', size)) (fun room' size => hg (room', size)) letters sizes x.1 x.2
theorem r24_Kraft_L3_eq  (letters : Int) (sizes : (List Int)) (room' : Int) (size : Int) : r24_Kraft_L3 letters sizes room' size = r24_Kraft_L3_B letters sizes (r24_Kraft_L3 letters sizes) room' size := LFix_eq (r24_Kraft_L3_cn letters sizes) (room', size)

noncomputable def r1_May_L6_B (letters : Int) (w : (List Int)) (r6 : Int → Option (Int)) (i : Int) : Option (Int) :=
  if (decide (i < (w.length : Int))) = true then
  G (0 ≤ i ∧ i < (w.length : Int)) (
  if (decide ((ix w i) < (0 : Int))) = true then
  some (2 : Int) else
  G (0 ≤ i ∧ i < (w.length : Int)) (
  if (decide (letters ≤ (ix w i))) = true then
  some (2 : Int) else
  G (fits (i + (1 : Int))) (
  r6 (i + (1 : Int))))) else
  some (0 : Int)
noncomputable def r1_May_L6_F (letters : Int) (w : (List Int)) : (Int → Option (Int)) → Int → Option (Int) :=
  fun rec x => r1_May_L6_B letters w (fun i => rec i) x
noncomputable def r1_May_L6 (letters : Int) (w : (List Int)) (i : Int) : Option (Int) := LFix (r1_May_L6_F letters w ) i
noncomputable def r1_May (letters : Int) (w : (List Int)) : Option (Int) :=
  if (decide (letters < (1 : Int))) = true then
  some (2 : Int) else
  if (decide ((4 : Int) < letters)) = true then
  some (2 : Int) else
  if (decide ((60 : Int) < (w.length : Int))) = true then
  some (1 : Int) else
  r1_May_L6 letters w (0 : Int)
theorem r1_May_L6_B_ch (r6 : Nat → Int → Option (Int)) (r6' : Int → Option (Int)) (h_r6 : ∀ a0, ChO (fun κ => r6 κ a0) (r6' a0)) (letters : Int) (w : (List Int)) (i : Int) : ChO (fun κ => r1_May_L6_B letters w (r6 κ) i) (r1_May_L6_B letters w r6' i) := by
  unfold r1_May_L6_B
  repeat' first | exact ChO.const _ | exact h_r6 _ | apply ChO.ite | apply ChO.G | apply ChO.both | (apply ChO.bind; intro _)
theorem r1_May_L6_cn  (letters : Int) (w : (List Int)) : Cn (r1_May_L6_F letters w) := fun g h hg x => r1_May_L6_B_ch  (fun κ i => g κ i) (fun i => h i) (fun i => hg i) letters w x
theorem r1_May_L6_eq  (letters : Int) (w : (List Int)) (i : Int) : r1_May_L6 letters w i = r1_May_L6_B letters w (r1_May_L6 letters w) i := LFix_eq (r1_May_L6_cn letters w) i

noncomputable def r1_Words_L4_B (a : (List Int)) (b : (List Int)) (r4 : Int → Option (Bool)) (i : Int) : Option (Bool) :=
  if (decide (i < (a.length : Int))) = true then
  G (0 ≤ i ∧ i < (a.length : Int)) (
  G (0 ≤ i ∧ i < (b.length : Int)) (
  if (decide (¬ (ix a i) = (ix b i))) = true then
  some false else
  G (fits (i + (1 : Int))) (
  r4 (i + (1 : Int))))) else
  some true
noncomputable def r1_Words_L4_F (a : (List Int)) (b : (List Int)) : (Int → Option (Bool)) → Int → Option (Bool) :=
  fun rec x => r1_Words_L4_B a b (fun i => rec i) x
noncomputable def r1_Words_L4 (a : (List Int)) (b : (List Int)) (i : Int) : Option (Bool) := LFix (r1_Words_L4_F a b ) i
noncomputable def r1_Words (a : (List Int)) (b : (List Int)) : Option (Bool) :=
  if (decide (¬ (a.length : Int) = (b.length : Int))) = true then
  some false else
  r1_Words_L4 a b (0 : Int)
theorem r1_Words_L4_B_ch (r4 : Nat → Int → Option (Bool)) (r4' : Int → Option (Bool)) (h_r4 : ∀ a0, ChO (fun κ => r4 κ a0) (r4' a0)) (a : (List Int)) (b : (List Int)) (i : Int) : ChO (fun κ => r1_Words_L4_B a b (r4 κ) i) (r1_Words_L4_B a b r4' i) := by
  unfold r1_Words_L4_B
  repeat' first | exact ChO.const _ | exact h_r4 _ | apply ChO.ite | apply ChO.G | apply ChO.both | (apply ChO.bind; intro _)
theorem r1_Words_L4_cn  (a : (List Int)) (b : (List Int)) : Cn (r1_Words_L4_F a b) := fun g h hg x => r1_Words_L4_B_ch  (fun κ i => g κ i) (fun i => h i) (fun i => hg i) a b x
theorem r1_Words_L4_eq  (a : (List Int)) (b : (List Int)) (i : Int) : r1_Words_L4 a b i = r1_Words_L4_B a b (r1_Words_L4 a b) i := LFix_eq (r1_Words_L4_cn a b) i

noncomputable def r24_Begins (w : (List Int)) (v : (List Int)) : Option (Bool) :=
  if (decide ((w.length : Int) < (v.length : Int))) = true then
  some false else
  G (0 ≤ (0 : Int) ∧ (0 : Int) ≤ (v.length : Int) ∧ (v.length : Int) ≤ (w.length : Int)) (
  (r1_Words (cut w (0 : Int) (v.length : Int)) v).bind (fun y' =>
  some y'))

noncomputable def r24_Apart_L5_B (l : (List (List Int))) (i : Int) (r2 : (Int → Option (Bool))) (r5 : Int → Option (Bool)) (k : Int) : Option (Bool) :=
  if (decide (k < (l.length : Int))) = true then
  G (0 ≤ i ∧ i < (l.length : Int)) (
  G (0 ≤ k ∧ k < (l.length : Int)) (
  (r24_Begins (ix l i) (ix l k)).bind (fun y' =>
  if (decide (¬ i = k)) = true then
  if y' = true then
  some false else
  G (fits (k + (1 : Int))) (
  r5 (k + (1 : Int))) else
  G (fits (k + (1 : Int))) (
  r5 (k + (1 : Int)))))) else
  G (fits (i + (1 : Int))) (
  r2 (i + (1 : Int)))
noncomputable def r24_Apart_L5_F (l : (List (List Int))) (i : Int) (r2 : (Int → Option (Bool))) : (Int → Option (Bool)) → Int → Option (Bool) :=
  fun rec x => r24_Apart_L5_B l i r2 (fun k => rec k) x
noncomputable def r24_Apart_L5 (l : (List (List Int))) (i : Int) (r2 : (Int → Option (Bool))) (k : Int) : Option (Bool) := LFix (r24_Apart_L5_F l i r2 ) k
noncomputable def r24_Apart_L2_B (l : (List (List Int))) (r2 : Int → Option (Bool)) (i : Int) : Option (Bool) :=
  if (decide (i < (l.length : Int))) = true then
  r24_Apart_L5 l i r2 (0 : Int) else
  some true
noncomputable def r24_Apart_L2_F (l : (List (List Int))) : (Int → Option (Bool)) → Int → Option (Bool) :=
  fun rec x => r24_Apart_L2_B l (fun i => rec i) x
noncomputable def r24_Apart_L2 (l : (List (List Int))) (i : Int) : Option (Bool) := LFix (r24_Apart_L2_F l ) i
noncomputable def r24_Apart (l : (List (List Int))) : Option (Bool) :=
  r24_Apart_L2 l (0 : Int)
theorem r24_Apart_L5_B_ch (r2 : Nat → Int → Option (Bool)) (r2' : Int → Option (Bool)) (h_r2 : ∀ a0, ChO (fun κ => r2 κ a0) (r2' a0)) (r5 : Nat → Int → Option (Bool)) (r5' : Int → Option (Bool)) (h_r5 : ∀ a0, ChO (fun κ => r5 κ a0) (r5' a0)) (l : (List (List Int))) (i : Int) (k : Int) : ChO (fun κ => r24_Apart_L5_B l i (r2 κ) (r5 κ) k) (r24_Apart_L5_B l i r2' r5' k) := by
  unfold r24_Apart_L5_B
  repeat' first | exact ChO.const _ | exact h_r2 _ | exact h_r5 _ | apply ChO.ite | apply ChO.G | apply ChO.both | (apply ChO.bind; intro _)
theorem r24_Apart_L5_cn (r2 : Int → Option (Bool)) (l : (List (List Int))) (i : Int) : Cn (r24_Apart_L5_F l i r2) := fun g h hg x => r24_Apart_L5_B_ch (fun _ => r2) r2 (fun _ => ChO.const _) (fun κ k => g κ k) (fun k => h k) (fun k => hg k) l i x
theorem r24_Apart_L5_eq (r2 : Int → Option (Bool)) (l : (List (List Int))) (i : Int) (k : Int) : r24_Apart_L5 l i r2 k = r24_Apart_L5_B l i r2 (r24_Apart_L5 l i r2) k := LFix_eq (r24_Apart_L5_cn r2 l i) k
theorem r24_Apart_L5_ch (r2 : Nat → Int → Option (Bool)) (r2' : Int → Option (Bool)) (h_r2 : ∀ a0, ChO (fun κ => r2 κ a0) (r2' a0)) (l : (List (List Int))) (i : Int) (k : Int) : ChO (fun κ => r24_Apart_L5 l i (r2 κ) k) (r24_Apart_L5 l i r2' k) := by
  unfold r24_Apart_L5
  exact LFix_ch (fun κ => (r24_Apart_L5_cn (r2 κ) l i).mono) (r24_Apart_L5_cn r2' l i).mono (fun g h hg x => r24_Apart_L5_B_ch r2 r2' h_r2 (fun κ k => g κ k) (fun k => h k) (fun k => hg k) l i x) _
theorem r24_Apart_L2_B_ch (r2 : Nat → Int → Option (Bool)) (r2' : Int → Option (Bool)) (h_r2 : ∀ a0, ChO (fun κ => r2 κ a0) (r2' a0)) (l : (List (List Int))) (i : Int) : ChO (fun κ => r24_Apart_L2_B l (r2 κ) i) (r24_Apart_L2_B l r2' i) := by
  unfold r24_Apart_L2_B
  repeat' first | exact ChO.const _ | exact h_r2 _ | (apply r24_Apart_L5_ch <;> assumption) | apply ChO.ite | apply ChO.G | apply ChO.both | (apply ChO.bind; intro _)
theorem r24_Apart_L2_cn  (l : (List (List Int))) : Cn (r24_Apart_L2_F l) := fun g h hg x => r24_Apart_L2_B_ch  (fun κ i => g κ i) (fun i => h i) (fun i => hg i) l x
theorem r24_Apart_L2_eq  (l : (List (List Int))) (i : Int) : r24_Apart_L2 l i = r24_Apart_L2_B l (r24_Apart_L2 l) i := LFix_eq (r24_Apart_L2_cn l) i

noncomputable def law_CodeKraft_J8_1 (sizes : (List Int)) (no_1 : Int) (i : Int) (r8 : (Int → Int → Option (Bool))) (t_2 : Bool) : Option (Bool) :=
  G (0 ≤ i ∧ i < (sizes.length : Int)) (
  if (decide ((ix sizes i) < (1 : Int))) = true then
  G (fits (i + (1 : Int))) (
  r8 (2 : Int) (i + (1 : Int))) else
  G (0 ≤ i ∧ i < (sizes.length : Int)) (
  if (decide ((30 : Int) < (ix sizes i))) = true then
  G (fits (i + (1 : Int))) (
  r8 (2 : Int) (i + (1 : Int))) else
  G (fits (i + (1 : Int))) (
  r8 no_1 (i + (1 : Int)))))
noncomputable def law_CodeKraft_L22_B (letters : Int) (sizes : (List Int)) (y'_2 : (List (List Int))) (r22 : Int → Option (Bool)) (i_1 : Int) : Option (Bool) :=
  if (decide (i_1 < (y'_2.length : Int))) = true then
  G (0 ≤ i_1 ∧ i_1 < (y'_2.length : Int)) (
  G ((i_1).toNat < y'_2.length) (
  (r1_May letters (ix y'_2 i_1)).bind (fun y'_5 =>
  if (decide (¬ y'_5 = (0 : Int))) = true then
  some false else
  G (0 ≤ i_1 ∧ i_1 < (y'_2.length : Int)) (
  G ((i_1).toNat < y'_2.length) (
  G (0 ≤ i_1 ∧ i_1 < (sizes.length : Int)) (
  if (decide (¬ ((ix y'_2 i_1).length : Int) = (ix sizes i_1))) = true then
  some false else
  G (fits (i_1 + (1 : Int))) (
  r22 (i_1 + (1 : Int))))))))) else
  (r24_Apart y'_2).bind (fun y'_6 =>
  some y'_6)
noncomputable def law_CodeKraft_L22_F (letters : Int) (sizes : (List Int)) (y'_2 : (List (List Int))) : (Int → Option (Bool)) → Int → Option (Bool) :=
  fun rec x => law_CodeKraft_L22_B letters sizes y'_2 (fun i_1 => rec i_1) x
noncomputable def law_CodeKraft_L22 (letters : Int) (sizes : (List Int)) (y'_2 : (List (List Int))) (i_1 : Int) : Option (Bool) := LFix (law_CodeKraft_L22_F letters sizes y'_2 ) i_1
noncomputable def law_CodeKraft_J8 (letters : Int) (sizes : (List Int)) (y' : Bool) (y'_1 : Int) (y'_2 : (List (List Int))) (no_1 : Int) (i : Int) (r8 : (Int → Int → Option (Bool))) (t_1 : Bool) : Option (Bool) :=
  if t_1 = true then
  law_CodeKraft_J8_1 sizes no_1 i r8 t_1 else
  if (decide (¬ no_1 = (0 : Int))) = true then
  if (decide (y'_1 = no_1)) = true then
  if (!y') = true then
  some (decide ((y'_2.length : Int) = (0 : Int))) else
  some false else
  some false else
  (r24_Kraft letters sizes).bind (fun y'_4 =>
  if (decide (¬ y'_1 = (0 : Int))) = true then
  some false else
  if (decide (¬ y' = y'_4)) = true then
  some false else
  if (!y') = true then
  some (decide ((y'_2.length : Int) = (0 : Int))) else
  if (decide (¬ (y'_2.length : Int) = (sizes.length : Int))) = true then
  some false else
  law_CodeKraft_L22 letters sizes y'_2 (0 : Int))
noncomputable def law_CodeKraft_L8_B (letters : Int) (sizes : (List Int)) (y' : Bool) (y'_1 : Int) (y'_2 : (List (List Int))) (r8 : Int → Int → Option (Bool)) (no_1 : Int) (i : Int) : Option (Bool) :=
  if (decide (i < (sizes.length : Int))) = true then
  law_CodeKraft_J8 letters sizes y' y'_1 y'_2 no_1 i r8 (decide (no_1 = (0 : Int))) else
  law_CodeKraft_J8 letters sizes y' y'_1 y'_2 no_1 i r8 false
noncomputable def law_CodeKraft_L8_F (letters : Int) (sizes : (List Int)) (y' : Bool) (y'_1 : Int) (y'_2 : (List (List Int))) : (Int × Int → Option (Bool)) → Int × Int → Option (Bool) :=
  fun rec x => law_CodeKraft_L8_B letters sizes y' y'_1 y'_2 (fun no_1 i => rec (no_1, i)) x.1 x.2
noncomputable def law_CodeKraft_L8 (letters : Int) (sizes : (List Int)) (y' : Bool) (y'_1 : Int) (y'_2 : (List (List Int))) (no_1 : Int) (i : Int) : Option (Bool) := LFix (law_CodeKraft_L8_F letters sizes y' y'_1 y'_2 ) (no_1, i)
noncomputable def law_CodeKraft_J6 (letters : Int) (sizes : (List Int)) (y' : Bool) (y'_1 : Int) (y'_2 : (List (List Int))) (no : Int) : Option (Bool) :=
  law_CodeKraft_L8 letters sizes y' y'_1 y'_2 no (0 : Int)
noncomputable def law_CodeKraft_J3 (letters : Int) (sizes : (List Int)) (y' : Bool) (y'_1 : Int) (y'_2 : (List (List Int))) (t : Bool) : Option (Bool) :=
  if t = true then
  law_CodeKraft_J6 letters sizes y' y'_1 y'_2 (2 : Int) else
  if (decide ((sizes.length : Int) < (1 : Int))) = true then
  law_CodeKraft_J6 letters sizes y' y'_1 y'_2 (1 : Int) else
  if (decide ((20 : Int) < (sizes.length : Int))) = true then
  law_CodeKraft_J6 letters sizes y' y'_1 y'_2 (1 : Int) else
  law_CodeKraft_J6 letters sizes y' y'_1 y'_2 (0 : Int)
noncomputable def law_CodeKraft (letters : Int) (sizes : (List Int)) : Option (Bool) :=
  (code_Kraft letters sizes).bind (fun y'_7 =>
  if (decide (letters < (1 : Int))) = true then
  law_CodeKraft_J3 letters sizes y'_7.1 y'_7.2.1 y'_7.2.2 true else
  law_CodeKraft_J3 letters sizes y'_7.1 y'_7.2.1 y'_7.2.2 (decide ((4 : Int) < letters)))
theorem law_CodeKraft_J8_1_ch (r8 : Nat → Int → Int → Option (Bool)) (r8' : Int → Int → Option (Bool)) (h_r8 : ∀ a0 a1, ChO (fun κ => r8 κ a0 a1) (r8' a0 a1)) (sizes : (List Int)) (no_1 : Int) (i : Int) (t_2 : Bool) : ChO (fun κ => law_CodeKraft_J8_1 sizes no_1 i (r8 κ) t_2) (law_CodeKraft_J8_1 sizes no_1 i r8' t_2) := by
  unfold law_CodeKraft_J8_1
  repeat' first | exact ChO.const _ | exact h_r8 _ _ | apply ChO.ite | apply ChO.G | apply ChO.both | (apply ChO.bind; intro _)
theorem law_CodeKraft_L22_B_ch (r22 : Nat → Int → Option (Bool)) (r22' : Int → Option (Bool)) (h_r22 : ∀ a0, ChO (fun κ => r22 κ a0) (r22' a0)) (letters : Int) (sizes : (List Int)) (y'_2 : (List (List Int))) (i_1 : Int) : ChO (fun κ => law_CodeKraft_L22_B letters sizes y'_2 (r22 κ) i_1) (law_CodeKraft_L22_B letters sizes y'_2 r22' i_1) := by
  unfold law_CodeKraft_L22_B
  repeat' first | exact ChO.const _ | exact h_r22 _ | (apply law_CodeKraft_J8_1_ch <;> assumption) | apply ChO.ite | apply ChO.G | apply ChO.both | (apply ChO.bind; intro _)
theorem law_CodeKraft_L22_cn  (letters : Int) (sizes : (List Int)) (y'_2 : (List (List Int))) : Cn (law_CodeKraft_L22_F letters sizes y'_2) := fun g h hg x => law_CodeKraft_L22_B_ch  (fun κ i_1 => g κ i_1) (fun i_1 => h i_1) (fun i_1 => hg i_1) letters sizes y'_2 x
theorem law_CodeKraft_L22_eq  (letters : Int) (sizes : (List Int)) (y'_2 : (List (List Int))) (i_1 : Int) : law_CodeKraft_L22 letters sizes y'_2 i_1 = law_CodeKraft_L22_B letters sizes y'_2 (law_CodeKraft_L22 letters sizes y'_2) i_1 := LFix_eq (law_CodeKraft_L22_cn letters sizes y'_2) i_1
theorem law_CodeKraft_J8_ch (r8 : Nat → Int → Int → Option (Bool)) (r8' : Int → Int → Option (Bool)) (h_r8 : ∀ a0 a1, ChO (fun κ => r8 κ a0 a1) (r8' a0 a1)) (letters : Int) (sizes : (List Int)) (y' : Bool) (y'_1 : Int) (y'_2 : (List (List Int))) (no_1 : Int) (i : Int) (t_1 : Bool) : ChO (fun κ => law_CodeKraft_J8 letters sizes y' y'_1 y'_2 no_1 i (r8 κ) t_1) (law_CodeKraft_J8 letters sizes y' y'_1 y'_2 no_1 i r8' t_1) := by
  unfold law_CodeKraft_J8
  repeat' first | exact ChO.const _ | exact h_r8 _ _ | (apply law_CodeKraft_J8_1_ch <;> assumption) | apply ChO.ite | apply ChO.G | apply ChO.both | (apply ChO.bind; intro _)
theorem law_CodeKraft_L8_B_ch (r8 : Nat → Int → Int → Option (Bool)) (r8' : Int → Int → Option (Bool)) (h_r8 : ∀ a0 a1, ChO (fun κ => r8 κ a0 a1) (r8' a0 a1)) (letters : Int) (sizes : (List Int)) (y' : Bool) (y'_1 : Int) (y'_2 : (List (List Int))) (no_1 : Int) (i : Int) : ChO (fun κ => law_CodeKraft_L8_B letters sizes y' y'_1 y'_2 (r8 κ) no_1 i) (law_CodeKraft_L8_B letters sizes y' y'_1 y'_2 r8' no_1 i) := by
  unfold law_CodeKraft_L8_B
  repeat' first | exact ChO.const _ | exact h_r8 _ _ | (apply law_CodeKraft_J8_1_ch <;> assumption) | (apply law_CodeKraft_J8_ch <;> assumption) | apply ChO.ite | apply ChO.G | apply ChO.both | (apply ChO.bind; intro _)
theorem law_CodeKraft_L8_cn  (letters : Int) (sizes : (List Int)) (y' : Bool) (y'_1 : Int) (y'_2 : (List (List Int))) : Cn (law_CodeKraft_L8_F letters sizes y' y'_1 y'_2) := fun g h hg x => law_CodeKraft_L8_B_ch  (fun κ no_1 i => g κ (no_1, i)) (fun no_1 i => h (no_1, i)) (fun no_1 i => hg (no_1, i)) letters sizes y' y'_1 y'_2 x.1 x.2
theorem law_CodeKraft_L8_eq  (letters : Int) (sizes : (List Int)) (y' : Bool) (y'_1 : Int) (y'_2 : (List (List Int))) (no_1 : Int) (i : Int) : law_CodeKraft_L8 letters sizes y' y'_1 y'_2 no_1 i = law_CodeKraft_L8_B letters sizes y' y'_1 y'_2 (law_CodeKraft_L8 letters sizes y' y'_1 y'_2) no_1 i := LFix_eq (law_CodeKraft_L8_cn letters sizes y' y'_1 y'_2) (no_1, i)

end Go.Proofs.Ytnijfahigmajjaa.codeKraftW
