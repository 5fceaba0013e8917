/- What the functions that 'SeqsDiffers' reaches compute: plain functions. -/
import Derived.Test.YtdphdliikpdiiaaEv10n21
set_option maxHeartbeats 1000000
set_option maxRecDepth 20000
set_option linter.unusedSimpArgs false
set_option linter.unusedVariables false
namespace Go.Proofs.Ytdphdliikpdiiaa.seqsDiffersW
open Go Go.Ab
noncomputable def seqs_Check_1 (w : (List Int)) (t : (Int × (List (List Int)) × (List Int) × Unit)) : Option (Bool) :=
  some (decide (¬ (w.length : Int) = t.1))

noncomputable def slices_IndexFunc_L2_B (s : (List (List Int))) (c : (Int × (List (List Int)) × (List Int) × Unit)) (r2 : Int → Option (Int)) (t : Int) : Option (Int) :=
  if (decide (t < (s.length : Int))) = true then
  G (0 ≤ t ∧ t < (s.length : Int)) (
  (seqs_Check_1 (ix s t) c).bind (fun y' =>
  if y' = true then
  some t else
  G (fits (t + (1 : Int))) (
  r2 (t + (1 : Int))))) else
  some (-1 : Int)
noncomputable def slices_IndexFunc_L2_F (s : (List (List Int))) (c : (Int × (List (List Int)) × (List Int) × Unit)) : (Int → Option (Int)) → Int → Option (Int) :=
  fun rec x => slices_IndexFunc_L2_B s c (fun t => rec t) x
noncomputable def slices_IndexFunc_L2 (s : (List (List Int))) (c : (Int × (List (List Int)) × (List Int) × Unit)) (t : Int) : Option (Int) := LFix (slices_IndexFunc_L2_F s c ) t
noncomputable def slices_IndexFunc (s : (List (List Int))) (c : (Int × (List (List Int)) × (List Int) × Unit)) : Option (Int) :=
  slices_IndexFunc_L2 s c (0 : Int)
theorem slices_IndexFunc_L2_B_ch (r2 : Nat → Int → Option (Int)) (r2' : Int → Option (Int)) (h_r2 : ∀ a0, ChO (fun κ => r2 κ a0) (r2' a0)) (s : (List (List Int))) (c : (Int × (List (List Int)) × (List Int) × Unit)) (t : Int) : ChO (fun κ => slices_IndexFunc_L2_B s c (r2 κ) t) (slices_IndexFunc_L2_B s c r2' t) := by
  unfold slices_IndexFunc_L2_B
  repeat' first | exact ChO.const _ | exact h_r2 _ | apply ChO.ite | apply ChO.G | apply ChO.both | (apply ChO.bind; intro _)
theorem slices_IndexFunc_L2_cn  (s : (List (List Int))) (c : (Int × (List (List Int)) × (List Int) × Unit)) : Cn (slices_IndexFunc_L2_F s c) := fun g h hg x => slices_IndexFunc_L2_B_ch  (fun κ t => g κ t) (fun t => h t) (fun t => hg t) s c x
theorem slices_IndexFunc_L2_eq  (s : (List (List Int))) (c : (Int × (List (List Int)) × (List Int) × Unit)) (t : Int) : slices_IndexFunc_L2 s c t = slices_IndexFunc_L2_B s c (slices_IndexFunc_L2 s c) t := LFix_eq (slices_IndexFunc_L2_cn s c) t

noncomputable def slices_ContainsFunc (s : (List (List Int))) (c : (Int × (List (List Int)) × (List Int) × Unit)) : Option (Bool) :=
  (slices_IndexFunc s c).bind (fun y' =>
  some (decide ((0 : Int) ≤ y')))

noncomputable def seqs_Check_2 (b : Int) (t : Int) : Option (Bool) :=
  if (decide (b < (0 : Int))) = true then
  some true else
  some (decide (t ≤ b))

noncomputable def slices_IndexFunc_1_L2_B (s : (List Int)) (c : Int) (r2 : Int → Option (Int)) (t : Int) : Option (Int) :=
  if (decide (t < (s.length : Int))) = true then
  G (0 ≤ t ∧ t < (s.length : Int)) (
  (seqs_Check_2 (ix s t) c).bind (fun y' =>
  if y' = true then
  some t else
  G (fits (t + (1 : Int))) (
  r2 (t + (1 : Int))))) else
  some (-1 : Int)
noncomputable def slices_IndexFunc_1_L2_F (s : (List Int)) (c : Int) : (Int → Option (Int)) → Int → Option (Int) :=
  fun rec x => slices_IndexFunc_1_L2_B s c (fun t => rec t) x
noncomputable def slices_IndexFunc_1_L2 (s : (List Int)) (c : Int) (t : Int) : Option (Int) := LFix (slices_IndexFunc_1_L2_F s c ) t
noncomputable def slices_IndexFunc_1 (s : (List Int)) (c : Int) : Option (Int) :=
  slices_IndexFunc_1_L2 s c (0 : Int)
theorem slices_IndexFunc_1_L2_B_ch (r2 : Nat → Int → Option (Int)) (r2' : Int → Option (Int)) (h_r2 : ∀ a0, ChO (fun κ => r2 κ a0) (r2' a0)) (s : (List Int)) (c : Int) (t : Int) : ChO (fun κ => slices_IndexFunc_1_L2_B s c (r2 κ) t) (slices_IndexFunc_1_L2_B s c r2' t) := by
  unfold slices_IndexFunc_1_L2_B
  repeat' first | exact ChO.const _ | exact h_r2 _ | apply ChO.ite | apply ChO.G | apply ChO.both | (apply ChO.bind; intro _)
theorem slices_IndexFunc_1_L2_cn  (s : (List Int)) (c : Int) : Cn (slices_IndexFunc_1_L2_F s c) := fun g h hg x => slices_IndexFunc_1_L2_B_ch  (fun κ t => g κ t) (fun t => h t) (fun t => hg t) s c x
theorem slices_IndexFunc_1_L2_eq  (s : (List Int)) (c : Int) (t : Int) : slices_IndexFunc_1_L2 s c t = slices_IndexFunc_1_L2_B s c (slices_IndexFunc_1_L2 s c) t := LFix_eq (slices_IndexFunc_1_L2_cn s c) t

noncomputable def slices_ContainsFunc_1 (s : (List Int)) (c : Int) : Option (Bool) :=
  (slices_IndexFunc_1 s c).bind (fun y' =>
  some (decide ((0 : Int) ≤ y')))

noncomputable def seqs_Check_L9_B (m : (Int × (List (List Int)) × (List Int) × Unit)) (r9 : Int → Option (Int)) (t : Int) : Option (Int) :=
  if (decide (t < (m.2.1.length : Int))) = true then
  G (0 ≤ t ∧ t < (m.2.1.length : Int)) (
  (slices_ContainsFunc_1 (ix m.2.1 t) (m.2.1.length : Int)).bind (fun y'_1 =>
  if y'_1 = true then
  some (2 : Int) else
  G (0 ≤ t ∧ t < (m.2.2.1.length : Int)) (
  if (decide ((ix m.2.2.1 t) < (0 : Int))) = true then
  some (2 : Int) else
  G (0 ≤ t ∧ t < (m.2.2.1.length : Int)) (
  if (decide ((9 : Int) < (ix m.2.2.1 t))) = true then
  some (2 : Int) else
  G (fits (t + (1 : Int))) (
  r9 (t + (1 : Int))))))) else
  G (0 ≤ (0 : Int) ∧ (0 : Int) < (m.2.1.length : Int)) (
  G (0 ≤ (0 : Int) ∧ (0 : Int) < ((ix m.2.1 (0 : Int)).length : Int)) (
  if (decide (¬ (ix (ix m.2.1 (0 : Int)) (0 : Int)) = (0 : Int))) = true then
  some (3 : Int) else
  some (0 : Int)))
noncomputable def seqs_Check_L9_F (m : (Int × (List (List Int)) × (List Int) × Unit)) : (Int → Option (Int)) → Int → Option (Int) :=
  fun rec x => seqs_Check_L9_B m (fun t => rec t) x
noncomputable def seqs_Check_L9 (m : (Int × (List (List Int)) × (List Int) × Unit)) (t : Int) : Option (Int) := LFix (seqs_Check_L9_F m ) t
noncomputable def seqs_Check (m : (Int × (List (List Int)) × (List Int) × Unit)) : Option (Int) :=
  if (decide (m.1 < (2 : Int))) = true then
  some (2 : Int) else
  if (decide ((4 : Int) < m.1)) = true then
  some (2 : Int) else
  if (decide ((m.2.1.length : Int) < (1 : Int))) = true then
  some (1 : Int) else
  if (decide ((4 : Int) < (m.2.1.length : Int))) = true then
  some (1 : Int) else
  if (decide (¬ (m.2.2.1.length : Int) = (m.2.1.length : Int))) = true then
  some (3 : Int) else
  (slices_ContainsFunc m.2.1 (m.1, (m.2.1, (m.2.2.1, ())))).bind (fun y' =>
  if y' = true then
  some (3 : Int) else
  seqs_Check_L9 m (0 : Int))
theorem seqs_Check_L9_B_ch (r9 : Nat → Int → Option (Int)) (r9' : Int → Option (Int)) (h_r9 : ∀ a0, ChO (fun κ => r9 κ a0) (r9' a0)) (m : (Int × (List (List Int)) × (List Int) × Unit)) (t : Int) : ChO (fun κ => seqs_Check_L9_B m (r9 κ) t) (seqs_Check_L9_B m r9' t) := by
  unfold seqs_Check_L9_B
  repeat' first | exact ChO.const _ | exact h_r9 _ | apply ChO.ite | apply ChO.G | apply ChO.both | (apply ChO.bind; intro _)
theorem seqs_Check_L9_cn  (m : (Int × (List (List Int)) × (List Int) × Unit)) : Cn (seqs_Check_L9_F m) := fun g h hg x => seqs_Check_L9_B_ch  (fun κ t => g κ t) (fun t => h t) (fun t => hg t) m x
theorem seqs_Check_L9_eq  (m : (Int × (List (List Int)) × (List Int) × Unit)) (t : Int) : seqs_Check_L9 m t = seqs_Check_L9_B m (seqs_Check_L9 m) t := LFix_eq (seqs_Check_L9_cn m) t

noncomputable def seqs_Differ_J23 (t_1 : Int) (r18 : (Int → (List (Int × Int × Unit)) → (List Int) → (List (Int × Int × Int × Unit)) → Option (Int × Bool × Int))) (seen_4 : (List (Int × Int × Unit))) (seen_5 : (List Int)) (l_2 : (List (Int × Int × Int × Unit))) : Option (Int × Bool × Int) :=
  G (fits (t_1 + (1 : Int))) (
  r18 (t_1 + (1 : Int)) seen_4 seen_5 l_2)
noncomputable def seqs_Differ_L18_B (a : (Int × (List (List Int)) × (List Int) × Unit)) (b : (Int × (List (List Int)) × (List Int) × Unit)) (l : (List (Int × Int × Int × Unit))) (r12 : ((List (Int × Int × Unit)) → (List Int) → (List (Int × Int × Int × Unit)) → Option (Int × Bool × Int))) (r18 : Int → (List (Int × Int × Unit)) → (List Int) → (List (Int × Int × Int × Unit)) → Option (Int × Bool × Int)) (t_1 : Int) (seen_2 : (List (Int × Int × Unit))) (seen_3 : (List Int)) (l_1 : (List (Int × Int × Int × Unit))) : Option (Int × Bool × Int) :=
  if (decide (t_1 < a.1)) = true then
  G (0 ≤ (ix l (0 : Int)).1 ∧ (ix l (0 : Int)).1 < (a.2.1.length : Int)) (
  G (0 ≤ t_1 ∧ t_1 < ((ix a.2.1 ((ix l (0 : Int)).1)).length : Int)) (
  G (0 ≤ ((ix l (0 : Int)).2).1 ∧ ((ix l (0 : Int)).2).1 < (b.2.1.length : Int)) (
  G (0 ≤ t_1 ∧ t_1 < ((ix b.2.1 (((ix l (0 : Int)).2).1)).length : Int)) (
  if (decide ((mget seen_2 seen_3 (ix (ix a.2.1 ((ix l (0 : Int)).1)) t_1, (ix (ix b.2.1 (((ix l (0 : Int)).2).1)) t_1, ())) (0 : Int)) = (0 : Int))) = true then
  G (fits (((((ix l (0 : Int)).2).2).1) * a.1)) (
  G (fits ((((((ix l (0 : Int)).2).2).1) * a.1) + t_1)) (
  G (room l_1 ([(ix (ix a.2.1 ((ix l (0 : Int)).1)) t_1, (ix (ix b.2.1 (((ix l (0 : Int)).2).1)) t_1, ((((((ix l (0 : Int)).2).2).1) * a.1) + t_1, ())))]) 24) (
  seqs_Differ_J23 t_1 r18 (mputK seen_2 (ix (ix a.2.1 ((ix l (0 : Int)).1)) t_1, (ix (ix b.2.1 (((ix l (0 : Int)).2).1)) t_1, ()))) (mputV seen_2 seen_3 (ix (ix a.2.1 ((ix l (0 : Int)).1)) t_1, (ix (ix b.2.1 (((ix l (0 : Int)).2).1)) t_1, ())) (1 : Int)) (l_1 ++ ([(ix (ix a.2.1 ((ix l (0 : Int)).1)) t_1, (ix (ix b.2.1 (((ix l (0 : Int)).2).1)) t_1, ((((((ix l (0 : Int)).2).2).1) * a.1) + t_1, ())))]))))) else
  seqs_Differ_J23 t_1 r18 seen_2 seen_3 l_1)))) else
  G (0 ≤ (1 : Int) ∧ (1 : Int) ≤ (l_1.length : Int)) (
  r12 seen_2 seen_3 (l_1.drop ((1 : Int)).toNat))
noncomputable def seqs_Differ_L18_F (a : (Int × (List (List Int)) × (List Int) × Unit)) (b : (Int × (List (List Int)) × (List Int) × Unit)) (l : (List (Int × Int × Int × Unit))) (r12 : ((List (Int × Int × Unit)) → (List Int) → (List (Int × Int × Int × Unit)) → Option (Int × Bool × Int))) : (Int × (List (Int × Int × Unit)) × (List Int) × (List (Int × Int × Int × Unit)) → Option (Int × Bool × Int)) → Int × (List (Int × Int × Unit)) × (List Int) × (List (Int × Int × Int × Unit)) → Option (Int × Bool × Int) :=
  fun rec x => seqs_Differ_L18_B a b l r12 (fun t_1 seen_2 seen_3 l_1 => rec (t_1, seen_2, seen_3, l_1)) x.1 x.2.1 x.2.2.1 x.2.2.2
noncomputable def seqs_Differ_L18 (a : (Int × (List (List Int)) × (List Int) × Unit)) (b : (Int × (List (List Int)) × (List Int) × Unit)) (l : (List (Int × Int × Int × Unit))) (r12 : ((List (Int × Int × Unit)) → (List Int) → (List (Int × Int × Int × Unit)) → Option (Int × Bool × Int))) (t_1 : Int) (seen_2 : (List (Int × Int × Unit))) (seen_3 : (List Int)) (l_1 : (List (Int × Int × Int × Unit))) : Option (Int × Bool × Int) := LFix (seqs_Differ_L18_F a b l r12 ) (t_1, seen_2, seen_3, l_1)
noncomputable def seqs_Differ_L12_B (a : (Int × (List (List Int)) × (List Int) × Unit)) (b : (Int × (List (List Int)) × (List Int) × Unit)) (r12 : (List (Int × Int × Unit)) → (List Int) → (List (Int × Int × Int × Unit)) → Option (Int × Bool × Int)) (seen : (List (Int × Int × Unit))) (seen_1 : (List Int)) (l : (List (Int × Int × Int × Unit))) : Option (Int × Bool × Int) :=
  if (decide ((0 : Int) < (l.length : Int))) = true then
  G (0 ≤ (0 : Int) ∧ (0 : Int) < (l.length : Int)) (
  G (((0 : Int)).toNat < l.length) (
  G (0 ≤ (ix l (0 : Int)).1 ∧ (ix l (0 : Int)).1 < (a.2.2.1.length : Int)) (
  G (0 ≤ ((ix l (0 : Int)).2).1 ∧ ((ix l (0 : Int)).2).1 < (b.2.2.1.length : Int)) (
  if (decide (¬ (ix a.2.2.1 ((ix l (0 : Int)).1)) = (ix b.2.2.1 (((ix l (0 : Int)).2).1)))) = true then
  some ((((ix l (0 : Int)).2).2).1, true, (0 : Int)) else
  seqs_Differ_L18 a b l r12 (0 : Int) seen seen_1 l)))) else
  some ((0 : Int), false, (0 : Int))
noncomputable def seqs_Differ_L12_F (a : (Int × (List (List Int)) × (List Int) × Unit)) (b : (Int × (List (List Int)) × (List Int) × Unit)) : ((List (Int × Int × Unit)) × (List Int) × (List (Int × Int × Int × Unit)) → Option (Int × Bool × Int)) → (List (Int × Int × Unit)) × (List Int) × (List (Int × Int × Int × Unit)) → Option (Int × Bool × Int) :=
  fun rec x => seqs_Differ_L12_B a b (fun seen seen_1 l => rec (seen, seen_1, l)) x.1 x.2.1 x.2.2
noncomputable def seqs_Differ_L12 (a : (Int × (List (List Int)) × (List Int) × Unit)) (b : (Int × (List (List Int)) × (List Int) × Unit)) (seen : (List (Int × Int × Unit))) (seen_1 : (List Int)) (l : (List (Int × Int × Int × Unit))) : Option (Int × Bool × Int) := LFix (seqs_Differ_L12_F a b ) (seen, seen_1, l)
noncomputable def seqs_Differ_L2_B (a : (Int × (List (List Int)) × (List Int) × Unit)) (b : (Int × (List (List Int)) × (List Int) × Unit)) (r2 : Int → Option (Int × Bool × Int)) (t : Int) : Option (Int × Bool × Int) :=
  if (decide (t < (([(a.1, (a.2.1, (a.2.2.1, ()))), (b.1, (b.2.1, (b.2.2.1, ())))]).length : Int))) = true then
  G (0 ≤ t ∧ t < (([(a.1, (a.2.1, (a.2.2.1, ()))), (b.1, (b.2.1, (b.2.2.1, ())))]).length : Int)) (
  G ((t).toNat < ([(a.1, (a.2.1, (a.2.2.1, ()))), (b.1, (b.2.1, (b.2.2.1, ())))]).length) (
  (seqs_Check ((ix ([(a.1, (a.2.1, (a.2.2.1, ()))), (b.1, (b.2.1, (b.2.2.1, ())))]) t).1, (((ix ([(a.1, (a.2.1, (a.2.2.1, ()))), (b.1, (b.2.1, (b.2.2.1, ())))]) t).2).1, ((((ix ([(a.1, (a.2.1, (a.2.2.1, ()))), (b.1, (b.2.1, (b.2.2.1, ())))]) t).2).2).1, ())))).bind (fun y' =>
  if (decide (¬ y' = (0 : Int))) = true then
  some ((0 : Int), false, y') else
  G (fits (t + (1 : Int))) (
  r2 (t + (1 : Int)))))) else
  if (decide (¬ a.1 = b.1)) = true then
  some ((0 : Int), false, (3 : Int)) else
  seqs_Differ_L12 a b (mputK ([] : List (Int × Int × Unit)) ((0 : Int), ((0 : Int), ()))) (mputV ([] : List (Int × Int × Unit)) ([] : List Int) ((0 : Int), ((0 : Int), ())) (1 : Int)) ([((0 : Int), ((0 : Int), ((0 : Int), ())))])
noncomputable def seqs_Differ_L2_F (a : (Int × (List (List Int)) × (List Int) × Unit)) (b : (Int × (List (List Int)) × (List Int) × Unit)) : (Int → Option (Int × Bool × Int)) → Int → Option (Int × Bool × Int) :=
  fun rec x => seqs_Differ_L2_B a b (fun t => rec t) x
noncomputable def seqs_Differ_L2 (a : (Int × (List (List Int)) × (List Int) × Unit)) (b : (Int × (List (List Int)) × (List Int) × Unit)) (t : Int) : Option (Int × Bool × Int) := LFix (seqs_Differ_L2_F a b ) t
noncomputable def seqs_Differ (a : (Int × (List (List Int)) × (List Int) × Unit)) (b : (Int × (List (List Int)) × (List Int) × Unit)) : Option (Int × Bool × Int) :=
  seqs_Differ_L2 a b (0 : Int)
theorem seqs_Differ_J23_ch (r18 : Nat → Int → (List (Int × Int × Unit)) → (List Int) → (List (Int × Int × Int × Unit)) → Option (Int × Bool × Int)) (r18' : Int → (List (Int × Int × Unit)) → (List Int) → (List (Int × Int × Int × Unit)) → Option (Int × Bool × Int)) (h_r18 : ∀ a0 a1 a2 a3, ChO (fun κ => r18 κ a0 a1 a2 a3) (r18' a0 a1 a2 a3)) (t_1 : Int) (seen_4 : (List (Int × Int × Unit))) (seen_5 : (List Int)) (l_2 : (List (Int × Int × Int × Unit))) : ChO (fun κ => seqs_Differ_J23 t_1 (r18 κ) seen_4 seen_5 l_2) (seqs_Differ_J23 t_1 r18' seen_4 seen_5 l_2) := by
  unfold seqs_Differ_J23
  repeat' first | exact ChO.const _ | exact h_r18 _ _ _ _ | apply ChO.ite | apply ChO.G | apply ChO.both | (apply ChO.bind; intro _)
theorem seqs_Differ_L18_B_ch (r12 : Nat → (List (Int × Int × Unit)) → (List Int) → (List (Int × Int × Int × Unit)) → Option (Int × Bool × Int)) (r12' : (List (Int × Int × Unit)) → (List Int) → (List (Int × Int × Int × Unit)) → Option (Int × Bool × Int)) (h_r12 : ∀ a0 a1 a2, ChO (fun κ => r12 κ a0 a1 a2) (r12' a0 a1 a2)) (r18 : Nat → Int → (List (Int × Int × Unit)) → (List Int) → (List (Int × Int × Int × Unit)) → Option (Int × Bool × Int)) (r18' : Int → (List (Int × Int × Unit)) → (List Int) → (List (Int × Int × Int × Unit)) → Option (Int × Bool × Int)) (h_r18 : ∀ a0 a1 a2 a3, ChO (fun κ => r18 κ a0 a1 a2 a3) (r18' a0 a1 a2 a3)) (a : (Int × (List (List Int)) × (List Int) × Unit)) (b : (Int × (List (List Int)) × (List Int) × Unit)) (l : (List (Int × Int × Int × Unit))) (t_1 : Int) (seen_2 : (List (Int × Int × Unit))) (seen_3 : (List Int)) (l_1 : (List (Int × Int × Int × Unit))) : ChO (fun κ => seqs_Differ_L18_B a b l (r12 κ) (r18 κ) t_1 seen_2 seen_3 l_1) (seqs_Differ_L18_B a b l r12' r18' t_1 seen_2 seen_3 l_1) := by
  unfold seqs_Differ_L18_B
  repeat' first | exact ChO.const _ | exact h_r12 _ _ _ | exact h_r18 _ _ _ _ | (apply seqs_Differ_J23_ch <;> assumption) | apply ChO.ite | apply ChO.G | apply ChO.both | (apply ChO.bind; intro _)
theorem seqs_Differ_L18_cn (r12 : (List (Int × Int × Unit)) → (List Int) → (List (Int × Int × Int × Unit)) → Option (Int × Bool × Int)) (a : (Int × (List (List Int)) × (List Int) × Unit)) (b : (Int × (List (List Int)) × (List Int) × Unit)) (l : (List (Int × Int × Int × Unit))) : Cn (seqs_Differ_L18_F a b l r12) := fun g h hg x => seqs_Differ_L18_B_ch (fun _ => r12) r12 (fun _ _ _ => ChO.const _) (fun κ t_1 seen_2 seen_3 l_1 => g κ (t_1, seen_2, seen_3, l_1)) (fun t_1 seen_2 seen_3 l_1 => h (t_1, seen_2, seen_3, l_1)) (fun t_1 seen_2 seen_3 l_1 => hg (t_1, seen_2, seen_3, l_1)) a b l x.1 x.2.1 x.2.2.1 x.2.2.2
theorem seqs_Differ_L18_eq (r12 : (List (Int × Int × Unit)) → (List Int) → (List (Int × Int × Int × Unit)) → Option (Int × Bool × Int)) (a : (Int × (List (List Int)) × (List Int) × Unit)) (b : (Int × (List (List Int)) × (List Int) × Unit)) (l : (List (Int × Int × Int × Unit))) (t_1 : Int) (seen_2 : (List (Int × Int × Unit))) (seen_3 : (List Int)) (l_1 : (List (Int × Int × Int × Unit))) : seqs_Differ_L18 a b l r12 t_1 seen_2 seen_3 l_1 = seqs_Differ_L18_B a b l r12 (seqs_Differ_L18 a b l r12) t_1 seen_2 seen_3 l_1 := LFix_eq (seqs_Differ_L18_cn r12 a b l) (t_1, seen_2, seen_3, l_1)
theorem seqs_Differ_L18_ch (r12 : Nat → (List (Int × Int × Unit)) → (List Int) → (List (Int × Int × Int × Unit)) → Option (Int × Bool × Int)) (r12' : (List (Int × Int × Unit)) → (List Int) → (List (Int × Int × Int × Unit)) → Option (Int × Bool × Int)) (h_r12 : ∀ a0 a1 a2, ChO (fun κ => r12 κ a0 a1 a2) (r12' a0 a1 a2)) (a : (Int × (List (List Int)) × (List Int) × Unit)) (b : (Int × (List (List Int)) × (List Int) × Unit)) (l : (List (Int × Int × Int × Unit))) (t_1 : Int) (seen_2 : (List (Int × Int × Unit))) (seen_3 : (List Int)) (l_1 : (List (Int × Int × Int × Unit))) : ChO (fun κ => seqs_Differ_L18 a b l (r12 κ) t_1 seen_2 seen_3 l_1) (seqs_Differ_L18 a b l r12' t_1 seen_2 seen_3 l_1) := by
  unfold seqs_Differ_L18
  exact LFix_ch (fun κ => (seqs_Differ_L18_cn (r12 κ) a b l).mono) (seqs_Differ_L18_cn r12' a b l).mono (fun g h hg x => seqs_Differ_L18_B_ch r12 r12' h_r12 (fun κ t_1 seen_2 seen_3 l_1 => g κ (t_1, seen_2, seen_3, l_1)) (fun t_1 seen_2 seen_3 l_1 => h (t_1, seen_2, seen_3, l_1)) (fun t_1 seen_2 seen_3 l_1 => hg (t_1, seen_2, seen_3, l_1)) a b l x.1 x.2.1 x.2.2.1 x.2.2.2) _
theorem seqs_Differ_L12_B_ch (r12 : Nat → (List (Int × Int × Unit)) → (List Int) → (List (Int × Int × Int × Unit)) → Option (Int × Bool × Int)) (r12' : (List (Int × Int × Unit)) → (List Int) → (List (Int × Int × Int × Unit)) → Option (Int × Bool × Int)) (h_r12 : ∀ a0 a1 a2, ChO (fun κ => r12 κ a0 a1 a2) (r12' a0 a1 a2)) (a : (Int × (List (List Int)) × (List Int) × Unit)) (b : (Int × (List (List Int)) × (List Int) × Unit)) (seen : (List (Int × Int × Unit))) (seen_1 : (List Int)) (l : (List (Int × Int × Int × Unit))) : ChO (fun κ => seqs_Differ_L12_B a b (r12 κ) seen seen_1 l) (seqs_Differ_L12_B a b r12' seen seen_1 l) := by
  unfold seqs_Differ_L12_B
  repeat' first | exact ChO.const _ | exact h_r12 _ _ _ | (apply seqs_Differ_J23_ch <;> assumption) | (apply seqs_Differ_L18_ch <;> assumption) | apply ChO.ite | apply ChO.G | apply ChO.both | (apply ChO.bind; intro _)
theorem seqs_Differ_L12_cn  (a : (Int × (List (List Int)) × (List Int) × Unit)) (b : (Int × (List (List Int)) × (List Int) × Unit)) : Cn (seqs_Differ_L12_F a b) := fun g h hg x => seqs_Differ_L12_B_ch  (fun κ seen seen_1 l => g κ (seen, seen_1, l)) (fun seen seen_1 l => h (seen, seen_1, l)) (fun seen seen_1 l => hg (seen, seen_1, l)) a b x.1 x.2.1 x.2.2
theorem seqs_Differ_L12_eq  (a : (Int × (List (List Int)) × (List Int) × Unit)) (b : (Int × (List (List Int)) × (List Int) × Unit)) (seen : (List (Int × Int × Unit))) (seen_1 : (List Int)) (l : (List (Int × Int × Int × Unit))) : seqs_Differ_L12 a b seen seen_1 l = seqs_Differ_L12_B a b (seqs_Differ_L12 a b) seen seen_1 l := LFix_eq (seqs_Differ_L12_cn a b) (seen, seen_1, l)
theorem seqs_Differ_L2_B_ch (r2 : Nat → Int → Option (Int × Bool × Int)) (r2' : Int → Option (Int × Bool × Int)) (h_r2 : ∀ a0, ChO (fun κ => r2 κ a0) (r2' a0)) (a : (Int × (List (List Int)) × (List Int) × Unit)) (b : (Int × (List (List Int)) × (List Int) × Unit)) (t : Int) : ChO (fun κ => seqs_Differ_L2_B a b (r2 κ) t) (seqs_Differ_L2_B a b r2' t) := by
  unfold seqs_Differ_L2_B
  repeat' first | exact ChO.const _ | exact h_r2 _ | (apply seqs_Differ_J23_ch <;> assumption) | (apply seqs_Differ_L18_ch <;> assumption) | apply ChO.ite | apply ChO.G | apply ChO.both | (apply ChO.bind; intro _)
theorem seqs_Differ_L2_cn  (a : (Int × (List (List Int)) × (List Int) × Unit)) (b : (Int × (List (List Int)) × (List Int) × Unit)) : Cn (seqs_Differ_L2_F a b) := fun g h hg x => seqs_Differ_L2_B_ch  (fun κ t => g κ t) (fun t => h t) (fun t => hg t) a b x
theorem seqs_Differ_L2_eq  (a : (Int × (List (List Int)) × (List Int) × Unit)) (b : (Int × (List (List Int)) × (List Int) × Unit)) (t : Int) : seqs_Differ_L2 a b t = seqs_Differ_L2_B a b (seqs_Differ_L2 a b) t := LFix_eq (seqs_Differ_L2_cn a b) t

noncomputable def r23_Check_L17_B (m : (Int × (List (List Int)) × (List Int) × Unit)) (a_1 : Int) (r14 : (Int → Option (Int))) (r17 : Int → Option (Int)) (k : Int) : Option (Int) :=
  if (decide (k < m.1)) = true then
  G (0 ≤ a_1 ∧ a_1 < (m.2.1.length : Int)) (
  G (0 ≤ k ∧ k < ((ix m.2.1 a_1).length : Int)) (
  if (decide ((ix (ix m.2.1 a_1) k) < (0 : Int))) = true then
  some (2 : Int) else
  G (0 ≤ a_1 ∧ a_1 < (m.2.1.length : Int)) (
  G (0 ≤ k ∧ k < ((ix m.2.1 a_1).length : Int)) (
  if (decide ((m.2.1.length : Int) ≤ (ix (ix m.2.1 a_1) k))) = true then
  some (2 : Int) else
  G (fits (k + (1 : Int))) (
  r17 (k + (1 : Int))))))) else
  G (0 ≤ a_1 ∧ a_1 < (m.2.2.1.length : Int)) (
  if (decide ((ix m.2.2.1 a_1) < (0 : Int))) = true then
  some (2 : Int) else
  G (0 ≤ a_1 ∧ a_1 < (m.2.2.1.length : Int)) (
  if (decide ((9 : Int) < (ix m.2.2.1 a_1))) = true then
  some (2 : Int) else
  G (fits (a_1 + (1 : Int))) (
  r14 (a_1 + (1 : Int)))))
noncomputable def r23_Check_L17_F (m : (Int × (List (List Int)) × (List Int) × Unit)) (a_1 : Int) (r14 : (Int → Option (Int))) : (Int → Option (Int)) → Int → Option (Int) :=
  fun rec x => r23_Check_L17_B m a_1 r14 (fun k => rec k) x
noncomputable def r23_Check_L17 (m : (Int × (List (List Int)) × (List Int) × Unit)) (a_1 : Int) (r14 : (Int → Option (Int))) (k : Int) : Option (Int) := LFix (r23_Check_L17_F m a_1 r14 ) k
noncomputable def r23_Check_L14_B (m : (Int × (List (List Int)) × (List Int) × Unit)) (r14 : Int → Option (Int)) (a_1 : Int) : Option (Int) :=
  if (decide (a_1 < (m.2.1.length : Int))) = true then
  r23_Check_L17 m a_1 r14 (0 : Int) else
  G (0 ≤ (0 : Int) ∧ (0 : Int) < (m.2.1.length : Int)) (
  G (0 ≤ (0 : Int) ∧ (0 : Int) < ((ix m.2.1 (0 : Int)).length : Int)) (
  if (decide (¬ (ix (ix m.2.1 (0 : Int)) (0 : Int)) = (0 : Int))) = true then
  some (3 : Int) else
  some (0 : Int)))
noncomputable def r23_Check_L14_F (m : (Int × (List (List Int)) × (List Int) × Unit)) : (Int → Option (Int)) → Int → Option (Int) :=
  fun rec x => r23_Check_L14_B m (fun a_1 => rec a_1) x
noncomputable def r23_Check_L14 (m : (Int × (List (List Int)) × (List Int) × Unit)) (a_1 : Int) : Option (Int) := LFix (r23_Check_L14_F m ) a_1
noncomputable def r23_Check_L9_B (m : (Int × (List (List Int)) × (List Int) × Unit)) (r9 : Int → Option (Int)) (a : Int) : Option (Int) :=
  if (decide (a < (m.2.1.length : Int))) = true then
  G (0 ≤ a ∧ a < (m.2.1.length : Int)) (
  if (decide (¬ ((ix m.2.1 a).length : Int) = m.1)) = true then
  some (3 : Int) else
  G (fits (a + (1 : Int))) (
  r9 (a + (1 : Int)))) else
  r23_Check_L14 m (0 : Int)
noncomputable def r23_Check_L9_F (m : (Int × (List (List Int)) × (List Int) × Unit)) : (Int → Option (Int)) → Int → Option (Int) :=
  fun rec x => r23_Check_L9_B m (fun a => rec a) x
noncomputable def r23_Check_L9 (m : (Int × (List (List Int)) × (List Int) × Unit)) (a : Int) : Option (Int) := LFix (r23_Check_L9_F m ) a
noncomputable def r23_Check (m : (Int × (List (List Int)) × (List Int) × Unit)) : Option (Int) :=
  if (decide (m.1 < (2 : Int))) = true then
  some (2 : Int) else
  if (decide ((4 : Int) < m.1)) = true then
  some (2 : Int) else
  if (decide ((m.2.1.length : Int) < (1 : Int))) = true then
  some (1 : Int) else
  if (decide ((4 : Int) < (m.2.1.length : Int))) = true then
  some (1 : Int) else
  if (decide (¬ (m.2.2.1.length : Int) = (m.2.1.length : Int))) = true then
  some (3 : Int) else
  r23_Check_L9 m (0 : Int)
theorem r23_Check_L17_B_ch (r14 : Nat → Int → Option (Int)) (r14' : Int → Option (Int)) (h_r14 : ∀ a0, ChO (fun κ => r14 κ a0) (r14' a0)) (r17 : Nat → Int → Option (Int)) (r17' : Int → Option (Int)) (h_r17 : ∀ a0, ChO (fun κ => r17 κ a0) (r17' a0)) (m : (Int × (List (List Int)) × (List Int) × Unit)) (a_1 : Int) (k : Int) : ChO (fun κ => r23_Check_L17_B m a_1 (r14 κ) (r17 κ) k) (r23_Check_L17_B m a_1 r14' r17' k) := by
  unfold r23_Check_L17_B
  repeat' first | exact ChO.const _ | exact h_r14 _ | exact h_r17 _ | apply ChO.ite | apply ChO.G | apply ChO.both | (apply ChO.bind; intro _)
theorem r23_Check_L17_cn (r14 : Int → Option (Int)) (m : (Int × (List (List Int)) × (List Int) × Unit)) (a_1 : Int) : Cn (r23_Check_L17_F m a_1 r14) := fun g h hg x => r23_Check_L17_B_ch (fun _ => r14) r14 (fun _ => ChO.const _) (fun κ k => g κ k) (fun k => h k) (fun k => hg k) m a_1 x
theorem r23_Check_L17_eq (r14 : Int → Option (Int)) (m : (Int × (List (List Int)) × (List Int) × Unit)) (a_1 : Int) (k : Int) : r23_Check_L17 m a_1 r14 k = r23_Check_L17_B m a_1 r14 (r23_Check_L17 m a_1 r14) k := LFix_eq (r23_Check_L17_cn r14 m a_1) k
theorem r23_Check_L17_ch (r14 : Nat → Int → Option (Int)) (r14' : Int → Option (Int)) (h_r14 : ∀ a0, ChO (fun κ => r14 κ a0) (r14' a0)) (m : (Int × (List (List Int)) × (List Int) × Unit)) (a_1 : Int) (k : Int) : ChO (fun κ => r23_Check_L17 m a_1 (r14 κ) k) (r23_Check_L17 m a_1 r14' k) := by
  unfold r23_Check_L17
  exact LFix_ch (fun κ => (r23_Check_L17_cn (r14 κ) m a_1).mono) (r23_Check_L17_cn r14' m a_1).mono (fun g h hg x => r23_Check_L17_B_ch r14 r14' h_r14 (fun κ k => g κ k) (fun k => h k) (fun k => hg k) m a_1 x) _
theorem r23_Check_L14_B_ch (r14 : Nat → Int → Option (Int)) (r14' : Int → Option (Int)) (h_r14 : ∀ a0, ChO (fun κ => r14 κ a0) (r14' a0)) (m : (Int × (List (List Int)) × (List Int) × Unit)) (a_1 : Int) : ChO (fun κ => r23_Check_L14_B m (r14 κ) a_1) (r23_Check_L14_B m r14' a_1) := by
  unfold r23_Check_L14_B
  repeat' first | exact ChO.const _ | exact h_r14 _ | (apply r23_Check_L17_ch <;> assumption) | apply ChO.ite | apply ChO.G | apply ChO.both | (apply ChO.bind; intro _)
theorem r23_Check_L14_cn  (m : (Int × (List (List Int)) × (List Int) × Unit)) : Cn (r23_Check_L14_F m) := fun g h hg x => r23_Check_L14_B_ch  (fun κ a_1 => g κ a_1) (fun a_1 => h a_1) (fun a_1 => hg a_1) m x
theorem r23_Check_L14_eq  (m : (Int × (List (List Int)) × (List Int) × Unit)) (a_1 : Int) : r23_Check_L14 m a_1 = r23_Check_L14_B m (r23_Check_L14 m) a_1 := LFix_eq (r23_Check_L14_cn m) a_1
theorem r23_Check_L9_B_ch (r9 : Nat → Int → Option (Int)) (r9' : Int → Option (Int)) (h_r9 : ∀ a0, ChO (fun κ => r9 κ a0) (r9' a0)) (m : (Int × (List (List Int)) × (List Int) × Unit)) (a : Int) : ChO (fun κ => r23_Check_L9_B m (r9 κ) a) (r23_Check_L9_B m r9' a) := by
  unfold r23_Check_L9_B
  repeat' first | exact ChO.const _ | exact h_r9 _ | (apply r23_Check_L17_ch <;> assumption) | apply ChO.ite | apply ChO.G | apply ChO.both | (apply ChO.bind; intro _)
theorem r23_Check_L9_cn  (m : (Int × (List (List Int)) × (List Int) × Unit)) : Cn (r23_Check_L9_F m) := fun g h hg x => r23_Check_L9_B_ch  (fun κ a => g κ a) (fun a => h a) (fun a => hg a) m x
theorem r23_Check_L9_eq  (m : (Int × (List (List Int)) × (List Int) × Unit)) (a : Int) : r23_Check_L9 m a = r23_Check_L9_B m (r23_Check_L9 m) a := LFix_eq (r23_Check_L9_cn m) a

noncomputable def r23_Letter_L7_B (m : (Int × (List (List Int)) × (List Int) × Unit)) (digits : (List Int)) (r7 : Int → Int → Option (Int)) (a : Int) (i : Int) : Option (Int) :=
  if (decide ((0 : Int) ≤ i)) = true then
  G (0 ≤ a ∧ a < (m.2.1.length : Int)) (
  G (0 ≤ i ∧ i < (digits.length : Int)) (
  G ((i).toNat < digits.length) (
  G (0 ≤ ix digits i ∧ ix digits i < ((ix m.2.1 a).length : Int)) (
  G (fits (i - (1 : Int))) (
  r7 (ix (ix m.2.1 a) (ix digits i)) (i - (1 : Int))))))) else
  some a
noncomputable def r23_Letter_L7_F (m : (Int × (List (List Int)) × (List Int) × Unit)) (digits : (List Int)) : (Int × Int → Option (Int)) → Int × Int → Option (Int) :=
  fun rec x => r23_Letter_L7_B m digits (fun a i => rec (a, i)) x.1 x.2
noncomputable def r23_Letter_L7 (m : (Int × (List (List Int)) × (List Int) × Unit)) (digits : (List Int)) (a : Int) (i : Int) : Option (Int) := LFix (r23_Letter_L7_F m digits ) (a, i)
noncomputable def r23_Letter_L2_B (m : (Int × (List (List Int)) × (List Int) × Unit)) (r2 : Int → (List Int) → Option (Int)) (n_1 : Int) (digits : (List Int)) : Option (Int) :=
  if (decide ((0 : Int) < n_1)) = true then
  G (m.1 ≠ 0) (
  G (room digits ([Int.tmod n_1 m.1]) 8) (
  G (m.1 ≠ 0) (
  G (fits (Int.tdiv n_1 m.1)) (
  r2 (Int.tdiv n_1 m.1) (digits ++ ([Int.tmod n_1 m.1])))))) else
  G (fits ((digits.length : Int) - (1 : Int))) (
  r23_Letter_L7 m digits (0 : Int) ((digits.length : Int) - (1 : Int)))
noncomputable def r23_Letter_L2_F (m : (Int × (List (List Int)) × (List Int) × Unit)) : (Int × (List Int) → Option (Int)) → Int × (List Int) → Option (Int) :=
  fun rec x => r23_Letter_L2_B m (fun n_1 digits => rec (n_1, digits)) x.1 x.2
noncomputable def r23_Letter_L2 (m : (Int × (List (List Int)) × (List Int) × Unit)) (n_1 : Int) (digits : (List Int)) : Option (Int) := LFix (r23_Letter_L2_F m ) (n_1, digits)
noncomputable def r23_Letter (m : (Int × (List (List Int)) × (List Int) × Unit)) (n : Int) : Option (Int) :=
  r23_Letter_L2 m n ([])
theorem r23_Letter_L7_B_ch (r7 : Nat → Int → Int → Option (Int)) (r7' : Int → Int → Option (Int)) (h_r7 : ∀ a0 a1, ChO (fun κ => r7 κ a0 a1) (r7' a0 a1)) (m : (Int × (List (List Int)) × (List Int) × Unit)) (digits : (List Int)) (a : Int) (i : Int) : ChO (fun κ => r23_Letter_L7_B m digits (r7 κ) a i) (r23_Letter_L7_B m digits r7' a i) := by
  unfold r23_Letter_L7_B
  repeat' first | exact ChO.const _ | exact h_r7 _ _ | apply ChO.ite | apply ChO.G | apply ChO.both | (apply ChO.bind; intro _)
theorem r23_Letter_L7_cn  (m : (Int × (List (List Int)) × (List Int) × Unit)) (digits : (List Int)) : Cn (r23_Letter_L7_F m digits) := fun g h hg x => r23_Letter_L7_B_ch  (fun κ a i => g κ (a, i)) (fun a i => h (a, i)) (fun a i => hg (a, i)) m digits x.1 x.2
theorem r23_Letter_L7_eq  (m : (Int × (List (List Int)) × (List Int) × Unit)) (digits : (List Int)) (a : Int) (i : Int) : r23_Letter_L7 m digits a i = r23_Letter_L7_B m digits (r23_Letter_L7 m digits) a i := LFix_eq (r23_Letter_L7_cn m digits) (a, i)
theorem r23_Letter_L2_B_ch (r2 : Nat → Int → (List Int) → Option (Int)) (r2' : Int → (List Int) → Option (Int)) (h_r2 : ∀ a0 a1, ChO (fun κ => r2 κ a0 a1) (r2' a0 a1)) (m : (Int × (List (List Int)) × (List Int) × Unit)) (n_1 : Int) (digits : (List Int)) : ChO (fun κ => r23_Letter_L2_B m (r2 κ) n_1 digits) (r23_Letter_L2_B m r2' n_1 digits) := by
  unfold r23_Letter_L2_B
  repeat' first | exact ChO.const _ | exact h_r2 _ _ | apply ChO.ite | apply ChO.G | apply ChO.both | (apply ChO.bind; intro _)
theorem r23_Letter_L2_cn  (m : (Int × (List (List Int)) × (List Int) × Unit)) : Cn (r23_Letter_L2_F m) := fun g h hg x => r23_Letter_L2_B_ch  (fun κ n_1 digits => g κ (n_1, digits)) (fun n_1 digits => h (n_1, digits)) (fun n_1 digits => hg (n_1, digits)) m x.1 x.2
theorem r23_Letter_L2_eq  (m : (Int × (List (List Int)) × (List Int) × Unit)) (n_1 : Int) (digits : (List Int)) : r23_Letter_L2 m n_1 digits = r23_Letter_L2_B m (r23_Letter_L2 m) n_1 digits := LFix_eq (r23_Letter_L2_cn m) (n_1, digits)

noncomputable def r23_Differ_J19 (d : Int) (r14 : (Int → (List Bool) → (List Int) → Option (Int × Bool))) (seen_2 : (List Bool)) (places_2 : (List Int)) : Option (Int × Bool) :=
  G (fits (d + (1 : Int))) (
  r14 (d + (1 : Int)) seen_2 places_2)
noncomputable def r23_Differ_L14_B (a : (Int × (List (List Int)) × (List Int) × Unit)) (b : (Int × (List (List Int)) × (List Int) × Unit)) (i : Int) (places : (List Int)) (r6 : (Int → (List Bool) → (List Int) → Option (Int × Bool))) (y' : Int) (y'_1 : Int) (r14 : Int → (List Bool) → (List Int) → Option (Int × Bool)) (d : Int) (seen_1 : (List Bool)) (places_1 : (List Int)) : Option (Int × Bool) :=
  if (decide (d < a.1)) = true then
  G (0 ≤ y' ∧ y' < (a.2.1.length : Int)) (
  G (0 ≤ d ∧ d < ((ix a.2.1 y').length : Int)) (
  G (fits ((ix (ix a.2.1 y') d) * (b.2.1.length : Int))) (
  G (0 ≤ y'_1 ∧ y'_1 < (b.2.1.length : Int)) (
  G (0 ≤ d ∧ d < ((ix b.2.1 y'_1).length : Int)) (
  G (fits (((ix (ix a.2.1 y') d) * (b.2.1.length : Int)) + (ix (ix b.2.1 y'_1) d))) (
  G (0 ≤ ((ix (ix a.2.1 y') d) * (b.2.1.length : Int)) + (ix (ix b.2.1 y'_1) d) ∧ ((ix (ix a.2.1 y') d) * (b.2.1.length : Int)) + (ix (ix b.2.1 y'_1) d) < (seen_1.length : Int)) (
  G ((((ix (ix a.2.1 y') d) * (b.2.1.length : Int)) + (ix (ix b.2.1 y'_1) d)).toNat < seen_1.length) (
  if (!(ix seen_1 (((ix (ix a.2.1 y') d) * (b.2.1.length : Int)) + (ix (ix b.2.1 y'_1) d)))) = true then
  G (0 ≤ ((ix (ix a.2.1 y') d) * (b.2.1.length : Int)) + (ix (ix b.2.1 y'_1) d) ∧ ((ix (ix a.2.1 y') d) * (b.2.1.length : Int)) + (ix (ix b.2.1 y'_1) d) < (seen_1.length : Int)) (
  G ((((ix (ix a.2.1 y') d) * (b.2.1.length : Int)) + (ix (ix b.2.1 y'_1) d)).toNat < seen_1.length) (
  G (fits ((ix places i) * a.1)) (
  G (fits (((ix places i) * a.1) + d)) (
  G (room places_1 ([((ix places i) * a.1) + d]) 8) (
  r23_Differ_J19 d r14 (seen_1.set (((ix (ix a.2.1 y') d) * (b.2.1.length : Int)) + (ix (ix b.2.1 y'_1) d)).toNat true) (places_1 ++ ([((ix places i) * a.1) + d]))))))) else
  r23_Differ_J19 d r14 seen_1 places_1)))))))) else
  G (fits (i + (1 : Int))) (
  r6 (i + (1 : Int)) seen_1 places_1)
noncomputable def r23_Differ_L14_F (a : (Int × (List (List Int)) × (List Int) × Unit)) (b : (Int × (List (List Int)) × (List Int) × Unit)) (i : Int) (places : (List Int)) (r6 : (Int → (List Bool) → (List Int) → Option (Int × Bool))) (y' : Int) (y'_1 : Int) : (Int × (List Bool) × (List Int) → Option (Int × Bool)) → Int × (List Bool) × (List Int) → Option (Int × Bool) :=
  fun rec x => r23_Differ_L14_B a b i places r6 y' y'_1 (fun d seen_1 places_1 => rec (d, seen_1, places_1)) x.1 x.2.1 x.2.2
noncomputable def r23_Differ_L14 (a : (Int × (List (List Int)) × (List Int) × Unit)) (b : (Int × (List (List Int)) × (List Int) × Unit)) (i : Int) (places : (List Int)) (r6 : (Int → (List Bool) → (List Int) → Option (Int × Bool))) (y' : Int) (y'_1 : Int) (d : Int) (seen_1 : (List Bool)) (places_1 : (List Int)) : Option (Int × Bool) := LFix (r23_Differ_L14_F a b i places r6 y' y'_1 ) (d, seen_1, places_1)
noncomputable def r23_Differ_L6_B (a : (Int × (List (List Int)) × (List Int) × Unit)) (b : (Int × (List (List Int)) × (List Int) × Unit)) (r6 : Int → (List Bool) → (List Int) → Option (Int × Bool)) (i : Int) (seen : (List Bool)) (places : (List Int)) : Option (Int × Bool) :=
  if (decide (i < (places.length : Int))) = true then
  G (0 ≤ i ∧ i < (places.length : Int)) (
  G ((i).toNat < places.length) (
  (r23_Letter (a.1, (a.2.1, (a.2.2.1, ()))) (ix places i)).bind (fun y' =>
  (r23_Letter (b.1, (b.2.1, (b.2.2.1, ()))) (ix places i)).bind (fun y'_1 =>
  G (0 ≤ y' ∧ y' < (a.2.2.1.length : Int)) (
  G (0 ≤ y'_1 ∧ y'_1 < (b.2.2.1.length : Int)) (
  if (decide (¬ (ix a.2.2.1 y') = (ix b.2.2.1 y'_1))) = true then
  some (ix places i, true) else
  r23_Differ_L14 a b i places r6 y' y'_1 (0 : Int) seen places)))))) else
  some ((0 : Int), false)
noncomputable def r23_Differ_L6_F (a : (Int × (List (List Int)) × (List Int) × Unit)) (b : (Int × (List (List Int)) × (List Int) × Unit)) : (Int × (List Bool) × (List Int) → Option (Int × Bool)) → Int × (List Bool) × (List Int) → Option (Int × Bool) :=
  fun rec x => r23_Differ_L6_B a b (fun i seen places => rec (i, seen, places)) x.1 x.2.1 x.2.2
noncomputable def r23_Differ_L6 (a : (Int × (List (List Int)) × (List Int) × Unit)) (b : (Int × (List (List Int)) × (List Int) × Unit)) (i : Int) (seen : (List Bool)) (places : (List Int)) : Option (Int × Bool) := LFix (r23_Differ_L6_F a b ) (i, seen, places)
noncomputable def r23_Differ (a : (Int × (List (List Int)) × (List Int) × Unit)) (b : (Int × (List (List Int)) × (List Int) × Unit)) : Option (Int × Bool) :=
  G (fits ((a.2.1.length : Int) * (b.2.1.length : Int))) (
  G (mkOK ((a.2.1.length : Int) * (b.2.1.length : Int)) ((a.2.1.length : Int) * (b.2.1.length : Int)) 1) (
  G (0 ≤ (0 : Int) ∧ (0 : Int) < ((List.replicate ((a.2.1.length : Int) * (b.2.1.length : Int)).toNat (false : Bool)).length : Int)) (
  G (((0 : Int)).toNat < (List.replicate ((a.2.1.length : Int) * (b.2.1.length : Int)).toNat (false : Bool)).length) (
  r23_Differ_L6 a b (0 : Int) ((List.replicate ((a.2.1.length : Int) * (b.2.1.length : Int)).toNat (false : Bool)).set ((0 : Int)).toNat true) ([(0 : Int)])))))
theorem r23_Differ_J19_ch (r14 : Nat → Int → (List Bool) → (List Int) → Option (Int × Bool)) (r14' : Int → (List Bool) → (List Int) → Option (Int × Bool)) (h_r14 : ∀ a0 a1 a2, ChO (fun κ => r14 κ a0 a1 a2) (r14' a0 a1 a2)) (d : Int) (seen_2 : (List Bool)) (places_2 : (List Int)) : ChO (fun κ => r23_Differ_J19 d (r14 κ) seen_2 places_2) (r23_Differ_J19 d r14' seen_2 places_2) := by
  unfold r23_Differ_J19
  repeat' first | exact ChO.const _ | exact h_r14 _ _ _ | apply ChO.ite | apply ChO.G | apply ChO.both | (apply ChO.bind; intro _)
theorem r23_Differ_L14_B_ch (r6 : Nat → Int → (List Bool) → (List Int) → Option (Int × Bool)) (r6' : Int → (List Bool) → (List Int) → Option (Int × Bool)) (h_r6 : ∀ a0 a1 a2, ChO (fun κ => r6 κ a0 a1 a2) (r6' a0 a1 a2)) (r14 : Nat → Int → (List Bool) → (List Int) → Option (Int × Bool)) (r14' : Int → (List Bool) → (List Int) → Option (Int × Bool)) (h_r14 : ∀ a0 a1 a2, ChO (fun κ => r14 κ a0 a1 a2) (r14' a0 a1 a2)) (a : (Int × (List (List Int)) × (List Int) × Unit)) (b : (Int × (List (List Int)) × (List Int) × Unit)) (i : Int) (places : (List Int)) (y' : Int) (y'_1 : Int) (d : Int) (seen_1 : (List Bool)) (places_1 : (List Int)) : ChO (fun κ => r23_Differ_L14_B a b i places (r6 κ) y' y'_1 (r14 κ) d seen_1 places_1) (r23_Differ_L14_B a b i places r6' y' y'_1 r14' d seen_1 places_1) := by
  unfold r23_Differ_L14_B
  repeat' first | exact ChO.const _ | exact h_r6 _ _ _ | exact h_r14 _ _ _ | (apply r23_Differ_J19_ch <;> assumption) | apply ChO.ite | apply ChO.G | apply ChO.both | (apply ChO.bind; intro _)
theorem r23_Differ_L14_cn (r6 : Int → (List Bool) → (List Int) → Option (Int × Bool)) (a : (Int × (List (List Int)) × (List Int) × Unit)) (b : (Int × (List (List Int)) × (List Int) × Unit)) (i : Int) (places : (List Int)) (y' : Int) (y'_1 : Int) : Cn (r23_Differ_L14_F a b i places r6 y' y'_1) := fun g h hg x => r23_Differ_L14_B_ch (fun _ => r6) r6 (fun _ _ _ => ChO.const _) (fun κ d seen_1 places_1 => g κ (d, seen_1, places_1)) (fun d seen_1 places_1 => h (d, seen_1, places_1)) (fun d seen_1 places_1 => hg (d, seen_1, places_1)) a b i places y' y'_1 x.1 x.2.1 x.2.2
theorem r23_Differ_L14_eq (r6 : Int → (List Bool) → (List Int) → Option (Int × Bool)) (a : (Int × (List (List Int)) × (List Int) × Unit)) (b : (Int × (List (List Int)) × (List Int) × Unit)) (i : Int) (places : (List Int)) (y' : Int) (y'_1 : Int) (d : Int) (seen_1 : (List Bool)) (places_1 : (List Int)) : r23_Differ_L14 a b i places r6 y' y'_1 d seen_1 places_1 = r23_Differ_L14_B a b i places r6 y' y'_1 (r23_Differ_L14 a b i places r6 y' y'_1) d seen_1 places_1 := LFix_eq (r23_Differ_L14_cn r6 a b i places y' y'_1) (d, seen_1, places_1)
theorem r23_Differ_L14_ch (r6 : Nat → Int → (List Bool) → (List Int) → Option (Int × Bool)) (r6' : Int → (List Bool) → (List Int) → Option (Int × Bool)) (h_r6 : ∀ a0 a1 a2, ChO (fun κ => r6 κ a0 a1 a2) (r6' a0 a1 a2)) (a : (Int × (List (List Int)) × (List Int) × Unit)) (b : (Int × (List (List Int)) × (List Int) × Unit)) (i : Int) (places : (List Int)) (y' : Int) (y'_1 : Int) (d : Int) (seen_1 : (List Bool)) (places_1 : (List Int)) : ChO (fun κ => r23_Differ_L14 a b i places (r6 κ) y' y'_1 d seen_1 places_1) (r23_Differ_L14 a b i places r6' y' y'_1 d seen_1 places_1) := by
  unfold r23_Differ_L14
  exact LFix_ch (fun κ => (r23_Differ_L14_cn (r6 κ) a b i places y' y'_1).mono) (r23_Differ_L14_cn r6' a b i places y' y'_1).mono (fun g h hg x => r23_Differ_L14_B_ch r6 r6' h_r6 (fun κ d seen_1 places_1 => g κ (d, seen_1, places_1)) (fun d seen_1 places_1 => h (d, seen_1, places_1)) (fun d seen_1 places_1 => hg (d, seen_1, places_1)) a b i places y' y'_1 x.1 x.2.1 x.2.2) _
theorem r23_Differ_L6_B_ch (r6 : Nat → Int → (List Bool) → (List Int) → Option (Int × Bool)) (r6' : Int → (List Bool) → (List Int) → Option (Int × Bool)) (h_r6 : ∀ a0 a1 a2, ChO (fun κ => r6 κ a0 a1 a2) (r6' a0 a1 a2)) (a : (Int × (List (List Int)) × (List Int) × Unit)) (b : (Int × (List (List Int)) × (List Int) × Unit)) (i : Int) (seen : (List Bool)) (places : (List Int)) : ChO (fun κ => r23_Differ_L6_B a b (r6 κ) i seen places) (r23_Differ_L6_B a b r6' i seen places) := by
  unfold r23_Differ_L6_B
  repeat' first | exact ChO.const _ | exact h_r6 _ _ _ | (apply r23_Differ_J19_ch <;> assumption) | (apply r23_Differ_L14_ch <;> assumption) | apply ChO.ite | apply ChO.G | apply ChO.both | (apply ChO.bind; intro _)
theorem r23_Differ_L6_cn  (a : (Int × (List (List Int)) × (List Int) × Unit)) (b : (Int × (List (List Int)) × (List Int) × Unit)) : Cn (r23_Differ_L6_F a b) := fun g h hg x => r23_Differ_L6_B_ch  (fun κ i seen places => g κ (i, seen, places)) (fun i seen places => h (i, seen, places)) (fun i seen places => hg (i, seen, places)) a b x.1 x.2.1 x.2.2
theorem r23_Differ_L6_eq  (a : (Int × (List (List Int)) × (List Int) × Unit)) (b : (Int × (List (List Int)) × (List Int) × Unit)) (i : Int) (seen : (List Bool)) (places : (List Int)) : r23_Differ_L6 a b i seen places = r23_Differ_L6_B a b (r23_Differ_L6 a b) i seen places := LFix_eq (r23_Differ_L6_cn a b) (i, seen, places)

noncomputable def law_SeqsDiffers_J6 (a : (Int × (List (List Int)) × (List Int) × Unit)) (b : (Int × (List (List Int)) × (List Int) × Unit)) (place : Int) (y' : Int) (y'_1 : Bool) (y'_2 : Int) (no_1 : Int) : Option (Bool) :=
  if (decide (¬ no_1 = (0 : Int))) = true then
  if (decide (y'_2 = no_1)) = true then
  if (!y'_1) = true then
  some (decide (y' = (0 : Int))) else
  some false else
  some false else
  (r23_Differ (a.1, (a.2.1, (a.2.2.1, ()))) (b.1, (b.2.1, (b.2.2.1, ())))).bind (fun y'_11 =>
  if (decide (¬ y'_2 = (0 : Int))) = true then
  some false else
  if (decide (¬ y'_1 = y'_11.2)) = true then
  some false else
  if (decide (¬ y' = y'_11.1)) = true then
  some false else
  if (decide (place < (0 : Int))) = true then
  some true else
  (r23_Letter (a.1, (a.2.1, (a.2.2.1, ()))) place).bind (fun y'_9 =>
  (r23_Letter (b.1, (b.2.1, (b.2.2.1, ()))) place).bind (fun y'_10 =>
  G (0 ≤ y'_9 ∧ y'_9 < (a.2.2.1.length : Int)) (
  G (0 ≤ y'_10 ∧ y'_10 < (b.2.2.1.length : Int)) (
  if (decide ((ix a.2.2.1 y'_9) = (ix b.2.2.1 y'_10))) = true then
  some true else
  if y'_1 = true then
  some (decide (y' ≤ place)) else
  some false)))))
noncomputable def law_SeqsDiffers_J5 (a : (Int × (List (List Int)) × (List Int) × Unit)) (b : (Int × (List (List Int)) × (List Int) × Unit)) (place : Int) (y' : Int) (y'_1 : Bool) (y'_2 : Int) (no : Int) (t : Bool) : Option (Bool) :=
  if t = true then
  law_SeqsDiffers_J6 a b place y' y'_1 y'_2 (3 : Int) else
  law_SeqsDiffers_J6 a b place y' y'_1 y'_2 no
noncomputable def law_SeqsDiffers_J4 (a : (Int × (List (List Int)) × (List Int) × Unit)) (b : (Int × (List (List Int)) × (List Int) × Unit)) (place : Int) (y' : Int) (y'_1 : Bool) (y'_2 : Int) (no : Int) : Option (Bool) :=
  if (decide (no = (0 : Int))) = true then
  law_SeqsDiffers_J5 a b place y' y'_1 y'_2 no (decide (¬ a.1 = b.1)) else
  law_SeqsDiffers_J5 a b place y' y'_1 y'_2 no false
noncomputable def law_SeqsDiffers (a : (Int × (List (List Int)) × (List Int) × Unit)) (b : (Int × (List (List Int)) × (List Int) × Unit)) (place : Int) : Option (Bool) :=
  (seqs_Differ (a.1, (a.2.1, (a.2.2.1, ()))) (b.1, (b.2.1, (b.2.2.1, ())))).bind (fun y'_12 =>
  (r23_Check (a.1, (a.2.1, (a.2.2.1, ())))).bind (fun y'_4 =>
  if (decide (y'_4 = (0 : Int))) = true then
  (r23_Check (b.1, (b.2.1, (b.2.2.1, ())))).bind (fun y'_5 =>
  law_SeqsDiffers_J4 a b place y'_12.1 y'_12.2.1 y'_12.2.2 y'_5) else
  law_SeqsDiffers_J4 a b place y'_12.1 y'_12.2.1 y'_12.2.2 y'_4))

end Go.Proofs.Ytdphdliikpdiiaa.seqsDiffersW
