/- What the functions that 'CodeSync' reaches compute: plain functions. -/
import Derived.Test.YtogcngcbpkjdfaaEv9n21
set_option maxHeartbeats 1000000
set_option maxRecDepth 20000
set_option linter.unusedSimpArgs false
set_option linter.unusedVariables false
namespace Go.Proofs.Ytogcngcbpkjdfaa.codeSyncW
open Go Go.Ab
noncomputable def det_Check_1 (r : (List Int)) (t : (Int × Int × (List (List Int)) × (List Int) × Unit)) : Option (Bool) :=
  some (decide (¬ (r.length : Int) = t.1))

noncomputable def slices_IndexFunc_L2_B (s : (List (List Int))) (c : (Int × Int × (List (List Int)) × (List Int) × Unit)) (r2 : Int → Option (Int)) (t : Int) : Option (Int) :=
  if (decide (t < (s.length : Int))) = true then
  G (0 ≤ t ∧ t < (s.length : Int)) (
  (det_Check_1 (ix s t) c).bind (fun y' =>
  if y' = true then
  some t else
  G (fits (t + (1 : Int))) (
  r2 (t + (1 : Int))))) else
  some (-1 : Int)
noncomputable def slices_IndexFunc_L2_F (s : (List (List Int))) (c : (Int × Int × (List (List Int)) × (List Int) × Unit)) : (Int → Option (Int)) → Int → Option (Int) :=
  fun rec x => slices_IndexFunc_L2_B s c (fun t => rec t) x
noncomputable def slices_IndexFunc_L2 (s : (List (List Int))) (c : (Int × Int × (List (List Int)) × (List Int) × Unit)) (t : Int) : Option (Int) := LFix (slices_IndexFunc_L2_F s c ) t
noncomputable def slices_IndexFunc (s : (List (List Int))) (c : (Int × Int × (List (List Int)) × (List Int) × Unit)) : Option (Int) :=
  slices_IndexFunc_L2 s c (0 : Int)
theorem slices_IndexFunc_L2_B_ch (r2 : Nat → Int → Option (Int)) (r2' : Int → Option (Int)) (h_r2 : ∀ a0, ChO (fun κ => r2 κ a0) (r2' a0)) (s : (List (List Int))) (c : (Int × Int × (List (List Int)) × (List Int) × Unit)) (t : Int) : ChO (fun κ => slices_IndexFunc_L2_B s c (r2 κ) t) (slices_IndexFunc_L2_B s c r2' t) := by
  unfold slices_IndexFunc_L2_B
  repeat' first | exact ChO.const _ | exact h_r2 _ | apply ChO.ite | apply ChO.G | apply ChO.both | (apply ChO.bind; intro _)
theorem slices_IndexFunc_L2_cn  (s : (List (List Int))) (c : (Int × Int × (List (List Int)) × (List Int) × Unit)) : Cn (slices_IndexFunc_L2_F s c) := fun g h hg x => slices_IndexFunc_L2_B_ch  (fun κ t => g κ t) (fun t => h t) (fun t => hg t) s c x
theorem slices_IndexFunc_L2_eq  (s : (List (List Int))) (c : (Int × Int × (List (List Int)) × (List Int) × Unit)) (t : Int) : slices_IndexFunc_L2 s c t = slices_IndexFunc_L2_B s c (slices_IndexFunc_L2 s c) t := LFix_eq (slices_IndexFunc_L2_cn s c) t

noncomputable def slices_ContainsFunc (s : (List (List Int))) (c : (Int × Int × (List (List Int)) × (List Int) × Unit)) : Option (Bool) :=
  (slices_IndexFunc s c).bind (fun y' =>
  some (decide ((0 : Int) ≤ y')))

noncomputable def det_Check_2 (q : Int) (t : Int) : Option (Bool) :=
  if (decide (q < (0 : Int))) = true then
  some true else
  some (decide (t ≤ q))

noncomputable def slices_IndexFunc_2_L2_B (s : (List Int)) (c : Int) (r2 : Int → Option (Int)) (t : Int) : Option (Int) :=
  if (decide (t < (s.length : Int))) = true then
  G (0 ≤ t ∧ t < (s.length : Int)) (
  (det_Check_2 (ix s t) c).bind (fun y' =>
  if y' = true then
  some t else
  G (fits (t + (1 : Int))) (
  r2 (t + (1 : Int))))) else
  some (-1 : Int)
noncomputable def slices_IndexFunc_2_L2_F (s : (List Int)) (c : Int) : (Int → Option (Int)) → Int → Option (Int) :=
  fun rec x => slices_IndexFunc_2_L2_B s c (fun t => rec t) x
noncomputable def slices_IndexFunc_2_L2 (s : (List Int)) (c : Int) (t : Int) : Option (Int) := LFix (slices_IndexFunc_2_L2_F s c ) t
noncomputable def slices_IndexFunc_2 (s : (List Int)) (c : Int) : Option (Int) :=
  slices_IndexFunc_2_L2 s c (0 : Int)
theorem slices_IndexFunc_2_L2_B_ch (r2 : Nat → Int → Option (Int)) (r2' : Int → Option (Int)) (h_r2 : ∀ a0, ChO (fun κ => r2 κ a0) (r2' a0)) (s : (List Int)) (c : Int) (t : Int) : ChO (fun κ => slices_IndexFunc_2_L2_B s c (r2 κ) t) (slices_IndexFunc_2_L2_B s c r2' t) := by
  unfold slices_IndexFunc_2_L2_B
  repeat' first | exact ChO.const _ | exact h_r2 _ | apply ChO.ite | apply ChO.G | apply ChO.both | (apply ChO.bind; intro _)
theorem slices_IndexFunc_2_L2_cn  (s : (List Int)) (c : Int) : Cn (slices_IndexFunc_2_L2_F s c) := fun g h hg x => slices_IndexFunc_2_L2_B_ch  (fun κ t => g κ t) (fun t => h t) (fun t => hg t) s c x
theorem slices_IndexFunc_2_L2_eq  (s : (List Int)) (c : Int) (t : Int) : slices_IndexFunc_2_L2 s c t = slices_IndexFunc_2_L2_B s c (slices_IndexFunc_2_L2 s c) t := LFix_eq (slices_IndexFunc_2_L2_cn s c) t

noncomputable def slices_ContainsFunc_2 (s : (List Int)) (c : Int) : Option (Bool) :=
  (slices_IndexFunc_2 s c).bind (fun y' =>
  some (decide ((0 : Int) ≤ y')))

noncomputable def det_Check_3 (r : (List Int)) (c : Int) : Option (Bool × Int) :=
  (slices_ContainsFunc_2 r c).bind (fun y' =>
  some (y', c))

noncomputable def slices_IndexFunc_1_L2_B (s : (List (List Int))) (r2 : Int → Int → Option (Int × Int)) (t : Int) (l : Int) : Option (Int × Int) :=
  if (decide (t < (s.length : Int))) = true then
  G (0 ≤ t ∧ t < (s.length : Int)) (
  (det_Check_3 (ix s t) l).bind (fun y'_3 =>
  if y'_3.1 = true then
  some (t, y'_3.2) else
  G (fits (t + (1 : Int))) (
  r2 (t + (1 : Int)) y'_3.2))) else
  some ((-1 : Int), l)
noncomputable def slices_IndexFunc_1_L2_F (s : (List (List Int))) : (Int × Int → Option (Int × Int)) → Int × Int → Option (Int × Int) :=
  fun rec x => slices_IndexFunc_1_L2_B s (fun t l => rec (t, l)) x.1 x.2
noncomputable def slices_IndexFunc_1_L2 (s : (List (List Int))) (t : Int) (l : Int) : Option (Int × Int) := LFix (slices_IndexFunc_1_L2_F s ) (t, l)
noncomputable def slices_IndexFunc_1 (s : (List (List Int))) (c : Int) : Option (Int × Int) :=
  slices_IndexFunc_1_L2 s (0 : Int) c
theorem slices_IndexFunc_1_L2_B_ch (r2 : Nat → Int → Int → Option (Int × Int)) (r2' : Int → Int → Option (Int × Int)) (h_r2 : ∀ a0 a1, ChO (fun κ => r2 κ a0 a1) (r2' a0 a1)) (s : (List (List Int))) (t : Int) (l : Int) : ChO (fun κ => slices_IndexFunc_1_L2_B s (r2 κ) t l) (slices_IndexFunc_1_L2_B s r2' t l) := by
  unfold slices_IndexFunc_1_L2_B
  repeat' first | exact ChO.const _ | exact h_r2 _ _ | apply ChO.ite | apply ChO.G | apply ChO.both | (apply ChO.bind; intro _)
theorem slices_IndexFunc_1_L2_cn  (s : (List (List Int))) : Cn (slices_IndexFunc_1_L2_F s) := fun g h hg x => slices_IndexFunc_1_L2_B_ch  (fun κ t l => g κ (t, l)) (fun t l => h (t, l)) (fun t l => hg (t, l)) s x.1 x.2
theorem slices_IndexFunc_1_L2_eq  (s : (List (List Int))) (t : Int) (l : Int) : slices_IndexFunc_1_L2 s t l = slices_IndexFunc_1_L2_B s (slices_IndexFunc_1_L2 s) t l := LFix_eq (slices_IndexFunc_1_L2_cn s) (t, l)

noncomputable def slices_ContainsFunc_1 (s : (List (List Int))) (c : Int) : Option (Bool × Int) :=
  (slices_IndexFunc_1 s c).bind (fun y'_3 =>
  some (decide ((0 : Int) ≤ y'_3.1), y'_3.2))

noncomputable def det_Check_4 (m : Int) : Option (Bool) :=
  if (decide (¬ m = (0 : Int))) = true then
  some (decide (¬ m = (1 : Int))) else
  some false

noncomputable def slices_IndexFunc_3_L2_B (s : (List Int)) (r2 : Int → Option (Int)) (t : Int) : Option (Int) :=
  if (decide (t < (s.length : Int))) = true then
  G (0 ≤ t ∧ t < (s.length : Int)) (
  (det_Check_4 (ix s t)).bind (fun y' =>
  if y' = true then
  some t else
  G (fits (t + (1 : Int))) (
  r2 (t + (1 : Int))))) else
  some (-1 : Int)
noncomputable def slices_IndexFunc_3_L2_F (s : (List Int)) : (Int → Option (Int)) → Int → Option (Int) :=
  fun rec x => slices_IndexFunc_3_L2_B s (fun t => rec t) x
noncomputable def slices_IndexFunc_3_L2 (s : (List Int)) (t : Int) : Option (Int) := LFix (slices_IndexFunc_3_L2_F s ) t
noncomputable def slices_IndexFunc_3 (s : (List Int)) : Option (Int) :=
  slices_IndexFunc_3_L2 s (0 : Int)
theorem slices_IndexFunc_3_L2_B_ch (r2 : Nat → Int → Option (Int)) (r2' : Int → Option (Int)) (h_r2 : ∀ a0, ChO (fun κ => r2 κ a0) (r2' a0)) (s : (List Int)) (t : Int) : ChO (fun κ => slices_IndexFunc_3_L2_B s (r2 κ) t) (slices_IndexFunc_3_L2_B s r2' t) := by
  unfold slices_IndexFunc_3_L2_B
  repeat' first | exact ChO.const _ | exact h_r2 _ | apply ChO.ite | apply ChO.G | apply ChO.both | (apply ChO.bind; intro _)
theorem slices_IndexFunc_3_L2_cn  (s : (List Int)) : Cn (slices_IndexFunc_3_L2_F s) := fun g h hg x => slices_IndexFunc_3_L2_B_ch  (fun κ t => g κ t) (fun t => h t) (fun t => hg t) s x
theorem slices_IndexFunc_3_L2_eq  (s : (List Int)) (t : Int) : slices_IndexFunc_3_L2 s t = slices_IndexFunc_3_L2_B s (slices_IndexFunc_3_L2 s) t := LFix_eq (slices_IndexFunc_3_L2_cn s) t

noncomputable def slices_ContainsFunc_3 (s : (List Int)) : Option (Bool) :=
  (slices_IndexFunc_3 s).bind (fun y' =>
  some (decide ((0 : Int) ≤ y')))

noncomputable def det_Check (d : (Int × Int × (List (List Int)) × (List Int) × Unit)) : Option (Int) :=
  if (decide (d.1 < (1 : Int))) = true then
  some (2 : Int) else
  if (decide ((4 : Int) < d.1)) = true then
  some (2 : Int) else
  if (decide ((d.2.2.1.length : Int) < (1 : Int))) = true then
  some (1 : Int) else
  if (decide ((3000 : Int) < (d.2.2.1.length : Int))) = true then
  some (1 : Int) else
  if (decide (¬ (d.2.2.2.1.length : Int) = (d.2.2.1.length : Int))) = true then
  some (3 : Int) else
  (slices_ContainsFunc d.2.2.1 (d.1, (d.2.1, (d.2.2.1, (d.2.2.2.1, ()))))).bind (fun y' =>
  if y' = true then
  some (3 : Int) else
  (det_Check_2 d.2.1 (d.2.2.1.length : Int)).bind (fun y'_1 =>
  if y'_1 = true then
  some (2 : Int) else
  (slices_ContainsFunc_1 d.2.2.1 (d.2.2.1.length : Int)).bind (fun y'_6 =>
  if y'_6.1 = true then
  some (2 : Int) else
  (slices_ContainsFunc_3 d.2.2.2.1).bind (fun y'_5 =>
  if y'_5 = true then
  some (2 : Int) else
  some (0 : Int)))))

noncomputable def slices_Clone (s : (List Int)) : Option (List Int) :=
  if s.length = 0 then both [(.list (.int .i64))] (
  some ([])) (
  G (room ([] : List Int) s 8) (
  some (([] : List Int) ++ s))) else
  G (room ([] : List Int) s 8) (
  some (([] : List Int) ++ s))

noncomputable def code_Sync_L18_B (d : (Int × Int × (List (List Int)) × (List Int) × Unit)) (l : (List (Int × (List Int) × Unit))) (t : Int) (seen_2 : (List Int)) (seen_3 : (List Int)) (l_1 : (List (Int × (List Int) × Unit))) (r14 : (Int → (List Int) → (List Int) → (List (Int × (List Int) × Unit)) → Option ((List Int) × Bool × Int))) (r18 : Int → Int → Option ((List Int) × Bool × Int)) (next' : Int) (t_1 : Int) : Option ((List Int) × Bool × Int) :=
  if (decide (t_1 < (d.2.2.1.length : Int))) = true then
  G (0 ≤ t_1 ∧ t_1 < (d.2.2.1.length : Int)) (
  G (0 ≤ t_1) (
  if (decide ((iand .i64 (ishr .i64 ((ix l (0 : Int)).1) t_1) (1 : Int)) = (1 : Int))) = true then
  G (0 ≤ t ∧ t < ((ix d.2.2.1 t_1).length : Int)) (
  G (0 ≤ ix (ix d.2.2.1 t_1) t) (
  G (fits (t_1 + (1 : Int))) (
  r18 (ior .i64 next' (ishl .i64 (1 : Int) (ix (ix d.2.2.1 t_1) t))) (t_1 + (1 : Int))))) else
  G (fits (t_1 + (1 : Int))) (
  r18 next' (t_1 + (1 : Int))))) else
  if (decide ((mget seen_2 seen_3 next' (0 : Int)) = (0 : Int))) = true then
  (slices_Clone (((ix l (0 : Int)).2).1)).bind (fun y'_1 =>
  G (room y'_1 ([t]) 8) (
  G (room l_1 ([(next', (y'_1 ++ ([t]), ()))]) 32) (
  G (fits (t + (1 : Int))) (
  r14 (t + (1 : Int)) (mputK seen_2 next') (mputV seen_2 seen_3 next' (1 : Int)) (l_1 ++ ([(next', (y'_1 ++ ([t]), ()))])))))) else
  G (fits (t + (1 : Int))) (
  r14 (t + (1 : Int)) seen_2 seen_3 l_1)
noncomputable def code_Sync_L18_F (d : (Int × Int × (List (List Int)) × (List Int) × Unit)) (l : (List (Int × (List Int) × Unit))) (t : Int) (seen_2 : (List Int)) (seen_3 : (List Int)) (l_1 : (List (Int × (List Int) × Unit))) (r14 : (Int → (List Int) → (List Int) → (List (Int × (List Int) × Unit)) → Option ((List Int) × Bool × Int))) : (Int × Int → Option ((List Int) × Bool × Int)) → Int × Int → Option ((List Int) × Bool × Int) :=
  fun rec x => code_Sync_L18_B d l t seen_2 seen_3 l_1 r14 (fun next' t_1 => rec (next', t_1)) x.1 x.2
noncomputable def code_Sync_L18 (d : (Int × Int × (List (List Int)) × (List Int) × Unit)) (l : (List (Int × (List Int) × Unit))) (t : Int) (seen_2 : (List Int)) (seen_3 : (List Int)) (l_1 : (List (Int × (List Int) × Unit))) (r14 : (Int → (List Int) → (List Int) → (List (Int × (List Int) × Unit)) → Option ((List Int) × Bool × Int))) (next' : Int) (t_1 : Int) : Option ((List Int) × Bool × Int) := LFix (code_Sync_L18_F d l t seen_2 seen_3 l_1 r14 ) (next', t_1)
noncomputable def code_Sync_L14_B (d : (Int × Int × (List (List Int)) × (List Int) × Unit)) (l : (List (Int × (List Int) × Unit))) (r8 : ((List Int) → (List Int) → (List (Int × (List Int) × Unit)) → Option ((List Int) × Bool × Int))) (r14 : Int → (List Int) → (List Int) → (List (Int × (List Int) × Unit)) → Option ((List Int) × Bool × Int)) (t : Int) (seen_2 : (List Int)) (seen_3 : (List Int)) (l_1 : (List (Int × (List Int) × Unit))) : Option ((List Int) × Bool × Int) :=
  if (decide (t < d.1)) = true then
  code_Sync_L18 d l t seen_2 seen_3 l_1 r14 (0 : Int) (0 : Int) else
  G (0 ≤ (1 : Int) ∧ (1 : Int) ≤ (l_1.length : Int)) (
  r8 seen_2 seen_3 (l_1.drop ((1 : Int)).toNat))
noncomputable def code_Sync_L14_F (d : (Int × Int × (List (List Int)) × (List Int) × Unit)) (l : (List (Int × (List Int) × Unit))) (r8 : ((List Int) → (List Int) → (List (Int × (List Int) × Unit)) → Option ((List Int) × Bool × Int))) : (Int × (List Int) × (List Int) × (List (Int × (List Int) × Unit)) → Option ((List Int) × Bool × Int)) → Int × (List Int) × (List Int) × (List (Int × (List Int) × Unit)) → Option ((List Int) × Bool × Int) :=
  fun rec x => code_Sync_L14_B d l r8 (fun t seen_2 seen_3 l_1 => rec (t, seen_2, seen_3, l_1)) x.1 x.2.1 x.2.2.1 x.2.2.2
noncomputable def code_Sync_L14 (d : (Int × Int × (List (List Int)) × (List Int) × Unit)) (l : (List (Int × (List Int) × Unit))) (r8 : ((List Int) → (List Int) → (List (Int × (List Int) × Unit)) → Option ((List Int) × Bool × Int))) (t : Int) (seen_2 : (List Int)) (seen_3 : (List Int)) (l_1 : (List (Int × (List Int) × Unit))) : Option ((List Int) × Bool × Int) := LFix (code_Sync_L14_F d l r8 ) (t, seen_2, seen_3, l_1)
noncomputable def code_Sync_L8_B (d : (Int × Int × (List (List Int)) × (List Int) × Unit)) (r8 : (List Int) → (List Int) → (List (Int × (List Int) × Unit)) → Option ((List Int) × Bool × Int)) (seen : (List Int)) (seen_1 : (List Int)) (l : (List (Int × (List Int) × Unit))) : Option ((List Int) × Bool × Int) :=
  if (decide ((0 : Int) < (l.length : Int))) = true then
  G (0 ≤ (0 : Int) ∧ (0 : Int) < (l.length : Int)) (
  G (((0 : Int)).toNat < l.length) (
  G (fits (((ix l (0 : Int)).1) - (1 : Int))) (
  if (decide ((iand .i64 ((ix l (0 : Int)).1) (((ix l (0 : Int)).1) - (1 : Int))) = (0 : Int))) = true then
  some (((ix l (0 : Int)).2).1, true, (0 : Int)) else
  code_Sync_L14 d l r8 (0 : Int) seen seen_1 l))) else
  some ([], false, (0 : Int))
noncomputable def code_Sync_L8_F (d : (Int × Int × (List (List Int)) × (List Int) × Unit)) : ((List Int) × (List Int) × (List (Int × (List Int) × Unit)) → Option ((List Int) × Bool × Int)) → (List Int) × (List Int) × (List (Int × (List Int) × Unit)) → Option ((List Int) × Bool × Int) :=
  fun rec x => code_Sync_L8_B d (fun seen seen_1 l => rec (seen, seen_1, l)) x.1 x.2.1 x.2.2
noncomputable def code_Sync_L8 (d : (Int × Int × (List (List Int)) × (List Int) × Unit)) (seen : (List Int)) (seen_1 : (List Int)) (l : (List (Int × (List Int) × Unit))) : Option ((List Int) × Bool × Int) := LFix (code_Sync_L8_F d ) (seen, seen_1, l)
noncomputable def code_Sync (d : (Int × Int × (List (List Int)) × (List Int) × Unit)) : Option ((List Int) × Bool × Int) :=
  (det_Check (d.1, (d.2.1, (d.2.2.1, (d.2.2.2.1, ()))))).bind (fun y' =>
  if (decide (¬ y' = (0 : Int))) = true then
  some ([], false, y') else
  if (decide ((8 : Int) < (d.2.2.1.length : Int))) = true then
  some ([], false, (1 : Int)) else
  G (0 ≤ (d.2.2.1.length : Int)) (
  G (fits ((ishl .i64 (1 : Int) (d.2.2.1.length : Int)) - (1 : Int))) (
  code_Sync_L8 d ([] : List Int) ([] : List Int) ([((ishl .i64 (1 : Int) (d.2.2.1.length : Int)) - (1 : Int), ([], ()))]))))
theorem code_Sync_L18_B_ch (r14 : Nat → Int → (List Int) → (List Int) → (List (Int × (List Int) × Unit)) → Option ((List Int) × Bool × Int)) (r14' : Int → (List Int) → (List Int) → (List (Int × (List Int) × Unit)) → Option ((List Int) × Bool × Int)) (h_r14 : ∀ a0 a1 a2 a3, ChO (fun κ => r14 κ a0 a1 a2 a3) (r14' a0 a1 a2 a3)) (r18 : Nat → Int → Int → Option ((List Int) × Bool × Int)) (r18' : Int → Int → Option ((List Int) × Bool × Int)) (h_r18 : ∀ a0 a1, ChO (fun κ => r18 κ a0 a1) (r18' a0 a1)) (d : (Int × Int × (List (List Int)) × (List Int) × Unit)) (l : (List (Int × (List Int) × Unit))) (t : Int) (seen_2 : (List Int)) (seen_3 : (List Int)) (l_1 : (List (Int × (List Int) × Unit))) (next' : Int) (t_1 : Int) : ChO (fun κ => code_Sync_L18_B d l t seen_2 seen_3 l_1 (r14 κ) (r18 κ) next' t_1) (code_Sync_L18_B d l t seen_2 seen_3 l_1 r14' r18' next' t_1) := by
  unfold code_Sync_L18_B
  repeat' first | exact ChO.const _ | exact h_r14 _ _ _ _ | exact h_r18 _ _ | apply ChO.ite | apply ChO.G | apply ChO.both | (apply ChO.bind; intro _)
theorem code_Sync_L18_cn (r14 : Int → (List Int) → (List Int) → (List (Int × (List Int) × Unit)) → Option ((List Int) × Bool × Int)) (d : (Int × Int × (List (List Int)) × (List Int) × Unit)) (l : (List (Int × (List Int) × Unit))) (t : Int) (seen_2 : (List Int)) (seen_3 : (List Int)) (l_1 : (List (Int × (List Int) × Unit))) : Cn (code_Sync_L18_F d l t seen_2 seen_3 l_1 r14) := fun g h hg x => code_Sync_L18_B_ch (fun _ => r14) r14 (fun _ _ _ _ => ChO.const _) (fun κ next' t_1 => g κ (next', t_1)) (fun next' t_1 => h (next', t_1)) (fun next' t_1 => hg (next', t_1)) d l t seen_2 seen_3 l_1 x.1 x.2
theorem code_Sync_L18_eq (r14 : Int → (List Int) → (List Int) → (List (Int × (List Int) × Unit)) → Option ((List Int) × Bool × Int)) (d : (Int × Int × (List (List Int)) × (List Int) × Unit)) (l : (List (Int × (List Int) × Unit))) (t : Int) (seen_2 : (List Int)) (seen_3 : (List Int)) (l_1 : (List (Int × (List Int) × Unit))) (next' : Int) (t_1 : Int) : code_Sync_L18 d l t seen_2 seen_3 l_1 r14 next' t_1 = code_Sync_L18_B d l t seen_2 seen_3 l_1 r14 (code_Sync_L18 d l t seen_2 seen_3 l_1 r14) next' t_1 := LFix_eq (code_Sync_L18_cn r14 d l t seen_2 seen_3 l_1) (next', t_1)
theorem code_Sync_L18_ch (r14 : Nat → Int → (List Int) → (List Int) → (List (Int × (List Int) × Unit)) → Option ((List Int) × Bool × Int)) (r14' : Int → (List Int) → (List Int) → (List (Int × (List Int) × Unit)) → Option ((List Int) × Bool × Int)) (h_r14 : ∀ a0 a1 a2 a3, ChO (fun κ => r14 κ a0 a1 a2 a3) (r14' a0 a1 a2 a3)) (d : (Int × Int × (List (List Int)) × (List Int) × Unit)) (l : (List (Int × (List Int) × Unit))) (t : Int) (seen_2 : (List Int)) (seen_3 : (List Int)) (l_1 : (List (Int × (List Int) × Unit))) (next' : Int) (t_1 : Int) : ChO (fun κ => code_Sync_L18 d l t seen_2 seen_3 l_1 (r14 κ) next' t_1) (code_Sync_L18 d l t seen_2 seen_3 l_1 r14' next' t_1) := by
  unfold code_Sync_L18
  exact LFix_ch (fun κ => (code_Sync_L18_cn (r14 κ) d l t seen_2 seen_3 l_1).mono) (code_Sync_L18_cn r14' d l t seen_2 seen_3 l_1).mono (fun g h hg x => code_Sync_L18_B_ch r14 r14' h_r14 (fun κ next' t_1 => g κ (next', t_1)) (fun next' t_1 => h (next', t_1)) (fun next' t_1 => hg (next', t_1)) d l t seen_2 seen_3 l_1 x.1 x.2) _
theorem code_Sync_L14_B_ch (r8 : Nat → (List Int) → (List Int) → (List (Int × (List Int) × Unit)) → Option ((List Int) × Bool × Int)) (r8' : (List Int) → (List Int) → (List (Int × (List Int) × Unit)) → Option ((List Int) × Bool × Int)) (h_r8 : ∀ a0 a1 a2, ChO (fun κ => r8 κ a0 a1 a2) (r8' a0 a1 a2)) (r14 : Nat → Int → (List Int) → (List Int) → (List (Int × (List Int) × Unit)) → Option ((List Int) × Bool × Int)) (r14' : Int → (List Int) → (List Int) → (List (Int × (List Int) × Unit)) → Option ((List Int) × Bool × Int)) (h_r14 : ∀ a0 a1 a2 a3, ChO (fun κ => r14 κ a0 a1 a2 a3) (r14' a0 a1 a2 a3)) (d : (Int × Int × (List (List Int)) × (List Int) × Unit)) (l : (List (Int × (List Int) × Unit))) (t : Int) (seen_2 : (List Int)) (seen_3 : (List Int)) (l_1 : (List (Int × (List Int) × Unit))) : ChO (fun κ => code_Sync_L14_B d l (r8 κ) (r14 κ) t seen_2 seen_3 l_1) (code_Sync_L14_B d l r8' r14' t seen_2 seen_3 l_1) := by
  unfold code_Sync_L14_B
  repeat' first | exact ChO.const _ | exact h_r8 _ _ _ | exact h_r14 _ _ _ _ | (apply code_Sync_L18_ch <;> assumption) | apply ChO.ite | apply ChO.G | apply ChO.both | (apply ChO.bind; intro _)
theorem code_Sync_L14_cn (r8 : (List Int) → (List Int) → (List (Int × (List Int) × Unit)) → Option ((List Int) × Bool × Int)) (d : (Int × Int × (List (List Int)) × (List Int) × Unit)) (l : (List (Int × (List Int) × Unit))) : Cn (code_Sync_L14_F d l r8) := fun g h hg x => code_Sync_L14_B_ch (fun _ => r8) r8 (fun _ _ _ => ChO.const _) (fun κ t seen_2 seen_3 l_1 => g κ (t, seen_2, seen_3, l_1)) (fun t seen_2 seen_3 l_1 => h (t, seen_2, seen_3, l_1)) (fun t seen_2 seen_3 l_1 => hg (t, seen_2, seen_3, l_1)) d l x.1 x.2.1 x.2.2.1 x.2.2.2
theorem code_Sync_L14_eq (r8 : (List Int) → (List Int) → (List (Int × (List Int) × Unit)) → Option ((List Int) × Bool × Int)) (d : (Int × Int × (List (List Int)) × (List Int) × Unit)) (l : (List (Int × (List Int) × Unit))) (t : Int) (seen_2 : (List Int)) (seen_3 : (List Int)) (l_1 : (List (Int × (List Int) × Unit))) : code_Sync_L14 d l r8 t seen_2 seen_3 l_1 = code_Sync_L14_B d l r8 (code_Sync_L14 d l r8) t seen_2 seen_3 l_1 := LFix_eq (code_Sync_L14_cn r8 d l) (t, seen_2, seen_3, l_1)
theorem code_Sync_L14_ch (r8 : Nat → (List Int) → (List Int) → (List (Int × (List Int) × Unit)) → Option ((List Int) × Bool × Int)) (r8' : (List Int) → (List Int) → (List (Int × (List Int) × Unit)) → Option ((List Int) × Bool × Int)) (h_r8 : ∀ a0 a1 a2, ChO (fun κ => r8 κ a0 a1 a2) (r8' a0 a1 a2)) (d : (Int × Int × (List (List Int)) × (List Int) × Unit)) (l : (List (Int × (List Int) × Unit))) (t : Int) (seen_2 : (List Int)) (seen_3 : (List Int)) (l_1 : (List (Int × (List Int) × Unit))) : ChO (fun κ => code_Sync_L14 d l (r8 κ) t seen_2 seen_3 l_1) (code_Sync_L14 d l r8' t seen_2 seen_3 l_1) := by
  unfold code_Sync_L14
  exact LFix_ch (fun κ => (code_Sync_L14_cn (r8 κ) d l).mono) (code_Sync_L14_cn r8' d l).mono (fun g h hg x => code_Sync_L14_B_ch r8 r8' h_r8 (fun κ t seen_2 seen_3 l_1 => g κ (t, seen_2, seen_3, l_1)) (fun t seen_2 seen_3 l_1 => h (t, seen_2, seen_3, l_1)) (fun t seen_2 seen_3 l_1 => hg (t, seen_2, seen_3, l_1)) d l x.1 x.2.1 x.2.2.1 x.2.2.2) _
theorem code_Sync_L8_B_ch (r8 : Nat → (List Int) → (List Int) → (List (Int × (List Int) × Unit)) → Option ((List Int) × Bool × Int)) (r8' : (List Int) → (List Int) → (List (Int × (List Int) × Unit)) → Option ((List Int) × Bool × Int)) (h_r8 : ∀ a0 a1 a2, ChO (fun κ => r8 κ a0 a1 a2) (r8' a0 a1 a2)) (d : (Int × Int × (List (List Int)) × (List Int) × Unit)) (seen : (List Int)) (seen_1 : (List Int)) (l : (List (Int × (List Int) × Unit))) : ChO (fun κ => code_Sync_L8_B d (r8 κ) seen seen_1 l) (code_Sync_L8_B d r8' seen seen_1 l) := by
  unfold code_Sync_L8_B
  repeat' first | exact ChO.const _ | exact h_r8 _ _ _ | (apply code_Sync_L18_ch <;> assumption) | (apply code_Sync_L14_ch <;> assumption) | apply ChO.ite | apply ChO.G | apply ChO.both | (apply ChO.bind; intro _)
theorem code_Sync_L8_cn  (d : (Int × Int × (List (List Int)) × (List Int) × Unit)) : Cn (code_Sync_L8_F d) := fun g h hg x => code_Sync_L8_B_ch  (fun κ seen seen_1 l => g κ (seen, seen_1, l)) (fun seen seen_1 l => h (seen, seen_1, l)) (fun seen seen_1 l => hg (seen, seen_1, l)) d x.1 x.2.1 x.2.2
theorem code_Sync_L8_eq  (d : (Int × Int × (List (List Int)) × (List Int) × Unit)) (seen : (List Int)) (seen_1 : (List Int)) (l : (List (Int × (List Int) × Unit))) : code_Sync_L8 d seen seen_1 l = code_Sync_L8_B d (code_Sync_L8 d) seen seen_1 l := LFix_eq (code_Sync_L8_cn d) (seen, seen_1, l)

noncomputable def r3_Check_L19_B (d : (Int × Int × (List (List Int)) × (List Int) × Unit)) (i_1 : Int) (r16 : (Int → Option (Int))) (r19 : Int → Option (Int)) (k : Int) : Option (Int) :=
  if (decide (k < d.1)) = true then
  G (0 ≤ i_1 ∧ i_1 < (d.2.2.1.length : Int)) (
  G (0 ≤ k ∧ k < ((ix d.2.2.1 i_1).length : Int)) (
  if (decide ((ix (ix d.2.2.1 i_1) k) < (0 : Int))) = true then
  some (2 : Int) else
  G (0 ≤ i_1 ∧ i_1 < (d.2.2.1.length : Int)) (
  G (0 ≤ k ∧ k < ((ix d.2.2.1 i_1).length : Int)) (
  if (decide ((d.2.2.1.length : Int) ≤ (ix (ix d.2.2.1 i_1) k))) = true then
  some (2 : Int) else
  G (fits (k + (1 : Int))) (
  r19 (k + (1 : Int))))))) else
  G (fits (i_1 + (1 : Int))) (
  r16 (i_1 + (1 : Int)))
noncomputable def r3_Check_L19_F (d : (Int × Int × (List (List Int)) × (List Int) × Unit)) (i_1 : Int) (r16 : (Int → Option (Int))) : (Int → Option (Int)) → Int → Option (Int) :=
  fun rec x => r3_Check_L19_B d i_1 r16 (fun k => rec k) x
noncomputable def r3_Check_L19 (d : (Int × Int × (List (List Int)) × (List Int) × Unit)) (i_1 : Int) (r16 : (Int → Option (Int))) (k : Int) : Option (Int) := LFix (r3_Check_L19_F d i_1 r16 ) k
noncomputable def r3_Check_L24_B (d : (Int × Int × (List (List Int)) × (List Int) × Unit)) (r24 : Int → Option (Int)) (i_2 : Int) : Option (Int) :=
  if (decide (i_2 < (d.2.2.1.length : Int))) = true then
  G (0 ≤ i_2 ∧ i_2 < (d.2.2.2.1.length : Int)) (
  if (decide (¬ (ix d.2.2.2.1 i_2) = (0 : Int))) = true then
  G (0 ≤ i_2 ∧ i_2 < (d.2.2.2.1.length : Int)) (
  if (decide (¬ (ix d.2.2.2.1 i_2) = (1 : Int))) = true then
  some (2 : Int) else
  G (fits (i_2 + (1 : Int))) (
  r24 (i_2 + (1 : Int)))) else
  G (fits (i_2 + (1 : Int))) (
  r24 (i_2 + (1 : Int)))) else
  some (0 : Int)
noncomputable def r3_Check_L24_F (d : (Int × Int × (List (List Int)) × (List Int) × Unit)) : (Int → Option (Int)) → Int → Option (Int) :=
  fun rec x => r3_Check_L24_B d (fun i_2 => rec i_2) x
noncomputable def r3_Check_L24 (d : (Int × Int × (List (List Int)) × (List Int) × Unit)) (i_2 : Int) : Option (Int) := LFix (r3_Check_L24_F d ) i_2
noncomputable def r3_Check_L16_B (d : (Int × Int × (List (List Int)) × (List Int) × Unit)) (r16 : Int → Option (Int)) (i_1 : Int) : Option (Int) :=
  if (decide (i_1 < (d.2.2.1.length : Int))) = true then
  r3_Check_L19 d i_1 r16 (0 : Int) else
  r3_Check_L24 d (0 : Int)
noncomputable def r3_Check_L16_F (d : (Int × Int × (List (List Int)) × (List Int) × Unit)) : (Int → Option (Int)) → Int → Option (Int) :=
  fun rec x => r3_Check_L16_B d (fun i_1 => rec i_1) x
noncomputable def r3_Check_L16 (d : (Int × Int × (List (List Int)) × (List Int) × Unit)) (i_1 : Int) : Option (Int) := LFix (r3_Check_L16_F d ) i_1
noncomputable def r3_Check_L9_B (d : (Int × Int × (List (List Int)) × (List Int) × Unit)) (r9 : Int → Option (Int)) (i : Int) : Option (Int) :=
  if (decide (i < (d.2.2.1.length : Int))) = true then
  G (0 ≤ i ∧ i < (d.2.2.1.length : Int)) (
  if (decide (¬ ((ix d.2.2.1 i).length : Int) = d.1)) = true then
  some (3 : Int) else
  G (fits (i + (1 : Int))) (
  r9 (i + (1 : Int)))) else
  if (decide (d.2.1 < (0 : Int))) = true then
  some (2 : Int) else
  if (decide ((d.2.2.1.length : Int) ≤ d.2.1)) = true then
  some (2 : Int) else
  r3_Check_L16 d (0 : Int)
noncomputable def r3_Check_L9_F (d : (Int × Int × (List (List Int)) × (List Int) × Unit)) : (Int → Option (Int)) → Int → Option (Int) :=
  fun rec x => r3_Check_L9_B d (fun i => rec i) x
noncomputable def r3_Check_L9 (d : (Int × Int × (List (List Int)) × (List Int) × Unit)) (i : Int) : Option (Int) := LFix (r3_Check_L9_F d ) i
noncomputable def r3_Check (d : (Int × Int × (List (List Int)) × (List Int) × Unit)) : Option (Int) :=
  if (decide (d.1 < (1 : Int))) = true then
  some (2 : Int) else
  if (decide ((4 : Int) < d.1)) = true then
  some (2 : Int) else
  if (decide ((d.2.2.1.length : Int) < (1 : Int))) = true then
  some (1 : Int) else
  if (decide ((3000 : Int) < (d.2.2.1.length : Int))) = true then
  some (1 : Int) else
  if (decide (¬ (d.2.2.2.1.length : Int) = (d.2.2.1.length : Int))) = true then
  some (3 : Int) else
  r3_Check_L9 d (0 : Int)
theorem r3_Check_L19_B_ch (r16 : Nat → Int → Option (Int)) (r16' : Int → Option (Int)) (h_r16 : ∀ a0, ChO (fun κ => r16 κ a0) (r16' a0)) (r19 : Nat → Int → Option (Int)) (r19' : Int → Option (Int)) (h_r19 : ∀ a0, ChO (fun κ => r19 κ a0) (r19' a0)) (d : (Int × Int × (List (List Int)) × (List Int) × Unit)) (i_1 : Int) (k : Int) : ChO (fun κ => r3_Check_L19_B d i_1 (r16 κ) (r19 κ) k) (r3_Check_L19_B d i_1 r16' r19' k) := by
  unfold r3_Check_L19_B
  repeat' first | exact ChO.const _ | exact h_r16 _ | exact h_r19 _ | apply ChO.ite | apply ChO.G | apply ChO.both | (apply ChO.bind; intro _)
theorem r3_Check_L19_cn (r16 : Int → Option (Int)) (d : (Int × Int × (List (List Int)) × (List Int) × Unit)) (i_1 : Int) : Cn (r3_Check_L19_F d i_1 r16) := fun g h hg x => r3_Check_L19_B_ch (fun _ => r16) r16 (fun _ => ChO.const _) (fun κ k => g κ k) (fun k => h k) (fun k => hg k) d i_1 x
theorem r3_Check_L19_eq (r16 : Int → Option (Int)) (d : (Int × Int × (List (List Int)) × (List Int) × Unit)) (i_1 : Int) (k : Int) : r3_Check_L19 d i_1 r16 k = r3_Check_L19_B d i_1 r16 (r3_Check_L19 d i_1 r16) k := LFix_eq (r3_Check_L19_cn r16 d i_1) k
theorem r3_Check_L19_ch (r16 : Nat → Int → Option (Int)) (r16' : Int → Option (Int)) (h_r16 : ∀ a0, ChO (fun κ => r16 κ a0) (r16' a0)) (d : (Int × Int × (List (List Int)) × (List Int) × Unit)) (i_1 : Int) (k : Int) : ChO (fun κ => r3_Check_L19 d i_1 (r16 κ) k) (r3_Check_L19 d i_1 r16' k) := by
  unfold r3_Check_L19
  exact LFix_ch (fun κ => (r3_Check_L19_cn (r16 κ) d i_1).mono) (r3_Check_L19_cn r16' d i_1).mono (fun g h hg x => r3_Check_L19_B_ch r16 r16' h_r16 (fun κ k => g κ k) (fun k => h k) (fun k => hg k) d i_1 x) _
theorem r3_Check_L24_B_ch (r24 : Nat → Int → Option (Int)) (r24' : Int → Option (Int)) (h_r24 : ∀ a0, ChO (fun κ => r24 κ a0) (r24' a0)) (d : (Int × Int × (List (List Int)) × (List Int) × Unit)) (i_2 : Int) : ChO (fun κ => r3_Check_L24_B d (r24 κ) i_2) (r3_Check_L24_B d r24' i_2) := by
  unfold r3_Check_L24_B
  repeat' first | exact ChO.const _ | exact h_r24 _ | (apply r3_Check_L19_ch <;> assumption) | apply ChO.ite | apply ChO.G | apply ChO.both | (apply ChO.bind; intro _)
theorem r3_Check_L24_cn  (d : (Int × Int × (List (List Int)) × (List Int) × Unit)) : Cn (r3_Check_L24_F d) := fun g h hg x => r3_Check_L24_B_ch  (fun κ i_2 => g κ i_2) (fun i_2 => h i_2) (fun i_2 => hg i_2) d x
theorem r3_Check_L24_eq  (d : (Int × Int × (List (List Int)) × (List Int) × Unit)) (i_2 : Int) : r3_Check_L24 d i_2 = r3_Check_L24_B d (r3_Check_L24 d) i_2 := LFix_eq (r3_Check_L24_cn d) i_2
theorem r3_Check_L16_B_ch (r16 : Nat → Int → Option (Int)) (r16' : Int → Option (Int)) (h_r16 : ∀ a0, ChO (fun κ => r16 κ a0) (r16' a0)) (d : (Int × Int × (List (List Int)) × (List Int) × Unit)) (i_1 : Int) : ChO (fun κ => r3_Check_L16_B d (r16 κ) i_1) (r3_Check_L16_B d r16' i_1) := by
  unfold r3_Check_L16_B
  repeat' first | exact ChO.const _ | exact h_r16 _ | (apply r3_Check_L19_ch <;> assumption) | apply ChO.ite | apply ChO.G | apply ChO.both | (apply ChO.bind; intro _)
theorem r3_Check_L16_cn  (d : (Int × Int × (List (List Int)) × (List Int) × Unit)) : Cn (r3_Check_L16_F d) := fun g h hg x => r3_Check_L16_B_ch  (fun κ i_1 => g κ i_1) (fun i_1 => h i_1) (fun i_1 => hg i_1) d x
theorem r3_Check_L16_eq  (d : (Int × Int × (List (List Int)) × (List Int) × Unit)) (i_1 : Int) : r3_Check_L16 d i_1 = r3_Check_L16_B d (r3_Check_L16 d) i_1 := LFix_eq (r3_Check_L16_cn d) i_1
theorem r3_Check_L9_B_ch (r9 : Nat → Int → Option (Int)) (r9' : Int → Option (Int)) (h_r9 : ∀ a0, ChO (fun κ => r9 κ a0) (r9' a0)) (d : (Int × Int × (List (List Int)) × (List Int) × Unit)) (i : Int) : ChO (fun κ => r3_Check_L9_B d (r9 κ) i) (r3_Check_L9_B d r9' i) := by
  unfold r3_Check_L9_B
  repeat' first | exact ChO.const _ | exact h_r9 _ | (apply r3_Check_L19_ch <;> assumption) | apply ChO.ite | apply ChO.G | apply ChO.both | (apply ChO.bind; intro _)
theorem r3_Check_L9_cn  (d : (Int × Int × (List (List Int)) × (List Int) × Unit)) : Cn (r3_Check_L9_F d) := fun g h hg x => r3_Check_L9_B_ch  (fun κ i => g κ i) (fun i => h i) (fun i => hg i) d x
theorem r3_Check_L9_eq  (d : (Int × Int × (List (List Int)) × (List Int) × Unit)) (i : Int) : r3_Check_L9 d i = r3_Check_L9_B d (r3_Check_L9 d) i := LFix_eq (r3_Check_L9_cn d) i

noncomputable def r24_Sync_J30 (a : Int) (r17 : (Int → (List Bool) → (List Int) → (List (List Int)) → Option ((List Int) × Bool))) (seen_2 : (List Bool)) (sets_2 : (List Int)) (words_2 : (List (List Int))) : Option ((List Int) × Bool) :=
  G (fits (a + (1 : Int))) (
  r17 (a + (1 : Int)) seen_2 sets_2 words_2)
noncomputable def r24_Sync_L21_B (d : (Int × Int × (List (List Int)) × (List Int) × Unit)) (i : Int) (a : Int) (seen_1 : (List Bool)) (sets_1 : (List Int)) (words_1 : (List (List Int))) (r17 : (Int → (List Bool) → (List Int) → (List (List Int)) → Option ((List Int) × Bool))) (r21 : Int → Int → Option ((List Int) × Bool)) (next' : Int) (q_1 : Int) : Option ((List Int) × Bool) :=
  if (decide (q_1 < (d.2.2.1.length : Int))) = true then
  G (0 ≤ i ∧ i < (sets_1.length : Int)) (
  G ((i).toNat < sets_1.length) (
  G (0 ≤ q_1) (
  if (decide ((iand .i64 (ishr .i64 (ix sets_1 i) q_1) (1 : Int)) = (1 : Int))) = true then
  G (0 ≤ q_1 ∧ q_1 < (d.2.2.1.length : Int)) (
  G (0 ≤ a ∧ a < ((ix d.2.2.1 q_1).length : Int)) (
  G (0 ≤ ix (ix d.2.2.1 q_1) a) (
  G (fits (q_1 + (1 : Int))) (
  r21 (ior .i64 next' (ishl .i64 (1 : Int) (ix (ix d.2.2.1 q_1) a))) (q_1 + (1 : Int)))))) else
  G (fits (q_1 + (1 : Int))) (
  r21 next' (q_1 + (1 : Int)))))) else
  G (0 ≤ next' ∧ next' < (seen_1.length : Int)) (
  G ((next').toNat < seen_1.length) (
  if (!(ix seen_1 next')) = true then
  G (0 ≤ next' ∧ next' < (seen_1.length : Int)) (
  G ((next').toNat < seen_1.length) (
  G (0 ≤ i ∧ i < (words_1.length : Int)) (
  G ((i).toNat < words_1.length) (
  G (room ([] : List Int) (ix words_1 i) 8) (
  G (room (([] : List Int) ++ (ix words_1 i)) ([a]) 8) (
  G (room sets_1 ([next']) 8) (
  G (room words_1 ([(([] : List Int) ++ (ix words_1 i)) ++ ([a])]) 24) (
  r24_Sync_J30 a r17 (seen_1.set (next').toNat true) (sets_1 ++ ([next'])) (words_1 ++ ([(([] : List Int) ++ (ix words_1 i)) ++ ([a])])))))))))) else
  r24_Sync_J30 a r17 seen_1 sets_1 words_1))
noncomputable def r24_Sync_L21_F (d : (Int × Int × (List (List Int)) × (List Int) × Unit)) (i : Int) (a : Int) (seen_1 : (List Bool)) (sets_1 : (List Int)) (words_1 : (List (List Int))) (r17 : (Int → (List Bool) → (List Int) → (List (List Int)) → Option ((List Int) × Bool))) : (Int × Int → Option ((List Int) × Bool)) → Int × Int → Option ((List Int) × Bool) :=
  fun rec x => r24_Sync_L21_B d i a seen_1 sets_1 words_1 r17 (fun next' q_1 => rec (next', q_1)) x.1 x.2
noncomputable def r24_Sync_L21 (d : (Int × Int × (List (List Int)) × (List Int) × Unit)) (i : Int) (a : Int) (seen_1 : (List Bool)) (sets_1 : (List Int)) (words_1 : (List (List Int))) (r17 : (Int → (List Bool) → (List Int) → (List (List Int)) → Option ((List Int) × Bool))) (next' : Int) (q_1 : Int) : Option ((List Int) × Bool) := LFix (r24_Sync_L21_F d i a seen_1 sets_1 words_1 r17 ) (next', q_1)
noncomputable def r24_Sync_L17_B (d : (Int × Int × (List (List Int)) × (List Int) × Unit)) (i : Int) (r7 : (Int → (List Bool) → (List Int) → (List (List Int)) → Option ((List Int) × Bool))) (r17 : Int → (List Bool) → (List Int) → (List (List Int)) → Option ((List Int) × Bool)) (a : Int) (seen_1 : (List Bool)) (sets_1 : (List Int)) (words_1 : (List (List Int))) : Option ((List Int) × Bool) :=
  if (decide (a < d.1)) = true then
  r24_Sync_L21 d i a seen_1 sets_1 words_1 r17 (0 : Int) (0 : Int) else
  G (fits (i + (1 : Int))) (
  r7 (i + (1 : Int)) seen_1 sets_1 words_1)
noncomputable def r24_Sync_L17_F (d : (Int × Int × (List (List Int)) × (List Int) × Unit)) (i : Int) (r7 : (Int → (List Bool) → (List Int) → (List (List Int)) → Option ((List Int) × Bool))) : (Int × (List Bool) × (List Int) × (List (List Int)) → Option ((List Int) × Bool)) → Int × (List Bool) × (List Int) × (List (List Int)) → Option ((List Int) × Bool) :=
  fun rec x => r24_Sync_L17_B d i r7 (fun a seen_1 sets_1 words_1 => rec (a, seen_1, sets_1, words_1)) x.1 x.2.1 x.2.2.1 x.2.2.2
noncomputable def r24_Sync_L17 (d : (Int × Int × (List (List Int)) × (List Int) × Unit)) (i : Int) (r7 : (Int → (List Bool) → (List Int) → (List (List Int)) → Option ((List Int) × Bool))) (a : Int) (seen_1 : (List Bool)) (sets_1 : (List Int)) (words_1 : (List (List Int))) : Option ((List Int) × Bool) := LFix (r24_Sync_L17_F d i r7 ) (a, seen_1, sets_1, words_1)
noncomputable def r24_Sync_L11_B (d : (Int × Int × (List (List Int)) × (List Int) × Unit)) (i : Int) (seen : (List Bool)) (sets : (List Int)) (words : (List (List Int))) (r7 : (Int → (List Bool) → (List Int) → (List (List Int)) → Option ((List Int) × Bool))) (r11 : Int → Int → Option ((List Int) × Bool)) (n : Int) (q : Int) : Option ((List Int) × Bool) :=
  if (decide (q < (d.2.2.1.length : Int))) = true then
  G (0 ≤ i ∧ i < (sets.length : Int)) (
  G ((i).toNat < sets.length) (
  G (0 ≤ q) (
  G (fits (n + (iand .i64 (ishr .i64 (ix sets i) q) (1 : Int)))) (
  G (fits (q + (1 : Int))) (
  r11 (n + (iand .i64 (ishr .i64 (ix sets i) q) (1 : Int))) (q + (1 : Int))))))) else
  if (decide (n = (1 : Int))) = true then
  G (0 ≤ i ∧ i < (words.length : Int)) (
  G ((i).toNat < words.length) (
  some (ix words i, true))) else
  r24_Sync_L17 d i r7 (0 : Int) seen sets words
noncomputable def r24_Sync_L11_F (d : (Int × Int × (List (List Int)) × (List Int) × Unit)) (i : Int) (seen : (List Bool)) (sets : (List Int)) (words : (List (List Int))) (r7 : (Int → (List Bool) → (List Int) → (List (List Int)) → Option ((List Int) × Bool))) : (Int × Int → Option ((List Int) × Bool)) → Int × Int → Option ((List Int) × Bool) :=
  fun rec x => r24_Sync_L11_B d i seen sets words r7 (fun n q => rec (n, q)) x.1 x.2
noncomputable def r24_Sync_L11 (d : (Int × Int × (List (List Int)) × (List Int) × Unit)) (i : Int) (seen : (List Bool)) (sets : (List Int)) (words : (List (List Int))) (r7 : (Int → (List Bool) → (List Int) → (List (List Int)) → Option ((List Int) × Bool))) (n : Int) (q : Int) : Option ((List Int) × Bool) := LFix (r24_Sync_L11_F d i seen sets words r7 ) (n, q)
noncomputable def r24_Sync_L7_B (d : (Int × Int × (List (List Int)) × (List Int) × Unit)) (r7 : Int → (List Bool) → (List Int) → (List (List Int)) → Option ((List Int) × Bool)) (i : Int) (seen : (List Bool)) (sets : (List Int)) (words : (List (List Int))) : Option ((List Int) × Bool) :=
  if (decide (i < (sets.length : Int))) = true then
  r24_Sync_L11 d i seen sets words r7 (0 : Int) (0 : Int) else
  some ([], false)
noncomputable def r24_Sync_L7_F (d : (Int × Int × (List (List Int)) × (List Int) × Unit)) : (Int × (List Bool) × (List Int) × (List (List Int)) → Option ((List Int) × Bool)) → Int × (List Bool) × (List Int) × (List (List Int)) → Option ((List Int) × Bool) :=
  fun rec x => r24_Sync_L7_B d (fun i seen sets words => rec (i, seen, sets, words)) x.1 x.2.1 x.2.2.1 x.2.2.2
noncomputable def r24_Sync_L7 (d : (Int × Int × (List (List Int)) × (List Int) × Unit)) (i : Int) (seen : (List Bool)) (sets : (List Int)) (words : (List (List Int))) : Option ((List Int) × Bool) := LFix (r24_Sync_L7_F d ) (i, seen, sets, words)
noncomputable def r24_Sync (d : (Int × Int × (List (List Int)) × (List Int) × Unit)) : Option ((List Int) × Bool) :=
  G (mkOK (256 : Int) (256 : Int) 1) (
  G (0 ≤ (d.2.2.1.length : Int)) (
  G (fits ((ishl .i64 (1 : Int) (d.2.2.1.length : Int)) - (1 : Int))) (
  G (0 ≤ (ishl .i64 (1 : Int) (d.2.2.1.length : Int)) - (1 : Int) ∧ (ishl .i64 (1 : Int) (d.2.2.1.length : Int)) - (1 : Int) < ((List.replicate ((256 : Int)).toNat (false : Bool)).length : Int)) (
  G (((ishl .i64 (1 : Int) (d.2.2.1.length : Int)) - (1 : Int)).toNat < (List.replicate ((256 : Int)).toNat (false : Bool)).length) (
  r24_Sync_L7 d (0 : Int) ((List.replicate ((256 : Int)).toNat (false : Bool)).set ((ishl .i64 (1 : Int) (d.2.2.1.length : Int)) - (1 : Int)).toNat true) ([(ishl .i64 (1 : Int) (d.2.2.1.length : Int)) - (1 : Int)]) ([([] : List Int)]))))))
theorem r24_Sync_J30_ch (r17 : Nat → Int → (List Bool) → (List Int) → (List (List Int)) → Option ((List Int) × Bool)) (r17' : Int → (List Bool) → (List Int) → (List (List Int)) → Option ((List Int) × Bool)) (h_r17 : ∀ a0 a1 a2 a3, ChO (fun κ => r17 κ a0 a1 a2 a3) (r17' a0 a1 a2 a3)) (a : Int) (seen_2 : (List Bool)) (sets_2 : (List Int)) (words_2 : (List (List Int))) : ChO (fun κ => r24_Sync_J30 a (r17 κ) seen_2 sets_2 words_2) (r24_Sync_J30 a r17' seen_2 sets_2 words_2) := by
  unfold r24_Sync_J30
  repeat' first | exact ChO.const _ | exact h_r17 _ _ _ _ | apply ChO.ite | apply ChO.G | apply ChO.both | (apply ChO.bind; intro _)
theorem r24_Sync_L21_B_ch (r17 : Nat → Int → (List Bool) → (List Int) → (List (List Int)) → Option ((List Int) × Bool)) (r17' : Int → (List Bool) → (List Int) → (List (List Int)) → Option ((List Int) × Bool)) (h_r17 : ∀ a0 a1 a2 a3, ChO (fun κ => r17 κ a0 a1 a2 a3) (r17' a0 a1 a2 a3)) (r21 : Nat → Int → Int → Option ((List Int) × Bool)) (r21' : Int → Int → Option ((List Int) × Bool)) (h_r21 : ∀ a0 a1, ChO (fun κ => r21 κ a0 a1) (r21' a0 a1)) (d : (Int × Int × (List (List Int)) × (List Int) × Unit)) (i : Int) (a : Int) (seen_1 : (List Bool)) (sets_1 : (List Int)) (words_1 : (List (List Int))) (next' : Int) (q_1 : Int) : ChO (fun κ => r24_Sync_L21_B d i a seen_1 sets_1 words_1 (r17 κ) (r21 κ) next' q_1) (r24_Sync_L21_B d i a seen_1 sets_1 words_1 r17' r21' next' q_1) := by
  unfold r24_Sync_L21_B
  repeat' first | exact ChO.const _ | exact h_r17 _ _ _ _ | exact h_r21 _ _ | (apply r24_Sync_J30_ch <;> assumption) | apply ChO.ite | apply ChO.G | apply ChO.both | (apply ChO.bind; intro _)
theorem r24_Sync_L21_cn (r17 : Int → (List Bool) → (List Int) → (List (List Int)) → Option ((List Int) × Bool)) (d : (Int × Int × (List (List Int)) × (List Int) × Unit)) (i : Int) (a : Int) (seen_1 : (List Bool)) (sets_1 : (List Int)) (words_1 : (List (List Int))) : Cn (r24_Sync_L21_F d i a seen_1 sets_1 words_1 r17) := fun g h hg x => r24_Sync_L21_B_ch (fun _ => r17) r17 (fun _ _ _ _ => ChO.const _) (fun κ next' q_1 => g κ (next', q_1)) (fun next' q_1 => h (next', q_1)) (fun next' q_1 => hg (next', q_1)) d i a seen_1 sets_1 words_1 x.1 x.2
theorem r24_Sync_L21_eq (r17 : Int → (List Bool) → (List Int) → (List (List Int)) → Option ((List Int) × Bool)) (d : (Int × Int × (List (List Int)) × (List Int) × Unit)) (i : Int) (a : Int) (seen_1 : (List Bool)) (sets_1 : (List Int)) (words_1 : (List (List Int))) (next' : Int) (q_1 : Int) : r24_Sync_L21 d i a seen_1 sets_1 words_1 r17 next' q_1 = r24_Sync_L21_B d i a seen_1 sets_1 words_1 r17 (r24_Sync_L21 d i a seen_1 sets_1 words_1 r17) next' q_1 := LFix_eq (r24_Sync_L21_cn r17 d i a seen_1 sets_1 words_1) (next', q_1)
theorem r24_Sync_L21_ch (r17 : Nat → Int → (List Bool) → (List Int) → (List (List Int)) → Option ((List Int) × Bool)) (r17' : Int → (List Bool) → (List Int) → (List (List Int)) → Option ((List Int) × Bool)) (h_r17 : ∀ a0 a1 a2 a3, ChO (fun κ => r17 κ a0 a1 a2 a3) (r17' a0 a1 a2 a3)) (d : (Int × Int × (List (List Int)) × (List Int) × Unit)) (i : Int) (a : Int) (seen_1 : (List Bool)) (sets_1 : (List Int)) (words_1 : (List (List Int))) (next' : Int) (q_1 : Int) : ChO (fun κ => r24_Sync_L21 d i a seen_1 sets_1 words_1 (r17 κ) next' q_1) (r24_Sync_L21 d i a seen_1 sets_1 words_1 r17' next' q_1) := by
  unfold r24_Sync_L21
  exact LFix_ch (fun κ => (r24_Sync_L21_cn (r17 κ) d i a seen_1 sets_1 words_1).mono) (r24_Sync_L21_cn r17' d i a seen_1 sets_1 words_1).mono (fun g h hg x => r24_Sync_L21_B_ch r17 r17' h_r17 (fun κ next' q_1 => g κ (next', q_1)) (fun next' q_1 => h (next', q_1)) (fun next' q_1 => hg (next', q_1)) d i a seen_1 sets_1 words_1 x.1 x.2) _
theorem r24_Sync_L17_B_ch (r7 : Nat → Int → (List Bool) → (List Int) → (List (List Int)) → Option ((List Int) × Bool)) (r7' : Int → (List Bool) → (List Int) → (List (List Int)) → Option ((List Int) × Bool)) (h_r7 : ∀ a0 a1 a2 a3, ChO (fun κ => r7 κ a0 a1 a2 a3) (r7' a0 a1 a2 a3)) (r17 : Nat → Int → (List Bool) → (List Int) → (List (List Int)) → Option ((List Int) × Bool)) (r17' : Int → (List Bool) → (List Int) → (List (List Int)) → Option ((List Int) × Bool)) (h_r17 : ∀ a0 a1 a2 a3, ChO (fun κ => r17 κ a0 a1 a2 a3) (r17' a0 a1 a2 a3)) (d : (Int × Int × (List (List Int)) × (List Int) × Unit)) (i : Int) (a : Int) (seen_1 : (List Bool)) (sets_1 : (List Int)) (words_1 : (List (List Int))) : ChO (fun κ => r24_Sync_L17_B d i (r7 κ) (r17 κ) a seen_1 sets_1 words_1) (r24_Sync_L17_B d i r7' r17' a seen_1 sets_1 words_1) := by
  unfold r24_Sync_L17_B
  repeat' first | exact ChO.const _ | exact h_r7 _ _ _ _ | exact h_r17 _ _ _ _ | (apply r24_Sync_J30_ch <;> assumption) | (apply r24_Sync_L21_ch <;> assumption) | apply ChO.ite | apply ChO.G | apply ChO.both | (apply ChO.bind; intro _)
theorem r24_Sync_L17_cn (r7 : Int → (List Bool) → (List Int) → (List (List Int)) → Option ((List Int) × Bool)) (d : (Int × Int × (List (List Int)) × (List Int) × Unit)) (i : Int) : Cn (r24_Sync_L17_F d i r7) := fun g h hg x => r24_Sync_L17_B_ch (fun _ => r7) r7 (fun _ _ _ _ => ChO.const _) (fun κ a seen_1 sets_1 words_1 => g κ (a, seen_1, sets_1, words_1)) (fun a seen_1 sets_1 words_1 => h (a, seen_1, sets_1, words_1)) (fun a seen_1 sets_1 words_1 => hg (a, seen_1, sets_1, words_1)) d i x.1 x.2.1 x.2.2.1 x.2.2.2
theorem r24_Sync_L17_eq (r7 : Int → (List Bool) → (List Int) → (List (List Int)) → Option ((List Int) × Bool)) (d : (Int × Int × (List (List Int)) × (List Int) × Unit)) (i : Int) (a : Int) (seen_1 : (List Bool)) (sets_1 : (List Int)) (words_1 : (List (List Int))) : r24_Sync_L17 d i r7 a seen_1 sets_1 words_1 = r24_Sync_L17_B d i r7 (r24_Sync_L17 d i r7) a seen_1 sets_1 words_1 := LFix_eq (r24_Sync_L17_cn r7 d i) (a, seen_1, sets_1, words_1)
theorem r24_Sync_L17_ch (r7 : Nat → Int → (List Bool) → (List Int) → (List (List Int)) → Option ((List Int) × Bool)) (r7' : Int → (List Bool) → (List Int) → (List (List Int)) → Option ((List Int) × Bool)) (h_r7 : ∀ a0 a1 a2 a3, ChO (fun κ => r7 κ a0 a1 a2 a3) (r7' a0 a1 a2 a3)) (d : (Int × Int × (List (List Int)) × (List Int) × Unit)) (i : Int) (a : Int) (seen_1 : (List Bool)) (sets_1 : (List Int)) (words_1 : (List (List Int))) : ChO (fun κ => r24_Sync_L17 d i (r7 κ) a seen_1 sets_1 words_1) (r24_Sync_L17 d i r7' a seen_1 sets_1 words_1) := by
  unfold r24_Sync_L17
  exact LFix_ch (fun κ => (r24_Sync_L17_cn (r7 κ) d i).mono) (r24_Sync_L17_cn r7' d i).mono (fun g h hg x => r24_Sync_L17_B_ch r7 r7' h_r7 (fun κ a seen_1 sets_1 words_1 => g κ (a, seen_1, sets_1, words_1)) (fun a seen_1 sets_1 words_1 => h (a, seen_1, sets_1, words_1)) (fun a seen_1 sets_1 words_1 => hg (a, seen_1, sets_1, words_1)) d i x.1 x.2.1 x.2.2.1 x.2.2.2) _
theorem r24_Sync_L11_B_ch (r7 : Nat → Int → (List Bool) → (List Int) → (List (List Int)) → Option ((List Int) × Bool)) (r7' : Int → (List Bool) → (List Int) → (List (List Int)) → Option ((List Int) × Bool)) (h_r7 : ∀ a0 a1 a2 a3, ChO (fun κ => r7 κ a0 a1 a2 a3) (r7' a0 a1 a2 a3)) (r11 : Nat → Int → Int → Option ((List Int) × Bool)) (r11' : Int → Int → Option ((List Int) × Bool)) (h_r11 : ∀ a0 a1, ChO (fun κ => r11 κ a0 a1) (r11' a0 a1)) (d : (Int × Int × (List (List Int)) × (List Int) × Unit)) (i : Int) (seen : (List Bool)) (sets : (List Int)) (words : (List (List Int))) (n : Int) (q : Int) : ChO (fun κ => r24_Sync_L11_B d i seen sets words (r7 κ) (r11 κ) n q) (r24_Sync_L11_B d i seen sets words r7' r11' n q) := by
  unfold r24_Sync_L11_B
  repeat' first | exact ChO.const _ | exact h_r7 _ _ _ _ | exact h_r11 _ _ | (apply r24_Sync_J30_ch <;> assumption) | (apply r24_Sync_L21_ch <;> assumption) | (apply r24_Sync_L17_ch <;> assumption) | apply ChO.ite | apply ChO.G | apply ChO.both | (apply ChO.bind; intro _)
theorem r24_Sync_L11_cn (r7 : Int → (List Bool) → (List Int) → (List (List Int)) → Option ((List Int) × Bool)) (d : (Int × Int × (List (List Int)) × (List Int) × Unit)) (i : Int) (seen : (List Bool)) (sets : (List Int)) (words : (List (List Int))) : Cn (r24_Sync_L11_F d i seen sets words r7) := fun g h hg x => r24_Sync_L11_B_ch (fun _ => r7) r7 (fun _ _ _ _ => ChO.const _) (fun κ n q => g κ (n, q)) (fun n q => h (n, q)) (fun n q => hg (n, q)) d i seen sets words x.1 x.2
theorem r24_Sync_L11_eq (r7 : Int → (List Bool) → (List Int) → (List (List Int)) → Option ((List Int) × Bool)) (d : (Int × Int × (List (List Int)) × (List Int) × Unit)) (i : Int) (seen : (List Bool)) (sets : (List Int)) (words : (List (List Int))) (n : Int) (q : Int) : r24_Sync_L11 d i seen sets words r7 n q = r24_Sync_L11_B d i seen sets words r7 (r24_Sync_L11 d i seen sets words r7) n q := LFix_eq (r24_Sync_L11_cn r7 d i seen sets words) (n, q)
theorem r24_Sync_L11_ch (r7 : Nat → Int → (List Bool) → (List Int) → (List (List Int)) → Option ((List Int) × Bool)) (r7' : Int → (List Bool) → (List Int) → (List (List Int)) → Option ((List Int) × Bool)) (h_r7 : ∀ a0 a1 a2 a3, ChO (fun κ => r7 κ a0 a1 a2 a3) (r7' a0 a1 a2 a3)) (d : (Int × Int × (List (List Int)) × (List Int) × Unit)) (i : Int) (seen : (List Bool)) (sets : (List Int)) (words : (List (List Int))) (n : Int) (q : Int) : ChO (fun κ => r24_Sync_L11 d i seen sets words (r7 κ) n q) (r24_Sync_L11 d i seen sets words r7' n q) := by
  unfold r24_Sync_L11
  exact LFix_ch (fun κ => (r24_Sync_L11_cn (r7 κ) d i seen sets words).mono) (r24_Sync_L11_cn r7' d i seen sets words).mono (fun g h hg x => r24_Sync_L11_B_ch r7 r7' h_r7 (fun κ n q => g κ (n, q)) (fun n q => h (n, q)) (fun n q => hg (n, q)) d i seen sets words x.1 x.2) _
theorem r24_Sync_L7_B_ch (r7 : Nat → Int → (List Bool) → (List Int) → (List (List Int)) → Option ((List Int) × Bool)) (r7' : Int → (List Bool) → (List Int) → (List (List Int)) → Option ((List Int) × Bool)) (h_r7 : ∀ a0 a1 a2 a3, ChO (fun κ => r7 κ a0 a1 a2 a3) (r7' a0 a1 a2 a3)) (d : (Int × Int × (List (List Int)) × (List Int) × Unit)) (i : Int) (seen : (List Bool)) (sets : (List Int)) (words : (List (List Int))) : ChO (fun κ => r24_Sync_L7_B d (r7 κ) i seen sets words) (r24_Sync_L7_B d r7' i seen sets words) := by
  unfold r24_Sync_L7_B
  repeat' first | exact ChO.const _ | exact h_r7 _ _ _ _ | (apply r24_Sync_J30_ch <;> assumption) | (apply r24_Sync_L21_ch <;> assumption) | (apply r24_Sync_L17_ch <;> assumption) | (apply r24_Sync_L11_ch <;> assumption) | apply ChO.ite | apply ChO.G | apply ChO.both | (apply ChO.bind; intro _)
theorem r24_Sync_L7_cn  (d : (Int × Int × (List (List Int)) × (List Int) × Unit)) : Cn (r24_Sync_L7_F d) := fun g h hg x => r24_Sync_L7_B_ch  (fun κ i seen sets words => g κ (i, seen, sets, words)) (fun i seen sets words => h (i, seen, sets, words)) (fun i seen sets words => hg (i, seen, sets, words)) d x.1 x.2.1 x.2.2.1 x.2.2.2
theorem r24_Sync_L7_eq  (d : (Int × Int × (List (List Int)) × (List Int) × Unit)) (i : Int) (seen : (List Bool)) (sets : (List Int)) (words : (List (List Int))) : r24_Sync_L7 d i seen sets words = r24_Sync_L7_B d (r24_Sync_L7 d) i seen sets words := LFix_eq (r24_Sync_L7_cn d) (i, seen, sets, words)

noncomputable def r1_Words_L4_B (a : (List Int)) (b : (List Int)) (r4 : Int → Option (Bool)) (i : Int) : Option (Bool) :=
  if (decide (i < (a.length : Int))) = true then
  G (0 ≤ i ∧ i < (a.length : Int)) (
  G (0 ≤ i ∧ i < (b.length : Int)) (
  if (decide (¬ (ix a i) = (ix b i))) = true then
  some false else
  G (fits (i + (1 : Int))) (
  r4 (i + (1 : Int))))) else
  some true
noncomputable def r1_Words_L4_F (a : (List Int)) (b : (List Int)) : (Int → Option (Bool)) → Int → Option (Bool) :=
  fun rec x => r1_Words_L4_B a b (fun i => rec i) x
noncomputable def r1_Words_L4 (a : (List Int)) (b : (List Int)) (i : Int) : Option (Bool) := LFix (r1_Words_L4_F a b ) i
noncomputable def r1_Words (a : (List Int)) (b : (List Int)) : Option (Bool) :=
  if (decide (¬ (a.length : Int) = (b.length : Int))) = true then
  some false else
  r1_Words_L4 a b (0 : Int)
theorem r1_Words_L4_B_ch (r4 : Nat → Int → Option (Bool)) (r4' : Int → Option (Bool)) (h_r4 : ∀ a0, ChO (fun κ => r4 κ a0) (r4' a0)) (a : (List Int)) (b : (List Int)) (i : Int) : ChO (fun κ => r1_Words_L4_B a b (r4 κ) i) (r1_Words_L4_B a b r4' i) := by
  unfold r1_Words_L4_B
  repeat' first | exact ChO.const _ | exact h_r4 _ | apply ChO.ite | apply ChO.G | apply ChO.both | (apply ChO.bind; intro _)
theorem r1_Words_L4_cn  (a : (List Int)) (b : (List Int)) : Cn (r1_Words_L4_F a b) := fun g h hg x => r1_Words_L4_B_ch  (fun κ i => g κ i) (fun i => h i) (fun i => hg i) a b x
theorem r1_Words_L4_eq  (a : (List Int)) (b : (List Int)) (i : Int) : r1_Words_L4 a b i = r1_Words_L4_B a b (r1_Words_L4 a b) i := LFix_eq (r1_Words_L4_cn a b) i

noncomputable def law_CodeSync_J4 (d : (Int × Int × (List (List Int)) × (List Int) × Unit)) (y' : (List Int)) (y'_1 : Bool) (y'_2 : Int) (no : Int) : Option (Bool) :=
  if (decide (¬ no = (0 : Int))) = true then
  if (decide (y'_2 = no)) = true then
  if (!y'_1) = true then
  some (decide ((y'.length : Int) = (0 : Int))) else
  some false else
  some false else
  (r24_Sync (d.1, (d.2.1, (d.2.2.1, (d.2.2.2.1, ()))))).bind (fun y'_9 =>
  (r1_Words y' y'_9.1).bind (fun y'_8 =>
  if (decide (y'_2 = (0 : Int))) = true then
  if (decide (y'_1 = y'_9.2)) = true then
  some y'_8 else
  some false else
  some false))
noncomputable def law_CodeSync_J3 (d : (Int × Int × (List (List Int)) × (List Int) × Unit)) (y' : (List Int)) (y'_1 : Bool) (y'_2 : Int) (y'_4 : Int) (t : Bool) : Option (Bool) :=
  if t = true then
  law_CodeSync_J4 d y' y'_1 y'_2 (1 : Int) else
  law_CodeSync_J4 d y' y'_1 y'_2 y'_4
noncomputable def law_CodeSync (d : (Int × Int × (List (List Int)) × (List Int) × Unit)) : Option (Bool) :=
  (code_Sync (d.1, (d.2.1, (d.2.2.1, (d.2.2.2.1, ()))))).bind (fun y'_10 =>
  (r3_Check (d.1, (d.2.1, (d.2.2.1, (d.2.2.2.1, ()))))).bind (fun y'_4 =>
  if (decide (y'_4 = (0 : Int))) = true then
  law_CodeSync_J3 d y'_10.1 y'_10.2.1 y'_10.2.2 y'_4 (decide ((8 : Int) < (d.2.2.1.length : Int))) else
  law_CodeSync_J3 d y'_10.1 y'_10.2.1 y'_10.2.2 y'_4 false))

end Go.Proofs.Ytogcngcbpkjdfaa.codeSyncW
