/- What the functions that 'WordTells' reaches compute: plain functions. -/
import Derived.Test.YtlbiilfoecehdaaEv19n21
set_option maxHeartbeats 1000000
set_option maxRecDepth 20000
set_option linter.unusedSimpArgs false
set_option linter.unusedVariables false
set_option linter.unusedSectionVars false
namespace Go.Proofs.Ytlbiilfoecehdaa.wordTellsW
open Go Go.Ab
noncomputable def word_May_L6_B (letters : Int) (w : (List Int)) (r6 : Int → Option (Int)) (t : Int) : Option (Int) :=
  if (decide (t < (w.length : Int))) = true then
  G (0 ≤ t ∧ t < (w.length : Int)) (
  if (decide ((ix w t) < (0 : Int))) = true then
  some (2 : Int) else
  if (decide (letters ≤ (ix w t))) = true then
  some (2 : Int) else
  G (fits (t + (1 : Int))) (
  r6 (t + (1 : Int)))) else
  some (0 : Int)
noncomputable def word_May_L6_F (letters : Int) (w : (List Int)) : (Int → Option (Int)) → Int → Option (Int) :=
  fun rec x => word_May_L6_B letters w (fun t => rec t) x
noncomputable def word_May_L6 (letters : Int) (w : (List Int)) (t : Int) : Option (Int) := LFix (word_May_L6_F letters w ) t
noncomputable def word_May (letters : Int) (w : (List Int)) : Option (Int) :=
  if (decide (letters < (1 : Int))) = true then
  some (2 : Int) else
  if (decide ((4 : Int) < letters)) = true then
  some (2 : Int) else
  if (decide ((60 : Int) < (w.length : Int))) = true then
  some (1 : Int) else
  word_May_L6 letters w (0 : Int)
theorem word_May_L6_B_ch (r6 : Nat → Int → Option (Int)) (r6' : Int → Option (Int)) (h_r6 : ∀ a0, ChO (fun κ => r6 κ a0) (r6' a0)) (letters : Int) (w : (List Int)) (t : Int) : ChO (fun κ => word_May_L6_B letters w (r6 κ) t) (word_May_L6_B letters w r6' t) := by
  unfold word_May_L6_B
  repeat' with_reducible first | exact ChO.const _ | exact h_r6 _ | apply ChO.ite | apply ChO.G | apply ChO.both | (apply ChO.bind; intro _)
theorem word_May_L6_cn  (letters : Int) (w : (List Int)) : Cn (word_May_L6_F letters w) := fun g h hg x => word_May_L6_B_ch  (fun κ t => g κ t) (fun t => h t) (fun t => hg t) letters w x
theorem word_May_L6_eq  (letters : Int) (w : (List Int)) (t : Int) : word_May_L6 letters w t = word_May_L6_B letters w (word_May_L6 letters w) t := LFix_eq (word_May_L6_cn letters w) t

noncomputable def r1_May_L6_B (letters : Int) (w : (List Int)) (r6 : Int → Option (Int)) (i : Int) : Option (Int) :=
  if (decide (i < (w.length : Int))) = true then
  G (0 ≤ i ∧ i < (w.length : Int)) (
  if (decide ((ix w i) < (0 : Int))) = true then
  some (2 : Int) else
  G (0 ≤ i ∧ i < (w.length : Int)) (
  if (decide (letters ≤ (ix w i))) = true then
  some (2 : Int) else
  G (fits (i + (1 : Int))) (
  r6 (i + (1 : Int))))) else
  some (0 : Int)
noncomputable def r1_May_L6_F (letters : Int) (w : (List Int)) : (Int → Option (Int)) → Int → Option (Int) :=
  fun rec x => r1_May_L6_B letters w (fun i => rec i) x
noncomputable def r1_May_L6 (letters : Int) (w : (List Int)) (i : Int) : Option (Int) := LFix (r1_May_L6_F letters w ) i
noncomputable def r1_May (letters : Int) (w : (List Int)) : Option (Int) :=
  if (decide (letters < (1 : Int))) = true then
  some (2 : Int) else
  if (decide ((4 : Int) < letters)) = true then
  some (2 : Int) else
  if (decide ((60 : Int) < (w.length : Int))) = true then
  some (1 : Int) else
  r1_May_L6 letters w (0 : Int)
theorem r1_May_L6_B_ch (r6 : Nat → Int → Option (Int)) (r6' : Int → Option (Int)) (h_r6 : ∀ a0, ChO (fun κ => r6 κ a0) (r6' a0)) (letters : Int) (w : (List Int)) (i : Int) : ChO (fun κ => r1_May_L6_B letters w (r6 κ) i) (r1_May_L6_B letters w r6' i) := by
  unfold r1_May_L6_B
  repeat' with_reducible first | exact ChO.const _ | exact h_r6 _ | apply ChO.ite | apply ChO.G | apply ChO.both | (apply ChO.bind; intro _)
theorem r1_May_L6_cn  (letters : Int) (w : (List Int)) : Cn (r1_May_L6_F letters w) := fun g h hg x => r1_May_L6_B_ch  (fun κ i => g κ i) (fun i => h i) (fun i => hg i) letters w x
theorem r1_May_L6_eq  (letters : Int) (w : (List Int)) (i : Int) : r1_May_L6 letters w i = r1_May_L6_B letters w (r1_May_L6 letters w) i := LFix_eq (r1_May_L6_cn letters w) i

noncomputable def word_Lasso_L2_B (letters : Int) (l : ((List Int) × (List Int) × Unit)) (r2 : Int → Option (Int)) (t : Int) : Option (Int) :=
  if (decide (t < (2 : Int))) = true then
  G (0 ≤ t ∧ t < (2 : Int)) (
  (word_May letters (vget (.list (.int .i64)) 2 (l.1, (l.2.1, ())) (t).toNat)).bind (fun y' =>
  if (decide (¬ y' = (0 : Int))) = true then
  some y' else
  G (fits (t + (1 : Int))) (
  r2 (t + (1 : Int))))) else
  if (decide ((l.2.1.length : Int) = (0 : Int))) = true then
  some (1 : Int) else
  some (0 : Int)
noncomputable def word_Lasso_L2_F (letters : Int) (l : ((List Int) × (List Int) × Unit)) : (Int → Option (Int)) → Int → Option (Int) :=
  fun rec x => word_Lasso_L2_B letters l (fun t => rec t) x
noncomputable def word_Lasso_L2 (letters : Int) (l : ((List Int) × (List Int) × Unit)) (t : Int) : Option (Int) := LFix (word_Lasso_L2_F letters l ) t
noncomputable def word_Lasso (letters : Int) (l : ((List Int) × (List Int) × Unit)) : Option (Int) :=
  word_Lasso_L2 letters l (0 : Int)
theorem word_Lasso_L2_B_ch (r2 : Nat → Int → Option (Int)) (r2' : Int → Option (Int)) (h_r2 : ∀ a0, ChO (fun κ => r2 κ a0) (r2' a0)) (letters : Int) (l : ((List Int) × (List Int) × Unit)) (t : Int) : ChO (fun κ => word_Lasso_L2_B letters l (r2 κ) t) (word_Lasso_L2_B letters l r2' t) := by
  unfold word_Lasso_L2_B
  repeat' with_reducible first | exact ChO.const _ | exact h_r2 _ | apply ChO.ite | apply ChO.G | apply ChO.both | (apply ChO.bind; intro _)
theorem word_Lasso_L2_cn  (letters : Int) (l : ((List Int) × (List Int) × Unit)) : Cn (word_Lasso_L2_F letters l) := fun g h hg x => word_Lasso_L2_B_ch  (fun κ t => g κ t) (fun t => h t) (fun t => hg t) letters l x
theorem word_Lasso_L2_eq  (letters : Int) (l : ((List Int) × (List Int) × Unit)) (t : Int) : word_Lasso_L2 letters l t = word_Lasso_L2_B letters l (word_Lasso_L2 letters l) t := LFix_eq (word_Lasso_L2_cn letters l) t

noncomputable def r1_Lasso (letters : Int) (l : ((List Int) × (List Int) × Unit)) : Option (Int) :=
  (r1_May letters l.1).bind (fun y' =>
  if (decide (¬ y' = (0 : Int))) = true then
  some y' else
  (r1_May letters l.2.1).bind (fun y'_1 =>
  if (decide (¬ y'_1 = (0 : Int))) = true then
  some y'_1 else
  if (decide ((l.2.1.length : Int) = (0 : Int))) = true then
  some (1 : Int) else
  some (0 : Int)))

noncomputable def word_at (l : ((List Int) × (List Int) × Unit)) (n : Int) : Option (Int) :=
  if (decide (n < (l.1.length : Int))) = true then
  G (0 ≤ n ∧ n < (l.1.length : Int)) (
  some (ix l.1 n)) else
  G (fits (n - (l.1.length : Int))) (
  G ((l.2.1.length : Int) ≠ 0) (
  G (0 ≤ Int.tmod (n - (l.1.length : Int)) (l.2.1.length : Int) ∧ Int.tmod (n - (l.1.length : Int)) (l.2.1.length : Int) < (l.2.1.length : Int)) (
  some (ix l.2.1 (Int.tmod (n - (l.1.length : Int)) (l.2.1.length : Int))))))

noncomputable def word_At (l : ((List Int) × (List Int) × Unit)) (n : Int) : Option (Int × Int) :=
  (word_Lasso (4 : Int) (l.1, (l.2.1, ()))).bind (fun y' =>
  if (decide (¬ y' = (0 : Int))) = true then
  some ((0 : Int), y') else
  if (decide (n < (0 : Int))) = true then
  some ((0 : Int), (2 : Int)) else
  (word_at (l.1, (l.2.1, ())) n).bind (fun y'_1 =>
  some (y'_1, (0 : Int))))

noncomputable def slices_Clone (s : (List Int)) : Option (List Int) :=
  if s.length = 0 then both [(.list (.int .i64))] (
  some ([])) (
  G (room ([] : List Int) s 8) (
  some (([] : List Int) ++ s))) else
  G (room ([] : List Int) s 8) (
  some (([] : List Int) ++ s))

noncomputable def slices_Equal_L4_B (s1 : (List Int)) (s2 : (List Int)) (r4 : Int → Option (Bool)) (t : Int) : Option (Bool) :=
  if (decide (t < (s1.length : Int))) = true then
  G (0 ≤ t ∧ t < (s1.length : Int)) (
  G (0 ≤ t ∧ t < (s2.length : Int)) (
  if (decide (¬ (ix s1 t) = (ix s2 t))) = true then
  some false else
  G (fits (t + (1 : Int))) (
  r4 (t + (1 : Int))))) else
  some true
noncomputable def slices_Equal_L4_F (s1 : (List Int)) (s2 : (List Int)) : (Int → Option (Bool)) → Int → Option (Bool) :=
  fun rec x => slices_Equal_L4_B s1 s2 (fun t => rec t) x
noncomputable def slices_Equal_L4 (s1 : (List Int)) (s2 : (List Int)) (t : Int) : Option (Bool) := LFix (slices_Equal_L4_F s1 s2 ) t
noncomputable def slices_Equal (s1 : (List Int)) (s2 : (List Int)) : Option (Bool) :=
  if (decide (¬ (s1.length : Int) = (s2.length : Int))) = true then
  some false else
  slices_Equal_L4 s1 s2 (0 : Int)
theorem slices_Equal_L4_B_ch (r4 : Nat → Int → Option (Bool)) (r4' : Int → Option (Bool)) (h_r4 : ∀ a0, ChO (fun κ => r4 κ a0) (r4' a0)) (s1 : (List Int)) (s2 : (List Int)) (t : Int) : ChO (fun κ => slices_Equal_L4_B s1 s2 (r4 κ) t) (slices_Equal_L4_B s1 s2 r4' t) := by
  unfold slices_Equal_L4_B
  repeat' with_reducible first | exact ChO.const _ | exact h_r4 _ | apply ChO.ite | apply ChO.G | apply ChO.both | (apply ChO.bind; intro _)
theorem slices_Equal_L4_cn  (s1 : (List Int)) (s2 : (List Int)) : Cn (slices_Equal_L4_F s1 s2) := fun g h hg x => slices_Equal_L4_B_ch  (fun κ t => g κ t) (fun t => h t) (fun t => hg t) s1 s2 x
theorem slices_Equal_L4_eq  (s1 : (List Int)) (s2 : (List Int)) (t : Int) : slices_Equal_L4 s1 s2 t = slices_Equal_L4_B s1 s2 (slices_Equal_L4 s1 s2) t := LFix_eq (slices_Equal_L4_cn s1 s2) t

noncomputable def word_period_J4 (loop : (List Int)) (t : Int) (r2 : (Int → Option (List Int))) (t_1 : Bool) : Option (List Int) :=
  if t_1 = true then
  G (0 ≤ (0 : Int) ∧ (0 : Int) ≤ t ∧ t ≤ (loop.length : Int)) (
  some (cut loop (0 : Int) t)) else
  G (fits (t + (1 : Int))) (
  r2 (t + (1 : Int)))
noncomputable def word_period_L2_B (loop : (List Int)) (r2 : Int → Option (List Int)) (t : Int) : Option (List Int) :=
  if (decide (t < (loop.length : Int))) = true then
  if (decide ((0 : Int) < t)) = true then
  G (t ≠ 0) (
  if (decide ((Int.tmod (loop.length : Int) t) = (0 : Int))) = true then
  G (0 ≤ t ∧ t ≤ (loop.length : Int) ∧ (loop.length : Int) ≤ (loop.length : Int)) (
  G (fits ((loop.length : Int) - t)) (
  G (0 ≤ (0 : Int) ∧ (0 : Int) ≤ (loop.length : Int) - t ∧ (loop.length : Int) - t ≤ (loop.length : Int)) (
  (slices_Equal (cut loop t (loop.length : Int)) (cut loop (0 : Int) ((loop.length : Int) - t))).bind (fun y' =>
  word_period_J4 loop t r2 y')))) else
  word_period_J4 loop t r2 false) else
  word_period_J4 loop t r2 false else
  some loop
noncomputable def word_period_L2_F (loop : (List Int)) : (Int → Option (List Int)) → Int → Option (List Int) :=
  fun rec x => word_period_L2_B loop (fun t => rec t) x
noncomputable def word_period_L2 (loop : (List Int)) (t : Int) : Option (List Int) := LFix (word_period_L2_F loop ) t
noncomputable def word_period (loop : (List Int)) : Option (List Int) :=
  word_period_L2 loop (0 : Int)
theorem word_period_J4_ch (r2 : Nat → Int → Option (List Int)) (r2' : Int → Option (List Int)) (h_r2 : ∀ a0, ChO (fun κ => r2 κ a0) (r2' a0)) (loop : (List Int)) (t : Int) (t_1 : Bool) : ChO (fun κ => word_period_J4 loop t (r2 κ) t_1) (word_period_J4 loop t r2' t_1) := by
  unfold word_period_J4
  repeat' with_reducible first | exact ChO.const _ | exact h_r2 _ | apply ChO.ite | apply ChO.G | apply ChO.both | (apply ChO.bind; intro _)
theorem word_period_L2_B_ch (r2 : Nat → Int → Option (List Int)) (r2' : Int → Option (List Int)) (h_r2 : ∀ a0, ChO (fun κ => r2 κ a0) (r2' a0)) (loop : (List Int)) (t : Int) : ChO (fun κ => word_period_L2_B loop (r2 κ) t) (word_period_L2_B loop r2' t) := by
  unfold word_period_L2_B
  repeat' with_reducible first | exact ChO.const _ | exact h_r2 _ | (apply word_period_J4_ch <;> assumption) | apply ChO.ite | apply ChO.G | apply ChO.both | (apply ChO.bind; intro _)
theorem word_period_L2_cn  (loop : (List Int)) : Cn (word_period_L2_F loop) := fun g h hg x => word_period_L2_B_ch  (fun κ t => g κ t) (fun t => h t) (fun t => hg t) loop x
theorem word_period_L2_eq  (loop : (List Int)) (t : Int) : word_period_L2 loop t = word_period_L2_B loop (word_period_L2 loop) t := LFix_eq (word_period_L2_cn loop) t

noncomputable def word_normal_L2_B (l : ((List Int) × (List Int) × Unit)) (r2 : (List Int) → (List Int) → Option ((List Int) × (List Int) × Unit)) (head : (List Int)) (loop : (List Int)) : Option ((List Int) × (List Int) × Unit) :=
  if (decide ((0 : Int) < (head.length : Int))) = true then
  G (fits ((head.length : Int) - (1 : Int))) (
  G (0 ≤ (head.length : Int) - (1 : Int) ∧ (head.length : Int) - (1 : Int) < (head.length : Int)) (
  G (fits ((loop.length : Int) - (1 : Int))) (
  G (0 ≤ (loop.length : Int) - (1 : Int) ∧ (loop.length : Int) - (1 : Int) < (loop.length : Int)) (
  G (((loop.length : Int) - (1 : Int)).toNat < loop.length) (
  if (decide ((ix head ((head.length : Int) - (1 : Int))) = (ix loop ((loop.length : Int) - (1 : Int))))) = true then
  G (fits ((head.length : Int) - (1 : Int))) (
  G (0 ≤ (0 : Int) ∧ (0 : Int) ≤ (head.length : Int) - (1 : Int) ∧ (head.length : Int) - (1 : Int) ≤ (head.length : Int)) (
  G (0 ≤ (1 : Int) ∧ (1 : Int) ≤ (loop.length : Int)) (
  (slices_Clone loop).bind (fun y'_3 =>
  G ((((1 : Int)).toNat) + (loop.length - ((1 : Int)).toNat) ≤ loop.length) (
  (word_at (l.1, (l.2.1, ())) ((cut head (0 : Int) ((head.length : Int) - (1 : Int))).length : Int)).bind (fun y'_4 =>
  G (0 ≤ (0 : Int) ∧ (0 : Int) < ((loop.take (((1 : Int)).toNat) ++ y'_3.take (min y'_3.length (loop.length - ((1 : Int)).toNat)) ++ loop.drop ((((1 : Int)).toNat) + (min y'_3.length (loop.length - ((1 : Int)).toNat)))).length : Int)) (
  G (((0 : Int)).toNat < (loop.take (((1 : Int)).toNat) ++ y'_3.take (min y'_3.length (loop.length - ((1 : Int)).toNat)) ++ loop.drop ((((1 : Int)).toNat) + (min y'_3.length (loop.length - ((1 : Int)).toNat)))).length) (
  r2 (cut head (0 : Int) ((head.length : Int) - (1 : Int))) ((loop.take (((1 : Int)).toNat) ++ y'_3.take (min y'_3.length (loop.length - ((1 : Int)).toNat)) ++ loop.drop ((((1 : Int)).toNat) + (min y'_3.length (loop.length - ((1 : Int)).toNat)))).set ((0 : Int)).toNat y'_4))))))))) else
  some (head, (loop, ()))))))) else
  some (head, (loop, ()))
noncomputable def word_normal_L2_F (l : ((List Int) × (List Int) × Unit)) : ((List Int) × (List Int) → Option ((List Int) × (List Int) × Unit)) → (List Int) × (List Int) → Option ((List Int) × (List Int) × Unit) :=
  fun rec x => word_normal_L2_B l (fun head loop => rec (head, loop)) x.1 x.2
noncomputable def word_normal_L2 (l : ((List Int) × (List Int) × Unit)) (head : (List Int)) (loop : (List Int)) : Option ((List Int) × (List Int) × Unit) := LFix (word_normal_L2_F l ) (head, loop)
noncomputable def word_normal (l : ((List Int) × (List Int) × Unit)) : Option ((List Int) × (List Int) × Unit) :=
  (slices_Clone l.1).bind (fun y' =>
  (word_period l.2.1).bind (fun y'_1 =>
  (slices_Clone y'_1).bind (fun y'_2 =>
  word_normal_L2 l y' y'_2)))
theorem word_normal_L2_B_ch (r2 : Nat → (List Int) → (List Int) → Option ((List Int) × (List Int) × Unit)) (r2' : (List Int) → (List Int) → Option ((List Int) × (List Int) × Unit)) (h_r2 : ∀ a0 a1, ChO (fun κ => r2 κ a0 a1) (r2' a0 a1)) (l : ((List Int) × (List Int) × Unit)) (head : (List Int)) (loop : (List Int)) : ChO (fun κ => word_normal_L2_B l (r2 κ) head loop) (word_normal_L2_B l r2' head loop) := by
  unfold word_normal_L2_B
  repeat' with_reducible first | exact ChO.const _ | exact h_r2 _ _ | apply ChO.ite | apply ChO.G | apply ChO.both | (apply ChO.bind; intro _)
theorem word_normal_L2_cn  (l : ((List Int) × (List Int) × Unit)) : Cn (word_normal_L2_F l) := fun g h hg x => word_normal_L2_B_ch  (fun κ head loop => g κ (head, loop)) (fun head loop => h (head, loop)) (fun head loop => hg (head, loop)) l x.1 x.2
theorem word_normal_L2_eq  (l : ((List Int) × (List Int) × Unit)) (head : (List Int)) (loop : (List Int)) : word_normal_L2 l head loop = word_normal_L2_B l (word_normal_L2 l) head loop := LFix_eq (word_normal_L2_cn l) (head, loop)

noncomputable def word_Same_J8 (x' : (List Int)) (x'_1 : (List Int)) (y'_3 : (List Int)) (y'_4 : (List Int)) : Option (Bool × Int) :=
  (slices_Equal x' y'_3).bind (fun y'_5 =>
  if y'_5 = true then
  (slices_Equal x'_1 y'_4).bind (fun y'_6 =>
  some (y'_6, (0 : Int))) else
  some (false, (0 : Int)))
noncomputable def word_Same_L2_B (a : ((List Int) × (List Int) × Unit)) (b : ((List Int) × (List Int) × Unit)) (r2 : Int → Option (Bool × Int)) (t : Int) : Option (Bool × Int) :=
  if (decide (t < (([(a.1, (a.2.1, ())), (b.1, (b.2.1, ()))]).length : Int))) = true then
  G (0 ≤ t ∧ t < (([(a.1, (a.2.1, ())), (b.1, (b.2.1, ()))]).length : Int)) (
  G ((t).toNat < ([(a.1, (a.2.1, ())), (b.1, (b.2.1, ()))]).length) (
  (word_Lasso (4 : Int) ((ix ([(a.1, (a.2.1, ())), (b.1, (b.2.1, ()))]) t).1, (((ix ([(a.1, (a.2.1, ())), (b.1, (b.2.1, ()))]) t).2).1, ()))).bind (fun y' =>
  if (decide (¬ y' = (0 : Int))) = true then
  some (false, y') else
  G (fits (t + (1 : Int))) (
  r2 (t + (1 : Int)))))) else
  both [.bool, (.int .i64)] (
  (word_normal (a.1, (a.2.1, ()))).bind (fun y'_1 =>
  both [.bool, (.int .i64)] (
  (word_normal (b.1, (b.2.1, ()))).bind (fun y'_2 =>
  both [.bool, (.int .i64)] (
  word_Same_J8 y'_1.1 y'_1.2.1 y'_2.1 y'_2.2.1) (
  word_Same_J8 y'_1.1 y'_1.2.1 y'_2.1 y'_2.2.1))) (
  both [.bool, (.int .i64)] (
  both [.bool, (.int .i64)] (
  (word_normal (b.1, (b.2.1, ()))).bind (fun y'_7 =>
  word_Same_J8 y'_1.1 y'_1.2.1 y'_7.1 y'_7.2.1)) (
  (word_normal (b.1, (b.2.1, ()))).bind (fun y'_8 =>
  word_Same_J8 y'_1.1 y'_1.2.1 y'_8.1 y'_8.2.1))) (
  both [.bool, (.int .i64)] (
  (word_normal (b.1, (b.2.1, ()))).bind (fun y'_9 =>
  word_Same_J8 y'_1.1 y'_1.2.1 y'_9.1 y'_9.2.1)) (
  (word_normal (b.1, (b.2.1, ()))).bind (fun y'_10 =>
  word_Same_J8 y'_1.1 y'_1.2.1 y'_10.1 y'_10.2.1)))))) (
  both [.bool, (.int .i64)] (
  both [.bool, (.int .i64)] (
  (word_normal (a.1, (a.2.1, ()))).bind (fun y'_11 =>
  both [.bool, (.int .i64)] (
  (word_normal (b.1, (b.2.1, ()))).bind (fun y'_12 =>
  word_Same_J8 y'_11.1 y'_11.2.1 y'_12.1 y'_12.2.1)) (
  (word_normal (b.1, (b.2.1, ()))).bind (fun y'_13 =>
  word_Same_J8 y'_11.1 y'_11.2.1 y'_13.1 y'_13.2.1)))) (
  (word_normal (a.1, (a.2.1, ()))).bind (fun y'_14 =>
  (word_normal (b.1, (b.2.1, ()))).bind (fun y'_15 =>
  word_Same_J8 y'_14.1 y'_14.2.1 y'_15.1 y'_15.2.1)))) (
  both [.bool, (.int .i64)] (
  (word_normal (a.1, (a.2.1, ()))).bind (fun y'_16 =>
  both [.bool, (.int .i64)] (
  (word_normal (b.1, (b.2.1, ()))).bind (fun y'_17 =>
  word_Same_J8 y'_16.1 y'_16.2.1 y'_17.1 y'_17.2.1)) (
  (word_normal (b.1, (b.2.1, ()))).bind (fun y'_18 =>
  word_Same_J8 y'_16.1 y'_16.2.1 y'_18.1 y'_18.2.1)))) (
  (word_normal (a.1, (a.2.1, ()))).bind (fun y'_19 =>
  (word_normal (b.1, (b.2.1, ()))).bind (fun y'_20 =>
  word_Same_J8 y'_19.1 y'_19.2.1 y'_20.1 y'_20.2.1)))))
noncomputable def word_Same_L2_F (a : ((List Int) × (List Int) × Unit)) (b : ((List Int) × (List Int) × Unit)) : (Int → Option (Bool × Int)) → Int → Option (Bool × Int) :=
  fun rec x => word_Same_L2_B a b (fun t => rec t) x
noncomputable def word_Same_L2 (a : ((List Int) × (List Int) × Unit)) (b : ((List Int) × (List Int) × Unit)) (t : Int) : Option (Bool × Int) := LFix (word_Same_L2_F a b ) t
noncomputable def word_Same (a : ((List Int) × (List Int) × Unit)) (b : ((List Int) × (List Int) × Unit)) : Option (Bool × Int) :=
  word_Same_L2 a b (0 : Int)
theorem word_Same_L2_B_ch (r2 : Nat → Int → Option (Bool × Int)) (r2' : Int → Option (Bool × Int)) (h_r2 : ∀ a0, ChO (fun κ => r2 κ a0) (r2' a0)) (a : ((List Int) × (List Int) × Unit)) (b : ((List Int) × (List Int) × Unit)) (t : Int) : ChO (fun κ => word_Same_L2_B a b (r2 κ) t) (word_Same_L2_B a b r2' t) := by
  unfold word_Same_L2_B
  repeat' with_reducible first | exact ChO.const _ | exact h_r2 _ | apply ChO.ite | apply ChO.G | apply ChO.both | (apply ChO.bind; intro _)
theorem word_Same_L2_cn  (a : ((List Int) × (List Int) × Unit)) (b : ((List Int) × (List Int) × Unit)) : Cn (word_Same_L2_F a b) := fun g h hg x => word_Same_L2_B_ch  (fun κ t => g κ t) (fun t => h t) (fun t => hg t) a b x
theorem word_Same_L2_eq  (a : ((List Int) × (List Int) × Unit)) (b : ((List Int) × (List Int) × Unit)) (t : Int) : word_Same_L2 a b t = word_Same_L2_B a b (word_Same_L2 a b) t := LFix_eq (word_Same_L2_cn a b) t

noncomputable def r1_At (l : ((List Int) × (List Int) × Unit)) (n : Int) : Option (Int) :=
  if (decide (n < (l.1.length : Int))) = true then
  G (0 ≤ n ∧ n < (l.1.length : Int)) (
  some (ix l.1 n)) else
  G (fits (n - (l.1.length : Int))) (
  G ((l.2.1.length : Int) ≠ 0) (
  G (0 ≤ Int.tmod (n - (l.1.length : Int)) (l.2.1.length : Int) ∧ Int.tmod (n - (l.1.length : Int)) (l.2.1.length : Int) < (l.2.1.length : Int)) (
  some (ix l.2.1 (Int.tmod (n - (l.1.length : Int)) (l.2.1.length : Int))))))

noncomputable def r1_Same_L3_B (a : ((List Int) × (List Int) × Unit)) (b : ((List Int) × (List Int) × Unit)) (r3 : Int → Option (Bool)) (i : Int) : Option (Bool) :=
  if (decide (i < ((((a.1.length : Int) + (b.1.length : Int)) + (a.2.1.length : Int)) + (b.2.1.length : Int)))) = true then
  (r1_At (a.1, (a.2.1, ())) i).bind (fun y' =>
  (r1_At (b.1, (b.2.1, ())) i).bind (fun y'_1 =>
  if (decide (¬ y' = y'_1)) = true then
  some false else
  G (fits (i + (1 : Int))) (
  r3 (i + (1 : Int))))) else
  some true
noncomputable def r1_Same_L3_F (a : ((List Int) × (List Int) × Unit)) (b : ((List Int) × (List Int) × Unit)) : (Int → Option (Bool)) → Int → Option (Bool) :=
  fun rec x => r1_Same_L3_B a b (fun i => rec i) x
noncomputable def r1_Same_L3 (a : ((List Int) × (List Int) × Unit)) (b : ((List Int) × (List Int) × Unit)) (i : Int) : Option (Bool) := LFix (r1_Same_L3_F a b ) i
noncomputable def r1_Same (a : ((List Int) × (List Int) × Unit)) (b : ((List Int) × (List Int) × Unit)) : Option (Bool) :=
  G (fits ((a.1.length : Int) + (b.1.length : Int))) (
  G (fits (((a.1.length : Int) + (b.1.length : Int)) + (a.2.1.length : Int))) (
  G (fits ((((a.1.length : Int) + (b.1.length : Int)) + (a.2.1.length : Int)) + (b.2.1.length : Int))) (
  r1_Same_L3 a b (0 : Int))))
theorem r1_Same_L3_B_ch (r3 : Nat → Int → Option (Bool)) (r3' : Int → Option (Bool)) (h_r3 : ∀ a0, ChO (fun κ => r3 κ a0) (r3' a0)) (a : ((List Int) × (List Int) × Unit)) (b : ((List Int) × (List Int) × Unit)) (i : Int) : ChO (fun κ => r1_Same_L3_B a b (r3 κ) i) (r1_Same_L3_B a b r3' i) := by
  unfold r1_Same_L3_B
  repeat' with_reducible first | exact ChO.const _ | exact h_r3 _ | apply ChO.ite | apply ChO.G | apply ChO.both | (apply ChO.bind; intro _)
theorem r1_Same_L3_cn  (a : ((List Int) × (List Int) × Unit)) (b : ((List Int) × (List Int) × Unit)) : Cn (r1_Same_L3_F a b) := fun g h hg x => r1_Same_L3_B_ch  (fun κ i => g κ i) (fun i => h i) (fun i => hg i) a b x
theorem r1_Same_L3_eq  (a : ((List Int) × (List Int) × Unit)) (b : ((List Int) × (List Int) × Unit)) (i : Int) : r1_Same_L3 a b i = r1_Same_L3_B a b (r1_Same_L3 a b) i := LFix_eq (r1_Same_L3_cn a b) i

noncomputable def law_WordTells_J18 (a : ((List Int) × (List Int) × Unit)) (b : ((List Int) × (List Int) × Unit)) (y'_4 : Int) (y'_5 : Int) : Option (Bool) :=
  (word_Same (a.1, (a.2.1, ())) (b.1, (b.2.1, ()))).bind (fun y'_13 =>
  if (decide (¬ y'_4 = (0 : Int))) = true then
  if (decide (y'_13.2 = y'_4)) = true then
  some (!y'_13.1) else
  some false else
  if (decide (¬ y'_5 = (0 : Int))) = true then
  if (decide (y'_13.2 = y'_5)) = true then
  some (!y'_13.1) else
  some false else
  (r1_Same (a.1, (a.2.1, ())) (b.1, (b.2.1, ()))).bind (fun y'_12 =>
  if (decide (y'_13.2 = (0 : Int))) = true then
  some (decide (y'_13.1 = y'_12)) else
  some false))
noncomputable def law_WordTells (letters : Int) (w : (List Int)) (a : ((List Int) × (List Int) × Unit)) (b : ((List Int) × (List Int) × Unit)) (n : Int) : Option (Bool) :=
  (word_May letters w).bind (fun y' =>
  (r1_May letters w).bind (fun y'_1 =>
  (word_Lasso letters (a.1, (a.2.1, ()))).bind (fun y'_2 =>
  (r1_Lasso letters (a.1, (a.2.1, ()))).bind (fun y'_3 =>
  if (decide (¬ y' = y'_1)) = true then
  some false else
  if (decide (¬ y'_2 = y'_3)) = true then
  some false else
  (r1_Lasso (4 : Int) (a.1, (a.2.1, ()))).bind (fun y'_4 =>
  (r1_Lasso (4 : Int) (b.1, (b.2.1, ()))).bind (fun y'_5 =>
  (word_At (a.1, (a.2.1, ())) n).bind (fun y'_15 =>
  if (decide (¬ y'_4 = (0 : Int))) = true then
  if (decide (¬ y'_15.2 = y'_4)) = true then
  some false else
  if (decide (¬ y'_15.1 = (0 : Int))) = true then
  some false else
  law_WordTells_J18 a b y'_4 y'_5 else
  if (decide (n < (0 : Int))) = true then
  if (decide (¬ y'_15.2 = (2 : Int))) = true then
  some false else
  if (decide (¬ y'_15.1 = (0 : Int))) = true then
  some false else
  law_WordTells_J18 a b y'_4 y'_5 else
  (r1_At (a.1, (a.2.1, ())) n).bind (fun y'_14 =>
  if (decide (¬ y'_15.2 = (0 : Int))) = true then
  some false else
  if (decide (¬ y'_15.1 = y'_14)) = true then
  some false else
  law_WordTells_J18 a b y'_4 y'_5))))))))

end Go.Proofs.Ytlbiilfoecehdaa.wordTellsW
