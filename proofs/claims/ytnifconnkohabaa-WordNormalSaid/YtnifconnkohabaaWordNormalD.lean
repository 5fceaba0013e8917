/- What the functions that 'WordNormal' reaches compute: plain functions. -/
import Derived.Test.YtnifconnkohabaaEv32n21
set_option maxHeartbeats 1000000
set_option maxRecDepth 20000
set_option linter.unusedSimpArgs false
set_option linter.unusedVariables false
set_option linter.unusedSectionVars false
namespace Go.Proofs.Ytnifconnkohabaa.wordNormalW
open Go Go.Ab
abbrev Tp3 := (List Int)
abbrev Tp2 := (Tp3 × Tp3)
abbrev Tp1 := (Tp3 × Tp3 × Unit)
noncomputable def law_list (l : Tp3) : Option Tp3 :=
  G (fits ((l.length : Int) + (3 : Int))) (
  G (mkOK (l.length : Int) ((l.length : Int) + (3 : Int)) 8) (
  some (l.take (List.replicate ((l.length : Int)).toNat (0 : Int)).length ++ (List.replicate ((l.length : Int)).toNat (0 : Int)).drop l.length)))

noncomputable def law_lasso (l : Tp1) : Option Tp1 :=
  (law_list l.1).bind (fun y' =>
  (law_list l.2.1).bind (fun y'_1 =>
  some (y', (y'_1, ()))))

noncomputable def word_May_L6_B (letters : Int) (w : Tp3) (r6 : Int → Option (Int)) (t : Int) : Option (Int) :=
  if (decide (t < (w.length : Int))) = true then
  G (0 ≤ t ∧ t < (w.length : Int)) (
  if (decide ((ix w t) < (0 : Int))) = true then
  some (2 : Int) else
  if (decide (letters ≤ (ix w t))) = true then
  some (2 : Int) else
  G (fits (t + (1 : Int))) (
  r6 (t + (1 : Int)))) else
  some (0 : Int)
noncomputable def word_May_L6_F (letters : Int) (w : Tp3) : (Int → Option (Int)) → Int → Option (Int) :=
  fun rec x => word_May_L6_B letters w (fun t => rec t) x
noncomputable def word_May_L6 (letters : Int) (w : Tp3) (t : Int) : Option (Int) := LFix (word_May_L6_F letters w ) t
noncomputable def word_May (letters : Int) (w : Tp3) : Option (Int) :=
  if (decide (letters < (1 : Int))) = true then
  some (2 : Int) else
  if (decide ((4 : Int) < letters)) = true then
  some (2 : Int) else
  if (decide ((60 : Int) < (w.length : Int))) = true then
  some (1 : Int) else
  word_May_L6 letters w (0 : Int)
theorem word_May_L6_B_ch (r6 : Nat → Int → Option (Int)) (r6' : Int → Option (Int)) (h_r6 : ∀ a0, ChO (fun κ => r6 κ a0) (r6' a0)) (letters : Int) (w : Tp3) (t : Int) : ChO (fun κ => word_May_L6_B letters w (r6 κ) t) (word_May_L6_B letters w r6' t) := by
  unfold word_May_L6_B
  repeat' with_reducible first | exact ChO.const _ | exact h_r6 _ | apply ChO.ite | apply ChO.G | apply ChO.both | (apply ChO.bind; intro _)
theorem word_May_L6_cn  (letters : Int) (w : Tp3) : Cn (word_May_L6_F letters w) := fun g h hg x => word_May_L6_B_ch  (fun κ t => g κ t) (fun t => h t) (fun t => hg t) letters w x
theorem word_May_L6_eq  (letters : Int) (w : Tp3) (t : Int) : word_May_L6 letters w t = word_May_L6_B letters w (word_May_L6 letters w) t := LFix_eq (word_May_L6_cn letters w) t

noncomputable def word_Lasso_L2_B (letters : Int) (l : Tp1) (r2 : Int → Option (Int)) (t : Int) : Option (Int) :=
  if (decide (t < (2 : Int))) = true then
  G (0 ≤ t ∧ t < (2 : Int)) (
  (word_May letters (vget (.list (.int .i64)) 2 (l.1, (l.2.1, ())) (t).toNat)).bind (fun y' =>
  if (decide (¬ y' = (0 : Int))) = true then
  some y' else
  G (fits (t + (1 : Int))) (
  r2 (t + (1 : Int))))) else
  if (decide ((l.2.1.length : Int) = (0 : Int))) = true then
  some (1 : Int) else
  some (0 : Int)
noncomputable def word_Lasso_L2_F (letters : Int) (l : Tp1) : (Int → Option (Int)) → Int → Option (Int) :=
  fun rec x => word_Lasso_L2_B letters l (fun t => rec t) x
noncomputable def word_Lasso_L2 (letters : Int) (l : Tp1) (t : Int) : Option (Int) := LFix (word_Lasso_L2_F letters l ) t
noncomputable def word_Lasso (letters : Int) (l : Tp1) : Option (Int) :=
  word_Lasso_L2 letters l (0 : Int)
theorem word_Lasso_L2_B_ch (r2 : Nat → Int → Option (Int)) (r2' : Int → Option (Int)) (h_r2 : ∀ a0, ChO (fun κ => r2 κ a0) (r2' a0)) (letters : Int) (l : Tp1) (t : Int) : ChO (fun κ => word_Lasso_L2_B letters l (r2 κ) t) (word_Lasso_L2_B letters l r2' t) := by
  unfold word_Lasso_L2_B
  repeat' with_reducible first | exact ChO.const _ | exact h_r2 _ | apply ChO.ite | apply ChO.G | apply ChO.both | (apply ChO.bind; intro _)
theorem word_Lasso_L2_cn  (letters : Int) (l : Tp1) : Cn (word_Lasso_L2_F letters l) := fun g h hg x => word_Lasso_L2_B_ch  (fun κ t => g κ t) (fun t => h t) (fun t => hg t) letters l x
theorem word_Lasso_L2_eq  (letters : Int) (l : Tp1) (t : Int) : word_Lasso_L2 letters l t = word_Lasso_L2_B letters l (word_Lasso_L2 letters l) t := LFix_eq (word_Lasso_L2_cn letters l) t

noncomputable def slices_Clone (s : Tp3) : Option Tp3 :=
  if s.length = 0 then both [(.list (.int .i64))] (
  some ([])) (
  G (room ([] : List Int) s 8) (
  some (([] : List Int) ++ s))) else
  G (room ([] : List Int) s 8) (
  some (([] : List Int) ++ s))

noncomputable def slices_Equal_L4_B (s1 : Tp3) (s2 : Tp3) (r4 : Int → Option (Bool)) (t : Int) : Option (Bool) :=
  if (decide (t < (s1.length : Int))) = true then
  G (0 ≤ t ∧ t < (s1.length : Int)) (
  G (0 ≤ t ∧ t < (s2.length : Int)) (
  if (decide (¬ (ix s1 t) = (ix s2 t))) = true then
  some false else
  G (fits (t + (1 : Int))) (
  r4 (t + (1 : Int))))) else
  some true
noncomputable def slices_Equal_L4_F (s1 : Tp3) (s2 : Tp3) : (Int → Option (Bool)) → Int → Option (Bool) :=
  fun rec x => slices_Equal_L4_B s1 s2 (fun t => rec t) x
noncomputable def slices_Equal_L4 (s1 : Tp3) (s2 : Tp3) (t : Int) : Option (Bool) := LFix (slices_Equal_L4_F s1 s2 ) t
noncomputable def slices_Equal (s1 : Tp3) (s2 : Tp3) : Option (Bool) :=
  if (decide (¬ (s1.length : Int) = (s2.length : Int))) = true then
  some false else
  slices_Equal_L4 s1 s2 (0 : Int)
theorem slices_Equal_L4_B_ch (r4 : Nat → Int → Option (Bool)) (r4' : Int → Option (Bool)) (h_r4 : ∀ a0, ChO (fun κ => r4 κ a0) (r4' a0)) (s1 : Tp3) (s2 : Tp3) (t : Int) : ChO (fun κ => slices_Equal_L4_B s1 s2 (r4 κ) t) (slices_Equal_L4_B s1 s2 r4' t) := by
  unfold slices_Equal_L4_B
  repeat' with_reducible first | exact ChO.const _ | exact h_r4 _ | apply ChO.ite | apply ChO.G | apply ChO.both | (apply ChO.bind; intro _)
theorem slices_Equal_L4_cn  (s1 : Tp3) (s2 : Tp3) : Cn (slices_Equal_L4_F s1 s2) := fun g h hg x => slices_Equal_L4_B_ch  (fun κ t => g κ t) (fun t => h t) (fun t => hg t) s1 s2 x
theorem slices_Equal_L4_eq  (s1 : Tp3) (s2 : Tp3) (t : Int) : slices_Equal_L4 s1 s2 t = slices_Equal_L4_B s1 s2 (slices_Equal_L4 s1 s2) t := LFix_eq (slices_Equal_L4_cn s1 s2) t

noncomputable def word_period_J4 (loop : Tp3) (t : Int) (r2 : (Int → Option Tp3)) (t_1 : Bool) : Option Tp3 :=
  if t_1 = true then
  G (0 ≤ (0 : Int) ∧ (0 : Int) ≤ t ∧ t ≤ (loop.length : Int)) (
  some (cut loop (0 : Int) t)) else
  G (fits (t + (1 : Int))) (
  r2 (t + (1 : Int)))
noncomputable def word_period_L2_B (loop : Tp3) (r2 : Int → Option Tp3) (t : Int) : Option Tp3 :=
  if (decide (t < (loop.length : Int))) = true then
  if (decide ((0 : Int) < t)) = true then
  G (t ≠ 0) (
  if (decide ((Int.tmod (loop.length : Int) t) = (0 : Int))) = true then
  G (0 ≤ t ∧ t ≤ (loop.length : Int) ∧ (loop.length : Int) ≤ (loop.length : Int)) (
  G (fits ((loop.length : Int) - t)) (
  G (0 ≤ (0 : Int) ∧ (0 : Int) ≤ (loop.length : Int) - t ∧ (loop.length : Int) - t ≤ (loop.length : Int)) (
  (slices_Equal (cut loop t (loop.length : Int)) (cut loop (0 : Int) ((loop.length : Int) - t))).bind (fun y' =>
  word_period_J4 loop t r2 y')))) else
  word_period_J4 loop t r2 false) else
  word_period_J4 loop t r2 false else
  some loop
noncomputable def word_period_L2_F (loop : Tp3) : (Int → Option Tp3) → Int → Option Tp3 :=
  fun rec x => word_period_L2_B loop (fun t => rec t) x
noncomputable def word_period_L2 (loop : Tp3) (t : Int) : Option Tp3 := LFix (word_period_L2_F loop ) t
noncomputable def word_period (loop : Tp3) : Option Tp3 :=
  word_period_L2 loop (0 : Int)
theorem word_period_J4_ch (r2 : Nat → Int → Option Tp3) (r2' : Int → Option Tp3) (h_r2 : ∀ a0, ChO (fun κ => r2 κ a0) (r2' a0)) (loop : Tp3) (t : Int) (t_1 : Bool) : ChO (fun κ => word_period_J4 loop t (r2 κ) t_1) (word_period_J4 loop t r2' t_1) := by
  unfold word_period_J4
  repeat' with_reducible first | exact ChO.const _ | exact h_r2 _ | apply ChO.ite | apply ChO.G | apply ChO.both | (apply ChO.bind; intro _)
theorem word_period_L2_B_ch (r2 : Nat → Int → Option Tp3) (r2' : Int → Option Tp3) (h_r2 : ∀ a0, ChO (fun κ => r2 κ a0) (r2' a0)) (loop : Tp3) (t : Int) : ChO (fun κ => word_period_L2_B loop (r2 κ) t) (word_period_L2_B loop r2' t) := by
  unfold word_period_L2_B
  repeat' with_reducible first | exact ChO.const _ | exact h_r2 _ | (apply word_period_J4_ch <;> assumption) | apply ChO.ite | apply ChO.G | apply ChO.both | (apply ChO.bind; intro _)
theorem word_period_L2_cn  (loop : Tp3) : Cn (word_period_L2_F loop) := fun g h hg x => word_period_L2_B_ch  (fun κ t => g κ t) (fun t => h t) (fun t => hg t) loop x
theorem word_period_L2_eq  (loop : Tp3) (t : Int) : word_period_L2 loop t = word_period_L2_B loop (word_period_L2 loop) t := LFix_eq (word_period_L2_cn loop) t

noncomputable def word_at (l : Tp1) (n : Int) : Option (Int) :=
  if (decide (n < (l.1.length : Int))) = true then
  G (0 ≤ n ∧ n < (l.1.length : Int)) (
  some (ix l.1 n)) else
  G (fits (n - (l.1.length : Int))) (
  G ((l.2.1.length : Int) ≠ 0) (
  G (0 ≤ Int.tmod (n - (l.1.length : Int)) (l.2.1.length : Int) ∧ Int.tmod (n - (l.1.length : Int)) (l.2.1.length : Int) < (l.2.1.length : Int)) (
  some (ix l.2.1 (Int.tmod (n - (l.1.length : Int)) (l.2.1.length : Int))))))

noncomputable def word_normal_J4 (l : Tp1) (head : Tp3) (r2 : (Tp3 → Tp3 → Option Tp2)) (loop_1 : Tp3) : Option Tp2 :=
  (word_at (l.1, (l.2.1, ())) ((head.take ((head.length : Int) - (1 : Int)).toNat).length : Int)).bind (fun y'_4 =>
  G (0 ≤ (0 : Int) ∧ (0 : Int) < (loop_1.length : Int)) (
  G (((0 : Int)).toNat < loop_1.length) (
  r2 (head.take ((head.length : Int) - (1 : Int)).toNat) (loop_1.set ((0 : Int)).toNat y'_4))))
noncomputable def word_normal_L2_B (l : Tp1) (r2 : Tp3 → Tp3 → Option Tp2) (head : Tp3) (loop : Tp3) : Option Tp2 :=
  if (decide ((0 : Int) < (head.length : Int))) = true then
  G (fits ((head.length : Int) - (1 : Int))) (
  G (0 ≤ (head.length : Int) - (1 : Int) ∧ (head.length : Int) - (1 : Int) < (head.length : Int)) (
  G (((head.length : Int) - (1 : Int)).toNat < head.length) (
  G (fits ((loop.length : Int) - (1 : Int))) (
  G (0 ≤ (loop.length : Int) - (1 : Int) ∧ (loop.length : Int) - (1 : Int) < (loop.length : Int)) (
  G (((loop.length : Int) - (1 : Int)).toNat < loop.length) (
  if (decide ((ix head ((head.length : Int) - (1 : Int))) = (ix loop ((loop.length : Int) - (1 : Int))))) = true then
  G (fits ((head.length : Int) - (1 : Int))) (
  G (0 ≤ (head.length : Int) - (1 : Int) ∧ (head.length : Int) - (1 : Int) ≤ (head.length : Int)) (
  G (0 ≤ (1 : Int) ∧ (1 : Int) ≤ (loop.length : Int)) (
  (slices_Clone loop).bind (fun y'_3 =>
  G ((((1 : Int)).toNat) + (loop.length - ((1 : Int)).toNat) ≤ loop.length) (
  word_normal_J4 l head r2 (loop.take (((1 : Int)).toNat) ++ y'_3.take (min y'_3.length (loop.length - ((1 : Int)).toNat)) ++ loop.drop ((((1 : Int)).toNat) + (min y'_3.length (loop.length - ((1 : Int)).toNat))))))))) else
  some (head, loop))))))) else
  some (head, loop)
noncomputable def word_normal_L2_F (l : Tp1) : (Tp3 × Tp3 → Option Tp2) → Tp3 × Tp3 → Option Tp2 :=
  fun rec x => word_normal_L2_B l (fun head loop => rec (head, loop)) x.1 x.2
noncomputable def word_normal_L2 (l : Tp1) (head : Tp3) (loop : Tp3) : Option Tp2 := LFix (word_normal_L2_F l ) (head, loop)
noncomputable def word_normal (l : Tp1) : Option Tp2 :=
  (slices_Clone l.1).bind (fun y' =>
  (word_period l.2.1).bind (fun y'_1 =>
  (slices_Clone y'_1).bind (fun y'_2 =>
  word_normal_L2 l y' y'_2)))
theorem word_normal_J4_ch (r2 : Nat → Tp3 → Tp3 → Option Tp2) (r2' : Tp3 → Tp3 → Option Tp2) (h_r2 : ∀ a0 a1, ChO (fun κ => r2 κ a0 a1) (r2' a0 a1)) (l : Tp1) (head : Tp3) (loop_1 : Tp3) : ChO (fun κ => word_normal_J4 l head (r2 κ) loop_1) (word_normal_J4 l head r2' loop_1) := by
  unfold word_normal_J4
  repeat' with_reducible first | exact ChO.const _ | exact h_r2 _ _ | apply ChO.ite | apply ChO.G | apply ChO.both | (apply ChO.bind; intro _)
theorem word_normal_L2_B_ch (r2 : Nat → Tp3 → Tp3 → Option Tp2) (r2' : Tp3 → Tp3 → Option Tp2) (h_r2 : ∀ a0 a1, ChO (fun κ => r2 κ a0 a1) (r2' a0 a1)) (l : Tp1) (head : Tp3) (loop : Tp3) : ChO (fun κ => word_normal_L2_B l (r2 κ) head loop) (word_normal_L2_B l r2' head loop) := by
  unfold word_normal_L2_B
  repeat' with_reducible first | exact ChO.const _ | exact h_r2 _ _ | (apply word_normal_J4_ch <;> assumption) | apply ChO.ite | apply ChO.G | apply ChO.both | (apply ChO.bind; intro _)
theorem word_normal_L2_cn  (l : Tp1) : Cn (word_normal_L2_F l) := fun g h hg x => word_normal_L2_B_ch  (fun κ head loop => g κ (head, loop)) (fun head loop => h (head, loop)) (fun head loop => hg (head, loop)) l x.1 x.2
theorem word_normal_L2_eq  (l : Tp1) (head : Tp3) (loop : Tp3) : word_normal_L2 l head loop = word_normal_L2_B l (word_normal_L2 l) head loop := LFix_eq (word_normal_L2_cn l) (head, loop)

noncomputable def word_Normal (l : Tp1) : Option (Tp3 × Tp3 × Int) :=
  (word_Lasso (4 : Int) (l.1, (l.2.1, ()))).bind (fun y' =>
  if (decide (¬ y' = (0 : Int))) = true then
  some (([] : List Int), ([] : List Int), y') else
  (word_normal (l.1, (l.2.1, ()))).bind (fun y'_4 =>
  some (y'_4.1, y'_4.2, (0 : Int))))

noncomputable def word_Rest (l : Tp1) (n : Int) : Option (Tp3 × Tp3 × Int) :=
  (word_Lasso (4 : Int) (l.1, (l.2.1, ()))).bind (fun y' =>
  if (decide (¬ y' = (0 : Int))) = true then
  some (([] : List Int), ([] : List Int), y') else
  if (decide (n < (0 : Int))) = true then
  some (([] : List Int), ([] : List Int), (2 : Int)) else
  if (decide (n < (l.1.length : Int))) = true then
  G (0 ≤ n ∧ n ≤ (l.1.length : Int) ∧ (l.1.length : Int) ≤ (l.1.length : Int)) (
  (word_normal (cut l.1 n (l.1.length : Int), (l.2.1, ()))).bind (fun y'_4 =>
  some (y'_4.1, y'_4.2, (0 : Int)))) else
  G (fits (n - (l.1.length : Int))) (
  G ((l.2.1.length : Int) ≠ 0) (
  G (0 ≤ Int.tmod (n - (l.1.length : Int)) (l.2.1.length : Int) ∧ Int.tmod (n - (l.1.length : Int)) (l.2.1.length : Int) ≤ (l.2.1.length : Int) ∧ (l.2.1.length : Int) ≤ (l.2.1.length : Int)) (
  G (0 ≤ (0 : Int) ∧ (0 : Int) ≤ Int.tmod (n - (l.1.length : Int)) (l.2.1.length : Int) ∧ Int.tmod (n - (l.1.length : Int)) (l.2.1.length : Int) ≤ (l.2.1.length : Int)) (
  (slices_Clone (cut l.2.1 (Int.tmod (n - (l.1.length : Int)) (l.2.1.length : Int)) (l.2.1.length : Int))).bind (fun y'_5 =>
  G (room y'_5 (cut l.2.1 (0 : Int) (Int.tmod (n - (l.1.length : Int)) (l.2.1.length : Int))) 8) (
  (word_normal ([], (y'_5 ++ (cut l.2.1 (0 : Int) (Int.tmod (n - (l.1.length : Int)) (l.2.1.length : Int))), ()))).bind (fun y'_9 =>
  some (y'_9.1, y'_9.2, (0 : Int))))))))))

noncomputable def r1_Words_L4_B (a : Tp3) (b : Tp3) (r4 : Int → Option (Bool)) (i : Int) : Option (Bool) :=
  if (decide (i < (a.length : Int))) = true then
  G (0 ≤ i ∧ i < (a.length : Int)) (
  G (0 ≤ i ∧ i < (b.length : Int)) (
  if (decide (¬ (ix a i) = (ix b i))) = true then
  some false else
  G (fits (i + (1 : Int))) (
  r4 (i + (1 : Int))))) else
  some true
noncomputable def r1_Words_L4_F (a : Tp3) (b : Tp3) : (Int → Option (Bool)) → Int → Option (Bool) :=
  fun rec x => r1_Words_L4_B a b (fun i => rec i) x
noncomputable def r1_Words_L4 (a : Tp3) (b : Tp3) (i : Int) : Option (Bool) := LFix (r1_Words_L4_F a b ) i
noncomputable def r1_Words (a : Tp3) (b : Tp3) : Option (Bool) :=
  if (decide (¬ (a.length : Int) = (b.length : Int))) = true then
  some false else
  r1_Words_L4 a b (0 : Int)
theorem r1_Words_L4_B_ch (r4 : Nat → Int → Option (Bool)) (r4' : Int → Option (Bool)) (h_r4 : ∀ a0, ChO (fun κ => r4 κ a0) (r4' a0)) (a : Tp3) (b : Tp3) (i : Int) : ChO (fun κ => r1_Words_L4_B a b (r4 κ) i) (r1_Words_L4_B a b r4' i) := by
  unfold r1_Words_L4_B
  repeat' with_reducible first | exact ChO.const _ | exact h_r4 _ | apply ChO.ite | apply ChO.G | apply ChO.both | (apply ChO.bind; intro _)
theorem r1_Words_L4_cn  (a : Tp3) (b : Tp3) : Cn (r1_Words_L4_F a b) := fun g h hg x => r1_Words_L4_B_ch  (fun κ i => g κ i) (fun i => h i) (fun i => hg i) a b x
theorem r1_Words_L4_eq  (a : Tp3) (b : Tp3) (i : Int) : r1_Words_L4 a b i = r1_Words_L4_B a b (r1_Words_L4 a b) i := LFix_eq (r1_Words_L4_cn a b) i

noncomputable def r1_Alike (a : Tp1) (b : Tp1) : Option (Bool) :=
  (r1_Words a.1 b.1).bind (fun y' =>
  (r1_Words a.2.1 b.2.1).bind (fun y'_1 =>
  if y' = true then
  some y'_1 else
  some false))

noncomputable def r1_May_L6_B (letters : Int) (w : Tp3) (r6 : Int → Option (Int)) (i : Int) : Option (Int) :=
  if (decide (i < (w.length : Int))) = true then
  G (0 ≤ i ∧ i < (w.length : Int)) (
  if (decide ((ix w i) < (0 : Int))) = true then
  some (2 : Int) else
  G (0 ≤ i ∧ i < (w.length : Int)) (
  if (decide (letters ≤ (ix w i))) = true then
  some (2 : Int) else
  G (fits (i + (1 : Int))) (
  r6 (i + (1 : Int))))) else
  some (0 : Int)
noncomputable def r1_May_L6_F (letters : Int) (w : Tp3) : (Int → Option (Int)) → Int → Option (Int) :=
  fun rec x => r1_May_L6_B letters w (fun i => rec i) x
noncomputable def r1_May_L6 (letters : Int) (w : Tp3) (i : Int) : Option (Int) := LFix (r1_May_L6_F letters w ) i
noncomputable def r1_May (letters : Int) (w : Tp3) : Option (Int) :=
  if (decide (letters < (1 : Int))) = true then
  some (2 : Int) else
  if (decide ((4 : Int) < letters)) = true then
  some (2 : Int) else
  if (decide ((60 : Int) < (w.length : Int))) = true then
  some (1 : Int) else
  r1_May_L6 letters w (0 : Int)
theorem r1_May_L6_B_ch (r6 : Nat → Int → Option (Int)) (r6' : Int → Option (Int)) (h_r6 : ∀ a0, ChO (fun κ => r6 κ a0) (r6' a0)) (letters : Int) (w : Tp3) (i : Int) : ChO (fun κ => r1_May_L6_B letters w (r6 κ) i) (r1_May_L6_B letters w r6' i) := by
  unfold r1_May_L6_B
  repeat' with_reducible first | exact ChO.const _ | exact h_r6 _ | apply ChO.ite | apply ChO.G | apply ChO.both | (apply ChO.bind; intro _)
theorem r1_May_L6_cn  (letters : Int) (w : Tp3) : Cn (r1_May_L6_F letters w) := fun g h hg x => r1_May_L6_B_ch  (fun κ i => g κ i) (fun i => h i) (fun i => hg i) letters w x
theorem r1_May_L6_eq  (letters : Int) (w : Tp3) (i : Int) : r1_May_L6 letters w i = r1_May_L6_B letters w (r1_May_L6 letters w) i := LFix_eq (r1_May_L6_cn letters w) i

noncomputable def r1_Lasso (letters : Int) (l : Tp1) : Option (Int) :=
  (r1_May letters l.1).bind (fun y' =>
  if (decide (¬ y' = (0 : Int))) = true then
  some y' else
  (r1_May letters l.2.1).bind (fun y'_1 =>
  if (decide (¬ y'_1 = (0 : Int))) = true then
  some y'_1 else
  if (decide ((l.2.1.length : Int) = (0 : Int))) = true then
  some (1 : Int) else
  some (0 : Int)))

noncomputable def law_noLasso (l : Tp1) : Option (Bool) :=
  G (fits ((l.1.length : Int) + (l.2.1.length : Int))) (
  some (decide (((l.1.length : Int) + (l.2.1.length : Int)) = (0 : Int))))

noncomputable def r1_At (l : Tp1) (n : Int) : Option (Int) :=
  if (decide (n < (l.1.length : Int))) = true then
  G (0 ≤ n ∧ n < (l.1.length : Int)) (
  some (ix l.1 n)) else
  G (fits (n - (l.1.length : Int))) (
  G ((l.2.1.length : Int) ≠ 0) (
  G (0 ≤ Int.tmod (n - (l.1.length : Int)) (l.2.1.length : Int) ∧ Int.tmod (n - (l.1.length : Int)) (l.2.1.length : Int) < (l.2.1.length : Int)) (
  some (ix l.2.1 (Int.tmod (n - (l.1.length : Int)) (l.2.1.length : Int))))))

noncomputable def r1_Part_L3_B (l : Tp1) (from' : Int) (head : Int) (loop : Int) (r3 : Int → Tp3 → Tp3 → Option Tp1) (i : Int) (out : Tp3) (out_1 : Tp3) : Option Tp1 :=
  G (fits (head + loop)) (
  if (decide (i < (head + loop))) = true then
  G (fits (from' + i)) (
  (r1_At (l.1, (l.2.1, ())) (from' + i)).bind (fun y' =>
  if (decide (i < head)) = true then
  G (room out ([y']) 8) (
  G (fits (i + (1 : Int))) (
  r3 (i + (1 : Int)) (out ++ ([y'])) out_1)) else
  G (room out_1 ([y']) 8) (
  G (fits (i + (1 : Int))) (
  r3 (i + (1 : Int)) out (out_1 ++ ([y'])))))) else
  some (out, (out_1, ())))
noncomputable def r1_Part_L3_F (l : Tp1) (from' : Int) (head : Int) (loop : Int) : (Int × Tp3 × Tp3 → Option Tp1) → Int × Tp3 × Tp3 → Option Tp1 :=
  fun rec x => r1_Part_L3_B l from' head loop (fun i out out_1 => rec (i, out, out_1)) x.1 x.2.1 x.2.2
noncomputable def r1_Part_L3 (l : Tp1) (from' : Int) (head : Int) (loop : Int) (i : Int) (out : Tp3) (out_1 : Tp3) : Option Tp1 := LFix (r1_Part_L3_F l from' head loop ) (i, out, out_1)
noncomputable def r1_Part (l : Tp1) (from' : Int) (head : Int) (loop : Int) : Option Tp1 :=
  r1_Part_L3 l from' head loop (0 : Int) ([] : List Int) ([] : List Int)
theorem r1_Part_L3_B_ch (r3 : Nat → Int → Tp3 → Tp3 → Option Tp1) (r3' : Int → Tp3 → Tp3 → Option Tp1) (h_r3 : ∀ a0 a1 a2, ChO (fun κ => r3 κ a0 a1 a2) (r3' a0 a1 a2)) (l : Tp1) (from' : Int) (head : Int) (loop : Int) (i : Int) (out : Tp3) (out_1 : Tp3) : ChO (fun κ => r1_Part_L3_B l from' head loop (r3 κ) i out out_1) (r1_Part_L3_B l from' head loop r3' i out out_1) := by
  unfold r1_Part_L3_B
  repeat' with_reducible first | exact ChO.const _ | exact h_r3 _ _ _ | apply ChO.ite | apply ChO.G | apply ChO.both | (apply ChO.bind; intro _)
theorem r1_Part_L3_cn  (l : Tp1) (from' : Int) (head : Int) (loop : Int) : Cn (r1_Part_L3_F l from' head loop) := fun g h hg x => r1_Part_L3_B_ch  (fun κ i out out_1 => g κ (i, out, out_1)) (fun i out out_1 => h (i, out, out_1)) (fun i out out_1 => hg (i, out, out_1)) l from' head loop x.1 x.2.1 x.2.2
theorem r1_Part_L3_eq  (l : Tp1) (from' : Int) (head : Int) (loop : Int) (i : Int) (out : Tp3) (out_1 : Tp3) : r1_Part_L3 l from' head loop i out out_1 = r1_Part_L3_B l from' head loop (r1_Part_L3 l from' head loop) i out out_1 := LFix_eq (r1_Part_L3_cn l from' head loop) (i, out, out_1)

noncomputable def r1_Same_L3_B (a : Tp1) (b : Tp1) (r3 : Int → Option (Bool)) (i : Int) : Option (Bool) :=
  if (decide (i < ((((a.1.length : Int) + (b.1.length : Int)) + (a.2.1.length : Int)) + (b.2.1.length : Int)))) = true then
  (r1_At (a.1, (a.2.1, ())) i).bind (fun y' =>
  (r1_At (b.1, (b.2.1, ())) i).bind (fun y'_1 =>
  if (decide (¬ y' = y'_1)) = true then
  some false else
  G (fits (i + (1 : Int))) (
  r3 (i + (1 : Int))))) else
  some true
noncomputable def r1_Same_L3_F (a : Tp1) (b : Tp1) : (Int → Option (Bool)) → Int → Option (Bool) :=
  fun rec x => r1_Same_L3_B a b (fun i => rec i) x
noncomputable def r1_Same_L3 (a : Tp1) (b : Tp1) (i : Int) : Option (Bool) := LFix (r1_Same_L3_F a b ) i
noncomputable def r1_Same (a : Tp1) (b : Tp1) : Option (Bool) :=
  G (fits ((a.1.length : Int) + (b.1.length : Int))) (
  G (fits (((a.1.length : Int) + (b.1.length : Int)) + (a.2.1.length : Int))) (
  G (fits ((((a.1.length : Int) + (b.1.length : Int)) + (a.2.1.length : Int)) + (b.2.1.length : Int))) (
  r1_Same_L3 a b (0 : Int))))
theorem r1_Same_L3_B_ch (r3 : Nat → Int → Option (Bool)) (r3' : Int → Option (Bool)) (h_r3 : ∀ a0, ChO (fun κ => r3 κ a0) (r3' a0)) (a : Tp1) (b : Tp1) (i : Int) : ChO (fun κ => r1_Same_L3_B a b (r3 κ) i) (r1_Same_L3_B a b r3' i) := by
  unfold r1_Same_L3_B
  repeat' with_reducible first | exact ChO.const _ | exact h_r3 _ | apply ChO.ite | apply ChO.G | apply ChO.both | (apply ChO.bind; intro _)
theorem r1_Same_L3_cn  (a : Tp1) (b : Tp1) : Cn (r1_Same_L3_F a b) := fun g h hg x => r1_Same_L3_B_ch  (fun κ i => g κ i) (fun i => h i) (fun i => hg i) a b x
theorem r1_Same_L3_eq  (a : Tp1) (b : Tp1) (i : Int) : r1_Same_L3 a b i = r1_Same_L3_B a b (r1_Same_L3 a b) i := LFix_eq (r1_Same_L3_cn a b) i

noncomputable def r1_Least_L8_B (l : Tp1) (from'_1 : Int) (y' : Tp1) (head : Int) (r5 : (Int → Option Tp1)) (r8 : Int → Option Tp1) (loop : Int) : Option Tp1 :=
  if (decide (loop ≤ (l.2.1.length : Int))) = true then
  (r1_Part (l.1, (l.2.1, ())) from'_1 head loop).bind (fun y'_1 =>
  (r1_Same (y'_1.1, (y'_1.2.1, ())) (y'.1, (y'.2.1, ()))).bind (fun y'_2 =>
  if y'_2 = true then
  some (y'_1.1, (y'_1.2.1, ())) else
  G (fits (loop + (1 : Int))) (
  r8 (loop + (1 : Int))))) else
  G (fits (head + (1 : Int))) (
  r5 (head + (1 : Int)))
noncomputable def r1_Least_L8_F (l : Tp1) (from'_1 : Int) (y' : Tp1) (head : Int) (r5 : (Int → Option Tp1)) : (Int → Option Tp1) → Int → Option Tp1 :=
  fun rec x => r1_Least_L8_B l from'_1 y' head r5 (fun loop => rec loop) x
noncomputable def r1_Least_L8 (l : Tp1) (from'_1 : Int) (y' : Tp1) (head : Int) (r5 : (Int → Option Tp1)) (loop : Int) : Option Tp1 := LFix (r1_Least_L8_F l from'_1 y' head r5 ) loop
noncomputable def r1_Least_L5_B (l : Tp1) (from'_1 : Int) (y' : Tp1) (r5 : Int → Option Tp1) (head : Int) : Option Tp1 :=
  if (decide (head ≤ (l.1.length : Int))) = true then
  r1_Least_L8 l from'_1 y' head r5 (1 : Int) else
  some (y'.1, (y'.2.1, ()))
noncomputable def r1_Least_L5_F (l : Tp1) (from'_1 : Int) (y' : Tp1) : (Int → Option Tp1) → Int → Option Tp1 :=
  fun rec x => r1_Least_L5_B l from'_1 y' (fun head => rec head) x
noncomputable def r1_Least_L5 (l : Tp1) (from'_1 : Int) (y' : Tp1) (head : Int) : Option Tp1 := LFix (r1_Least_L5_F l from'_1 y' ) head
noncomputable def r1_Least_J2 (l : Tp1) (from'_1 : Int) : Option Tp1 :=
  (r1_Part (l.1, (l.2.1, ())) from'_1 (l.1.length : Int) (l.2.1.length : Int)).bind (fun y' =>
  r1_Least_L5 l from'_1 y' (0 : Int))
noncomputable def r1_Least (l : Tp1) (from' : Int) : Option Tp1 :=
  if (decide ((l.1.length : Int) < from')) = true then
  G (fits (from' - (l.1.length : Int))) (
  G ((l.2.1.length : Int) ≠ 0) (
  G (fits ((l.1.length : Int) + (Int.tmod (from' - (l.1.length : Int)) (l.2.1.length : Int)))) (
  r1_Least_J2 l ((l.1.length : Int) + (Int.tmod (from' - (l.1.length : Int)) (l.2.1.length : Int)))))) else
  r1_Least_J2 l from'
theorem r1_Least_L8_B_ch (r5 : Nat → Int → Option Tp1) (r5' : Int → Option Tp1) (h_r5 : ∀ a0, ChO (fun κ => r5 κ a0) (r5' a0)) (r8 : Nat → Int → Option Tp1) (r8' : Int → Option Tp1) (h_r8 : ∀ a0, ChO (fun κ => r8 κ a0) (r8' a0)) (l : Tp1) (from'_1 : Int) (y' : Tp1) (head : Int) (loop : Int) : ChO (fun κ => r1_Least_L8_B l from'_1 y' head (r5 κ) (r8 κ) loop) (r1_Least_L8_B l from'_1 y' head r5' r8' loop) := by
  unfold r1_Least_L8_B
  repeat' with_reducible first | exact ChO.const _ | exact h_r5 _ | exact h_r8 _ | apply ChO.ite | apply ChO.G | apply ChO.both | (apply ChO.bind; intro _)
theorem r1_Least_L8_cn (r5 : Int → Option Tp1) (l : Tp1) (from'_1 : Int) (y' : Tp1) (head : Int) : Cn (r1_Least_L8_F l from'_1 y' head r5) := fun g h hg x => r1_Least_L8_B_ch (fun _ => r5) r5 (fun _ => ChO.const _) (fun κ loop => g κ loop) (fun loop => h loop) (fun loop => hg loop) l from'_1 y' head x
theorem r1_Least_L8_eq (r5 : Int → Option Tp1) (l : Tp1) (from'_1 : Int) (y' : Tp1) (head : Int) (loop : Int) : r1_Least_L8 l from'_1 y' head r5 loop = r1_Least_L8_B l from'_1 y' head r5 (r1_Least_L8 l from'_1 y' head r5) loop := LFix_eq (r1_Least_L8_cn r5 l from'_1 y' head) loop
theorem r1_Least_L8_ch (r5 : Nat → Int → Option Tp1) (r5' : Int → Option Tp1) (h_r5 : ∀ a0, ChO (fun κ => r5 κ a0) (r5' a0)) (l : Tp1) (from'_1 : Int) (y' : Tp1) (head : Int) (loop : Int) : ChO (fun κ => r1_Least_L8 l from'_1 y' head (r5 κ) loop) (r1_Least_L8 l from'_1 y' head r5' loop) := by
  unfold r1_Least_L8
  exact LFix_ch (fun κ => (r1_Least_L8_cn (r5 κ) l from'_1 y' head).mono) (r1_Least_L8_cn r5' l from'_1 y' head).mono (fun g h hg x => r1_Least_L8_B_ch r5 r5' h_r5 (fun κ loop => g κ loop) (fun loop => h loop) (fun loop => hg loop) l from'_1 y' head x) _
theorem r1_Least_L5_B_ch (r5 : Nat → Int → Option Tp1) (r5' : Int → Option Tp1) (h_r5 : ∀ a0, ChO (fun κ => r5 κ a0) (r5' a0)) (l : Tp1) (from'_1 : Int) (y' : Tp1) (head : Int) : ChO (fun κ => r1_Least_L5_B l from'_1 y' (r5 κ) head) (r1_Least_L5_B l from'_1 y' r5' head) := by
  unfold r1_Least_L5_B
  repeat' with_reducible first | exact ChO.const _ | exact h_r5 _ | (apply r1_Least_L8_ch <;> assumption) | apply ChO.ite | apply ChO.G | apply ChO.both | (apply ChO.bind; intro _)
theorem r1_Least_L5_cn  (l : Tp1) (from'_1 : Int) (y' : Tp1) : Cn (r1_Least_L5_F l from'_1 y') := fun g h hg x => r1_Least_L5_B_ch  (fun κ head => g κ head) (fun head => h head) (fun head => hg head) l from'_1 y' x
theorem r1_Least_L5_eq  (l : Tp1) (from'_1 : Int) (y' : Tp1) (head : Int) : r1_Least_L5 l from'_1 y' head = r1_Least_L5_B l from'_1 y' (r1_Least_L5 l from'_1 y') head := LFix_eq (r1_Least_L5_cn l from'_1 y') head

noncomputable def law_noLasso_1 (l : Tp3) (l_1 : Tp3) : Option (Bool × Tp3 × Tp3) :=
  G (fits ((l.length : Int) + (l_1.length : Int))) (
  some (decide (((l.length : Int) + (l_1.length : Int)) = (0 : Int)), l, l_1))

noncomputable def r1_Alike_1 (b : Tp1) (l : Tp3) (l_1 : Tp3) : Option (Bool × Tp3 × Tp3) :=
  (r1_Words l b.1).bind (fun y' =>
  (r1_Words l_1 b.2.1).bind (fun y'_1 =>
  if y' = true then
  some (y'_1, l, l_1) else
  some (false, l, l_1)))

noncomputable def law_spoil_2 (l : List Int) : Option Unit := some ()

noncomputable def law_WordNormal (a : Tp1) (n : Int) : Option (Bool) :=
  (law_lasso (a.1, (a.2.1, ()))).bind (fun y' =>
  (word_Normal (y'.1, (y'.2.1, ()))).bind (fun y'_35 =>
  (word_Rest (y'.1, (y'.2.1, ())) n).bind (fun y'_34 =>
  (r1_Alike (y'.1, (y'.2.1, ())) (a.1, (a.2.1, ()))).bind (fun y'_9 =>
  (r1_Lasso (4 : Int) (a.1, (a.2.1, ()))).bind (fun y'_10 =>
  (law_noLasso_1 y'_35.1 y'_35.2.1).bind (fun y'_33 =>
  (law_noLasso_1 y'_34.1 y'_34.2.1).bind (fun y'_32 =>
  if (!y'_9) = true then
  some false else
  if (decide (¬ y'_10 = (0 : Int))) = true then
  if (decide (y'_35.2.2 = y'_10)) = true then
  if (decide (y'_34.2.2 = y'_10)) = true then
  if y'_33.1 = true then
  some y'_32.1 else
  some false else
  some false else
  some false else
  (r1_Least (a.1, (a.2.1, ())) (0 : Int)).bind (fun y'_19 =>
  (r1_Alike_1 (y'_19.1, (y'_19.2.1, ())) y'_33.2.1 y'_33.2.2).bind (fun y'_31 =>
  if (decide (¬ y'_35.2.2 = (0 : Int))) = true then
  some false else
  if (!y'_31.1) = true then
  some false else
  if (decide (n < (0 : Int))) = true then
  if (decide (y'_34.2.2 = (2 : Int))) = true then
  some y'_32.1 else
  some false else
  (r1_Least (a.1, (a.2.1, ())) n).bind (fun y'_24 =>
  (r1_Alike_1 (y'_24.1, (y'_24.2.1, ())) y'_32.2.1 y'_32.2.2).bind (fun y'_30 =>
  (law_spoil_2 y'_30.2.1).bind (fun _ =>
  (law_spoil_2 y'_30.2.2).bind (fun _ =>
  (law_spoil_2 y'_31.2.1).bind (fun _ =>
  (law_spoil_2 y'_31.2.2).bind (fun _ =>
  (r1_Alike (y'.1, (y'.2.1, ())) (a.1, (a.2.1, ()))).bind (fun y'_29 =>
  if (decide (y'_34.2.2 = (0 : Int))) = true then
  if y'_30.1 = true then
  some y'_29 else
  some false else
  some false))))))))))))))))

end Go.Proofs.Ytnifconnkohabaa.wordNormalW
