/- What the functions that 'EhrenWins' reaches compute: plain functions. -/
import Derived.Test.YtmnpdkeigdaelaaEv23n21
set_option maxHeartbeats 1000000
set_option maxRecDepth 20000
set_option linter.unusedSimpArgs false
set_option linter.unusedVariables false
set_option linter.unusedSectionVars false
namespace Go.Proofs.Ytmnpdkeigdaelaa.ehrenWinsW
open Go Go.Ab
abbrev Tp1 := ((List Int) × (List Int) × (List Int) × (List Int) × Unit)
noncomputable def word_May_L6_B (letters : Int) (w : (List Int)) (r6 : Int → Option (Int)) (t : Int) : Option (Int) :=
  if (decide (t < (w.length : Int))) = true then
  G (0 ≤ t ∧ t < (w.length : Int)) (
  if (decide ((ix w t) < (0 : Int))) = true then
  some (2 : Int) else
  if (decide (letters ≤ (ix w t))) = true then
  some (2 : Int) else
  G (fits (t + (1 : Int))) (
  r6 (t + (1 : Int)))) else
  some (0 : Int)
noncomputable def word_May_L6_F (letters : Int) (w : (List Int)) : (Int → Option (Int)) → Int → Option (Int) :=
  fun rec x => word_May_L6_B letters w (fun t => rec t) x
noncomputable def word_May_L6 (letters : Int) (w : (List Int)) (t : Int) : Option (Int) := LFix (word_May_L6_F letters w ) t
noncomputable def word_May (letters : Int) (w : (List Int)) : Option (Int) :=
  if (decide (letters < (1 : Int))) = true then
  some (2 : Int) else
  if (decide ((4 : Int) < letters)) = true then
  some (2 : Int) else
  if (decide ((60 : Int) < (w.length : Int))) = true then
  some (1 : Int) else
  word_May_L6 letters w (0 : Int)
theorem word_May_L6_B_ch (r6 : Nat → Int → Option (Int)) (r6' : Int → Option (Int)) (h_r6 : ∀ a0, ChO (fun κ => r6 κ a0) (r6' a0)) (letters : Int) (w : (List Int)) (t : Int) : ChO (fun κ => word_May_L6_B letters w (r6 κ) t) (word_May_L6_B letters w r6' t) := by
  unfold word_May_L6_B
  repeat' with_reducible first | exact ChO.const _ | exact h_r6 _ | apply ChO.ite | apply ChO.G | apply ChO.both | (apply ChO.bind; intro _)
theorem word_May_L6_cn  (letters : Int) (w : (List Int)) : Cn (word_May_L6_F letters w) := fun g h hg x => word_May_L6_B_ch  (fun κ t => g κ t) (fun t => h t) (fun t => hg t) letters w x
theorem word_May_L6_eq  (letters : Int) (w : (List Int)) (t : Int) : word_May_L6 letters w t = word_May_L6_B letters w (word_May_L6 letters w) t := LFix_eq (word_May_L6_cn letters w) t

noncomputable def ehren_checked_L2_B (u : (List Int)) (v : (List Int)) (k : Int) (r2 : Int → Option (Int)) (t : Int) : Option (Int) :=
  if (decide (t < (([u, v]).length : Int))) = true then
  G (0 ≤ t ∧ t < (([u, v]).length : Int)) (
  G ((t).toNat < ([u, v]).length) (
  (word_May (2 : Int) (ix ([u, v]) t)).bind (fun y' =>
  if (decide (¬ y' = (0 : Int))) = true then
  some y' else
  G (fits (t + (1 : Int))) (
  r2 (t + (1 : Int)))))) else
  if (decide ((8 : Int) < (u.length : Int))) = true then
  some (1 : Int) else
  if (decide ((8 : Int) < (v.length : Int))) = true then
  some (1 : Int) else
  if (decide (k < (0 : Int))) = true then
  some (2 : Int) else
  if (decide ((3 : Int) < k)) = true then
  some (2 : Int) else
  some (0 : Int)
noncomputable def ehren_checked_L2_F (u : (List Int)) (v : (List Int)) (k : Int) : (Int → Option (Int)) → Int → Option (Int) :=
  fun rec x => ehren_checked_L2_B u v k (fun t => rec t) x
noncomputable def ehren_checked_L2 (u : (List Int)) (v : (List Int)) (k : Int) (t : Int) : Option (Int) := LFix (ehren_checked_L2_F u v k ) t
noncomputable def ehren_checked (u : (List Int)) (v : (List Int)) (k : Int) : Option (Int) :=
  ehren_checked_L2 u v k (0 : Int)
theorem ehren_checked_L2_B_ch (r2 : Nat → Int → Option (Int)) (r2' : Int → Option (Int)) (h_r2 : ∀ a0, ChO (fun κ => r2 κ a0) (r2' a0)) (u : (List Int)) (v : (List Int)) (k : Int) (t : Int) : ChO (fun κ => ehren_checked_L2_B u v k (r2 κ) t) (ehren_checked_L2_B u v k r2' t) := by
  unfold ehren_checked_L2_B
  repeat' with_reducible first | exact ChO.const _ | exact h_r2 _ | apply ChO.ite | apply ChO.G | apply ChO.both | (apply ChO.bind; intro _)
theorem ehren_checked_L2_cn  (u : (List Int)) (v : (List Int)) (k : Int) : Cn (ehren_checked_L2_F u v k) := fun g h hg x => ehren_checked_L2_B_ch  (fun κ t => g κ t) (fun t => h t) (fun t => hg t) u v k x
theorem ehren_checked_L2_eq  (u : (List Int)) (v : (List Int)) (k : Int) (t : Int) : ehren_checked_L2 u v k t = ehren_checked_L2_B u v k (ehren_checked_L2 u v k) t := LFix_eq (ehren_checked_L2_cn u v k) t

noncomputable def ehren_table_turned (t : Tp1) : Option Tp1 :=
  some (t.2.1, (t.1, (t.2.2.2.1, (t.2.2.1, ()))))

noncomputable def cmp_isNaN (x' : Int) : Option (Bool) :=
  some (decide (¬ x' = x'))

noncomputable def cmp_Compare (x' : Int) (y' : Int) : Option (Int) :=
  (cmp_isNaN x').bind (fun y'_1 =>
  (cmp_isNaN y').bind (fun y'_2 =>
  if y'_1 = true then
  if y'_2 = true then
  some (0 : Int) else
  some (-1 : Int) else
  if y'_2 = true then
  some (1 : Int) else
  if (decide (x' < y')) = true then
  some (-1 : Int) else
  if (decide (y' < x')) = true then
  some (1 : Int) else
  some (0 : Int)))

noncomputable def ehren_table_fits_L4_B (t : Tp1) (p : Int) (q : Int) (r4 : Int → Option (Bool)) (t_1 : Int) : Option (Bool) :=
  if (decide (t_1 < (t.2.2.1.length : Int))) = true then
  G (0 ≤ t_1 ∧ t_1 < (t.2.2.1.length : Int)) (
  G (0 ≤ t_1 ∧ t_1 < (t.2.2.2.1.length : Int)) (
  (cmp_Compare (ix t.2.2.1 t_1) p).bind (fun y' =>
  (cmp_Compare (ix t.2.2.2.1 t_1) q).bind (fun y'_1 =>
  if (decide (¬ y' = y'_1)) = true then
  some false else
  G (fits (t_1 + (1 : Int))) (
  r4 (t_1 + (1 : Int))))))) else
  some true
noncomputable def ehren_table_fits_L4_F (t : Tp1) (p : Int) (q : Int) : (Int → Option (Bool)) → Int → Option (Bool) :=
  fun rec x => ehren_table_fits_L4_B t p q (fun t_1 => rec t_1) x
noncomputable def ehren_table_fits_L4 (t : Tp1) (p : Int) (q : Int) (t_1 : Int) : Option (Bool) := LFix (ehren_table_fits_L4_F t p q ) t_1
noncomputable def ehren_table_fits (t : Tp1) (p : Int) (q : Int) : Option (Bool) :=
  G (0 ≤ p ∧ p < (t.1.length : Int)) (
  G (0 ≤ q ∧ q < (t.2.1.length : Int)) (
  if (decide (¬ (ix t.1 p) = (ix t.2.1 q))) = true then
  some false else
  ehren_table_fits_L4 t p q (0 : Int)))
theorem ehren_table_fits_L4_B_ch (r4 : Nat → Int → Option (Bool)) (r4' : Int → Option (Bool)) (h_r4 : ∀ a0, ChO (fun κ => r4 κ a0) (r4' a0)) (t : Tp1) (p : Int) (q : Int) (t_1 : Int) : ChO (fun κ => ehren_table_fits_L4_B t p q (r4 κ) t_1) (ehren_table_fits_L4_B t p q r4' t_1) := by
  unfold ehren_table_fits_L4_B
  repeat' with_reducible first | exact ChO.const _ | exact h_r4 _ | apply ChO.ite | apply ChO.G | apply ChO.both | (apply ChO.bind; intro _)
theorem ehren_table_fits_L4_cn  (t : Tp1) (p : Int) (q : Int) : Cn (ehren_table_fits_L4_F t p q) := fun g h hg x => ehren_table_fits_L4_B_ch  (fun κ t_1 => g κ t_1) (fun t_1 => h t_1) (fun t_1 => hg t_1) t p q x
theorem ehren_table_fits_L4_eq  (t : Tp1) (p : Int) (q : Int) (t_1 : Int) : ehren_table_fits_L4 t p q t_1 = ehren_table_fits_L4_B t p q (ehren_table_fits_L4 t p q) t_1 := LFix_eq (ehren_table_fits_L4_cn t p q) t_1

noncomputable def slices_Clone (s : (List Int)) : Option (List Int) :=
  if s.length = 0 then both [(.list (.int .i64))] (
  some ([])) (
  G (room ([] : List Int) s 8) (
  some (([] : List Int) ++ s))) else
  G (room ([] : List Int) s 8) (
  some (([] : List Int) ++ s))

noncomputable def ehren_table_with (t : Tp1) (p : Int) (q : Int) : Option Tp1 :=
  both [(.pair (.list (.int .i64)) (.pair (.list (.int .i64)) (.pair (.list (.int .i64)) (.pair (.list (.int .i64)) .unit))))] (
  (slices_Clone t.2.2.1).bind (fun y' =>
  both [(.pair (.list (.int .i64)) (.pair (.list (.int .i64)) (.pair (.list (.int .i64)) (.pair (.list (.int .i64)) .unit))))] (
  both [(.pair (.list (.int .i64)) (.pair (.list (.int .i64)) (.pair (.list (.int .i64)) (.pair (.list (.int .i64)) .unit))))] (
  G (room y' ([p]) 8) (
  both [(.pair (.list (.int .i64)) (.pair (.list (.int .i64)) (.pair (.list (.int .i64)) (.pair (.list (.int .i64)) .unit))))] (
  (slices_Clone t.2.2.2.1).bind (fun y'_1 =>
  G (room y'_1 ([q]) 8) (
  some (t.1, (t.2.1, (y' ++ ([p]), (y'_1 ++ ([q]), ()))))))) (
  (slices_Clone t.2.2.2.1).bind (fun y'_2 =>
  G (room y'_2 ([q]) 8) (
  some (t.1, (t.2.1, (y' ++ ([p]), (y'_2 ++ ([q]), ()))))))))) (
  G (room y' ([p]) 8) (
  (slices_Clone t.2.2.2.1).bind (fun y'_3 =>
  G (room y'_3 ([q]) 8) (
  some (t.1, (t.2.1, (y' ++ ([p]), (y'_3 ++ ([q]), ()))))))))) (
  G (room y' ([p]) 8) (
  (slices_Clone t.2.2.2.1).bind (fun y'_4 =>
  G (room y'_4 ([q]) 8) (
  some (t.1, (t.2.1, (y' ++ ([p]), (y'_4 ++ ([q]), ())))))))))) (
  both [(.pair (.list (.int .i64)) (.pair (.list (.int .i64)) (.pair (.list (.int .i64)) (.pair (.list (.int .i64)) .unit))))] (
  both [(.pair (.list (.int .i64)) (.pair (.list (.int .i64)) (.pair (.list (.int .i64)) (.pair (.list (.int .i64)) .unit))))] (
  (slices_Clone t.2.2.1).bind (fun y'_5 =>
  both [(.pair (.list (.int .i64)) (.pair (.list (.int .i64)) (.pair (.list (.int .i64)) (.pair (.list (.int .i64)) .unit))))] (
  G (room y'_5 ([p]) 8) (
  both [(.pair (.list (.int .i64)) (.pair (.list (.int .i64)) (.pair (.list (.int .i64)) (.pair (.list (.int .i64)) .unit))))] (
  (slices_Clone t.2.2.2.1).bind (fun y'_6 =>
  G (room y'_6 ([q]) 8) (
  some (t.1, (t.2.1, (y'_5 ++ ([p]), (y'_6 ++ ([q]), ()))))))) (
  (slices_Clone t.2.2.2.1).bind (fun y'_7 =>
  G (room y'_7 ([q]) 8) (
  some (t.1, (t.2.1, (y'_5 ++ ([p]), (y'_7 ++ ([q]), ()))))))))) (
  G (room y'_5 ([p]) 8) (
  (slices_Clone t.2.2.2.1).bind (fun y'_8 =>
  G (room y'_8 ([q]) 8) (
  some (t.1, (t.2.1, (y'_5 ++ ([p]), (y'_8 ++ ([q]), ())))))))))) (
  (slices_Clone t.2.2.1).bind (fun y'_9 =>
  G (room y'_9 ([p]) 8) (
  (slices_Clone t.2.2.2.1).bind (fun y'_10 =>
  G (room y'_10 ([q]) 8) (
  some (t.1, (t.2.1, (y'_9 ++ ([p]), (y'_10 ++ ([q]), ())))))))))) (
  both [(.pair (.list (.int .i64)) (.pair (.list (.int .i64)) (.pair (.list (.int .i64)) (.pair (.list (.int .i64)) .unit))))] (
  (slices_Clone t.2.2.1).bind (fun y'_11 =>
  G (room y'_11 ([p]) 8) (
  (slices_Clone t.2.2.2.1).bind (fun y'_12 =>
  G (room y'_12 ([q]) 8) (
  some (t.1, (t.2.1, (y'_11 ++ ([p]), (y'_12 ++ ([q]), ()))))))))) (
  (slices_Clone t.2.2.1).bind (fun y'_13 =>
  G (room y'_13 ([p]) 8) (
  (slices_Clone t.2.2.2.1).bind (fun y'_14 =>
  G (room y'_14 ([q]) 8) (
  some (t.1, (t.2.1, (y'_13 ++ ([p]), (y'_14 ++ ([q]), ())))))))))))

noncomputable def ehren_table_reply_L2_B (rc_ehren_table_wins : Tp1 → Int → Option (Bool)) (t : Tp1) (p : Int) (k : Int) (r2 : Int → Option (Int × Bool)) (t_1 : Int) : Option (Int × Bool) :=
  if (decide (t_1 < (t.2.1.length : Int))) = true then
  (ehren_table_fits (t.1, (t.2.1, (t.2.2.1, (t.2.2.2.1, ())))) p t_1).bind (fun y' =>
  if y' = true then
  (ehren_table_with (t.1, (t.2.1, (t.2.2.1, (t.2.2.2.1, ())))) p t_1).bind (fun y'_1 =>
  (rc_ehren_table_wins y'_1 k).bind (fun y'_2 =>
  if y'_2 = true then
  some (t_1, true) else
  G (fits (t_1 + (1 : Int))) (
  r2 (t_1 + (1 : Int))))) else
  G (fits (t_1 + (1 : Int))) (
  r2 (t_1 + (1 : Int)))) else
  some ((0 : Int), false)
noncomputable def ehren_table_reply_L2_F (rc_ehren_table_wins : Tp1 → Int → Option (Bool)) (t : Tp1) (p : Int) (k : Int) : (Int → Option (Int × Bool)) → Int → Option (Int × Bool) :=
  fun rec x => ehren_table_reply_L2_B rc_ehren_table_wins t p k (fun t_1 => rec t_1) x
noncomputable def ehren_table_reply_L2 (rc_ehren_table_wins : Tp1 → Int → Option (Bool)) (t : Tp1) (p : Int) (k : Int) (t_1 : Int) : Option (Int × Bool) := LFix (ehren_table_reply_L2_F rc_ehren_table_wins t p k ) t_1
noncomputable def ehren_table_reply (rc_ehren_table_wins : Tp1 → Int → Option (Bool)) (t : Tp1) (p : Int) (k : Int) : Option (Int × Bool) :=
  ehren_table_reply_L2 rc_ehren_table_wins t p k (0 : Int)
noncomputable def ehren_table_wins_L7_B (rc_ehren_table_wins : Tp1 → Int → Option (Bool)) (t : Tp1) (k : Int) (y' : Tp1) (t_1 : Int) (r4 : (Int → Option (Bool))) (r7 : Int → Option (Bool)) (t_2 : Int) : Option (Bool) :=
  if (decide (t_2 < (((ix ([(t.1, (t.2.1, (t.2.2.1, (t.2.2.2.1, ())))), y']) t_1).1).length : Int))) = true then
  G (fits (k - (1 : Int))) (
  (ehren_table_reply rc_ehren_table_wins ((ix ([(t.1, (t.2.1, (t.2.2.1, (t.2.2.2.1, ())))), y']) t_1).1, (((ix ([(t.1, (t.2.1, (t.2.2.1, (t.2.2.2.1, ())))), y']) t_1).2).1, ((((ix ([(t.1, (t.2.1, (t.2.2.1, (t.2.2.2.1, ())))), y']) t_1).2).2).1, (((((ix ([(t.1, (t.2.1, (t.2.2.1, (t.2.2.2.1, ())))), y']) t_1).2).2).2).1, ())))) t_2 (k - (1 : Int))).bind (fun y'_4 =>
  if (!y'_4.2) = true then
  some false else
  G (fits (t_2 + (1 : Int))) (
  r7 (t_2 + (1 : Int))))) else
  G (fits (t_1 + (1 : Int))) (
  r4 (t_1 + (1 : Int)))
noncomputable def ehren_table_wins_L7_F (rc_ehren_table_wins : Tp1 → Int → Option (Bool)) (t : Tp1) (k : Int) (y' : Tp1) (t_1 : Int) (r4 : (Int → Option (Bool))) : (Int → Option (Bool)) → Int → Option (Bool) :=
  fun rec x => ehren_table_wins_L7_B rc_ehren_table_wins t k y' t_1 r4 (fun t_2 => rec t_2) x
noncomputable def ehren_table_wins_L7 (rc_ehren_table_wins : Tp1 → Int → Option (Bool)) (t : Tp1) (k : Int) (y' : Tp1) (t_1 : Int) (r4 : (Int → Option (Bool))) (t_2 : Int) : Option (Bool) := LFix (ehren_table_wins_L7_F rc_ehren_table_wins t k y' t_1 r4 ) t_2
noncomputable def ehren_table_wins_L4_B (rc_ehren_table_wins : Tp1 → Int → Option (Bool)) (t : Tp1) (k : Int) (y' : Tp1) (r4 : Int → Option (Bool)) (t_1 : Int) : Option (Bool) :=
  if (decide (t_1 < (([(t.1, (t.2.1, (t.2.2.1, (t.2.2.2.1, ())))), y']).length : Int))) = true then
  G (0 ≤ t_1 ∧ t_1 < (([(t.1, (t.2.1, (t.2.2.1, (t.2.2.2.1, ())))), y']).length : Int)) (
  G ((t_1).toNat < ([(t.1, (t.2.1, (t.2.2.1, (t.2.2.2.1, ())))), y']).length) (
  ehren_table_wins_L7 rc_ehren_table_wins t k y' t_1 r4 (0 : Int))) else
  some true
noncomputable def ehren_table_wins_L4_F (rc_ehren_table_wins : Tp1 → Int → Option (Bool)) (t : Tp1) (k : Int) (y' : Tp1) : (Int → Option (Bool)) → Int → Option (Bool) :=
  fun rec x => ehren_table_wins_L4_B rc_ehren_table_wins t k y' (fun t_1 => rec t_1) x
noncomputable def ehren_table_wins_L4 (rc_ehren_table_wins : Tp1 → Int → Option (Bool)) (t : Tp1) (k : Int) (y' : Tp1) (t_1 : Int) : Option (Bool) := LFix (ehren_table_wins_L4_F rc_ehren_table_wins t k y' ) t_1
noncomputable def ehren_table_wins_B (rc_ehren_table_wins : Tp1 → Int → Option (Bool)) (t : Tp1) (k : Int) : Option (Bool) :=
  if (decide (k = (0 : Int))) = true then
  some true else
  (ehren_table_turned (t.1, (t.2.1, (t.2.2.1, (t.2.2.2.1, ()))))).bind (fun y' =>
  ehren_table_wins_L4 rc_ehren_table_wins t k y' (0 : Int))
theorem ehren_table_reply_L2_B_ch (rc_ehren_table_wins : Nat → Tp1 → Int → Option (Bool)) (rc_ehren_table_wins' : Tp1 → Int → Option (Bool)) (h_rc_ehren_table_wins : ∀ a0 a1, ChO (fun κ => rc_ehren_table_wins κ a0 a1) (rc_ehren_table_wins' a0 a1)) (r2 : Nat → Int → Option (Int × Bool)) (r2' : Int → Option (Int × Bool)) (h_r2 : ∀ a0, ChO (fun κ => r2 κ a0) (r2' a0)) (t : Tp1) (p : Int) (k : Int) (t_1 : Int) : ChO (fun κ => ehren_table_reply_L2_B (rc_ehren_table_wins κ) t p k (r2 κ) t_1) (ehren_table_reply_L2_B rc_ehren_table_wins' t p k r2' t_1) := by
  unfold ehren_table_reply_L2_B
  repeat' with_reducible first | exact ChO.const _ | exact h_rc_ehren_table_wins _ _ | exact h_r2 _ | apply ChO.ite | apply ChO.G | apply ChO.both | (apply ChO.bind; intro _) | (apply ChO.bind2 (h_rc_ehren_table_wins _ _); intro _) | (refine ChO.bind2 ?_ (fun _ => ?_))
theorem ehren_table_reply_L2_cn (rc_ehren_table_wins : Tp1 → Int → Option (Bool)) (t : Tp1) (p : Int) (k : Int) : Cn (ehren_table_reply_L2_F rc_ehren_table_wins t p k) := fun g h hg x => ehren_table_reply_L2_B_ch (fun _ => rc_ehren_table_wins) rc_ehren_table_wins (fun _ _ => ChO.const _) (fun κ t_1 => g κ t_1) (fun t_1 => h t_1) (fun t_1 => hg t_1) t p k x
theorem ehren_table_reply_L2_eq (rc_ehren_table_wins : Tp1 → Int → Option (Bool)) (t : Tp1) (p : Int) (k : Int) (t_1 : Int) : ehren_table_reply_L2 rc_ehren_table_wins t p k t_1 = ehren_table_reply_L2_B rc_ehren_table_wins t p k (ehren_table_reply_L2 rc_ehren_table_wins t p k) t_1 := LFix_eq (ehren_table_reply_L2_cn rc_ehren_table_wins t p k) t_1
theorem ehren_table_reply_L2_ch (rc_ehren_table_wins : Nat → Tp1 → Int → Option (Bool)) (rc_ehren_table_wins' : Tp1 → Int → Option (Bool)) (h_rc_ehren_table_wins : ∀ a0 a1, ChO (fun κ => rc_ehren_table_wins κ a0 a1) (rc_ehren_table_wins' a0 a1)) (t : Tp1) (p : Int) (k : Int) (t_1 : Int) : ChO (fun κ => ehren_table_reply_L2 (rc_ehren_table_wins κ) t p k t_1) (ehren_table_reply_L2 rc_ehren_table_wins' t p k t_1) := by
  unfold ehren_table_reply_L2
  exact LFix_ch (fun κ => (ehren_table_reply_L2_cn (rc_ehren_table_wins κ) t p k).mono) (ehren_table_reply_L2_cn rc_ehren_table_wins' t p k).mono (fun g h hg x => ehren_table_reply_L2_B_ch rc_ehren_table_wins rc_ehren_table_wins' h_rc_ehren_table_wins (fun κ t_1 => g κ t_1) (fun t_1 => h t_1) (fun t_1 => hg t_1) t p k x) _
theorem ehren_table_reply_ch (rc_ehren_table_wins : Nat → Tp1 → Int → Option (Bool)) (rc_ehren_table_wins' : Tp1 → Int → Option (Bool)) (h_rc_ehren_table_wins : ∀ a0 a1, ChO (fun κ => rc_ehren_table_wins κ a0 a1) (rc_ehren_table_wins' a0 a1)) (t : Tp1) (p : Int) (k : Int) : ChO (fun κ => ehren_table_reply (rc_ehren_table_wins κ) t p k) (ehren_table_reply rc_ehren_table_wins' t p k) := by
  unfold ehren_table_reply
  repeat' with_reducible first | exact ChO.const _ | exact h_rc_ehren_table_wins _ _ | (apply ehren_table_reply_L2_ch <;> assumption) | apply ChO.ite | apply ChO.G | apply ChO.both | (apply ChO.bind; intro _) | (apply ChO.bind2 (h_rc_ehren_table_wins _ _); intro _) | (refine ChO.bind2 ?_ (fun _ => ?_))
theorem ehren_table_wins_L7_B_ch (rc_ehren_table_wins : Nat → Tp1 → Int → Option (Bool)) (rc_ehren_table_wins' : Tp1 → Int → Option (Bool)) (h_rc_ehren_table_wins : ∀ a0 a1, ChO (fun κ => rc_ehren_table_wins κ a0 a1) (rc_ehren_table_wins' a0 a1)) (r4 : Nat → Int → Option (Bool)) (r4' : Int → Option (Bool)) (h_r4 : ∀ a0, ChO (fun κ => r4 κ a0) (r4' a0)) (r7 : Nat → Int → Option (Bool)) (r7' : Int → Option (Bool)) (h_r7 : ∀ a0, ChO (fun κ => r7 κ a0) (r7' a0)) (t : Tp1) (k : Int) (y' : Tp1) (t_1 : Int) (t_2 : Int) : ChO (fun κ => ehren_table_wins_L7_B (rc_ehren_table_wins κ) t k y' t_1 (r4 κ) (r7 κ) t_2) (ehren_table_wins_L7_B rc_ehren_table_wins' t k y' t_1 r4' r7' t_2) := by
  unfold ehren_table_wins_L7_B
  repeat' with_reducible first | exact ChO.const _ | exact h_rc_ehren_table_wins _ _ | exact h_r4 _ | exact h_r7 _ | (apply ehren_table_reply_L2_ch <;> assumption) | (apply ehren_table_reply_ch <;> assumption) | apply ChO.ite | apply ChO.G | apply ChO.both | (apply ChO.bind; intro _) | (apply ChO.bind2 (h_rc_ehren_table_wins _ _); intro _) | (refine ChO.bind2 ?_ (fun _ => ?_))
theorem ehren_table_wins_L7_cn (rc_ehren_table_wins : Tp1 → Int → Option (Bool)) (r4 : Int → Option (Bool)) (t : Tp1) (k : Int) (y' : Tp1) (t_1 : Int) : Cn (ehren_table_wins_L7_F rc_ehren_table_wins t k y' t_1 r4) := fun g h hg x => ehren_table_wins_L7_B_ch (fun _ => rc_ehren_table_wins) rc_ehren_table_wins (fun _ _ => ChO.const _) (fun _ => r4) r4 (fun _ => ChO.const _) (fun κ t_2 => g κ t_2) (fun t_2 => h t_2) (fun t_2 => hg t_2) t k y' t_1 x
theorem ehren_table_wins_L7_eq (rc_ehren_table_wins : Tp1 → Int → Option (Bool)) (r4 : Int → Option (Bool)) (t : Tp1) (k : Int) (y' : Tp1) (t_1 : Int) (t_2 : Int) : ehren_table_wins_L7 rc_ehren_table_wins t k y' t_1 r4 t_2 = ehren_table_wins_L7_B rc_ehren_table_wins t k y' t_1 r4 (ehren_table_wins_L7 rc_ehren_table_wins t k y' t_1 r4) t_2 := LFix_eq (ehren_table_wins_L7_cn rc_ehren_table_wins r4 t k y' t_1) t_2
theorem ehren_table_wins_L7_ch (rc_ehren_table_wins : Nat → Tp1 → Int → Option (Bool)) (rc_ehren_table_wins' : Tp1 → Int → Option (Bool)) (h_rc_ehren_table_wins : ∀ a0 a1, ChO (fun κ => rc_ehren_table_wins κ a0 a1) (rc_ehren_table_wins' a0 a1)) (r4 : Nat → Int → Option (Bool)) (r4' : Int → Option (Bool)) (h_r4 : ∀ a0, ChO (fun κ => r4 κ a0) (r4' a0)) (t : Tp1) (k : Int) (y' : Tp1) (t_1 : Int) (t_2 : Int) : ChO (fun κ => ehren_table_wins_L7 (rc_ehren_table_wins κ) t k y' t_1 (r4 κ) t_2) (ehren_table_wins_L7 rc_ehren_table_wins' t k y' t_1 r4' t_2) := by
  unfold ehren_table_wins_L7
  exact LFix_ch (fun κ => (ehren_table_wins_L7_cn (rc_ehren_table_wins κ) (r4 κ) t k y' t_1).mono) (ehren_table_wins_L7_cn rc_ehren_table_wins' r4' t k y' t_1).mono (fun g h hg x => ehren_table_wins_L7_B_ch rc_ehren_table_wins rc_ehren_table_wins' h_rc_ehren_table_wins r4 r4' h_r4 (fun κ t_2 => g κ t_2) (fun t_2 => h t_2) (fun t_2 => hg t_2) t k y' t_1 x) _
theorem ehren_table_wins_L4_B_ch (rc_ehren_table_wins : Nat → Tp1 → Int → Option (Bool)) (rc_ehren_table_wins' : Tp1 → Int → Option (Bool)) (h_rc_ehren_table_wins : ∀ a0 a1, ChO (fun κ => rc_ehren_table_wins κ a0 a1) (rc_ehren_table_wins' a0 a1)) (r4 : Nat → Int → Option (Bool)) (r4' : Int → Option (Bool)) (h_r4 : ∀ a0, ChO (fun κ => r4 κ a0) (r4' a0)) (t : Tp1) (k : Int) (y' : Tp1) (t_1 : Int) : ChO (fun κ => ehren_table_wins_L4_B (rc_ehren_table_wins κ) t k y' (r4 κ) t_1) (ehren_table_wins_L4_B rc_ehren_table_wins' t k y' r4' t_1) := by
  unfold ehren_table_wins_L4_B
  repeat' with_reducible first | exact ChO.const _ | exact h_rc_ehren_table_wins _ _ | exact h_r4 _ | (apply ehren_table_reply_L2_ch <;> assumption) | (apply ehren_table_reply_ch <;> assumption) | (apply ehren_table_wins_L7_ch <;> assumption) | apply ChO.ite | apply ChO.G | apply ChO.both | (apply ChO.bind; intro _) | (apply ChO.bind2 (h_rc_ehren_table_wins _ _); intro _) | (refine ChO.bind2 ?_ (fun _ => ?_))
theorem ehren_table_wins_L4_cn (rc_ehren_table_wins : Tp1 → Int → Option (Bool)) (t : Tp1) (k : Int) (y' : Tp1) : Cn (ehren_table_wins_L4_F rc_ehren_table_wins t k y') := fun g h hg x => ehren_table_wins_L4_B_ch (fun _ => rc_ehren_table_wins) rc_ehren_table_wins (fun _ _ => ChO.const _) (fun κ t_1 => g κ t_1) (fun t_1 => h t_1) (fun t_1 => hg t_1) t k y' x
theorem ehren_table_wins_L4_eq (rc_ehren_table_wins : Tp1 → Int → Option (Bool)) (t : Tp1) (k : Int) (y' : Tp1) (t_1 : Int) : ehren_table_wins_L4 rc_ehren_table_wins t k y' t_1 = ehren_table_wins_L4_B rc_ehren_table_wins t k y' (ehren_table_wins_L4 rc_ehren_table_wins t k y') t_1 := LFix_eq (ehren_table_wins_L4_cn rc_ehren_table_wins t k y') t_1
theorem ehren_table_wins_L4_ch (rc_ehren_table_wins : Nat → Tp1 → Int → Option (Bool)) (rc_ehren_table_wins' : Tp1 → Int → Option (Bool)) (h_rc_ehren_table_wins : ∀ a0 a1, ChO (fun κ => rc_ehren_table_wins κ a0 a1) (rc_ehren_table_wins' a0 a1)) (t : Tp1) (k : Int) (y' : Tp1) (t_1 : Int) : ChO (fun κ => ehren_table_wins_L4 (rc_ehren_table_wins κ) t k y' t_1) (ehren_table_wins_L4 rc_ehren_table_wins' t k y' t_1) := by
  unfold ehren_table_wins_L4
  exact LFix_ch (fun κ => (ehren_table_wins_L4_cn (rc_ehren_table_wins κ) t k y').mono) (ehren_table_wins_L4_cn rc_ehren_table_wins' t k y').mono (fun g h hg x => ehren_table_wins_L4_B_ch rc_ehren_table_wins rc_ehren_table_wins' h_rc_ehren_table_wins (fun κ t_1 => g κ t_1) (fun t_1 => h t_1) (fun t_1 => hg t_1) t k y' x) _
theorem ehren_table_wins_B_ch (rc_ehren_table_wins : Nat → Tp1 → Int → Option (Bool)) (rc_ehren_table_wins' : Tp1 → Int → Option (Bool)) (h_rc_ehren_table_wins : ∀ a0 a1, ChO (fun κ => rc_ehren_table_wins κ a0 a1) (rc_ehren_table_wins' a0 a1)) (t : Tp1) (k : Int) : ChO (fun κ => ehren_table_wins_B (rc_ehren_table_wins κ) t k) (ehren_table_wins_B rc_ehren_table_wins' t k) := by
  unfold ehren_table_wins_B
  repeat' with_reducible first | exact ChO.const _ | exact h_rc_ehren_table_wins _ _ | (apply ehren_table_reply_L2_ch <;> assumption) | (apply ehren_table_reply_ch <;> assumption) | (apply ehren_table_wins_L7_ch <;> assumption) | (apply ehren_table_wins_L4_ch <;> assumption) | apply ChO.ite | apply ChO.G | apply ChO.both | (apply ChO.bind; intro _) | (apply ChO.bind2 (h_rc_ehren_table_wins _ _); intro _) | (refine ChO.bind2 ?_ (fun _ => ?_))
noncomputable def ehren_table_wins_F : (Tp1 × Int → Option (Bool)) → Tp1 × Int → Option (Bool) :=
  fun rec X => ehren_table_wins_B (fun t k => rec (t, k)) X.1 X.2
noncomputable def ehren_table_wins (t : Tp1) (k : Int) : Option (Bool) := LFix ehren_table_wins_F (t, k)
theorem ehren_table_wins_cn : Cn ehren_table_wins_F := fun g h hg X => ehren_table_wins_B_ch _ _ (fun t k => hg (t, k)) X.1 X.2
theorem ehren_table_wins_eq (t : Tp1) (k : Int) : ehren_table_wins t k = ehren_table_wins_B ehren_table_wins t k := LFix_eq ehren_table_wins_cn (t, k)
noncomputable def ehren_table_reply_c (t : Tp1) (p : Int) (k : Int) : Option (Int × Bool) := ehren_table_reply ehren_table_wins t p k

noncomputable def ehren_Wins (u : (List Int)) (v : (List Int)) (k : Int) : Option (Bool × Int) :=
  (ehren_checked u v k).bind (fun y' =>
  if (decide (¬ y' = (0 : Int))) = true then
  some (false, y') else
  (ehren_table_wins (u, (v, ([], ([], ())))) k).bind (fun y'_1 =>
  some (y'_1, (0 : Int))))

noncomputable def ehren_Reply (u : (List Int)) (v : (List Int)) (k : Int) (place : Int) : Option (Int × Bool × Int) :=
  (ehren_checked u v k).bind (fun y' =>
  if (decide (¬ y' = (0 : Int))) = true then
  some ((0 : Int), false, y') else
  if (decide (k = (0 : Int))) = true then
  some ((0 : Int), false, (2 : Int)) else
  if (decide (place < (0 : Int))) = true then
  some ((0 : Int), false, (2 : Int)) else
  if (decide ((u.length : Int) ≤ place)) = true then
  some ((0 : Int), false, (2 : Int)) else
  G (fits (k - (1 : Int))) (
  (ehren_table_reply_c (u, (v, ([], ([], ())))) place (k - (1 : Int))).bind (fun y'_4 =>
  some (y'_4.1, y'_4.2, (0 : Int)))))

noncomputable def r33_word_L4_B (w : (List Int)) (r4 : Int → Option (Int)) (i : Int) : Option (Int) :=
  if (decide (i < (w.length : Int))) = true then
  G (0 ≤ i ∧ i < (w.length : Int)) (
  if (decide (¬ (ix w i) = (0 : Int))) = true then
  G (0 ≤ i ∧ i < (w.length : Int)) (
  if (decide (¬ (ix w i) = (1 : Int))) = true then
  some (2 : Int) else
  G (fits (i + (1 : Int))) (
  r4 (i + (1 : Int)))) else
  G (fits (i + (1 : Int))) (
  r4 (i + (1 : Int)))) else
  some (0 : Int)
noncomputable def r33_word_L4_F (w : (List Int)) : (Int → Option (Int)) → Int → Option (Int) :=
  fun rec x => r33_word_L4_B w (fun i => rec i) x
noncomputable def r33_word_L4 (w : (List Int)) (i : Int) : Option (Int) := LFix (r33_word_L4_F w ) i
noncomputable def r33_word (w : (List Int)) : Option (Int) :=
  if (decide ((60 : Int) < (w.length : Int))) = true then
  some (1 : Int) else
  r33_word_L4 w (0 : Int)
theorem r33_word_L4_B_ch (r4 : Nat → Int → Option (Int)) (r4' : Int → Option (Int)) (h_r4 : ∀ a0, ChO (fun κ => r4 κ a0) (r4' a0)) (w : (List Int)) (i : Int) : ChO (fun κ => r33_word_L4_B w (r4 κ) i) (r33_word_L4_B w r4' i) := by
  unfold r33_word_L4_B
  repeat' with_reducible first | exact ChO.const _ | exact h_r4 _ | apply ChO.ite | apply ChO.G | apply ChO.both | (apply ChO.bind; intro _)
theorem r33_word_L4_cn  (w : (List Int)) : Cn (r33_word_L4_F w) := fun g h hg x => r33_word_L4_B_ch  (fun κ i => g κ i) (fun i => h i) (fun i => hg i) w x
theorem r33_word_L4_eq  (w : (List Int)) (i : Int) : r33_word_L4 w i = r33_word_L4_B w (r33_word_L4 w) i := LFix_eq (r33_word_L4_cn w) i

noncomputable def r33_Check (u : (List Int)) (v : (List Int)) (k : Int) : Option (Int) :=
  (r33_word u).bind (fun y' =>
  (r33_word v).bind (fun y'_1 =>
  if (decide (¬ y' = (0 : Int))) = true then
  some y' else
  if (decide (¬ y'_1 = (0 : Int))) = true then
  some y'_1 else
  if (decide ((8 : Int) < (u.length : Int))) = true then
  some (1 : Int) else
  if (decide ((8 : Int) < (v.length : Int))) = true then
  some (1 : Int) else
  if (decide (k < (0 : Int))) = true then
  some (2 : Int) else
  if (decide ((3 : Int) < k)) = true then
  some (2 : Int) else
  some (0 : Int)))

noncomputable def r33_sign (a : Int) (b : Int) : Option (Int) :=
  if (decide (a < b)) = true then
  some (-1 : Int) else
  if (decide (b < a)) = true then
  some (1 : Int) else
  some (0 : Int)

noncomputable def r33_Fits_L4_B (a : (List Int)) (b : (List Int)) (p : Int) (q : Int) (r4 : Int → Option (Bool)) (i : Int) : Option (Bool) :=
  if (decide (i < (a.length : Int))) = true then
  G (0 ≤ i ∧ i < (a.length : Int)) (
  (r33_sign (ix a i) p).bind (fun y' =>
  G (0 ≤ i ∧ i < (b.length : Int)) (
  (r33_sign (ix b i) q).bind (fun y'_1 =>
  if (decide (¬ y' = y'_1)) = true then
  some false else
  G (fits (i + (1 : Int))) (
  r4 (i + (1 : Int))))))) else
  some true
noncomputable def r33_Fits_L4_F (a : (List Int)) (b : (List Int)) (p : Int) (q : Int) : (Int → Option (Bool)) → Int → Option (Bool) :=
  fun rec x => r33_Fits_L4_B a b p q (fun i => rec i) x
noncomputable def r33_Fits_L4 (a : (List Int)) (b : (List Int)) (p : Int) (q : Int) (i : Int) : Option (Bool) := LFix (r33_Fits_L4_F a b p q ) i
noncomputable def r33_Fits (u : (List Int)) (v : (List Int)) (a : (List Int)) (b : (List Int)) (p : Int) (q : Int) : Option (Bool) :=
  G (0 ≤ p ∧ p < (u.length : Int)) (
  G (0 ≤ q ∧ q < (v.length : Int)) (
  if (decide (¬ (ix u p) = (ix v q))) = true then
  some false else
  r33_Fits_L4 a b p q (0 : Int)))
theorem r33_Fits_L4_B_ch (r4 : Nat → Int → Option (Bool)) (r4' : Int → Option (Bool)) (h_r4 : ∀ a0, ChO (fun κ => r4 κ a0) (r4' a0)) (a : (List Int)) (b : (List Int)) (p : Int) (q : Int) (i : Int) : ChO (fun κ => r33_Fits_L4_B a b p q (r4 κ) i) (r33_Fits_L4_B a b p q r4' i) := by
  unfold r33_Fits_L4_B
  repeat' with_reducible first | exact ChO.const _ | exact h_r4 _ | apply ChO.ite | apply ChO.G | apply ChO.both | (apply ChO.bind; intro _)
theorem r33_Fits_L4_cn  (a : (List Int)) (b : (List Int)) (p : Int) (q : Int) : Cn (r33_Fits_L4_F a b p q) := fun g h hg x => r33_Fits_L4_B_ch  (fun κ i => g κ i) (fun i => h i) (fun i => hg i) a b p q x
theorem r33_Fits_L4_eq  (a : (List Int)) (b : (List Int)) (p : Int) (q : Int) (i : Int) : r33_Fits_L4 a b p q i = r33_Fits_L4_B a b p q (r33_Fits_L4 a b p q) i := LFix_eq (r33_Fits_L4_cn a b p q) i

noncomputable def r33_Answer_L2_B (rc_r33_Wins : (List Int) → (List Int) → (List Int) → (List Int) → Int → Option (Bool)) (u : (List Int)) (v : (List Int)) (a : (List Int)) (b : (List Int)) (p : Int) (k : Int) (r2 : Int → Option (Int)) (q : Int) : Option (Int) :=
  if (decide (q < (v.length : Int))) = true then
  (r33_Fits u v a b p q).bind (fun y' =>
  if (!y') = true then
  G (fits (q + (1 : Int))) (
  r2 (q + (1 : Int))) else
  G (room ([] : List Int) a 8) (
  G (room (([] : List Int) ++ a) ([p]) 8) (
  G (room ([] : List Int) b 8) (
  G (room (([] : List Int) ++ b) ([q]) 8) (
  (rc_r33_Wins u v ((([] : List Int) ++ a) ++ ([p])) ((([] : List Int) ++ b) ++ ([q])) k).bind (fun y'_1 =>
  if y'_1 = true then
  some q else
  G (fits (q + (1 : Int))) (
  r2 (q + (1 : Int))))))))) else
  some (-1 : Int)
noncomputable def r33_Answer_L2_F (rc_r33_Wins : (List Int) → (List Int) → (List Int) → (List Int) → Int → Option (Bool)) (u : (List Int)) (v : (List Int)) (a : (List Int)) (b : (List Int)) (p : Int) (k : Int) : (Int → Option (Int)) → Int → Option (Int) :=
  fun rec x => r33_Answer_L2_B rc_r33_Wins u v a b p k (fun q => rec q) x
noncomputable def r33_Answer_L2 (rc_r33_Wins : (List Int) → (List Int) → (List Int) → (List Int) → Int → Option (Bool)) (u : (List Int)) (v : (List Int)) (a : (List Int)) (b : (List Int)) (p : Int) (k : Int) (q : Int) : Option (Int) := LFix (r33_Answer_L2_F rc_r33_Wins u v a b p k ) q
noncomputable def r33_Answer (rc_r33_Wins : (List Int) → (List Int) → (List Int) → (List Int) → Int → Option (Bool)) (u : (List Int)) (v : (List Int)) (a : (List Int)) (b : (List Int)) (p : Int) (k : Int) : Option (Int) :=
  r33_Answer_L2 rc_r33_Wins u v a b p k (0 : Int)
noncomputable def r33_Wins_L10_B (rc_r33_Wins : (List Int) → (List Int) → (List Int) → (List Int) → Int → Option (Bool)) (u : (List Int)) (v : (List Int)) (a : (List Int)) (b : (List Int)) (k : Int) (r10 : Int → Option (Bool)) (q : Int) : Option (Bool) :=
  if (decide (q < (v.length : Int))) = true then
  G (fits (k - (1 : Int))) (
  (r33_Answer rc_r33_Wins v u b a q (k - (1 : Int))).bind (fun y'_1 =>
  if (decide (y'_1 < (0 : Int))) = true then
  some false else
  G (fits (q + (1 : Int))) (
  r10 (q + (1 : Int))))) else
  some true
noncomputable def r33_Wins_L10_F (rc_r33_Wins : (List Int) → (List Int) → (List Int) → (List Int) → Int → Option (Bool)) (u : (List Int)) (v : (List Int)) (a : (List Int)) (b : (List Int)) (k : Int) : (Int → Option (Bool)) → Int → Option (Bool) :=
  fun rec x => r33_Wins_L10_B rc_r33_Wins u v a b k (fun q => rec q) x
noncomputable def r33_Wins_L10 (rc_r33_Wins : (List Int) → (List Int) → (List Int) → (List Int) → Int → Option (Bool)) (u : (List Int)) (v : (List Int)) (a : (List Int)) (b : (List Int)) (k : Int) (q : Int) : Option (Bool) := LFix (r33_Wins_L10_F rc_r33_Wins u v a b k ) q
noncomputable def r33_Wins_L4_B (rc_r33_Wins : (List Int) → (List Int) → (List Int) → (List Int) → Int → Option (Bool)) (u : (List Int)) (v : (List Int)) (a : (List Int)) (b : (List Int)) (k : Int) (r4 : Int → Option (Bool)) (p : Int) : Option (Bool) :=
  if (decide (p < (u.length : Int))) = true then
  G (fits (k - (1 : Int))) (
  (r33_Answer rc_r33_Wins u v a b p (k - (1 : Int))).bind (fun y' =>
  if (decide (y' < (0 : Int))) = true then
  some false else
  G (fits (p + (1 : Int))) (
  r4 (p + (1 : Int))))) else
  r33_Wins_L10 rc_r33_Wins u v a b k (0 : Int)
noncomputable def r33_Wins_L4_F (rc_r33_Wins : (List Int) → (List Int) → (List Int) → (List Int) → Int → Option (Bool)) (u : (List Int)) (v : (List Int)) (a : (List Int)) (b : (List Int)) (k : Int) : (Int → Option (Bool)) → Int → Option (Bool) :=
  fun rec x => r33_Wins_L4_B rc_r33_Wins u v a b k (fun p => rec p) x
noncomputable def r33_Wins_L4 (rc_r33_Wins : (List Int) → (List Int) → (List Int) → (List Int) → Int → Option (Bool)) (u : (List Int)) (v : (List Int)) (a : (List Int)) (b : (List Int)) (k : Int) (p : Int) : Option (Bool) := LFix (r33_Wins_L4_F rc_r33_Wins u v a b k ) p
noncomputable def r33_Wins_B (rc_r33_Wins : (List Int) → (List Int) → (List Int) → (List Int) → Int → Option (Bool)) (u : (List Int)) (v : (List Int)) (a : (List Int)) (b : (List Int)) (k : Int) : Option (Bool) :=
  if (decide (k = (0 : Int))) = true then
  some true else
  r33_Wins_L4 rc_r33_Wins u v a b k (0 : Int)
theorem r33_Answer_L2_B_ch (rc_r33_Wins : Nat → (List Int) → (List Int) → (List Int) → (List Int) → Int → Option (Bool)) (rc_r33_Wins' : (List Int) → (List Int) → (List Int) → (List Int) → Int → Option (Bool)) (h_rc_r33_Wins : ∀ a0 a1 a2 a3 a4, ChO (fun κ => rc_r33_Wins κ a0 a1 a2 a3 a4) (rc_r33_Wins' a0 a1 a2 a3 a4)) (r2 : Nat → Int → Option (Int)) (r2' : Int → Option (Int)) (h_r2 : ∀ a0, ChO (fun κ => r2 κ a0) (r2' a0)) (u : (List Int)) (v : (List Int)) (a : (List Int)) (b : (List Int)) (p : Int) (k : Int) (q : Int) : ChO (fun κ => r33_Answer_L2_B (rc_r33_Wins κ) u v a b p k (r2 κ) q) (r33_Answer_L2_B rc_r33_Wins' u v a b p k r2' q) := by
  unfold r33_Answer_L2_B
  repeat' with_reducible first | exact ChO.const _ | exact h_rc_r33_Wins _ _ _ _ _ | exact h_r2 _ | apply ChO.ite | apply ChO.G | apply ChO.both | (apply ChO.bind; intro _) | (apply ChO.bind2 (h_rc_r33_Wins _ _ _ _ _); intro _) | (refine ChO.bind2 ?_ (fun _ => ?_))
theorem r33_Answer_L2_cn (rc_r33_Wins : (List Int) → (List Int) → (List Int) → (List Int) → Int → Option (Bool)) (u : (List Int)) (v : (List Int)) (a : (List Int)) (b : (List Int)) (p : Int) (k : Int) : Cn (r33_Answer_L2_F rc_r33_Wins u v a b p k) := fun g h hg x => r33_Answer_L2_B_ch (fun _ => rc_r33_Wins) rc_r33_Wins (fun _ _ _ _ _ => ChO.const _) (fun κ q => g κ q) (fun q => h q) (fun q => hg q) u v a b p k x
theorem r33_Answer_L2_eq (rc_r33_Wins : (List Int) → (List Int) → (List Int) → (List Int) → Int → Option (Bool)) (u : (List Int)) (v : (List Int)) (a : (List Int)) (b : (List Int)) (p : Int) (k : Int) (q : Int) : r33_Answer_L2 rc_r33_Wins u v a b p k q = r33_Answer_L2_B rc_r33_Wins u v a b p k (r33_Answer_L2 rc_r33_Wins u v a b p k) q := LFix_eq (r33_Answer_L2_cn rc_r33_Wins u v a b p k) q
theorem r33_Answer_L2_ch (rc_r33_Wins : Nat → (List Int) → (List Int) → (List Int) → (List Int) → Int → Option (Bool)) (rc_r33_Wins' : (List Int) → (List Int) → (List Int) → (List Int) → Int → Option (Bool)) (h_rc_r33_Wins : ∀ a0 a1 a2 a3 a4, ChO (fun κ => rc_r33_Wins κ a0 a1 a2 a3 a4) (rc_r33_Wins' a0 a1 a2 a3 a4)) (u : (List Int)) (v : (List Int)) (a : (List Int)) (b : (List Int)) (p : Int) (k : Int) (q : Int) : ChO (fun κ => r33_Answer_L2 (rc_r33_Wins κ) u v a b p k q) (r33_Answer_L2 rc_r33_Wins' u v a b p k q) := by
  unfold r33_Answer_L2
  exact LFix_ch (fun κ => (r33_Answer_L2_cn (rc_r33_Wins κ) u v a b p k).mono) (r33_Answer_L2_cn rc_r33_Wins' u v a b p k).mono (fun g h hg x => r33_Answer_L2_B_ch rc_r33_Wins rc_r33_Wins' h_rc_r33_Wins (fun κ q => g κ q) (fun q => h q) (fun q => hg q) u v a b p k x) _
theorem r33_Answer_ch (rc_r33_Wins : Nat → (List Int) → (List Int) → (List Int) → (List Int) → Int → Option (Bool)) (rc_r33_Wins' : (List Int) → (List Int) → (List Int) → (List Int) → Int → Option (Bool)) (h_rc_r33_Wins : ∀ a0 a1 a2 a3 a4, ChO (fun κ => rc_r33_Wins κ a0 a1 a2 a3 a4) (rc_r33_Wins' a0 a1 a2 a3 a4)) (u : (List Int)) (v : (List Int)) (a : (List Int)) (b : (List Int)) (p : Int) (k : Int) : ChO (fun κ => r33_Answer (rc_r33_Wins κ) u v a b p k) (r33_Answer rc_r33_Wins' u v a b p k) := by
  unfold r33_Answer
  repeat' with_reducible first | exact ChO.const _ | exact h_rc_r33_Wins _ _ _ _ _ | (apply r33_Answer_L2_ch <;> assumption) | apply ChO.ite | apply ChO.G | apply ChO.both | (apply ChO.bind; intro _) | (apply ChO.bind2 (h_rc_r33_Wins _ _ _ _ _); intro _) | (refine ChO.bind2 ?_ (fun _ => ?_))
theorem r33_Wins_L10_B_ch (rc_r33_Wins : Nat → (List Int) → (List Int) → (List Int) → (List Int) → Int → Option (Bool)) (rc_r33_Wins' : (List Int) → (List Int) → (List Int) → (List Int) → Int → Option (Bool)) (h_rc_r33_Wins : ∀ a0 a1 a2 a3 a4, ChO (fun κ => rc_r33_Wins κ a0 a1 a2 a3 a4) (rc_r33_Wins' a0 a1 a2 a3 a4)) (r10 : Nat → Int → Option (Bool)) (r10' : Int → Option (Bool)) (h_r10 : ∀ a0, ChO (fun κ => r10 κ a0) (r10' a0)) (u : (List Int)) (v : (List Int)) (a : (List Int)) (b : (List Int)) (k : Int) (q : Int) : ChO (fun κ => r33_Wins_L10_B (rc_r33_Wins κ) u v a b k (r10 κ) q) (r33_Wins_L10_B rc_r33_Wins' u v a b k r10' q) := by
  unfold r33_Wins_L10_B
  repeat' with_reducible first | exact ChO.const _ | exact h_rc_r33_Wins _ _ _ _ _ | exact h_r10 _ | (apply r33_Answer_L2_ch <;> assumption) | (apply r33_Answer_ch <;> assumption) | apply ChO.ite | apply ChO.G | apply ChO.both | (apply ChO.bind; intro _) | (apply ChO.bind2 (h_rc_r33_Wins _ _ _ _ _); intro _) | (refine ChO.bind2 ?_ (fun _ => ?_))
theorem r33_Wins_L10_cn (rc_r33_Wins : (List Int) → (List Int) → (List Int) → (List Int) → Int → Option (Bool)) (u : (List Int)) (v : (List Int)) (a : (List Int)) (b : (List Int)) (k : Int) : Cn (r33_Wins_L10_F rc_r33_Wins u v a b k) := fun g h hg x => r33_Wins_L10_B_ch (fun _ => rc_r33_Wins) rc_r33_Wins (fun _ _ _ _ _ => ChO.const _) (fun κ q => g κ q) (fun q => h q) (fun q => hg q) u v a b k x
theorem r33_Wins_L10_eq (rc_r33_Wins : (List Int) → (List Int) → (List Int) → (List Int) → Int → Option (Bool)) (u : (List Int)) (v : (List Int)) (a : (List Int)) (b : (List Int)) (k : Int) (q : Int) : r33_Wins_L10 rc_r33_Wins u v a b k q = r33_Wins_L10_B rc_r33_Wins u v a b k (r33_Wins_L10 rc_r33_Wins u v a b k) q := LFix_eq (r33_Wins_L10_cn rc_r33_Wins u v a b k) q
theorem r33_Wins_L10_ch (rc_r33_Wins : Nat → (List Int) → (List Int) → (List Int) → (List Int) → Int → Option (Bool)) (rc_r33_Wins' : (List Int) → (List Int) → (List Int) → (List Int) → Int → Option (Bool)) (h_rc_r33_Wins : ∀ a0 a1 a2 a3 a4, ChO (fun κ => rc_r33_Wins κ a0 a1 a2 a3 a4) (rc_r33_Wins' a0 a1 a2 a3 a4)) (u : (List Int)) (v : (List Int)) (a : (List Int)) (b : (List Int)) (k : Int) (q : Int) : ChO (fun κ => r33_Wins_L10 (rc_r33_Wins κ) u v a b k q) (r33_Wins_L10 rc_r33_Wins' u v a b k q) := by
  unfold r33_Wins_L10
  exact LFix_ch (fun κ => (r33_Wins_L10_cn (rc_r33_Wins κ) u v a b k).mono) (r33_Wins_L10_cn rc_r33_Wins' u v a b k).mono (fun g h hg x => r33_Wins_L10_B_ch rc_r33_Wins rc_r33_Wins' h_rc_r33_Wins (fun κ q => g κ q) (fun q => h q) (fun q => hg q) u v a b k x) _
theorem r33_Wins_L4_B_ch (rc_r33_Wins : Nat → (List Int) → (List Int) → (List Int) → (List Int) → Int → Option (Bool)) (rc_r33_Wins' : (List Int) → (List Int) → (List Int) → (List Int) → Int → Option (Bool)) (h_rc_r33_Wins : ∀ a0 a1 a2 a3 a4, ChO (fun κ => rc_r33_Wins κ a0 a1 a2 a3 a4) (rc_r33_Wins' a0 a1 a2 a3 a4)) (r4 : Nat → Int → Option (Bool)) (r4' : Int → Option (Bool)) (h_r4 : ∀ a0, ChO (fun κ => r4 κ a0) (r4' a0)) (u : (List Int)) (v : (List Int)) (a : (List Int)) (b : (List Int)) (k : Int) (p : Int) : ChO (fun κ => r33_Wins_L4_B (rc_r33_Wins κ) u v a b k (r4 κ) p) (r33_Wins_L4_B rc_r33_Wins' u v a b k r4' p) := by
  unfold r33_Wins_L4_B
  repeat' with_reducible first | exact ChO.const _ | exact h_rc_r33_Wins _ _ _ _ _ | exact h_r4 _ | (apply r33_Answer_L2_ch <;> assumption) | (apply r33_Answer_ch <;> assumption) | (apply r33_Wins_L10_ch <;> assumption) | apply ChO.ite | apply ChO.G | apply ChO.both | (apply ChO.bind; intro _) | (apply ChO.bind2 (h_rc_r33_Wins _ _ _ _ _); intro _) | (refine ChO.bind2 ?_ (fun _ => ?_))
theorem r33_Wins_L4_cn (rc_r33_Wins : (List Int) → (List Int) → (List Int) → (List Int) → Int → Option (Bool)) (u : (List Int)) (v : (List Int)) (a : (List Int)) (b : (List Int)) (k : Int) : Cn (r33_Wins_L4_F rc_r33_Wins u v a b k) := fun g h hg x => r33_Wins_L4_B_ch (fun _ => rc_r33_Wins) rc_r33_Wins (fun _ _ _ _ _ => ChO.const _) (fun κ p => g κ p) (fun p => h p) (fun p => hg p) u v a b k x
theorem r33_Wins_L4_eq (rc_r33_Wins : (List Int) → (List Int) → (List Int) → (List Int) → Int → Option (Bool)) (u : (List Int)) (v : (List Int)) (a : (List Int)) (b : (List Int)) (k : Int) (p : Int) : r33_Wins_L4 rc_r33_Wins u v a b k p = r33_Wins_L4_B rc_r33_Wins u v a b k (r33_Wins_L4 rc_r33_Wins u v a b k) p := LFix_eq (r33_Wins_L4_cn rc_r33_Wins u v a b k) p
theorem r33_Wins_L4_ch (rc_r33_Wins : Nat → (List Int) → (List Int) → (List Int) → (List Int) → Int → Option (Bool)) (rc_r33_Wins' : (List Int) → (List Int) → (List Int) → (List Int) → Int → Option (Bool)) (h_rc_r33_Wins : ∀ a0 a1 a2 a3 a4, ChO (fun κ => rc_r33_Wins κ a0 a1 a2 a3 a4) (rc_r33_Wins' a0 a1 a2 a3 a4)) (u : (List Int)) (v : (List Int)) (a : (List Int)) (b : (List Int)) (k : Int) (p : Int) : ChO (fun κ => r33_Wins_L4 (rc_r33_Wins κ) u v a b k p) (r33_Wins_L4 rc_r33_Wins' u v a b k p) := by
  unfold r33_Wins_L4
  exact LFix_ch (fun κ => (r33_Wins_L4_cn (rc_r33_Wins κ) u v a b k).mono) (r33_Wins_L4_cn rc_r33_Wins' u v a b k).mono (fun g h hg x => r33_Wins_L4_B_ch rc_r33_Wins rc_r33_Wins' h_rc_r33_Wins (fun κ p => g κ p) (fun p => h p) (fun p => hg p) u v a b k x) _
theorem r33_Wins_B_ch (rc_r33_Wins : Nat → (List Int) → (List Int) → (List Int) → (List Int) → Int → Option (Bool)) (rc_r33_Wins' : (List Int) → (List Int) → (List Int) → (List Int) → Int → Option (Bool)) (h_rc_r33_Wins : ∀ a0 a1 a2 a3 a4, ChO (fun κ => rc_r33_Wins κ a0 a1 a2 a3 a4) (rc_r33_Wins' a0 a1 a2 a3 a4)) (u : (List Int)) (v : (List Int)) (a : (List Int)) (b : (List Int)) (k : Int) : ChO (fun κ => r33_Wins_B (rc_r33_Wins κ) u v a b k) (r33_Wins_B rc_r33_Wins' u v a b k) := by
  unfold r33_Wins_B
  repeat' with_reducible first | exact ChO.const _ | exact h_rc_r33_Wins _ _ _ _ _ | (apply r33_Answer_L2_ch <;> assumption) | (apply r33_Answer_ch <;> assumption) | (apply r33_Wins_L10_ch <;> assumption) | (apply r33_Wins_L4_ch <;> assumption) | apply ChO.ite | apply ChO.G | apply ChO.both | (apply ChO.bind; intro _) | (apply ChO.bind2 (h_rc_r33_Wins _ _ _ _ _); intro _) | (refine ChO.bind2 ?_ (fun _ => ?_))
noncomputable def r33_Wins_F : ((List Int) × (List Int) × (List Int) × (List Int) × Int → Option (Bool)) → (List Int) × (List Int) × (List Int) × (List Int) × Int → Option (Bool) :=
  fun rec X => r33_Wins_B (fun u v a b k => rec (u, v, a, b, k)) X.1 X.2.1 X.2.2.1 X.2.2.2.1 X.2.2.2.2
noncomputable def r33_Wins (u : (List Int)) (v : (List Int)) (a : (List Int)) (b : (List Int)) (k : Int) : Option (Bool) := LFix r33_Wins_F (u, v, a, b, k)
theorem r33_Wins_cn : Cn r33_Wins_F := fun g h hg X => r33_Wins_B_ch _ _ (fun u v a b k => hg (u, v, a, b, k)) X.1 X.2.1 X.2.2.1 X.2.2.2.1 X.2.2.2.2
theorem r33_Wins_eq (u : (List Int)) (v : (List Int)) (a : (List Int)) (b : (List Int)) (k : Int) : r33_Wins u v a b k = r33_Wins_B r33_Wins u v a b k := LFix_eq r33_Wins_cn (u, v, a, b, k)
noncomputable def r33_Answer_c (u : (List Int)) (v : (List Int)) (a : (List Int)) (b : (List Int)) (p : Int) (k : Int) : Option (Int) := r33_Answer r33_Wins u v a b p k

noncomputable def law_EhrenWins (u : (List Int)) (v : (List Int)) (k : Int) (place : Int) : Option (Bool) :=
  (ehren_Wins u v k).bind (fun y'_11 =>
  (ehren_Reply u v k place).bind (fun y'_10 =>
  (r33_Check u v k).bind (fun y'_7 =>
  if (decide (¬ y'_7 = (0 : Int))) = true then
  if (decide (y'_11.2 = y'_7)) = true then
  if (decide (y'_10.2.2 = y'_7)) = true then
  if (!y'_11.1) = true then
  if (!y'_10.2.1) = true then
  some (decide (y'_10.1 = (0 : Int))) else
  some false else
  some false else
  some false else
  some false else
  (r33_Wins u v ([]) ([]) k).bind (fun y'_8 =>
  if (decide (¬ y'_11.2 = (0 : Int))) = true then
  some false else
  if (decide (¬ y'_11.1 = y'_8)) = true then
  some false else
  if (decide (k = (0 : Int))) = true then
  if (decide (y'_10.2.2 = (2 : Int))) = true then
  if (!y'_10.2.1) = true then
  some (decide (y'_10.1 = (0 : Int))) else
  some false else
  some false else
  if (decide (place < (0 : Int))) = true then
  if (decide (y'_10.2.2 = (2 : Int))) = true then
  if (!y'_10.2.1) = true then
  some (decide (y'_10.1 = (0 : Int))) else
  some false else
  some false else
  if (decide ((u.length : Int) ≤ place)) = true then
  if (decide (y'_10.2.2 = (2 : Int))) = true then
  if (!y'_10.2.1) = true then
  some (decide (y'_10.1 = (0 : Int))) else
  some false else
  some false else
  G (fits (k - (1 : Int))) (
  (r33_Answer_c u v ([]) ([]) place (k - (1 : Int))).bind (fun y'_9 =>
  if (decide (y'_9 < (0 : Int))) = true then
  if (decide (y'_10.2.2 = (0 : Int))) = true then
  if (!y'_10.2.1) = true then
  some (decide (y'_10.1 = (0 : Int))) else
  some false else
  some false else
  if (decide (y'_10.2.2 = (0 : Int))) = true then
  if y'_10.2.1 = true then
  some (decide (y'_10.1 = y'_9)) else
  some false else
  some false))))))

end Go.Proofs.Ytmnpdkeigdaelaa.ehrenWinsW
