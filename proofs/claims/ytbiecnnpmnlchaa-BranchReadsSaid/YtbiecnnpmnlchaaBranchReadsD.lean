/- What the functions that 'BranchReads' reaches compute: plain functions. -/
import Derived.Test.YtbiecnnpmnlchaaEv25n21
set_option maxHeartbeats 1000000
set_option maxRecDepth 20000
set_option linter.unusedSimpArgs false
set_option linter.unusedVariables false
set_option linter.unusedSectionVars false
namespace Go.Proofs.Ytbiecnnpmnlchaa.branchReadsW
open Go Go.Ab
abbrev Tp3 := (Int × Bool × Int × Unit)
abbrev Tp2 := (Int × Bool × Int × Int × Int × Unit)
abbrev Tp1 := (List Tp2)
noncomputable def branch_reader_now (r : ((List UInt8) × Int × Int × Int × Unit)) : Option (Int) :=
  if (decide (r.2.1 < (r.1.length : Int))) = true then
  G (0 ≤ r.2.1 ∧ r.2.1 < (r.1.length : Int)) (
  some (bAt r.1 r.2.1)) else
  some (0 : Int)

noncomputable def branch_reader_fail (r : ((List UInt8) × Int × Int × Int × Unit)) (code : Int) : Option ((Unit) ⊕ (Int × Int)) :=
  some (.inr ((((code, (r.2.1, ())), ())).1.1, (((code, (r.2.1, ())), ())).1.2.1))

noncomputable def branch_reader_counted (c : (List UInt8)) (c_1 : Int) (c_2 : Int) (c_3 : Int) : Option (((List UInt8) × Int × Int × Int) ⊕ (Int × Int)) :=
  G (fits (c_3 + (1 : Int))) (
  if (decide ((30 : Int) < (c_3 + (1 : Int)))) = true then
  pbind (branch_reader_fail (c, (c_1, (c_2, (c_3 + (1 : Int), ())))) (7 : Int)) (fun _ =>
  G (fits (c_1 + (1 : Int))) (
  some (.inl (c, c_1 + (1 : Int), c_2, c_3 + (1 : Int))))) (fun p => some (.inr (p.1, p.2))) else
  G (fits (c_1 + (1 : Int))) (
  some (.inl (c, c_1 + (1 : Int), c_2, c_3 + (1 : Int)))))

noncomputable def branch_reader_open (c : (List UInt8)) (c_1 : Int) (c_2 : Int) (c_3 : Int) : Option (((List UInt8) × Int × Int × Int) ⊕ (Int × Int)) :=
  if (decide (c_2 = (40 : Int))) = true then
  pbind (branch_reader_fail (c, (c_1, (c_2, (c_3, ())))) (7 : Int)) (fun _ =>
  G (fits (c_2 + (1 : Int))) (
  G (fits (c_1 + (1 : Int))) (
  some (.inl (c, c_1 + (1 : Int), c_2 + (1 : Int), c_3))))) (fun p => some (.inr (p.1, p.2))) else
  G (fits (c_2 + (1 : Int))) (
  G (fits (c_1 + (1 : Int))) (
  some (.inl (c, c_1 + (1 : Int), c_2 + (1 : Int), c_3))))

noncomputable def branch_reader_want (c : Int) (c_1 : (List UInt8)) (c_2 : Int) (c_3 : Int) (c_4 : Int) : Option (((List UInt8) × Int × Int × Int) ⊕ (Int × Int)) :=
  (branch_reader_now (c_1, (c_2, (c_3, (c_4, ()))))).bind (fun y' =>
  if (decide (¬ y' = c)) = true then
  pbind (branch_reader_fail (c_1, (c_2, (c_3, (c_4, ())))) (4 : Int)) (fun _ =>
  G (fits (c_2 + (1 : Int))) (
  some (.inl (c_1, c_2 + (1 : Int), c_3, c_4)))) (fun p => some (.inr (p.1, p.2))) else
  G (fits (c_2 + (1 : Int))) (
  some (.inl (c_1, c_2 + (1 : Int), c_3, c_4))))

noncomputable def branch_reader_shut (c : (List UInt8)) (c_1 : Int) (c_2 : Int) (c_3 : Int) : Option (((List UInt8) × Int × Int × Int) ⊕ (Int × Int)) :=
  pbind (branch_reader_want (41 : Int) c c_1 c_2 c_3) (fun y'_4 =>
  G (fits (y'_4.2.2.1 - (1 : Int))) (
  some (.inl (y'_4.1, y'_4.2.1, y'_4.2.2.1 - (1 : Int), y'_4.2.2.2)))) (fun p => some (.inr (p.1, p.2)))

noncomputable def branch_reader_term_L2_B (rc_branch_reader_part : (List UInt8) → Int → Int → Int → Option (((Tr Tp3) × (List UInt8) × Int × Int × Int) ⊕ (Int × Int)))  (r2 : (Tr Tp3) → (List UInt8) → Int → Int → Int → Option (((Tr Tp3) × (List UInt8) × Int × Int × Int) ⊕ (Int × Int))) (n : (Tr Tp3)) (r : (List UInt8)) (r_1 : Int) (r_2 : Int) (r_3 : Int) : Option (((Tr Tp3) × (List UInt8) × Int × Int × Int) ⊕ (Int × Int)) :=
  (branch_reader_now (r, (r_1, (r_2, (r_3, ()))))).bind (fun y'_6 =>
  if (decide (y'_6 = (38 : Int))) = true then
  pbind (branch_reader_counted r r_1 r_2 r_3) (fun y'_11 =>
  pbind (rc_branch_reader_part y'_11.1 y'_11.2.1 y'_11.2.2.1 y'_11.2.2.2) (fun y'_17 =>
  r2 (Tr.mk ((38 : Int), (false, ((0 : Int), ()))) ([n, y'_17.1])) y'_17.2.1 y'_17.2.2.1 y'_17.2.2.2.1 y'_17.2.2.2.2) (fun p => some (.inr (p.1, p.2)))) (fun p => some (.inr (p.1, p.2))) else
  some (.inl (n, r, r_1, r_2, r_3)))
noncomputable def branch_reader_term_L2_F (rc_branch_reader_part : (List UInt8) → Int → Int → Int → Option (((Tr Tp3) × (List UInt8) × Int × Int × Int) ⊕ (Int × Int)))  : ((Tr Tp3) × (List UInt8) × Int × Int × Int → Option (((Tr Tp3) × (List UInt8) × Int × Int × Int) ⊕ (Int × Int))) → (Tr Tp3) × (List UInt8) × Int × Int × Int → Option (((Tr Tp3) × (List UInt8) × Int × Int × Int) ⊕ (Int × Int)) :=
  fun rec x => branch_reader_term_L2_B rc_branch_reader_part (fun n r r_1 r_2 r_3 => rec (n, r, r_1, r_2, r_3)) x.1 x.2.1 x.2.2.1 x.2.2.2.1 x.2.2.2.2
noncomputable def branch_reader_term_L2 (rc_branch_reader_part : (List UInt8) → Int → Int → Int → Option (((Tr Tp3) × (List UInt8) × Int × Int × Int) ⊕ (Int × Int)))  (n : (Tr Tp3)) (r : (List UInt8)) (r_1 : Int) (r_2 : Int) (r_3 : Int) : Option (((Tr Tp3) × (List UInt8) × Int × Int × Int) ⊕ (Int × Int)) := LFix (branch_reader_term_L2_F rc_branch_reader_part ) (n, r, r_1, r_2, r_3)
noncomputable def branch_reader_term (rc_branch_reader_part : (List UInt8) → Int → Int → Int → Option (((Tr Tp3) × (List UInt8) × Int × Int × Int) ⊕ (Int × Int))) (c : (List UInt8)) (c_1 : Int) (c_2 : Int) (c_3 : Int) : Option (((Tr Tp3) × (List UInt8) × Int × Int × Int) ⊕ (Int × Int)) :=
  pbind (rc_branch_reader_part c c_1 c_2 c_3) (fun y'_5 =>
  branch_reader_term_L2 rc_branch_reader_part y'_5.1 y'_5.2.1 y'_5.2.2.1 y'_5.2.2.2.1 y'_5.2.2.2.2) (fun p => some (.inr (p.1, p.2)))
noncomputable def branch_reader_whole_L2_B (rc_branch_reader_part : (List UInt8) → Int → Int → Int → Option (((Tr Tp3) × (List UInt8) × Int × Int × Int) ⊕ (Int × Int)))  (r2 : (Tr Tp3) → (List UInt8) → Int → Int → Int → Option (((Tr Tp3) × (List UInt8) × Int × Int × Int) ⊕ (Int × Int))) (n : (Tr Tp3)) (r : (List UInt8)) (r_1 : Int) (r_2 : Int) (r_3 : Int) : Option (((Tr Tp3) × (List UInt8) × Int × Int × Int) ⊕ (Int × Int)) :=
  (branch_reader_now (r, (r_1, (r_2, (r_3, ()))))).bind (fun y'_6 =>
  if (decide (y'_6 = (124 : Int))) = true then
  pbind (branch_reader_counted r r_1 r_2 r_3) (fun y'_11 =>
  pbind (branch_reader_term rc_branch_reader_part y'_11.1 y'_11.2.1 y'_11.2.2.1 y'_11.2.2.2) (fun y'_17 =>
  r2 (Tr.mk ((124 : Int), (false, ((0 : Int), ()))) ([n, y'_17.1])) y'_17.2.1 y'_17.2.2.1 y'_17.2.2.2.1 y'_17.2.2.2.2) (fun p => some (.inr (p.1, p.2)))) (fun p => some (.inr (p.1, p.2))) else
  some (.inl (n, r, r_1, r_2, r_3)))
noncomputable def branch_reader_whole_L2_F (rc_branch_reader_part : (List UInt8) → Int → Int → Int → Option (((Tr Tp3) × (List UInt8) × Int × Int × Int) ⊕ (Int × Int)))  : ((Tr Tp3) × (List UInt8) × Int × Int × Int → Option (((Tr Tp3) × (List UInt8) × Int × Int × Int) ⊕ (Int × Int))) → (Tr Tp3) × (List UInt8) × Int × Int × Int → Option (((Tr Tp3) × (List UInt8) × Int × Int × Int) ⊕ (Int × Int)) :=
  fun rec x => branch_reader_whole_L2_B rc_branch_reader_part (fun n r r_1 r_2 r_3 => rec (n, r, r_1, r_2, r_3)) x.1 x.2.1 x.2.2.1 x.2.2.2.1 x.2.2.2.2
noncomputable def branch_reader_whole_L2 (rc_branch_reader_part : (List UInt8) → Int → Int → Int → Option (((Tr Tp3) × (List UInt8) × Int × Int × Int) ⊕ (Int × Int)))  (n : (Tr Tp3)) (r : (List UInt8)) (r_1 : Int) (r_2 : Int) (r_3 : Int) : Option (((Tr Tp3) × (List UInt8) × Int × Int × Int) ⊕ (Int × Int)) := LFix (branch_reader_whole_L2_F rc_branch_reader_part ) (n, r, r_1, r_2, r_3)
noncomputable def branch_reader_whole (rc_branch_reader_part : (List UInt8) → Int → Int → Int → Option (((Tr Tp3) × (List UInt8) × Int × Int × Int) ⊕ (Int × Int))) (c : (List UInt8)) (c_1 : Int) (c_2 : Int) (c_3 : Int) : Option (((Tr Tp3) × (List UInt8) × Int × Int × Int) ⊕ (Int × Int)) :=
  pbind (branch_reader_term rc_branch_reader_part c c_1 c_2 c_3) (fun y'_5 =>
  branch_reader_whole_L2 rc_branch_reader_part y'_5.1 y'_5.2.1 y'_5.2.2.1 y'_5.2.2.2.1 y'_5.2.2.2.2) (fun p => some (.inr (p.1, p.2)))
noncomputable def branch_reader_ways_J6 (rc_branch_reader_part : (List UInt8) → Int → Int → Int → Option (((Tr Tp3) × (List UInt8) × Int × Int × Int) ⊕ (Int × Int))) (all' : Bool) (y' : (List UInt8)) (y'_1 : Int) (y'_2 : Int) (y'_3 : Int) (y'_5 : Int) (t : Bool) : Option (((Tr Tp3) × (List UInt8) × Int × Int × Int) ⊕ (Int × Int)) :=
  if t = true then
  G (fits (y'_1 + (1 : Int))) (
  pbind (rc_branch_reader_part y' (y'_1 + (1 : Int)) y'_2 y'_3) (fun y'_11 =>
  some (.inl (Tr.mk (y'_5, (all', ((0 : Int), ()))) ([y'_11.1]), y'_11.2.1, y'_11.2.2.1, y'_11.2.2.2.1, y'_11.2.2.2.2))) (fun p => some (.inr (p.1, p.2)))) else
  if (decide (y'_5 = (40 : Int))) = true then
  pbind (branch_reader_open y' y'_1 y'_2 y'_3) (fun y'_16 =>
  pbind (branch_reader_whole rc_branch_reader_part y'_16.1 y'_16.2.1 y'_16.2.2.1 y'_16.2.2.2) (fun y'_22 =>
  pbind (branch_reader_want (85 : Int) y'_22.2.1 y'_22.2.2.1 y'_22.2.2.2.1 y'_22.2.2.2.2) (fun y'_27 =>
  pbind (branch_reader_whole rc_branch_reader_part y'_27.1 y'_27.2.1 y'_27.2.2.1 y'_27.2.2.2) (fun y'_33 =>
  pbind (branch_reader_shut y'_33.2.1 y'_33.2.2.1 y'_33.2.2.2.1 y'_33.2.2.2.2) (fun y'_38 =>
  some (.inl (Tr.mk ((85 : Int), (all', ((0 : Int), ()))) ([y'_22.1, y'_33.1]), y'_38.1, y'_38.2.1, y'_38.2.2.1, y'_38.2.2.2))) (fun p => some (.inr (p.1, p.2)))) (fun p => some (.inr (p.1, p.2)))) (fun p => some (.inr (p.1, p.2)))) (fun p => some (.inr (p.1, p.2)))) (fun p => some (.inr (p.1, p.2))) else
  pbind (branch_reader_fail (y', (y'_1, (y'_2, (y'_3, ())))) (4 : Int)) (fun _ =>
  some (.inl (Tr.nil, y', y'_1, y'_2, y'_3))) (fun p => some (.inr (p.1, p.2)))
noncomputable def branch_reader_ways (rc_branch_reader_part : (List UInt8) → Int → Int → Int → Option (((Tr Tp3) × (List UInt8) × Int × Int × Int) ⊕ (Int × Int))) (all' : Bool) (c : (List UInt8)) (c_1 : Int) (c_2 : Int) (c_3 : Int) : Option (((Tr Tp3) × (List UInt8) × Int × Int × Int) ⊕ (Int × Int)) :=
  pbind (branch_reader_counted c c_1 c_2 c_3) (fun y'_4 =>
  (branch_reader_now (y'_4.1, (y'_4.2.1, (y'_4.2.2.1, (y'_4.2.2.2, ()))))).bind (fun y'_5 =>
  if (decide (y'_5 = (88 : Int))) = true then
  branch_reader_ways_J6 rc_branch_reader_part all' y'_4.1 y'_4.2.1 y'_4.2.2.1 y'_4.2.2.2 y'_5 (decide (y'_5 = (88 : Int))) else
  if (decide (y'_5 = (70 : Int))) = true then
  branch_reader_ways_J6 rc_branch_reader_part all' y'_4.1 y'_4.2.1 y'_4.2.2.1 y'_4.2.2.2 y'_5 (decide (y'_5 = (70 : Int))) else
  branch_reader_ways_J6 rc_branch_reader_part all' y'_4.1 y'_4.2.1 y'_4.2.2.1 y'_4.2.2.2 y'_5 (decide (y'_5 = (71 : Int))))) (fun p => some (.inr (p.1, p.2)))
noncomputable def branch_reader_part_J14 (rc_branch_reader_part : (List UInt8) → Int → Int → Int → Option (((Tr Tp3) × (List UInt8) × Int × Int × Int) ⊕ (Int × Int))) (c : (List UInt8)) (c_1 : Int) (c_2 : Int) (c_3 : Int) : Option (((Tr Tp3) × (List UInt8) × Int × Int × Int) ⊕ (Int × Int)) :=
  pbind (branch_reader_open c c_1 c_2 c_3) (fun y'_33 =>
  pbind (branch_reader_whole rc_branch_reader_part y'_33.1 y'_33.2.1 y'_33.2.2.1 y'_33.2.2.2) (fun y'_39 =>
  pbind (branch_reader_shut y'_39.2.1 y'_39.2.2.1 y'_39.2.2.2.1 y'_39.2.2.2.2) (fun y'_44 =>
  some (.inl (y'_39.1, y'_44.1, y'_44.2.1, y'_44.2.2.1, y'_44.2.2.2))) (fun p => some (.inr (p.1, p.2)))) (fun p => some (.inr (p.1, p.2)))) (fun p => some (.inr (p.1, p.2)))
noncomputable def branch_reader_part_J11 (rc_branch_reader_part : (List UInt8) → Int → Int → Int → Option (((Tr Tp3) × (List UInt8) × Int × Int × Int) ⊕ (Int × Int))) (c : (List UInt8)) (c_1 : Int) (c_2 : Int) (c_3 : Int) (y' : Int) (t_2 : Bool) : Option (((Tr Tp3) × (List UInt8) × Int × Int × Int) ⊕ (Int × Int)) :=
  if t_2 = true then
  pbind (branch_reader_ways rc_branch_reader_part (decide (y' = (65 : Int))) c c_1 c_2 c_3) (fun y'_27 =>
  some (.inl (y'_27.1, y'_27.2.1, y'_27.2.2.1, y'_27.2.2.2.1, y'_27.2.2.2.2))) (fun p => some (.inr (p.1, p.2))) else
  if (decide (¬ y' = (40 : Int))) = true then
  pbind (branch_reader_fail (c, (c_1, (c_2, (c_3, ())))) (4 : Int)) (fun _ =>
  branch_reader_part_J14 rc_branch_reader_part c c_1 c_2 c_3) (fun p => some (.inr (p.1, p.2))) else
  branch_reader_part_J14 rc_branch_reader_part c c_1 c_2 c_3
noncomputable def branch_reader_part_J5 (rc_branch_reader_part : (List UInt8) → Int → Int → Int → Option (((Tr Tp3) × (List UInt8) × Int × Int × Int) ⊕ (Int × Int))) (c : (List UInt8)) (c_1 : Int) (c_2 : Int) (c_3 : Int) (y' : Int) (t_1 : Bool) : Option (((Tr Tp3) × (List UInt8) × Int × Int × Int) ⊕ (Int × Int)) :=
  if t_1 = true then
  pbind (branch_reader_counted c c_1 c_2 c_3) (fun y'_10 =>
  some (.inl (Tr.mk ((97 : Int), (false, (IntKind.wrap .i64 (IntKind.wrap .u8 (y' - (97 : Int))), ()))) ([]), y'_10.1, y'_10.2.1, y'_10.2.2.1, y'_10.2.2.2))) (fun p => some (.inr (p.1, p.2))) else
  if (decide (y' = (33 : Int))) = true then
  pbind (branch_reader_counted c c_1 c_2 c_3) (fun y'_15 =>
  pbind (rc_branch_reader_part y'_15.1 y'_15.2.1 y'_15.2.2.1 y'_15.2.2.2) (fun y'_21 =>
  some (.inl (Tr.mk ((33 : Int), (false, ((0 : Int), ()))) ([y'_21.1]), y'_21.2.1, y'_21.2.2.1, y'_21.2.2.2.1, y'_21.2.2.2.2))) (fun p => some (.inr (p.1, p.2)))) (fun p => some (.inr (p.1, p.2))) else
  if (decide (y' = (69 : Int))) = true then
  branch_reader_part_J11 rc_branch_reader_part c c_1 c_2 c_3 y' true else
  branch_reader_part_J11 rc_branch_reader_part c c_1 c_2 c_3 y' (decide (y' = (65 : Int)))
noncomputable def branch_reader_part_J2 (rc_branch_reader_part : (List UInt8) → Int → Int → Int → Option (((Tr Tp3) × (List UInt8) × Int × Int × Int) ⊕ (Int × Int))) (c : (List UInt8)) (c_1 : Int) (c_2 : Int) (c_3 : Int) (y' : Int) (t : Bool) : Option (((Tr Tp3) × (List UInt8) × Int × Int × Int) ⊕ (Int × Int)) :=
  if t = true then
  pbind (branch_reader_counted c c_1 c_2 c_3) (fun y'_5 =>
  some (.inl (Tr.mk (y', (false, ((0 : Int), ()))) ([]), y'_5.1, y'_5.2.1, y'_5.2.2.1, y'_5.2.2.2))) (fun p => some (.inr (p.1, p.2))) else
  if (decide ((97 : Int) ≤ y')) = true then
  branch_reader_part_J5 rc_branch_reader_part c c_1 c_2 c_3 y' (decide (y' ≤ (100 : Int))) else
  branch_reader_part_J5 rc_branch_reader_part c c_1 c_2 c_3 y' false
noncomputable def branch_reader_part_B (rc_branch_reader_part : (List UInt8) → Int → Int → Int → Option (((Tr Tp3) × (List UInt8) × Int × Int × Int) ⊕ (Int × Int))) (c : (List UInt8)) (c_1 : Int) (c_2 : Int) (c_3 : Int) : Option (((Tr Tp3) × (List UInt8) × Int × Int × Int) ⊕ (Int × Int)) :=
  (branch_reader_now (c, (c_1, (c_2, (c_3, ()))))).bind (fun y' =>
  if (decide (y' = (48 : Int))) = true then
  branch_reader_part_J2 rc_branch_reader_part c c_1 c_2 c_3 y' true else
  branch_reader_part_J2 rc_branch_reader_part c c_1 c_2 c_3 y' (decide (y' = (49 : Int))))
theorem branch_reader_term_L2_B_ch (rc_branch_reader_part : Nat → (List UInt8) → Int → Int → Int → Option (((Tr Tp3) × (List UInt8) × Int × Int × Int) ⊕ (Int × Int))) (rc_branch_reader_part' : (List UInt8) → Int → Int → Int → Option (((Tr Tp3) × (List UInt8) × Int × Int × Int) ⊕ (Int × Int))) (h_rc_branch_reader_part : ∀ a0 a1 a2 a3, ChO (fun κ => rc_branch_reader_part κ a0 a1 a2 a3) (rc_branch_reader_part' a0 a1 a2 a3)) (r2 : Nat → (Tr Tp3) → (List UInt8) → Int → Int → Int → Option (((Tr Tp3) × (List UInt8) × Int × Int × Int) ⊕ (Int × Int))) (r2' : (Tr Tp3) → (List UInt8) → Int → Int → Int → Option (((Tr Tp3) × (List UInt8) × Int × Int × Int) ⊕ (Int × Int))) (h_r2 : ∀ a0 a1 a2 a3 a4, ChO (fun κ => r2 κ a0 a1 a2 a3 a4) (r2' a0 a1 a2 a3 a4)) (n : (Tr Tp3)) (r : (List UInt8)) (r_1 : Int) (r_2 : Int) (r_3 : Int) : ChO (fun κ => branch_reader_term_L2_B (rc_branch_reader_part κ) (r2 κ) n r r_1 r_2 r_3) (branch_reader_term_L2_B rc_branch_reader_part' r2' n r r_1 r_2 r_3) := by
  unfold branch_reader_term_L2_B
  repeat' with_reducible first | exact ChO.const _ | exact h_rc_branch_reader_part _ _ _ _ | exact h_r2 _ _ _ _ _ | apply ChO.ite | apply ChO.G | apply ChO.both | apply ChO.bothS | (apply ChO.bind; intro _) | (apply ChO.bind2 (h_rc_branch_reader_part _ _ _ _); intro _) | (refine ChO.bind2 ?_ (fun _ => ?_)) | (refine ChO.pbind (fun _ => ?_) (fun _ => ?_)) | (refine ChO.pbind2 ?_ (fun _ => ?_) (fun _ => ?_))
theorem branch_reader_term_L2_cn (rc_branch_reader_part : (List UInt8) → Int → Int → Int → Option (((Tr Tp3) × (List UInt8) × Int × Int × Int) ⊕ (Int × Int)))  : Cn (branch_reader_term_L2_F rc_branch_reader_part) := fun g h hg x => branch_reader_term_L2_B_ch (fun _ => rc_branch_reader_part) rc_branch_reader_part (fun _ _ _ _ => ChO.const _) (fun κ n r r_1 r_2 r_3 => g κ (n, r, r_1, r_2, r_3)) (fun n r r_1 r_2 r_3 => h (n, r, r_1, r_2, r_3)) (fun n r r_1 r_2 r_3 => hg (n, r, r_1, r_2, r_3))  x.1 x.2.1 x.2.2.1 x.2.2.2.1 x.2.2.2.2
theorem branch_reader_term_L2_eq (rc_branch_reader_part : (List UInt8) → Int → Int → Int → Option (((Tr Tp3) × (List UInt8) × Int × Int × Int) ⊕ (Int × Int)))  (n : (Tr Tp3)) (r : (List UInt8)) (r_1 : Int) (r_2 : Int) (r_3 : Int) : branch_reader_term_L2 rc_branch_reader_part n r r_1 r_2 r_3 = branch_reader_term_L2_B rc_branch_reader_part (branch_reader_term_L2 rc_branch_reader_part) n r r_1 r_2 r_3 := LFix_eq (branch_reader_term_L2_cn rc_branch_reader_part) (n, r, r_1, r_2, r_3)
theorem branch_reader_term_L2_ch (rc_branch_reader_part : Nat → (List UInt8) → Int → Int → Int → Option (((Tr Tp3) × (List UInt8) × Int × Int × Int) ⊕ (Int × Int))) (rc_branch_reader_part' : (List UInt8) → Int → Int → Int → Option (((Tr Tp3) × (List UInt8) × Int × Int × Int) ⊕ (Int × Int))) (h_rc_branch_reader_part : ∀ a0 a1 a2 a3, ChO (fun κ => rc_branch_reader_part κ a0 a1 a2 a3) (rc_branch_reader_part' a0 a1 a2 a3))  (n : (Tr Tp3)) (r : (List UInt8)) (r_1 : Int) (r_2 : Int) (r_3 : Int) : ChO (fun κ => branch_reader_term_L2 (rc_branch_reader_part κ) n r r_1 r_2 r_3) (branch_reader_term_L2 rc_branch_reader_part' n r r_1 r_2 r_3) := by
  unfold branch_reader_term_L2
  exact LFix_ch (fun κ => (branch_reader_term_L2_cn (rc_branch_reader_part κ) ).mono) (branch_reader_term_L2_cn rc_branch_reader_part' ).mono (fun g h hg x => branch_reader_term_L2_B_ch rc_branch_reader_part rc_branch_reader_part' h_rc_branch_reader_part (fun κ n r r_1 r_2 r_3 => g κ (n, r, r_1, r_2, r_3)) (fun n r r_1 r_2 r_3 => h (n, r, r_1, r_2, r_3)) (fun n r r_1 r_2 r_3 => hg (n, r, r_1, r_2, r_3))  x.1 x.2.1 x.2.2.1 x.2.2.2.1 x.2.2.2.2) _
theorem branch_reader_term_ch (rc_branch_reader_part : Nat → (List UInt8) → Int → Int → Int → Option (((Tr Tp3) × (List UInt8) × Int × Int × Int) ⊕ (Int × Int))) (rc_branch_reader_part' : (List UInt8) → Int → Int → Int → Option (((Tr Tp3) × (List UInt8) × Int × Int × Int) ⊕ (Int × Int))) (h_rc_branch_reader_part : ∀ a0 a1 a2 a3, ChO (fun κ => rc_branch_reader_part κ a0 a1 a2 a3) (rc_branch_reader_part' a0 a1 a2 a3)) (c : (List UInt8)) (c_1 : Int) (c_2 : Int) (c_3 : Int) : ChO (fun κ => branch_reader_term (rc_branch_reader_part κ) c c_1 c_2 c_3) (branch_reader_term rc_branch_reader_part' c c_1 c_2 c_3) := by
  unfold branch_reader_term
  repeat' with_reducible first | exact ChO.const _ | exact h_rc_branch_reader_part _ _ _ _ | (apply branch_reader_term_L2_ch <;> assumption) | apply ChO.ite | apply ChO.G | apply ChO.both | apply ChO.bothS | (apply ChO.bind; intro _) | (apply ChO.bind2 (h_rc_branch_reader_part _ _ _ _); intro _) | (refine ChO.bind2 ?_ (fun _ => ?_)) | (refine ChO.pbind (fun _ => ?_) (fun _ => ?_)) | (refine ChO.pbind2 ?_ (fun _ => ?_) (fun _ => ?_))
theorem branch_reader_whole_L2_B_ch (rc_branch_reader_part : Nat → (List UInt8) → Int → Int → Int → Option (((Tr Tp3) × (List UInt8) × Int × Int × Int) ⊕ (Int × Int))) (rc_branch_reader_part' : (List UInt8) → Int → Int → Int → Option (((Tr Tp3) × (List UInt8) × Int × Int × Int) ⊕ (Int × Int))) (h_rc_branch_reader_part : ∀ a0 a1 a2 a3, ChO (fun κ => rc_branch_reader_part κ a0 a1 a2 a3) (rc_branch_reader_part' a0 a1 a2 a3)) (r2 : Nat → (Tr Tp3) → (List UInt8) → Int → Int → Int → Option (((Tr Tp3) × (List UInt8) × Int × Int × Int) ⊕ (Int × Int))) (r2' : (Tr Tp3) → (List UInt8) → Int → Int → Int → Option (((Tr Tp3) × (List UInt8) × Int × Int × Int) ⊕ (Int × Int))) (h_r2 : ∀ a0 a1 a2 a3 a4, ChO (fun κ => r2 κ a0 a1 a2 a3 a4) (r2' a0 a1 a2 a3 a4)) (n : (Tr Tp3)) (r : (List UInt8)) (r_1 : Int) (r_2 : Int) (r_3 : Int) : ChO (fun κ => branch_reader_whole_L2_B (rc_branch_reader_part κ) (r2 κ) n r r_1 r_2 r_3) (branch_reader_whole_L2_B rc_branch_reader_part' r2' n r r_1 r_2 r_3) := by
  unfold branch_reader_whole_L2_B
  repeat' with_reducible first | exact ChO.const _ | exact h_rc_branch_reader_part _ _ _ _ | exact h_r2 _ _ _ _ _ | (apply branch_reader_term_L2_ch <;> assumption) | (apply branch_reader_term_ch <;> assumption) | apply ChO.ite | apply ChO.G | apply ChO.both | apply ChO.bothS | (apply ChO.bind; intro _) | (apply ChO.bind2 (h_rc_branch_reader_part _ _ _ _); intro _) | (refine ChO.bind2 ?_ (fun _ => ?_)) | (refine ChO.pbind (fun _ => ?_) (fun _ => ?_)) | (refine ChO.pbind2 ?_ (fun _ => ?_) (fun _ => ?_))
theorem branch_reader_whole_L2_cn (rc_branch_reader_part : (List UInt8) → Int → Int → Int → Option (((Tr Tp3) × (List UInt8) × Int × Int × Int) ⊕ (Int × Int)))  : Cn (branch_reader_whole_L2_F rc_branch_reader_part) := fun g h hg x => branch_reader_whole_L2_B_ch (fun _ => rc_branch_reader_part) rc_branch_reader_part (fun _ _ _ _ => ChO.const _) (fun κ n r r_1 r_2 r_3 => g κ (n, r, r_1, r_2, r_3)) (fun n r r_1 r_2 r_3 => h (n, r, r_1, r_2, r_3)) (fun n r r_1 r_2 r_3 => hg (n, r, r_1, r_2, r_3))  x.1 x.2.1 x.2.2.1 x.2.2.2.1 x.2.2.2.2
theorem branch_reader_whole_L2_eq (rc_branch_reader_part : (List UInt8) → Int → Int → Int → Option (((Tr Tp3) × (List UInt8) × Int × Int × Int) ⊕ (Int × Int)))  (n : (Tr Tp3)) (r : (List UInt8)) (r_1 : Int) (r_2 : Int) (r_3 : Int) : branch_reader_whole_L2 rc_branch_reader_part n r r_1 r_2 r_3 = branch_reader_whole_L2_B rc_branch_reader_part (branch_reader_whole_L2 rc_branch_reader_part) n r r_1 r_2 r_3 := LFix_eq (branch_reader_whole_L2_cn rc_branch_reader_part) (n, r, r_1, r_2, r_3)
theorem branch_reader_whole_L2_ch (rc_branch_reader_part : Nat → (List UInt8) → Int → Int → Int → Option (((Tr Tp3) × (List UInt8) × Int × Int × Int) ⊕ (Int × Int))) (rc_branch_reader_part' : (List UInt8) → Int → Int → Int → Option (((Tr Tp3) × (List UInt8) × Int × Int × Int) ⊕ (Int × Int))) (h_rc_branch_reader_part : ∀ a0 a1 a2 a3, ChO (fun κ => rc_branch_reader_part κ a0 a1 a2 a3) (rc_branch_reader_part' a0 a1 a2 a3))  (n : (Tr Tp3)) (r : (List UInt8)) (r_1 : Int) (r_2 : Int) (r_3 : Int) : ChO (fun κ => branch_reader_whole_L2 (rc_branch_reader_part κ) n r r_1 r_2 r_3) (branch_reader_whole_L2 rc_branch_reader_part' n r r_1 r_2 r_3) := by
  unfold branch_reader_whole_L2
  exact LFix_ch (fun κ => (branch_reader_whole_L2_cn (rc_branch_reader_part κ) ).mono) (branch_reader_whole_L2_cn rc_branch_reader_part' ).mono (fun g h hg x => branch_reader_whole_L2_B_ch rc_branch_reader_part rc_branch_reader_part' h_rc_branch_reader_part (fun κ n r r_1 r_2 r_3 => g κ (n, r, r_1, r_2, r_3)) (fun n r r_1 r_2 r_3 => h (n, r, r_1, r_2, r_3)) (fun n r r_1 r_2 r_3 => hg (n, r, r_1, r_2, r_3))  x.1 x.2.1 x.2.2.1 x.2.2.2.1 x.2.2.2.2) _
theorem branch_reader_whole_ch (rc_branch_reader_part : Nat → (List UInt8) → Int → Int → Int → Option (((Tr Tp3) × (List UInt8) × Int × Int × Int) ⊕ (Int × Int))) (rc_branch_reader_part' : (List UInt8) → Int → Int → Int → Option (((Tr Tp3) × (List UInt8) × Int × Int × Int) ⊕ (Int × Int))) (h_rc_branch_reader_part : ∀ a0 a1 a2 a3, ChO (fun κ => rc_branch_reader_part κ a0 a1 a2 a3) (rc_branch_reader_part' a0 a1 a2 a3)) (c : (List UInt8)) (c_1 : Int) (c_2 : Int) (c_3 : Int) : ChO (fun κ => branch_reader_whole (rc_branch_reader_part κ) c c_1 c_2 c_3) (branch_reader_whole rc_branch_reader_part' c c_1 c_2 c_3) := by
  unfold branch_reader_whole
  repeat' with_reducible first | exact ChO.const _ | exact h_rc_branch_reader_part _ _ _ _ | (apply branch_reader_term_L2_ch <;> assumption) | (apply branch_reader_term_ch <;> assumption) | (apply branch_reader_whole_L2_ch <;> assumption) | apply ChO.ite | apply ChO.G | apply ChO.both | apply ChO.bothS | (apply ChO.bind; intro _) | (apply ChO.bind2 (h_rc_branch_reader_part _ _ _ _); intro _) | (refine ChO.bind2 ?_ (fun _ => ?_)) | (refine ChO.pbind (fun _ => ?_) (fun _ => ?_)) | (refine ChO.pbind2 ?_ (fun _ => ?_) (fun _ => ?_))
theorem branch_reader_ways_J6_ch (rc_branch_reader_part : Nat → (List UInt8) → Int → Int → Int → Option (((Tr Tp3) × (List UInt8) × Int × Int × Int) ⊕ (Int × Int))) (rc_branch_reader_part' : (List UInt8) → Int → Int → Int → Option (((Tr Tp3) × (List UInt8) × Int × Int × Int) ⊕ (Int × Int))) (h_rc_branch_reader_part : ∀ a0 a1 a2 a3, ChO (fun κ => rc_branch_reader_part κ a0 a1 a2 a3) (rc_branch_reader_part' a0 a1 a2 a3)) (all' : Bool) (y' : (List UInt8)) (y'_1 : Int) (y'_2 : Int) (y'_3 : Int) (y'_5 : Int) (t : Bool) : ChO (fun κ => branch_reader_ways_J6 (rc_branch_reader_part κ) all' y' y'_1 y'_2 y'_3 y'_5 t) (branch_reader_ways_J6 rc_branch_reader_part' all' y' y'_1 y'_2 y'_3 y'_5 t) := by
  unfold branch_reader_ways_J6
  repeat' with_reducible first | exact ChO.const _ | exact h_rc_branch_reader_part _ _ _ _ | (apply branch_reader_term_L2_ch <;> assumption) | (apply branch_reader_term_ch <;> assumption) | (apply branch_reader_whole_L2_ch <;> assumption) | (apply branch_reader_whole_ch <;> assumption) | apply ChO.ite | apply ChO.G | apply ChO.both | apply ChO.bothS | (apply ChO.bind; intro _) | (apply ChO.bind2 (h_rc_branch_reader_part _ _ _ _); intro _) | (refine ChO.bind2 ?_ (fun _ => ?_)) | (refine ChO.pbind (fun _ => ?_) (fun _ => ?_)) | (refine ChO.pbind2 ?_ (fun _ => ?_) (fun _ => ?_))
theorem branch_reader_ways_ch (rc_branch_reader_part : Nat → (List UInt8) → Int → Int → Int → Option (((Tr Tp3) × (List UInt8) × Int × Int × Int) ⊕ (Int × Int))) (rc_branch_reader_part' : (List UInt8) → Int → Int → Int → Option (((Tr Tp3) × (List UInt8) × Int × Int × Int) ⊕ (Int × Int))) (h_rc_branch_reader_part : ∀ a0 a1 a2 a3, ChO (fun κ => rc_branch_reader_part κ a0 a1 a2 a3) (rc_branch_reader_part' a0 a1 a2 a3)) (all' : Bool) (c : (List UInt8)) (c_1 : Int) (c_2 : Int) (c_3 : Int) : ChO (fun κ => branch_reader_ways (rc_branch_reader_part κ) all' c c_1 c_2 c_3) (branch_reader_ways rc_branch_reader_part' all' c c_1 c_2 c_3) := by
  unfold branch_reader_ways
  repeat' with_reducible first | exact ChO.const _ | exact h_rc_branch_reader_part _ _ _ _ | (apply branch_reader_term_L2_ch <;> assumption) | (apply branch_reader_term_ch <;> assumption) | (apply branch_reader_whole_L2_ch <;> assumption) | (apply branch_reader_whole_ch <;> assumption) | (apply branch_reader_ways_J6_ch <;> assumption) | apply ChO.ite | apply ChO.G | apply ChO.both | apply ChO.bothS | (apply ChO.bind; intro _) | (apply ChO.bind2 (h_rc_branch_reader_part _ _ _ _); intro _) | (refine ChO.bind2 ?_ (fun _ => ?_)) | (refine ChO.pbind (fun _ => ?_) (fun _ => ?_)) | (refine ChO.pbind2 ?_ (fun _ => ?_) (fun _ => ?_))
theorem branch_reader_part_J14_ch (rc_branch_reader_part : Nat → (List UInt8) → Int → Int → Int → Option (((Tr Tp3) × (List UInt8) × Int × Int × Int) ⊕ (Int × Int))) (rc_branch_reader_part' : (List UInt8) → Int → Int → Int → Option (((Tr Tp3) × (List UInt8) × Int × Int × Int) ⊕ (Int × Int))) (h_rc_branch_reader_part : ∀ a0 a1 a2 a3, ChO (fun κ => rc_branch_reader_part κ a0 a1 a2 a3) (rc_branch_reader_part' a0 a1 a2 a3)) (c : (List UInt8)) (c_1 : Int) (c_2 : Int) (c_3 : Int) : ChO (fun κ => branch_reader_part_J14 (rc_branch_reader_part κ) c c_1 c_2 c_3) (branch_reader_part_J14 rc_branch_reader_part' c c_1 c_2 c_3) := by
  unfold branch_reader_part_J14
  repeat' with_reducible first | exact ChO.const _ | exact h_rc_branch_reader_part _ _ _ _ | (apply branch_reader_term_L2_ch <;> assumption) | (apply branch_reader_term_ch <;> assumption) | (apply branch_reader_whole_L2_ch <;> assumption) | (apply branch_reader_whole_ch <;> assumption) | (apply branch_reader_ways_J6_ch <;> assumption) | (apply branch_reader_ways_ch <;> assumption) | apply ChO.ite | apply ChO.G | apply ChO.both | apply ChO.bothS | (apply ChO.bind; intro _) | (apply ChO.bind2 (h_rc_branch_reader_part _ _ _ _); intro _) | (refine ChO.bind2 ?_ (fun _ => ?_)) | (refine ChO.pbind (fun _ => ?_) (fun _ => ?_)) | (refine ChO.pbind2 ?_ (fun _ => ?_) (fun _ => ?_))
theorem branch_reader_part_J11_ch (rc_branch_reader_part : Nat → (List UInt8) → Int → Int → Int → Option (((Tr Tp3) × (List UInt8) × Int × Int × Int) ⊕ (Int × Int))) (rc_branch_reader_part' : (List UInt8) → Int → Int → Int → Option (((Tr Tp3) × (List UInt8) × Int × Int × Int) ⊕ (Int × Int))) (h_rc_branch_reader_part : ∀ a0 a1 a2 a3, ChO (fun κ => rc_branch_reader_part κ a0 a1 a2 a3) (rc_branch_reader_part' a0 a1 a2 a3)) (c : (List UInt8)) (c_1 : Int) (c_2 : Int) (c_3 : Int) (y' : Int) (t_2 : Bool) : ChO (fun κ => branch_reader_part_J11 (rc_branch_reader_part κ) c c_1 c_2 c_3 y' t_2) (branch_reader_part_J11 rc_branch_reader_part' c c_1 c_2 c_3 y' t_2) := by
  unfold branch_reader_part_J11
  repeat' with_reducible first | exact ChO.const _ | exact h_rc_branch_reader_part _ _ _ _ | (apply branch_reader_term_L2_ch <;> assumption) | (apply branch_reader_term_ch <;> assumption) | (apply branch_reader_whole_L2_ch <;> assumption) | (apply branch_reader_whole_ch <;> assumption) | (apply branch_reader_ways_J6_ch <;> assumption) | (apply branch_reader_ways_ch <;> assumption) | (apply branch_reader_part_J14_ch <;> assumption) | apply ChO.ite | apply ChO.G | apply ChO.both | apply ChO.bothS | (apply ChO.bind; intro _) | (apply ChO.bind2 (h_rc_branch_reader_part _ _ _ _); intro _) | (refine ChO.bind2 ?_ (fun _ => ?_)) | (refine ChO.pbind (fun _ => ?_) (fun _ => ?_)) | (refine ChO.pbind2 ?_ (fun _ => ?_) (fun _ => ?_))
theorem branch_reader_part_J5_ch (rc_branch_reader_part : Nat → (List UInt8) → Int → Int → Int → Option (((Tr Tp3) × (List UInt8) × Int × Int × Int) ⊕ (Int × Int))) (rc_branch_reader_part' : (List UInt8) → Int → Int → Int → Option (((Tr Tp3) × (List UInt8) × Int × Int × Int) ⊕ (Int × Int))) (h_rc_branch_reader_part : ∀ a0 a1 a2 a3, ChO (fun κ => rc_branch_reader_part κ a0 a1 a2 a3) (rc_branch_reader_part' a0 a1 a2 a3)) (c : (List UInt8)) (c_1 : Int) (c_2 : Int) (c_3 : Int) (y' : Int) (t_1 : Bool) : ChO (fun κ => branch_reader_part_J5 (rc_branch_reader_part κ) c c_1 c_2 c_3 y' t_1) (branch_reader_part_J5 rc_branch_reader_part' c c_1 c_2 c_3 y' t_1) := by
  unfold branch_reader_part_J5
  repeat' with_reducible first | exact ChO.const _ | exact h_rc_branch_reader_part _ _ _ _ | (apply branch_reader_term_L2_ch <;> assumption) | (apply branch_reader_term_ch <;> assumption) | (apply branch_reader_whole_L2_ch <;> assumption) | (apply branch_reader_whole_ch <;> assumption) | (apply branch_reader_ways_J6_ch <;> assumption) | (apply branch_reader_ways_ch <;> assumption) | (apply branch_reader_part_J14_ch <;> assumption) | (apply branch_reader_part_J11_ch <;> assumption) | apply ChO.ite | apply ChO.G | apply ChO.both | apply ChO.bothS | (apply ChO.bind; intro _) | (apply ChO.bind2 (h_rc_branch_reader_part _ _ _ _); intro _) | (refine ChO.bind2 ?_ (fun _ => ?_)) | (refine ChO.pbind (fun _ => ?_) (fun _ => ?_)) | (refine ChO.pbind2 ?_ (fun _ => ?_) (fun _ => ?_))
theorem branch_reader_part_J2_ch (rc_branch_reader_part : Nat → (List UInt8) → Int → Int → Int → Option (((Tr Tp3) × (List UInt8) × Int × Int × Int) ⊕ (Int × Int))) (rc_branch_reader_part' : (List UInt8) → Int → Int → Int → Option (((Tr Tp3) × (List UInt8) × Int × Int × Int) ⊕ (Int × Int))) (h_rc_branch_reader_part : ∀ a0 a1 a2 a3, ChO (fun κ => rc_branch_reader_part κ a0 a1 a2 a3) (rc_branch_reader_part' a0 a1 a2 a3)) (c : (List UInt8)) (c_1 : Int) (c_2 : Int) (c_3 : Int) (y' : Int) (t : Bool) : ChO (fun κ => branch_reader_part_J2 (rc_branch_reader_part κ) c c_1 c_2 c_3 y' t) (branch_reader_part_J2 rc_branch_reader_part' c c_1 c_2 c_3 y' t) := by
  unfold branch_reader_part_J2
  repeat' with_reducible first | exact ChO.const _ | exact h_rc_branch_reader_part _ _ _ _ | (apply branch_reader_term_L2_ch <;> assumption) | (apply branch_reader_term_ch <;> assumption) | (apply branch_reader_whole_L2_ch <;> assumption) | (apply branch_reader_whole_ch <;> assumption) | (apply branch_reader_ways_J6_ch <;> assumption) | (apply branch_reader_ways_ch <;> assumption) | (apply branch_reader_part_J14_ch <;> assumption) | (apply branch_reader_part_J11_ch <;> assumption) | (apply branch_reader_part_J5_ch <;> assumption) | apply ChO.ite | apply ChO.G | apply ChO.both | apply ChO.bothS | (apply ChO.bind; intro _) | (apply ChO.bind2 (h_rc_branch_reader_part _ _ _ _); intro _) | (refine ChO.bind2 ?_ (fun _ => ?_)) | (refine ChO.pbind (fun _ => ?_) (fun _ => ?_)) | (refine ChO.pbind2 ?_ (fun _ => ?_) (fun _ => ?_))
theorem branch_reader_part_B_ch (rc_branch_reader_part : Nat → (List UInt8) → Int → Int → Int → Option (((Tr Tp3) × (List UInt8) × Int × Int × Int) ⊕ (Int × Int))) (rc_branch_reader_part' : (List UInt8) → Int → Int → Int → Option (((Tr Tp3) × (List UInt8) × Int × Int × Int) ⊕ (Int × Int))) (h_rc_branch_reader_part : ∀ a0 a1 a2 a3, ChO (fun κ => rc_branch_reader_part κ a0 a1 a2 a3) (rc_branch_reader_part' a0 a1 a2 a3)) (c : (List UInt8)) (c_1 : Int) (c_2 : Int) (c_3 : Int) : ChO (fun κ => branch_reader_part_B (rc_branch_reader_part κ) c c_1 c_2 c_3) (branch_reader_part_B rc_branch_reader_part' c c_1 c_2 c_3) := by
  unfold branch_reader_part_B
  repeat' with_reducible first | exact ChO.const _ | exact h_rc_branch_reader_part _ _ _ _ | (apply branch_reader_term_L2_ch <;> assumption) | (apply branch_reader_term_ch <;> assumption) | (apply branch_reader_whole_L2_ch <;> assumption) | (apply branch_reader_whole_ch <;> assumption) | (apply branch_reader_ways_J6_ch <;> assumption) | (apply branch_reader_ways_ch <;> assumption) | (apply branch_reader_part_J14_ch <;> assumption) | (apply branch_reader_part_J11_ch <;> assumption) | (apply branch_reader_part_J5_ch <;> assumption) | (apply branch_reader_part_J2_ch <;> assumption) | apply ChO.ite | apply ChO.G | apply ChO.both | apply ChO.bothS | (apply ChO.bind; intro _) | (apply ChO.bind2 (h_rc_branch_reader_part _ _ _ _); intro _) | (refine ChO.bind2 ?_ (fun _ => ?_)) | (refine ChO.pbind (fun _ => ?_) (fun _ => ?_)) | (refine ChO.pbind2 ?_ (fun _ => ?_) (fun _ => ?_))
noncomputable def branch_reader_part_F : ((List UInt8) × Int × Int × Int → Option (((Tr Tp3) × (List UInt8) × Int × Int × Int) ⊕ (Int × Int))) → (List UInt8) × Int × Int × Int → Option (((Tr Tp3) × (List UInt8) × Int × Int × Int) ⊕ (Int × Int)) :=
  fun rec X => branch_reader_part_B (fun c c_1 c_2 c_3 => rec (c, c_1, c_2, c_3)) X.1 X.2.1 X.2.2.1 X.2.2.2
noncomputable def branch_reader_part (c : (List UInt8)) (c_1 : Int) (c_2 : Int) (c_3 : Int) : Option (((Tr Tp3) × (List UInt8) × Int × Int × Int) ⊕ (Int × Int)) := LFix branch_reader_part_F (c, c_1, c_2, c_3)
theorem branch_reader_part_cn : Cn branch_reader_part_F := fun g h hg X => branch_reader_part_B_ch _ _ (fun c c_1 c_2 c_3 => hg (c, c_1, c_2, c_3)) X.1 X.2.1 X.2.2.1 X.2.2.2
theorem branch_reader_part_eq (c : (List UInt8)) (c_1 : Int) (c_2 : Int) (c_3 : Int) : branch_reader_part c c_1 c_2 c_3 = branch_reader_part_B branch_reader_part c c_1 c_2 c_3 := LFix_eq branch_reader_part_cn (c, c_1, c_2, c_3)
noncomputable def branch_reader_term_c (c : (List UInt8)) (c_1 : Int) (c_2 : Int) (c_3 : Int) : Option (((Tr Tp3) × (List UInt8) × Int × Int × Int) ⊕ (Int × Int)) := branch_reader_term branch_reader_part c c_1 c_2 c_3
noncomputable def branch_reader_whole_c (c : (List UInt8)) (c_1 : Int) (c_2 : Int) (c_3 : Int) : Option (((Tr Tp3) × (List UInt8) × Int × Int × Int) ⊕ (Int × Int)) := branch_reader_whole branch_reader_part c c_1 c_2 c_3
noncomputable def branch_reader_ways_c (all' : Bool) (c : (List UInt8)) (c_1 : Int) (c_2 : Int) (c_3 : Int) : Option (((Tr Tp3) × (List UInt8) × Int × Int × Int) ⊕ (Int × Int)) := branch_reader_ways branch_reader_part all' c c_1 c_2 c_3

noncomputable def branch_parse (text : (List UInt8)) : Option ((Tr Tp3) × Int × Int × Unit) :=
  if (decide ((4000 : Int) < (text.length : Int))) = true then
  some (Tr.nil, ((1 : Int), ((0 : Int), ()))) else
  pbind (branch_reader_whole_c text (0 : Int) (0 : Int) (0 : Int)) (fun y'_5 =>
  if (decide (y'_5.2.2.1 < (text.length : Int))) = true then
  pbind (branch_reader_fail (y'_5.2.1, (y'_5.2.2.1, (y'_5.2.2.2.1, (y'_5.2.2.2.2, ())))) (4 : Int)) (fun _ =>
  some (y'_5.1, ((0 : Int), ((0 : Int), ())))) (fun p => some (Tr.nil, (p.1, (p.2, ())))) else
  some (y'_5.1, ((0 : Int), ((0 : Int), ())))) (fun p => some (Tr.nil, (p.1, (p.2, ()))))

noncomputable def branch_Check (text : (List UInt8)) : Option (Int × Int × Unit) :=
  (branch_parse text).bind (fun y'_3 =>
  some (y'_3.2.1, (y'_3.2.2.1, ())))

noncomputable def r35_Reader_ok (r : ((List UInt8) × Int × Int × Int × Tp1 × (Int × Int × Unit) × Unit)) : Option (Bool) :=
  some (decide (r.2.2.2.2.2.1.1 = (0 : Int)))

noncomputable def r35_Reader_now (r : ((List UInt8) × Int × Int × Int × Tp1 × (Int × Int × Unit) × Unit)) : Option (Int) :=
  if (decide ((r.1.length : Int) ≤ r.2.1)) = true then
  some (0 : Int) else
  G (0 ≤ r.2.1 ∧ r.2.1 < (r.1.length : Int)) (
  some (bAt r.1 r.2.1))

noncomputable def r35_Reader_fail (code : Int) (c : (List UInt8)) (c_1 : Int) (c_2 : Int) (c_3 : Int) (c_4 : Int) (c_5 : Int) (l : Tp1) : Option ((List UInt8) × Int × Int × Int × Tp1 × Int × Int) :=
  if (decide (c_4 = (0 : Int))) = true then
  some (c, c_1, c_2, c_3, l, code, c_1) else
  some (c, c_1, c_2, c_3, l, c_4, c_5)

noncomputable def r35_Reader_counted (c : (List UInt8)) (c_1 : Int) (c_2 : Int) (c_3 : Int) (c_4 : Int) (c_5 : Int) (l : Tp1) : Option ((List UInt8) × Int × Int × Int × Tp1 × Int × Int) :=
  G (fits (c_3 + (1 : Int))) (
  if (decide ((30 : Int) < (c_3 + (1 : Int)))) = true then
  (r35_Reader_fail (7 : Int) c c_1 c_2 (c_3 + (1 : Int)) c_4 c_5 l).bind (fun y'_8 =>
  G (fits (y'_8.2.1 + (1 : Int))) (
  some (y'_8.1, y'_8.2.1 + (1 : Int), y'_8.2.2.1, y'_8.2.2.2.1, y'_8.2.2.2.2.1, y'_8.2.2.2.2.2.1, y'_8.2.2.2.2.2.2))) else
  G (fits (c_1 + (1 : Int))) (
  some (c, c_1 + (1 : Int), c_2, c_3 + (1 : Int), l, c_4, c_5)))

noncomputable def r35_Reader_put (n : Tp2) (c : (List UInt8)) (c_1 : Int) (c_2 : Int) (c_3 : Int) (c_4 : Int) (c_5 : Int) (l : Tp1) : Option (Int × (List UInt8) × Int × Int × Int × Tp1 × Int × Int) :=
  G (room l ([(n.1, (n.2.1, (n.2.2.1, (n.2.2.2.1, (n.2.2.2.2.1, ())))))]) 32) (
  G (fits (((l ++ ([(n.1, (n.2.1, (n.2.2.1, (n.2.2.2.1, (n.2.2.2.2.1, ())))))])).length : Int) - (1 : Int))) (
  some (((l ++ ([(n.1, (n.2.1, (n.2.2.1, (n.2.2.2.1, (n.2.2.2.2.1, ())))))])).length : Int) - (1 : Int), c, c_1, c_2, c_3, l ++ ([(n.1, (n.2.1, (n.2.2.1, (n.2.2.2.1, (n.2.2.2.2.1, ())))))]), c_4, c_5)))

noncomputable def r35_Reader_open (c : (List UInt8)) (c_1 : Int) (c_2 : Int) (c_3 : Int) (c_4 : Int) (c_5 : Int) (l : Tp1) : Option ((List UInt8) × Int × Int × Int × Tp1 × Int × Int) :=
  if (decide (c_2 = (40 : Int))) = true then
  (r35_Reader_fail (7 : Int) c c_1 c_2 c_3 c_4 c_5 l).bind (fun y'_8 =>
  G (fits (y'_8.2.2.1 + (1 : Int))) (
  G (fits (y'_8.2.1 + (1 : Int))) (
  some (y'_8.1, y'_8.2.1 + (1 : Int), y'_8.2.2.1 + (1 : Int), y'_8.2.2.2.1, y'_8.2.2.2.2.1, y'_8.2.2.2.2.2.1, y'_8.2.2.2.2.2.2)))) else
  G (fits (c_2 + (1 : Int))) (
  G (fits (c_1 + (1 : Int))) (
  some (c, c_1 + (1 : Int), c_2 + (1 : Int), c_3, l, c_4, c_5)))

noncomputable def r35_Reader_want (c : Int) (c_1 : (List UInt8)) (c_2 : Int) (c_3 : Int) (c_4 : Int) (c_5 : Int) (c_6 : Int) (l : Tp1) : Option ((List UInt8) × Int × Int × Int × Tp1 × Int × Int) :=
  (r35_Reader_now (c_1, (c_2, (c_3, (c_4, (l, ((c_5, (c_6, ())), ()))))))).bind (fun y' =>
  if (decide (¬ y' = c)) = true then
  (r35_Reader_fail (4 : Int) c_1 c_2 c_3 c_4 c_5 c_6 l).bind (fun y'_9 =>
  G (fits (y'_9.2.1 + (1 : Int))) (
  some (y'_9.1, y'_9.2.1 + (1 : Int), y'_9.2.2.1, y'_9.2.2.2.1, y'_9.2.2.2.2.1, y'_9.2.2.2.2.2.1, y'_9.2.2.2.2.2.2))) else
  G (fits (c_2 + (1 : Int))) (
  some (c_1, c_2 + (1 : Int), c_3, c_4, l, c_5, c_6)))

noncomputable def r35_Reader_term_L2_B (rc_r35_Reader_part : (List UInt8) → Int → Int → Int → Int → Int → Tp1 → Option (Int × (List UInt8) × Int × Int × Int × Tp1 × Int × Int))  (r2 : Int → (List UInt8) → Int → Int → Int → Int → Int → Tp1 → Option (Int × (List UInt8) × Int × Int × Int × Tp1 × Int × Int)) (a : Int) (r : (List UInt8)) (r_1 : Int) (r_2 : Int) (r_3 : Int) (r_4 : Int) (r_5 : Int) (l_1 : Tp1) : Option (Int × (List UInt8) × Int × Int × Int × Tp1 × Int × Int) :=
  (r35_Reader_now (r, (r_1, (r_2, (r_3, (l_1, ((r_4, (r_5, ())), ()))))))).bind (fun y'_9 =>
  (r35_Reader_ok (r, (r_1, (r_2, (r_3, (l_1, ((r_4, (r_5, ())), ()))))))).bind (fun y'_10 =>
  if (!y'_10) = true then
  some (a, r, r_1, r_2, r_3, l_1, r_4, r_5) else
  if (decide (¬ y'_9 = (38 : Int))) = true then
  some (a, r, r_1, r_2, r_3, l_1, r_4, r_5) else
  (r35_Reader_counted r r_1 r_2 r_3 r_4 r_5 l_1).bind (fun y'_39 =>
  (rc_r35_Reader_part y'_39.1 y'_39.2.1 y'_39.2.2.1 y'_39.2.2.2.1 y'_39.2.2.2.2.2.1 y'_39.2.2.2.2.2.2 y'_39.2.2.2.2.1).bind (fun y'_38 =>
  (r35_Reader_put ((38 : Int), (false, ((0 : Int), (a, (y'_38.1, ()))))) y'_38.2.1 y'_38.2.2.1 y'_38.2.2.2.1 y'_38.2.2.2.2.1 y'_38.2.2.2.2.2.2.1 y'_38.2.2.2.2.2.2.2 y'_38.2.2.2.2.2.1).bind (fun y'_37 =>
  r2 y'_37.1 y'_37.2.1 y'_37.2.2.1 y'_37.2.2.2.1 y'_37.2.2.2.2.1 y'_37.2.2.2.2.2.2.1 y'_37.2.2.2.2.2.2.2 y'_37.2.2.2.2.2.1)))))
noncomputable def r35_Reader_term_L2_F (rc_r35_Reader_part : (List UInt8) → Int → Int → Int → Int → Int → Tp1 → Option (Int × (List UInt8) × Int × Int × Int × Tp1 × Int × Int))  : (Int × (List UInt8) × Int × Int × Int × Int × Int × Tp1 → Option (Int × (List UInt8) × Int × Int × Int × Tp1 × Int × Int)) → Int × (List UInt8) × Int × Int × Int × Int × Int × Tp1 → Option (Int × (List UInt8) × Int × Int × Int × Tp1 × Int × Int) :=
  fun rec x => r35_Reader_term_L2_B rc_r35_Reader_part (fun a r r_1 r_2 r_3 r_4 r_5 l_1 => rec (a, r, r_1, r_2, r_3, r_4, r_5, l_1)) x.1 x.2.1 x.2.2.1 x.2.2.2.1 x.2.2.2.2.1 x.2.2.2.2.2.1 x.2.2.2.2.2.2.1 x.2.2.2.2.2.2.2
noncomputable def r35_Reader_term_L2 (rc_r35_Reader_part : (List UInt8) → Int → Int → Int → Int → Int → Tp1 → Option (Int × (List UInt8) × Int × Int × Int × Tp1 × Int × Int))  (a : Int) (r : (List UInt8)) (r_1 : Int) (r_2 : Int) (r_3 : Int) (r_4 : Int) (r_5 : Int) (l_1 : Tp1) : Option (Int × (List UInt8) × Int × Int × Int × Tp1 × Int × Int) := LFix (r35_Reader_term_L2_F rc_r35_Reader_part ) (a, r, r_1, r_2, r_3, r_4, r_5, l_1)
noncomputable def r35_Reader_term (rc_r35_Reader_part : (List UInt8) → Int → Int → Int → Int → Int → Tp1 → Option (Int × (List UInt8) × Int × Int × Int × Tp1 × Int × Int)) (c : (List UInt8)) (c_1 : Int) (c_2 : Int) (c_3 : Int) (c_4 : Int) (c_5 : Int) (l : Tp1) : Option (Int × (List UInt8) × Int × Int × Int × Tp1 × Int × Int) :=
  (rc_r35_Reader_part c c_1 c_2 c_3 c_4 c_5 l).bind (fun y'_40 =>
  r35_Reader_term_L2 rc_r35_Reader_part y'_40.1 y'_40.2.1 y'_40.2.2.1 y'_40.2.2.2.1 y'_40.2.2.2.2.1 y'_40.2.2.2.2.2.2.1 y'_40.2.2.2.2.2.2.2 y'_40.2.2.2.2.2.1)
noncomputable def r35_Reader_whole_L2_B (rc_r35_Reader_part : (List UInt8) → Int → Int → Int → Int → Int → Tp1 → Option (Int × (List UInt8) × Int × Int × Int × Tp1 × Int × Int))  (r2 : Int → (List UInt8) → Int → Int → Int → Int → Int → Tp1 → Option (Int × (List UInt8) × Int × Int × Int × Tp1 × Int × Int)) (a : Int) (r : (List UInt8)) (r_1 : Int) (r_2 : Int) (r_3 : Int) (r_4 : Int) (r_5 : Int) (l_1 : Tp1) : Option (Int × (List UInt8) × Int × Int × Int × Tp1 × Int × Int) :=
  (r35_Reader_now (r, (r_1, (r_2, (r_3, (l_1, ((r_4, (r_5, ())), ()))))))).bind (fun y'_9 =>
  (r35_Reader_ok (r, (r_1, (r_2, (r_3, (l_1, ((r_4, (r_5, ())), ()))))))).bind (fun y'_10 =>
  if (!y'_10) = true then
  some (a, r, r_1, r_2, r_3, l_1, r_4, r_5) else
  if (decide (¬ y'_9 = (124 : Int))) = true then
  some (a, r, r_1, r_2, r_3, l_1, r_4, r_5) else
  (r35_Reader_counted r r_1 r_2 r_3 r_4 r_5 l_1).bind (fun y'_39 =>
  (r35_Reader_term rc_r35_Reader_part y'_39.1 y'_39.2.1 y'_39.2.2.1 y'_39.2.2.2.1 y'_39.2.2.2.2.2.1 y'_39.2.2.2.2.2.2 y'_39.2.2.2.2.1).bind (fun y'_38 =>
  (r35_Reader_put ((124 : Int), (false, ((0 : Int), (a, (y'_38.1, ()))))) y'_38.2.1 y'_38.2.2.1 y'_38.2.2.2.1 y'_38.2.2.2.2.1 y'_38.2.2.2.2.2.2.1 y'_38.2.2.2.2.2.2.2 y'_38.2.2.2.2.2.1).bind (fun y'_37 =>
  r2 y'_37.1 y'_37.2.1 y'_37.2.2.1 y'_37.2.2.2.1 y'_37.2.2.2.2.1 y'_37.2.2.2.2.2.2.1 y'_37.2.2.2.2.2.2.2 y'_37.2.2.2.2.2.1)))))
noncomputable def r35_Reader_whole_L2_F (rc_r35_Reader_part : (List UInt8) → Int → Int → Int → Int → Int → Tp1 → Option (Int × (List UInt8) × Int × Int × Int × Tp1 × Int × Int))  : (Int × (List UInt8) × Int × Int × Int × Int × Int × Tp1 → Option (Int × (List UInt8) × Int × Int × Int × Tp1 × Int × Int)) → Int × (List UInt8) × Int × Int × Int × Int × Int × Tp1 → Option (Int × (List UInt8) × Int × Int × Int × Tp1 × Int × Int) :=
  fun rec x => r35_Reader_whole_L2_B rc_r35_Reader_part (fun a r r_1 r_2 r_3 r_4 r_5 l_1 => rec (a, r, r_1, r_2, r_3, r_4, r_5, l_1)) x.1 x.2.1 x.2.2.1 x.2.2.2.1 x.2.2.2.2.1 x.2.2.2.2.2.1 x.2.2.2.2.2.2.1 x.2.2.2.2.2.2.2
noncomputable def r35_Reader_whole_L2 (rc_r35_Reader_part : (List UInt8) → Int → Int → Int → Int → Int → Tp1 → Option (Int × (List UInt8) × Int × Int × Int × Tp1 × Int × Int))  (a : Int) (r : (List UInt8)) (r_1 : Int) (r_2 : Int) (r_3 : Int) (r_4 : Int) (r_5 : Int) (l_1 : Tp1) : Option (Int × (List UInt8) × Int × Int × Int × Tp1 × Int × Int) := LFix (r35_Reader_whole_L2_F rc_r35_Reader_part ) (a, r, r_1, r_2, r_3, r_4, r_5, l_1)
noncomputable def r35_Reader_whole (rc_r35_Reader_part : (List UInt8) → Int → Int → Int → Int → Int → Tp1 → Option (Int × (List UInt8) × Int × Int × Int × Tp1 × Int × Int)) (c : (List UInt8)) (c_1 : Int) (c_2 : Int) (c_3 : Int) (c_4 : Int) (c_5 : Int) (l : Tp1) : Option (Int × (List UInt8) × Int × Int × Int × Tp1 × Int × Int) :=
  (r35_Reader_term rc_r35_Reader_part c c_1 c_2 c_3 c_4 c_5 l).bind (fun y'_40 =>
  r35_Reader_whole_L2 rc_r35_Reader_part y'_40.1 y'_40.2.1 y'_40.2.2.1 y'_40.2.2.2.1 y'_40.2.2.2.2.1 y'_40.2.2.2.2.2.2.1 y'_40.2.2.2.2.2.2.2 y'_40.2.2.2.2.2.1)
noncomputable def r35_Reader_ways_J3 (rc_r35_Reader_part : (List UInt8) → Int → Int → Int → Int → Int → Tp1 → Option (Int × (List UInt8) × Int × Int × Int × Tp1 × Int × Int)) (all' : Bool) (y' : (List UInt8)) (y'_1 : Int) (y'_2 : Int) (y'_3 : Int) (y'_4 : Tp1) (y'_5 : Int) (y'_6 : Int) (y'_8 : Int) (t : Bool) : Option (Int × (List UInt8) × Int × Int × Int × Tp1 × Int × Int) :=
  if t = true then
  G (fits (y'_1 + (1 : Int))) (
  (rc_r35_Reader_part y' (y'_1 + (1 : Int)) y'_2 y'_3 y'_5 y'_6 y'_4).bind (fun y'_28 =>
  (r35_Reader_put (y'_8, (all', ((0 : Int), (y'_28.1, ((0 : Int), ()))))) y'_28.2.1 y'_28.2.2.1 y'_28.2.2.2.1 y'_28.2.2.2.2.1 y'_28.2.2.2.2.2.2.1 y'_28.2.2.2.2.2.2.2 y'_28.2.2.2.2.2.1).bind (fun y'_27 =>
  some (y'_27.1, y'_27.2.1, y'_27.2.2.1, y'_27.2.2.2.1, y'_27.2.2.2.2.1, y'_27.2.2.2.2.2.1, y'_27.2.2.2.2.2.2.1, y'_27.2.2.2.2.2.2.2)))) else
  if (decide (¬ y'_8 = (40 : Int))) = true then
  (r35_Reader_fail (4 : Int) y' y'_1 y'_2 y'_3 y'_5 y'_6 y'_4).bind (fun y'_37 =>
  some ((0 : Int), y'_37.1, y'_37.2.1, y'_37.2.2.1, y'_37.2.2.2.1, y'_37.2.2.2.2.1, y'_37.2.2.2.2.2.1, y'_37.2.2.2.2.2.2)) else
  (r35_Reader_open y' y'_1 y'_2 y'_3 y'_5 y'_6 y'_4).bind (fun y'_94 =>
  (r35_Reader_whole rc_r35_Reader_part y'_94.1 y'_94.2.1 y'_94.2.2.1 y'_94.2.2.2.1 y'_94.2.2.2.2.2.1 y'_94.2.2.2.2.2.2 y'_94.2.2.2.2.1).bind (fun y'_93 =>
  (r35_Reader_want (85 : Int) y'_93.2.1 y'_93.2.2.1 y'_93.2.2.2.1 y'_93.2.2.2.2.1 y'_93.2.2.2.2.2.2.1 y'_93.2.2.2.2.2.2.2 y'_93.2.2.2.2.2.1).bind (fun y'_92 =>
  (r35_Reader_whole rc_r35_Reader_part y'_92.1 y'_92.2.1 y'_92.2.2.1 y'_92.2.2.2.1 y'_92.2.2.2.2.2.1 y'_92.2.2.2.2.2.2 y'_92.2.2.2.2.1).bind (fun y'_91 =>
  (r35_Reader_want (41 : Int) y'_91.2.1 y'_91.2.2.1 y'_91.2.2.2.1 y'_91.2.2.2.2.1 y'_91.2.2.2.2.2.2.1 y'_91.2.2.2.2.2.2.2 y'_91.2.2.2.2.2.1).bind (fun y'_90 =>
  G (fits (y'_90.2.2.1 - (1 : Int))) (
  (r35_Reader_put ((85 : Int), (all', ((0 : Int), (y'_93.1, (y'_91.1, ()))))) y'_90.1 y'_90.2.1 (y'_90.2.2.1 - (1 : Int)) y'_90.2.2.2.1 y'_90.2.2.2.2.2.1 y'_90.2.2.2.2.2.2 y'_90.2.2.2.2.1).bind (fun y'_89 =>
  some (y'_89.1, y'_89.2.1, y'_89.2.2.1, y'_89.2.2.2.1, y'_89.2.2.2.2.1, y'_89.2.2.2.2.2.1, y'_89.2.2.2.2.2.2.1, y'_89.2.2.2.2.2.2.2))))))))
noncomputable def r35_Reader_ways (rc_r35_Reader_part : (List UInt8) → Int → Int → Int → Int → Int → Tp1 → Option (Int × (List UInt8) × Int × Int × Int × Tp1 × Int × Int)) (all' : Bool) (c : (List UInt8)) (c_1 : Int) (c_2 : Int) (c_3 : Int) (c_4 : Int) (c_5 : Int) (l : Tp1) : Option (Int × (List UInt8) × Int × Int × Int × Tp1 × Int × Int) :=
  (r35_Reader_counted c c_1 c_2 c_3 c_4 c_5 l).bind (fun y'_95 =>
  (r35_Reader_now (y'_95.1, (y'_95.2.1, (y'_95.2.2.1, (y'_95.2.2.2.1, (y'_95.2.2.2.2.1, ((y'_95.2.2.2.2.2.1, (y'_95.2.2.2.2.2.2, ())), ()))))))).bind (fun y'_8 =>
  if (decide (y'_8 = (88 : Int))) = true then
  r35_Reader_ways_J3 rc_r35_Reader_part all' y'_95.1 y'_95.2.1 y'_95.2.2.1 y'_95.2.2.2.1 y'_95.2.2.2.2.1 y'_95.2.2.2.2.2.1 y'_95.2.2.2.2.2.2 y'_8 true else
  if (decide (y'_8 = (70 : Int))) = true then
  r35_Reader_ways_J3 rc_r35_Reader_part all' y'_95.1 y'_95.2.1 y'_95.2.2.1 y'_95.2.2.2.1 y'_95.2.2.2.2.1 y'_95.2.2.2.2.2.1 y'_95.2.2.2.2.2.2 y'_8 true else
  r35_Reader_ways_J3 rc_r35_Reader_part all' y'_95.1 y'_95.2.1 y'_95.2.2.1 y'_95.2.2.2.1 y'_95.2.2.2.2.1 y'_95.2.2.2.2.2.1 y'_95.2.2.2.2.2.2 y'_8 (decide (y'_8 = (71 : Int)))))
noncomputable def r35_Reader_part_J15 (rc_r35_Reader_part : (List UInt8) → Int → Int → Int → Int → Int → Tp1 → Option (Int × (List UInt8) × Int × Int × Int × Tp1 × Int × Int)) (c : (List UInt8)) (c_1 : Int) (c_2 : Int) (c_3 : Int) (c_4 : Int) (c_5 : Int) (l : Tp1) (y'_1 : Int) (t_2 : Bool) : Option (Int × (List UInt8) × Int × Int × Int × Tp1 × Int × Int) :=
  if t_2 = true then
  (r35_Reader_ways rc_r35_Reader_part (decide (y'_1 = (65 : Int))) c c_1 c_2 c_3 c_4 c_5 l).bind (fun y'_78 =>
  some (y'_78.1, y'_78.2.1, y'_78.2.2.1, y'_78.2.2.2.1, y'_78.2.2.2.2.1, y'_78.2.2.2.2.2.1, y'_78.2.2.2.2.2.2.1, y'_78.2.2.2.2.2.2.2)) else
  if (decide (¬ y'_1 = (40 : Int))) = true then
  (r35_Reader_fail (4 : Int) c c_1 c_2 c_3 c_4 c_5 l).bind (fun y'_87 =>
  some ((0 : Int), y'_87.1, y'_87.2.1, y'_87.2.2.1, y'_87.2.2.2.1, y'_87.2.2.2.2.1, y'_87.2.2.2.2.2.1, y'_87.2.2.2.2.2.2)) else
  (r35_Reader_open c c_1 c_2 c_3 c_4 c_5 l).bind (fun y'_115 =>
  (r35_Reader_whole rc_r35_Reader_part y'_115.1 y'_115.2.1 y'_115.2.2.1 y'_115.2.2.2.1 y'_115.2.2.2.2.2.1 y'_115.2.2.2.2.2.2 y'_115.2.2.2.2.1).bind (fun y'_114 =>
  (r35_Reader_want (41 : Int) y'_114.2.1 y'_114.2.2.1 y'_114.2.2.2.1 y'_114.2.2.2.2.1 y'_114.2.2.2.2.2.2.1 y'_114.2.2.2.2.2.2.2 y'_114.2.2.2.2.2.1).bind (fun y'_113 =>
  G (fits (y'_113.2.2.1 - (1 : Int))) (
  some (y'_114.1, y'_113.1, y'_113.2.1, y'_113.2.2.1 - (1 : Int), y'_113.2.2.2.1, y'_113.2.2.2.2.1, y'_113.2.2.2.2.2.1, y'_113.2.2.2.2.2.2)))))
noncomputable def r35_Reader_part_J8 (rc_r35_Reader_part : (List UInt8) → Int → Int → Int → Int → Int → Tp1 → Option (Int × (List UInt8) × Int × Int × Int × Tp1 × Int × Int)) (c : (List UInt8)) (c_1 : Int) (c_2 : Int) (c_3 : Int) (c_4 : Int) (c_5 : Int) (l : Tp1) (y'_1 : Int) (t_1 : Bool) : Option (Int × (List UInt8) × Int × Int × Int × Tp1 × Int × Int) :=
  if t_1 = true then
  (r35_Reader_counted c c_1 c_2 c_3 c_4 c_5 l).bind (fun y'_39 =>
  G (fits ((IntKind.wrap .i64 y'_1) - (97 : Int))) (
  (r35_Reader_put ((97 : Int), (false, ((IntKind.wrap .i64 y'_1) - (97 : Int), ((0 : Int), ((0 : Int), ()))))) y'_39.1 y'_39.2.1 y'_39.2.2.1 y'_39.2.2.2.1 y'_39.2.2.2.2.2.1 y'_39.2.2.2.2.2.2 y'_39.2.2.2.2.1).bind (fun y'_38 =>
  some (y'_38.1, y'_38.2.1, y'_38.2.2.1, y'_38.2.2.2.1, y'_38.2.2.2.2.1, y'_38.2.2.2.2.2.1, y'_38.2.2.2.2.2.2.1, y'_38.2.2.2.2.2.2.2)))) else
  if (decide (y'_1 = (33 : Int))) = true then
  (r35_Reader_counted c c_1 c_2 c_3 c_4 c_5 l).bind (fun y'_68 =>
  (rc_r35_Reader_part y'_68.1 y'_68.2.1 y'_68.2.2.1 y'_68.2.2.2.1 y'_68.2.2.2.2.2.1 y'_68.2.2.2.2.2.2 y'_68.2.2.2.2.1).bind (fun y'_67 =>
  (r35_Reader_put ((33 : Int), (false, ((0 : Int), (y'_67.1, ((0 : Int), ()))))) y'_67.2.1 y'_67.2.2.1 y'_67.2.2.2.1 y'_67.2.2.2.2.1 y'_67.2.2.2.2.2.2.1 y'_67.2.2.2.2.2.2.2 y'_67.2.2.2.2.2.1).bind (fun y'_66 =>
  some (y'_66.1, y'_66.2.1, y'_66.2.2.1, y'_66.2.2.2.1, y'_66.2.2.2.2.1, y'_66.2.2.2.2.2.1, y'_66.2.2.2.2.2.2.1, y'_66.2.2.2.2.2.2.2)))) else
  if (decide (y'_1 = (69 : Int))) = true then
  r35_Reader_part_J15 rc_r35_Reader_part c c_1 c_2 c_3 c_4 c_5 l y'_1 true else
  r35_Reader_part_J15 rc_r35_Reader_part c c_1 c_2 c_3 c_4 c_5 l y'_1 (decide (y'_1 = (65 : Int)))
noncomputable def r35_Reader_part_J5 (rc_r35_Reader_part : (List UInt8) → Int → Int → Int → Int → Int → Tp1 → Option (Int × (List UInt8) × Int × Int × Int × Tp1 × Int × Int)) (c : (List UInt8)) (c_1 : Int) (c_2 : Int) (c_3 : Int) (c_4 : Int) (c_5 : Int) (l : Tp1) (y'_1 : Int) (t : Bool) : Option (Int × (List UInt8) × Int × Int × Int × Tp1 × Int × Int) :=
  if t = true then
  (r35_Reader_counted c c_1 c_2 c_3 c_4 c_5 l).bind (fun y'_20 =>
  (r35_Reader_put (y'_1, (false, ((0 : Int), ((0 : Int), ((0 : Int), ()))))) y'_20.1 y'_20.2.1 y'_20.2.2.1 y'_20.2.2.2.1 y'_20.2.2.2.2.2.1 y'_20.2.2.2.2.2.2 y'_20.2.2.2.2.1).bind (fun y'_19 =>
  some (y'_19.1, y'_19.2.1, y'_19.2.2.1, y'_19.2.2.2.1, y'_19.2.2.2.2.1, y'_19.2.2.2.2.2.1, y'_19.2.2.2.2.2.2.1, y'_19.2.2.2.2.2.2.2))) else
  if (decide ((97 : Int) ≤ y'_1)) = true then
  r35_Reader_part_J8 rc_r35_Reader_part c c_1 c_2 c_3 c_4 c_5 l y'_1 (decide (y'_1 ≤ (100 : Int))) else
  r35_Reader_part_J8 rc_r35_Reader_part c c_1 c_2 c_3 c_4 c_5 l y'_1 false
noncomputable def r35_Reader_part_B (rc_r35_Reader_part : (List UInt8) → Int → Int → Int → Int → Int → Tp1 → Option (Int × (List UInt8) × Int × Int × Int × Tp1 × Int × Int)) (c : (List UInt8)) (c_1 : Int) (c_2 : Int) (c_3 : Int) (c_4 : Int) (c_5 : Int) (l : Tp1) : Option (Int × (List UInt8) × Int × Int × Int × Tp1 × Int × Int) :=
  (r35_Reader_ok (c, (c_1, (c_2, (c_3, (l, ((c_4, (c_5, ())), ()))))))).bind (fun y' =>
  if (!y') = true then
  some ((0 : Int), c, c_1, c_2, c_3, l, c_4, c_5) else
  (r35_Reader_now (c, (c_1, (c_2, (c_3, (l, ((c_4, (c_5, ())), ()))))))).bind (fun y'_1 =>
  if (decide (y'_1 = (48 : Int))) = true then
  r35_Reader_part_J5 rc_r35_Reader_part c c_1 c_2 c_3 c_4 c_5 l y'_1 true else
  r35_Reader_part_J5 rc_r35_Reader_part c c_1 c_2 c_3 c_4 c_5 l y'_1 (decide (y'_1 = (49 : Int)))))
theorem r35_Reader_term_L2_B_ch (rc_r35_Reader_part : Nat → (List UInt8) → Int → Int → Int → Int → Int → Tp1 → Option (Int × (List UInt8) × Int × Int × Int × Tp1 × Int × Int)) (rc_r35_Reader_part' : (List UInt8) → Int → Int → Int → Int → Int → Tp1 → Option (Int × (List UInt8) × Int × Int × Int × Tp1 × Int × Int)) (h_rc_r35_Reader_part : ∀ a0 a1 a2 a3 a4 a5 a6, ChO (fun κ => rc_r35_Reader_part κ a0 a1 a2 a3 a4 a5 a6) (rc_r35_Reader_part' a0 a1 a2 a3 a4 a5 a6)) (r2 : Nat → Int → (List UInt8) → Int → Int → Int → Int → Int → Tp1 → Option (Int × (List UInt8) × Int × Int × Int × Tp1 × Int × Int)) (r2' : Int → (List UInt8) → Int → Int → Int → Int → Int → Tp1 → Option (Int × (List UInt8) × Int × Int × Int × Tp1 × Int × Int)) (h_r2 : ∀ a0 a1 a2 a3 a4 a5 a6 a7, ChO (fun κ => r2 κ a0 a1 a2 a3 a4 a5 a6 a7) (r2' a0 a1 a2 a3 a4 a5 a6 a7)) (a : Int) (r : (List UInt8)) (r_1 : Int) (r_2 : Int) (r_3 : Int) (r_4 : Int) (r_5 : Int) (l_1 : Tp1) : ChO (fun κ => r35_Reader_term_L2_B (rc_r35_Reader_part κ) (r2 κ) a r r_1 r_2 r_3 r_4 r_5 l_1) (r35_Reader_term_L2_B rc_r35_Reader_part' r2' a r r_1 r_2 r_3 r_4 r_5 l_1) := by
  unfold r35_Reader_term_L2_B
  repeat' with_reducible first | exact ChO.const _ | exact h_rc_r35_Reader_part _ _ _ _ _ _ _ | exact h_r2 _ _ _ _ _ _ _ _ | apply ChO.ite | apply ChO.G | apply ChO.both | (apply ChO.bind; intro _) | (apply ChO.bind2 (h_rc_r35_Reader_part _ _ _ _ _ _ _); intro _) | (refine ChO.bind2 ?_ (fun _ => ?_))
theorem r35_Reader_term_L2_cn (rc_r35_Reader_part : (List UInt8) → Int → Int → Int → Int → Int → Tp1 → Option (Int × (List UInt8) × Int × Int × Int × Tp1 × Int × Int))  : Cn (r35_Reader_term_L2_F rc_r35_Reader_part) := fun g h hg x => r35_Reader_term_L2_B_ch (fun _ => rc_r35_Reader_part) rc_r35_Reader_part (fun _ _ _ _ _ _ _ => ChO.const _) (fun κ a r r_1 r_2 r_3 r_4 r_5 l_1 => g κ (a, r, r_1, r_2, r_3, r_4, r_5, l_1)) (fun a r r_1 r_2 r_3 r_4 r_5 l_1 => h (a, r, r_1, r_2, r_3, r_4, r_5, l_1)) (fun a r r_1 r_2 r_3 r_4 r_5 l_1 => hg (a, r, r_1, r_2, r_3, r_4, r_5, l_1))  x.1 x.2.1 x.2.2.1 x.2.2.2.1 x.2.2.2.2.1 x.2.2.2.2.2.1 x.2.2.2.2.2.2.1 x.2.2.2.2.2.2.2
theorem r35_Reader_term_L2_eq (rc_r35_Reader_part : (List UInt8) → Int → Int → Int → Int → Int → Tp1 → Option (Int × (List UInt8) × Int × Int × Int × Tp1 × Int × Int))  (a : Int) (r : (List UInt8)) (r_1 : Int) (r_2 : Int) (r_3 : Int) (r_4 : Int) (r_5 : Int) (l_1 : Tp1) : r35_Reader_term_L2 rc_r35_Reader_part a r r_1 r_2 r_3 r_4 r_5 l_1 = r35_Reader_term_L2_B rc_r35_Reader_part (r35_Reader_term_L2 rc_r35_Reader_part) a r r_1 r_2 r_3 r_4 r_5 l_1 := LFix_eq (r35_Reader_term_L2_cn rc_r35_Reader_part) (a, r, r_1, r_2, r_3, r_4, r_5, l_1)
theorem r35_Reader_term_L2_ch (rc_r35_Reader_part : Nat → (List UInt8) → Int → Int → Int → Int → Int → Tp1 → Option (Int × (List UInt8) × Int × Int × Int × Tp1 × Int × Int)) (rc_r35_Reader_part' : (List UInt8) → Int → Int → Int → Int → Int → Tp1 → Option (Int × (List UInt8) × Int × Int × Int × Tp1 × Int × Int)) (h_rc_r35_Reader_part : ∀ a0 a1 a2 a3 a4 a5 a6, ChO (fun κ => rc_r35_Reader_part κ a0 a1 a2 a3 a4 a5 a6) (rc_r35_Reader_part' a0 a1 a2 a3 a4 a5 a6))  (a : Int) (r : (List UInt8)) (r_1 : Int) (r_2 : Int) (r_3 : Int) (r_4 : Int) (r_5 : Int) (l_1 : Tp1) : ChO (fun κ => r35_Reader_term_L2 (rc_r35_Reader_part κ) a r r_1 r_2 r_3 r_4 r_5 l_1) (r35_Reader_term_L2 rc_r35_Reader_part' a r r_1 r_2 r_3 r_4 r_5 l_1) := by
  unfold r35_Reader_term_L2
  exact LFix_ch (fun κ => (r35_Reader_term_L2_cn (rc_r35_Reader_part κ) ).mono) (r35_Reader_term_L2_cn rc_r35_Reader_part' ).mono (fun g h hg x => r35_Reader_term_L2_B_ch rc_r35_Reader_part rc_r35_Reader_part' h_rc_r35_Reader_part (fun κ a r r_1 r_2 r_3 r_4 r_5 l_1 => g κ (a, r, r_1, r_2, r_3, r_4, r_5, l_1)) (fun a r r_1 r_2 r_3 r_4 r_5 l_1 => h (a, r, r_1, r_2, r_3, r_4, r_5, l_1)) (fun a r r_1 r_2 r_3 r_4 r_5 l_1 => hg (a, r, r_1, r_2, r_3, r_4, r_5, l_1))  x.1 x.2.1 x.2.2.1 x.2.2.2.1 x.2.2.2.2.1 x.2.2.2.2.2.1 x.2.2.2.2.2.2.1 x.2.2.2.2.2.2.2) _
theorem r35_Reader_term_ch (rc_r35_Reader_part : Nat → (List UInt8) → Int → Int → Int → Int → Int → Tp1 → Option (Int × (List UInt8) × Int × Int × Int × Tp1 × Int × Int)) (rc_r35_Reader_part' : (List UInt8) → Int → Int → Int → Int → Int → Tp1 → Option (Int × (List UInt8) × Int × Int × Int × Tp1 × Int × Int)) (h_rc_r35_Reader_part : ∀ a0 a1 a2 a3 a4 a5 a6, ChO (fun κ => rc_r35_Reader_part κ a0 a1 a2 a3 a4 a5 a6) (rc_r35_Reader_part' a0 a1 a2 a3 a4 a5 a6)) (c : (List UInt8)) (c_1 : Int) (c_2 : Int) (c_3 : Int) (c_4 : Int) (c_5 : Int) (l : Tp1) : ChO (fun κ => r35_Reader_term (rc_r35_Reader_part κ) c c_1 c_2 c_3 c_4 c_5 l) (r35_Reader_term rc_r35_Reader_part' c c_1 c_2 c_3 c_4 c_5 l) := by
  unfold r35_Reader_term
  repeat' with_reducible first | exact ChO.const _ | exact h_rc_r35_Reader_part _ _ _ _ _ _ _ | (apply r35_Reader_term_L2_ch <;> assumption) | apply ChO.ite | apply ChO.G | apply ChO.both | (apply ChO.bind; intro _) | (apply ChO.bind2 (h_rc_r35_Reader_part _ _ _ _ _ _ _); intro _) | (refine ChO.bind2 ?_ (fun _ => ?_))
theorem r35_Reader_whole_L2_B_ch (rc_r35_Reader_part : Nat → (List UInt8) → Int → Int → Int → Int → Int → Tp1 → Option (Int × (List UInt8) × Int × Int × Int × Tp1 × Int × Int)) (rc_r35_Reader_part' : (List UInt8) → Int → Int → Int → Int → Int → Tp1 → Option (Int × (List UInt8) × Int × Int × Int × Tp1 × Int × Int)) (h_rc_r35_Reader_part : ∀ a0 a1 a2 a3 a4 a5 a6, ChO (fun κ => rc_r35_Reader_part κ a0 a1 a2 a3 a4 a5 a6) (rc_r35_Reader_part' a0 a1 a2 a3 a4 a5 a6)) (r2 : Nat → Int → (List UInt8) → Int → Int → Int → Int → Int → Tp1 → Option (Int × (List UInt8) × Int × Int × Int × Tp1 × Int × Int)) (r2' : Int → (List UInt8) → Int → Int → Int → Int → Int → Tp1 → Option (Int × (List UInt8) × Int × Int × Int × Tp1 × Int × Int)) (h_r2 : ∀ a0 a1 a2 a3 a4 a5 a6 a7, ChO (fun κ => r2 κ a0 a1 a2 a3 a4 a5 a6 a7) (r2' a0 a1 a2 a3 a4 a5 a6 a7)) (a : Int) (r : (List UInt8)) (r_1 : Int) (r_2 : Int) (r_3 : Int) (r_4 : Int) (r_5 : Int) (l_1 : Tp1) : ChO (fun κ => r35_Reader_whole_L2_B (rc_r35_Reader_part κ) (r2 κ) a r r_1 r_2 r_3 r_4 r_5 l_1) (r35_Reader_whole_L2_B rc_r35_Reader_part' r2' a r r_1 r_2 r_3 r_4 r_5 l_1) := by
  unfold r35_Reader_whole_L2_B
  repeat' with_reducible first | exact ChO.const _ | exact h_rc_r35_Reader_part _ _ _ _ _ _ _ | exact h_r2 _ _ _ _ _ _ _ _ | (apply r35_Reader_term_L2_ch <;> assumption) | (apply r35_Reader_term_ch <;> assumption) | apply ChO.ite | apply ChO.G | apply ChO.both | (apply ChO.bind; intro _) | (apply ChO.bind2 (h_rc_r35_Reader_part _ _ _ _ _ _ _); intro _) | (refine ChO.bind2 ?_ (fun _ => ?_))
theorem r35_Reader_whole_L2_cn (rc_r35_Reader_part : (List UInt8) → Int → Int → Int → Int → Int → Tp1 → Option (Int × (List UInt8) × Int × Int × Int × Tp1 × Int × Int))  : Cn (r35_Reader_whole_L2_F rc_r35_Reader_part) := fun g h hg x => r35_Reader_whole_L2_B_ch (fun _ => rc_r35_Reader_part) rc_r35_Reader_part (fun _ _ _ _ _ _ _ => ChO.const _) (fun κ a r r_1 r_2 r_3 r_4 r_5 l_1 => g κ (a, r, r_1, r_2, r_3, r_4, r_5, l_1)) (fun a r r_1 r_2 r_3 r_4 r_5 l_1 => h (a, r, r_1, r_2, r_3, r_4, r_5, l_1)) (fun a r r_1 r_2 r_3 r_4 r_5 l_1 => hg (a, r, r_1, r_2, r_3, r_4, r_5, l_1))  x.1 x.2.1 x.2.2.1 x.2.2.2.1 x.2.2.2.2.1 x.2.2.2.2.2.1 x.2.2.2.2.2.2.1 x.2.2.2.2.2.2.2
theorem r35_Reader_whole_L2_eq (rc_r35_Reader_part : (List UInt8) → Int → Int → Int → Int → Int → Tp1 → Option (Int × (List UInt8) × Int × Int × Int × Tp1 × Int × Int))  (a : Int) (r : (List UInt8)) (r_1 : Int) (r_2 : Int) (r_3 : Int) (r_4 : Int) (r_5 : Int) (l_1 : Tp1) : r35_Reader_whole_L2 rc_r35_Reader_part a r r_1 r_2 r_3 r_4 r_5 l_1 = r35_Reader_whole_L2_B rc_r35_Reader_part (r35_Reader_whole_L2 rc_r35_Reader_part) a r r_1 r_2 r_3 r_4 r_5 l_1 := LFix_eq (r35_Reader_whole_L2_cn rc_r35_Reader_part) (a, r, r_1, r_2, r_3, r_4, r_5, l_1)
theorem r35_Reader_whole_L2_ch (rc_r35_Reader_part : Nat → (List UInt8) → Int → Int → Int → Int → Int → Tp1 → Option (Int × (List UInt8) × Int × Int × Int × Tp1 × Int × Int)) (rc_r35_Reader_part' : (List UInt8) → Int → Int → Int → Int → Int → Tp1 → Option (Int × (List UInt8) × Int × Int × Int × Tp1 × Int × Int)) (h_rc_r35_Reader_part : ∀ a0 a1 a2 a3 a4 a5 a6, ChO (fun κ => rc_r35_Reader_part κ a0 a1 a2 a3 a4 a5 a6) (rc_r35_Reader_part' a0 a1 a2 a3 a4 a5 a6))  (a : Int) (r : (List UInt8)) (r_1 : Int) (r_2 : Int) (r_3 : Int) (r_4 : Int) (r_5 : Int) (l_1 : Tp1) : ChO (fun κ => r35_Reader_whole_L2 (rc_r35_Reader_part κ) a r r_1 r_2 r_3 r_4 r_5 l_1) (r35_Reader_whole_L2 rc_r35_Reader_part' a r r_1 r_2 r_3 r_4 r_5 l_1) := by
  unfold r35_Reader_whole_L2
  exact LFix_ch (fun κ => (r35_Reader_whole_L2_cn (rc_r35_Reader_part κ) ).mono) (r35_Reader_whole_L2_cn rc_r35_Reader_part' ).mono (fun g h hg x => r35_Reader_whole_L2_B_ch rc_r35_Reader_part rc_r35_Reader_part' h_rc_r35_Reader_part (fun κ a r r_1 r_2 r_3 r_4 r_5 l_1 => g κ (a, r, r_1, r_2, r_3, r_4, r_5, l_1)) (fun a r r_1 r_2 r_3 r_4 r_5 l_1 => h (a, r, r_1, r_2, r_3, r_4, r_5, l_1)) (fun a r r_1 r_2 r_3 r_4 r_5 l_1 => hg (a, r, r_1, r_2, r_3, r_4, r_5, l_1))  x.1 x.2.1 x.2.2.1 x.2.2.2.1 x.2.2.2.2.1 x.2.2.2.2.2.1 x.2.2.2.2.2.2.1 x.2.2.2.2.2.2.2) _
theorem r35_Reader_whole_ch (rc_r35_Reader_part : Nat → (List UInt8) → Int → Int → Int → Int → Int → Tp1 → Option (Int × (List UInt8) × Int × Int × Int × Tp1 × Int × Int)) (rc_r35_Reader_part' : (List UInt8) → Int → Int → Int → Int → Int → Tp1 → Option (Int × (List UInt8) × Int × Int × Int × Tp1 × Int × Int)) (h_rc_r35_Reader_part : ∀ a0 a1 a2 a3 a4 a5 a6, ChO (fun κ => rc_r35_Reader_part κ a0 a1 a2 a3 a4 a5 a6) (rc_r35_Reader_part' a0 a1 a2 a3 a4 a5 a6)) (c : (List UInt8)) (c_1 : Int) (c_2 : Int) (c_3 : Int) (c_4 : Int) (c_5 : Int) (l : Tp1) : ChO (fun κ => r35_Reader_whole (rc_r35_Reader_part κ) c c_1 c_2 c_3 c_4 c_5 l) (r35_Reader_whole rc_r35_Reader_part' c c_1 c_2 c_3 c_4 c_5 l) := by
  unfold r35_Reader_whole
  repeat' with_reducible first | exact ChO.const _ | exact h_rc_r35_Reader_part _ _ _ _ _ _ _ | (apply r35_Reader_term_L2_ch <;> assumption) | (apply r35_Reader_term_ch <;> assumption) | (apply r35_Reader_whole_L2_ch <;> assumption) | apply ChO.ite | apply ChO.G | apply ChO.both | (apply ChO.bind; intro _) | (apply ChO.bind2 (h_rc_r35_Reader_part _ _ _ _ _ _ _); intro _) | (refine ChO.bind2 ?_ (fun _ => ?_))
theorem r35_Reader_ways_J3_ch (rc_r35_Reader_part : Nat → (List UInt8) → Int → Int → Int → Int → Int → Tp1 → Option (Int × (List UInt8) × Int × Int × Int × Tp1 × Int × Int)) (rc_r35_Reader_part' : (List UInt8) → Int → Int → Int → Int → Int → Tp1 → Option (Int × (List UInt8) × Int × Int × Int × Tp1 × Int × Int)) (h_rc_r35_Reader_part : ∀ a0 a1 a2 a3 a4 a5 a6, ChO (fun κ => rc_r35_Reader_part κ a0 a1 a2 a3 a4 a5 a6) (rc_r35_Reader_part' a0 a1 a2 a3 a4 a5 a6)) (all' : Bool) (y' : (List UInt8)) (y'_1 : Int) (y'_2 : Int) (y'_3 : Int) (y'_4 : Tp1) (y'_5 : Int) (y'_6 : Int) (y'_8 : Int) (t : Bool) : ChO (fun κ => r35_Reader_ways_J3 (rc_r35_Reader_part κ) all' y' y'_1 y'_2 y'_3 y'_4 y'_5 y'_6 y'_8 t) (r35_Reader_ways_J3 rc_r35_Reader_part' all' y' y'_1 y'_2 y'_3 y'_4 y'_5 y'_6 y'_8 t) := by
  unfold r35_Reader_ways_J3
  repeat' with_reducible first | exact ChO.const _ | exact h_rc_r35_Reader_part _ _ _ _ _ _ _ | (apply r35_Reader_term_L2_ch <;> assumption) | (apply r35_Reader_term_ch <;> assumption) | (apply r35_Reader_whole_L2_ch <;> assumption) | (apply r35_Reader_whole_ch <;> assumption) | apply ChO.ite | apply ChO.G | apply ChO.both | (apply ChO.bind; intro _) | (apply ChO.bind2 (h_rc_r35_Reader_part _ _ _ _ _ _ _); intro _) | (refine ChO.bind2 ?_ (fun _ => ?_))
theorem r35_Reader_ways_ch (rc_r35_Reader_part : Nat → (List UInt8) → Int → Int → Int → Int → Int → Tp1 → Option (Int × (List UInt8) × Int × Int × Int × Tp1 × Int × Int)) (rc_r35_Reader_part' : (List UInt8) → Int → Int → Int → Int → Int → Tp1 → Option (Int × (List UInt8) × Int × Int × Int × Tp1 × Int × Int)) (h_rc_r35_Reader_part : ∀ a0 a1 a2 a3 a4 a5 a6, ChO (fun κ => rc_r35_Reader_part κ a0 a1 a2 a3 a4 a5 a6) (rc_r35_Reader_part' a0 a1 a2 a3 a4 a5 a6)) (all' : Bool) (c : (List UInt8)) (c_1 : Int) (c_2 : Int) (c_3 : Int) (c_4 : Int) (c_5 : Int) (l : Tp1) : ChO (fun κ => r35_Reader_ways (rc_r35_Reader_part κ) all' c c_1 c_2 c_3 c_4 c_5 l) (r35_Reader_ways rc_r35_Reader_part' all' c c_1 c_2 c_3 c_4 c_5 l) := by
  unfold r35_Reader_ways
  repeat' with_reducible first | exact ChO.const _ | exact h_rc_r35_Reader_part _ _ _ _ _ _ _ | (apply r35_Reader_term_L2_ch <;> assumption) | (apply r35_Reader_term_ch <;> assumption) | (apply r35_Reader_whole_L2_ch <;> assumption) | (apply r35_Reader_whole_ch <;> assumption) | (apply r35_Reader_ways_J3_ch <;> assumption) | apply ChO.ite | apply ChO.G | apply ChO.both | (apply ChO.bind; intro _) | (apply ChO.bind2 (h_rc_r35_Reader_part _ _ _ _ _ _ _); intro _) | (refine ChO.bind2 ?_ (fun _ => ?_))
theorem r35_Reader_part_J15_ch (rc_r35_Reader_part : Nat → (List UInt8) → Int → Int → Int → Int → Int → Tp1 → Option (Int × (List UInt8) × Int × Int × Int × Tp1 × Int × Int)) (rc_r35_Reader_part' : (List UInt8) → Int → Int → Int → Int → Int → Tp1 → Option (Int × (List UInt8) × Int × Int × Int × Tp1 × Int × Int)) (h_rc_r35_Reader_part : ∀ a0 a1 a2 a3 a4 a5 a6, ChO (fun κ => rc_r35_Reader_part κ a0 a1 a2 a3 a4 a5 a6) (rc_r35_Reader_part' a0 a1 a2 a3 a4 a5 a6)) (c : (List UInt8)) (c_1 : Int) (c_2 : Int) (c_3 : Int) (c_4 : Int) (c_5 : Int) (l : Tp1) (y'_1 : Int) (t_2 : Bool) : ChO (fun κ => r35_Reader_part_J15 (rc_r35_Reader_part κ) c c_1 c_2 c_3 c_4 c_5 l y'_1 t_2) (r35_Reader_part_J15 rc_r35_Reader_part' c c_1 c_2 c_3 c_4 c_5 l y'_1 t_2) := by
  unfold r35_Reader_part_J15
  repeat' with_reducible first | exact ChO.const _ | exact h_rc_r35_Reader_part _ _ _ _ _ _ _ | (apply r35_Reader_term_L2_ch <;> assumption) | (apply r35_Reader_term_ch <;> assumption) | (apply r35_Reader_whole_L2_ch <;> assumption) | (apply r35_Reader_whole_ch <;> assumption) | (apply r35_Reader_ways_J3_ch <;> assumption) | (apply r35_Reader_ways_ch <;> assumption) | apply ChO.ite | apply ChO.G | apply ChO.both | (apply ChO.bind; intro _) | (apply ChO.bind2 (h_rc_r35_Reader_part _ _ _ _ _ _ _); intro _) | (refine ChO.bind2 ?_ (fun _ => ?_))
theorem r35_Reader_part_J8_ch (rc_r35_Reader_part : Nat → (List UInt8) → Int → Int → Int → Int → Int → Tp1 → Option (Int × (List UInt8) × Int × Int × Int × Tp1 × Int × Int)) (rc_r35_Reader_part' : (List UInt8) → Int → Int → Int → Int → Int → Tp1 → Option (Int × (List UInt8) × Int × Int × Int × Tp1 × Int × Int)) (h_rc_r35_Reader_part : ∀ a0 a1 a2 a3 a4 a5 a6, ChO (fun κ => rc_r35_Reader_part κ a0 a1 a2 a3 a4 a5 a6) (rc_r35_Reader_part' a0 a1 a2 a3 a4 a5 a6)) (c : (List UInt8)) (c_1 : Int) (c_2 : Int) (c_3 : Int) (c_4 : Int) (c_5 : Int) (l : Tp1) (y'_1 : Int) (t_1 : Bool) : ChO (fun κ => r35_Reader_part_J8 (rc_r35_Reader_part κ) c c_1 c_2 c_3 c_4 c_5 l y'_1 t_1) (r35_Reader_part_J8 rc_r35_Reader_part' c c_1 c_2 c_3 c_4 c_5 l y'_1 t_1) := by
  unfold r35_Reader_part_J8
  repeat' with_reducible first | exact ChO.const _ | exact h_rc_r35_Reader_part _ _ _ _ _ _ _ | (apply r35_Reader_term_L2_ch <;> assumption) | (apply r35_Reader_term_ch <;> assumption) | (apply r35_Reader_whole_L2_ch <;> assumption) | (apply r35_Reader_whole_ch <;> assumption) | (apply r35_Reader_ways_J3_ch <;> assumption) | (apply r35_Reader_ways_ch <;> assumption) | (apply r35_Reader_part_J15_ch <;> assumption) | apply ChO.ite | apply ChO.G | apply ChO.both | (apply ChO.bind; intro _) | (apply ChO.bind2 (h_rc_r35_Reader_part _ _ _ _ _ _ _); intro _) | (refine ChO.bind2 ?_ (fun _ => ?_))
theorem r35_Reader_part_J5_ch (rc_r35_Reader_part : Nat → (List UInt8) → Int → Int → Int → Int → Int → Tp1 → Option (Int × (List UInt8) × Int × Int × Int × Tp1 × Int × Int)) (rc_r35_Reader_part' : (List UInt8) → Int → Int → Int → Int → Int → Tp1 → Option (Int × (List UInt8) × Int × Int × Int × Tp1 × Int × Int)) (h_rc_r35_Reader_part : ∀ a0 a1 a2 a3 a4 a5 a6, ChO (fun κ => rc_r35_Reader_part κ a0 a1 a2 a3 a4 a5 a6) (rc_r35_Reader_part' a0 a1 a2 a3 a4 a5 a6)) (c : (List UInt8)) (c_1 : Int) (c_2 : Int) (c_3 : Int) (c_4 : Int) (c_5 : Int) (l : Tp1) (y'_1 : Int) (t : Bool) : ChO (fun κ => r35_Reader_part_J5 (rc_r35_Reader_part κ) c c_1 c_2 c_3 c_4 c_5 l y'_1 t) (r35_Reader_part_J5 rc_r35_Reader_part' c c_1 c_2 c_3 c_4 c_5 l y'_1 t) := by
  unfold r35_Reader_part_J5
  repeat' with_reducible first | exact ChO.const _ | exact h_rc_r35_Reader_part _ _ _ _ _ _ _ | (apply r35_Reader_term_L2_ch <;> assumption) | (apply r35_Reader_term_ch <;> assumption) | (apply r35_Reader_whole_L2_ch <;> assumption) | (apply r35_Reader_whole_ch <;> assumption) | (apply r35_Reader_ways_J3_ch <;> assumption) | (apply r35_Reader_ways_ch <;> assumption) | (apply r35_Reader_part_J15_ch <;> assumption) | (apply r35_Reader_part_J8_ch <;> assumption) | apply ChO.ite | apply ChO.G | apply ChO.both | (apply ChO.bind; intro _) | (apply ChO.bind2 (h_rc_r35_Reader_part _ _ _ _ _ _ _); intro _) | (refine ChO.bind2 ?_ (fun _ => ?_))
theorem r35_Reader_part_B_ch (rc_r35_Reader_part : Nat → (List UInt8) → Int → Int → Int → Int → Int → Tp1 → Option (Int × (List UInt8) × Int × Int × Int × Tp1 × Int × Int)) (rc_r35_Reader_part' : (List UInt8) → Int → Int → Int → Int → Int → Tp1 → Option (Int × (List UInt8) × Int × Int × Int × Tp1 × Int × Int)) (h_rc_r35_Reader_part : ∀ a0 a1 a2 a3 a4 a5 a6, ChO (fun κ => rc_r35_Reader_part κ a0 a1 a2 a3 a4 a5 a6) (rc_r35_Reader_part' a0 a1 a2 a3 a4 a5 a6)) (c : (List UInt8)) (c_1 : Int) (c_2 : Int) (c_3 : Int) (c_4 : Int) (c_5 : Int) (l : Tp1) : ChO (fun κ => r35_Reader_part_B (rc_r35_Reader_part κ) c c_1 c_2 c_3 c_4 c_5 l) (r35_Reader_part_B rc_r35_Reader_part' c c_1 c_2 c_3 c_4 c_5 l) := by
  unfold r35_Reader_part_B
  repeat' with_reducible first | exact ChO.const _ | exact h_rc_r35_Reader_part _ _ _ _ _ _ _ | (apply r35_Reader_term_L2_ch <;> assumption) | (apply r35_Reader_term_ch <;> assumption) | (apply r35_Reader_whole_L2_ch <;> assumption) | (apply r35_Reader_whole_ch <;> assumption) | (apply r35_Reader_ways_J3_ch <;> assumption) | (apply r35_Reader_ways_ch <;> assumption) | (apply r35_Reader_part_J15_ch <;> assumption) | (apply r35_Reader_part_J8_ch <;> assumption) | (apply r35_Reader_part_J5_ch <;> assumption) | apply ChO.ite | apply ChO.G | apply ChO.both | (apply ChO.bind; intro _) | (apply ChO.bind2 (h_rc_r35_Reader_part _ _ _ _ _ _ _); intro _) | (refine ChO.bind2 ?_ (fun _ => ?_))
noncomputable def r35_Reader_part_F : ((List UInt8) × Int × Int × Int × Int × Int × Tp1 → Option (Int × (List UInt8) × Int × Int × Int × Tp1 × Int × Int)) → (List UInt8) × Int × Int × Int × Int × Int × Tp1 → Option (Int × (List UInt8) × Int × Int × Int × Tp1 × Int × Int) :=
  fun rec X => r35_Reader_part_B (fun c c_1 c_2 c_3 c_4 c_5 l => rec (c, c_1, c_2, c_3, c_4, c_5, l)) X.1 X.2.1 X.2.2.1 X.2.2.2.1 X.2.2.2.2.1 X.2.2.2.2.2.1 X.2.2.2.2.2.2
noncomputable def r35_Reader_part (c : (List UInt8)) (c_1 : Int) (c_2 : Int) (c_3 : Int) (c_4 : Int) (c_5 : Int) (l : Tp1) : Option (Int × (List UInt8) × Int × Int × Int × Tp1 × Int × Int) := LFix r35_Reader_part_F (c, c_1, c_2, c_3, c_4, c_5, l)
theorem r35_Reader_part_cn : Cn r35_Reader_part_F := fun g h hg X => r35_Reader_part_B_ch _ _ (fun c c_1 c_2 c_3 c_4 c_5 l => hg (c, c_1, c_2, c_3, c_4, c_5, l)) X.1 X.2.1 X.2.2.1 X.2.2.2.1 X.2.2.2.2.1 X.2.2.2.2.2.1 X.2.2.2.2.2.2
theorem r35_Reader_part_eq (c : (List UInt8)) (c_1 : Int) (c_2 : Int) (c_3 : Int) (c_4 : Int) (c_5 : Int) (l : Tp1) : r35_Reader_part c c_1 c_2 c_3 c_4 c_5 l = r35_Reader_part_B r35_Reader_part c c_1 c_2 c_3 c_4 c_5 l := LFix_eq r35_Reader_part_cn (c, c_1, c_2, c_3, c_4, c_5, l)
noncomputable def r35_Reader_term_c (c : (List UInt8)) (c_1 : Int) (c_2 : Int) (c_3 : Int) (c_4 : Int) (c_5 : Int) (l : Tp1) : Option (Int × (List UInt8) × Int × Int × Int × Tp1 × Int × Int) := r35_Reader_term r35_Reader_part c c_1 c_2 c_3 c_4 c_5 l
noncomputable def r35_Reader_whole_c (c : (List UInt8)) (c_1 : Int) (c_2 : Int) (c_3 : Int) (c_4 : Int) (c_5 : Int) (l : Tp1) : Option (Int × (List UInt8) × Int × Int × Int × Tp1 × Int × Int) := r35_Reader_whole r35_Reader_part c c_1 c_2 c_3 c_4 c_5 l
noncomputable def r35_Reader_ways_c (all' : Bool) (c : (List UInt8)) (c_1 : Int) (c_2 : Int) (c_3 : Int) (c_4 : Int) (c_5 : Int) (l : Tp1) : Option (Int × (List UInt8) × Int × Int × Int × Tp1 × Int × Int) := r35_Reader_ways r35_Reader_part all' c c_1 c_2 c_3 c_4 c_5 l

noncomputable def r35_Parse (text : (List UInt8)) : Option (Int × (Int × Int × Unit) × Tp1) :=
  if (decide ((4000 : Int) < (text.length : Int))) = true then
  some ((0 : Int), ((1 : Int), ((0 : Int), ())), []) else
  (r35_Reader_whole_c text (0 : Int) (0 : Int) (0 : Int) (0 : Int) (0 : Int) ([] : List Tp2)).bind (fun y'_18 =>
  if (decide (y'_18.2.2.1 < (text.length : Int))) = true then
  (r35_Reader_fail (4 : Int) y'_18.2.1 y'_18.2.2.1 y'_18.2.2.2.1 y'_18.2.2.2.2.1 y'_18.2.2.2.2.2.2.1 y'_18.2.2.2.2.2.2.2 y'_18.2.2.2.2.2.1).bind (fun y'_17 =>
  if (decide (¬ y'_17.2.2.2.2.2.1 = (0 : Int))) = true then
  some ((0 : Int), (y'_17.2.2.2.2.2.1, (y'_17.2.2.2.2.2.2, ())), []) else
  some (y'_18.1, ((0 : Int), ((0 : Int), ())), y'_17.2.2.2.2.1)) else
  if (decide (¬ y'_18.2.2.2.2.2.2.1 = (0 : Int))) = true then
  some ((0 : Int), (y'_18.2.2.2.2.2.2.1, (y'_18.2.2.2.2.2.2.2, ())), []) else
  some (y'_18.1, ((0 : Int), ((0 : Int), ())), y'_18.2.2.2.2.2.1))

noncomputable def law_BranchReads (text : (List UInt8)) : Option (Bool) :=
  (branch_Check text).bind (fun y' =>
  (r35_Parse text).bind (fun y'_5 =>
  some (eqB (y'.1, (y'.2.1, ())) (y'_5.2.1.1, (y'_5.2.1.2.1, ())))))

end Go.Proofs.Ytbiecnnpmnlchaa.branchReadsW
