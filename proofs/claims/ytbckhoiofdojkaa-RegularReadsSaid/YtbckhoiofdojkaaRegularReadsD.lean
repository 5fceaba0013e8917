/- What the functions that 'RegularReads' reaches compute: plain functions. -/
import Derived.Test.YtbckhoiofdojkaaEv26n21
set_option maxHeartbeats 1000000
set_option maxRecDepth 20000
set_option linter.unusedSimpArgs false
set_option linter.unusedVariables false
set_option linter.unusedSectionVars false
namespace Go.Proofs.Ytbckhoiofdojkaa.regularReadsW
open Go Go.Ab
abbrev Tp3 := (List Int)
abbrev Tp2 := (Int × Int × Tp3 × Unit)
abbrev Tp1 := (List Tp2)
noncomputable def regular_reader_now (r : ((List UInt8) × Int × Int × Unit)) : Option (Int) :=
  if (decide (r.2.1 = (r.1.length : Int))) = true then
  some (0 : Int) else
  G (0 ≤ r.2.1 ∧ r.2.1 < (r.1.length : Int)) (
  some (bAt r.1 r.2.1))

noncomputable def regular_reader_fail (r : ((List UInt8) × Int × Int × Unit)) (code : Int) : Option ((Unit) ⊕ (Int × Int)) :=
  some (.inr ((((code, (r.2.1, ())), ())).1.1, (((code, (r.2.1, ())), ())).1.2.1))

noncomputable def stringslite_IndexByte (s : List UInt8) (c : Int) : Option Int := some (ixByte s c)

noncomputable def strings_IndexByte (s : (List UInt8)) (c : Int) : Option (Int) :=
  (stringslite_IndexByte s c).bind (fun y' =>
  some y')

noncomputable def regular_reader_begins (r : ((List UInt8) × Int × Int × Unit)) : Option (Bool) :=
  if (decide (r.2.1 < (r.1.length : Int))) = true then
  (regular_reader_now r).bind (fun y' =>
  (strings_IndexByte ([48, 49, 97, 98, 99, 100, 40]) y').bind (fun y'_1 =>
  some (decide ((0 : Int) ≤ y'_1)))) else
  some false

noncomputable def regular_reader_part_J10 (rc_regular_reader_whole : (List UInt8) → Int → Int → Option (((Tr (Int × Int × Unit)) × (List UInt8) × Int × Int) ⊕ (Int × Int))) (c : (List UInt8)) (c_1 : Int) (c_2 : Int) : Option (((Tr (Int × Int × Unit)) × (List UInt8) × Int × Int) ⊕ (Int × Int)) :=
  G (fits (c_2 + (1 : Int))) (
  G (fits (c_1 + (1 : Int))) (
  pbind (rc_regular_reader_whole c (c_1 + (1 : Int)) (c_2 + (1 : Int))) (fun y'_6 =>
  (regular_reader_now (y'_6.2.1, (y'_6.2.2.1, (y'_6.2.2.2, ())))).bind (fun y'_7 =>
  if (decide (¬ y'_7 = (41 : Int))) = true then
  pbind (regular_reader_fail (y'_6.2.1, (y'_6.2.2.1, (y'_6.2.2.2, ()))) (4 : Int)) (fun _ =>
  G (fits (y'_6.2.2.1 + (1 : Int))) (
  G (fits (y'_6.2.2.2 - (1 : Int))) (
  some (.inl (y'_6.1, y'_6.2.1, y'_6.2.2.1 + (1 : Int), y'_6.2.2.2 - (1 : Int)))))) (fun p => some (.inr (p.1, p.2))) else
  G (fits (y'_6.2.2.1 + (1 : Int))) (
  G (fits (y'_6.2.2.2 - (1 : Int))) (
  some (.inl (y'_6.1, y'_6.2.1, y'_6.2.2.1 + (1 : Int), y'_6.2.2.2 - (1 : Int))))))) (fun p => some (.inr (p.1, p.2)))))
noncomputable def regular_reader_part_J5 (rc_regular_reader_whole : (List UInt8) → Int → Int → Option (((Tr (Int × Int × Unit)) × (List UInt8) × Int × Int) ⊕ (Int × Int))) (c : (List UInt8)) (c_1 : Int) (c_2 : Int) (y' : Int) (t : Bool) : Option (((Tr (Int × Int × Unit)) × (List UInt8) × Int × Int) ⊕ (Int × Int)) :=
  if t = true then
  G (fits (c_1 + (1 : Int))) (
  some (.inl (Tr.mk ((2 : Int), (IntKind.wrap .i64 (IntKind.wrap .u8 (y' - (97 : Int))), ())) ([]), c, c_1 + (1 : Int), c_2))) else
  if (decide (y' = (40 : Int))) = true then
  if (decide (c_2 = (40 : Int))) = true then
  pbind (regular_reader_fail (c, (c_1, (c_2, ()))) (7 : Int)) (fun _ =>
  regular_reader_part_J10 rc_regular_reader_whole c c_1 c_2) (fun p => some (.inr (p.1, p.2))) else
  regular_reader_part_J10 rc_regular_reader_whole c c_1 c_2 else
  pbind (regular_reader_fail (c, (c_1, (c_2, ()))) (4 : Int)) (fun _ =>
  some (.inl (Tr.nil, c, c_1, c_2))) (fun p => some (.inr (p.1, p.2)))
noncomputable def regular_reader_part (rc_regular_reader_whole : (List UInt8) → Int → Int → Option (((Tr (Int × Int × Unit)) × (List UInt8) × Int × Int) ⊕ (Int × Int))) (c : (List UInt8)) (c_1 : Int) (c_2 : Int) : Option (((Tr (Int × Int × Unit)) × (List UInt8) × Int × Int) ⊕ (Int × Int)) :=
  (regular_reader_now (c, (c_1, (c_2, ())))).bind (fun y' =>
  if (decide (y' = (48 : Int))) = true then
  G (fits (c_1 + (1 : Int))) (
  some (.inl (Tr.mk (IntKind.wrap .i64 (IntKind.wrap .u8 (y' - (48 : Int))), ((0 : Int), ())) ([]), c, c_1 + (1 : Int), c_2))) else
  if (decide (y' = (49 : Int))) = true then
  G (fits (c_1 + (1 : Int))) (
  some (.inl (Tr.mk (IntKind.wrap .i64 (IntKind.wrap .u8 (y' - (48 : Int))), ((0 : Int), ())) ([]), c, c_1 + (1 : Int), c_2))) else
  if (decide ((97 : Int) ≤ y')) = true then
  regular_reader_part_J5 rc_regular_reader_whole c c_1 c_2 y' (decide (y' ≤ (100 : Int))) else
  regular_reader_part_J5 rc_regular_reader_whole c c_1 c_2 y' false)
noncomputable def regular_reader_one_L2_B  (r2 : (Tr (Int × Int × Unit)) → (List UInt8) → Int → Int → Option (((Tr (Int × Int × Unit)) × (List UInt8) × Int × Int) ⊕ (Int × Int))) (p : (Tr (Int × Int × Unit))) (r : (List UInt8)) (r_1 : Int) (r_2 : Int) : Option (((Tr (Int × Int × Unit)) × (List UInt8) × Int × Int) ⊕ (Int × Int)) :=
  (regular_reader_now (r, (r_1, (r_2, ())))).bind (fun y'_5 =>
  if (decide (y'_5 = (42 : Int))) = true then
  G (fits (r_1 + (1 : Int))) (
  r2 (Tr.mk ((5 : Int), ((0 : Int), ())) ([p])) r (r_1 + (1 : Int)) r_2) else
  some (.inl (p, r, r_1, r_2)))
noncomputable def regular_reader_one_L2_F  : ((Tr (Int × Int × Unit)) × (List UInt8) × Int × Int → Option (((Tr (Int × Int × Unit)) × (List UInt8) × Int × Int) ⊕ (Int × Int))) → (Tr (Int × Int × Unit)) × (List UInt8) × Int × Int → Option (((Tr (Int × Int × Unit)) × (List UInt8) × Int × Int) ⊕ (Int × Int)) :=
  fun rec x => regular_reader_one_L2_B (fun p r r_1 r_2 => rec (p, r, r_1, r_2)) x.1 x.2.1 x.2.2.1 x.2.2.2
noncomputable def regular_reader_one_L2  (p : (Tr (Int × Int × Unit))) (r : (List UInt8)) (r_1 : Int) (r_2 : Int) : Option (((Tr (Int × Int × Unit)) × (List UInt8) × Int × Int) ⊕ (Int × Int)) := LFix (regular_reader_one_L2_F ) (p, r, r_1, r_2)
noncomputable def regular_reader_one (rc_regular_reader_whole : (List UInt8) → Int → Int → Option (((Tr (Int × Int × Unit)) × (List UInt8) × Int × Int) ⊕ (Int × Int))) (c : (List UInt8)) (c_1 : Int) (c_2 : Int) : Option (((Tr (Int × Int × Unit)) × (List UInt8) × Int × Int) ⊕ (Int × Int)) :=
  pbind (regular_reader_part rc_regular_reader_whole c c_1 c_2) (fun y'_4 =>
  regular_reader_one_L2 y'_4.1 y'_4.2.1 y'_4.2.2.1 y'_4.2.2.2) (fun p => some (.inr (p.1, p.2)))
noncomputable def regular_reader_row_J3 (r_3 : (List UInt8)) (r_4 : Int) (r_5 : Int) (p_2 : Int) (p_3 : Int) (l_1 : (List (Tr (Int × Int × Unit)))) : Option (((Tr (Int × Int × Unit)) × (List UInt8) × Int × Int) ⊕ (Int × Int)) :=
  some (.inl (Tr.mk (p_2, (p_3, ())) l_1, r_3, r_4, r_5))
noncomputable def regular_reader_row_L2_B (rc_regular_reader_whole : (List UInt8) → Int → Int → Option (((Tr (Int × Int × Unit)) × (List UInt8) × Int × Int) ⊕ (Int × Int)))  (r2 : (List UInt8) → Int → Int → Int → Int → (List (Tr (Int × Int × Unit))) → Option (((Tr (Int × Int × Unit)) × (List UInt8) × Int × Int) ⊕ (Int × Int))) (r : (List UInt8)) (r_1 : Int) (r_2 : Int) (p : Int) (p_1 : Int) (l : (List (Tr (Int × Int × Unit)))) : Option (((Tr (Int × Int × Unit)) × (List UInt8) × Int × Int) ⊕ (Int × Int)) :=
  (regular_reader_begins (r, (r_1, (r_2, ())))).bind (fun y'_5 =>
  if y'_5 = true then
  pbind (regular_reader_one rc_regular_reader_whole r r_1 r_2) (fun y'_10 =>
  G (room l ([y'_10.1]) 8) (
  r2 y'_10.2.1 y'_10.2.2.1 y'_10.2.2.2 p p_1 (l ++ ([y'_10.1])))) (fun p => some (.inr (p.1, p.2))) else
  regular_reader_row_J3 r r_1 r_2 p p_1 l)
noncomputable def regular_reader_row_L2_F (rc_regular_reader_whole : (List UInt8) → Int → Int → Option (((Tr (Int × Int × Unit)) × (List UInt8) × Int × Int) ⊕ (Int × Int)))  : ((List UInt8) × Int × Int × Int × Int × (List (Tr (Int × Int × Unit))) → Option (((Tr (Int × Int × Unit)) × (List UInt8) × Int × Int) ⊕ (Int × Int))) → (List UInt8) × Int × Int × Int × Int × (List (Tr (Int × Int × Unit))) → Option (((Tr (Int × Int × Unit)) × (List UInt8) × Int × Int) ⊕ (Int × Int)) :=
  fun rec x => regular_reader_row_L2_B rc_regular_reader_whole (fun r r_1 r_2 p p_1 l => rec (r, r_1, r_2, p, p_1, l)) x.1 x.2.1 x.2.2.1 x.2.2.2.1 x.2.2.2.2.1 x.2.2.2.2.2
noncomputable def regular_reader_row_L2 (rc_regular_reader_whole : (List UInt8) → Int → Int → Option (((Tr (Int × Int × Unit)) × (List UInt8) × Int × Int) ⊕ (Int × Int)))  (r : (List UInt8)) (r_1 : Int) (r_2 : Int) (p : Int) (p_1 : Int) (l : (List (Tr (Int × Int × Unit)))) : Option (((Tr (Int × Int × Unit)) × (List UInt8) × Int × Int) ⊕ (Int × Int)) := LFix (regular_reader_row_L2_F rc_regular_reader_whole ) (r, r_1, r_2, p, p_1, l)
noncomputable def regular_reader_row (rc_regular_reader_whole : (List UInt8) → Int → Int → Option (((Tr (Int × Int × Unit)) × (List UInt8) × Int × Int) ⊕ (Int × Int))) (c : (List UInt8)) (c_1 : Int) (c_2 : Int) : Option (((Tr (Int × Int × Unit)) × (List UInt8) × Int × Int) ⊕ (Int × Int)) :=
  pbind (regular_reader_one rc_regular_reader_whole c c_1 c_2) (fun y'_4 =>
  regular_reader_row_L2 rc_regular_reader_whole y'_4.2.1 y'_4.2.2.1 y'_4.2.2.2 (4 : Int) (0 : Int) ([y'_4.1])) (fun p => some (.inr (p.1, p.2)))
noncomputable def regular_reader_whole_J4 (r_3 : (List UInt8)) (r_4 : Int) (r_5 : Int) (p_2 : Int) (p_3 : Int) (l_1 : (List (Tr (Int × Int × Unit)))) : Option (((Tr (Int × Int × Unit)) × (List UInt8) × Int × Int) ⊕ (Int × Int)) :=
  some (.inl (Tr.mk (p_2, (p_3, ())) l_1, r_3, r_4, r_5))
noncomputable def regular_reader_whole_L2_B (rc_regular_reader_whole : (List UInt8) → Int → Int → Option (((Tr (Int × Int × Unit)) × (List UInt8) × Int × Int) ⊕ (Int × Int)))  (r2 : (List UInt8) → Int → Int → Int → Int → (List (Tr (Int × Int × Unit))) → Option (((Tr (Int × Int × Unit)) × (List UInt8) × Int × Int) ⊕ (Int × Int))) (r : (List UInt8)) (r_1 : Int) (r_2 : Int) (p : Int) (p_1 : Int) (l : (List (Tr (Int × Int × Unit)))) : Option (((Tr (Int × Int × Unit)) × (List UInt8) × Int × Int) ⊕ (Int × Int)) :=
  (regular_reader_now (r, (r_1, (r_2, ())))).bind (fun y'_5 =>
  if (decide (y'_5 = (43 : Int))) = true then
  G (fits (r_1 + (1 : Int))) (
  pbind (regular_reader_row rc_regular_reader_whole r (r_1 + (1 : Int)) r_2) (fun y'_10 =>
  G (room l ([y'_10.1]) 8) (
  r2 y'_10.2.1 y'_10.2.2.1 y'_10.2.2.2 p p_1 (l ++ ([y'_10.1])))) (fun p => some (.inr (p.1, p.2)))) else
  regular_reader_whole_J4 r r_1 r_2 p p_1 l)
noncomputable def regular_reader_whole_L2_F (rc_regular_reader_whole : (List UInt8) → Int → Int → Option (((Tr (Int × Int × Unit)) × (List UInt8) × Int × Int) ⊕ (Int × Int)))  : ((List UInt8) × Int × Int × Int × Int × (List (Tr (Int × Int × Unit))) → Option (((Tr (Int × Int × Unit)) × (List UInt8) × Int × Int) ⊕ (Int × Int))) → (List UInt8) × Int × Int × Int × Int × (List (Tr (Int × Int × Unit))) → Option (((Tr (Int × Int × Unit)) × (List UInt8) × Int × Int) ⊕ (Int × Int)) :=
  fun rec x => regular_reader_whole_L2_B rc_regular_reader_whole (fun r r_1 r_2 p p_1 l => rec (r, r_1, r_2, p, p_1, l)) x.1 x.2.1 x.2.2.1 x.2.2.2.1 x.2.2.2.2.1 x.2.2.2.2.2
noncomputable def regular_reader_whole_L2 (rc_regular_reader_whole : (List UInt8) → Int → Int → Option (((Tr (Int × Int × Unit)) × (List UInt8) × Int × Int) ⊕ (Int × Int)))  (r : (List UInt8)) (r_1 : Int) (r_2 : Int) (p : Int) (p_1 : Int) (l : (List (Tr (Int × Int × Unit)))) : Option (((Tr (Int × Int × Unit)) × (List UInt8) × Int × Int) ⊕ (Int × Int)) := LFix (regular_reader_whole_L2_F rc_regular_reader_whole ) (r, r_1, r_2, p, p_1, l)
noncomputable def regular_reader_whole_B (rc_regular_reader_whole : (List UInt8) → Int → Int → Option (((Tr (Int × Int × Unit)) × (List UInt8) × Int × Int) ⊕ (Int × Int))) (c : (List UInt8)) (c_1 : Int) (c_2 : Int) : Option (((Tr (Int × Int × Unit)) × (List UInt8) × Int × Int) ⊕ (Int × Int)) :=
  pbind (regular_reader_row rc_regular_reader_whole c c_1 c_2) (fun y'_4 =>
  regular_reader_whole_L2 rc_regular_reader_whole y'_4.2.1 y'_4.2.2.1 y'_4.2.2.2 (3 : Int) (0 : Int) ([y'_4.1])) (fun p => some (.inr (p.1, p.2)))
theorem regular_reader_part_J10_ch (rc_regular_reader_whole : Nat → (List UInt8) → Int → Int → Option (((Tr (Int × Int × Unit)) × (List UInt8) × Int × Int) ⊕ (Int × Int))) (rc_regular_reader_whole' : (List UInt8) → Int → Int → Option (((Tr (Int × Int × Unit)) × (List UInt8) × Int × Int) ⊕ (Int × Int))) (h_rc_regular_reader_whole : ∀ a0 a1 a2, ChO (fun κ => rc_regular_reader_whole κ a0 a1 a2) (rc_regular_reader_whole' a0 a1 a2)) (c : (List UInt8)) (c_1 : Int) (c_2 : Int) : ChO (fun κ => regular_reader_part_J10 (rc_regular_reader_whole κ) c c_1 c_2) (regular_reader_part_J10 rc_regular_reader_whole' c c_1 c_2) := by
  unfold regular_reader_part_J10
  repeat' with_reducible first | exact ChO.const _ | exact h_rc_regular_reader_whole _ _ _ | apply ChO.ite | apply ChO.G | apply ChO.both | apply ChO.bothS | (apply ChO.bind; intro _) | (apply ChO.bind2 (h_rc_regular_reader_whole _ _ _); intro _) | (refine ChO.bind2 ?_ (fun _ => ?_)) | (refine ChO.pbind (fun _ => ?_) (fun _ => ?_)) | (refine ChO.pbind2 ?_ (fun _ => ?_) (fun _ => ?_))
theorem regular_reader_part_J5_ch (rc_regular_reader_whole : Nat → (List UInt8) → Int → Int → Option (((Tr (Int × Int × Unit)) × (List UInt8) × Int × Int) ⊕ (Int × Int))) (rc_regular_reader_whole' : (List UInt8) → Int → Int → Option (((Tr (Int × Int × Unit)) × (List UInt8) × Int × Int) ⊕ (Int × Int))) (h_rc_regular_reader_whole : ∀ a0 a1 a2, ChO (fun κ => rc_regular_reader_whole κ a0 a1 a2) (rc_regular_reader_whole' a0 a1 a2)) (c : (List UInt8)) (c_1 : Int) (c_2 : Int) (y' : Int) (t : Bool) : ChO (fun κ => regular_reader_part_J5 (rc_regular_reader_whole κ) c c_1 c_2 y' t) (regular_reader_part_J5 rc_regular_reader_whole' c c_1 c_2 y' t) := by
  unfold regular_reader_part_J5
  repeat' with_reducible first | exact ChO.const _ | exact h_rc_regular_reader_whole _ _ _ | (apply regular_reader_part_J10_ch <;> assumption) | apply ChO.ite | apply ChO.G | apply ChO.both | apply ChO.bothS | (apply ChO.bind; intro _) | (apply ChO.bind2 (h_rc_regular_reader_whole _ _ _); intro _) | (refine ChO.bind2 ?_ (fun _ => ?_)) | (refine ChO.pbind (fun _ => ?_) (fun _ => ?_)) | (refine ChO.pbind2 ?_ (fun _ => ?_) (fun _ => ?_))
theorem regular_reader_part_ch (rc_regular_reader_whole : Nat → (List UInt8) → Int → Int → Option (((Tr (Int × Int × Unit)) × (List UInt8) × Int × Int) ⊕ (Int × Int))) (rc_regular_reader_whole' : (List UInt8) → Int → Int → Option (((Tr (Int × Int × Unit)) × (List UInt8) × Int × Int) ⊕ (Int × Int))) (h_rc_regular_reader_whole : ∀ a0 a1 a2, ChO (fun κ => rc_regular_reader_whole κ a0 a1 a2) (rc_regular_reader_whole' a0 a1 a2)) (c : (List UInt8)) (c_1 : Int) (c_2 : Int) : ChO (fun κ => regular_reader_part (rc_regular_reader_whole κ) c c_1 c_2) (regular_reader_part rc_regular_reader_whole' c c_1 c_2) := by
  unfold regular_reader_part
  repeat' with_reducible first | exact ChO.const _ | exact h_rc_regular_reader_whole _ _ _ | (apply regular_reader_part_J10_ch <;> assumption) | (apply regular_reader_part_J5_ch <;> assumption) | apply ChO.ite | apply ChO.G | apply ChO.both | apply ChO.bothS | (apply ChO.bind; intro _) | (apply ChO.bind2 (h_rc_regular_reader_whole _ _ _); intro _) | (refine ChO.bind2 ?_ (fun _ => ?_)) | (refine ChO.pbind (fun _ => ?_) (fun _ => ?_)) | (refine ChO.pbind2 ?_ (fun _ => ?_) (fun _ => ?_))
theorem regular_reader_one_L2_B_ch (r2 : Nat → (Tr (Int × Int × Unit)) → (List UInt8) → Int → Int → Option (((Tr (Int × Int × Unit)) × (List UInt8) × Int × Int) ⊕ (Int × Int))) (r2' : (Tr (Int × Int × Unit)) → (List UInt8) → Int → Int → Option (((Tr (Int × Int × Unit)) × (List UInt8) × Int × Int) ⊕ (Int × Int))) (h_r2 : ∀ a0 a1 a2 a3, ChO (fun κ => r2 κ a0 a1 a2 a3) (r2' a0 a1 a2 a3)) (p : (Tr (Int × Int × Unit))) (r : (List UInt8)) (r_1 : Int) (r_2 : Int) : ChO (fun κ => regular_reader_one_L2_B (r2 κ) p r r_1 r_2) (regular_reader_one_L2_B r2' p r r_1 r_2) := by
  unfold regular_reader_one_L2_B
  repeat' with_reducible first | exact ChO.const _ | exact h_r2 _ _ _ _ | (apply regular_reader_part_J10_ch <;> assumption) | (apply regular_reader_part_J5_ch <;> assumption) | (apply regular_reader_part_ch <;> assumption) | apply ChO.ite | apply ChO.G | apply ChO.both | apply ChO.bothS | (apply ChO.bind; intro _) | (refine ChO.bind2 ?_ (fun _ => ?_)) | (refine ChO.pbind (fun _ => ?_) (fun _ => ?_)) | (refine ChO.pbind2 ?_ (fun _ => ?_) (fun _ => ?_))
theorem regular_reader_one_L2_cn   : Cn (regular_reader_one_L2_F) := fun g h hg x => regular_reader_one_L2_B_ch  (fun κ p r r_1 r_2 => g κ (p, r, r_1, r_2)) (fun p r r_1 r_2 => h (p, r, r_1, r_2)) (fun p r r_1 r_2 => hg (p, r, r_1, r_2))  x.1 x.2.1 x.2.2.1 x.2.2.2
theorem regular_reader_one_L2_eq   (p : (Tr (Int × Int × Unit))) (r : (List UInt8)) (r_1 : Int) (r_2 : Int) : regular_reader_one_L2 p r r_1 r_2 = regular_reader_one_L2_B (regular_reader_one_L2) p r r_1 r_2 := LFix_eq (regular_reader_one_L2_cn ) (p, r, r_1, r_2)
theorem regular_reader_one_ch (rc_regular_reader_whole : Nat → (List UInt8) → Int → Int → Option (((Tr (Int × Int × Unit)) × (List UInt8) × Int × Int) ⊕ (Int × Int))) (rc_regular_reader_whole' : (List UInt8) → Int → Int → Option (((Tr (Int × Int × Unit)) × (List UInt8) × Int × Int) ⊕ (Int × Int))) (h_rc_regular_reader_whole : ∀ a0 a1 a2, ChO (fun κ => rc_regular_reader_whole κ a0 a1 a2) (rc_regular_reader_whole' a0 a1 a2)) (c : (List UInt8)) (c_1 : Int) (c_2 : Int) : ChO (fun κ => regular_reader_one (rc_regular_reader_whole κ) c c_1 c_2) (regular_reader_one rc_regular_reader_whole' c c_1 c_2) := by
  unfold regular_reader_one
  repeat' with_reducible first | exact ChO.const _ | exact h_rc_regular_reader_whole _ _ _ | (apply regular_reader_part_J10_ch <;> assumption) | (apply regular_reader_part_J5_ch <;> assumption) | (apply regular_reader_part_ch <;> assumption) | apply ChO.ite | apply ChO.G | apply ChO.both | apply ChO.bothS | (apply ChO.bind; intro _) | (apply ChO.bind2 (h_rc_regular_reader_whole _ _ _); intro _) | (refine ChO.bind2 ?_ (fun _ => ?_)) | (refine ChO.pbind (fun _ => ?_) (fun _ => ?_)) | (refine ChO.pbind2 ?_ (fun _ => ?_) (fun _ => ?_))
theorem regular_reader_row_L2_B_ch (rc_regular_reader_whole : Nat → (List UInt8) → Int → Int → Option (((Tr (Int × Int × Unit)) × (List UInt8) × Int × Int) ⊕ (Int × Int))) (rc_regular_reader_whole' : (List UInt8) → Int → Int → Option (((Tr (Int × Int × Unit)) × (List UInt8) × Int × Int) ⊕ (Int × Int))) (h_rc_regular_reader_whole : ∀ a0 a1 a2, ChO (fun κ => rc_regular_reader_whole κ a0 a1 a2) (rc_regular_reader_whole' a0 a1 a2)) (r2 : Nat → (List UInt8) → Int → Int → Int → Int → (List (Tr (Int × Int × Unit))) → Option (((Tr (Int × Int × Unit)) × (List UInt8) × Int × Int) ⊕ (Int × Int))) (r2' : (List UInt8) → Int → Int → Int → Int → (List (Tr (Int × Int × Unit))) → Option (((Tr (Int × Int × Unit)) × (List UInt8) × Int × Int) ⊕ (Int × Int))) (h_r2 : ∀ a0 a1 a2 a3 a4 a5, ChO (fun κ => r2 κ a0 a1 a2 a3 a4 a5) (r2' a0 a1 a2 a3 a4 a5)) (r : (List UInt8)) (r_1 : Int) (r_2 : Int) (p : Int) (p_1 : Int) (l : (List (Tr (Int × Int × Unit)))) : ChO (fun κ => regular_reader_row_L2_B (rc_regular_reader_whole κ) (r2 κ) r r_1 r_2 p p_1 l) (regular_reader_row_L2_B rc_regular_reader_whole' r2' r r_1 r_2 p p_1 l) := by
  unfold regular_reader_row_L2_B
  repeat' with_reducible first | exact ChO.const _ | exact h_rc_regular_reader_whole _ _ _ | exact h_r2 _ _ _ _ _ _ | (apply regular_reader_part_J10_ch <;> assumption) | (apply regular_reader_part_J5_ch <;> assumption) | (apply regular_reader_part_ch <;> assumption) | (apply regular_reader_one_ch <;> assumption) | apply ChO.ite | apply ChO.G | apply ChO.both | apply ChO.bothS | (apply ChO.bind; intro _) | (apply ChO.bind2 (h_rc_regular_reader_whole _ _ _); intro _) | (refine ChO.bind2 ?_ (fun _ => ?_)) | (refine ChO.pbind (fun _ => ?_) (fun _ => ?_)) | (refine ChO.pbind2 ?_ (fun _ => ?_) (fun _ => ?_))
theorem regular_reader_row_L2_cn (rc_regular_reader_whole : (List UInt8) → Int → Int → Option (((Tr (Int × Int × Unit)) × (List UInt8) × Int × Int) ⊕ (Int × Int)))  : Cn (regular_reader_row_L2_F rc_regular_reader_whole) := fun g h hg x => regular_reader_row_L2_B_ch (fun _ => rc_regular_reader_whole) rc_regular_reader_whole (fun _ _ _ => ChO.const _) (fun κ r r_1 r_2 p p_1 l => g κ (r, r_1, r_2, p, p_1, l)) (fun r r_1 r_2 p p_1 l => h (r, r_1, r_2, p, p_1, l)) (fun r r_1 r_2 p p_1 l => hg (r, r_1, r_2, p, p_1, l))  x.1 x.2.1 x.2.2.1 x.2.2.2.1 x.2.2.2.2.1 x.2.2.2.2.2
theorem regular_reader_row_L2_eq (rc_regular_reader_whole : (List UInt8) → Int → Int → Option (((Tr (Int × Int × Unit)) × (List UInt8) × Int × Int) ⊕ (Int × Int)))  (r : (List UInt8)) (r_1 : Int) (r_2 : Int) (p : Int) (p_1 : Int) (l : (List (Tr (Int × Int × Unit)))) : regular_reader_row_L2 rc_regular_reader_whole r r_1 r_2 p p_1 l = regular_reader_row_L2_B rc_regular_reader_whole (regular_reader_row_L2 rc_regular_reader_whole) r r_1 r_2 p p_1 l := LFix_eq (regular_reader_row_L2_cn rc_regular_reader_whole) (r, r_1, r_2, p, p_1, l)
theorem regular_reader_row_L2_ch (rc_regular_reader_whole : Nat → (List UInt8) → Int → Int → Option (((Tr (Int × Int × Unit)) × (List UInt8) × Int × Int) ⊕ (Int × Int))) (rc_regular_reader_whole' : (List UInt8) → Int → Int → Option (((Tr (Int × Int × Unit)) × (List UInt8) × Int × Int) ⊕ (Int × Int))) (h_rc_regular_reader_whole : ∀ a0 a1 a2, ChO (fun κ => rc_regular_reader_whole κ a0 a1 a2) (rc_regular_reader_whole' a0 a1 a2))  (r : (List UInt8)) (r_1 : Int) (r_2 : Int) (p : Int) (p_1 : Int) (l : (List (Tr (Int × Int × Unit)))) : ChO (fun κ => regular_reader_row_L2 (rc_regular_reader_whole κ) r r_1 r_2 p p_1 l) (regular_reader_row_L2 rc_regular_reader_whole' r r_1 r_2 p p_1 l) := by
  unfold regular_reader_row_L2
  exact LFix_ch (fun κ => (regular_reader_row_L2_cn (rc_regular_reader_whole κ) ).mono) (regular_reader_row_L2_cn rc_regular_reader_whole' ).mono (fun g h hg x => regular_reader_row_L2_B_ch rc_regular_reader_whole rc_regular_reader_whole' h_rc_regular_reader_whole (fun κ r r_1 r_2 p p_1 l => g κ (r, r_1, r_2, p, p_1, l)) (fun r r_1 r_2 p p_1 l => h (r, r_1, r_2, p, p_1, l)) (fun r r_1 r_2 p p_1 l => hg (r, r_1, r_2, p, p_1, l))  x.1 x.2.1 x.2.2.1 x.2.2.2.1 x.2.2.2.2.1 x.2.2.2.2.2) _
theorem regular_reader_row_ch (rc_regular_reader_whole : Nat → (List UInt8) → Int → Int → Option (((Tr (Int × Int × Unit)) × (List UInt8) × Int × Int) ⊕ (Int × Int))) (rc_regular_reader_whole' : (List UInt8) → Int → Int → Option (((Tr (Int × Int × Unit)) × (List UInt8) × Int × Int) ⊕ (Int × Int))) (h_rc_regular_reader_whole : ∀ a0 a1 a2, ChO (fun κ => rc_regular_reader_whole κ a0 a1 a2) (rc_regular_reader_whole' a0 a1 a2)) (c : (List UInt8)) (c_1 : Int) (c_2 : Int) : ChO (fun κ => regular_reader_row (rc_regular_reader_whole κ) c c_1 c_2) (regular_reader_row rc_regular_reader_whole' c c_1 c_2) := by
  unfold regular_reader_row
  repeat' with_reducible first | exact ChO.const _ | exact h_rc_regular_reader_whole _ _ _ | (apply regular_reader_part_J10_ch <;> assumption) | (apply regular_reader_part_J5_ch <;> assumption) | (apply regular_reader_part_ch <;> assumption) | (apply regular_reader_one_ch <;> assumption) | (apply regular_reader_row_L2_ch <;> assumption) | apply ChO.ite | apply ChO.G | apply ChO.both | apply ChO.bothS | (apply ChO.bind; intro _) | (apply ChO.bind2 (h_rc_regular_reader_whole _ _ _); intro _) | (refine ChO.bind2 ?_ (fun _ => ?_)) | (refine ChO.pbind (fun _ => ?_) (fun _ => ?_)) | (refine ChO.pbind2 ?_ (fun _ => ?_) (fun _ => ?_))
theorem regular_reader_whole_L2_B_ch (rc_regular_reader_whole : Nat → (List UInt8) → Int → Int → Option (((Tr (Int × Int × Unit)) × (List UInt8) × Int × Int) ⊕ (Int × Int))) (rc_regular_reader_whole' : (List UInt8) → Int → Int → Option (((Tr (Int × Int × Unit)) × (List UInt8) × Int × Int) ⊕ (Int × Int))) (h_rc_regular_reader_whole : ∀ a0 a1 a2, ChO (fun κ => rc_regular_reader_whole κ a0 a1 a2) (rc_regular_reader_whole' a0 a1 a2)) (r2 : Nat → (List UInt8) → Int → Int → Int → Int → (List (Tr (Int × Int × Unit))) → Option (((Tr (Int × Int × Unit)) × (List UInt8) × Int × Int) ⊕ (Int × Int))) (r2' : (List UInt8) → Int → Int → Int → Int → (List (Tr (Int × Int × Unit))) → Option (((Tr (Int × Int × Unit)) × (List UInt8) × Int × Int) ⊕ (Int × Int))) (h_r2 : ∀ a0 a1 a2 a3 a4 a5, ChO (fun κ => r2 κ a0 a1 a2 a3 a4 a5) (r2' a0 a1 a2 a3 a4 a5)) (r : (List UInt8)) (r_1 : Int) (r_2 : Int) (p : Int) (p_1 : Int) (l : (List (Tr (Int × Int × Unit)))) : ChO (fun κ => regular_reader_whole_L2_B (rc_regular_reader_whole κ) (r2 κ) r r_1 r_2 p p_1 l) (regular_reader_whole_L2_B rc_regular_reader_whole' r2' r r_1 r_2 p p_1 l) := by
  unfold regular_reader_whole_L2_B
  repeat' with_reducible first | exact ChO.const _ | exact h_rc_regular_reader_whole _ _ _ | exact h_r2 _ _ _ _ _ _ | (apply regular_reader_part_J10_ch <;> assumption) | (apply regular_reader_part_J5_ch <;> assumption) | (apply regular_reader_part_ch <;> assumption) | (apply regular_reader_one_ch <;> assumption) | (apply regular_reader_row_L2_ch <;> assumption) | (apply regular_reader_row_ch <;> assumption) | apply ChO.ite | apply ChO.G | apply ChO.both | apply ChO.bothS | (apply ChO.bind; intro _) | (apply ChO.bind2 (h_rc_regular_reader_whole _ _ _); intro _) | (refine ChO.bind2 ?_ (fun _ => ?_)) | (refine ChO.pbind (fun _ => ?_) (fun _ => ?_)) | (refine ChO.pbind2 ?_ (fun _ => ?_) (fun _ => ?_))
theorem regular_reader_whole_L2_cn (rc_regular_reader_whole : (List UInt8) → Int → Int → Option (((Tr (Int × Int × Unit)) × (List UInt8) × Int × Int) ⊕ (Int × Int)))  : Cn (regular_reader_whole_L2_F rc_regular_reader_whole) := fun g h hg x => regular_reader_whole_L2_B_ch (fun _ => rc_regular_reader_whole) rc_regular_reader_whole (fun _ _ _ => ChO.const _) (fun κ r r_1 r_2 p p_1 l => g κ (r, r_1, r_2, p, p_1, l)) (fun r r_1 r_2 p p_1 l => h (r, r_1, r_2, p, p_1, l)) (fun r r_1 r_2 p p_1 l => hg (r, r_1, r_2, p, p_1, l))  x.1 x.2.1 x.2.2.1 x.2.2.2.1 x.2.2.2.2.1 x.2.2.2.2.2
theorem regular_reader_whole_L2_eq (rc_regular_reader_whole : (List UInt8) → Int → Int → Option (((Tr (Int × Int × Unit)) × (List UInt8) × Int × Int) ⊕ (Int × Int)))  (r : (List UInt8)) (r_1 : Int) (r_2 : Int) (p : Int) (p_1 : Int) (l : (List (Tr (Int × Int × Unit)))) : regular_reader_whole_L2 rc_regular_reader_whole r r_1 r_2 p p_1 l = regular_reader_whole_L2_B rc_regular_reader_whole (regular_reader_whole_L2 rc_regular_reader_whole) r r_1 r_2 p p_1 l := LFix_eq (regular_reader_whole_L2_cn rc_regular_reader_whole) (r, r_1, r_2, p, p_1, l)
theorem regular_reader_whole_L2_ch (rc_regular_reader_whole : Nat → (List UInt8) → Int → Int → Option (((Tr (Int × Int × Unit)) × (List UInt8) × Int × Int) ⊕ (Int × Int))) (rc_regular_reader_whole' : (List UInt8) → Int → Int → Option (((Tr (Int × Int × Unit)) × (List UInt8) × Int × Int) ⊕ (Int × Int))) (h_rc_regular_reader_whole : ∀ a0 a1 a2, ChO (fun κ => rc_regular_reader_whole κ a0 a1 a2) (rc_regular_reader_whole' a0 a1 a2))  (r : (List UInt8)) (r_1 : Int) (r_2 : Int) (p : Int) (p_1 : Int) (l : (List (Tr (Int × Int × Unit)))) : ChO (fun κ => regular_reader_whole_L2 (rc_regular_reader_whole κ) r r_1 r_2 p p_1 l) (regular_reader_whole_L2 rc_regular_reader_whole' r r_1 r_2 p p_1 l) := by
  unfold regular_reader_whole_L2
  exact LFix_ch (fun κ => (regular_reader_whole_L2_cn (rc_regular_reader_whole κ) ).mono) (regular_reader_whole_L2_cn rc_regular_reader_whole' ).mono (fun g h hg x => regular_reader_whole_L2_B_ch rc_regular_reader_whole rc_regular_reader_whole' h_rc_regular_reader_whole (fun κ r r_1 r_2 p p_1 l => g κ (r, r_1, r_2, p, p_1, l)) (fun r r_1 r_2 p p_1 l => h (r, r_1, r_2, p, p_1, l)) (fun r r_1 r_2 p p_1 l => hg (r, r_1, r_2, p, p_1, l))  x.1 x.2.1 x.2.2.1 x.2.2.2.1 x.2.2.2.2.1 x.2.2.2.2.2) _
theorem regular_reader_whole_B_ch (rc_regular_reader_whole : Nat → (List UInt8) → Int → Int → Option (((Tr (Int × Int × Unit)) × (List UInt8) × Int × Int) ⊕ (Int × Int))) (rc_regular_reader_whole' : (List UInt8) → Int → Int → Option (((Tr (Int × Int × Unit)) × (List UInt8) × Int × Int) ⊕ (Int × Int))) (h_rc_regular_reader_whole : ∀ a0 a1 a2, ChO (fun κ => rc_regular_reader_whole κ a0 a1 a2) (rc_regular_reader_whole' a0 a1 a2)) (c : (List UInt8)) (c_1 : Int) (c_2 : Int) : ChO (fun κ => regular_reader_whole_B (rc_regular_reader_whole κ) c c_1 c_2) (regular_reader_whole_B rc_regular_reader_whole' c c_1 c_2) := by
  unfold regular_reader_whole_B
  repeat' with_reducible first | exact ChO.const _ | exact h_rc_regular_reader_whole _ _ _ | (apply regular_reader_part_J10_ch <;> assumption) | (apply regular_reader_part_J5_ch <;> assumption) | (apply regular_reader_part_ch <;> assumption) | (apply regular_reader_one_ch <;> assumption) | (apply regular_reader_row_L2_ch <;> assumption) | (apply regular_reader_row_ch <;> assumption) | (apply regular_reader_whole_L2_ch <;> assumption) | apply ChO.ite | apply ChO.G | apply ChO.both | apply ChO.bothS | (apply ChO.bind; intro _) | (apply ChO.bind2 (h_rc_regular_reader_whole _ _ _); intro _) | (refine ChO.bind2 ?_ (fun _ => ?_)) | (refine ChO.pbind (fun _ => ?_) (fun _ => ?_)) | (refine ChO.pbind2 ?_ (fun _ => ?_) (fun _ => ?_))
noncomputable def regular_reader_whole_F : ((List UInt8) × Int × Int → Option (((Tr (Int × Int × Unit)) × (List UInt8) × Int × Int) ⊕ (Int × Int))) → (List UInt8) × Int × Int → Option (((Tr (Int × Int × Unit)) × (List UInt8) × Int × Int) ⊕ (Int × Int)) :=
  fun rec X => regular_reader_whole_B (fun c c_1 c_2 => rec (c, c_1, c_2)) X.1 X.2.1 X.2.2
noncomputable def regular_reader_whole (c : (List UInt8)) (c_1 : Int) (c_2 : Int) : Option (((Tr (Int × Int × Unit)) × (List UInt8) × Int × Int) ⊕ (Int × Int)) := LFix regular_reader_whole_F (c, c_1, c_2)
theorem regular_reader_whole_cn : Cn regular_reader_whole_F := fun g h hg X => regular_reader_whole_B_ch _ _ (fun c c_1 c_2 => hg (c, c_1, c_2)) X.1 X.2.1 X.2.2
theorem regular_reader_whole_eq (c : (List UInt8)) (c_1 : Int) (c_2 : Int) : regular_reader_whole c c_1 c_2 = regular_reader_whole_B regular_reader_whole c c_1 c_2 := LFix_eq regular_reader_whole_cn (c, c_1, c_2)
noncomputable def regular_reader_part_c (c : (List UInt8)) (c_1 : Int) (c_2 : Int) : Option (((Tr (Int × Int × Unit)) × (List UInt8) × Int × Int) ⊕ (Int × Int)) := regular_reader_part regular_reader_whole c c_1 c_2
noncomputable def regular_reader_one_c (c : (List UInt8)) (c_1 : Int) (c_2 : Int) : Option (((Tr (Int × Int × Unit)) × (List UInt8) × Int × Int) ⊕ (Int × Int)) := regular_reader_one regular_reader_whole c c_1 c_2
noncomputable def regular_reader_row_c (c : (List UInt8)) (c_1 : Int) (c_2 : Int) : Option (((Tr (Int × Int × Unit)) × (List UInt8) × Int × Int) ⊕ (Int × Int)) := regular_reader_row regular_reader_whole c c_1 c_2

noncomputable def regular_parsed (text : (List UInt8)) : Option ((Tr (Int × Int × Unit)) × Int × Int × Unit) :=
  if (decide ((4000 : Int) < (text.length : Int))) = true then
  some (Tr.nil, ((1 : Int), ((0 : Int), ()))) else
  pbind (regular_reader_whole text (0 : Int) (0 : Int)) (fun y'_4 =>
  if (decide (y'_4.2.2.1 < (text.length : Int))) = true then
  pbind (regular_reader_fail (y'_4.2.1, (y'_4.2.2.1, (y'_4.2.2.2, ()))) (4 : Int)) (fun _ =>
  some (y'_4.1, ((0 : Int), ((0 : Int), ())))) (fun p => some (Tr.nil, (p.1, (p.2, ())))) else
  some (y'_4.1, ((0 : Int), ((0 : Int), ())))) (fun p => some (Tr.nil, (p.1, (p.2, ()))))

noncomputable def regular_Check (text : (List UInt8)) : Option (Int × Int × Unit) :=
  (regular_parsed text).bind (fun y'_3 =>
  some (y'_3.2.1, (y'_3.2.2.1, ())))

noncomputable def r2_Reader_ok (r : ((List UInt8) × Int × Int × Tp1 × (Int × Int × Unit) × Unit)) : Option (Bool) :=
  some (decide (r.2.2.2.2.1.1 = (0 : Int)))

noncomputable def r2_Reader_now (r : ((List UInt8) × Int × Int × Tp1 × (Int × Int × Unit) × Unit)) : Option (Int) :=
  if (decide ((r.1.length : Int) ≤ r.2.1)) = true then
  some (0 : Int) else
  G (0 ≤ r.2.1 ∧ r.2.1 < (r.1.length : Int)) (
  some (bAt r.1 r.2.1))

noncomputable def r2_Reader_put (p : Tp2) (c : (List UInt8)) (c_1 : Int) (c_2 : Int) (c_3 : Int) (c_4 : Int) (l : Tp1) : Option (Int × (List UInt8) × Int × Int × Tp1 × Int × Int) :=
  G (room l ([(p.1, (p.2.1, (p.2.2.1, ())))]) 40) (
  G (fits (((l ++ ([(p.1, (p.2.1, (p.2.2.1, ())))])).length : Int) - (1 : Int))) (
  some (((l ++ ([(p.1, (p.2.1, (p.2.2.1, ())))])).length : Int) - (1 : Int), c, c_1, c_2, l ++ ([(p.1, (p.2.1, (p.2.2.1, ())))]), c_3, c_4)))

noncomputable def r2_Reader_fail (code : Int) (c : (List UInt8)) (c_1 : Int) (c_2 : Int) (c_3 : Int) (c_4 : Int) (l : Tp1) : Option ((List UInt8) × Int × Int × Tp1 × Int × Int) :=
  if (decide (c_3 = (0 : Int))) = true then
  some (c, c_1, c_2, l, code, c_1) else
  some (c, c_1, c_2, l, c_3, c_4)

noncomputable def r2_Reader_part_J25 (y'_45 : Int) (r : (List UInt8)) (r_1 : Int) (r_2 : Int) (r_3 : Int) (r_4 : Int) (l_1 : Tp1) : Option (Int × (List UInt8) × Int × Int × Tp1 × Int × Int) :=
  (r2_Reader_ok (r, (r_1, (r_2, (l_1, ((r_3, (r_4, ())), ())))))).bind (fun y'_61 =>
  if y'_61 = true then
  G (fits (r_1 + (1 : Int))) (
  G (fits (r_2 - (1 : Int))) (
  some (y'_45, r, r_1 + (1 : Int), r_2 - (1 : Int), l_1, r_3, r_4))) else
  G (fits (r_2 - (1 : Int))) (
  some (y'_45, r, r_1, r_2 - (1 : Int), l_1, r_3, r_4)))
noncomputable def r2_Reader_part_J11 (rc_r2_Reader_whole : (List UInt8) → Int → Int → Int → Int → Tp1 → Option (Int × (List UInt8) × Int × Int × Tp1 × Int × Int)) (c : (List UInt8)) (c_1 : Int) (c_2 : Int) (c_3 : Int) (c_4 : Int) (l : Tp1) (y'_1 : Int) (t : Bool) : Option (Int × (List UInt8) × Int × Int × Tp1 × Int × Int) :=
  if t = true then
  G (fits (c_1 + (1 : Int))) (
  (r2_Reader_put ((2 : Int), (IntKind.wrap .i64 (IntKind.wrap .u8 (y'_1 - (97 : Int))), ([], ()))) c (c_1 + (1 : Int)) c_2 c_3 c_4 l).bind (fun y'_28 =>
  some (y'_28.1, y'_28.2.1, y'_28.2.2.1, y'_28.2.2.2.1, y'_28.2.2.2.2.1, y'_28.2.2.2.2.2.1, y'_28.2.2.2.2.2.2))) else
  if (decide (¬ y'_1 = (40 : Int))) = true then
  (r2_Reader_fail (4 : Int) c c_1 c_2 c_3 c_4 l).bind (fun y'_36 =>
  some ((0 : Int), y'_36.1, y'_36.2.1, y'_36.2.2.1, y'_36.2.2.2.1, y'_36.2.2.2.2.1, y'_36.2.2.2.2.2)) else
  if (decide (c_2 = (40 : Int))) = true then
  (r2_Reader_fail (7 : Int) c c_1 c_2 c_3 c_4 l).bind (fun y'_44 =>
  some ((0 : Int), y'_44.1, y'_44.2.1, y'_44.2.2.1, y'_44.2.2.2.1, y'_44.2.2.2.2.1, y'_44.2.2.2.2.2)) else
  G (fits (c_2 + (1 : Int))) (
  G (fits (c_1 + (1 : Int))) (
  (rc_r2_Reader_whole c (c_1 + (1 : Int)) (c_2 + (1 : Int)) c_3 c_4 l).bind (fun y'_63 =>
  (r2_Reader_now (y'_63.2.1, (y'_63.2.2.1, (y'_63.2.2.2.1, (y'_63.2.2.2.2.1, ((y'_63.2.2.2.2.2.1, (y'_63.2.2.2.2.2.2, ())), ())))))).bind (fun y'_53 =>
  if (decide (¬ y'_53 = (41 : Int))) = true then
  (r2_Reader_fail (4 : Int) y'_63.2.1 y'_63.2.2.1 y'_63.2.2.2.1 y'_63.2.2.2.2.2.1 y'_63.2.2.2.2.2.2 y'_63.2.2.2.2.1).bind (fun y'_62 =>
  r2_Reader_part_J25 y'_63.1 y'_62.1 y'_62.2.1 y'_62.2.2.1 y'_62.2.2.2.2.1 y'_62.2.2.2.2.2 y'_62.2.2.2.1) else
  r2_Reader_part_J25 y'_63.1 y'_63.2.1 y'_63.2.2.1 y'_63.2.2.2.1 y'_63.2.2.2.2.2.1 y'_63.2.2.2.2.2.2 y'_63.2.2.2.2.1))))
noncomputable def r2_Reader_part (rc_r2_Reader_whole : (List UInt8) → Int → Int → Int → Int → Tp1 → Option (Int × (List UInt8) × Int × Int × Tp1 × Int × Int)) (c : (List UInt8)) (c_1 : Int) (c_2 : Int) (c_3 : Int) (c_4 : Int) (l : Tp1) : Option (Int × (List UInt8) × Int × Int × Tp1 × Int × Int) :=
  (r2_Reader_ok (c, (c_1, (c_2, (l, ((c_3, (c_4, ())), ())))))).bind (fun y' =>
  if (!y') = true then
  some ((0 : Int), c, c_1, c_2, l, c_3, c_4) else
  (r2_Reader_now (c, (c_1, (c_2, (l, ((c_3, (c_4, ())), ())))))).bind (fun y'_1 =>
  if (decide (y'_1 = (48 : Int))) = true then
  G (fits (c_1 + (1 : Int))) (
  (r2_Reader_put ((0 : Int), ((0 : Int), ([], ()))) c (c_1 + (1 : Int)) c_2 c_3 c_4 l).bind (fun y'_10 =>
  some (y'_10.1, y'_10.2.1, y'_10.2.2.1, y'_10.2.2.2.1, y'_10.2.2.2.2.1, y'_10.2.2.2.2.2.1, y'_10.2.2.2.2.2.2))) else
  if (decide (y'_1 = (49 : Int))) = true then
  G (fits (c_1 + (1 : Int))) (
  (r2_Reader_put ((1 : Int), ((0 : Int), ([], ()))) c (c_1 + (1 : Int)) c_2 c_3 c_4 l).bind (fun y'_19 =>
  some (y'_19.1, y'_19.2.1, y'_19.2.2.1, y'_19.2.2.2.1, y'_19.2.2.2.2.1, y'_19.2.2.2.2.2.1, y'_19.2.2.2.2.2.2))) else
  if (decide ((97 : Int) ≤ y'_1)) = true then
  r2_Reader_part_J11 rc_r2_Reader_whole c c_1 c_2 c_3 c_4 l y'_1 (decide (y'_1 ≤ (100 : Int))) else
  r2_Reader_part_J11 rc_r2_Reader_whole c c_1 c_2 c_3 c_4 l y'_1 false))
noncomputable def r2_Reader_one_L2_B  (r2 : Int → (List UInt8) → Int → Int → Int → Int → Tp1 → Option (Int × (List UInt8) × Int × Int × Tp1 × Int × Int)) (k : Int) (r : (List UInt8)) (r_1 : Int) (r_2 : Int) (r_3 : Int) (r_4 : Int) (l_1 : Tp1) : Option (Int × (List UInt8) × Int × Int × Tp1 × Int × Int) :=
  (r2_Reader_now (r, (r_1, (r_2, (l_1, ((r_3, (r_4, ())), ())))))).bind (fun y'_8 =>
  (r2_Reader_ok (r, (r_1, (r_2, (l_1, ((r_3, (r_4, ())), ())))))).bind (fun y'_9 =>
  if (!y'_9) = true then
  some (k, r, r_1, r_2, l_1, r_3, r_4) else
  if (decide (¬ y'_8 = (42 : Int))) = true then
  some (k, r, r_1, r_2, l_1, r_3, r_4) else
  G (fits (r_1 + (1 : Int))) (
  (r2_Reader_put ((5 : Int), ((0 : Int), ([k], ()))) r (r_1 + (1 : Int)) r_2 r_3 r_4 l_1).bind (fun y'_18 =>
  r2 y'_18.1 y'_18.2.1 y'_18.2.2.1 y'_18.2.2.2.1 y'_18.2.2.2.2.2.1 y'_18.2.2.2.2.2.2 y'_18.2.2.2.2.1))))
noncomputable def r2_Reader_one_L2_F  : (Int × (List UInt8) × Int × Int × Int × Int × Tp1 → Option (Int × (List UInt8) × Int × Int × Tp1 × Int × Int)) → Int × (List UInt8) × Int × Int × Int × Int × Tp1 → Option (Int × (List UInt8) × Int × Int × Tp1 × Int × Int) :=
  fun rec x => r2_Reader_one_L2_B (fun k r r_1 r_2 r_3 r_4 l_1 => rec (k, r, r_1, r_2, r_3, r_4, l_1)) x.1 x.2.1 x.2.2.1 x.2.2.2.1 x.2.2.2.2.1 x.2.2.2.2.2.1 x.2.2.2.2.2.2
noncomputable def r2_Reader_one_L2  (k : Int) (r : (List UInt8)) (r_1 : Int) (r_2 : Int) (r_3 : Int) (r_4 : Int) (l_1 : Tp1) : Option (Int × (List UInt8) × Int × Int × Tp1 × Int × Int) := LFix (r2_Reader_one_L2_F ) (k, r, r_1, r_2, r_3, r_4, l_1)
noncomputable def r2_Reader_one (rc_r2_Reader_whole : (List UInt8) → Int → Int → Int → Int → Tp1 → Option (Int × (List UInt8) × Int × Int × Tp1 × Int × Int)) (c : (List UInt8)) (c_1 : Int) (c_2 : Int) (c_3 : Int) (c_4 : Int) (l : Tp1) : Option (Int × (List UInt8) × Int × Int × Tp1 × Int × Int) :=
  (r2_Reader_part rc_r2_Reader_whole c c_1 c_2 c_3 c_4 l).bind (fun y'_19 =>
  r2_Reader_one_L2 y'_19.1 y'_19.2.1 y'_19.2.2.1 y'_19.2.2.2.1 y'_19.2.2.2.2.2.1 y'_19.2.2.2.2.2.2 y'_19.2.2.2.2.1)
noncomputable def r2_Reader_row_J8 (r_5 : (List UInt8)) (r_6 : Int) (r_7 : Int) (r_8 : Int) (r_9 : Int) (kids_1 : Tp3) (l_2 : Tp1) : Option (Int × (List UInt8) × Int × Int × Tp1 × Int × Int) :=
  (r2_Reader_put ((4 : Int), ((0 : Int), (kids_1, ()))) r_5 r_6 r_7 r_8 r_9 l_2).bind (fun y'_18 =>
  some (y'_18.1, y'_18.2.1, y'_18.2.2.1, y'_18.2.2.2.1, y'_18.2.2.2.2.1, y'_18.2.2.2.2.2.1, y'_18.2.2.2.2.2.2))
noncomputable def r2_Reader_row_J5 (rc_r2_Reader_whole : (List UInt8) → Int → Int → Int → Int → Tp1 → Option (Int × (List UInt8) × Int × Int × Tp1 × Int × Int)) (r : (List UInt8)) (r_1 : Int) (r_2 : Int) (r_3 : Int) (r_4 : Int) (kids : Tp3) (l_1 : Tp1) (r3 : ((List UInt8) → Int → Int → Int → Int → Tp3 → Tp1 → Option (Int × (List UInt8) × Int × Int × Tp1 × Int × Int))) (y'_9 : Bool) (begins : Bool) : Option (Int × (List UInt8) × Int × Int × Tp1 × Int × Int) :=
  if (!y'_9) = true then
  r2_Reader_row_J8 r r_1 r_2 r_3 r_4 kids l_1 else
  if (!begins) = true then
  r2_Reader_row_J8 r r_1 r_2 r_3 r_4 kids l_1 else
  (r2_Reader_one rc_r2_Reader_whole r r_1 r_2 r_3 r_4 l_1).bind (fun y'_27 =>
  G (room kids ([y'_27.1]) 8) (
  r3 y'_27.2.1 y'_27.2.2.1 y'_27.2.2.2.1 y'_27.2.2.2.2.2.1 y'_27.2.2.2.2.2.2 (kids ++ ([y'_27.1])) y'_27.2.2.2.2.1))
noncomputable def r2_Reader_row_L3_B (rc_r2_Reader_whole : (List UInt8) → Int → Int → Int → Int → Tp1 → Option (Int × (List UInt8) × Int × Int × Tp1 × Int × Int))  (r3 : (List UInt8) → Int → Int → Int → Int → Tp3 → Tp1 → Option (Int × (List UInt8) × Int × Int × Tp1 × Int × Int)) (r : (List UInt8)) (r_1 : Int) (r_2 : Int) (r_3 : Int) (r_4 : Int) (kids : Tp3) (l_1 : Tp1) : Option (Int × (List UInt8) × Int × Int × Tp1 × Int × Int) :=
  (r2_Reader_now (r, (r_1, (r_2, (l_1, ((r_3, (r_4, ())), ())))))).bind (fun y'_8 =>
  (r2_Reader_ok (r, (r_1, (r_2, (l_1, ((r_3, (r_4, ())), ())))))).bind (fun y'_9 =>
  if (decide (y'_8 = (48 : Int))) = true then
  r2_Reader_row_J5 rc_r2_Reader_whole r r_1 r_2 r_3 r_4 kids l_1 r3 y'_9 true else
  if (decide (y'_8 = (49 : Int))) = true then
  r2_Reader_row_J5 rc_r2_Reader_whole r r_1 r_2 r_3 r_4 kids l_1 r3 y'_9 true else
  if (decide ((97 : Int) ≤ y'_8)) = true then
  if (decide (y'_8 ≤ (100 : Int))) = true then
  r2_Reader_row_J5 rc_r2_Reader_whole r r_1 r_2 r_3 r_4 kids l_1 r3 y'_9 true else
  r2_Reader_row_J5 rc_r2_Reader_whole r r_1 r_2 r_3 r_4 kids l_1 r3 y'_9 (decide (y'_8 = (40 : Int))) else
  r2_Reader_row_J5 rc_r2_Reader_whole r r_1 r_2 r_3 r_4 kids l_1 r3 y'_9 (decide (y'_8 = (40 : Int)))))
noncomputable def r2_Reader_row_L3_F (rc_r2_Reader_whole : (List UInt8) → Int → Int → Int → Int → Tp1 → Option (Int × (List UInt8) × Int × Int × Tp1 × Int × Int))  : ((List UInt8) × Int × Int × Int × Int × Tp3 × Tp1 → Option (Int × (List UInt8) × Int × Int × Tp1 × Int × Int)) → (List UInt8) × Int × Int × Int × Int × Tp3 × Tp1 → Option (Int × (List UInt8) × Int × Int × Tp1 × Int × Int) :=
  fun rec x => r2_Reader_row_L3_B rc_r2_Reader_whole (fun r r_1 r_2 r_3 r_4 kids l_1 => rec (r, r_1, r_2, r_3, r_4, kids, l_1)) x.1 x.2.1 x.2.2.1 x.2.2.2.1 x.2.2.2.2.1 x.2.2.2.2.2.1 x.2.2.2.2.2.2
noncomputable def r2_Reader_row_L3 (rc_r2_Reader_whole : (List UInt8) → Int → Int → Int → Int → Tp1 → Option (Int × (List UInt8) × Int × Int × Tp1 × Int × Int))  (r : (List UInt8)) (r_1 : Int) (r_2 : Int) (r_3 : Int) (r_4 : Int) (kids : Tp3) (l_1 : Tp1) : Option (Int × (List UInt8) × Int × Int × Tp1 × Int × Int) := LFix (r2_Reader_row_L3_F rc_r2_Reader_whole ) (r, r_1, r_2, r_3, r_4, kids, l_1)
noncomputable def r2_Reader_row (rc_r2_Reader_whole : (List UInt8) → Int → Int → Int → Int → Tp1 → Option (Int × (List UInt8) × Int × Int × Tp1 × Int × Int)) (c : (List UInt8)) (c_1 : Int) (c_2 : Int) (c_3 : Int) (c_4 : Int) (l : Tp1) : Option (Int × (List UInt8) × Int × Int × Tp1 × Int × Int) :=
  (r2_Reader_one rc_r2_Reader_whole c c_1 c_2 c_3 c_4 l).bind (fun y'_28 =>
  r2_Reader_row_L3 rc_r2_Reader_whole y'_28.2.1 y'_28.2.2.1 y'_28.2.2.2.1 y'_28.2.2.2.2.2.1 y'_28.2.2.2.2.2.2 ([y'_28.1]) y'_28.2.2.2.2.1)
noncomputable def r2_Reader_whole_J8 (r_5 : (List UInt8)) (r_6 : Int) (r_7 : Int) (r_8 : Int) (r_9 : Int) (kids_1 : Tp3) (l_2 : Tp1) : Option (Int × (List UInt8) × Int × Int × Tp1 × Int × Int) :=
  (r2_Reader_put ((3 : Int), ((0 : Int), (kids_1, ()))) r_5 r_6 r_7 r_8 r_9 l_2).bind (fun y'_18 =>
  some (y'_18.1, y'_18.2.1, y'_18.2.2.1, y'_18.2.2.2.1, y'_18.2.2.2.2.1, y'_18.2.2.2.2.2.1, y'_18.2.2.2.2.2.2))
noncomputable def r2_Reader_whole_L3_B (rc_r2_Reader_whole : (List UInt8) → Int → Int → Int → Int → Tp1 → Option (Int × (List UInt8) × Int × Int × Tp1 × Int × Int))  (r3 : (List UInt8) → Int → Int → Int → Int → Tp3 → Tp1 → Option (Int × (List UInt8) × Int × Int × Tp1 × Int × Int)) (r : (List UInt8)) (r_1 : Int) (r_2 : Int) (r_3 : Int) (r_4 : Int) (kids : Tp3) (l_1 : Tp1) : Option (Int × (List UInt8) × Int × Int × Tp1 × Int × Int) :=
  (r2_Reader_now (r, (r_1, (r_2, (l_1, ((r_3, (r_4, ())), ())))))).bind (fun y'_8 =>
  (r2_Reader_ok (r, (r_1, (r_2, (l_1, ((r_3, (r_4, ())), ())))))).bind (fun y'_9 =>
  if (!y'_9) = true then
  r2_Reader_whole_J8 r r_1 r_2 r_3 r_4 kids l_1 else
  if (decide (¬ y'_8 = (43 : Int))) = true then
  r2_Reader_whole_J8 r r_1 r_2 r_3 r_4 kids l_1 else
  G (fits (r_1 + (1 : Int))) (
  (r2_Reader_row rc_r2_Reader_whole r (r_1 + (1 : Int)) r_2 r_3 r_4 l_1).bind (fun y'_27 =>
  G (room kids ([y'_27.1]) 8) (
  r3 y'_27.2.1 y'_27.2.2.1 y'_27.2.2.2.1 y'_27.2.2.2.2.2.1 y'_27.2.2.2.2.2.2 (kids ++ ([y'_27.1])) y'_27.2.2.2.2.1)))))
noncomputable def r2_Reader_whole_L3_F (rc_r2_Reader_whole : (List UInt8) → Int → Int → Int → Int → Tp1 → Option (Int × (List UInt8) × Int × Int × Tp1 × Int × Int))  : ((List UInt8) × Int × Int × Int × Int × Tp3 × Tp1 → Option (Int × (List UInt8) × Int × Int × Tp1 × Int × Int)) → (List UInt8) × Int × Int × Int × Int × Tp3 × Tp1 → Option (Int × (List UInt8) × Int × Int × Tp1 × Int × Int) :=
  fun rec x => r2_Reader_whole_L3_B rc_r2_Reader_whole (fun r r_1 r_2 r_3 r_4 kids l_1 => rec (r, r_1, r_2, r_3, r_4, kids, l_1)) x.1 x.2.1 x.2.2.1 x.2.2.2.1 x.2.2.2.2.1 x.2.2.2.2.2.1 x.2.2.2.2.2.2
noncomputable def r2_Reader_whole_L3 (rc_r2_Reader_whole : (List UInt8) → Int → Int → Int → Int → Tp1 → Option (Int × (List UInt8) × Int × Int × Tp1 × Int × Int))  (r : (List UInt8)) (r_1 : Int) (r_2 : Int) (r_3 : Int) (r_4 : Int) (kids : Tp3) (l_1 : Tp1) : Option (Int × (List UInt8) × Int × Int × Tp1 × Int × Int) := LFix (r2_Reader_whole_L3_F rc_r2_Reader_whole ) (r, r_1, r_2, r_3, r_4, kids, l_1)
noncomputable def r2_Reader_whole_B (rc_r2_Reader_whole : (List UInt8) → Int → Int → Int → Int → Tp1 → Option (Int × (List UInt8) × Int × Int × Tp1 × Int × Int)) (c : (List UInt8)) (c_1 : Int) (c_2 : Int) (c_3 : Int) (c_4 : Int) (l : Tp1) : Option (Int × (List UInt8) × Int × Int × Tp1 × Int × Int) :=
  (r2_Reader_row rc_r2_Reader_whole c c_1 c_2 c_3 c_4 l).bind (fun y'_28 =>
  r2_Reader_whole_L3 rc_r2_Reader_whole y'_28.2.1 y'_28.2.2.1 y'_28.2.2.2.1 y'_28.2.2.2.2.2.1 y'_28.2.2.2.2.2.2 ([y'_28.1]) y'_28.2.2.2.2.1)
theorem r2_Reader_part_J11_ch (rc_r2_Reader_whole : Nat → (List UInt8) → Int → Int → Int → Int → Tp1 → Option (Int × (List UInt8) × Int × Int × Tp1 × Int × Int)) (rc_r2_Reader_whole' : (List UInt8) → Int → Int → Int → Int → Tp1 → Option (Int × (List UInt8) × Int × Int × Tp1 × Int × Int)) (h_rc_r2_Reader_whole : ∀ a0 a1 a2 a3 a4 a5, ChO (fun κ => rc_r2_Reader_whole κ a0 a1 a2 a3 a4 a5) (rc_r2_Reader_whole' a0 a1 a2 a3 a4 a5)) (c : (List UInt8)) (c_1 : Int) (c_2 : Int) (c_3 : Int) (c_4 : Int) (l : Tp1) (y'_1 : Int) (t : Bool) : ChO (fun κ => r2_Reader_part_J11 (rc_r2_Reader_whole κ) c c_1 c_2 c_3 c_4 l y'_1 t) (r2_Reader_part_J11 rc_r2_Reader_whole' c c_1 c_2 c_3 c_4 l y'_1 t) := by
  unfold r2_Reader_part_J11
  repeat' with_reducible first | exact ChO.const _ | exact h_rc_r2_Reader_whole _ _ _ _ _ _ | apply ChO.ite | apply ChO.G | apply ChO.both | (apply ChO.bind; intro _) | (apply ChO.bind2 (h_rc_r2_Reader_whole _ _ _ _ _ _); intro _) | (refine ChO.bind2 ?_ (fun _ => ?_))
theorem r2_Reader_part_ch (rc_r2_Reader_whole : Nat → (List UInt8) → Int → Int → Int → Int → Tp1 → Option (Int × (List UInt8) × Int × Int × Tp1 × Int × Int)) (rc_r2_Reader_whole' : (List UInt8) → Int → Int → Int → Int → Tp1 → Option (Int × (List UInt8) × Int × Int × Tp1 × Int × Int)) (h_rc_r2_Reader_whole : ∀ a0 a1 a2 a3 a4 a5, ChO (fun κ => rc_r2_Reader_whole κ a0 a1 a2 a3 a4 a5) (rc_r2_Reader_whole' a0 a1 a2 a3 a4 a5)) (c : (List UInt8)) (c_1 : Int) (c_2 : Int) (c_3 : Int) (c_4 : Int) (l : Tp1) : ChO (fun κ => r2_Reader_part (rc_r2_Reader_whole κ) c c_1 c_2 c_3 c_4 l) (r2_Reader_part rc_r2_Reader_whole' c c_1 c_2 c_3 c_4 l) := by
  unfold r2_Reader_part
  repeat' with_reducible first | exact ChO.const _ | exact h_rc_r2_Reader_whole _ _ _ _ _ _ | (apply r2_Reader_part_J11_ch <;> assumption) | apply ChO.ite | apply ChO.G | apply ChO.both | (apply ChO.bind; intro _) | (apply ChO.bind2 (h_rc_r2_Reader_whole _ _ _ _ _ _); intro _) | (refine ChO.bind2 ?_ (fun _ => ?_))
theorem r2_Reader_one_L2_B_ch (r2 : Nat → Int → (List UInt8) → Int → Int → Int → Int → Tp1 → Option (Int × (List UInt8) × Int × Int × Tp1 × Int × Int)) (r2' : Int → (List UInt8) → Int → Int → Int → Int → Tp1 → Option (Int × (List UInt8) × Int × Int × Tp1 × Int × Int)) (h_r2 : ∀ a0 a1 a2 a3 a4 a5 a6, ChO (fun κ => r2 κ a0 a1 a2 a3 a4 a5 a6) (r2' a0 a1 a2 a3 a4 a5 a6)) (k : Int) (r : (List UInt8)) (r_1 : Int) (r_2 : Int) (r_3 : Int) (r_4 : Int) (l_1 : Tp1) : ChO (fun κ => r2_Reader_one_L2_B (r2 κ) k r r_1 r_2 r_3 r_4 l_1) (r2_Reader_one_L2_B r2' k r r_1 r_2 r_3 r_4 l_1) := by
  unfold r2_Reader_one_L2_B
  repeat' with_reducible first | exact ChO.const _ | exact h_r2 _ _ _ _ _ _ _ | (apply r2_Reader_part_J11_ch <;> assumption) | (apply r2_Reader_part_ch <;> assumption) | apply ChO.ite | apply ChO.G | apply ChO.both | (apply ChO.bind; intro _) | (refine ChO.bind2 ?_ (fun _ => ?_))
theorem r2_Reader_one_L2_cn   : Cn (r2_Reader_one_L2_F) := fun g h hg x => r2_Reader_one_L2_B_ch  (fun κ k r r_1 r_2 r_3 r_4 l_1 => g κ (k, r, r_1, r_2, r_3, r_4, l_1)) (fun k r r_1 r_2 r_3 r_4 l_1 => h (k, r, r_1, r_2, r_3, r_4, l_1)) (fun k r r_1 r_2 r_3 r_4 l_1 => hg (k, r, r_1, r_2, r_3, r_4, l_1))  x.1 x.2.1 x.2.2.1 x.2.2.2.1 x.2.2.2.2.1 x.2.2.2.2.2.1 x.2.2.2.2.2.2
theorem r2_Reader_one_L2_eq   (k : Int) (r : (List UInt8)) (r_1 : Int) (r_2 : Int) (r_3 : Int) (r_4 : Int) (l_1 : Tp1) : r2_Reader_one_L2 k r r_1 r_2 r_3 r_4 l_1 = r2_Reader_one_L2_B (r2_Reader_one_L2) k r r_1 r_2 r_3 r_4 l_1 := LFix_eq (r2_Reader_one_L2_cn ) (k, r, r_1, r_2, r_3, r_4, l_1)
theorem r2_Reader_one_ch (rc_r2_Reader_whole : Nat → (List UInt8) → Int → Int → Int → Int → Tp1 → Option (Int × (List UInt8) × Int × Int × Tp1 × Int × Int)) (rc_r2_Reader_whole' : (List UInt8) → Int → Int → Int → Int → Tp1 → Option (Int × (List UInt8) × Int × Int × Tp1 × Int × Int)) (h_rc_r2_Reader_whole : ∀ a0 a1 a2 a3 a4 a5, ChO (fun κ => rc_r2_Reader_whole κ a0 a1 a2 a3 a4 a5) (rc_r2_Reader_whole' a0 a1 a2 a3 a4 a5)) (c : (List UInt8)) (c_1 : Int) (c_2 : Int) (c_3 : Int) (c_4 : Int) (l : Tp1) : ChO (fun κ => r2_Reader_one (rc_r2_Reader_whole κ) c c_1 c_2 c_3 c_4 l) (r2_Reader_one rc_r2_Reader_whole' c c_1 c_2 c_3 c_4 l) := by
  unfold r2_Reader_one
  repeat' with_reducible first | exact ChO.const _ | exact h_rc_r2_Reader_whole _ _ _ _ _ _ | (apply r2_Reader_part_J11_ch <;> assumption) | (apply r2_Reader_part_ch <;> assumption) | apply ChO.ite | apply ChO.G | apply ChO.both | (apply ChO.bind; intro _) | (apply ChO.bind2 (h_rc_r2_Reader_whole _ _ _ _ _ _); intro _) | (refine ChO.bind2 ?_ (fun _ => ?_))
theorem r2_Reader_row_J5_ch (rc_r2_Reader_whole : Nat → (List UInt8) → Int → Int → Int → Int → Tp1 → Option (Int × (List UInt8) × Int × Int × Tp1 × Int × Int)) (rc_r2_Reader_whole' : (List UInt8) → Int → Int → Int → Int → Tp1 → Option (Int × (List UInt8) × Int × Int × Tp1 × Int × Int)) (h_rc_r2_Reader_whole : ∀ a0 a1 a2 a3 a4 a5, ChO (fun κ => rc_r2_Reader_whole κ a0 a1 a2 a3 a4 a5) (rc_r2_Reader_whole' a0 a1 a2 a3 a4 a5)) (r3 : Nat → (List UInt8) → Int → Int → Int → Int → Tp3 → Tp1 → Option (Int × (List UInt8) × Int × Int × Tp1 × Int × Int)) (r3' : (List UInt8) → Int → Int → Int → Int → Tp3 → Tp1 → Option (Int × (List UInt8) × Int × Int × Tp1 × Int × Int)) (h_r3 : ∀ a0 a1 a2 a3 a4 a5 a6, ChO (fun κ => r3 κ a0 a1 a2 a3 a4 a5 a6) (r3' a0 a1 a2 a3 a4 a5 a6)) (r : (List UInt8)) (r_1 : Int) (r_2 : Int) (r_3 : Int) (r_4 : Int) (kids : Tp3) (l_1 : Tp1) (y'_9 : Bool) (begins : Bool) : ChO (fun κ => r2_Reader_row_J5 (rc_r2_Reader_whole κ) r r_1 r_2 r_3 r_4 kids l_1 (r3 κ) y'_9 begins) (r2_Reader_row_J5 rc_r2_Reader_whole' r r_1 r_2 r_3 r_4 kids l_1 r3' y'_9 begins) := by
  unfold r2_Reader_row_J5
  repeat' with_reducible first | exact ChO.const _ | exact h_rc_r2_Reader_whole _ _ _ _ _ _ | exact h_r3 _ _ _ _ _ _ _ | (apply r2_Reader_part_J11_ch <;> assumption) | (apply r2_Reader_part_ch <;> assumption) | (apply r2_Reader_one_ch <;> assumption) | apply ChO.ite | apply ChO.G | apply ChO.both | (apply ChO.bind; intro _) | (apply ChO.bind2 (h_rc_r2_Reader_whole _ _ _ _ _ _); intro _) | (refine ChO.bind2 ?_ (fun _ => ?_))
theorem r2_Reader_row_L3_B_ch (rc_r2_Reader_whole : Nat → (List UInt8) → Int → Int → Int → Int → Tp1 → Option (Int × (List UInt8) × Int × Int × Tp1 × Int × Int)) (rc_r2_Reader_whole' : (List UInt8) → Int → Int → Int → Int → Tp1 → Option (Int × (List UInt8) × Int × Int × Tp1 × Int × Int)) (h_rc_r2_Reader_whole : ∀ a0 a1 a2 a3 a4 a5, ChO (fun κ => rc_r2_Reader_whole κ a0 a1 a2 a3 a4 a5) (rc_r2_Reader_whole' a0 a1 a2 a3 a4 a5)) (r3 : Nat → (List UInt8) → Int → Int → Int → Int → Tp3 → Tp1 → Option (Int × (List UInt8) × Int × Int × Tp1 × Int × Int)) (r3' : (List UInt8) → Int → Int → Int → Int → Tp3 → Tp1 → Option (Int × (List UInt8) × Int × Int × Tp1 × Int × Int)) (h_r3 : ∀ a0 a1 a2 a3 a4 a5 a6, ChO (fun κ => r3 κ a0 a1 a2 a3 a4 a5 a6) (r3' a0 a1 a2 a3 a4 a5 a6)) (r : (List UInt8)) (r_1 : Int) (r_2 : Int) (r_3 : Int) (r_4 : Int) (kids : Tp3) (l_1 : Tp1) : ChO (fun κ => r2_Reader_row_L3_B (rc_r2_Reader_whole κ) (r3 κ) r r_1 r_2 r_3 r_4 kids l_1) (r2_Reader_row_L3_B rc_r2_Reader_whole' r3' r r_1 r_2 r_3 r_4 kids l_1) := by
  unfold r2_Reader_row_L3_B
  repeat' with_reducible first | exact ChO.const _ | exact h_rc_r2_Reader_whole _ _ _ _ _ _ | exact h_r3 _ _ _ _ _ _ _ | (apply r2_Reader_part_J11_ch <;> assumption) | (apply r2_Reader_part_ch <;> assumption) | (apply r2_Reader_one_ch <;> assumption) | (apply r2_Reader_row_J5_ch <;> assumption) | apply ChO.ite | apply ChO.G | apply ChO.both | (apply ChO.bind; intro _) | (apply ChO.bind2 (h_rc_r2_Reader_whole _ _ _ _ _ _); intro _) | (refine ChO.bind2 ?_ (fun _ => ?_))
theorem r2_Reader_row_L3_cn (rc_r2_Reader_whole : (List UInt8) → Int → Int → Int → Int → Tp1 → Option (Int × (List UInt8) × Int × Int × Tp1 × Int × Int))  : Cn (r2_Reader_row_L3_F rc_r2_Reader_whole) := fun g h hg x => r2_Reader_row_L3_B_ch (fun _ => rc_r2_Reader_whole) rc_r2_Reader_whole (fun _ _ _ _ _ _ => ChO.const _) (fun κ r r_1 r_2 r_3 r_4 kids l_1 => g κ (r, r_1, r_2, r_3, r_4, kids, l_1)) (fun r r_1 r_2 r_3 r_4 kids l_1 => h (r, r_1, r_2, r_3, r_4, kids, l_1)) (fun r r_1 r_2 r_3 r_4 kids l_1 => hg (r, r_1, r_2, r_3, r_4, kids, l_1))  x.1 x.2.1 x.2.2.1 x.2.2.2.1 x.2.2.2.2.1 x.2.2.2.2.2.1 x.2.2.2.2.2.2
theorem r2_Reader_row_L3_eq (rc_r2_Reader_whole : (List UInt8) → Int → Int → Int → Int → Tp1 → Option (Int × (List UInt8) × Int × Int × Tp1 × Int × Int))  (r : (List UInt8)) (r_1 : Int) (r_2 : Int) (r_3 : Int) (r_4 : Int) (kids : Tp3) (l_1 : Tp1) : r2_Reader_row_L3 rc_r2_Reader_whole r r_1 r_2 r_3 r_4 kids l_1 = r2_Reader_row_L3_B rc_r2_Reader_whole (r2_Reader_row_L3 rc_r2_Reader_whole) r r_1 r_2 r_3 r_4 kids l_1 := LFix_eq (r2_Reader_row_L3_cn rc_r2_Reader_whole) (r, r_1, r_2, r_3, r_4, kids, l_1)
theorem r2_Reader_row_L3_ch (rc_r2_Reader_whole : Nat → (List UInt8) → Int → Int → Int → Int → Tp1 → Option (Int × (List UInt8) × Int × Int × Tp1 × Int × Int)) (rc_r2_Reader_whole' : (List UInt8) → Int → Int → Int → Int → Tp1 → Option (Int × (List UInt8) × Int × Int × Tp1 × Int × Int)) (h_rc_r2_Reader_whole : ∀ a0 a1 a2 a3 a4 a5, ChO (fun κ => rc_r2_Reader_whole κ a0 a1 a2 a3 a4 a5) (rc_r2_Reader_whole' a0 a1 a2 a3 a4 a5))  (r : (List UInt8)) (r_1 : Int) (r_2 : Int) (r_3 : Int) (r_4 : Int) (kids : Tp3) (l_1 : Tp1) : ChO (fun κ => r2_Reader_row_L3 (rc_r2_Reader_whole κ) r r_1 r_2 r_3 r_4 kids l_1) (r2_Reader_row_L3 rc_r2_Reader_whole' r r_1 r_2 r_3 r_4 kids l_1) := by
  unfold r2_Reader_row_L3
  exact LFix_ch (fun κ => (r2_Reader_row_L3_cn (rc_r2_Reader_whole κ) ).mono) (r2_Reader_row_L3_cn rc_r2_Reader_whole' ).mono (fun g h hg x => r2_Reader_row_L3_B_ch rc_r2_Reader_whole rc_r2_Reader_whole' h_rc_r2_Reader_whole (fun κ r r_1 r_2 r_3 r_4 kids l_1 => g κ (r, r_1, r_2, r_3, r_4, kids, l_1)) (fun r r_1 r_2 r_3 r_4 kids l_1 => h (r, r_1, r_2, r_3, r_4, kids, l_1)) (fun r r_1 r_2 r_3 r_4 kids l_1 => hg (r, r_1, r_2, r_3, r_4, kids, l_1))  x.1 x.2.1 x.2.2.1 x.2.2.2.1 x.2.2.2.2.1 x.2.2.2.2.2.1 x.2.2.2.2.2.2) _
theorem r2_Reader_row_ch (rc_r2_Reader_whole : Nat → (List UInt8) → Int → Int → Int → Int → Tp1 → Option (Int × (List UInt8) × Int × Int × Tp1 × Int × Int)) (rc_r2_Reader_whole' : (List UInt8) → Int → Int → Int → Int → Tp1 → Option (Int × (List UInt8) × Int × Int × Tp1 × Int × Int)) (h_rc_r2_Reader_whole : ∀ a0 a1 a2 a3 a4 a5, ChO (fun κ => rc_r2_Reader_whole κ a0 a1 a2 a3 a4 a5) (rc_r2_Reader_whole' a0 a1 a2 a3 a4 a5)) (c : (List UInt8)) (c_1 : Int) (c_2 : Int) (c_3 : Int) (c_4 : Int) (l : Tp1) : ChO (fun κ => r2_Reader_row (rc_r2_Reader_whole κ) c c_1 c_2 c_3 c_4 l) (r2_Reader_row rc_r2_Reader_whole' c c_1 c_2 c_3 c_4 l) := by
  unfold r2_Reader_row
  repeat' with_reducible first | exact ChO.const _ | exact h_rc_r2_Reader_whole _ _ _ _ _ _ | (apply r2_Reader_part_J11_ch <;> assumption) | (apply r2_Reader_part_ch <;> assumption) | (apply r2_Reader_one_ch <;> assumption) | (apply r2_Reader_row_J5_ch <;> assumption) | (apply r2_Reader_row_L3_ch <;> assumption) | apply ChO.ite | apply ChO.G | apply ChO.both | (apply ChO.bind; intro _) | (apply ChO.bind2 (h_rc_r2_Reader_whole _ _ _ _ _ _); intro _) | (refine ChO.bind2 ?_ (fun _ => ?_))
theorem r2_Reader_whole_L3_B_ch (rc_r2_Reader_whole : Nat → (List UInt8) → Int → Int → Int → Int → Tp1 → Option (Int × (List UInt8) × Int × Int × Tp1 × Int × Int)) (rc_r2_Reader_whole' : (List UInt8) → Int → Int → Int → Int → Tp1 → Option (Int × (List UInt8) × Int × Int × Tp1 × Int × Int)) (h_rc_r2_Reader_whole : ∀ a0 a1 a2 a3 a4 a5, ChO (fun κ => rc_r2_Reader_whole κ a0 a1 a2 a3 a4 a5) (rc_r2_Reader_whole' a0 a1 a2 a3 a4 a5)) (r3 : Nat → (List UInt8) → Int → Int → Int → Int → Tp3 → Tp1 → Option (Int × (List UInt8) × Int × Int × Tp1 × Int × Int)) (r3' : (List UInt8) → Int → Int → Int → Int → Tp3 → Tp1 → Option (Int × (List UInt8) × Int × Int × Tp1 × Int × Int)) (h_r3 : ∀ a0 a1 a2 a3 a4 a5 a6, ChO (fun κ => r3 κ a0 a1 a2 a3 a4 a5 a6) (r3' a0 a1 a2 a3 a4 a5 a6)) (r : (List UInt8)) (r_1 : Int) (r_2 : Int) (r_3 : Int) (r_4 : Int) (kids : Tp3) (l_1 : Tp1) : ChO (fun κ => r2_Reader_whole_L3_B (rc_r2_Reader_whole κ) (r3 κ) r r_1 r_2 r_3 r_4 kids l_1) (r2_Reader_whole_L3_B rc_r2_Reader_whole' r3' r r_1 r_2 r_3 r_4 kids l_1) := by
  unfold r2_Reader_whole_L3_B
  repeat' with_reducible first | exact ChO.const _ | exact h_rc_r2_Reader_whole _ _ _ _ _ _ | exact h_r3 _ _ _ _ _ _ _ | (apply r2_Reader_part_J11_ch <;> assumption) | (apply r2_Reader_part_ch <;> assumption) | (apply r2_Reader_one_ch <;> assumption) | (apply r2_Reader_row_J5_ch <;> assumption) | (apply r2_Reader_row_L3_ch <;> assumption) | (apply r2_Reader_row_ch <;> assumption) | apply ChO.ite | apply ChO.G | apply ChO.both | (apply ChO.bind; intro _) | (apply ChO.bind2 (h_rc_r2_Reader_whole _ _ _ _ _ _); intro _) | (refine ChO.bind2 ?_ (fun _ => ?_))
theorem r2_Reader_whole_L3_cn (rc_r2_Reader_whole : (List UInt8) → Int → Int → Int → Int → Tp1 → Option (Int × (List UInt8) × Int × Int × Tp1 × Int × Int))  : Cn (r2_Reader_whole_L3_F rc_r2_Reader_whole) := fun g h hg x => r2_Reader_whole_L3_B_ch (fun _ => rc_r2_Reader_whole) rc_r2_Reader_whole (fun _ _ _ _ _ _ => ChO.const _) (fun κ r r_1 r_2 r_3 r_4 kids l_1 => g κ (r, r_1, r_2, r_3, r_4, kids, l_1)) (fun r r_1 r_2 r_3 r_4 kids l_1 => h (r, r_1, r_2, r_3, r_4, kids, l_1)) (fun r r_1 r_2 r_3 r_4 kids l_1 => hg (r, r_1, r_2, r_3, r_4, kids, l_1))  x.1 x.2.1 x.2.2.1 x.2.2.2.1 x.2.2.2.2.1 x.2.2.2.2.2.1 x.2.2.2.2.2.2
theorem r2_Reader_whole_L3_eq (rc_r2_Reader_whole : (List UInt8) → Int → Int → Int → Int → Tp1 → Option (Int × (List UInt8) × Int × Int × Tp1 × Int × Int))  (r : (List UInt8)) (r_1 : Int) (r_2 : Int) (r_3 : Int) (r_4 : Int) (kids : Tp3) (l_1 : Tp1) : r2_Reader_whole_L3 rc_r2_Reader_whole r r_1 r_2 r_3 r_4 kids l_1 = r2_Reader_whole_L3_B rc_r2_Reader_whole (r2_Reader_whole_L3 rc_r2_Reader_whole) r r_1 r_2 r_3 r_4 kids l_1 := LFix_eq (r2_Reader_whole_L3_cn rc_r2_Reader_whole) (r, r_1, r_2, r_3, r_4, kids, l_1)
theorem r2_Reader_whole_L3_ch (rc_r2_Reader_whole : Nat → (List UInt8) → Int → Int → Int → Int → Tp1 → Option (Int × (List UInt8) × Int × Int × Tp1 × Int × Int)) (rc_r2_Reader_whole' : (List UInt8) → Int → Int → Int → Int → Tp1 → Option (Int × (List UInt8) × Int × Int × Tp1 × Int × Int)) (h_rc_r2_Reader_whole : ∀ a0 a1 a2 a3 a4 a5, ChO (fun κ => rc_r2_Reader_whole κ a0 a1 a2 a3 a4 a5) (rc_r2_Reader_whole' a0 a1 a2 a3 a4 a5))  (r : (List UInt8)) (r_1 : Int) (r_2 : Int) (r_3 : Int) (r_4 : Int) (kids : Tp3) (l_1 : Tp1) : ChO (fun κ => r2_Reader_whole_L3 (rc_r2_Reader_whole κ) r r_1 r_2 r_3 r_4 kids l_1) (r2_Reader_whole_L3 rc_r2_Reader_whole' r r_1 r_2 r_3 r_4 kids l_1) := by
  unfold r2_Reader_whole_L3
  exact LFix_ch (fun κ => (r2_Reader_whole_L3_cn (rc_r2_Reader_whole κ) ).mono) (r2_Reader_whole_L3_cn rc_r2_Reader_whole' ).mono (fun g h hg x => r2_Reader_whole_L3_B_ch rc_r2_Reader_whole rc_r2_Reader_whole' h_rc_r2_Reader_whole (fun κ r r_1 r_2 r_3 r_4 kids l_1 => g κ (r, r_1, r_2, r_3, r_4, kids, l_1)) (fun r r_1 r_2 r_3 r_4 kids l_1 => h (r, r_1, r_2, r_3, r_4, kids, l_1)) (fun r r_1 r_2 r_3 r_4 kids l_1 => hg (r, r_1, r_2, r_3, r_4, kids, l_1))  x.1 x.2.1 x.2.2.1 x.2.2.2.1 x.2.2.2.2.1 x.2.2.2.2.2.1 x.2.2.2.2.2.2) _
theorem r2_Reader_whole_B_ch (rc_r2_Reader_whole : Nat → (List UInt8) → Int → Int → Int → Int → Tp1 → Option (Int × (List UInt8) × Int × Int × Tp1 × Int × Int)) (rc_r2_Reader_whole' : (List UInt8) → Int → Int → Int → Int → Tp1 → Option (Int × (List UInt8) × Int × Int × Tp1 × Int × Int)) (h_rc_r2_Reader_whole : ∀ a0 a1 a2 a3 a4 a5, ChO (fun κ => rc_r2_Reader_whole κ a0 a1 a2 a3 a4 a5) (rc_r2_Reader_whole' a0 a1 a2 a3 a4 a5)) (c : (List UInt8)) (c_1 : Int) (c_2 : Int) (c_3 : Int) (c_4 : Int) (l : Tp1) : ChO (fun κ => r2_Reader_whole_B (rc_r2_Reader_whole κ) c c_1 c_2 c_3 c_4 l) (r2_Reader_whole_B rc_r2_Reader_whole' c c_1 c_2 c_3 c_4 l) := by
  unfold r2_Reader_whole_B
  repeat' with_reducible first | exact ChO.const _ | exact h_rc_r2_Reader_whole _ _ _ _ _ _ | (apply r2_Reader_part_J11_ch <;> assumption) | (apply r2_Reader_part_ch <;> assumption) | (apply r2_Reader_one_ch <;> assumption) | (apply r2_Reader_row_J5_ch <;> assumption) | (apply r2_Reader_row_L3_ch <;> assumption) | (apply r2_Reader_row_ch <;> assumption) | (apply r2_Reader_whole_L3_ch <;> assumption) | apply ChO.ite | apply ChO.G | apply ChO.both | (apply ChO.bind; intro _) | (apply ChO.bind2 (h_rc_r2_Reader_whole _ _ _ _ _ _); intro _) | (refine ChO.bind2 ?_ (fun _ => ?_))
noncomputable def r2_Reader_whole_F : ((List UInt8) × Int × Int × Int × Int × Tp1 → Option (Int × (List UInt8) × Int × Int × Tp1 × Int × Int)) → (List UInt8) × Int × Int × Int × Int × Tp1 → Option (Int × (List UInt8) × Int × Int × Tp1 × Int × Int) :=
  fun rec X => r2_Reader_whole_B (fun c c_1 c_2 c_3 c_4 l => rec (c, c_1, c_2, c_3, c_4, l)) X.1 X.2.1 X.2.2.1 X.2.2.2.1 X.2.2.2.2.1 X.2.2.2.2.2
noncomputable def r2_Reader_whole (c : (List UInt8)) (c_1 : Int) (c_2 : Int) (c_3 : Int) (c_4 : Int) (l : Tp1) : Option (Int × (List UInt8) × Int × Int × Tp1 × Int × Int) := LFix r2_Reader_whole_F (c, c_1, c_2, c_3, c_4, l)
theorem r2_Reader_whole_cn : Cn r2_Reader_whole_F := fun g h hg X => r2_Reader_whole_B_ch _ _ (fun c c_1 c_2 c_3 c_4 l => hg (c, c_1, c_2, c_3, c_4, l)) X.1 X.2.1 X.2.2.1 X.2.2.2.1 X.2.2.2.2.1 X.2.2.2.2.2
theorem r2_Reader_whole_eq (c : (List UInt8)) (c_1 : Int) (c_2 : Int) (c_3 : Int) (c_4 : Int) (l : Tp1) : r2_Reader_whole c c_1 c_2 c_3 c_4 l = r2_Reader_whole_B r2_Reader_whole c c_1 c_2 c_3 c_4 l := LFix_eq r2_Reader_whole_cn (c, c_1, c_2, c_3, c_4, l)
noncomputable def r2_Reader_part_c (c : (List UInt8)) (c_1 : Int) (c_2 : Int) (c_3 : Int) (c_4 : Int) (l : Tp1) : Option (Int × (List UInt8) × Int × Int × Tp1 × Int × Int) := r2_Reader_part r2_Reader_whole c c_1 c_2 c_3 c_4 l
noncomputable def r2_Reader_one_c (c : (List UInt8)) (c_1 : Int) (c_2 : Int) (c_3 : Int) (c_4 : Int) (l : Tp1) : Option (Int × (List UInt8) × Int × Int × Tp1 × Int × Int) := r2_Reader_one r2_Reader_whole c c_1 c_2 c_3 c_4 l
noncomputable def r2_Reader_row_c (c : (List UInt8)) (c_1 : Int) (c_2 : Int) (c_3 : Int) (c_4 : Int) (l : Tp1) : Option (Int × (List UInt8) × Int × Int × Tp1 × Int × Int) := r2_Reader_row r2_Reader_whole c c_1 c_2 c_3 c_4 l

noncomputable def r2_Parse (text : (List UInt8)) : Option ((Int × Int × Unit) × Tp1) :=
  if (decide ((4000 : Int) < (text.length : Int))) = true then
  some (((1 : Int), ((0 : Int), ())), []) else
  (r2_Reader_whole text (0 : Int) (0 : Int) (0 : Int) (0 : Int) ([] : List Tp2)).bind (fun y'_16 =>
  if (decide (y'_16.2.2.1 < (text.length : Int))) = true then
  (r2_Reader_fail (4 : Int) y'_16.2.1 y'_16.2.2.1 y'_16.2.2.2.1 y'_16.2.2.2.2.2.1 y'_16.2.2.2.2.2.2 y'_16.2.2.2.2.1).bind (fun y'_15 =>
  if (decide (¬ y'_15.2.2.2.2.1 = (0 : Int))) = true then
  some ((y'_15.2.2.2.2.1, (y'_15.2.2.2.2.2, ())), []) else
  some (((0 : Int), ((0 : Int), ())), y'_15.2.2.2.1)) else
  if (decide (¬ y'_16.2.2.2.2.2.1 = (0 : Int))) = true then
  some ((y'_16.2.2.2.2.2.1, (y'_16.2.2.2.2.2.2, ())), []) else
  some (((0 : Int), ((0 : Int), ())), y'_16.2.2.2.2.1))

noncomputable def law_RegularReads (text : (List UInt8)) : Option (Bool) :=
  (regular_Check text).bind (fun y' =>
  (r2_Parse text).bind (fun y'_4 =>
  some (eqB (y'.1, (y'.2.1, ())) (y'_4.1.1, (y'_4.1.2.1, ())))))

end Go.Proofs.Ytbckhoiofdojkaa.regularReadsW
