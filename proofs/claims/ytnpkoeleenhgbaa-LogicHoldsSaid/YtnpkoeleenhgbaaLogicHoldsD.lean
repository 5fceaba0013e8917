/- What the functions that 'LogicHolds' reaches compute: plain functions. -/
import Derived.Test.YtnpkoeleenhgbaaEv28n21
set_option maxHeartbeats 1000000
set_option maxRecDepth 20000
set_option linter.unusedSimpArgs false
set_option linter.unusedVariables false
set_option linter.unusedSectionVars false
namespace Go.Proofs.Ytnpkoeleenhgbaa.logicHoldsW
open Go Go.Ab
abbrev Tp3 := (List Int)
abbrev Tp2 := (Int × Int × Int × Int × Bool × Unit)
abbrev Tp1 := (List Tp2)
abbrev Tf1 := Tp1 → Int → Tp3 → Tp3 → Option (Bool)
noncomputable def logic_reader_now (r : ((List UInt8) × Int × Int × Int × Tp3 × Unit)) : Option (Int) :=
  if (decide (r.2.1 = (r.1.length : Int))) = true then
  some (0 : Int) else
  G (0 ≤ r.2.1 ∧ r.2.1 < (r.1.length : Int)) (
  some (bAt r.1 r.2.1))

noncomputable def logic_reader_fail (r : ((List UInt8) × Int × Int × Int × Tp3 × Unit)) (code : Int) (at' : Int) : Option ((Unit) ⊕ (Int × Int)) :=
  some (.inr ((((code, (at', ())), ())).1.1, (((code, (at', ())), ())).1.2.1))

noncomputable def logic_reader_counted (c : (List UInt8)) (c_1 : Int) (c_2 : Int) (c_3 : Int) (l : Tp3) : Option (((List UInt8) × Int × Int × Int × Tp3) ⊕ (Int × Int)) :=
  G (fits (c_2 + (1 : Int))) (
  if (decide ((30 : Int) < (c_2 + (1 : Int)))) = true then
  pbind (logic_reader_fail (c, (c_1, (c_2 + (1 : Int), (c_3, (l, ()))))) (7 : Int) c_1) (fun _ =>
  some (.inl (c, c_1, c_2 + (1 : Int), c_3, l))) (fun p => some (.inr (p.1, p.2))) else
  some (.inl (c, c_1, c_2 + (1 : Int), c_3, l)))

noncomputable def logic_place (c : Int) : Option (Bool) :=
  if (decide ((120 : Int) ≤ c)) = true then
  some (decide (c ≤ (122 : Int))) else
  some false

noncomputable def logic_set (c : Int) : Option (Bool) :=
  if (decide ((88 : Int) ≤ c)) = true then
  some (decide (c ≤ (90 : Int))) else
  some false

noncomputable def logic_reader_known_L2_B (c : (List UInt8)) (c_1 : Int) (c_2 : Int) (c_3 : Int) (l : Tp3) (r2 : Int → Option ((Int × (List UInt8) × Int × Int × Int × Tp3) ⊕ (Int × Int))) (k : Int) : Option ((Int × (List UInt8) × Int × Int × Int × Tp3) ⊕ (Int × Int)) :=
  if (decide ((0 : Int) ≤ k)) = true then
  G (0 ≤ k ∧ k < (l.length : Int)) (
  G ((k).toNat < l.length) (
  (logic_reader_now (c, (c_1, (c_2, (c_3, (l, ())))))).bind (fun y' =>
  if (decide ((ix l k) = y')) = true then
  G (fits (c_1 + (1 : Int))) (
  some (.inl (k, c, c_1 + (1 : Int), c_2, c_3, l))) else
  G (fits (k - (1 : Int))) (
  r2 (k - (1 : Int)))))) else
  pbind (logic_reader_fail (c, (c_1, (c_2, (c_3, (l, ()))))) (5 : Int) c_1) (fun _ =>
  some (.inl ((0 : Int), c, c_1, c_2, c_3, l))) (fun p => some (.inr (p.1, p.2)))
noncomputable def logic_reader_known_L2_F (c : (List UInt8)) (c_1 : Int) (c_2 : Int) (c_3 : Int) (l : Tp3) : (Int → Option ((Int × (List UInt8) × Int × Int × Int × Tp3) ⊕ (Int × Int))) → Int → Option ((Int × (List UInt8) × Int × Int × Int × Tp3) ⊕ (Int × Int)) :=
  fun rec x => logic_reader_known_L2_B c c_1 c_2 c_3 l (fun k => rec k) x
noncomputable def logic_reader_known_L2 (c : (List UInt8)) (c_1 : Int) (c_2 : Int) (c_3 : Int) (l : Tp3) (k : Int) : Option ((Int × (List UInt8) × Int × Int × Int × Tp3) ⊕ (Int × Int)) := LFix (logic_reader_known_L2_F c c_1 c_2 c_3 l ) k
noncomputable def logic_reader_known (c : (List UInt8)) (c_1 : Int) (c_2 : Int) (c_3 : Int) (l : Tp3) : Option ((Int × (List UInt8) × Int × Int × Int × Tp3) ⊕ (Int × Int)) :=
  G (fits ((l.length : Int) - (1 : Int))) (
  logic_reader_known_L2 c c_1 c_2 c_3 l ((l.length : Int) - (1 : Int)))
theorem logic_reader_known_L2_B_ch (r2 : Nat → Int → Option ((Int × (List UInt8) × Int × Int × Int × Tp3) ⊕ (Int × Int))) (r2' : Int → Option ((Int × (List UInt8) × Int × Int × Int × Tp3) ⊕ (Int × Int))) (h_r2 : ∀ a0, ChO (fun κ => r2 κ a0) (r2' a0)) (c : (List UInt8)) (c_1 : Int) (c_2 : Int) (c_3 : Int) (l : Tp3) (k : Int) : ChO (fun κ => logic_reader_known_L2_B c c_1 c_2 c_3 l (r2 κ) k) (logic_reader_known_L2_B c c_1 c_2 c_3 l r2' k) := by
  unfold logic_reader_known_L2_B
  repeat' with_reducible first | exact ChO.const _ | exact h_r2 _ | apply ChO.ite | apply ChO.G | apply ChO.both | apply ChO.bothS | (apply ChO.bind; intro _) | (refine ChO.pbind (fun _ => ?_) (fun _ => ?_)) | (refine ChO.pbind2 ?_ (fun _ => ?_) (fun _ => ?_))
theorem logic_reader_known_L2_cn  (c : (List UInt8)) (c_1 : Int) (c_2 : Int) (c_3 : Int) (l : Tp3) : Cn (logic_reader_known_L2_F c c_1 c_2 c_3 l) := fun g h hg x => logic_reader_known_L2_B_ch  (fun κ k => g κ k) (fun k => h k) (fun k => hg k) c c_1 c_2 c_3 l x
theorem logic_reader_known_L2_eq  (c : (List UInt8)) (c_1 : Int) (c_2 : Int) (c_3 : Int) (l : Tp3) (k : Int) : logic_reader_known_L2 c c_1 c_2 c_3 l k = logic_reader_known_L2_B c c_1 c_2 c_3 l (logic_reader_known_L2 c c_1 c_2 c_3 l) k := LFix_eq (logic_reader_known_L2_cn c c_1 c_2 c_3 l) k

noncomputable def logic_reader_place_J2 (c : (List UInt8)) (c_1 : Int) (c_2 : Int) (c_3 : Int) (l : Tp3) : Option ((Int × (List UInt8) × Int × Int × Int × Tp3) ⊕ (Int × Int)) :=
  pbind (logic_reader_known c c_1 c_2 c_3 l) (fun y'_9 =>
  some (.inl (y'_9.1, y'_9.2.1, y'_9.2.2.1, y'_9.2.2.2.1, y'_9.2.2.2.2.1, y'_9.2.2.2.2.2))) (fun p => some (.inr (p.1, p.2)))
noncomputable def logic_reader_place (c : (List UInt8)) (c_1 : Int) (c_2 : Int) (c_3 : Int) (l : Tp3) : Option ((Int × (List UInt8) × Int × Int × Int × Tp3) ⊕ (Int × Int)) :=
  (logic_reader_now (c, (c_1, (c_2, (c_3, (l, ())))))).bind (fun y' =>
  (logic_place y').bind (fun y'_1 =>
  if (!y'_1) = true then
  pbind (logic_reader_fail (c, (c_1, (c_2, (c_3, (l, ()))))) (4 : Int) c_1) (fun _ =>
  logic_reader_place_J2 c c_1 c_2 c_3 l) (fun p => some (.inr (p.1, p.2))) else
  logic_reader_place_J2 c c_1 c_2 c_3 l))

noncomputable def stringslite_IndexByte (s : List UInt8) (c : Int) : Option Int := some (ixByte s c)

noncomputable def strings_IndexByte (s : (List UInt8)) (c : Int) : Option (Int) :=
  (stringslite_IndexByte s c).bind (fun y' =>
  some y')

noncomputable def logic_reader_atom_J24 (y'_36 : Int) (y'_43 : (List UInt8)) (y'_44 : Int) (y'_45 : Int) (y'_46 : Int) (y'_47 : Tp3) (y'_50 : Int) : Option (((Tr Tp2) × (List UInt8) × Int × Int × Int × Tp3) ⊕ (Int × Int)) :=
  G (fits ((1 : Int) + y'_50)) (
  G (fits ((y'_44 + (1 : Int)) + (1 : Int))) (
  pbind (logic_reader_place y'_43 ((y'_44 + (1 : Int)) + (1 : Int)) y'_45 y'_46 y'_47) (fun y'_58 =>
  some (.inl (Tr.mk ((1 : Int) + y'_50, ((0 : Int), (y'_36, (y'_58.1, (false, ()))))) ([]), y'_58.2.1, y'_58.2.2.1, y'_58.2.2.2.1, y'_58.2.2.2.2.1, y'_58.2.2.2.2.2))) (fun p => some (.inr (p.1, p.2)))))
noncomputable def logic_reader_atom_J23 (y'_36 : Int) (y'_43 : (List UInt8)) (y'_44 : Int) (y'_45 : Int) (y'_46 : Int) (y'_47 : Tp3) (y'_50 : Int) (t_1 : Bool) : Option (((Tr Tp2) × (List UInt8) × Int × Int × Int × Tp3) ⊕ (Int × Int)) :=
  if t_1 = true then
  pbind (logic_reader_fail (y'_43, (y'_44 + (1 : Int), (y'_45, (y'_46, (y'_47, ()))))) (4 : Int) (y'_44 + (1 : Int))) (fun _ =>
  logic_reader_atom_J24 y'_36 y'_43 y'_44 y'_45 y'_46 y'_47 y'_50) (fun p => some (.inr (p.1, p.2))) else
  logic_reader_atom_J24 y'_36 y'_43 y'_44 y'_45 y'_46 y'_47 y'_50
noncomputable def logic_reader_atom_J2 (c : (List UInt8)) (c_1 : Int) (c_2 : Int) (c_3 : Int) (l : Tp3) (y' : Int) (t : Bool) : Option (((Tr Tp2) × (List UInt8) × Int × Int × Int × Tp3) ⊕ (Int × Int)) :=
  if t = true then
  pbind (logic_reader_counted c c_1 c_2 c_3 l) (fun y'_6 =>
  G (fits (y'_6.2.1 + (1 : Int))) (
  pbind (logic_reader_place y'_6.1 (y'_6.2.1 + (1 : Int)) y'_6.2.2.1 y'_6.2.2.2.1 y'_6.2.2.2.2) (fun y'_13 =>
  some (.inl (Tr.mk ((0 : Int), (IntKind.wrap .i64 (IntKind.wrap .u8 (y' - (97 : Int))), (y'_13.1, ((0 : Int), (false, ()))))) ([]), y'_13.2.1, y'_13.2.2.1, y'_13.2.2.2.1, y'_13.2.2.2.2.1, y'_13.2.2.2.2.2))) (fun p => some (.inr (p.1, p.2))))) (fun p => some (.inr (p.1, p.2))) else
  (logic_set y').bind (fun y'_14 =>
  if y'_14 = true then
  pbind (logic_reader_known c c_1 c_2 c_3 l) (fun y'_21 =>
  pbind (logic_reader_counted y'_21.2.1 c_1 y'_21.2.2.2.1 y'_21.2.2.2.2.1 y'_21.2.2.2.2.2) (fun y'_27 =>
  G (fits (y'_27.2.1 + (1 : Int))) (
  pbind (logic_reader_place y'_27.1 (y'_27.2.1 + (1 : Int)) y'_27.2.2.1 y'_27.2.2.2.1 y'_27.2.2.2.2) (fun y'_34 =>
  some (.inl (Tr.mk ((4 : Int), ((0 : Int), (y'_34.1, (y'_21.1, (false, ()))))) ([]), y'_34.2.1, y'_34.2.2.1, y'_34.2.2.2.1, y'_34.2.2.2.2.1, y'_34.2.2.2.2.2))) (fun p => some (.inr (p.1, p.2))))) (fun p => some (.inr (p.1, p.2)))) (fun p => some (.inr (p.1, p.2))) else
  (logic_place y').bind (fun y'_35 =>
  if y'_35 = true then
  pbind (logic_reader_known c c_1 c_2 c_3 l) (fun y'_42 =>
  pbind (logic_reader_counted y'_42.2.1 c_1 y'_42.2.2.2.1 y'_42.2.2.2.2.1 y'_42.2.2.2.2.2) (fun y'_48 =>
  G (fits (y'_48.2.1 + (1 : Int))) (
  (logic_reader_now (y'_48.1, (y'_48.2.1 + (1 : Int), (y'_48.2.2.1, (y'_48.2.2.2.1, (y'_48.2.2.2.2, ())))))).bind (fun y'_49 =>
  (strings_IndexByte ([60, 61, 126]) y'_49).bind (fun y'_50 =>
  if (decide (y'_50 < (0 : Int))) = true then
  logic_reader_atom_J23 y'_42.1 y'_48.1 y'_48.2.1 y'_48.2.2.1 y'_48.2.2.2.1 y'_48.2.2.2.2 y'_50 true else
  (logic_reader_now (y'_48.1, (y'_48.2.1 + (1 : Int), (y'_48.2.2.1, (y'_48.2.2.2.1, (y'_48.2.2.2.2, ())))))).bind (fun y'_59 =>
  logic_reader_atom_J23 y'_42.1 y'_48.1 y'_48.2.1 y'_48.2.2.1 y'_48.2.2.2.1 y'_48.2.2.2.2 y'_50 (decide (y'_59 = (0 : Int)))))))) (fun p => some (.inr (p.1, p.2)))) (fun p => some (.inr (p.1, p.2))) else
  pbind (logic_reader_fail (c, (c_1, (c_2, (c_3, (l, ()))))) (4 : Int) c_1) (fun _ =>
  some (.inl (Tr.nil, c, c_1, c_2, c_3, l))) (fun p => some (.inr (p.1, p.2)))))
noncomputable def logic_reader_atom (c : (List UInt8)) (c_1 : Int) (c_2 : Int) (c_3 : Int) (l : Tp3) : Option (((Tr Tp2) × (List UInt8) × Int × Int × Int × Tp3) ⊕ (Int × Int)) :=
  (logic_reader_now (c, (c_1, (c_2, (c_3, (l, ())))))).bind (fun y' =>
  if (decide (y' = (97 : Int))) = true then
  logic_reader_atom_J2 c c_1 c_2 c_3 l y' true else
  logic_reader_atom_J2 c c_1 c_2 c_3 l y' (decide (y' = (98 : Int))))

noncomputable def logic_reader_part_J8 (rc_logic_reader_formula : (List UInt8) → Int → Int → Int → Tp3 → Option (((Tr Tp2) × (List UInt8) × Int × Int × Int × Tp3) ⊕ (Int × Int))) (c : (List UInt8)) (c_1 : Int) (c_2 : Int) (c_3 : Int) (l : Tp3) : Option (((Tr Tp2) × (List UInt8) × Int × Int × Int × Tp3) ⊕ (Int × Int)) :=
  G (fits (c_3 + (1 : Int))) (
  G (fits (c_1 + (1 : Int))) (
  pbind (rc_logic_reader_formula c (c_1 + (1 : Int)) c_2 (c_3 + (1 : Int)) l) (fun y'_21 =>
  (logic_reader_now (y'_21.2.1, (y'_21.2.2.1, (y'_21.2.2.2.1, (y'_21.2.2.2.2.1, (y'_21.2.2.2.2.2, ())))))).bind (fun y'_22 =>
  if (decide (¬ y'_22 = (41 : Int))) = true then
  pbind (logic_reader_fail (y'_21.2.1, (y'_21.2.2.1, (y'_21.2.2.2.1, (y'_21.2.2.2.2.1, (y'_21.2.2.2.2.2, ()))))) (4 : Int) y'_21.2.2.1) (fun _ =>
  G (fits (y'_21.2.2.1 + (1 : Int))) (
  G (fits (y'_21.2.2.2.2.1 - (1 : Int))) (
  some (.inl (y'_21.1, y'_21.2.1, y'_21.2.2.1 + (1 : Int), y'_21.2.2.2.1, y'_21.2.2.2.2.1 - (1 : Int), y'_21.2.2.2.2.2))))) (fun p => some (.inr (p.1, p.2))) else
  G (fits (y'_21.2.2.1 + (1 : Int))) (
  G (fits (y'_21.2.2.2.2.1 - (1 : Int))) (
  some (.inl (y'_21.1, y'_21.2.1, y'_21.2.2.1 + (1 : Int), y'_21.2.2.2.1, y'_21.2.2.2.2.1 - (1 : Int), y'_21.2.2.2.2.2)))))) (fun p => some (.inr (p.1, p.2)))))
noncomputable def logic_reader_part_J28 (rc_logic_reader_part : ((List UInt8) → Int → Int → Int → Tp3 → Option (((Tr Tp2) × (List UInt8) × Int × Int × Int × Tp3) ⊕ (Int × Int)))) (y'_25 : (List UInt8)) (y'_26 : Int) (y'_27 : Int) (y'_28 : Int) (y'_29 : Tp3) (y'_31 : Int) (n : Int) (n_1 : Int) (n_2 : Int) (n_3 : Int) (n_4 : Bool) : Option (((Tr Tp2) × (List UInt8) × Int × Int × Int × Tp3) ⊕ (Int × Int)) :=
  G (room y'_29 ([y'_31]) 1) (
  pbind (rc_logic_reader_part y'_25 ((y'_26 + (1 : Int)) + (1 : Int)) y'_27 y'_28 (y'_29 ++ ([y'_31]))) (fun y'_42 =>
  G (fits ((y'_42.2.2.2.2.2.length : Int) - (1 : Int))) (
  G (0 ≤ (y'_42.2.2.2.2.2.length : Int) - (1 : Int) ∧ (y'_42.2.2.2.2.2.length : Int) - (1 : Int) ≤ (y'_42.2.2.2.2.2.length : Int)) (
  some (.inl (Tr.mk (n, (n_1, (n_2, (n_3, (n_4, ()))))) ([y'_42.1]), y'_42.2.1, y'_42.2.2.1, y'_42.2.2.2.1, y'_42.2.2.2.2.1, y'_42.2.2.2.2.2.take ((y'_42.2.2.2.2.2.length : Int) - (1 : Int)).toNat))))) (fun p => some (.inr (p.1, p.2))))
noncomputable def logic_reader_part_J24 (rc_logic_reader_part : ((List UInt8) → Int → Int → Int → Tp3 → Option (((Tr Tp2) × (List UInt8) × Int × Int × Int × Tp3) ⊕ (Int × Int)))) (y' : Int) (y'_25 : (List UInt8)) (y'_26 : Int) (y'_27 : Int) (y'_28 : Int) (y'_29 : Tp3) (y'_31 : Int) : Option (((Tr Tp2) × (List UInt8) × Int × Int × Int × Tp3) ⊕ (Int × Int)) :=
  G (fits ((y'_26 + (1 : Int)) + (1 : Int))) (
  (logic_set y'_31).bind (fun y'_35 =>
  if (decide (y' = (65 : Int))) = true then
  logic_reader_part_J28 rc_logic_reader_part y'_25 y'_26 y'_27 y'_28 y'_29 y'_31 (9 : Int) (0 : Int) (0 : Int) (0 : Int) y'_35 else
  logic_reader_part_J28 rc_logic_reader_part y'_25 y'_26 y'_27 y'_28 y'_29 y'_31 (8 : Int) (0 : Int) (0 : Int) (0 : Int) y'_35))
noncomputable def logic_reader_part_J23 (rc_logic_reader_part : ((List UInt8) → Int → Int → Int → Tp3 → Option (((Tr Tp2) × (List UInt8) × Int × Int × Int × Tp3) ⊕ (Int × Int)))) (y' : Int) (y'_25 : (List UInt8)) (y'_26 : Int) (y'_27 : Int) (y'_28 : Int) (y'_29 : Tp3) (y'_31 : Int) (t_1 : Bool) : Option (((Tr Tp2) × (List UInt8) × Int × Int × Int × Tp3) ⊕ (Int × Int)) :=
  if t_1 = true then
  pbind (logic_reader_fail (y'_25, (y'_26 + (1 : Int), (y'_27, (y'_28, (y'_29, ()))))) (4 : Int) (y'_26 + (1 : Int))) (fun _ =>
  logic_reader_part_J24 rc_logic_reader_part y' y'_25 y'_26 y'_27 y'_28 y'_29 y'_31) (fun p => some (.inr (p.1, p.2))) else
  logic_reader_part_J24 rc_logic_reader_part y' y'_25 y'_26 y'_27 y'_28 y'_29 y'_31
noncomputable def logic_reader_part_J19 (c : (List UInt8)) (c_1 : Int) (c_2 : Int) (c_3 : Int) (l : Tp3) (rc_logic_reader_part : ((List UInt8) → Int → Int → Int → Tp3 → Option (((Tr Tp2) × (List UInt8) × Int × Int × Int × Tp3) ⊕ (Int × Int)))) (y' : Int) : Option (((Tr Tp2) × (List UInt8) × Int × Int × Int × Tp3) ⊕ (Int × Int)) :=
  pbind (logic_reader_counted c c_1 c_2 c_3 l) (fun y'_30 =>
  G (fits (y'_30.2.1 + (1 : Int))) (
  (logic_reader_now (y'_30.1, (y'_30.2.1 + (1 : Int), (y'_30.2.2.1, (y'_30.2.2.2.1, (y'_30.2.2.2.2, ())))))).bind (fun y'_31 =>
  (logic_place y'_31).bind (fun y'_32 =>
  if (!y'_32) = true then
  (logic_set y'_31).bind (fun y'_33 =>
  logic_reader_part_J23 rc_logic_reader_part y' y'_30.1 y'_30.2.1 y'_30.2.2.1 y'_30.2.2.2.1 y'_30.2.2.2.2 y'_31 (!y'_33)) else
  logic_reader_part_J23 rc_logic_reader_part y' y'_30.1 y'_30.2.1 y'_30.2.2.1 y'_30.2.2.2.1 y'_30.2.2.2.2 y'_31 false)))) (fun p => some (.inr (p.1, p.2)))
noncomputable def logic_reader_part_J17 (c : (List UInt8)) (c_1 : Int) (c_2 : Int) (c_3 : Int) (l : Tp3) (rc_logic_reader_part : ((List UInt8) → Int → Int → Int → Tp3 → Option (((Tr Tp2) × (List UInt8) × Int × Int × Int × Tp3) ⊕ (Int × Int)))) (y' : Int) (t : Bool) : Option (((Tr Tp2) × (List UInt8) × Int × Int × Int × Tp3) ⊕ (Int × Int)) :=
  if t = true then
  if (decide ((l.length : Int) = (3 : Int))) = true then
  pbind (logic_reader_fail (c, (c_1, (c_2, (c_3, (l, ()))))) (7 : Int) c_1) (fun _ =>
  logic_reader_part_J19 c c_1 c_2 c_3 l rc_logic_reader_part y') (fun p => some (.inr (p.1, p.2))) else
  logic_reader_part_J19 c c_1 c_2 c_3 l rc_logic_reader_part y' else
  pbind (logic_reader_atom c c_1 c_2 c_3 l) (fun y'_49 =>
  some (.inl (y'_49.1, y'_49.2.1, y'_49.2.2.1, y'_49.2.2.2.1, y'_49.2.2.2.2.1, y'_49.2.2.2.2.2))) (fun p => some (.inr (p.1, p.2)))
noncomputable def logic_reader_part_B (rc_logic_reader_formula : (List UInt8) → Int → Int → Int → Tp3 → Option (((Tr Tp2) × (List UInt8) × Int × Int × Int × Tp3) ⊕ (Int × Int)))  (rc_logic_reader_part : (List UInt8) → Int → Int → Int → Tp3 → Option (((Tr Tp2) × (List UInt8) × Int × Int × Int × Tp3) ⊕ (Int × Int))) (c : (List UInt8)) (c_1 : Int) (c_2 : Int) (c_3 : Int) (l : Tp3) : Option (((Tr Tp2) × (List UInt8) × Int × Int × Int × Tp3) ⊕ (Int × Int)) :=
  (logic_reader_now (c, (c_1, (c_2, (c_3, (l, ())))))).bind (fun y' =>
  if (decide (y' = (33 : Int))) = true then
  pbind (logic_reader_counted c c_1 c_2 c_3 l) (fun y'_6 =>
  G (fits (y'_6.2.1 + (1 : Int))) (
  pbind (rc_logic_reader_part y'_6.1 (y'_6.2.1 + (1 : Int)) y'_6.2.2.1 y'_6.2.2.2.1 y'_6.2.2.2.2) (fun y'_13 =>
  some (.inl (Tr.mk ((5 : Int), ((0 : Int), ((0 : Int), ((0 : Int), (false, ()))))) ([y'_13.1]), y'_13.2.1, y'_13.2.2.1, y'_13.2.2.2.1, y'_13.2.2.2.2.1, y'_13.2.2.2.2.2))) (fun p => some (.inr (p.1, p.2))))) (fun p => some (.inr (p.1, p.2))) else
  if (decide (y' = (40 : Int))) = true then
  if (decide (c_3 = (40 : Int))) = true then
  pbind (logic_reader_fail (c, (c_1, (c_2, (c_3, (l, ()))))) (7 : Int) c_1) (fun _ =>
  logic_reader_part_J8 rc_logic_reader_formula c c_1 c_2 c_3 l) (fun p => some (.inr (p.1, p.2))) else
  logic_reader_part_J8 rc_logic_reader_formula c c_1 c_2 c_3 l else
  if (decide (y' = (69 : Int))) = true then
  logic_reader_part_J17 c c_1 c_2 c_3 l rc_logic_reader_part y' true else
  logic_reader_part_J17 c c_1 c_2 c_3 l rc_logic_reader_part y' (decide (y' = (65 : Int))))
noncomputable def logic_reader_part_F (rc_logic_reader_formula : (List UInt8) → Int → Int → Int → Tp3 → Option (((Tr Tp2) × (List UInt8) × Int × Int × Int × Tp3) ⊕ (Int × Int)))  : ((List UInt8) × Int × Int × Int × Tp3 → Option (((Tr Tp2) × (List UInt8) × Int × Int × Int × Tp3) ⊕ (Int × Int))) → (List UInt8) × Int × Int × Int × Tp3 → Option (((Tr Tp2) × (List UInt8) × Int × Int × Int × Tp3) ⊕ (Int × Int)) :=
  fun rec x => logic_reader_part_B rc_logic_reader_formula (fun c c_1 c_2 c_3 l => rec (c, c_1, c_2, c_3, l)) x.1 x.2.1 x.2.2.1 x.2.2.2.1 x.2.2.2.2
noncomputable def logic_reader_part (rc_logic_reader_formula : (List UInt8) → Int → Int → Int → Tp3 → Option (((Tr Tp2) × (List UInt8) × Int × Int × Int × Tp3) ⊕ (Int × Int)))  (c : (List UInt8)) (c_1 : Int) (c_2 : Int) (c_3 : Int) (l : Tp3) : Option (((Tr Tp2) × (List UInt8) × Int × Int × Int × Tp3) ⊕ (Int × Int)) := LFix (logic_reader_part_F rc_logic_reader_formula ) (c, c_1, c_2, c_3, l)
noncomputable def logic_reader_term_L2_B (rc_logic_reader_formula : (List UInt8) → Int → Int → Int → Tp3 → Option (((Tr Tp2) × (List UInt8) × Int × Int × Int × Tp3) ⊕ (Int × Int)))  (r2 : (Tr Tp2) → (List UInt8) → Int → Int → Int → Tp3 → Option (((Tr Tp2) × (List UInt8) × Int × Int × Int × Tp3) ⊕ (Int × Int))) (n : (Tr Tp2)) (r : (List UInt8)) (r_1 : Int) (r_2 : Int) (r_3 : Int) (l_1 : Tp3) : Option (((Tr Tp2) × (List UInt8) × Int × Int × Int × Tp3) ⊕ (Int × Int)) :=
  (logic_reader_now (r, (r_1, (r_2, (r_3, (l_1, ())))))).bind (fun y'_7 =>
  if (decide (y'_7 = (38 : Int))) = true then
  pbind (logic_reader_counted r r_1 r_2 r_3 l_1) (fun y'_13 =>
  G (fits (y'_13.2.1 + (1 : Int))) (
  pbind (logic_reader_part rc_logic_reader_formula y'_13.1 (y'_13.2.1 + (1 : Int)) y'_13.2.2.1 y'_13.2.2.2.1 y'_13.2.2.2.2) (fun y'_20 =>
  r2 (Tr.mk ((6 : Int), ((0 : Int), ((0 : Int), ((0 : Int), (false, ()))))) ([n, y'_20.1])) y'_20.2.1 y'_20.2.2.1 y'_20.2.2.2.1 y'_20.2.2.2.2.1 y'_20.2.2.2.2.2) (fun p => some (.inr (p.1, p.2))))) (fun p => some (.inr (p.1, p.2))) else
  some (.inl (n, r, r_1, r_2, r_3, l_1)))
noncomputable def logic_reader_term_L2_F (rc_logic_reader_formula : (List UInt8) → Int → Int → Int → Tp3 → Option (((Tr Tp2) × (List UInt8) × Int × Int × Int × Tp3) ⊕ (Int × Int)))  : ((Tr Tp2) × (List UInt8) × Int × Int × Int × Tp3 → Option (((Tr Tp2) × (List UInt8) × Int × Int × Int × Tp3) ⊕ (Int × Int))) → (Tr Tp2) × (List UInt8) × Int × Int × Int × Tp3 → Option (((Tr Tp2) × (List UInt8) × Int × Int × Int × Tp3) ⊕ (Int × Int)) :=
  fun rec x => logic_reader_term_L2_B rc_logic_reader_formula (fun n r r_1 r_2 r_3 l_1 => rec (n, r, r_1, r_2, r_3, l_1)) x.1 x.2.1 x.2.2.1 x.2.2.2.1 x.2.2.2.2.1 x.2.2.2.2.2
noncomputable def logic_reader_term_L2 (rc_logic_reader_formula : (List UInt8) → Int → Int → Int → Tp3 → Option (((Tr Tp2) × (List UInt8) × Int × Int × Int × Tp3) ⊕ (Int × Int)))  (n : (Tr Tp2)) (r : (List UInt8)) (r_1 : Int) (r_2 : Int) (r_3 : Int) (l_1 : Tp3) : Option (((Tr Tp2) × (List UInt8) × Int × Int × Int × Tp3) ⊕ (Int × Int)) := LFix (logic_reader_term_L2_F rc_logic_reader_formula ) (n, r, r_1, r_2, r_3, l_1)
noncomputable def logic_reader_term (rc_logic_reader_formula : (List UInt8) → Int → Int → Int → Tp3 → Option (((Tr Tp2) × (List UInt8) × Int × Int × Int × Tp3) ⊕ (Int × Int))) (c : (List UInt8)) (c_1 : Int) (c_2 : Int) (c_3 : Int) (l : Tp3) : Option (((Tr Tp2) × (List UInt8) × Int × Int × Int × Tp3) ⊕ (Int × Int)) :=
  pbind (logic_reader_part rc_logic_reader_formula c c_1 c_2 c_3 l) (fun y'_6 =>
  logic_reader_term_L2 rc_logic_reader_formula y'_6.1 y'_6.2.1 y'_6.2.2.1 y'_6.2.2.2.1 y'_6.2.2.2.2.1 y'_6.2.2.2.2.2) (fun p => some (.inr (p.1, p.2)))
noncomputable def logic_reader_formula_L2_B (rc_logic_reader_formula : (List UInt8) → Int → Int → Int → Tp3 → Option (((Tr Tp2) × (List UInt8) × Int × Int × Int × Tp3) ⊕ (Int × Int)))  (r2 : (Tr Tp2) → (List UInt8) → Int → Int → Int → Tp3 → Option (((Tr Tp2) × (List UInt8) × Int × Int × Int × Tp3) ⊕ (Int × Int))) (n : (Tr Tp2)) (r : (List UInt8)) (r_1 : Int) (r_2 : Int) (r_3 : Int) (l_1 : Tp3) : Option (((Tr Tp2) × (List UInt8) × Int × Int × Int × Tp3) ⊕ (Int × Int)) :=
  (logic_reader_now (r, (r_1, (r_2, (r_3, (l_1, ())))))).bind (fun y'_7 =>
  if (decide (y'_7 = (124 : Int))) = true then
  pbind (logic_reader_counted r r_1 r_2 r_3 l_1) (fun y'_13 =>
  G (fits (y'_13.2.1 + (1 : Int))) (
  pbind (logic_reader_term rc_logic_reader_formula y'_13.1 (y'_13.2.1 + (1 : Int)) y'_13.2.2.1 y'_13.2.2.2.1 y'_13.2.2.2.2) (fun y'_20 =>
  r2 (Tr.mk ((7 : Int), ((0 : Int), ((0 : Int), ((0 : Int), (false, ()))))) ([n, y'_20.1])) y'_20.2.1 y'_20.2.2.1 y'_20.2.2.2.1 y'_20.2.2.2.2.1 y'_20.2.2.2.2.2) (fun p => some (.inr (p.1, p.2))))) (fun p => some (.inr (p.1, p.2))) else
  some (.inl (n, r, r_1, r_2, r_3, l_1)))
noncomputable def logic_reader_formula_L2_F (rc_logic_reader_formula : (List UInt8) → Int → Int → Int → Tp3 → Option (((Tr Tp2) × (List UInt8) × Int × Int × Int × Tp3) ⊕ (Int × Int)))  : ((Tr Tp2) × (List UInt8) × Int × Int × Int × Tp3 → Option (((Tr Tp2) × (List UInt8) × Int × Int × Int × Tp3) ⊕ (Int × Int))) → (Tr Tp2) × (List UInt8) × Int × Int × Int × Tp3 → Option (((Tr Tp2) × (List UInt8) × Int × Int × Int × Tp3) ⊕ (Int × Int)) :=
  fun rec x => logic_reader_formula_L2_B rc_logic_reader_formula (fun n r r_1 r_2 r_3 l_1 => rec (n, r, r_1, r_2, r_3, l_1)) x.1 x.2.1 x.2.2.1 x.2.2.2.1 x.2.2.2.2.1 x.2.2.2.2.2
noncomputable def logic_reader_formula_L2 (rc_logic_reader_formula : (List UInt8) → Int → Int → Int → Tp3 → Option (((Tr Tp2) × (List UInt8) × Int × Int × Int × Tp3) ⊕ (Int × Int)))  (n : (Tr Tp2)) (r : (List UInt8)) (r_1 : Int) (r_2 : Int) (r_3 : Int) (l_1 : Tp3) : Option (((Tr Tp2) × (List UInt8) × Int × Int × Int × Tp3) ⊕ (Int × Int)) := LFix (logic_reader_formula_L2_F rc_logic_reader_formula ) (n, r, r_1, r_2, r_3, l_1)
noncomputable def logic_reader_formula_B (rc_logic_reader_formula : (List UInt8) → Int → Int → Int → Tp3 → Option (((Tr Tp2) × (List UInt8) × Int × Int × Int × Tp3) ⊕ (Int × Int))) (c : (List UInt8)) (c_1 : Int) (c_2 : Int) (c_3 : Int) (l : Tp3) : Option (((Tr Tp2) × (List UInt8) × Int × Int × Int × Tp3) ⊕ (Int × Int)) :=
  pbind (logic_reader_term rc_logic_reader_formula c c_1 c_2 c_3 l) (fun y'_6 =>
  logic_reader_formula_L2 rc_logic_reader_formula y'_6.1 y'_6.2.1 y'_6.2.2.1 y'_6.2.2.2.1 y'_6.2.2.2.2.1 y'_6.2.2.2.2.2) (fun p => some (.inr (p.1, p.2)))
theorem logic_reader_part_J8_ch (rc_logic_reader_formula : Nat → (List UInt8) → Int → Int → Int → Tp3 → Option (((Tr Tp2) × (List UInt8) × Int × Int × Int × Tp3) ⊕ (Int × Int))) (rc_logic_reader_formula' : (List UInt8) → Int → Int → Int → Tp3 → Option (((Tr Tp2) × (List UInt8) × Int × Int × Int × Tp3) ⊕ (Int × Int))) (h_rc_logic_reader_formula : ∀ a0 a1 a2 a3 a4, ChO (fun κ => rc_logic_reader_formula κ a0 a1 a2 a3 a4) (rc_logic_reader_formula' a0 a1 a2 a3 a4)) (c : (List UInt8)) (c_1 : Int) (c_2 : Int) (c_3 : Int) (l : Tp3) : ChO (fun κ => logic_reader_part_J8 (rc_logic_reader_formula κ) c c_1 c_2 c_3 l) (logic_reader_part_J8 rc_logic_reader_formula' c c_1 c_2 c_3 l) := by
  unfold logic_reader_part_J8
  repeat' with_reducible first | exact ChO.const _ | exact h_rc_logic_reader_formula _ _ _ _ _ | apply ChO.ite | apply ChO.G | apply ChO.both | apply ChO.bothS | (apply ChO.bind; intro _) | (apply ChO.bind2 (h_rc_logic_reader_formula _ _ _ _ _); intro _) | (refine ChO.bind2 ?_ (fun _ => ?_)) | (refine ChO.pbind (fun _ => ?_) (fun _ => ?_)) | (refine ChO.pbind2 ?_ (fun _ => ?_) (fun _ => ?_))
theorem logic_reader_part_J28_ch (rc_logic_reader_part : Nat → (List UInt8) → Int → Int → Int → Tp3 → Option (((Tr Tp2) × (List UInt8) × Int × Int × Int × Tp3) ⊕ (Int × Int))) (rc_logic_reader_part' : (List UInt8) → Int → Int → Int → Tp3 → Option (((Tr Tp2) × (List UInt8) × Int × Int × Int × Tp3) ⊕ (Int × Int))) (h_rc_logic_reader_part : ∀ a0 a1 a2 a3 a4, ChO (fun κ => rc_logic_reader_part κ a0 a1 a2 a3 a4) (rc_logic_reader_part' a0 a1 a2 a3 a4)) (y'_25 : (List UInt8)) (y'_26 : Int) (y'_27 : Int) (y'_28 : Int) (y'_29 : Tp3) (y'_31 : Int) (n : Int) (n_1 : Int) (n_2 : Int) (n_3 : Int) (n_4 : Bool) : ChO (fun κ => logic_reader_part_J28 (rc_logic_reader_part κ) y'_25 y'_26 y'_27 y'_28 y'_29 y'_31 n n_1 n_2 n_3 n_4) (logic_reader_part_J28 rc_logic_reader_part' y'_25 y'_26 y'_27 y'_28 y'_29 y'_31 n n_1 n_2 n_3 n_4) := by
  unfold logic_reader_part_J28
  repeat' with_reducible first | exact ChO.const _ | exact h_rc_logic_reader_part _ _ _ _ _ | (apply logic_reader_part_J8_ch <;> assumption) | apply ChO.ite | apply ChO.G | apply ChO.both | apply ChO.bothS | (apply ChO.bind; intro _) | (refine ChO.bind2 ?_ (fun _ => ?_)) | (refine ChO.pbind (fun _ => ?_) (fun _ => ?_)) | (refine ChO.pbind2 ?_ (fun _ => ?_) (fun _ => ?_))
theorem logic_reader_part_J24_ch (rc_logic_reader_part : Nat → (List UInt8) → Int → Int → Int → Tp3 → Option (((Tr Tp2) × (List UInt8) × Int × Int × Int × Tp3) ⊕ (Int × Int))) (rc_logic_reader_part' : (List UInt8) → Int → Int → Int → Tp3 → Option (((Tr Tp2) × (List UInt8) × Int × Int × Int × Tp3) ⊕ (Int × Int))) (h_rc_logic_reader_part : ∀ a0 a1 a2 a3 a4, ChO (fun κ => rc_logic_reader_part κ a0 a1 a2 a3 a4) (rc_logic_reader_part' a0 a1 a2 a3 a4)) (y' : Int) (y'_25 : (List UInt8)) (y'_26 : Int) (y'_27 : Int) (y'_28 : Int) (y'_29 : Tp3) (y'_31 : Int) : ChO (fun κ => logic_reader_part_J24 (rc_logic_reader_part κ) y' y'_25 y'_26 y'_27 y'_28 y'_29 y'_31) (logic_reader_part_J24 rc_logic_reader_part' y' y'_25 y'_26 y'_27 y'_28 y'_29 y'_31) := by
  unfold logic_reader_part_J24
  repeat' with_reducible first | exact ChO.const _ | exact h_rc_logic_reader_part _ _ _ _ _ | (apply logic_reader_part_J8_ch <;> assumption) | (apply logic_reader_part_J28_ch <;> assumption) | apply ChO.ite | apply ChO.G | apply ChO.both | apply ChO.bothS | (apply ChO.bind; intro _) | (refine ChO.bind2 ?_ (fun _ => ?_)) | (refine ChO.pbind (fun _ => ?_) (fun _ => ?_)) | (refine ChO.pbind2 ?_ (fun _ => ?_) (fun _ => ?_))
theorem logic_reader_part_J23_ch (rc_logic_reader_part : Nat → (List UInt8) → Int → Int → Int → Tp3 → Option (((Tr Tp2) × (List UInt8) × Int × Int × Int × Tp3) ⊕ (Int × Int))) (rc_logic_reader_part' : (List UInt8) → Int → Int → Int → Tp3 → Option (((Tr Tp2) × (List UInt8) × Int × Int × Int × Tp3) ⊕ (Int × Int))) (h_rc_logic_reader_part : ∀ a0 a1 a2 a3 a4, ChO (fun κ => rc_logic_reader_part κ a0 a1 a2 a3 a4) (rc_logic_reader_part' a0 a1 a2 a3 a4)) (y' : Int) (y'_25 : (List UInt8)) (y'_26 : Int) (y'_27 : Int) (y'_28 : Int) (y'_29 : Tp3) (y'_31 : Int) (t_1 : Bool) : ChO (fun κ => logic_reader_part_J23 (rc_logic_reader_part κ) y' y'_25 y'_26 y'_27 y'_28 y'_29 y'_31 t_1) (logic_reader_part_J23 rc_logic_reader_part' y' y'_25 y'_26 y'_27 y'_28 y'_29 y'_31 t_1) := by
  unfold logic_reader_part_J23
  repeat' with_reducible first | exact ChO.const _ | exact h_rc_logic_reader_part _ _ _ _ _ | (apply logic_reader_part_J8_ch <;> assumption) | (apply logic_reader_part_J28_ch <;> assumption) | (apply logic_reader_part_J24_ch <;> assumption) | apply ChO.ite | apply ChO.G | apply ChO.both | apply ChO.bothS | (apply ChO.bind; intro _) | (refine ChO.bind2 ?_ (fun _ => ?_)) | (refine ChO.pbind (fun _ => ?_) (fun _ => ?_)) | (refine ChO.pbind2 ?_ (fun _ => ?_) (fun _ => ?_))
theorem logic_reader_part_J19_ch (rc_logic_reader_part : Nat → (List UInt8) → Int → Int → Int → Tp3 → Option (((Tr Tp2) × (List UInt8) × Int × Int × Int × Tp3) ⊕ (Int × Int))) (rc_logic_reader_part' : (List UInt8) → Int → Int → Int → Tp3 → Option (((Tr Tp2) × (List UInt8) × Int × Int × Int × Tp3) ⊕ (Int × Int))) (h_rc_logic_reader_part : ∀ a0 a1 a2 a3 a4, ChO (fun κ => rc_logic_reader_part κ a0 a1 a2 a3 a4) (rc_logic_reader_part' a0 a1 a2 a3 a4)) (c : (List UInt8)) (c_1 : Int) (c_2 : Int) (c_3 : Int) (l : Tp3) (y' : Int) : ChO (fun κ => logic_reader_part_J19 c c_1 c_2 c_3 l (rc_logic_reader_part κ) y') (logic_reader_part_J19 c c_1 c_2 c_3 l rc_logic_reader_part' y') := by
  unfold logic_reader_part_J19
  repeat' with_reducible first | exact ChO.const _ | exact h_rc_logic_reader_part _ _ _ _ _ | (apply logic_reader_part_J8_ch <;> assumption) | (apply logic_reader_part_J28_ch <;> assumption) | (apply logic_reader_part_J24_ch <;> assumption) | (apply logic_reader_part_J23_ch <;> assumption) | apply ChO.ite | apply ChO.G | apply ChO.both | apply ChO.bothS | (apply ChO.bind; intro _) | (refine ChO.bind2 ?_ (fun _ => ?_)) | (refine ChO.pbind (fun _ => ?_) (fun _ => ?_)) | (refine ChO.pbind2 ?_ (fun _ => ?_) (fun _ => ?_))
theorem logic_reader_part_J17_ch (rc_logic_reader_part : Nat → (List UInt8) → Int → Int → Int → Tp3 → Option (((Tr Tp2) × (List UInt8) × Int × Int × Int × Tp3) ⊕ (Int × Int))) (rc_logic_reader_part' : (List UInt8) → Int → Int → Int → Tp3 → Option (((Tr Tp2) × (List UInt8) × Int × Int × Int × Tp3) ⊕ (Int × Int))) (h_rc_logic_reader_part : ∀ a0 a1 a2 a3 a4, ChO (fun κ => rc_logic_reader_part κ a0 a1 a2 a3 a4) (rc_logic_reader_part' a0 a1 a2 a3 a4)) (c : (List UInt8)) (c_1 : Int) (c_2 : Int) (c_3 : Int) (l : Tp3) (y' : Int) (t : Bool) : ChO (fun κ => logic_reader_part_J17 c c_1 c_2 c_3 l (rc_logic_reader_part κ) y' t) (logic_reader_part_J17 c c_1 c_2 c_3 l rc_logic_reader_part' y' t) := by
  unfold logic_reader_part_J17
  repeat' with_reducible first | exact ChO.const _ | exact h_rc_logic_reader_part _ _ _ _ _ | (apply logic_reader_part_J8_ch <;> assumption) | (apply logic_reader_part_J28_ch <;> assumption) | (apply logic_reader_part_J24_ch <;> assumption) | (apply logic_reader_part_J23_ch <;> assumption) | (apply logic_reader_part_J19_ch <;> assumption) | apply ChO.ite | apply ChO.G | apply ChO.both | apply ChO.bothS | (apply ChO.bind; intro _) | (refine ChO.bind2 ?_ (fun _ => ?_)) | (refine ChO.pbind (fun _ => ?_) (fun _ => ?_)) | (refine ChO.pbind2 ?_ (fun _ => ?_) (fun _ => ?_))
theorem logic_reader_part_B_ch (rc_logic_reader_formula : Nat → (List UInt8) → Int → Int → Int → Tp3 → Option (((Tr Tp2) × (List UInt8) × Int × Int × Int × Tp3) ⊕ (Int × Int))) (rc_logic_reader_formula' : (List UInt8) → Int → Int → Int → Tp3 → Option (((Tr Tp2) × (List UInt8) × Int × Int × Int × Tp3) ⊕ (Int × Int))) (h_rc_logic_reader_formula : ∀ a0 a1 a2 a3 a4, ChO (fun κ => rc_logic_reader_formula κ a0 a1 a2 a3 a4) (rc_logic_reader_formula' a0 a1 a2 a3 a4)) (rc_logic_reader_part : Nat → (List UInt8) → Int → Int → Int → Tp3 → Option (((Tr Tp2) × (List UInt8) × Int × Int × Int × Tp3) ⊕ (Int × Int))) (rc_logic_reader_part' : (List UInt8) → Int → Int → Int → Tp3 → Option (((Tr Tp2) × (List UInt8) × Int × Int × Int × Tp3) ⊕ (Int × Int))) (h_rc_logic_reader_part : ∀ a0 a1 a2 a3 a4, ChO (fun κ => rc_logic_reader_part κ a0 a1 a2 a3 a4) (rc_logic_reader_part' a0 a1 a2 a3 a4)) (c : (List UInt8)) (c_1 : Int) (c_2 : Int) (c_3 : Int) (l : Tp3) : ChO (fun κ => logic_reader_part_B (rc_logic_reader_formula κ) (rc_logic_reader_part κ) c c_1 c_2 c_3 l) (logic_reader_part_B rc_logic_reader_formula' rc_logic_reader_part' c c_1 c_2 c_3 l) := by
  unfold logic_reader_part_B
  repeat' with_reducible first | exact ChO.const _ | exact h_rc_logic_reader_formula _ _ _ _ _ | exact h_rc_logic_reader_part _ _ _ _ _ | (apply logic_reader_part_J8_ch <;> assumption) | (apply logic_reader_part_J28_ch <;> assumption) | (apply logic_reader_part_J24_ch <;> assumption) | (apply logic_reader_part_J23_ch <;> assumption) | (apply logic_reader_part_J19_ch <;> assumption) | (apply logic_reader_part_J17_ch <;> assumption) | apply ChO.ite | apply ChO.G | apply ChO.both | apply ChO.bothS | (apply ChO.bind; intro _) | (apply ChO.bind2 (h_rc_logic_reader_formula _ _ _ _ _); intro _) | (refine ChO.bind2 ?_ (fun _ => ?_)) | (refine ChO.pbind (fun _ => ?_) (fun _ => ?_)) | (refine ChO.pbind2 ?_ (fun _ => ?_) (fun _ => ?_))
theorem logic_reader_part_cn (rc_logic_reader_formula : (List UInt8) → Int → Int → Int → Tp3 → Option (((Tr Tp2) × (List UInt8) × Int × Int × Int × Tp3) ⊕ (Int × Int)))  : Cn (logic_reader_part_F rc_logic_reader_formula) := fun g h hg x => logic_reader_part_B_ch (fun _ => rc_logic_reader_formula) rc_logic_reader_formula (fun _ _ _ _ _ => ChO.const _) (fun κ c c_1 c_2 c_3 l => g κ (c, c_1, c_2, c_3, l)) (fun c c_1 c_2 c_3 l => h (c, c_1, c_2, c_3, l)) (fun c c_1 c_2 c_3 l => hg (c, c_1, c_2, c_3, l))  x.1 x.2.1 x.2.2.1 x.2.2.2.1 x.2.2.2.2
theorem logic_reader_part_eq (rc_logic_reader_formula : (List UInt8) → Int → Int → Int → Tp3 → Option (((Tr Tp2) × (List UInt8) × Int × Int × Int × Tp3) ⊕ (Int × Int)))  (c : (List UInt8)) (c_1 : Int) (c_2 : Int) (c_3 : Int) (l : Tp3) : logic_reader_part rc_logic_reader_formula c c_1 c_2 c_3 l = logic_reader_part_B rc_logic_reader_formula (logic_reader_part rc_logic_reader_formula) c c_1 c_2 c_3 l := LFix_eq (logic_reader_part_cn rc_logic_reader_formula) (c, c_1, c_2, c_3, l)
theorem logic_reader_part_ch (rc_logic_reader_formula : Nat → (List UInt8) → Int → Int → Int → Tp3 → Option (((Tr Tp2) × (List UInt8) × Int × Int × Int × Tp3) ⊕ (Int × Int))) (rc_logic_reader_formula' : (List UInt8) → Int → Int → Int → Tp3 → Option (((Tr Tp2) × (List UInt8) × Int × Int × Int × Tp3) ⊕ (Int × Int))) (h_rc_logic_reader_formula : ∀ a0 a1 a2 a3 a4, ChO (fun κ => rc_logic_reader_formula κ a0 a1 a2 a3 a4) (rc_logic_reader_formula' a0 a1 a2 a3 a4))  (c : (List UInt8)) (c_1 : Int) (c_2 : Int) (c_3 : Int) (l : Tp3) : ChO (fun κ => logic_reader_part (rc_logic_reader_formula κ) c c_1 c_2 c_3 l) (logic_reader_part rc_logic_reader_formula' c c_1 c_2 c_3 l) := by
  unfold logic_reader_part
  exact LFix_ch (fun κ => (logic_reader_part_cn (rc_logic_reader_formula κ) ).mono) (logic_reader_part_cn rc_logic_reader_formula' ).mono (fun g h hg x => logic_reader_part_B_ch rc_logic_reader_formula rc_logic_reader_formula' h_rc_logic_reader_formula (fun κ c c_1 c_2 c_3 l => g κ (c, c_1, c_2, c_3, l)) (fun c c_1 c_2 c_3 l => h (c, c_1, c_2, c_3, l)) (fun c c_1 c_2 c_3 l => hg (c, c_1, c_2, c_3, l))  x.1 x.2.1 x.2.2.1 x.2.2.2.1 x.2.2.2.2) _
theorem logic_reader_term_L2_B_ch (rc_logic_reader_formula : Nat → (List UInt8) → Int → Int → Int → Tp3 → Option (((Tr Tp2) × (List UInt8) × Int × Int × Int × Tp3) ⊕ (Int × Int))) (rc_logic_reader_formula' : (List UInt8) → Int → Int → Int → Tp3 → Option (((Tr Tp2) × (List UInt8) × Int × Int × Int × Tp3) ⊕ (Int × Int))) (h_rc_logic_reader_formula : ∀ a0 a1 a2 a3 a4, ChO (fun κ => rc_logic_reader_formula κ a0 a1 a2 a3 a4) (rc_logic_reader_formula' a0 a1 a2 a3 a4)) (r2 : Nat → (Tr Tp2) → (List UInt8) → Int → Int → Int → Tp3 → Option (((Tr Tp2) × (List UInt8) × Int × Int × Int × Tp3) ⊕ (Int × Int))) (r2' : (Tr Tp2) → (List UInt8) → Int → Int → Int → Tp3 → Option (((Tr Tp2) × (List UInt8) × Int × Int × Int × Tp3) ⊕ (Int × Int))) (h_r2 : ∀ a0 a1 a2 a3 a4 a5, ChO (fun κ => r2 κ a0 a1 a2 a3 a4 a5) (r2' a0 a1 a2 a3 a4 a5)) (n : (Tr Tp2)) (r : (List UInt8)) (r_1 : Int) (r_2 : Int) (r_3 : Int) (l_1 : Tp3) : ChO (fun κ => logic_reader_term_L2_B (rc_logic_reader_formula κ) (r2 κ) n r r_1 r_2 r_3 l_1) (logic_reader_term_L2_B rc_logic_reader_formula' r2' n r r_1 r_2 r_3 l_1) := by
  unfold logic_reader_term_L2_B
  repeat' with_reducible first | exact ChO.const _ | exact h_rc_logic_reader_formula _ _ _ _ _ | exact h_r2 _ _ _ _ _ _ | (apply logic_reader_part_J8_ch <;> assumption) | (apply logic_reader_part_J28_ch <;> assumption) | (apply logic_reader_part_J24_ch <;> assumption) | (apply logic_reader_part_J23_ch <;> assumption) | (apply logic_reader_part_J19_ch <;> assumption) | (apply logic_reader_part_J17_ch <;> assumption) | (apply logic_reader_part_ch <;> assumption) | apply ChO.ite | apply ChO.G | apply ChO.both | apply ChO.bothS | (apply ChO.bind; intro _) | (apply ChO.bind2 (h_rc_logic_reader_formula _ _ _ _ _); intro _) | (refine ChO.bind2 ?_ (fun _ => ?_)) | (refine ChO.pbind (fun _ => ?_) (fun _ => ?_)) | (refine ChO.pbind2 ?_ (fun _ => ?_) (fun _ => ?_))
theorem logic_reader_term_L2_cn (rc_logic_reader_formula : (List UInt8) → Int → Int → Int → Tp3 → Option (((Tr Tp2) × (List UInt8) × Int × Int × Int × Tp3) ⊕ (Int × Int)))  : Cn (logic_reader_term_L2_F rc_logic_reader_formula) := fun g h hg x => logic_reader_term_L2_B_ch (fun _ => rc_logic_reader_formula) rc_logic_reader_formula (fun _ _ _ _ _ => ChO.const _) (fun κ n r r_1 r_2 r_3 l_1 => g κ (n, r, r_1, r_2, r_3, l_1)) (fun n r r_1 r_2 r_3 l_1 => h (n, r, r_1, r_2, r_3, l_1)) (fun n r r_1 r_2 r_3 l_1 => hg (n, r, r_1, r_2, r_3, l_1))  x.1 x.2.1 x.2.2.1 x.2.2.2.1 x.2.2.2.2.1 x.2.2.2.2.2
theorem logic_reader_term_L2_eq (rc_logic_reader_formula : (List UInt8) → Int → Int → Int → Tp3 → Option (((Tr Tp2) × (List UInt8) × Int × Int × Int × Tp3) ⊕ (Int × Int)))  (n : (Tr Tp2)) (r : (List UInt8)) (r_1 : Int) (r_2 : Int) (r_3 : Int) (l_1 : Tp3) : logic_reader_term_L2 rc_logic_reader_formula n r r_1 r_2 r_3 l_1 = logic_reader_term_L2_B rc_logic_reader_formula (logic_reader_term_L2 rc_logic_reader_formula) n r r_1 r_2 r_3 l_1 := LFix_eq (logic_reader_term_L2_cn rc_logic_reader_formula) (n, r, r_1, r_2, r_3, l_1)
theorem logic_reader_term_L2_ch (rc_logic_reader_formula : Nat → (List UInt8) → Int → Int → Int → Tp3 → Option (((Tr Tp2) × (List UInt8) × Int × Int × Int × Tp3) ⊕ (Int × Int))) (rc_logic_reader_formula' : (List UInt8) → Int → Int → Int → Tp3 → Option (((Tr Tp2) × (List UInt8) × Int × Int × Int × Tp3) ⊕ (Int × Int))) (h_rc_logic_reader_formula : ∀ a0 a1 a2 a3 a4, ChO (fun κ => rc_logic_reader_formula κ a0 a1 a2 a3 a4) (rc_logic_reader_formula' a0 a1 a2 a3 a4))  (n : (Tr Tp2)) (r : (List UInt8)) (r_1 : Int) (r_2 : Int) (r_3 : Int) (l_1 : Tp3) : ChO (fun κ => logic_reader_term_L2 (rc_logic_reader_formula κ) n r r_1 r_2 r_3 l_1) (logic_reader_term_L2 rc_logic_reader_formula' n r r_1 r_2 r_3 l_1) := by
  unfold logic_reader_term_L2
  exact LFix_ch (fun κ => (logic_reader_term_L2_cn (rc_logic_reader_formula κ) ).mono) (logic_reader_term_L2_cn rc_logic_reader_formula' ).mono (fun g h hg x => logic_reader_term_L2_B_ch rc_logic_reader_formula rc_logic_reader_formula' h_rc_logic_reader_formula (fun κ n r r_1 r_2 r_3 l_1 => g κ (n, r, r_1, r_2, r_3, l_1)) (fun n r r_1 r_2 r_3 l_1 => h (n, r, r_1, r_2, r_3, l_1)) (fun n r r_1 r_2 r_3 l_1 => hg (n, r, r_1, r_2, r_3, l_1))  x.1 x.2.1 x.2.2.1 x.2.2.2.1 x.2.2.2.2.1 x.2.2.2.2.2) _
theorem logic_reader_term_ch (rc_logic_reader_formula : Nat → (List UInt8) → Int → Int → Int → Tp3 → Option (((Tr Tp2) × (List UInt8) × Int × Int × Int × Tp3) ⊕ (Int × Int))) (rc_logic_reader_formula' : (List UInt8) → Int → Int → Int → Tp3 → Option (((Tr Tp2) × (List UInt8) × Int × Int × Int × Tp3) ⊕ (Int × Int))) (h_rc_logic_reader_formula : ∀ a0 a1 a2 a3 a4, ChO (fun κ => rc_logic_reader_formula κ a0 a1 a2 a3 a4) (rc_logic_reader_formula' a0 a1 a2 a3 a4)) (c : (List UInt8)) (c_1 : Int) (c_2 : Int) (c_3 : Int) (l : Tp3) : ChO (fun κ => logic_reader_term (rc_logic_reader_formula κ) c c_1 c_2 c_3 l) (logic_reader_term rc_logic_reader_formula' c c_1 c_2 c_3 l) := by
  unfold logic_reader_term
  repeat' with_reducible first | exact ChO.const _ | exact h_rc_logic_reader_formula _ _ _ _ _ | (apply logic_reader_part_J8_ch <;> assumption) | (apply logic_reader_part_J28_ch <;> assumption) | (apply logic_reader_part_J24_ch <;> assumption) | (apply logic_reader_part_J23_ch <;> assumption) | (apply logic_reader_part_J19_ch <;> assumption) | (apply logic_reader_part_J17_ch <;> assumption) | (apply logic_reader_part_ch <;> assumption) | (apply logic_reader_term_L2_ch <;> assumption) | apply ChO.ite | apply ChO.G | apply ChO.both | apply ChO.bothS | (apply ChO.bind; intro _) | (apply ChO.bind2 (h_rc_logic_reader_formula _ _ _ _ _); intro _) | (refine ChO.bind2 ?_ (fun _ => ?_)) | (refine ChO.pbind (fun _ => ?_) (fun _ => ?_)) | (refine ChO.pbind2 ?_ (fun _ => ?_) (fun _ => ?_))
theorem logic_reader_formula_L2_B_ch (rc_logic_reader_formula : Nat → (List UInt8) → Int → Int → Int → Tp3 → Option (((Tr Tp2) × (List UInt8) × Int × Int × Int × Tp3) ⊕ (Int × Int))) (rc_logic_reader_formula' : (List UInt8) → Int → Int → Int → Tp3 → Option (((Tr Tp2) × (List UInt8) × Int × Int × Int × Tp3) ⊕ (Int × Int))) (h_rc_logic_reader_formula : ∀ a0 a1 a2 a3 a4, ChO (fun κ => rc_logic_reader_formula κ a0 a1 a2 a3 a4) (rc_logic_reader_formula' a0 a1 a2 a3 a4)) (r2 : Nat → (Tr Tp2) → (List UInt8) → Int → Int → Int → Tp3 → Option (((Tr Tp2) × (List UInt8) × Int × Int × Int × Tp3) ⊕ (Int × Int))) (r2' : (Tr Tp2) → (List UInt8) → Int → Int → Int → Tp3 → Option (((Tr Tp2) × (List UInt8) × Int × Int × Int × Tp3) ⊕ (Int × Int))) (h_r2 : ∀ a0 a1 a2 a3 a4 a5, ChO (fun κ => r2 κ a0 a1 a2 a3 a4 a5) (r2' a0 a1 a2 a3 a4 a5)) (n : (Tr Tp2)) (r : (List UInt8)) (r_1 : Int) (r_2 : Int) (r_3 : Int) (l_1 : Tp3) : ChO (fun κ => logic_reader_formula_L2_B (rc_logic_reader_formula κ) (r2 κ) n r r_1 r_2 r_3 l_1) (logic_reader_formula_L2_B rc_logic_reader_formula' r2' n r r_1 r_2 r_3 l_1) := by
  unfold logic_reader_formula_L2_B
  repeat' with_reducible first | exact ChO.const _ | exact h_rc_logic_reader_formula _ _ _ _ _ | exact h_r2 _ _ _ _ _ _ | (apply logic_reader_part_J8_ch <;> assumption) | (apply logic_reader_part_J28_ch <;> assumption) | (apply logic_reader_part_J24_ch <;> assumption) | (apply logic_reader_part_J23_ch <;> assumption) | (apply logic_reader_part_J19_ch <;> assumption) | (apply logic_reader_part_J17_ch <;> assumption) | (apply logic_reader_part_ch <;> assumption) | (apply logic_reader_term_L2_ch <;> assumption) | (apply logic_reader_term_ch <;> assumption) | apply ChO.ite | apply ChO.G | apply ChO.both | apply ChO.bothS | (apply ChO.bind; intro _) | (apply ChO.bind2 (h_rc_logic_reader_formula _ _ _ _ _); intro _) | (refine ChO.bind2 ?_ (fun _ => ?_)) | (refine ChO.pbind (fun _ => ?_) (fun _ => ?_)) | (refine ChO.pbind2 ?_ (fun _ => ?_) (fun _ => ?_))
theorem logic_reader_formula_L2_cn (rc_logic_reader_formula : (List UInt8) → Int → Int → Int → Tp3 → Option (((Tr Tp2) × (List UInt8) × Int × Int × Int × Tp3) ⊕ (Int × Int)))  : Cn (logic_reader_formula_L2_F rc_logic_reader_formula) := fun g h hg x => logic_reader_formula_L2_B_ch (fun _ => rc_logic_reader_formula) rc_logic_reader_formula (fun _ _ _ _ _ => ChO.const _) (fun κ n r r_1 r_2 r_3 l_1 => g κ (n, r, r_1, r_2, r_3, l_1)) (fun n r r_1 r_2 r_3 l_1 => h (n, r, r_1, r_2, r_3, l_1)) (fun n r r_1 r_2 r_3 l_1 => hg (n, r, r_1, r_2, r_3, l_1))  x.1 x.2.1 x.2.2.1 x.2.2.2.1 x.2.2.2.2.1 x.2.2.2.2.2
theorem logic_reader_formula_L2_eq (rc_logic_reader_formula : (List UInt8) → Int → Int → Int → Tp3 → Option (((Tr Tp2) × (List UInt8) × Int × Int × Int × Tp3) ⊕ (Int × Int)))  (n : (Tr Tp2)) (r : (List UInt8)) (r_1 : Int) (r_2 : Int) (r_3 : Int) (l_1 : Tp3) : logic_reader_formula_L2 rc_logic_reader_formula n r r_1 r_2 r_3 l_1 = logic_reader_formula_L2_B rc_logic_reader_formula (logic_reader_formula_L2 rc_logic_reader_formula) n r r_1 r_2 r_3 l_1 := LFix_eq (logic_reader_formula_L2_cn rc_logic_reader_formula) (n, r, r_1, r_2, r_3, l_1)
theorem logic_reader_formula_L2_ch (rc_logic_reader_formula : Nat → (List UInt8) → Int → Int → Int → Tp3 → Option (((Tr Tp2) × (List UInt8) × Int × Int × Int × Tp3) ⊕ (Int × Int))) (rc_logic_reader_formula' : (List UInt8) → Int → Int → Int → Tp3 → Option (((Tr Tp2) × (List UInt8) × Int × Int × Int × Tp3) ⊕ (Int × Int))) (h_rc_logic_reader_formula : ∀ a0 a1 a2 a3 a4, ChO (fun κ => rc_logic_reader_formula κ a0 a1 a2 a3 a4) (rc_logic_reader_formula' a0 a1 a2 a3 a4))  (n : (Tr Tp2)) (r : (List UInt8)) (r_1 : Int) (r_2 : Int) (r_3 : Int) (l_1 : Tp3) : ChO (fun κ => logic_reader_formula_L2 (rc_logic_reader_formula κ) n r r_1 r_2 r_3 l_1) (logic_reader_formula_L2 rc_logic_reader_formula' n r r_1 r_2 r_3 l_1) := by
  unfold logic_reader_formula_L2
  exact LFix_ch (fun κ => (logic_reader_formula_L2_cn (rc_logic_reader_formula κ) ).mono) (logic_reader_formula_L2_cn rc_logic_reader_formula' ).mono (fun g h hg x => logic_reader_formula_L2_B_ch rc_logic_reader_formula rc_logic_reader_formula' h_rc_logic_reader_formula (fun κ n r r_1 r_2 r_3 l_1 => g κ (n, r, r_1, r_2, r_3, l_1)) (fun n r r_1 r_2 r_3 l_1 => h (n, r, r_1, r_2, r_3, l_1)) (fun n r r_1 r_2 r_3 l_1 => hg (n, r, r_1, r_2, r_3, l_1))  x.1 x.2.1 x.2.2.1 x.2.2.2.1 x.2.2.2.2.1 x.2.2.2.2.2) _
theorem logic_reader_formula_B_ch (rc_logic_reader_formula : Nat → (List UInt8) → Int → Int → Int → Tp3 → Option (((Tr Tp2) × (List UInt8) × Int × Int × Int × Tp3) ⊕ (Int × Int))) (rc_logic_reader_formula' : (List UInt8) → Int → Int → Int → Tp3 → Option (((Tr Tp2) × (List UInt8) × Int × Int × Int × Tp3) ⊕ (Int × Int))) (h_rc_logic_reader_formula : ∀ a0 a1 a2 a3 a4, ChO (fun κ => rc_logic_reader_formula κ a0 a1 a2 a3 a4) (rc_logic_reader_formula' a0 a1 a2 a3 a4)) (c : (List UInt8)) (c_1 : Int) (c_2 : Int) (c_3 : Int) (l : Tp3) : ChO (fun κ => logic_reader_formula_B (rc_logic_reader_formula κ) c c_1 c_2 c_3 l) (logic_reader_formula_B rc_logic_reader_formula' c c_1 c_2 c_3 l) := by
  unfold logic_reader_formula_B
  repeat' with_reducible first | exact ChO.const _ | exact h_rc_logic_reader_formula _ _ _ _ _ | (apply logic_reader_part_J8_ch <;> assumption) | (apply logic_reader_part_J28_ch <;> assumption) | (apply logic_reader_part_J24_ch <;> assumption) | (apply logic_reader_part_J23_ch <;> assumption) | (apply logic_reader_part_J19_ch <;> assumption) | (apply logic_reader_part_J17_ch <;> assumption) | (apply logic_reader_part_ch <;> assumption) | (apply logic_reader_term_L2_ch <;> assumption) | (apply logic_reader_term_ch <;> assumption) | (apply logic_reader_formula_L2_ch <;> assumption) | apply ChO.ite | apply ChO.G | apply ChO.both | apply ChO.bothS | (apply ChO.bind; intro _) | (apply ChO.bind2 (h_rc_logic_reader_formula _ _ _ _ _); intro _) | (refine ChO.bind2 ?_ (fun _ => ?_)) | (refine ChO.pbind (fun _ => ?_) (fun _ => ?_)) | (refine ChO.pbind2 ?_ (fun _ => ?_) (fun _ => ?_))
noncomputable def logic_reader_formula_F : ((List UInt8) × Int × Int × Int × Tp3 → Option (((Tr Tp2) × (List UInt8) × Int × Int × Int × Tp3) ⊕ (Int × Int))) → (List UInt8) × Int × Int × Int × Tp3 → Option (((Tr Tp2) × (List UInt8) × Int × Int × Int × Tp3) ⊕ (Int × Int)) :=
  fun rec X => logic_reader_formula_B (fun c c_1 c_2 c_3 l => rec (c, c_1, c_2, c_3, l)) X.1 X.2.1 X.2.2.1 X.2.2.2.1 X.2.2.2.2
noncomputable def logic_reader_formula (c : (List UInt8)) (c_1 : Int) (c_2 : Int) (c_3 : Int) (l : Tp3) : Option (((Tr Tp2) × (List UInt8) × Int × Int × Int × Tp3) ⊕ (Int × Int)) := LFix logic_reader_formula_F (c, c_1, c_2, c_3, l)
theorem logic_reader_formula_cn : Cn logic_reader_formula_F := fun g h hg X => logic_reader_formula_B_ch _ _ (fun c c_1 c_2 c_3 l => hg (c, c_1, c_2, c_3, l)) X.1 X.2.1 X.2.2.1 X.2.2.2.1 X.2.2.2.2
theorem logic_reader_formula_eq (c : (List UInt8)) (c_1 : Int) (c_2 : Int) (c_3 : Int) (l : Tp3) : logic_reader_formula c c_1 c_2 c_3 l = logic_reader_formula_B logic_reader_formula c c_1 c_2 c_3 l := LFix_eq logic_reader_formula_cn (c, c_1, c_2, c_3, l)
noncomputable def logic_reader_part_c (c : (List UInt8)) (c_1 : Int) (c_2 : Int) (c_3 : Int) (l : Tp3) : Option (((Tr Tp2) × (List UInt8) × Int × Int × Int × Tp3) ⊕ (Int × Int)) := logic_reader_part logic_reader_formula c c_1 c_2 c_3 l
noncomputable def logic_reader_term_c (c : (List UInt8)) (c_1 : Int) (c_2 : Int) (c_3 : Int) (l : Tp3) : Option (((Tr Tp2) × (List UInt8) × Int × Int × Int × Tp3) ⊕ (Int × Int)) := logic_reader_term logic_reader_formula c c_1 c_2 c_3 l

noncomputable def logic_parsed (text : (List UInt8)) : Option ((Tr Tp2) × Int × Int × Unit) :=
  if (decide ((4000 : Int) < (text.length : Int))) = true then
  some (Tr.nil, ((1 : Int), ((0 : Int), ()))) else
  pbind (logic_reader_formula text (0 : Int) (0 : Int) (0 : Int) ([] : List Int)) (fun y'_6 =>
  if (decide (y'_6.2.2.1 < (text.length : Int))) = true then
  pbind (logic_reader_fail (y'_6.2.1, (y'_6.2.2.1, (y'_6.2.2.2.1, (y'_6.2.2.2.2.1, (y'_6.2.2.2.2.2, ()))))) (4 : Int) y'_6.2.2.1) (fun _ =>
  some (y'_6.1, ((0 : Int), ((0 : Int), ())))) (fun p => some (Tr.nil, (p.1, (p.2, ())))) else
  some (y'_6.1, ((0 : Int), ((0 : Int), ())))) (fun p => some (Tr.nil, (p.1, (p.2, ()))))

noncomputable def word_May_L6_B (letters : Int) (w : Tp3) (r6 : Int → Option (Int)) (t : Int) : Option (Int) :=
  if (decide (t < (w.length : Int))) = true then
  G (0 ≤ t ∧ t < (w.length : Int)) (
  if (decide ((ix w t) < (0 : Int))) = true then
  some (2 : Int) else
  if (decide (letters ≤ (ix w t))) = true then
  some (2 : Int) else
  G (fits (t + (1 : Int))) (
  r6 (t + (1 : Int)))) else
  some (0 : Int)
noncomputable def word_May_L6_F (letters : Int) (w : Tp3) : (Int → Option (Int)) → Int → Option (Int) :=
  fun rec x => word_May_L6_B letters w (fun t => rec t) x
noncomputable def word_May_L6 (letters : Int) (w : Tp3) (t : Int) : Option (Int) := LFix (word_May_L6_F letters w ) t
noncomputable def word_May (letters : Int) (w : Tp3) : Option (Int) :=
  if (decide (letters < (1 : Int))) = true then
  some (2 : Int) else
  if (decide ((4 : Int) < letters)) = true then
  some (2 : Int) else
  if (decide ((60 : Int) < (w.length : Int))) = true then
  some (1 : Int) else
  word_May_L6 letters w (0 : Int)
theorem word_May_L6_B_ch (r6 : Nat → Int → Option (Int)) (r6' : Int → Option (Int)) (h_r6 : ∀ a0, ChO (fun κ => r6 κ a0) (r6' a0)) (letters : Int) (w : Tp3) (t : Int) : ChO (fun κ => word_May_L6_B letters w (r6 κ) t) (word_May_L6_B letters w r6' t) := by
  unfold word_May_L6_B
  repeat' with_reducible first | exact ChO.const _ | exact h_r6 _ | apply ChO.ite | apply ChO.G | apply ChO.both | (apply ChO.bind; intro _)
theorem word_May_L6_cn  (letters : Int) (w : Tp3) : Cn (word_May_L6_F letters w) := fun g h hg x => word_May_L6_B_ch  (fun κ t => g κ t) (fun t => h t) (fun t => hg t) letters w x
theorem word_May_L6_eq  (letters : Int) (w : Tp3) (t : Int) : word_May_L6 letters w t = word_May_L6_B letters w (word_May_L6 letters w) t := LFix_eq (word_May_L6_cn letters w) t

noncomputable def logic_node_holds_L22_B (rc_logic_node_holds : (Tr Tp2) → Tp3 → Tp3 → Option (Bool)) (n : (Tr Tp2)) (w : Tp3) (is' : Tp3) (all' : Int) (r22 : Int → Option (Bool)) (t : Int) : Option (Bool) :=
  if (decide (t < all')) = true then
  G (n.isMk = true) (
  G (n.isMk = true) (
  G (0 ≤ (0 : Int) ∧ (0 : Int) < (n.kids.length : Int)) (
  G ((is'.length : Int) = (is'.length : Int) ∧ 0 ≤ (is'.length : Int) ∧ (is'.length : Int) ≤ (is'.length : Int)) (
  G (0 < ([t]).length ∧ room (cut is' (0 : Int) (is'.length : Int)) ([t]) 8) (
  (rc_logic_node_holds (ix n.kids (0 : Int)) w ((cut is' (0 : Int) (is'.length : Int)) ++ ([t]))).bind (fun y'_5 =>
  if (decide (y'_5 = (decide (((n.val (0, (0, (0, (0, (false, ())))))).1) = (8 : Int))))) = true then
  G (n.isMk = true) (
  some (decide (((n.val (0, (0, (0, (0, (false, ())))))).1) = (8 : Int)))) else
  G (fits (t + (1 : Int))) (
  r22 (t + (1 : Int))))))))) else
  G (n.isMk = true) (
  some (decide (((n.val (0, (0, (0, (0, (false, ())))))).1) = (9 : Int))))
noncomputable def logic_node_holds_L22_F (rc_logic_node_holds : (Tr Tp2) → Tp3 → Tp3 → Option (Bool)) (n : (Tr Tp2)) (w : Tp3) (is' : Tp3) (all' : Int) : (Int → Option (Bool)) → Int → Option (Bool) :=
  fun rec x => logic_node_holds_L22_B rc_logic_node_holds n w is' all' (fun t => rec t) x
noncomputable def logic_node_holds_L22 (rc_logic_node_holds : (Tr Tp2) → Tp3 → Tp3 → Option (Bool)) (n : (Tr Tp2)) (w : Tp3) (is' : Tp3) (all' : Int) (t : Int) : Option (Bool) := LFix (logic_node_holds_L22_F rc_logic_node_holds n w is' all' ) t
noncomputable def logic_node_holds_J20 (rc_logic_node_holds : (Tr Tp2) → Tp3 → Tp3 → Option (Bool)) (n : (Tr Tp2)) (w : Tp3) (is' : Tp3) (all' : Int) : Option (Bool) :=
  logic_node_holds_L22 rc_logic_node_holds n w is' all' (0 : Int)
noncomputable def logic_node_holds_B (rc_logic_node_holds : (Tr Tp2) → Tp3 → Tp3 → Option (Bool)) (n : (Tr Tp2)) (w : Tp3) (is' : Tp3) : Option (Bool) :=
  G (n.isMk = true) (
  if (decide (((n.val (0, (0, (0, (0, (false, ())))))).1) = (0 : Int))) = true then
  G (n.isMk = true) (
  G (0 ≤ (n.val (0, (0, (0, (0, (false, ())))))).2.2.1 ∧ (n.val (0, (0, (0, (0, (false, ())))))).2.2.1 < (is'.length : Int)) (
  G (0 ≤ ix is' ((n.val (0, (0, (0, (0, (false, ())))))).2.2.1) ∧ ix is' ((n.val (0, (0, (0, (0, (false, ())))))).2.2.1) < (w.length : Int)) (
  G (n.isMk = true) (
  some (decide ((ix w (ix is' ((n.val (0, (0, (0, (0, (false, ())))))).2.2.1))) = ((n.val (0, (0, (0, (0, (false, ())))))).2.1))))))) else
  if (decide (((n.val (0, (0, (0, (0, (false, ())))))).1) = (1 : Int))) = true then
  G (n.isMk = true) (
  G (0 ≤ (n.val (0, (0, (0, (0, (false, ())))))).2.2.1 ∧ (n.val (0, (0, (0, (0, (false, ())))))).2.2.1 < (is'.length : Int)) (
  G (n.isMk = true) (
  G (0 ≤ (n.val (0, (0, (0, (0, (false, ())))))).2.2.2.1 ∧ (n.val (0, (0, (0, (0, (false, ())))))).2.2.2.1 < (is'.length : Int)) (
  some (decide ((ix is' ((n.val (0, (0, (0, (0, (false, ())))))).2.2.1)) < (ix is' ((n.val (0, (0, (0, (0, (false, ())))))).2.2.2.1)))))))) else
  if (decide (((n.val (0, (0, (0, (0, (false, ())))))).1) = (2 : Int))) = true then
  G (n.isMk = true) (
  G (0 ≤ (n.val (0, (0, (0, (0, (false, ())))))).2.2.1 ∧ (n.val (0, (0, (0, (0, (false, ())))))).2.2.1 < (is'.length : Int)) (
  G (n.isMk = true) (
  G (0 ≤ (n.val (0, (0, (0, (0, (false, ())))))).2.2.2.1 ∧ (n.val (0, (0, (0, (0, (false, ())))))).2.2.2.1 < (is'.length : Int)) (
  some (decide ((ix is' ((n.val (0, (0, (0, (0, (false, ())))))).2.2.1)) = (ix is' ((n.val (0, (0, (0, (0, (false, ())))))).2.2.2.1)))))))) else
  if (decide (((n.val (0, (0, (0, (0, (false, ())))))).1) = (3 : Int))) = true then
  G (n.isMk = true) (
  G (0 ≤ (n.val (0, (0, (0, (0, (false, ())))))).2.2.2.1 ∧ (n.val (0, (0, (0, (0, (false, ())))))).2.2.2.1 < (is'.length : Int)) (
  G (n.isMk = true) (
  G (0 ≤ (n.val (0, (0, (0, (0, (false, ())))))).2.2.1 ∧ (n.val (0, (0, (0, (0, (false, ())))))).2.2.1 < (is'.length : Int)) (
  G (fits ((ix is' ((n.val (0, (0, (0, (0, (false, ())))))).2.2.1)) + (1 : Int))) (
  some (decide ((ix is' ((n.val (0, (0, (0, (0, (false, ())))))).2.2.2.1)) = ((ix is' ((n.val (0, (0, (0, (0, (false, ())))))).2.2.1)) + (1 : Int))))))))) else
  if (decide (((n.val (0, (0, (0, (0, (false, ())))))).1) = (4 : Int))) = true then
  G (n.isMk = true) (
  G (0 ≤ (n.val (0, (0, (0, (0, (false, ())))))).2.2.2.1 ∧ (n.val (0, (0, (0, (0, (false, ())))))).2.2.2.1 < (is'.length : Int)) (
  G (n.isMk = true) (
  G (0 ≤ (n.val (0, (0, (0, (0, (false, ())))))).2.2.1 ∧ (n.val (0, (0, (0, (0, (false, ())))))).2.2.1 < (is'.length : Int)) (
  G (0 ≤ ix is' ((n.val (0, (0, (0, (0, (false, ())))))).2.2.1)) (
  some (decide ((iand .i64 (ishr .i64 (ix is' ((n.val (0, (0, (0, (0, (false, ())))))).2.2.2.1)) (ix is' ((n.val (0, (0, (0, (0, (false, ())))))).2.2.1))) (1 : Int)) = (1 : Int)))))))) else
  if (decide (((n.val (0, (0, (0, (0, (false, ())))))).1) = (5 : Int))) = true then
  G (n.isMk = true) (
  G (0 ≤ (0 : Int) ∧ (0 : Int) < (n.kids.length : Int)) (
  (rc_logic_node_holds (ix n.kids (0 : Int)) w is').bind (fun y' =>
  some (!y')))) else
  if (decide (((n.val (0, (0, (0, (0, (false, ())))))).1) = (6 : Int))) = true then
  G (n.isMk = true) (
  G (0 ≤ (0 : Int) ∧ (0 : Int) < (n.kids.length : Int)) (
  (rc_logic_node_holds (ix n.kids (0 : Int)) w is').bind (fun y'_1 =>
  if y'_1 = true then
  G (n.isMk = true) (
  G (0 ≤ (1 : Int) ∧ (1 : Int) < (n.kids.length : Int)) (
  (rc_logic_node_holds (ix n.kids (1 : Int)) w is').bind (fun y'_2 =>
  some y'_2))) else
  some false))) else
  if (decide (((n.val (0, (0, (0, (0, (false, ())))))).1) = (7 : Int))) = true then
  G (n.isMk = true) (
  G (0 ≤ (0 : Int) ∧ (0 : Int) < (n.kids.length : Int)) (
  (rc_logic_node_holds (ix n.kids (0 : Int)) w is').bind (fun y'_3 =>
  if y'_3 = true then
  some true else
  G (n.isMk = true) (
  G (0 ≤ (1 : Int) ∧ (1 : Int) < (n.kids.length : Int)) (
  (rc_logic_node_holds (ix n.kids (1 : Int)) w is').bind (fun y'_4 =>
  some y'_4)))))) else
  G (n.isMk = true) (
  if ((n.val (0, (0, (0, (0, (false, ())))))).2.2.2.2.1) = true then
  G (0 ≤ (w.length : Int)) (
  logic_node_holds_J20 rc_logic_node_holds n w is' (ishl .i64 (1 : Int) (w.length : Int))) else
  logic_node_holds_J20 rc_logic_node_holds n w is' (w.length : Int)))
theorem logic_node_holds_L22_B_ch (rc_logic_node_holds : Nat → (Tr Tp2) → Tp3 → Tp3 → Option (Bool)) (rc_logic_node_holds' : (Tr Tp2) → Tp3 → Tp3 → Option (Bool)) (h_rc_logic_node_holds : ∀ a0 a1 a2, ChO (fun κ => rc_logic_node_holds κ a0 a1 a2) (rc_logic_node_holds' a0 a1 a2)) (r22 : Nat → Int → Option (Bool)) (r22' : Int → Option (Bool)) (h_r22 : ∀ a0, ChO (fun κ => r22 κ a0) (r22' a0)) (n : (Tr Tp2)) (w : Tp3) (is' : Tp3) (all' : Int) (t : Int) : ChO (fun κ => logic_node_holds_L22_B (rc_logic_node_holds κ) n w is' all' (r22 κ) t) (logic_node_holds_L22_B rc_logic_node_holds' n w is' all' r22' t) := by
  unfold logic_node_holds_L22_B
  repeat' with_reducible first | exact ChO.const _ | exact h_rc_logic_node_holds _ _ _ | exact h_r22 _ | apply ChO.ite | apply ChO.G | apply ChO.both | (apply ChO.bind; intro _) | (apply ChO.bind2 (h_rc_logic_node_holds _ _ _); intro _)
theorem logic_node_holds_L22_cn (rc_logic_node_holds : (Tr Tp2) → Tp3 → Tp3 → Option (Bool)) (n : (Tr Tp2)) (w : Tp3) (is' : Tp3) (all' : Int) : Cn (logic_node_holds_L22_F rc_logic_node_holds n w is' all') := fun g h hg x => logic_node_holds_L22_B_ch (fun _ => rc_logic_node_holds) rc_logic_node_holds (fun _ _ _ => ChO.const _) (fun κ t => g κ t) (fun t => h t) (fun t => hg t) n w is' all' x
theorem logic_node_holds_L22_eq (rc_logic_node_holds : (Tr Tp2) → Tp3 → Tp3 → Option (Bool)) (n : (Tr Tp2)) (w : Tp3) (is' : Tp3) (all' : Int) (t : Int) : logic_node_holds_L22 rc_logic_node_holds n w is' all' t = logic_node_holds_L22_B rc_logic_node_holds n w is' all' (logic_node_holds_L22 rc_logic_node_holds n w is' all') t := LFix_eq (logic_node_holds_L22_cn rc_logic_node_holds n w is' all') t
theorem logic_node_holds_L22_ch (rc_logic_node_holds : Nat → (Tr Tp2) → Tp3 → Tp3 → Option (Bool)) (rc_logic_node_holds' : (Tr Tp2) → Tp3 → Tp3 → Option (Bool)) (h_rc_logic_node_holds : ∀ a0 a1 a2, ChO (fun κ => rc_logic_node_holds κ a0 a1 a2) (rc_logic_node_holds' a0 a1 a2)) (n : (Tr Tp2)) (w : Tp3) (is' : Tp3) (all' : Int) (t : Int) : ChO (fun κ => logic_node_holds_L22 (rc_logic_node_holds κ) n w is' all' t) (logic_node_holds_L22 rc_logic_node_holds' n w is' all' t) := by
  unfold logic_node_holds_L22
  exact LFix_ch (fun κ => (logic_node_holds_L22_cn (rc_logic_node_holds κ) n w is' all').mono) (logic_node_holds_L22_cn rc_logic_node_holds' n w is' all').mono (fun g h hg x => logic_node_holds_L22_B_ch rc_logic_node_holds rc_logic_node_holds' h_rc_logic_node_holds (fun κ t => g κ t) (fun t => h t) (fun t => hg t) n w is' all' x) _
theorem logic_node_holds_J20_ch (rc_logic_node_holds : Nat → (Tr Tp2) → Tp3 → Tp3 → Option (Bool)) (rc_logic_node_holds' : (Tr Tp2) → Tp3 → Tp3 → Option (Bool)) (h_rc_logic_node_holds : ∀ a0 a1 a2, ChO (fun κ => rc_logic_node_holds κ a0 a1 a2) (rc_logic_node_holds' a0 a1 a2)) (n : (Tr Tp2)) (w : Tp3) (is' : Tp3) (all' : Int) : ChO (fun κ => logic_node_holds_J20 (rc_logic_node_holds κ) n w is' all') (logic_node_holds_J20 rc_logic_node_holds' n w is' all') := by
  unfold logic_node_holds_J20
  repeat' with_reducible first | exact ChO.const _ | exact h_rc_logic_node_holds _ _ _ | (apply logic_node_holds_L22_ch <;> assumption) | apply ChO.ite | apply ChO.G | apply ChO.both | (apply ChO.bind; intro _) | (apply ChO.bind2 (h_rc_logic_node_holds _ _ _); intro _)
theorem logic_node_holds_B_ch (rc_logic_node_holds : Nat → (Tr Tp2) → Tp3 → Tp3 → Option (Bool)) (rc_logic_node_holds' : (Tr Tp2) → Tp3 → Tp3 → Option (Bool)) (h_rc_logic_node_holds : ∀ a0 a1 a2, ChO (fun κ => rc_logic_node_holds κ a0 a1 a2) (rc_logic_node_holds' a0 a1 a2)) (n : (Tr Tp2)) (w : Tp3) (is' : Tp3) : ChO (fun κ => logic_node_holds_B (rc_logic_node_holds κ) n w is') (logic_node_holds_B rc_logic_node_holds' n w is') := by
  unfold logic_node_holds_B
  repeat' with_reducible first | exact ChO.const _ | exact h_rc_logic_node_holds _ _ _ | (apply logic_node_holds_L22_ch <;> assumption) | (apply logic_node_holds_J20_ch <;> assumption) | apply ChO.ite | apply ChO.G | apply ChO.both | (apply ChO.bind; intro _) | (apply ChO.bind2 (h_rc_logic_node_holds _ _ _); intro _)
noncomputable def logic_node_holds_F : ((Tr Tp2) × Tp3 × Tp3 → Option (Bool)) → (Tr Tp2) × Tp3 × Tp3 → Option (Bool) :=
  fun rec X => logic_node_holds_B (fun n w is' => rec (n, w, is')) X.1 X.2.1 X.2.2
noncomputable def logic_node_holds (n : (Tr Tp2)) (w : Tp3) (is' : Tp3) : Option (Bool) := LFix logic_node_holds_F (n, w, is')
theorem logic_node_holds_cn : Cn logic_node_holds_F := fun g h hg X => logic_node_holds_B_ch _ _ (fun n w is' => hg (n, w, is')) X.1 X.2.1 X.2.2
theorem logic_node_holds_eq (n : (Tr Tp2)) (w : Tp3) (is' : Tp3) : logic_node_holds n w is' = logic_node_holds_B logic_node_holds n w is' := LFix_eq logic_node_holds_cn (n, w, is')

noncomputable def logic_Holds (text : (List UInt8)) (w : Tp3) : Option (Bool × Int) :=
  (logic_parsed text).bind (fun y'_5 =>
  if (decide (¬ y'_5.2.1 = (0 : Int))) = true then
  some (false, (4 : Int)) else
  if (decide ((6 : Int) < (w.length : Int))) = true then
  some (false, (1 : Int)) else
  (word_May (2 : Int) w).bind (fun y'_3 =>
  if (decide (¬ y'_3 = (0 : Int))) = true then
  some (false, y'_3) else
  (logic_node_holds y'_5.1 w ([])).bind (fun y'_4 =>
  some (y'_4, (0 : Int)))))

noncomputable def r5_Reader_ok (r : ((List UInt8) × Int × Int × Int × (List UInt8) × Tp1 × (Int × Int × Unit) × Unit)) : Option (Bool) :=
  some (decide (r.2.2.2.2.2.2.1.1 = (0 : Int)))

noncomputable def r5_Reader_now (r : ((List UInt8) × Int × Int × Int × (List UInt8) × Tp1 × (Int × Int × Unit) × Unit)) : Option (Int) :=
  if (decide ((r.1.length : Int) ≤ r.2.1)) = true then
  some (0 : Int) else
  G (0 ≤ r.2.1 ∧ r.2.1 < (r.1.length : Int)) (
  some (bAt r.1 r.2.1))

noncomputable def r5_Reader_fail (code : Int) (at' : Int) (c : (List UInt8)) (c_1 : Int) (c_2 : Int) (c_3 : Int) (c_4 : (List UInt8)) (c_5 : Int) (c_6 : Int) (l : Tp1) : Option ((List UInt8) × Int × Int × Int × (List UInt8) × Tp1 × Int × Int) :=
  if (decide (c_5 = (0 : Int))) = true then
  some (c, c_1, c_2, c_3, c_4, l, code, at') else
  some (c, c_1, c_2, c_3, c_4, l, c_5, c_6)

noncomputable def r5_Reader_counted (at' : Int) (c : (List UInt8)) (c_1 : Int) (c_2 : Int) (c_3 : Int) (c_4 : (List UInt8)) (c_5 : Int) (c_6 : Int) (l : Tp1) : Option ((List UInt8) × Int × Int × Int × (List UInt8) × Tp1 × Int × Int) :=
  G (fits (c_2 + (1 : Int))) (
  if (decide ((30 : Int) < (c_2 + (1 : Int)))) = true then
  (r5_Reader_fail (7 : Int) at' c c_1 (c_2 + (1 : Int)) c_3 c_4 c_5 c_6 l).bind (fun y'_9 =>
  some (y'_9.1, y'_9.2.1, y'_9.2.2.1, y'_9.2.2.2.1, y'_9.2.2.2.2.1, y'_9.2.2.2.2.2.1, y'_9.2.2.2.2.2.2.1, y'_9.2.2.2.2.2.2.2)) else
  some (c, c_1, c_2 + (1 : Int), c_3, c_4, l, c_5, c_6))

noncomputable def r5_Reader_put (n : Tp2) (c : (List UInt8)) (c_1 : Int) (c_2 : Int) (c_3 : Int) (c_4 : (List UInt8)) (c_5 : Int) (c_6 : Int) (l : Tp1) : Option (Int × (List UInt8) × Int × Int × Int × (List UInt8) × Tp1 × Int × Int) :=
  G (room l ([(n.1, (n.2.1, (n.2.2.1, (n.2.2.2.1, (n.2.2.2.2.1, ())))))]) 40) (
  G (fits (((l ++ ([(n.1, (n.2.1, (n.2.2.1, (n.2.2.2.1, (n.2.2.2.2.1, ())))))])).length : Int) - (1 : Int))) (
  some (((l ++ ([(n.1, (n.2.1, (n.2.2.1, (n.2.2.2.1, (n.2.2.2.2.1, ())))))])).length : Int) - (1 : Int), c, c_1, c_2, c_3, c_4, l ++ ([(n.1, (n.2.1, (n.2.2.1, (n.2.2.2.1, (n.2.2.2.2.1, ())))))]), c_5, c_6)))

noncomputable def r5_Reader_known_L3_B (c : (List UInt8)) (c_1 : Int) (c_2 : Int) (c_3 : Int) (c_4 : (List UInt8)) (c_5 : Int) (c_6 : Int) (l : Tp1) (y' : Int) (r3 : Int → Option (Int × (List UInt8) × Int × Int × Int × (List UInt8) × Tp1 × Int × Int)) (k : Int) : Option (Int × (List UInt8) × Int × Int × Int × (List UInt8) × Tp1 × Int × Int) :=
  if (decide ((0 : Int) ≤ k)) = true then
  G (0 ≤ k ∧ k < (c_4.length : Int)) (
  if (decide ((bAt c_4 k) = y')) = true then
  G (fits (c_1 + (1 : Int))) (
  some (k, c, c_1 + (1 : Int), c_2, c_3, c_4, l, c_5, c_6)) else
  G (fits (k - (1 : Int))) (
  r3 (k - (1 : Int)))) else
  (r5_Reader_fail (5 : Int) c_1 c c_1 c_2 c_3 c_4 c_5 c_6 l).bind (fun y'_10 =>
  some ((0 : Int), y'_10.1, y'_10.2.1, y'_10.2.2.1, y'_10.2.2.2.1, y'_10.2.2.2.2.1, y'_10.2.2.2.2.2.1, y'_10.2.2.2.2.2.2.1, y'_10.2.2.2.2.2.2.2))
noncomputable def r5_Reader_known_L3_F (c : (List UInt8)) (c_1 : Int) (c_2 : Int) (c_3 : Int) (c_4 : (List UInt8)) (c_5 : Int) (c_6 : Int) (l : Tp1) (y' : Int) : (Int → Option (Int × (List UInt8) × Int × Int × Int × (List UInt8) × Tp1 × Int × Int)) → Int → Option (Int × (List UInt8) × Int × Int × Int × (List UInt8) × Tp1 × Int × Int) :=
  fun rec x => r5_Reader_known_L3_B c c_1 c_2 c_3 c_4 c_5 c_6 l y' (fun k => rec k) x
noncomputable def r5_Reader_known_L3 (c : (List UInt8)) (c_1 : Int) (c_2 : Int) (c_3 : Int) (c_4 : (List UInt8)) (c_5 : Int) (c_6 : Int) (l : Tp1) (y' : Int) (k : Int) : Option (Int × (List UInt8) × Int × Int × Int × (List UInt8) × Tp1 × Int × Int) := LFix (r5_Reader_known_L3_F c c_1 c_2 c_3 c_4 c_5 c_6 l y' ) k
noncomputable def r5_Reader_known (c : (List UInt8)) (c_1 : Int) (c_2 : Int) (c_3 : Int) (c_4 : (List UInt8)) (c_5 : Int) (c_6 : Int) (l : Tp1) : Option (Int × (List UInt8) × Int × Int × Int × (List UInt8) × Tp1 × Int × Int) :=
  (r5_Reader_now (c, (c_1, (c_2, (c_3, (c_4, (l, ((c_5, (c_6, ())), ())))))))).bind (fun y' =>
  G (fits ((c_4.length : Int) - (1 : Int))) (
  r5_Reader_known_L3 c c_1 c_2 c_3 c_4 c_5 c_6 l y' ((c_4.length : Int) - (1 : Int))))
theorem r5_Reader_known_L3_B_ch (r3 : Nat → Int → Option (Int × (List UInt8) × Int × Int × Int × (List UInt8) × Tp1 × Int × Int)) (r3' : Int → Option (Int × (List UInt8) × Int × Int × Int × (List UInt8) × Tp1 × Int × Int)) (h_r3 : ∀ a0, ChO (fun κ => r3 κ a0) (r3' a0)) (c : (List UInt8)) (c_1 : Int) (c_2 : Int) (c_3 : Int) (c_4 : (List UInt8)) (c_5 : Int) (c_6 : Int) (l : Tp1) (y' : Int) (k : Int) : ChO (fun κ => r5_Reader_known_L3_B c c_1 c_2 c_3 c_4 c_5 c_6 l y' (r3 κ) k) (r5_Reader_known_L3_B c c_1 c_2 c_3 c_4 c_5 c_6 l y' r3' k) := by
  unfold r5_Reader_known_L3_B
  repeat' with_reducible first | exact ChO.const _ | exact h_r3 _ | apply ChO.ite | apply ChO.G | apply ChO.both | (apply ChO.bind; intro _)
theorem r5_Reader_known_L3_cn  (c : (List UInt8)) (c_1 : Int) (c_2 : Int) (c_3 : Int) (c_4 : (List UInt8)) (c_5 : Int) (c_6 : Int) (l : Tp1) (y' : Int) : Cn (r5_Reader_known_L3_F c c_1 c_2 c_3 c_4 c_5 c_6 l y') := fun g h hg x => r5_Reader_known_L3_B_ch  (fun κ k => g κ k) (fun k => h k) (fun k => hg k) c c_1 c_2 c_3 c_4 c_5 c_6 l y' x
theorem r5_Reader_known_L3_eq  (c : (List UInt8)) (c_1 : Int) (c_2 : Int) (c_3 : Int) (c_4 : (List UInt8)) (c_5 : Int) (c_6 : Int) (l : Tp1) (y' : Int) (k : Int) : r5_Reader_known_L3 c c_1 c_2 c_3 c_4 c_5 c_6 l y' k = r5_Reader_known_L3_B c c_1 c_2 c_3 c_4 c_5 c_6 l y' (r5_Reader_known_L3 c c_1 c_2 c_3 c_4 c_5 c_6 l y') k := LFix_eq (r5_Reader_known_L3_cn c c_1 c_2 c_3 c_4 c_5 c_6 l y') k

noncomputable def r5_Reader_place_J5 (c : (List UInt8)) (c_1 : Int) (c_2 : Int) (c_3 : Int) (c_4 : (List UInt8)) (c_5 : Int) (c_6 : Int) (l : Tp1) (t : Bool) : Option (Int × (List UInt8) × Int × Int × Int × (List UInt8) × Tp1 × Int × Int) :=
  if t = true then
  (r5_Reader_fail (4 : Int) c_1 c c_1 c_2 c_3 c_4 c_5 c_6 l).bind (fun y'_11 =>
  some ((0 : Int), y'_11.1, y'_11.2.1, y'_11.2.2.1, y'_11.2.2.2.1, y'_11.2.2.2.2.1, y'_11.2.2.2.2.2.1, y'_11.2.2.2.2.2.2.1, y'_11.2.2.2.2.2.2.2)) else
  (r5_Reader_known c c_1 c_2 c_3 c_4 c_5 c_6 l).bind (fun y'_22 =>
  some (y'_22.1, y'_22.2.1, y'_22.2.2.1, y'_22.2.2.2.1, y'_22.2.2.2.2.1, y'_22.2.2.2.2.2.1, y'_22.2.2.2.2.2.2.1, y'_22.2.2.2.2.2.2.2.1, y'_22.2.2.2.2.2.2.2.2))
noncomputable def r5_Reader_place (c : (List UInt8)) (c_1 : Int) (c_2 : Int) (c_3 : Int) (c_4 : (List UInt8)) (c_5 : Int) (c_6 : Int) (l : Tp1) : Option (Int × (List UInt8) × Int × Int × Int × (List UInt8) × Tp1 × Int × Int) :=
  (r5_Reader_ok (c, (c_1, (c_2, (c_3, (c_4, (l, ((c_5, (c_6, ())), ())))))))).bind (fun y' =>
  if (!y') = true then
  some ((0 : Int), c, c_1, c_2, c_3, c_4, l, c_5, c_6) else
  (r5_Reader_now (c, (c_1, (c_2, (c_3, (c_4, (l, ((c_5, (c_6, ())), ())))))))).bind (fun y'_1 =>
  if (decide (y'_1 < (120 : Int))) = true then
  r5_Reader_place_J5 c c_1 c_2 c_3 c_4 c_5 c_6 l true else
  r5_Reader_place_J5 c c_1 c_2 c_3 c_4 c_5 c_6 l (decide ((122 : Int) < y'_1))))

noncomputable def r5_Reader_atom_J20 (y'_85 : Int) (kind : Int) (r : (List UInt8)) (r_1 : Int) (r_2 : Int) (r_3 : Int) (r_4 : (List UInt8)) (r_5 : Int) (r_6 : Int) (l_1 : Tp1) : Option (Int × (List UInt8) × Int × Int × Int × (List UInt8) × Tp1 × Int × Int) :=
  G (fits (r_1 + (1 : Int))) (
  (r5_Reader_place r (r_1 + (1 : Int)) r_2 r_3 r_4 r_5 r_6 l_1).bind (fun y'_126 =>
  (r5_Reader_put (kind, ((0 : Int), (y'_85, (y'_126.1, (false, ()))))) y'_126.2.1 y'_126.2.2.1 y'_126.2.2.2.1 y'_126.2.2.2.2.1 y'_126.2.2.2.2.2.1 y'_126.2.2.2.2.2.2.2.1 y'_126.2.2.2.2.2.2.2.2 y'_126.2.2.2.2.2.2.1).bind (fun y'_125 =>
  some (y'_125.1, y'_125.2.1, y'_125.2.2.1, y'_125.2.2.2.1, y'_125.2.2.2.2.1, y'_125.2.2.2.2.2.1, y'_125.2.2.2.2.2.2.1, y'_125.2.2.2.2.2.2.2.1, y'_125.2.2.2.2.2.2.2.2))))
noncomputable def r5_Reader_atom_J12 (c_1 : (List UInt8)) (c_2 : Int) (c_3 : Int) (c_4 : Int) (c_5 : (List UInt8)) (c_6 : Int) (c_7 : Int) (l : Tp1) (t_2 : Bool) : Option (Int × (List UInt8) × Int × Int × Int × (List UInt8) × Tp1 × Int × Int) :=
  if t_2 = true then
  (r5_Reader_fail (4 : Int) c_2 c_1 c_2 c_3 c_4 c_5 c_6 c_7 l).bind (fun y'_84 =>
  some ((0 : Int), y'_84.1, y'_84.2.1, y'_84.2.2.1, y'_84.2.2.2.1, y'_84.2.2.2.2.1, y'_84.2.2.2.2.2.1, y'_84.2.2.2.2.2.2.1, y'_84.2.2.2.2.2.2.2)) else
  (r5_Reader_known c_1 c_2 c_3 c_4 c_5 c_6 c_7 l).bind (fun y'_138 =>
  (r5_Reader_counted c_2 y'_138.2.1 y'_138.2.2.1 y'_138.2.2.2.1 y'_138.2.2.2.2.1 y'_138.2.2.2.2.2.1 y'_138.2.2.2.2.2.2.2.1 y'_138.2.2.2.2.2.2.2.2 y'_138.2.2.2.2.2.2.1).bind (fun y'_137 =>
  (r5_Reader_now (y'_137.1, (y'_137.2.1, (y'_137.2.2.1, (y'_137.2.2.2.1, (y'_137.2.2.2.2.1, (y'_137.2.2.2.2.2.1, ((y'_137.2.2.2.2.2.2.1, (y'_137.2.2.2.2.2.2.2, ())), ())))))))).bind (fun y'_104 =>
  if (decide (y'_104 = (60 : Int))) = true then
  r5_Reader_atom_J20 y'_138.1 (1 : Int) y'_137.1 y'_137.2.1 y'_137.2.2.1 y'_137.2.2.2.1 y'_137.2.2.2.2.1 y'_137.2.2.2.2.2.2.1 y'_137.2.2.2.2.2.2.2 y'_137.2.2.2.2.2.1 else
  if (decide (y'_104 = (61 : Int))) = true then
  r5_Reader_atom_J20 y'_138.1 (2 : Int) y'_137.1 y'_137.2.1 y'_137.2.2.1 y'_137.2.2.2.1 y'_137.2.2.2.2.1 y'_137.2.2.2.2.2.2.1 y'_137.2.2.2.2.2.2.2 y'_137.2.2.2.2.2.1 else
  if (decide (y'_104 = (126 : Int))) = true then
  r5_Reader_atom_J20 y'_138.1 (3 : Int) y'_137.1 y'_137.2.1 y'_137.2.2.1 y'_137.2.2.2.1 y'_137.2.2.2.2.1 y'_137.2.2.2.2.2.2.1 y'_137.2.2.2.2.2.2.2 y'_137.2.2.2.2.2.1 else
  (r5_Reader_fail (4 : Int) y'_137.2.1 y'_137.1 y'_137.2.1 y'_137.2.2.1 y'_137.2.2.2.1 y'_137.2.2.2.2.1 y'_137.2.2.2.2.2.2.1 y'_137.2.2.2.2.2.2.2 y'_137.2.2.2.2.2.1).bind (fun y'_136 =>
  r5_Reader_atom_J20 y'_138.1 (0 : Int) y'_136.1 y'_136.2.1 y'_136.2.2.1 y'_136.2.2.2.1 y'_136.2.2.2.2.1 y'_136.2.2.2.2.2.2.1 y'_136.2.2.2.2.2.2.2 y'_136.2.2.2.2.2.1))))
noncomputable def r5_Reader_atom_J7 (c : Int) (c_1 : (List UInt8)) (c_2 : Int) (c_3 : Int) (c_4 : Int) (c_5 : (List UInt8)) (c_6 : Int) (c_7 : Int) (l : Tp1) (t_1 : Bool) : Option (Int × (List UInt8) × Int × Int × Int × (List UInt8) × Tp1 × Int × Int) :=
  if t_1 = true then
  (r5_Reader_known c_1 c_2 c_3 c_4 c_5 c_6 c_7 l).bind (fun y'_74 =>
  (r5_Reader_counted c_2 y'_74.2.1 y'_74.2.2.1 y'_74.2.2.2.1 y'_74.2.2.2.2.1 y'_74.2.2.2.2.2.1 y'_74.2.2.2.2.2.2.2.1 y'_74.2.2.2.2.2.2.2.2 y'_74.2.2.2.2.2.2.1).bind (fun y'_73 =>
  (r5_Reader_place y'_73.1 y'_73.2.1 y'_73.2.2.1 y'_73.2.2.2.1 y'_73.2.2.2.2.1 y'_73.2.2.2.2.2.2.1 y'_73.2.2.2.2.2.2.2 y'_73.2.2.2.2.2.1).bind (fun y'_72 =>
  (r5_Reader_put ((4 : Int), ((0 : Int), (y'_72.1, (y'_74.1, (false, ()))))) y'_72.2.1 y'_72.2.2.1 y'_72.2.2.2.1 y'_72.2.2.2.2.1 y'_72.2.2.2.2.2.1 y'_72.2.2.2.2.2.2.2.1 y'_72.2.2.2.2.2.2.2.2 y'_72.2.2.2.2.2.2.1).bind (fun y'_71 =>
  some (y'_71.1, y'_71.2.1, y'_71.2.2.1, y'_71.2.2.2.1, y'_71.2.2.2.2.1, y'_71.2.2.2.2.2.1, y'_71.2.2.2.2.2.2.1, y'_71.2.2.2.2.2.2.2.1, y'_71.2.2.2.2.2.2.2.2))))) else
  if (decide (c < (120 : Int))) = true then
  r5_Reader_atom_J12 c_1 c_2 c_3 c_4 c_5 c_6 c_7 l true else
  r5_Reader_atom_J12 c_1 c_2 c_3 c_4 c_5 c_6 c_7 l (decide ((122 : Int) < c))
noncomputable def r5_Reader_atom_J2 (c : Int) (c_1 : (List UInt8)) (c_2 : Int) (c_3 : Int) (c_4 : Int) (c_5 : (List UInt8)) (c_6 : Int) (c_7 : Int) (l : Tp1) (t : Bool) : Option (Int × (List UInt8) × Int × Int × Int × (List UInt8) × Tp1 × Int × Int) :=
  if t = true then
  (r5_Reader_counted c_2 c_1 c_2 c_3 c_4 c_5 c_6 c_7 l).bind (fun y'_31 =>
  G (fits (y'_31.2.1 + (1 : Int))) (
  (r5_Reader_place y'_31.1 (y'_31.2.1 + (1 : Int)) y'_31.2.2.1 y'_31.2.2.2.1 y'_31.2.2.2.2.1 y'_31.2.2.2.2.2.2.1 y'_31.2.2.2.2.2.2.2 y'_31.2.2.2.2.2.1).bind (fun y'_30 =>
  (r5_Reader_put ((0 : Int), (IntKind.wrap .i64 (IntKind.wrap .u8 (c - (97 : Int))), (y'_30.1, ((0 : Int), (false, ()))))) y'_30.2.1 y'_30.2.2.1 y'_30.2.2.2.1 y'_30.2.2.2.2.1 y'_30.2.2.2.2.2.1 y'_30.2.2.2.2.2.2.2.1 y'_30.2.2.2.2.2.2.2.2 y'_30.2.2.2.2.2.2.1).bind (fun y'_29 =>
  some (y'_29.1, y'_29.2.1, y'_29.2.2.1, y'_29.2.2.2.1, y'_29.2.2.2.2.1, y'_29.2.2.2.2.2.1, y'_29.2.2.2.2.2.2.1, y'_29.2.2.2.2.2.2.2.1, y'_29.2.2.2.2.2.2.2.2))))) else
  if (decide ((88 : Int) ≤ c)) = true then
  r5_Reader_atom_J7 c c_1 c_2 c_3 c_4 c_5 c_6 c_7 l (decide (c ≤ (90 : Int))) else
  r5_Reader_atom_J7 c c_1 c_2 c_3 c_4 c_5 c_6 c_7 l false
noncomputable def r5_Reader_atom (c : Int) (c_1 : (List UInt8)) (c_2 : Int) (c_3 : Int) (c_4 : Int) (c_5 : (List UInt8)) (c_6 : Int) (c_7 : Int) (l : Tp1) : Option (Int × (List UInt8) × Int × Int × Int × (List UInt8) × Tp1 × Int × Int) :=
  if (decide (c = (97 : Int))) = true then
  r5_Reader_atom_J2 c c_1 c_2 c_3 c_4 c_5 c_6 c_7 l true else
  r5_Reader_atom_J2 c c_1 c_2 c_3 c_4 c_5 c_6 c_7 l (decide (c = (98 : Int)))

noncomputable def r5_Reader_term_L2_B (rc_r5_Reader_part : (List UInt8) → Int → Int → Int → (List UInt8) → Int → Int → Tp1 → Option (Int × (List UInt8) × Int × Int × Int × (List UInt8) × Tp1 × Int × Int))  (r2 : Int → (List UInt8) → Int → Int → Int → (List UInt8) → Int → Int → Tp1 → Option (Int × (List UInt8) × Int × Int × Int × (List UInt8) × Tp1 × Int × Int)) (a : Int) (r : (List UInt8)) (r_1 : Int) (r_2 : Int) (r_3 : Int) (r_4 : (List UInt8)) (r_5 : Int) (r_6 : Int) (l_1 : Tp1) : Option (Int × (List UInt8) × Int × Int × Int × (List UInt8) × Tp1 × Int × Int) :=
  (r5_Reader_now (r, (r_1, (r_2, (r_3, (r_4, (l_1, ((r_5, (r_6, ())), ())))))))).bind (fun y'_10 =>
  (r5_Reader_ok (r, (r_1, (r_2, (r_3, (r_4, (l_1, ((r_5, (r_6, ())), ())))))))).bind (fun y'_11 =>
  if (!y'_11) = true then
  some (a, r, r_1, r_2, r_3, r_4, l_1, r_5, r_6) else
  if (decide (¬ y'_10 = (38 : Int))) = true then
  some (a, r, r_1, r_2, r_3, r_4, l_1, r_5, r_6) else
  (r5_Reader_counted r_1 r r_1 r_2 r_3 r_4 r_5 r_6 l_1).bind (fun y'_43 =>
  G (fits (y'_43.2.1 + (1 : Int))) (
  (rc_r5_Reader_part y'_43.1 (y'_43.2.1 + (1 : Int)) y'_43.2.2.1 y'_43.2.2.2.1 y'_43.2.2.2.2.1 y'_43.2.2.2.2.2.2.1 y'_43.2.2.2.2.2.2.2 y'_43.2.2.2.2.2.1).bind (fun y'_42 =>
  (r5_Reader_put ((6 : Int), ((0 : Int), (a, (y'_42.1, (false, ()))))) y'_42.2.1 y'_42.2.2.1 y'_42.2.2.2.1 y'_42.2.2.2.2.1 y'_42.2.2.2.2.2.1 y'_42.2.2.2.2.2.2.2.1 y'_42.2.2.2.2.2.2.2.2 y'_42.2.2.2.2.2.2.1).bind (fun y'_41 =>
  r2 y'_41.1 y'_41.2.1 y'_41.2.2.1 y'_41.2.2.2.1 y'_41.2.2.2.2.1 y'_41.2.2.2.2.2.1 y'_41.2.2.2.2.2.2.2.1 y'_41.2.2.2.2.2.2.2.2 y'_41.2.2.2.2.2.2.1))))))
noncomputable def r5_Reader_term_L2_F (rc_r5_Reader_part : (List UInt8) → Int → Int → Int → (List UInt8) → Int → Int → Tp1 → Option (Int × (List UInt8) × Int × Int × Int × (List UInt8) × Tp1 × Int × Int))  : (Int × (List UInt8) × Int × Int × Int × (List UInt8) × Int × Int × Tp1 → Option (Int × (List UInt8) × Int × Int × Int × (List UInt8) × Tp1 × Int × Int)) → Int × (List UInt8) × Int × Int × Int × (List UInt8) × Int × Int × Tp1 → Option (Int × (List UInt8) × Int × Int × Int × (List UInt8) × Tp1 × Int × Int) :=
  fun rec x => r5_Reader_term_L2_B rc_r5_Reader_part (fun a r r_1 r_2 r_3 r_4 r_5 r_6 l_1 => rec (a, r, r_1, r_2, r_3, r_4, r_5, r_6, l_1)) x.1 x.2.1 x.2.2.1 x.2.2.2.1 x.2.2.2.2.1 x.2.2.2.2.2.1 x.2.2.2.2.2.2.1 x.2.2.2.2.2.2.2.1 x.2.2.2.2.2.2.2.2
noncomputable def r5_Reader_term_L2 (rc_r5_Reader_part : (List UInt8) → Int → Int → Int → (List UInt8) → Int → Int → Tp1 → Option (Int × (List UInt8) × Int × Int × Int × (List UInt8) × Tp1 × Int × Int))  (a : Int) (r : (List UInt8)) (r_1 : Int) (r_2 : Int) (r_3 : Int) (r_4 : (List UInt8)) (r_5 : Int) (r_6 : Int) (l_1 : Tp1) : Option (Int × (List UInt8) × Int × Int × Int × (List UInt8) × Tp1 × Int × Int) := LFix (r5_Reader_term_L2_F rc_r5_Reader_part ) (a, r, r_1, r_2, r_3, r_4, r_5, r_6, l_1)
noncomputable def r5_Reader_term (rc_r5_Reader_part : (List UInt8) → Int → Int → Int → (List UInt8) → Int → Int → Tp1 → Option (Int × (List UInt8) × Int × Int × Int × (List UInt8) × Tp1 × Int × Int)) (c : (List UInt8)) (c_1 : Int) (c_2 : Int) (c_3 : Int) (c_4 : (List UInt8)) (c_5 : Int) (c_6 : Int) (l : Tp1) : Option (Int × (List UInt8) × Int × Int × Int × (List UInt8) × Tp1 × Int × Int) :=
  (rc_r5_Reader_part c c_1 c_2 c_3 c_4 c_5 c_6 l).bind (fun y'_44 =>
  r5_Reader_term_L2 rc_r5_Reader_part y'_44.1 y'_44.2.1 y'_44.2.2.1 y'_44.2.2.2.1 y'_44.2.2.2.2.1 y'_44.2.2.2.2.2.1 y'_44.2.2.2.2.2.2.2.1 y'_44.2.2.2.2.2.2.2.2 y'_44.2.2.2.2.2.2.1)
noncomputable def r5_Reader_formula_L2_B (rc_r5_Reader_part : (List UInt8) → Int → Int → Int → (List UInt8) → Int → Int → Tp1 → Option (Int × (List UInt8) × Int × Int × Int × (List UInt8) × Tp1 × Int × Int))  (r2 : Int → (List UInt8) → Int → Int → Int → (List UInt8) → Int → Int → Tp1 → Option (Int × (List UInt8) × Int × Int × Int × (List UInt8) × Tp1 × Int × Int)) (a : Int) (r : (List UInt8)) (r_1 : Int) (r_2 : Int) (r_3 : Int) (r_4 : (List UInt8)) (r_5 : Int) (r_6 : Int) (l_1 : Tp1) : Option (Int × (List UInt8) × Int × Int × Int × (List UInt8) × Tp1 × Int × Int) :=
  (r5_Reader_now (r, (r_1, (r_2, (r_3, (r_4, (l_1, ((r_5, (r_6, ())), ())))))))).bind (fun y'_10 =>
  (r5_Reader_ok (r, (r_1, (r_2, (r_3, (r_4, (l_1, ((r_5, (r_6, ())), ())))))))).bind (fun y'_11 =>
  if (!y'_11) = true then
  some (a, r, r_1, r_2, r_3, r_4, l_1, r_5, r_6) else
  if (decide (¬ y'_10 = (124 : Int))) = true then
  some (a, r, r_1, r_2, r_3, r_4, l_1, r_5, r_6) else
  (r5_Reader_counted r_1 r r_1 r_2 r_3 r_4 r_5 r_6 l_1).bind (fun y'_43 =>
  G (fits (y'_43.2.1 + (1 : Int))) (
  (r5_Reader_term rc_r5_Reader_part y'_43.1 (y'_43.2.1 + (1 : Int)) y'_43.2.2.1 y'_43.2.2.2.1 y'_43.2.2.2.2.1 y'_43.2.2.2.2.2.2.1 y'_43.2.2.2.2.2.2.2 y'_43.2.2.2.2.2.1).bind (fun y'_42 =>
  (r5_Reader_put ((7 : Int), ((0 : Int), (a, (y'_42.1, (false, ()))))) y'_42.2.1 y'_42.2.2.1 y'_42.2.2.2.1 y'_42.2.2.2.2.1 y'_42.2.2.2.2.2.1 y'_42.2.2.2.2.2.2.2.1 y'_42.2.2.2.2.2.2.2.2 y'_42.2.2.2.2.2.2.1).bind (fun y'_41 =>
  r2 y'_41.1 y'_41.2.1 y'_41.2.2.1 y'_41.2.2.2.1 y'_41.2.2.2.2.1 y'_41.2.2.2.2.2.1 y'_41.2.2.2.2.2.2.2.1 y'_41.2.2.2.2.2.2.2.2 y'_41.2.2.2.2.2.2.1))))))
noncomputable def r5_Reader_formula_L2_F (rc_r5_Reader_part : (List UInt8) → Int → Int → Int → (List UInt8) → Int → Int → Tp1 → Option (Int × (List UInt8) × Int × Int × Int × (List UInt8) × Tp1 × Int × Int))  : (Int × (List UInt8) × Int × Int × Int × (List UInt8) × Int × Int × Tp1 → Option (Int × (List UInt8) × Int × Int × Int × (List UInt8) × Tp1 × Int × Int)) → Int × (List UInt8) × Int × Int × Int × (List UInt8) × Int × Int × Tp1 → Option (Int × (List UInt8) × Int × Int × Int × (List UInt8) × Tp1 × Int × Int) :=
  fun rec x => r5_Reader_formula_L2_B rc_r5_Reader_part (fun a r r_1 r_2 r_3 r_4 r_5 r_6 l_1 => rec (a, r, r_1, r_2, r_3, r_4, r_5, r_6, l_1)) x.1 x.2.1 x.2.2.1 x.2.2.2.1 x.2.2.2.2.1 x.2.2.2.2.2.1 x.2.2.2.2.2.2.1 x.2.2.2.2.2.2.2.1 x.2.2.2.2.2.2.2.2
noncomputable def r5_Reader_formula_L2 (rc_r5_Reader_part : (List UInt8) → Int → Int → Int → (List UInt8) → Int → Int → Tp1 → Option (Int × (List UInt8) × Int × Int × Int × (List UInt8) × Tp1 × Int × Int))  (a : Int) (r : (List UInt8)) (r_1 : Int) (r_2 : Int) (r_3 : Int) (r_4 : (List UInt8)) (r_5 : Int) (r_6 : Int) (l_1 : Tp1) : Option (Int × (List UInt8) × Int × Int × Int × (List UInt8) × Tp1 × Int × Int) := LFix (r5_Reader_formula_L2_F rc_r5_Reader_part ) (a, r, r_1, r_2, r_3, r_4, r_5, r_6, l_1)
noncomputable def r5_Reader_formula (rc_r5_Reader_part : (List UInt8) → Int → Int → Int → (List UInt8) → Int → Int → Tp1 → Option (Int × (List UInt8) × Int × Int × Int × (List UInt8) × Tp1 × Int × Int)) (c : (List UInt8)) (c_1 : Int) (c_2 : Int) (c_3 : Int) (c_4 : (List UInt8)) (c_5 : Int) (c_6 : Int) (l : Tp1) : Option (Int × (List UInt8) × Int × Int × Int × (List UInt8) × Tp1 × Int × Int) :=
  (r5_Reader_term rc_r5_Reader_part c c_1 c_2 c_3 c_4 c_5 c_6 l).bind (fun y'_44 =>
  r5_Reader_formula_L2 rc_r5_Reader_part y'_44.1 y'_44.2.1 y'_44.2.2.1 y'_44.2.2.2.1 y'_44.2.2.2.2.1 y'_44.2.2.2.2.2.1 y'_44.2.2.2.2.2.2.2.1 y'_44.2.2.2.2.2.2.2.2 y'_44.2.2.2.2.2.2.1)
noncomputable def r5_Reader_quantified_J21 (y'_14 : (List UInt8)) (set' : Bool) (y'_31 : Int) (y'_32 : (List UInt8)) (y'_33 : Int) (y'_34 : Int) (y'_35 : Int) (y'_37 : Tp1) (y'_38 : Int) (y'_39 : Int) (kind : Int) : Option (Int × (List UInt8) × Int × Int × Int × (List UInt8) × Tp1 × Int × Int) :=
  (r5_Reader_put (kind, ((0 : Int), (y'_31, ((0 : Int), (set', ()))))) y'_32 y'_33 y'_34 y'_35 y'_14 y'_38 y'_39 y'_37).bind (fun y'_51 =>
  some (y'_51.1, y'_51.2.1, y'_51.2.2.1, y'_51.2.2.2.1, y'_51.2.2.2.2.1, y'_51.2.2.2.2.2.1, y'_51.2.2.2.2.2.2.1, y'_51.2.2.2.2.2.2.2.1, y'_51.2.2.2.2.2.2.2.2))
noncomputable def r5_Reader_quantified_J11 (rc_r5_Reader_part : (List UInt8) → Int → Int → Int → (List UInt8) → Int → Int → Tp1 → Option (Int × (List UInt8) × Int × Int × Int × (List UInt8) × Tp1 × Int × Int)) (c : Int) (y'_10 : (List UInt8)) (y'_11 : Int) (y'_12 : Int) (y'_13 : Int) (y'_14 : (List UInt8)) (y'_15 : Tp1) (y'_16 : Int) (y'_17 : Int) (y'_20 : Int) (set' : Bool) (t : Bool) : Option (Int × (List UInt8) × Int × Int × Int × (List UInt8) × Tp1 × Int × Int) :=
  if t = true then
  (r5_Reader_fail (4 : Int) (y'_11 + (1 : Int)) y'_10 (y'_11 + (1 : Int)) y'_12 y'_13 y'_14 y'_16 y'_17 y'_15).bind (fun y'_30 =>
  some ((0 : Int), y'_30.1, y'_30.2.1, y'_30.2.2.1, y'_30.2.2.2.1, y'_30.2.2.2.2.1, y'_30.2.2.2.2.2.1, y'_30.2.2.2.2.2.2.1, y'_30.2.2.2.2.2.2.2)) else
  G (fits ((y'_11 + (1 : Int)) + (1 : Int))) (
  G ((y'_14.length : Int) + (bstr ([y'_20])).length ≤ 9223372036854775807) (
  (rc_r5_Reader_part y'_10 ((y'_11 + (1 : Int)) + (1 : Int)) y'_12 y'_13 (y'_14 ++ (bstr ([y'_20]))) y'_16 y'_17 y'_15).bind (fun y'_52 =>
  if (decide (c = (65 : Int))) = true then
  r5_Reader_quantified_J21 y'_14 set' y'_52.1 y'_52.2.1 y'_52.2.2.1 y'_52.2.2.2.1 y'_52.2.2.2.2.1 y'_52.2.2.2.2.2.2.1 y'_52.2.2.2.2.2.2.2.1 y'_52.2.2.2.2.2.2.2.2 (9 : Int) else
  r5_Reader_quantified_J21 y'_14 set' y'_52.1 y'_52.2.1 y'_52.2.2.1 y'_52.2.2.2.1 y'_52.2.2.2.2.1 y'_52.2.2.2.2.2.2.1 y'_52.2.2.2.2.2.2.2.1 y'_52.2.2.2.2.2.2.2.2 (8 : Int))))
noncomputable def r5_Reader_quantified_J10 (rc_r5_Reader_part : (List UInt8) → Int → Int → Int → (List UInt8) → Int → Int → Tp1 → Option (Int × (List UInt8) × Int × Int × Int × (List UInt8) × Tp1 × Int × Int)) (c : Int) (y'_10 : (List UInt8)) (y'_11 : Int) (y'_12 : Int) (y'_13 : Int) (y'_14 : (List UInt8)) (y'_15 : Tp1) (y'_16 : Int) (y'_17 : Int) (y'_20 : Int) (set' : Bool) : Option (Int × (List UInt8) × Int × Int × Int × (List UInt8) × Tp1 × Int × Int) :=
  if (!set') = true then
  if (decide (y'_20 < (120 : Int))) = true then
  r5_Reader_quantified_J11 rc_r5_Reader_part c y'_10 y'_11 y'_12 y'_13 y'_14 y'_15 y'_16 y'_17 y'_20 set' true else
  r5_Reader_quantified_J11 rc_r5_Reader_part c y'_10 y'_11 y'_12 y'_13 y'_14 y'_15 y'_16 y'_17 y'_20 set' (decide ((122 : Int) < y'_20)) else
  r5_Reader_quantified_J11 rc_r5_Reader_part c y'_10 y'_11 y'_12 y'_13 y'_14 y'_15 y'_16 y'_17 y'_20 set' false
noncomputable def r5_Reader_quantified (rc_r5_Reader_part : (List UInt8) → Int → Int → Int → (List UInt8) → Int → Int → Tp1 → Option (Int × (List UInt8) × Int × Int × Int × (List UInt8) × Tp1 × Int × Int)) (c : Int) (c_1 : (List UInt8)) (c_2 : Int) (c_3 : Int) (c_4 : Int) (c_5 : (List UInt8)) (c_6 : Int) (c_7 : Int) (l : Tp1) : Option (Int × (List UInt8) × Int × Int × Int × (List UInt8) × Tp1 × Int × Int) :=
  if (decide ((c_5.length : Int) = (3 : Int))) = true then
  (r5_Reader_fail (7 : Int) c_2 c_1 c_2 c_3 c_4 c_5 c_6 c_7 l).bind (fun y'_9 =>
  some ((0 : Int), y'_9.1, y'_9.2.1, y'_9.2.2.1, y'_9.2.2.2.1, y'_9.2.2.2.2.1, y'_9.2.2.2.2.2.1, y'_9.2.2.2.2.2.2.1, y'_9.2.2.2.2.2.2.2)) else
  (r5_Reader_counted c_2 c_1 c_2 c_3 c_4 c_5 c_6 c_7 l).bind (fun y'_53 =>
  (r5_Reader_ok (y'_53.1, (y'_53.2.1, (y'_53.2.2.1, (y'_53.2.2.2.1, (y'_53.2.2.2.2.1, (y'_53.2.2.2.2.2.1, ((y'_53.2.2.2.2.2.2.1, (y'_53.2.2.2.2.2.2.2, ())), ())))))))).bind (fun y'_19 =>
  if (!y'_19) = true then
  some ((0 : Int), y'_53.1, y'_53.2.1, y'_53.2.2.1, y'_53.2.2.2.1, y'_53.2.2.2.2.1, y'_53.2.2.2.2.2.1, y'_53.2.2.2.2.2.2.1, y'_53.2.2.2.2.2.2.2) else
  G (fits (y'_53.2.1 + (1 : Int))) (
  (r5_Reader_now (y'_53.1, (y'_53.2.1 + (1 : Int), (y'_53.2.2.1, (y'_53.2.2.2.1, (y'_53.2.2.2.2.1, (y'_53.2.2.2.2.2.1, ((y'_53.2.2.2.2.2.2.1, (y'_53.2.2.2.2.2.2.2, ())), ())))))))).bind (fun y'_20 =>
  if (decide ((88 : Int) ≤ y'_20)) = true then
  r5_Reader_quantified_J10 rc_r5_Reader_part c y'_53.1 y'_53.2.1 y'_53.2.2.1 y'_53.2.2.2.1 y'_53.2.2.2.2.1 y'_53.2.2.2.2.2.1 y'_53.2.2.2.2.2.2.1 y'_53.2.2.2.2.2.2.2 y'_20 (decide (y'_20 ≤ (90 : Int))) else
  r5_Reader_quantified_J10 rc_r5_Reader_part c y'_53.1 y'_53.2.1 y'_53.2.2.1 y'_53.2.2.2.1 y'_53.2.2.2.2.1 y'_53.2.2.2.2.2.1 y'_53.2.2.2.2.2.2.1 y'_53.2.2.2.2.2.2.2 y'_20 false))))
noncomputable def r5_Reader_part_J23 (rc_r5_Reader_part : (List UInt8) → Int → Int → Int → (List UInt8) → Int → Int → Tp1 → Option (Int × (List UInt8) × Int × Int × Int × (List UInt8) × Tp1 × Int × Int)) (c : (List UInt8)) (c_1 : Int) (c_2 : Int) (c_3 : Int) (c_4 : (List UInt8)) (c_5 : Int) (c_6 : Int) (l : Tp1) (y'_1 : Int) (t : Bool) : Option (Int × (List UInt8) × Int × Int × Int × (List UInt8) × Tp1 × Int × Int) :=
  if t = true then
  (r5_Reader_quantified rc_r5_Reader_part y'_1 c c_1 c_2 c_3 c_4 c_5 c_6 l).bind (fun y'_76 =>
  some (y'_76.1, y'_76.2.1, y'_76.2.2.1, y'_76.2.2.2.1, y'_76.2.2.2.2.1, y'_76.2.2.2.2.2.1, y'_76.2.2.2.2.2.2.1, y'_76.2.2.2.2.2.2.2.1, y'_76.2.2.2.2.2.2.2.2)) else
  (r5_Reader_atom y'_1 c c_1 c_2 c_3 c_4 c_5 c_6 l).bind (fun y'_87 =>
  some (y'_87.1, y'_87.2.1, y'_87.2.2.1, y'_87.2.2.2.1, y'_87.2.2.2.2.1, y'_87.2.2.2.2.2.1, y'_87.2.2.2.2.2.2.1, y'_87.2.2.2.2.2.2.2.1, y'_87.2.2.2.2.2.2.2.2))
noncomputable def r5_Reader_part_B (rc_r5_Reader_part : (List UInt8) → Int → Int → Int → (List UInt8) → Int → Int → Tp1 → Option (Int × (List UInt8) × Int × Int × Int × (List UInt8) × Tp1 × Int × Int)) (c : (List UInt8)) (c_1 : Int) (c_2 : Int) (c_3 : Int) (c_4 : (List UInt8)) (c_5 : Int) (c_6 : Int) (l : Tp1) : Option (Int × (List UInt8) × Int × Int × Int × (List UInt8) × Tp1 × Int × Int) :=
  (r5_Reader_ok (c, (c_1, (c_2, (c_3, (c_4, (l, ((c_5, (c_6, ())), ())))))))).bind (fun y' =>
  if (!y') = true then
  some ((0 : Int), c, c_1, c_2, c_3, c_4, l, c_5, c_6) else
  (r5_Reader_now (c, (c_1, (c_2, (c_3, (c_4, (l, ((c_5, (c_6, ())), ())))))))).bind (fun y'_1 =>
  if (decide (y'_1 = (33 : Int))) = true then
  (r5_Reader_counted c_1 c c_1 c_2 c_3 c_4 c_5 c_6 l).bind (fun y'_33 =>
  G (fits (y'_33.2.1 + (1 : Int))) (
  (rc_r5_Reader_part y'_33.1 (y'_33.2.1 + (1 : Int)) y'_33.2.2.1 y'_33.2.2.2.1 y'_33.2.2.2.2.1 y'_33.2.2.2.2.2.2.1 y'_33.2.2.2.2.2.2.2 y'_33.2.2.2.2.2.1).bind (fun y'_32 =>
  (r5_Reader_put ((5 : Int), ((0 : Int), (y'_32.1, ((0 : Int), (false, ()))))) y'_32.2.1 y'_32.2.2.1 y'_32.2.2.2.1 y'_32.2.2.2.2.1 y'_32.2.2.2.2.2.1 y'_32.2.2.2.2.2.2.2.1 y'_32.2.2.2.2.2.2.2.2 y'_32.2.2.2.2.2.2.1).bind (fun y'_31 =>
  some (y'_31.1, y'_31.2.1, y'_31.2.2.1, y'_31.2.2.2.1, y'_31.2.2.2.2.1, y'_31.2.2.2.2.2.1, y'_31.2.2.2.2.2.2.1, y'_31.2.2.2.2.2.2.2.1, y'_31.2.2.2.2.2.2.2.2))))) else
  if (decide (y'_1 = (40 : Int))) = true then
  if (decide (c_3 = (40 : Int))) = true then
  (r5_Reader_fail (7 : Int) c_1 c c_1 c_2 c_3 c_4 c_5 c_6 l).bind (fun y'_43 =>
  some ((0 : Int), y'_43.1, y'_43.2.1, y'_43.2.2.1, y'_43.2.2.2.1, y'_43.2.2.2.2.1, y'_43.2.2.2.2.2.1, y'_43.2.2.2.2.2.2.1, y'_43.2.2.2.2.2.2.2)) else
  G (fits (c_3 + (1 : Int))) (
  G (fits (c_1 + (1 : Int))) (
  (r5_Reader_formula rc_r5_Reader_part c (c_1 + (1 : Int)) c_2 (c_3 + (1 : Int)) c_4 c_5 c_6 l).bind (fun y'_65 =>
  (r5_Reader_now (y'_65.2.1, (y'_65.2.2.1, (y'_65.2.2.2.1, (y'_65.2.2.2.2.1, (y'_65.2.2.2.2.2.1, (y'_65.2.2.2.2.2.2.1, ((y'_65.2.2.2.2.2.2.2.1, (y'_65.2.2.2.2.2.2.2.2, ())), ())))))))).bind (fun y'_54 =>
  if (decide (¬ y'_54 = (41 : Int))) = true then
  (r5_Reader_fail (4 : Int) y'_65.2.2.1 y'_65.2.1 y'_65.2.2.1 y'_65.2.2.2.1 y'_65.2.2.2.2.1 y'_65.2.2.2.2.2.1 y'_65.2.2.2.2.2.2.2.1 y'_65.2.2.2.2.2.2.2.2 y'_65.2.2.2.2.2.2.1).bind (fun y'_64 =>
  G (fits (y'_64.2.1 + (1 : Int))) (
  G (fits (y'_64.2.2.2.1 - (1 : Int))) (
  some (y'_65.1, y'_64.1, y'_64.2.1 + (1 : Int), y'_64.2.2.1, y'_64.2.2.2.1 - (1 : Int), y'_64.2.2.2.2.1, y'_64.2.2.2.2.2.1, y'_64.2.2.2.2.2.2.1, y'_64.2.2.2.2.2.2.2)))) else
  G (fits (y'_65.2.2.1 + (1 : Int))) (
  G (fits (y'_65.2.2.2.2.1 - (1 : Int))) (
  some (y'_65.1, y'_65.2.1, y'_65.2.2.1 + (1 : Int), y'_65.2.2.2.1, y'_65.2.2.2.2.1 - (1 : Int), y'_65.2.2.2.2.2.1, y'_65.2.2.2.2.2.2.1, y'_65.2.2.2.2.2.2.2.1, y'_65.2.2.2.2.2.2.2.2))))))) else
  if (decide (y'_1 = (69 : Int))) = true then
  r5_Reader_part_J23 rc_r5_Reader_part c c_1 c_2 c_3 c_4 c_5 c_6 l y'_1 true else
  r5_Reader_part_J23 rc_r5_Reader_part c c_1 c_2 c_3 c_4 c_5 c_6 l y'_1 (decide (y'_1 = (65 : Int)))))
theorem r5_Reader_term_L2_B_ch (rc_r5_Reader_part : Nat → (List UInt8) → Int → Int → Int → (List UInt8) → Int → Int → Tp1 → Option (Int × (List UInt8) × Int × Int × Int × (List UInt8) × Tp1 × Int × Int)) (rc_r5_Reader_part' : (List UInt8) → Int → Int → Int → (List UInt8) → Int → Int → Tp1 → Option (Int × (List UInt8) × Int × Int × Int × (List UInt8) × Tp1 × Int × Int)) (h_rc_r5_Reader_part : ∀ a0 a1 a2 a3 a4 a5 a6 a7, ChO (fun κ => rc_r5_Reader_part κ a0 a1 a2 a3 a4 a5 a6 a7) (rc_r5_Reader_part' a0 a1 a2 a3 a4 a5 a6 a7)) (r2 : Nat → Int → (List UInt8) → Int → Int → Int → (List UInt8) → Int → Int → Tp1 → Option (Int × (List UInt8) × Int × Int × Int × (List UInt8) × Tp1 × Int × Int)) (r2' : Int → (List UInt8) → Int → Int → Int → (List UInt8) → Int → Int → Tp1 → Option (Int × (List UInt8) × Int × Int × Int × (List UInt8) × Tp1 × Int × Int)) (h_r2 : ∀ a0 a1 a2 a3 a4 a5 a6 a7 a8, ChO (fun κ => r2 κ a0 a1 a2 a3 a4 a5 a6 a7 a8) (r2' a0 a1 a2 a3 a4 a5 a6 a7 a8)) (a : Int) (r : (List UInt8)) (r_1 : Int) (r_2 : Int) (r_3 : Int) (r_4 : (List UInt8)) (r_5 : Int) (r_6 : Int) (l_1 : Tp1) : ChO (fun κ => r5_Reader_term_L2_B (rc_r5_Reader_part κ) (r2 κ) a r r_1 r_2 r_3 r_4 r_5 r_6 l_1) (r5_Reader_term_L2_B rc_r5_Reader_part' r2' a r r_1 r_2 r_3 r_4 r_5 r_6 l_1) := by
  unfold r5_Reader_term_L2_B
  repeat' with_reducible first | exact ChO.const _ | exact h_rc_r5_Reader_part _ _ _ _ _ _ _ _ | exact h_r2 _ _ _ _ _ _ _ _ _ | apply ChO.ite | apply ChO.G | apply ChO.both | (apply ChO.bind; intro _) | (apply ChO.bind2 (h_rc_r5_Reader_part _ _ _ _ _ _ _ _); intro _) | (refine ChO.bind2 ?_ (fun _ => ?_))
theorem r5_Reader_term_L2_cn (rc_r5_Reader_part : (List UInt8) → Int → Int → Int → (List UInt8) → Int → Int → Tp1 → Option (Int × (List UInt8) × Int × Int × Int × (List UInt8) × Tp1 × Int × Int))  : Cn (r5_Reader_term_L2_F rc_r5_Reader_part) := fun g h hg x => r5_Reader_term_L2_B_ch (fun _ => rc_r5_Reader_part) rc_r5_Reader_part (fun _ _ _ _ _ _ _ _ => ChO.const _) (fun κ a r r_1 r_2 r_3 r_4 r_5 r_6 l_1 => g κ (a, r, r_1, r_2, r_3, r_4, r_5, r_6, l_1)) (fun a r r_1 r_2 r_3 r_4 r_5 r_6 l_1 => h (a, r, r_1, r_2, r_3, r_4, r_5, r_6, l_1)) (fun a r r_1 r_2 r_3 r_4 r_5 r_6 l_1 => hg (a, r, r_1, r_2, r_3, r_4, r_5, r_6, l_1))  x.1 x.2.1 x.2.2.1 x.2.2.2.1 x.2.2.2.2.1 x.2.2.2.2.2.1 x.2.2.2.2.2.2.1 x.2.2.2.2.2.2.2.1 x.2.2.2.2.2.2.2.2
theorem r5_Reader_term_L2_eq (rc_r5_Reader_part : (List UInt8) → Int → Int → Int → (List UInt8) → Int → Int → Tp1 → Option (Int × (List UInt8) × Int × Int × Int × (List UInt8) × Tp1 × Int × Int))  (a : Int) (r : (List UInt8)) (r_1 : Int) (r_2 : Int) (r_3 : Int) (r_4 : (List UInt8)) (r_5 : Int) (r_6 : Int) (l_1 : Tp1) : r5_Reader_term_L2 rc_r5_Reader_part a r r_1 r_2 r_3 r_4 r_5 r_6 l_1 = r5_Reader_term_L2_B rc_r5_Reader_part (r5_Reader_term_L2 rc_r5_Reader_part) a r r_1 r_2 r_3 r_4 r_5 r_6 l_1 := LFix_eq (r5_Reader_term_L2_cn rc_r5_Reader_part) (a, r, r_1, r_2, r_3, r_4, r_5, r_6, l_1)
theorem r5_Reader_term_L2_ch (rc_r5_Reader_part : Nat → (List UInt8) → Int → Int → Int → (List UInt8) → Int → Int → Tp1 → Option (Int × (List UInt8) × Int × Int × Int × (List UInt8) × Tp1 × Int × Int)) (rc_r5_Reader_part' : (List UInt8) → Int → Int → Int → (List UInt8) → Int → Int → Tp1 → Option (Int × (List UInt8) × Int × Int × Int × (List UInt8) × Tp1 × Int × Int)) (h_rc_r5_Reader_part : ∀ a0 a1 a2 a3 a4 a5 a6 a7, ChO (fun κ => rc_r5_Reader_part κ a0 a1 a2 a3 a4 a5 a6 a7) (rc_r5_Reader_part' a0 a1 a2 a3 a4 a5 a6 a7))  (a : Int) (r : (List UInt8)) (r_1 : Int) (r_2 : Int) (r_3 : Int) (r_4 : (List UInt8)) (r_5 : Int) (r_6 : Int) (l_1 : Tp1) : ChO (fun κ => r5_Reader_term_L2 (rc_r5_Reader_part κ) a r r_1 r_2 r_3 r_4 r_5 r_6 l_1) (r5_Reader_term_L2 rc_r5_Reader_part' a r r_1 r_2 r_3 r_4 r_5 r_6 l_1) := by
  unfold r5_Reader_term_L2
  exact LFix_ch (fun κ => (r5_Reader_term_L2_cn (rc_r5_Reader_part κ) ).mono) (r5_Reader_term_L2_cn rc_r5_Reader_part' ).mono (fun g h hg x => r5_Reader_term_L2_B_ch rc_r5_Reader_part rc_r5_Reader_part' h_rc_r5_Reader_part (fun κ a r r_1 r_2 r_3 r_4 r_5 r_6 l_1 => g κ (a, r, r_1, r_2, r_3, r_4, r_5, r_6, l_1)) (fun a r r_1 r_2 r_3 r_4 r_5 r_6 l_1 => h (a, r, r_1, r_2, r_3, r_4, r_5, r_6, l_1)) (fun a r r_1 r_2 r_3 r_4 r_5 r_6 l_1 => hg (a, r, r_1, r_2, r_3, r_4, r_5, r_6, l_1))  x.1 x.2.1 x.2.2.1 x.2.2.2.1 x.2.2.2.2.1 x.2.2.2.2.2.1 x.2.2.2.2.2.2.1 x.2.2.2.2.2.2.2.1 x.2.2.2.2.2.2.2.2) _
theorem r5_Reader_term_ch (rc_r5_Reader_part : Nat → (List UInt8) → Int → Int → Int → (List UInt8) → Int → Int → Tp1 → Option (Int × (List UInt8) × Int × Int × Int × (List UInt8) × Tp1 × Int × Int)) (rc_r5_Reader_part' : (List UInt8) → Int → Int → Int → (List UInt8) → Int → Int → Tp1 → Option (Int × (List UInt8) × Int × Int × Int × (List UInt8) × Tp1 × Int × Int)) (h_rc_r5_Reader_part : ∀ a0 a1 a2 a3 a4 a5 a6 a7, ChO (fun κ => rc_r5_Reader_part κ a0 a1 a2 a3 a4 a5 a6 a7) (rc_r5_Reader_part' a0 a1 a2 a3 a4 a5 a6 a7)) (c : (List UInt8)) (c_1 : Int) (c_2 : Int) (c_3 : Int) (c_4 : (List UInt8)) (c_5 : Int) (c_6 : Int) (l : Tp1) : ChO (fun κ => r5_Reader_term (rc_r5_Reader_part κ) c c_1 c_2 c_3 c_4 c_5 c_6 l) (r5_Reader_term rc_r5_Reader_part' c c_1 c_2 c_3 c_4 c_5 c_6 l) := by
  unfold r5_Reader_term
  repeat' with_reducible first | exact ChO.const _ | exact h_rc_r5_Reader_part _ _ _ _ _ _ _ _ | (apply r5_Reader_term_L2_ch <;> assumption) | apply ChO.ite | apply ChO.G | apply ChO.both | (apply ChO.bind; intro _) | (apply ChO.bind2 (h_rc_r5_Reader_part _ _ _ _ _ _ _ _); intro _) | (refine ChO.bind2 ?_ (fun _ => ?_))
theorem r5_Reader_formula_L2_B_ch (rc_r5_Reader_part : Nat → (List UInt8) → Int → Int → Int → (List UInt8) → Int → Int → Tp1 → Option (Int × (List UInt8) × Int × Int × Int × (List UInt8) × Tp1 × Int × Int)) (rc_r5_Reader_part' : (List UInt8) → Int → Int → Int → (List UInt8) → Int → Int → Tp1 → Option (Int × (List UInt8) × Int × Int × Int × (List UInt8) × Tp1 × Int × Int)) (h_rc_r5_Reader_part : ∀ a0 a1 a2 a3 a4 a5 a6 a7, ChO (fun κ => rc_r5_Reader_part κ a0 a1 a2 a3 a4 a5 a6 a7) (rc_r5_Reader_part' a0 a1 a2 a3 a4 a5 a6 a7)) (r2 : Nat → Int → (List UInt8) → Int → Int → Int → (List UInt8) → Int → Int → Tp1 → Option (Int × (List UInt8) × Int × Int × Int × (List UInt8) × Tp1 × Int × Int)) (r2' : Int → (List UInt8) → Int → Int → Int → (List UInt8) → Int → Int → Tp1 → Option (Int × (List UInt8) × Int × Int × Int × (List UInt8) × Tp1 × Int × Int)) (h_r2 : ∀ a0 a1 a2 a3 a4 a5 a6 a7 a8, ChO (fun κ => r2 κ a0 a1 a2 a3 a4 a5 a6 a7 a8) (r2' a0 a1 a2 a3 a4 a5 a6 a7 a8)) (a : Int) (r : (List UInt8)) (r_1 : Int) (r_2 : Int) (r_3 : Int) (r_4 : (List UInt8)) (r_5 : Int) (r_6 : Int) (l_1 : Tp1) : ChO (fun κ => r5_Reader_formula_L2_B (rc_r5_Reader_part κ) (r2 κ) a r r_1 r_2 r_3 r_4 r_5 r_6 l_1) (r5_Reader_formula_L2_B rc_r5_Reader_part' r2' a r r_1 r_2 r_3 r_4 r_5 r_6 l_1) := by
  unfold r5_Reader_formula_L2_B
  repeat' with_reducible first | exact ChO.const _ | exact h_rc_r5_Reader_part _ _ _ _ _ _ _ _ | exact h_r2 _ _ _ _ _ _ _ _ _ | (apply r5_Reader_term_L2_ch <;> assumption) | (apply r5_Reader_term_ch <;> assumption) | apply ChO.ite | apply ChO.G | apply ChO.both | (apply ChO.bind; intro _) | (apply ChO.bind2 (h_rc_r5_Reader_part _ _ _ _ _ _ _ _); intro _) | (refine ChO.bind2 ?_ (fun _ => ?_))
theorem r5_Reader_formula_L2_cn (rc_r5_Reader_part : (List UInt8) → Int → Int → Int → (List UInt8) → Int → Int → Tp1 → Option (Int × (List UInt8) × Int × Int × Int × (List UInt8) × Tp1 × Int × Int))  : Cn (r5_Reader_formula_L2_F rc_r5_Reader_part) := fun g h hg x => r5_Reader_formula_L2_B_ch (fun _ => rc_r5_Reader_part) rc_r5_Reader_part (fun _ _ _ _ _ _ _ _ => ChO.const _) (fun κ a r r_1 r_2 r_3 r_4 r_5 r_6 l_1 => g κ (a, r, r_1, r_2, r_3, r_4, r_5, r_6, l_1)) (fun a r r_1 r_2 r_3 r_4 r_5 r_6 l_1 => h (a, r, r_1, r_2, r_3, r_4, r_5, r_6, l_1)) (fun a r r_1 r_2 r_3 r_4 r_5 r_6 l_1 => hg (a, r, r_1, r_2, r_3, r_4, r_5, r_6, l_1))  x.1 x.2.1 x.2.2.1 x.2.2.2.1 x.2.2.2.2.1 x.2.2.2.2.2.1 x.2.2.2.2.2.2.1 x.2.2.2.2.2.2.2.1 x.2.2.2.2.2.2.2.2
theorem r5_Reader_formula_L2_eq (rc_r5_Reader_part : (List UInt8) → Int → Int → Int → (List UInt8) → Int → Int → Tp1 → Option (Int × (List UInt8) × Int × Int × Int × (List UInt8) × Tp1 × Int × Int))  (a : Int) (r : (List UInt8)) (r_1 : Int) (r_2 : Int) (r_3 : Int) (r_4 : (List UInt8)) (r_5 : Int) (r_6 : Int) (l_1 : Tp1) : r5_Reader_formula_L2 rc_r5_Reader_part a r r_1 r_2 r_3 r_4 r_5 r_6 l_1 = r5_Reader_formula_L2_B rc_r5_Reader_part (r5_Reader_formula_L2 rc_r5_Reader_part) a r r_1 r_2 r_3 r_4 r_5 r_6 l_1 := LFix_eq (r5_Reader_formula_L2_cn rc_r5_Reader_part) (a, r, r_1, r_2, r_3, r_4, r_5, r_6, l_1)
theorem r5_Reader_formula_L2_ch (rc_r5_Reader_part : Nat → (List UInt8) → Int → Int → Int → (List UInt8) → Int → Int → Tp1 → Option (Int × (List UInt8) × Int × Int × Int × (List UInt8) × Tp1 × Int × Int)) (rc_r5_Reader_part' : (List UInt8) → Int → Int → Int → (List UInt8) → Int → Int → Tp1 → Option (Int × (List UInt8) × Int × Int × Int × (List UInt8) × Tp1 × Int × Int)) (h_rc_r5_Reader_part : ∀ a0 a1 a2 a3 a4 a5 a6 a7, ChO (fun κ => rc_r5_Reader_part κ a0 a1 a2 a3 a4 a5 a6 a7) (rc_r5_Reader_part' a0 a1 a2 a3 a4 a5 a6 a7))  (a : Int) (r : (List UInt8)) (r_1 : Int) (r_2 : Int) (r_3 : Int) (r_4 : (List UInt8)) (r_5 : Int) (r_6 : Int) (l_1 : Tp1) : ChO (fun κ => r5_Reader_formula_L2 (rc_r5_Reader_part κ) a r r_1 r_2 r_3 r_4 r_5 r_6 l_1) (r5_Reader_formula_L2 rc_r5_Reader_part' a r r_1 r_2 r_3 r_4 r_5 r_6 l_1) := by
  unfold r5_Reader_formula_L2
  exact LFix_ch (fun κ => (r5_Reader_formula_L2_cn (rc_r5_Reader_part κ) ).mono) (r5_Reader_formula_L2_cn rc_r5_Reader_part' ).mono (fun g h hg x => r5_Reader_formula_L2_B_ch rc_r5_Reader_part rc_r5_Reader_part' h_rc_r5_Reader_part (fun κ a r r_1 r_2 r_3 r_4 r_5 r_6 l_1 => g κ (a, r, r_1, r_2, r_3, r_4, r_5, r_6, l_1)) (fun a r r_1 r_2 r_3 r_4 r_5 r_6 l_1 => h (a, r, r_1, r_2, r_3, r_4, r_5, r_6, l_1)) (fun a r r_1 r_2 r_3 r_4 r_5 r_6 l_1 => hg (a, r, r_1, r_2, r_3, r_4, r_5, r_6, l_1))  x.1 x.2.1 x.2.2.1 x.2.2.2.1 x.2.2.2.2.1 x.2.2.2.2.2.1 x.2.2.2.2.2.2.1 x.2.2.2.2.2.2.2.1 x.2.2.2.2.2.2.2.2) _
theorem r5_Reader_formula_ch (rc_r5_Reader_part : Nat → (List UInt8) → Int → Int → Int → (List UInt8) → Int → Int → Tp1 → Option (Int × (List UInt8) × Int × Int × Int × (List UInt8) × Tp1 × Int × Int)) (rc_r5_Reader_part' : (List UInt8) → Int → Int → Int → (List UInt8) → Int → Int → Tp1 → Option (Int × (List UInt8) × Int × Int × Int × (List UInt8) × Tp1 × Int × Int)) (h_rc_r5_Reader_part : ∀ a0 a1 a2 a3 a4 a5 a6 a7, ChO (fun κ => rc_r5_Reader_part κ a0 a1 a2 a3 a4 a5 a6 a7) (rc_r5_Reader_part' a0 a1 a2 a3 a4 a5 a6 a7)) (c : (List UInt8)) (c_1 : Int) (c_2 : Int) (c_3 : Int) (c_4 : (List UInt8)) (c_5 : Int) (c_6 : Int) (l : Tp1) : ChO (fun κ => r5_Reader_formula (rc_r5_Reader_part κ) c c_1 c_2 c_3 c_4 c_5 c_6 l) (r5_Reader_formula rc_r5_Reader_part' c c_1 c_2 c_3 c_4 c_5 c_6 l) := by
  unfold r5_Reader_formula
  repeat' with_reducible first | exact ChO.const _ | exact h_rc_r5_Reader_part _ _ _ _ _ _ _ _ | (apply r5_Reader_term_L2_ch <;> assumption) | (apply r5_Reader_term_ch <;> assumption) | (apply r5_Reader_formula_L2_ch <;> assumption) | apply ChO.ite | apply ChO.G | apply ChO.both | (apply ChO.bind; intro _) | (apply ChO.bind2 (h_rc_r5_Reader_part _ _ _ _ _ _ _ _); intro _) | (refine ChO.bind2 ?_ (fun _ => ?_))
theorem r5_Reader_quantified_J11_ch (rc_r5_Reader_part : Nat → (List UInt8) → Int → Int → Int → (List UInt8) → Int → Int → Tp1 → Option (Int × (List UInt8) × Int × Int × Int × (List UInt8) × Tp1 × Int × Int)) (rc_r5_Reader_part' : (List UInt8) → Int → Int → Int → (List UInt8) → Int → Int → Tp1 → Option (Int × (List UInt8) × Int × Int × Int × (List UInt8) × Tp1 × Int × Int)) (h_rc_r5_Reader_part : ∀ a0 a1 a2 a3 a4 a5 a6 a7, ChO (fun κ => rc_r5_Reader_part κ a0 a1 a2 a3 a4 a5 a6 a7) (rc_r5_Reader_part' a0 a1 a2 a3 a4 a5 a6 a7)) (c : Int) (y'_10 : (List UInt8)) (y'_11 : Int) (y'_12 : Int) (y'_13 : Int) (y'_14 : (List UInt8)) (y'_15 : Tp1) (y'_16 : Int) (y'_17 : Int) (y'_20 : Int) (set' : Bool) (t : Bool) : ChO (fun κ => r5_Reader_quantified_J11 (rc_r5_Reader_part κ) c y'_10 y'_11 y'_12 y'_13 y'_14 y'_15 y'_16 y'_17 y'_20 set' t) (r5_Reader_quantified_J11 rc_r5_Reader_part' c y'_10 y'_11 y'_12 y'_13 y'_14 y'_15 y'_16 y'_17 y'_20 set' t) := by
  unfold r5_Reader_quantified_J11
  repeat' with_reducible first | exact ChO.const _ | exact h_rc_r5_Reader_part _ _ _ _ _ _ _ _ | (apply r5_Reader_term_L2_ch <;> assumption) | (apply r5_Reader_term_ch <;> assumption) | (apply r5_Reader_formula_L2_ch <;> assumption) | (apply r5_Reader_formula_ch <;> assumption) | apply ChO.ite | apply ChO.G | apply ChO.both | (apply ChO.bind; intro _) | (apply ChO.bind2 (h_rc_r5_Reader_part _ _ _ _ _ _ _ _); intro _) | (refine ChO.bind2 ?_ (fun _ => ?_))
theorem r5_Reader_quantified_J10_ch (rc_r5_Reader_part : Nat → (List UInt8) → Int → Int → Int → (List UInt8) → Int → Int → Tp1 → Option (Int × (List UInt8) × Int × Int × Int × (List UInt8) × Tp1 × Int × Int)) (rc_r5_Reader_part' : (List UInt8) → Int → Int → Int → (List UInt8) → Int → Int → Tp1 → Option (Int × (List UInt8) × Int × Int × Int × (List UInt8) × Tp1 × Int × Int)) (h_rc_r5_Reader_part : ∀ a0 a1 a2 a3 a4 a5 a6 a7, ChO (fun κ => rc_r5_Reader_part κ a0 a1 a2 a3 a4 a5 a6 a7) (rc_r5_Reader_part' a0 a1 a2 a3 a4 a5 a6 a7)) (c : Int) (y'_10 : (List UInt8)) (y'_11 : Int) (y'_12 : Int) (y'_13 : Int) (y'_14 : (List UInt8)) (y'_15 : Tp1) (y'_16 : Int) (y'_17 : Int) (y'_20 : Int) (set' : Bool) : ChO (fun κ => r5_Reader_quantified_J10 (rc_r5_Reader_part κ) c y'_10 y'_11 y'_12 y'_13 y'_14 y'_15 y'_16 y'_17 y'_20 set') (r5_Reader_quantified_J10 rc_r5_Reader_part' c y'_10 y'_11 y'_12 y'_13 y'_14 y'_15 y'_16 y'_17 y'_20 set') := by
  unfold r5_Reader_quantified_J10
  repeat' with_reducible first | exact ChO.const _ | exact h_rc_r5_Reader_part _ _ _ _ _ _ _ _ | (apply r5_Reader_term_L2_ch <;> assumption) | (apply r5_Reader_term_ch <;> assumption) | (apply r5_Reader_formula_L2_ch <;> assumption) | (apply r5_Reader_formula_ch <;> assumption) | (apply r5_Reader_quantified_J11_ch <;> assumption) | apply ChO.ite | apply ChO.G | apply ChO.both | (apply ChO.bind; intro _) | (apply ChO.bind2 (h_rc_r5_Reader_part _ _ _ _ _ _ _ _); intro _) | (refine ChO.bind2 ?_ (fun _ => ?_))
theorem r5_Reader_quantified_ch (rc_r5_Reader_part : Nat → (List UInt8) → Int → Int → Int → (List UInt8) → Int → Int → Tp1 → Option (Int × (List UInt8) × Int × Int × Int × (List UInt8) × Tp1 × Int × Int)) (rc_r5_Reader_part' : (List UInt8) → Int → Int → Int → (List UInt8) → Int → Int → Tp1 → Option (Int × (List UInt8) × Int × Int × Int × (List UInt8) × Tp1 × Int × Int)) (h_rc_r5_Reader_part : ∀ a0 a1 a2 a3 a4 a5 a6 a7, ChO (fun κ => rc_r5_Reader_part κ a0 a1 a2 a3 a4 a5 a6 a7) (rc_r5_Reader_part' a0 a1 a2 a3 a4 a5 a6 a7)) (c : Int) (c_1 : (List UInt8)) (c_2 : Int) (c_3 : Int) (c_4 : Int) (c_5 : (List UInt8)) (c_6 : Int) (c_7 : Int) (l : Tp1) : ChO (fun κ => r5_Reader_quantified (rc_r5_Reader_part κ) c c_1 c_2 c_3 c_4 c_5 c_6 c_7 l) (r5_Reader_quantified rc_r5_Reader_part' c c_1 c_2 c_3 c_4 c_5 c_6 c_7 l) := by
  unfold r5_Reader_quantified
  repeat' with_reducible first | exact ChO.const _ | exact h_rc_r5_Reader_part _ _ _ _ _ _ _ _ | (apply r5_Reader_term_L2_ch <;> assumption) | (apply r5_Reader_term_ch <;> assumption) | (apply r5_Reader_formula_L2_ch <;> assumption) | (apply r5_Reader_formula_ch <;> assumption) | (apply r5_Reader_quantified_J11_ch <;> assumption) | (apply r5_Reader_quantified_J10_ch <;> assumption) | apply ChO.ite | apply ChO.G | apply ChO.both | (apply ChO.bind; intro _) | (apply ChO.bind2 (h_rc_r5_Reader_part _ _ _ _ _ _ _ _); intro _) | (refine ChO.bind2 ?_ (fun _ => ?_))
theorem r5_Reader_part_J23_ch (rc_r5_Reader_part : Nat → (List UInt8) → Int → Int → Int → (List UInt8) → Int → Int → Tp1 → Option (Int × (List UInt8) × Int × Int × Int × (List UInt8) × Tp1 × Int × Int)) (rc_r5_Reader_part' : (List UInt8) → Int → Int → Int → (List UInt8) → Int → Int → Tp1 → Option (Int × (List UInt8) × Int × Int × Int × (List UInt8) × Tp1 × Int × Int)) (h_rc_r5_Reader_part : ∀ a0 a1 a2 a3 a4 a5 a6 a7, ChO (fun κ => rc_r5_Reader_part κ a0 a1 a2 a3 a4 a5 a6 a7) (rc_r5_Reader_part' a0 a1 a2 a3 a4 a5 a6 a7)) (c : (List UInt8)) (c_1 : Int) (c_2 : Int) (c_3 : Int) (c_4 : (List UInt8)) (c_5 : Int) (c_6 : Int) (l : Tp1) (y'_1 : Int) (t : Bool) : ChO (fun κ => r5_Reader_part_J23 (rc_r5_Reader_part κ) c c_1 c_2 c_3 c_4 c_5 c_6 l y'_1 t) (r5_Reader_part_J23 rc_r5_Reader_part' c c_1 c_2 c_3 c_4 c_5 c_6 l y'_1 t) := by
  unfold r5_Reader_part_J23
  repeat' with_reducible first | exact ChO.const _ | exact h_rc_r5_Reader_part _ _ _ _ _ _ _ _ | (apply r5_Reader_term_L2_ch <;> assumption) | (apply r5_Reader_term_ch <;> assumption) | (apply r5_Reader_formula_L2_ch <;> assumption) | (apply r5_Reader_formula_ch <;> assumption) | (apply r5_Reader_quantified_J11_ch <;> assumption) | (apply r5_Reader_quantified_J10_ch <;> assumption) | (apply r5_Reader_quantified_ch <;> assumption) | apply ChO.ite | apply ChO.G | apply ChO.both | (apply ChO.bind; intro _) | (apply ChO.bind2 (h_rc_r5_Reader_part _ _ _ _ _ _ _ _); intro _) | (refine ChO.bind2 ?_ (fun _ => ?_))
theorem r5_Reader_part_B_ch (rc_r5_Reader_part : Nat → (List UInt8) → Int → Int → Int → (List UInt8) → Int → Int → Tp1 → Option (Int × (List UInt8) × Int × Int × Int × (List UInt8) × Tp1 × Int × Int)) (rc_r5_Reader_part' : (List UInt8) → Int → Int → Int → (List UInt8) → Int → Int → Tp1 → Option (Int × (List UInt8) × Int × Int × Int × (List UInt8) × Tp1 × Int × Int)) (h_rc_r5_Reader_part : ∀ a0 a1 a2 a3 a4 a5 a6 a7, ChO (fun κ => rc_r5_Reader_part κ a0 a1 a2 a3 a4 a5 a6 a7) (rc_r5_Reader_part' a0 a1 a2 a3 a4 a5 a6 a7)) (c : (List UInt8)) (c_1 : Int) (c_2 : Int) (c_3 : Int) (c_4 : (List UInt8)) (c_5 : Int) (c_6 : Int) (l : Tp1) : ChO (fun κ => r5_Reader_part_B (rc_r5_Reader_part κ) c c_1 c_2 c_3 c_4 c_5 c_6 l) (r5_Reader_part_B rc_r5_Reader_part' c c_1 c_2 c_3 c_4 c_5 c_6 l) := by
  unfold r5_Reader_part_B
  repeat' with_reducible first | exact ChO.const _ | exact h_rc_r5_Reader_part _ _ _ _ _ _ _ _ | (apply r5_Reader_term_L2_ch <;> assumption) | (apply r5_Reader_term_ch <;> assumption) | (apply r5_Reader_formula_L2_ch <;> assumption) | (apply r5_Reader_formula_ch <;> assumption) | (apply r5_Reader_quantified_J11_ch <;> assumption) | (apply r5_Reader_quantified_J10_ch <;> assumption) | (apply r5_Reader_quantified_ch <;> assumption) | (apply r5_Reader_part_J23_ch <;> assumption) | apply ChO.ite | apply ChO.G | apply ChO.both | (apply ChO.bind; intro _) | (apply ChO.bind2 (h_rc_r5_Reader_part _ _ _ _ _ _ _ _); intro _) | (refine ChO.bind2 ?_ (fun _ => ?_))
noncomputable def r5_Reader_part_F : ((List UInt8) × Int × Int × Int × (List UInt8) × Int × Int × Tp1 → Option (Int × (List UInt8) × Int × Int × Int × (List UInt8) × Tp1 × Int × Int)) → (List UInt8) × Int × Int × Int × (List UInt8) × Int × Int × Tp1 → Option (Int × (List UInt8) × Int × Int × Int × (List UInt8) × Tp1 × Int × Int) :=
  fun rec X => r5_Reader_part_B (fun c c_1 c_2 c_3 c_4 c_5 c_6 l => rec (c, c_1, c_2, c_3, c_4, c_5, c_6, l)) X.1 X.2.1 X.2.2.1 X.2.2.2.1 X.2.2.2.2.1 X.2.2.2.2.2.1 X.2.2.2.2.2.2.1 X.2.2.2.2.2.2.2
noncomputable def r5_Reader_part (c : (List UInt8)) (c_1 : Int) (c_2 : Int) (c_3 : Int) (c_4 : (List UInt8)) (c_5 : Int) (c_6 : Int) (l : Tp1) : Option (Int × (List UInt8) × Int × Int × Int × (List UInt8) × Tp1 × Int × Int) := LFix r5_Reader_part_F (c, c_1, c_2, c_3, c_4, c_5, c_6, l)
theorem r5_Reader_part_cn : Cn r5_Reader_part_F := fun g h hg X => r5_Reader_part_B_ch _ _ (fun c c_1 c_2 c_3 c_4 c_5 c_6 l => hg (c, c_1, c_2, c_3, c_4, c_5, c_6, l)) X.1 X.2.1 X.2.2.1 X.2.2.2.1 X.2.2.2.2.1 X.2.2.2.2.2.1 X.2.2.2.2.2.2.1 X.2.2.2.2.2.2.2
theorem r5_Reader_part_eq (c : (List UInt8)) (c_1 : Int) (c_2 : Int) (c_3 : Int) (c_4 : (List UInt8)) (c_5 : Int) (c_6 : Int) (l : Tp1) : r5_Reader_part c c_1 c_2 c_3 c_4 c_5 c_6 l = r5_Reader_part_B r5_Reader_part c c_1 c_2 c_3 c_4 c_5 c_6 l := LFix_eq r5_Reader_part_cn (c, c_1, c_2, c_3, c_4, c_5, c_6, l)
noncomputable def r5_Reader_term_c (c : (List UInt8)) (c_1 : Int) (c_2 : Int) (c_3 : Int) (c_4 : (List UInt8)) (c_5 : Int) (c_6 : Int) (l : Tp1) : Option (Int × (List UInt8) × Int × Int × Int × (List UInt8) × Tp1 × Int × Int) := r5_Reader_term r5_Reader_part c c_1 c_2 c_3 c_4 c_5 c_6 l
noncomputable def r5_Reader_formula_c (c : (List UInt8)) (c_1 : Int) (c_2 : Int) (c_3 : Int) (c_4 : (List UInt8)) (c_5 : Int) (c_6 : Int) (l : Tp1) : Option (Int × (List UInt8) × Int × Int × Int × (List UInt8) × Tp1 × Int × Int) := r5_Reader_formula r5_Reader_part c c_1 c_2 c_3 c_4 c_5 c_6 l
noncomputable def r5_Reader_quantified_c (c : Int) (c_1 : (List UInt8)) (c_2 : Int) (c_3 : Int) (c_4 : Int) (c_5 : (List UInt8)) (c_6 : Int) (c_7 : Int) (l : Tp1) : Option (Int × (List UInt8) × Int × Int × Int × (List UInt8) × Tp1 × Int × Int) := r5_Reader_quantified r5_Reader_part c c_1 c_2 c_3 c_4 c_5 c_6 c_7 l

noncomputable def r5_Parse (text : (List UInt8)) : Option ((Int × Int × Unit) × Tp1) :=
  if (decide ((4000 : Int) < (text.length : Int))) = true then
  some (((1 : Int), ((0 : Int), ())), []) else
  (r5_Reader_formula_c text (0 : Int) (0 : Int) (0 : Int) ([]) (0 : Int) (0 : Int) ([] : List Tp2)).bind (fun y'_20 =>
  if (decide (y'_20.2.2.1 < (text.length : Int))) = true then
  (r5_Reader_fail (4 : Int) y'_20.2.2.1 y'_20.2.1 y'_20.2.2.1 y'_20.2.2.2.1 y'_20.2.2.2.2.1 y'_20.2.2.2.2.2.1 y'_20.2.2.2.2.2.2.2.1 y'_20.2.2.2.2.2.2.2.2 y'_20.2.2.2.2.2.2.1).bind (fun y'_19 =>
  if (decide (¬ y'_19.2.2.2.2.2.2.1 = (0 : Int))) = true then
  some ((y'_19.2.2.2.2.2.2.1, (y'_19.2.2.2.2.2.2.2, ())), []) else
  some (((0 : Int), ((0 : Int), ())), y'_19.2.2.2.2.2.1)) else
  if (decide (¬ y'_20.2.2.2.2.2.2.2.1 = (0 : Int))) = true then
  some ((y'_20.2.2.2.2.2.2.2.1, (y'_20.2.2.2.2.2.2.2.2, ())), []) else
  some (((0 : Int), ((0 : Int), ())), y'_20.2.2.2.2.2.2.1))

noncomputable def r1_May_L6_B (letters : Int) (w : Tp3) (r6 : Int → Option (Int)) (i : Int) : Option (Int) :=
  if (decide (i < (w.length : Int))) = true then
  G (0 ≤ i ∧ i < (w.length : Int)) (
  if (decide ((ix w i) < (0 : Int))) = true then
  some (2 : Int) else
  G (0 ≤ i ∧ i < (w.length : Int)) (
  if (decide (letters ≤ (ix w i))) = true then
  some (2 : Int) else
  G (fits (i + (1 : Int))) (
  r6 (i + (1 : Int))))) else
  some (0 : Int)
noncomputable def r1_May_L6_F (letters : Int) (w : Tp3) : (Int → Option (Int)) → Int → Option (Int) :=
  fun rec x => r1_May_L6_B letters w (fun i => rec i) x
noncomputable def r1_May_L6 (letters : Int) (w : Tp3) (i : Int) : Option (Int) := LFix (r1_May_L6_F letters w ) i
noncomputable def r1_May (letters : Int) (w : Tp3) : Option (Int) :=
  if (decide (letters < (1 : Int))) = true then
  some (2 : Int) else
  if (decide ((4 : Int) < letters)) = true then
  some (2 : Int) else
  if (decide ((60 : Int) < (w.length : Int))) = true then
  some (1 : Int) else
  r1_May_L6 letters w (0 : Int)
theorem r1_May_L6_B_ch (r6 : Nat → Int → Option (Int)) (r6' : Int → Option (Int)) (h_r6 : ∀ a0, ChO (fun κ => r6 κ a0) (r6' a0)) (letters : Int) (w : Tp3) (i : Int) : ChO (fun κ => r1_May_L6_B letters w (r6 κ) i) (r1_May_L6_B letters w r6' i) := by
  unfold r1_May_L6_B
  repeat' with_reducible first | exact ChO.const _ | exact h_r6 _ | apply ChO.ite | apply ChO.G | apply ChO.both | (apply ChO.bind; intro _)
theorem r1_May_L6_cn  (letters : Int) (w : Tp3) : Cn (r1_May_L6_F letters w) := fun g h hg x => r1_May_L6_B_ch  (fun κ i => g κ i) (fun i => h i) (fun i => hg i) letters w x
theorem r1_May_L6_eq  (letters : Int) (w : Tp3) (i : Int) : r1_May_L6 letters w i = r1_May_L6_B letters w (r1_May_L6 letters w) i := LFix_eq (r1_May_L6_cn letters w) i

noncomputable def r5_Holds_L28_B (rc_r5_Holds : Tf1) (l : Tp1) (k : Int) (w : Tp3) (is' : Tp3) (all' : Int) (r28 : Int → Option (Bool)) (x' : Int) : Option (Bool) :=
  if (decide (x' < all')) = true then
  G (room ([] : List Int) is' 8) (
  G (room (([] : List Int) ++ is') ([x']) 8) (
  (rc_r5_Holds l ((((ix l k).2).2).1) w ((([] : List Int) ++ is') ++ ([x']))).bind (fun y'_5 =>
  if (decide (y'_5 = (decide (((ix l k).1) = (8 : Int))))) = true then
  some y'_5 else
  G (fits (x' + (1 : Int))) (
  r28 (x' + (1 : Int)))))) else
  some (decide (((ix l k).1) = (9 : Int)))
noncomputable def r5_Holds_L28_F (rc_r5_Holds : Tf1) (l : Tp1) (k : Int) (w : Tp3) (is' : Tp3) (all' : Int) : (Int → Option (Bool)) → Int → Option (Bool) :=
  fun rec x => r5_Holds_L28_B rc_r5_Holds l k w is' all' (fun x' => rec x') x
noncomputable def r5_Holds_L28 (rc_r5_Holds : Tf1) (l : Tp1) (k : Int) (w : Tp3) (is' : Tp3) (all' : Int) (x' : Int) : Option (Bool) := LFix (r5_Holds_L28_F rc_r5_Holds l k w is' all' ) x'
noncomputable def r5_Holds_J26 (rc_r5_Holds : Tf1) (l : Tp1) (k : Int) (w : Tp3) (is' : Tp3) (all' : Int) : Option (Bool) :=
  r5_Holds_L28 rc_r5_Holds l k w is' all' (0 : Int)
noncomputable def r5_Holds_B (rc_r5_Holds : Tf1) (l : Tp1) (k : Int) (w : Tp3) (is' : Tp3) : Option (Bool) :=
  G (0 ≤ k ∧ k < (l.length : Int)) (
  if (decide (((ix l k).1) = (0 : Int))) = true then
  G (0 ≤ (((ix l k).2).2).1 ∧ (((ix l k).2).2).1 < (is'.length : Int)) (
  G (0 ≤ ix is' ((((ix l k).2).2).1) ∧ ix is' ((((ix l k).2).2).1) < (w.length : Int)) (
  some (decide ((ix w (ix is' ((((ix l k).2).2).1))) = (((ix l k).2).1))))) else
  if (decide (((ix l k).1) = (1 : Int))) = true then
  G (0 ≤ (((ix l k).2).2).1 ∧ (((ix l k).2).2).1 < (is'.length : Int)) (
  G (0 ≤ ((((ix l k).2).2).2).1 ∧ ((((ix l k).2).2).2).1 < (is'.length : Int)) (
  some (decide ((ix is' ((((ix l k).2).2).1)) < (ix is' (((((ix l k).2).2).2).1)))))) else
  if (decide (((ix l k).1) = (2 : Int))) = true then
  G (0 ≤ (((ix l k).2).2).1 ∧ (((ix l k).2).2).1 < (is'.length : Int)) (
  G (0 ≤ ((((ix l k).2).2).2).1 ∧ ((((ix l k).2).2).2).1 < (is'.length : Int)) (
  some (decide ((ix is' ((((ix l k).2).2).1)) = (ix is' (((((ix l k).2).2).2).1)))))) else
  if (decide (((ix l k).1) = (3 : Int))) = true then
  G (0 ≤ ((((ix l k).2).2).2).1 ∧ ((((ix l k).2).2).2).1 < (is'.length : Int)) (
  G (0 ≤ (((ix l k).2).2).1 ∧ (((ix l k).2).2).1 < (is'.length : Int)) (
  G (fits ((ix is' ((((ix l k).2).2).1)) + (1 : Int))) (
  some (decide ((ix is' (((((ix l k).2).2).2).1)) = ((ix is' ((((ix l k).2).2).1)) + (1 : Int))))))) else
  if (decide (((ix l k).1) = (4 : Int))) = true then
  G (0 ≤ ((((ix l k).2).2).2).1 ∧ ((((ix l k).2).2).2).1 < (is'.length : Int)) (
  G (0 ≤ (((ix l k).2).2).1 ∧ (((ix l k).2).2).1 < (is'.length : Int)) (
  G (0 ≤ ix is' ((((ix l k).2).2).1)) (
  some (decide ((iand .i64 (ishr .i64 (ix is' (((((ix l k).2).2).2).1)) (ix is' ((((ix l k).2).2).1))) (1 : Int)) = (1 : Int)))))) else
  if (decide (((ix l k).1) = (5 : Int))) = true then
  (rc_r5_Holds l ((((ix l k).2).2).1) w is').bind (fun y' =>
  some (!y')) else
  if (decide (((ix l k).1) = (6 : Int))) = true then
  (rc_r5_Holds l ((((ix l k).2).2).1) w is').bind (fun y'_1 =>
  (rc_r5_Holds l (((((ix l k).2).2).2).1) w is').bind (fun y'_2 =>
  if y'_1 = true then
  some y'_2 else
  some false)) else
  if (decide (((ix l k).1) = (7 : Int))) = true then
  (rc_r5_Holds l ((((ix l k).2).2).1) w is').bind (fun y'_3 =>
  (rc_r5_Holds l (((((ix l k).2).2).2).1) w is').bind (fun y'_4 =>
  if y'_3 = true then
  some true else
  some y'_4)) else
  if ((((((ix l k).2).2).2).2).1) = true then
  G (0 ≤ (w.length : Int)) (
  r5_Holds_J26 rc_r5_Holds l k w is' (ishl .i64 (1 : Int) (w.length : Int))) else
  r5_Holds_J26 rc_r5_Holds l k w is' (w.length : Int))
theorem r5_Holds_L28_B_ch (rc_r5_Holds : Nat → Tf1) (rc_r5_Holds' : Tf1) (h_rc_r5_Holds : ∀ a0 a1 a2 a3, ChO (fun κ => rc_r5_Holds κ a0 a1 a2 a3) (rc_r5_Holds' a0 a1 a2 a3)) (r28 : Nat → Int → Option (Bool)) (r28' : Int → Option (Bool)) (h_r28 : ∀ a0, ChO (fun κ => r28 κ a0) (r28' a0)) (l : Tp1) (k : Int) (w : Tp3) (is' : Tp3) (all' : Int) (x' : Int) : ChO (fun κ => r5_Holds_L28_B (rc_r5_Holds κ) l k w is' all' (r28 κ) x') (r5_Holds_L28_B rc_r5_Holds' l k w is' all' r28' x') := by
  unfold r5_Holds_L28_B
  repeat' with_reducible first | exact ChO.const _ | exact h_rc_r5_Holds _ _ _ _ | exact h_r28 _ | apply ChO.ite | apply ChO.G | apply ChO.both | (apply ChO.bind; intro _) | (apply ChO.bind2 (h_rc_r5_Holds _ _ _ _); intro _)
theorem r5_Holds_L28_cn (rc_r5_Holds : Tf1) (l : Tp1) (k : Int) (w : Tp3) (is' : Tp3) (all' : Int) : Cn (r5_Holds_L28_F rc_r5_Holds l k w is' all') := fun g h hg x => r5_Holds_L28_B_ch (fun _ => rc_r5_Holds) rc_r5_Holds (fun _ _ _ _ => ChO.const _) (fun κ x' => g κ x') (fun x' => h x') (fun x' => hg x') l k w is' all' x
theorem r5_Holds_L28_eq (rc_r5_Holds : Tf1) (l : Tp1) (k : Int) (w : Tp3) (is' : Tp3) (all' : Int) (x' : Int) : r5_Holds_L28 rc_r5_Holds l k w is' all' x' = r5_Holds_L28_B rc_r5_Holds l k w is' all' (r5_Holds_L28 rc_r5_Holds l k w is' all') x' := LFix_eq (r5_Holds_L28_cn rc_r5_Holds l k w is' all') x'
theorem r5_Holds_L28_ch (rc_r5_Holds : Nat → Tf1) (rc_r5_Holds' : Tf1) (h_rc_r5_Holds : ∀ a0 a1 a2 a3, ChO (fun κ => rc_r5_Holds κ a0 a1 a2 a3) (rc_r5_Holds' a0 a1 a2 a3)) (l : Tp1) (k : Int) (w : Tp3) (is' : Tp3) (all' : Int) (x' : Int) : ChO (fun κ => r5_Holds_L28 (rc_r5_Holds κ) l k w is' all' x') (r5_Holds_L28 rc_r5_Holds' l k w is' all' x') := by
  unfold r5_Holds_L28
  exact LFix_ch (fun κ => (r5_Holds_L28_cn (rc_r5_Holds κ) l k w is' all').mono) (r5_Holds_L28_cn rc_r5_Holds' l k w is' all').mono (fun g h hg x => r5_Holds_L28_B_ch rc_r5_Holds rc_r5_Holds' h_rc_r5_Holds (fun κ x' => g κ x') (fun x' => h x') (fun x' => hg x') l k w is' all' x) _
theorem r5_Holds_J26_ch (rc_r5_Holds : Nat → Tf1) (rc_r5_Holds' : Tf1) (h_rc_r5_Holds : ∀ a0 a1 a2 a3, ChO (fun κ => rc_r5_Holds κ a0 a1 a2 a3) (rc_r5_Holds' a0 a1 a2 a3)) (l : Tp1) (k : Int) (w : Tp3) (is' : Tp3) (all' : Int) : ChO (fun κ => r5_Holds_J26 (rc_r5_Holds κ) l k w is' all') (r5_Holds_J26 rc_r5_Holds' l k w is' all') := by
  unfold r5_Holds_J26
  repeat' with_reducible first | exact ChO.const _ | exact h_rc_r5_Holds _ _ _ _ | (apply r5_Holds_L28_ch <;> assumption) | apply ChO.ite | apply ChO.G | apply ChO.both | (apply ChO.bind; intro _) | (apply ChO.bind2 (h_rc_r5_Holds _ _ _ _); intro _)
theorem r5_Holds_B_ch (rc_r5_Holds : Nat → Tf1) (rc_r5_Holds' : Tf1) (h_rc_r5_Holds : ∀ a0 a1 a2 a3, ChO (fun κ => rc_r5_Holds κ a0 a1 a2 a3) (rc_r5_Holds' a0 a1 a2 a3)) (l : Tp1) (k : Int) (w : Tp3) (is' : Tp3) : ChO (fun κ => r5_Holds_B (rc_r5_Holds κ) l k w is') (r5_Holds_B rc_r5_Holds' l k w is') := by
  unfold r5_Holds_B
  repeat' with_reducible first | exact ChO.const _ | exact h_rc_r5_Holds _ _ _ _ | (apply r5_Holds_L28_ch <;> assumption) | (apply r5_Holds_J26_ch <;> assumption) | apply ChO.ite | apply ChO.G | apply ChO.both | (apply ChO.bind; intro _) | (apply ChO.bind2 (h_rc_r5_Holds _ _ _ _); intro _)
noncomputable def r5_Holds_F : (Tp1 × Int × Tp3 × Tp3 → Option (Bool)) → Tp1 × Int × Tp3 × Tp3 → Option (Bool) :=
  fun rec X => r5_Holds_B (fun l k w is' => rec (l, k, w, is')) X.1 X.2.1 X.2.2.1 X.2.2.2
noncomputable def r5_Holds (l : Tp1) (k : Int) (w : Tp3) (is' : Tp3) : Option (Bool) := LFix r5_Holds_F (l, k, w, is')
theorem r5_Holds_cn : Cn r5_Holds_F := fun g h hg X => r5_Holds_B_ch _ _ (fun l k w is' => hg (l, k, w, is')) X.1 X.2.1 X.2.2.1 X.2.2.2
theorem r5_Holds_eq (l : Tp1) (k : Int) (w : Tp3) (is' : Tp3) : r5_Holds l k w is' = r5_Holds_B r5_Holds l k w is' := LFix_eq r5_Holds_cn (l, k, w, is')

noncomputable def law_LogicHolds (text : (List UInt8)) (w : Tp3) : Option (Bool) :=
  (logic_Holds text w).bind (fun y'_9 =>
  (r5_Parse text).bind (fun y'_8 =>
  if (decide (¬ y'_8.1.1 = (0 : Int))) = true then
  if (decide (y'_9.2 = (4 : Int))) = true then
  some (!y'_9.1) else
  some false else
  if (decide ((6 : Int) < (w.length : Int))) = true then
  if (decide (y'_9.2 = (1 : Int))) = true then
  some (!y'_9.1) else
  some false else
  (r1_May (2 : Int) w).bind (fun y'_6 =>
  if (decide (¬ y'_6 = (0 : Int))) = true then
  if (decide (y'_9.2 = y'_6)) = true then
  some (!y'_9.1) else
  some false else
  G (fits ((y'_8.2.length : Int) - (1 : Int))) (
  (r5_Holds y'_8.2 ((y'_8.2.length : Int) - (1 : Int)) w ([])).bind (fun y'_7 =>
  if (decide (y'_9.2 = (0 : Int))) = true then
  some (decide (y'_9.1 = y'_7)) else
  some false)))))

end Go.Proofs.Ytnpkoeleenhgbaa.logicHoldsW
