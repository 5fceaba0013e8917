/- What the functions that 'TimeReads' reaches compute: plain functions. -/
import Derived.Test.YtdobpnnpfehjnaaEv24n21
set_option maxHeartbeats 1000000
set_option maxRecDepth 20000
set_option linter.unusedSimpArgs false
set_option linter.unusedVariables false
set_option linter.unusedSectionVars false
namespace Go.Proofs.Ytdobpnnpfehjnaa.timeReadsW
open Go Go.Ab
abbrev Tp2 := (Int × Int × Int × Unit)
abbrev Tp1 := (List Tp2)
noncomputable def time_reader_now (r : ((List UInt8) × Int × Int × Int × Int × Tp1 × Unit)) : Option (Int) :=
  if (decide (r.2.1 = (r.1.length : Int))) = true then
  some (0 : Int) else
  G (0 ≤ r.2.1 ∧ r.2.1 < (r.1.length : Int)) (
  some (bAt r.1 r.2.1))

noncomputable def time_ofTime (b : Int) : Option (Bool) :=
  if (decide (b = (88 : Int))) = true then
  some true else
  if (decide (b = (70 : Int))) = true then
  some true else
  if (decide (b = (71 : Int))) = true then
  some true else
  if (decide (b = (85 : Int))) = true then
  some true else
  some (decide (b = (82 : Int)))

noncomputable def time_reader_fail (r : ((List UInt8) × Int × Int × Int × Int × Tp1 × Unit)) (code : Int) : Option ((Unit) ⊕ (Int × Int)) :=
  some (.inr ((((code, (r.2.1, ())), ())).1.1, (((code, (r.2.1, ())), ())).1.2.1))

noncomputable def time_reader_counted_J4 (r : (List UInt8)) (r_1 : Int) (r_2 : Int) (r_3 : Int) (r_4 : Int) (l_1 : Tp1) (t : Bool) : Option (((List UInt8) × Int × Int × Int × Int × Tp1) ⊕ (Int × Int)) :=
  if t = true then
  pbind (time_reader_fail (r, (r_1, (r_2, (r_3, (r_4, (l_1, ())))))) (7 : Int)) (fun _ =>
  G (fits (r_1 + (1 : Int))) (
  some (.inl (r, r_1 + (1 : Int), r_2, r_3, r_4, l_1)))) (fun p => some (.inr (p.1, p.2))) else
  G (fits (r_1 + (1 : Int))) (
  some (.inl (r, r_1 + (1 : Int), r_2, r_3, r_4, l_1)))
noncomputable def time_reader_counted_J3 (y'_1 : Bool) (r : (List UInt8)) (r_1 : Int) (r_2 : Int) (r_3 : Int) (r_4 : Int) (l_1 : Tp1) : Option (((List UInt8) × Int × Int × Int × Int × Tp1) ⊕ (Int × Int)) :=
  if (decide ((30 : Int) < r_2)) = true then
  time_reader_counted_J4 r r_1 r_2 r_3 r_4 l_1 true else
  if y'_1 = true then
  time_reader_counted_J4 r r_1 r_2 r_3 r_4 l_1 (decide ((5 : Int) < r_3)) else
  time_reader_counted_J4 r r_1 r_2 r_3 r_4 l_1 false
noncomputable def time_reader_counted (c : (List UInt8)) (c_1 : Int) (c_2 : Int) (c_3 : Int) (c_4 : Int) (l : Tp1) : Option (((List UInt8) × Int × Int × Int × Int × Tp1) ⊕ (Int × Int)) :=
  G (fits (c_2 + (1 : Int))) (
  (time_reader_now (c, (c_1, (c_2 + (1 : Int), (c_3, (c_4, (l, ()))))))).bind (fun y' =>
  (time_ofTime y').bind (fun y'_1 =>
  if y'_1 = true then
  G (fits (c_3 + (1 : Int))) (
  time_reader_counted_J3 y'_1 c c_1 (c_2 + (1 : Int)) (c_3 + (1 : Int)) c_4 l) else
  time_reader_counted_J3 y'_1 c c_1 (c_2 + (1 : Int)) c_3 c_4 l)))

noncomputable def time_reader_put (n : Tp2) (c : (List UInt8)) (c_1 : Int) (c_2 : Int) (c_3 : Int) (c_4 : Int) (l : Tp1) : Option (Int × (List UInt8) × Int × Int × Int × Int × Tp1) :=
  G (room l ([(n.1, (n.2.1, (n.2.2.1, ())))]) 24) (
  G (fits (((l ++ ([(n.1, (n.2.1, (n.2.2.1, ())))])).length : Int) - (1 : Int))) (
  some (((l ++ ([(n.1, (n.2.1, (n.2.2.1, ())))])).length : Int) - (1 : Int), c, c_1, c_2, c_3, c_4, l ++ ([(n.1, (n.2.1, (n.2.2.1, ())))]))))

noncomputable def time_reader_no (a : Int) (c : (List UInt8)) (c_1 : Int) (c_2 : Int) (c_3 : Int) (c_4 : Int) (l : Tp1) : Option (Int × (List UInt8) × Int × Int × Int × Int × Tp1) :=
  (time_reader_put ((3 : Int), (a, ((0 : Int), ()))) c c_1 c_2 c_3 c_4 l).bind (fun y'_8 =>
  some (y'_8.1, y'_8.2.1, y'_8.2.2.1, y'_8.2.2.2.1, y'_8.2.2.2.2.1, y'_8.2.2.2.2.2.1, y'_8.2.2.2.2.2.2))

noncomputable def time_reader_always (c : (List UInt8)) (c_1 : Int) (c_2 : Int) (c_3 : Int) (c_4 : Int) (l : Tp1) : Option (Int × (List UInt8) × Int × Int × Int × Int × Tp1) :=
  (time_reader_put ((0 : Int), ((0 : Int), ((0 : Int), ()))) c c_1 c_2 c_3 c_4 l).bind (fun y'_17 =>
  (time_reader_no y'_17.1 y'_17.2.1 y'_17.2.2.1 y'_17.2.2.2.1 y'_17.2.2.2.2.1 y'_17.2.2.2.2.2.1 y'_17.2.2.2.2.2.2).bind (fun y'_16 =>
  some (y'_16.1, y'_16.2.1, y'_16.2.2.1, y'_16.2.2.2.1, y'_16.2.2.2.2.1, y'_16.2.2.2.2.2.1, y'_16.2.2.2.2.2.2)))

noncomputable def time_reader_one_J24 (y'_134 : Int) (y'_135 : (List UInt8)) (y'_136 : Int) (y'_137 : Int) (y'_138 : Int) (y'_139 : Int) (y'_140 : Tp1) : Option ((Int × (List UInt8) × Int × Int × Int × Int × Tp1) ⊕ (Int × Int)) :=
  G (fits (y'_136 + (1 : Int))) (
  G (fits (y'_139 - (1 : Int))) (
  some (.inl (y'_134, y'_135, y'_136 + (1 : Int), y'_137, y'_138, y'_139 - (1 : Int), y'_140))))
noncomputable def time_reader_one_J19 (rc_time_reader_formula : (List UInt8) → Int → Int → Int → Int → Tp1 → Option ((Int × (List UInt8) × Int × Int × Int × Int × Tp1) ⊕ (Int × Int))) (c : (List UInt8)) (c_1 : Int) (c_2 : Int) (c_3 : Int) (c_4 : Int) (l : Tp1) : Option ((Int × (List UInt8) × Int × Int × Int × Int × Tp1) ⊕ (Int × Int)) :=
  G (fits (c_4 + (1 : Int))) (
  G (fits (c_1 + (1 : Int))) (
  pbind (rc_time_reader_formula c (c_1 + (1 : Int)) c_2 c_3 (c_4 + (1 : Int)) l) (fun y'_141 =>
  (time_reader_now (y'_141.2.1, (y'_141.2.2.1, (y'_141.2.2.2.1, (y'_141.2.2.2.2.1, (y'_141.2.2.2.2.2.1, (y'_141.2.2.2.2.2.2, ()))))))).bind (fun y'_142 =>
  if (decide (¬ y'_142 = (41 : Int))) = true then
  pbind (time_reader_fail (y'_141.2.1, (y'_141.2.2.1, (y'_141.2.2.2.1, (y'_141.2.2.2.2.1, (y'_141.2.2.2.2.2.1, (y'_141.2.2.2.2.2.2, ())))))) (4 : Int)) (fun _ =>
  time_reader_one_J24 y'_141.1 y'_141.2.1 y'_141.2.2.1 y'_141.2.2.2.1 y'_141.2.2.2.2.1 y'_141.2.2.2.2.2.1 y'_141.2.2.2.2.2.2) (fun p => some (.inr (p.1, p.2))) else
  time_reader_one_J24 y'_141.1 y'_141.2.1 y'_141.2.2.1 y'_141.2.2.2.1 y'_141.2.2.2.2.1 y'_141.2.2.2.2.2.1 y'_141.2.2.2.2.2.2)) (fun p => some (.inr (p.1, p.2)))))
noncomputable def time_reader_one_B (rc_time_reader_formula : (List UInt8) → Int → Int → Int → Int → Tp1 → Option ((Int × (List UInt8) × Int × Int × Int × Int × Tp1) ⊕ (Int × Int)))  (rc_time_reader_one : (List UInt8) → Int → Int → Int → Int → Tp1 → Option ((Int × (List UInt8) × Int × Int × Int × Int × Tp1) ⊕ (Int × Int))) (c : (List UInt8)) (c_1 : Int) (c_2 : Int) (c_3 : Int) (c_4 : Int) (l : Tp1) : Option ((Int × (List UInt8) × Int × Int × Int × Int × Tp1) ⊕ (Int × Int)) :=
  (time_reader_now (c, (c_1, (c_2, (c_3, (c_4, (l, ()))))))).bind (fun y' =>
  if (decide (y' = (33 : Int))) = true then
  pbind (time_reader_counted c c_1 c_2 c_3 c_4 l) (fun y'_7 =>
  pbind (rc_time_reader_one y'_7.1 y'_7.2.1 y'_7.2.2.1 y'_7.2.2.2.1 y'_7.2.2.2.2.1 y'_7.2.2.2.2.2) (fun y'_15 =>
  (time_reader_no y'_15.1 y'_15.2.1 y'_15.2.2.1 y'_15.2.2.2.1 y'_15.2.2.2.2.1 y'_15.2.2.2.2.2.1 y'_15.2.2.2.2.2.2).bind (fun y'_24 =>
  some (.inl (y'_24.1, y'_24.2.1, y'_24.2.2.1, y'_24.2.2.2.1, y'_24.2.2.2.2.1, y'_24.2.2.2.2.2.1, y'_24.2.2.2.2.2.2)))) (fun p => some (.inr (p.1, p.2)))) (fun p => some (.inr (p.1, p.2))) else
  if (decide (y' = (88 : Int))) = true then
  pbind (time_reader_counted c c_1 c_2 c_3 c_4 l) (fun y'_31 =>
  pbind (rc_time_reader_one y'_31.1 y'_31.2.1 y'_31.2.2.1 y'_31.2.2.2.1 y'_31.2.2.2.2.1 y'_31.2.2.2.2.2) (fun y'_39 =>
  (time_reader_put ((6 : Int), (y'_39.1, ((0 : Int), ()))) y'_39.2.1 y'_39.2.2.1 y'_39.2.2.2.1 y'_39.2.2.2.2.1 y'_39.2.2.2.2.2.1 y'_39.2.2.2.2.2.2).bind (fun y'_48 =>
  some (.inl (y'_48.1, y'_48.2.1, y'_48.2.2.1, y'_48.2.2.2.1, y'_48.2.2.2.2.1, y'_48.2.2.2.2.2.1, y'_48.2.2.2.2.2.2)))) (fun p => some (.inr (p.1, p.2)))) (fun p => some (.inr (p.1, p.2))) else
  if (decide (y' = (70 : Int))) = true then
  pbind (time_reader_counted c c_1 c_2 c_3 c_4 l) (fun y'_55 =>
  (time_reader_always y'_55.1 y'_55.2.1 y'_55.2.2.1 y'_55.2.2.2.1 y'_55.2.2.2.2.1 y'_55.2.2.2.2.2).bind (fun y'_81 =>
  pbind (rc_time_reader_one y'_81.2.1 y'_81.2.2.1 y'_81.2.2.2.1 y'_81.2.2.2.2.1 y'_81.2.2.2.2.2.1 y'_81.2.2.2.2.2.2) (fun y'_71 =>
  (time_reader_put ((7 : Int), (y'_81.1, (y'_71.1, ()))) y'_71.2.1 y'_71.2.2.1 y'_71.2.2.2.1 y'_71.2.2.2.2.1 y'_71.2.2.2.2.2.1 y'_71.2.2.2.2.2.2).bind (fun y'_80 =>
  some (.inl (y'_80.1, y'_80.2.1, y'_80.2.2.1, y'_80.2.2.2.1, y'_80.2.2.2.2.1, y'_80.2.2.2.2.2.1, y'_80.2.2.2.2.2.2)))) (fun p => some (.inr (p.1, p.2))))) (fun p => some (.inr (p.1, p.2))) else
  if (decide (y' = (71 : Int))) = true then
  pbind (time_reader_counted c c_1 c_2 c_3 c_4 l) (fun y'_88 =>
  (time_reader_always y'_88.1 y'_88.2.1 y'_88.2.2.1 y'_88.2.2.2.1 y'_88.2.2.2.2.1 y'_88.2.2.2.2.2).bind (fun y'_132 =>
  pbind (rc_time_reader_one y'_132.2.1 y'_132.2.2.1 y'_132.2.2.2.1 y'_132.2.2.2.2.1 y'_132.2.2.2.2.2.1 y'_132.2.2.2.2.2.2) (fun y'_104 =>
  (time_reader_no y'_104.1 y'_104.2.1 y'_104.2.2.1 y'_104.2.2.2.1 y'_104.2.2.2.2.1 y'_104.2.2.2.2.2.1 y'_104.2.2.2.2.2.2).bind (fun y'_131 =>
  (time_reader_put ((7 : Int), (y'_132.1, (y'_131.1, ()))) y'_131.2.1 y'_131.2.2.1 y'_131.2.2.2.1 y'_131.2.2.2.2.1 y'_131.2.2.2.2.2.1 y'_131.2.2.2.2.2.2).bind (fun y'_130 =>
  (time_reader_no y'_130.1 y'_130.2.1 y'_130.2.2.1 y'_130.2.2.2.1 y'_130.2.2.2.2.1 y'_130.2.2.2.2.2.1 y'_130.2.2.2.2.2.2).bind (fun y'_129 =>
  some (.inl (y'_129.1, y'_129.2.1, y'_129.2.2.1, y'_129.2.2.2.1, y'_129.2.2.2.2.1, y'_129.2.2.2.2.2.1, y'_129.2.2.2.2.2.2)))))) (fun p => some (.inr (p.1, p.2))))) (fun p => some (.inr (p.1, p.2))) else
  if (decide (y' = (40 : Int))) = true then
  if (decide (c_4 = (40 : Int))) = true then
  pbind (time_reader_fail (c, (c_1, (c_2, (c_3, (c_4, (l, ())))))) (7 : Int)) (fun _ =>
  time_reader_one_J19 rc_time_reader_formula c c_1 c_2 c_3 c_4 l) (fun p => some (.inr (p.1, p.2))) else
  time_reader_one_J19 rc_time_reader_formula c c_1 c_2 c_3 c_4 l else
  if (decide (y' = (112 : Int))) = true then
  pbind (time_reader_counted c c_1 c_2 c_3 c_4 l) (fun y'_150 =>
  (time_reader_put ((1 : Int), ((0 : Int), ((0 : Int), ()))) y'_150.1 y'_150.2.1 y'_150.2.2.1 y'_150.2.2.2.1 y'_150.2.2.2.2.1 y'_150.2.2.2.2.2).bind (fun y'_159 =>
  some (.inl (y'_159.1, y'_159.2.1, y'_159.2.2.1, y'_159.2.2.2.1, y'_159.2.2.2.2.1, y'_159.2.2.2.2.2.1, y'_159.2.2.2.2.2.2)))) (fun p => some (.inr (p.1, p.2))) else
  if (decide (y' = (113 : Int))) = true then
  pbind (time_reader_counted c c_1 c_2 c_3 c_4 l) (fun y'_166 =>
  (time_reader_put ((2 : Int), ((0 : Int), ((0 : Int), ()))) y'_166.1 y'_166.2.1 y'_166.2.2.1 y'_166.2.2.2.1 y'_166.2.2.2.2.1 y'_166.2.2.2.2.2).bind (fun y'_175 =>
  some (.inl (y'_175.1, y'_175.2.1, y'_175.2.2.1, y'_175.2.2.2.1, y'_175.2.2.2.2.1, y'_175.2.2.2.2.2.1, y'_175.2.2.2.2.2.2)))) (fun p => some (.inr (p.1, p.2))) else
  if (decide (y' = (48 : Int))) = true then
  pbind (time_reader_counted c c_1 c_2 c_3 c_4 l) (fun y'_182 =>
  (time_reader_put ((0 : Int), ((0 : Int), ((0 : Int), ()))) y'_182.1 y'_182.2.1 y'_182.2.2.1 y'_182.2.2.2.1 y'_182.2.2.2.2.1 y'_182.2.2.2.2.2).bind (fun y'_191 =>
  some (.inl (y'_191.1, y'_191.2.1, y'_191.2.2.1, y'_191.2.2.2.1, y'_191.2.2.2.2.1, y'_191.2.2.2.2.2.1, y'_191.2.2.2.2.2.2)))) (fun p => some (.inr (p.1, p.2))) else
  if (decide (y' = (49 : Int))) = true then
  pbind (time_reader_counted c c_1 c_2 c_3 c_4 l) (fun y'_198 =>
  (time_reader_always y'_198.1 y'_198.2.1 y'_198.2.2.1 y'_198.2.2.2.1 y'_198.2.2.2.2.1 y'_198.2.2.2.2.2).bind (fun y'_207 =>
  some (.inl (y'_207.1, y'_207.2.1, y'_207.2.2.1, y'_207.2.2.2.1, y'_207.2.2.2.2.1, y'_207.2.2.2.2.2.1, y'_207.2.2.2.2.2.2)))) (fun p => some (.inr (p.1, p.2))) else
  pbind (time_reader_fail (c, (c_1, (c_2, (c_3, (c_4, (l, ())))))) (4 : Int)) (fun _ =>
  some (.inl ((0 : Int), c, c_1, c_2, c_3, c_4, l))) (fun p => some (.inr (p.1, p.2))))
noncomputable def time_reader_one_F (rc_time_reader_formula : (List UInt8) → Int → Int → Int → Int → Tp1 → Option ((Int × (List UInt8) × Int × Int × Int × Int × Tp1) ⊕ (Int × Int)))  : ((List UInt8) × Int × Int × Int × Int × Tp1 → Option ((Int × (List UInt8) × Int × Int × Int × Int × Tp1) ⊕ (Int × Int))) → (List UInt8) × Int × Int × Int × Int × Tp1 → Option ((Int × (List UInt8) × Int × Int × Int × Int × Tp1) ⊕ (Int × Int)) :=
  fun rec x => time_reader_one_B rc_time_reader_formula (fun c c_1 c_2 c_3 c_4 l => rec (c, c_1, c_2, c_3, c_4, l)) x.1 x.2.1 x.2.2.1 x.2.2.2.1 x.2.2.2.2.1 x.2.2.2.2.2
noncomputable def time_reader_one (rc_time_reader_formula : (List UInt8) → Int → Int → Int → Int → Tp1 → Option ((Int × (List UInt8) × Int × Int × Int × Int × Tp1) ⊕ (Int × Int)))  (c : (List UInt8)) (c_1 : Int) (c_2 : Int) (c_3 : Int) (c_4 : Int) (l : Tp1) : Option ((Int × (List UInt8) × Int × Int × Int × Int × Tp1) ⊕ (Int × Int)) := LFix (time_reader_one_F rc_time_reader_formula ) (c, c_1, c_2, c_3, c_4, l)
noncomputable def time_reader_part_B (rc_time_reader_formula : (List UInt8) → Int → Int → Int → Int → Tp1 → Option ((Int × (List UInt8) × Int × Int × Int × Int × Tp1) ⊕ (Int × Int)))  (rc_time_reader_part : (List UInt8) → Int → Int → Int → Int → Tp1 → Option ((Int × (List UInt8) × Int × Int × Int × Int × Tp1) ⊕ (Int × Int))) (c : (List UInt8)) (c_1 : Int) (c_2 : Int) (c_3 : Int) (c_4 : Int) (l : Tp1) : Option ((Int × (List UInt8) × Int × Int × Int × Int × Tp1) ⊕ (Int × Int)) :=
  pbind (time_reader_one rc_time_reader_formula c c_1 c_2 c_3 c_4 l) (fun y'_7 =>
  (time_reader_now (y'_7.2.1, (y'_7.2.2.1, (y'_7.2.2.2.1, (y'_7.2.2.2.2.1, (y'_7.2.2.2.2.2.1, (y'_7.2.2.2.2.2.2, ()))))))).bind (fun y'_8 =>
  if (decide (y'_8 = (85 : Int))) = true then
  pbind (time_reader_counted y'_7.2.1 y'_7.2.2.1 y'_7.2.2.2.1 y'_7.2.2.2.2.1 y'_7.2.2.2.2.2.1 y'_7.2.2.2.2.2.2) (fun y'_15 =>
  pbind (rc_time_reader_part y'_15.1 y'_15.2.1 y'_15.2.2.1 y'_15.2.2.2.1 y'_15.2.2.2.2.1 y'_15.2.2.2.2.2) (fun y'_23 =>
  (time_reader_put ((7 : Int), (y'_7.1, (y'_23.1, ()))) y'_23.2.1 y'_23.2.2.1 y'_23.2.2.2.1 y'_23.2.2.2.2.1 y'_23.2.2.2.2.2.1 y'_23.2.2.2.2.2.2).bind (fun y'_32 =>
  some (.inl (y'_32.1, y'_32.2.1, y'_32.2.2.1, y'_32.2.2.2.1, y'_32.2.2.2.2.1, y'_32.2.2.2.2.2.1, y'_32.2.2.2.2.2.2)))) (fun p => some (.inr (p.1, p.2)))) (fun p => some (.inr (p.1, p.2))) else
  if (decide (y'_8 = (82 : Int))) = true then
  pbind (time_reader_counted y'_7.2.1 y'_7.2.2.1 y'_7.2.2.2.1 y'_7.2.2.2.2.1 y'_7.2.2.2.2.2.1 y'_7.2.2.2.2.2.2) (fun y'_39 =>
  (time_reader_no y'_7.1 y'_39.1 y'_39.2.1 y'_39.2.2.1 y'_39.2.2.2.1 y'_39.2.2.2.2.1 y'_39.2.2.2.2.2).bind (fun y'_83 =>
  pbind (rc_time_reader_part y'_83.2.1 y'_83.2.2.1 y'_83.2.2.2.1 y'_83.2.2.2.2.1 y'_83.2.2.2.2.2.1 y'_83.2.2.2.2.2.2) (fun y'_55 =>
  (time_reader_no y'_55.1 y'_55.2.1 y'_55.2.2.1 y'_55.2.2.2.1 y'_55.2.2.2.2.1 y'_55.2.2.2.2.2.1 y'_55.2.2.2.2.2.2).bind (fun y'_82 =>
  (time_reader_put ((7 : Int), (y'_83.1, (y'_82.1, ()))) y'_82.2.1 y'_82.2.2.1 y'_82.2.2.2.1 y'_82.2.2.2.2.1 y'_82.2.2.2.2.2.1 y'_82.2.2.2.2.2.2).bind (fun y'_81 =>
  (time_reader_no y'_81.1 y'_81.2.1 y'_81.2.2.1 y'_81.2.2.2.1 y'_81.2.2.2.2.1 y'_81.2.2.2.2.2.1 y'_81.2.2.2.2.2.2).bind (fun y'_80 =>
  some (.inl (y'_80.1, y'_80.2.1, y'_80.2.2.1, y'_80.2.2.2.1, y'_80.2.2.2.2.1, y'_80.2.2.2.2.2.1, y'_80.2.2.2.2.2.2)))))) (fun p => some (.inr (p.1, p.2))))) (fun p => some (.inr (p.1, p.2))) else
  some (.inl (y'_7.1, y'_7.2.1, y'_7.2.2.1, y'_7.2.2.2.1, y'_7.2.2.2.2.1, y'_7.2.2.2.2.2.1, y'_7.2.2.2.2.2.2)))) (fun p => some (.inr (p.1, p.2)))
noncomputable def time_reader_part_F (rc_time_reader_formula : (List UInt8) → Int → Int → Int → Int → Tp1 → Option ((Int × (List UInt8) × Int × Int × Int × Int × Tp1) ⊕ (Int × Int)))  : ((List UInt8) × Int × Int × Int × Int × Tp1 → Option ((Int × (List UInt8) × Int × Int × Int × Int × Tp1) ⊕ (Int × Int))) → (List UInt8) × Int × Int × Int × Int × Tp1 → Option ((Int × (List UInt8) × Int × Int × Int × Int × Tp1) ⊕ (Int × Int)) :=
  fun rec x => time_reader_part_B rc_time_reader_formula (fun c c_1 c_2 c_3 c_4 l => rec (c, c_1, c_2, c_3, c_4, l)) x.1 x.2.1 x.2.2.1 x.2.2.2.1 x.2.2.2.2.1 x.2.2.2.2.2
noncomputable def time_reader_part (rc_time_reader_formula : (List UInt8) → Int → Int → Int → Int → Tp1 → Option ((Int × (List UInt8) × Int × Int × Int × Int × Tp1) ⊕ (Int × Int)))  (c : (List UInt8)) (c_1 : Int) (c_2 : Int) (c_3 : Int) (c_4 : Int) (l : Tp1) : Option ((Int × (List UInt8) × Int × Int × Int × Int × Tp1) ⊕ (Int × Int)) := LFix (time_reader_part_F rc_time_reader_formula ) (c, c_1, c_2, c_3, c_4, l)
noncomputable def time_reader_term_L2_B (rc_time_reader_formula : (List UInt8) → Int → Int → Int → Int → Tp1 → Option ((Int × (List UInt8) × Int × Int × Int × Int × Tp1) ⊕ (Int × Int)))  (r2 : Int → (List UInt8) → Int → Int → Int → Int → Tp1 → Option ((Int × (List UInt8) × Int × Int × Int × Int × Tp1) ⊕ (Int × Int))) (n : Int) (r : (List UInt8)) (r_1 : Int) (r_2 : Int) (r_3 : Int) (r_4 : Int) (l_1 : Tp1) : Option ((Int × (List UInt8) × Int × Int × Int × Int × Tp1) ⊕ (Int × Int)) :=
  (time_reader_now (r, (r_1, (r_2, (r_3, (r_4, (l_1, ()))))))).bind (fun y'_8 =>
  if (decide (y'_8 = (38 : Int))) = true then
  pbind (time_reader_counted r r_1 r_2 r_3 r_4 l_1) (fun y'_15 =>
  pbind (time_reader_part rc_time_reader_formula y'_15.1 y'_15.2.1 y'_15.2.2.1 y'_15.2.2.2.1 y'_15.2.2.2.2.1 y'_15.2.2.2.2.2) (fun y'_23 =>
  (time_reader_put ((4 : Int), (n, (y'_23.1, ()))) y'_23.2.1 y'_23.2.2.1 y'_23.2.2.2.1 y'_23.2.2.2.2.1 y'_23.2.2.2.2.2.1 y'_23.2.2.2.2.2.2).bind (fun y'_32 =>
  r2 y'_32.1 y'_32.2.1 y'_32.2.2.1 y'_32.2.2.2.1 y'_32.2.2.2.2.1 y'_32.2.2.2.2.2.1 y'_32.2.2.2.2.2.2)) (fun p => some (.inr (p.1, p.2)))) (fun p => some (.inr (p.1, p.2))) else
  some (.inl (n, r, r_1, r_2, r_3, r_4, l_1)))
noncomputable def time_reader_term_L2_F (rc_time_reader_formula : (List UInt8) → Int → Int → Int → Int → Tp1 → Option ((Int × (List UInt8) × Int × Int × Int × Int × Tp1) ⊕ (Int × Int)))  : (Int × (List UInt8) × Int × Int × Int × Int × Tp1 → Option ((Int × (List UInt8) × Int × Int × Int × Int × Tp1) ⊕ (Int × Int))) → Int × (List UInt8) × Int × Int × Int × Int × Tp1 → Option ((Int × (List UInt8) × Int × Int × Int × Int × Tp1) ⊕ (Int × Int)) :=
  fun rec x => time_reader_term_L2_B rc_time_reader_formula (fun n r r_1 r_2 r_3 r_4 l_1 => rec (n, r, r_1, r_2, r_3, r_4, l_1)) x.1 x.2.1 x.2.2.1 x.2.2.2.1 x.2.2.2.2.1 x.2.2.2.2.2.1 x.2.2.2.2.2.2
noncomputable def time_reader_term_L2 (rc_time_reader_formula : (List UInt8) → Int → Int → Int → Int → Tp1 → Option ((Int × (List UInt8) × Int × Int × Int × Int × Tp1) ⊕ (Int × Int)))  (n : Int) (r : (List UInt8)) (r_1 : Int) (r_2 : Int) (r_3 : Int) (r_4 : Int) (l_1 : Tp1) : Option ((Int × (List UInt8) × Int × Int × Int × Int × Tp1) ⊕ (Int × Int)) := LFix (time_reader_term_L2_F rc_time_reader_formula ) (n, r, r_1, r_2, r_3, r_4, l_1)
noncomputable def time_reader_term (rc_time_reader_formula : (List UInt8) → Int → Int → Int → Int → Tp1 → Option ((Int × (List UInt8) × Int × Int × Int × Int × Tp1) ⊕ (Int × Int))) (c : (List UInt8)) (c_1 : Int) (c_2 : Int) (c_3 : Int) (c_4 : Int) (l : Tp1) : Option ((Int × (List UInt8) × Int × Int × Int × Int × Tp1) ⊕ (Int × Int)) :=
  pbind (time_reader_part rc_time_reader_formula c c_1 c_2 c_3 c_4 l) (fun y'_7 =>
  time_reader_term_L2 rc_time_reader_formula y'_7.1 y'_7.2.1 y'_7.2.2.1 y'_7.2.2.2.1 y'_7.2.2.2.2.1 y'_7.2.2.2.2.2.1 y'_7.2.2.2.2.2.2) (fun p => some (.inr (p.1, p.2)))
noncomputable def time_reader_formula_L2_B (rc_time_reader_formula : (List UInt8) → Int → Int → Int → Int → Tp1 → Option ((Int × (List UInt8) × Int × Int × Int × Int × Tp1) ⊕ (Int × Int)))  (r2 : Int → (List UInt8) → Int → Int → Int → Int → Tp1 → Option ((Int × (List UInt8) × Int × Int × Int × Int × Tp1) ⊕ (Int × Int))) (n : Int) (r : (List UInt8)) (r_1 : Int) (r_2 : Int) (r_3 : Int) (r_4 : Int) (l_1 : Tp1) : Option ((Int × (List UInt8) × Int × Int × Int × Int × Tp1) ⊕ (Int × Int)) :=
  (time_reader_now (r, (r_1, (r_2, (r_3, (r_4, (l_1, ()))))))).bind (fun y'_8 =>
  if (decide (y'_8 = (124 : Int))) = true then
  pbind (time_reader_counted r r_1 r_2 r_3 r_4 l_1) (fun y'_15 =>
  pbind (time_reader_term rc_time_reader_formula y'_15.1 y'_15.2.1 y'_15.2.2.1 y'_15.2.2.2.1 y'_15.2.2.2.2.1 y'_15.2.2.2.2.2) (fun y'_23 =>
  (time_reader_put ((5 : Int), (n, (y'_23.1, ()))) y'_23.2.1 y'_23.2.2.1 y'_23.2.2.2.1 y'_23.2.2.2.2.1 y'_23.2.2.2.2.2.1 y'_23.2.2.2.2.2.2).bind (fun y'_32 =>
  r2 y'_32.1 y'_32.2.1 y'_32.2.2.1 y'_32.2.2.2.1 y'_32.2.2.2.2.1 y'_32.2.2.2.2.2.1 y'_32.2.2.2.2.2.2)) (fun p => some (.inr (p.1, p.2)))) (fun p => some (.inr (p.1, p.2))) else
  some (.inl (n, r, r_1, r_2, r_3, r_4, l_1)))
noncomputable def time_reader_formula_L2_F (rc_time_reader_formula : (List UInt8) → Int → Int → Int → Int → Tp1 → Option ((Int × (List UInt8) × Int × Int × Int × Int × Tp1) ⊕ (Int × Int)))  : (Int × (List UInt8) × Int × Int × Int × Int × Tp1 → Option ((Int × (List UInt8) × Int × Int × Int × Int × Tp1) ⊕ (Int × Int))) → Int × (List UInt8) × Int × Int × Int × Int × Tp1 → Option ((Int × (List UInt8) × Int × Int × Int × Int × Tp1) ⊕ (Int × Int)) :=
  fun rec x => time_reader_formula_L2_B rc_time_reader_formula (fun n r r_1 r_2 r_3 r_4 l_1 => rec (n, r, r_1, r_2, r_3, r_4, l_1)) x.1 x.2.1 x.2.2.1 x.2.2.2.1 x.2.2.2.2.1 x.2.2.2.2.2.1 x.2.2.2.2.2.2
noncomputable def time_reader_formula_L2 (rc_time_reader_formula : (List UInt8) → Int → Int → Int → Int → Tp1 → Option ((Int × (List UInt8) × Int × Int × Int × Int × Tp1) ⊕ (Int × Int)))  (n : Int) (r : (List UInt8)) (r_1 : Int) (r_2 : Int) (r_3 : Int) (r_4 : Int) (l_1 : Tp1) : Option ((Int × (List UInt8) × Int × Int × Int × Int × Tp1) ⊕ (Int × Int)) := LFix (time_reader_formula_L2_F rc_time_reader_formula ) (n, r, r_1, r_2, r_3, r_4, l_1)
noncomputable def time_reader_formula_B (rc_time_reader_formula : (List UInt8) → Int → Int → Int → Int → Tp1 → Option ((Int × (List UInt8) × Int × Int × Int × Int × Tp1) ⊕ (Int × Int))) (c : (List UInt8)) (c_1 : Int) (c_2 : Int) (c_3 : Int) (c_4 : Int) (l : Tp1) : Option ((Int × (List UInt8) × Int × Int × Int × Int × Tp1) ⊕ (Int × Int)) :=
  pbind (time_reader_term rc_time_reader_formula c c_1 c_2 c_3 c_4 l) (fun y'_7 =>
  time_reader_formula_L2 rc_time_reader_formula y'_7.1 y'_7.2.1 y'_7.2.2.1 y'_7.2.2.2.1 y'_7.2.2.2.2.1 y'_7.2.2.2.2.2.1 y'_7.2.2.2.2.2.2) (fun p => some (.inr (p.1, p.2)))
theorem time_reader_one_J19_ch (rc_time_reader_formula : Nat → (List UInt8) → Int → Int → Int → Int → Tp1 → Option ((Int × (List UInt8) × Int × Int × Int × Int × Tp1) ⊕ (Int × Int))) (rc_time_reader_formula' : (List UInt8) → Int → Int → Int → Int → Tp1 → Option ((Int × (List UInt8) × Int × Int × Int × Int × Tp1) ⊕ (Int × Int))) (h_rc_time_reader_formula : ∀ a0 a1 a2 a3 a4 a5, ChO (fun κ => rc_time_reader_formula κ a0 a1 a2 a3 a4 a5) (rc_time_reader_formula' a0 a1 a2 a3 a4 a5)) (c : (List UInt8)) (c_1 : Int) (c_2 : Int) (c_3 : Int) (c_4 : Int) (l : Tp1) : ChO (fun κ => time_reader_one_J19 (rc_time_reader_formula κ) c c_1 c_2 c_3 c_4 l) (time_reader_one_J19 rc_time_reader_formula' c c_1 c_2 c_3 c_4 l) := by
  unfold time_reader_one_J19
  repeat' with_reducible first | exact ChO.const _ | exact h_rc_time_reader_formula _ _ _ _ _ _ | apply ChO.ite | apply ChO.G | apply ChO.both | apply ChO.bothS | (apply ChO.bind; intro _) | (apply ChO.bind2 (h_rc_time_reader_formula _ _ _ _ _ _); intro _) | (refine ChO.bind2 ?_ (fun _ => ?_)) | (refine ChO.pbind (fun _ => ?_) (fun _ => ?_)) | (refine ChO.pbind2 ?_ (fun _ => ?_) (fun _ => ?_))
theorem time_reader_one_B_ch (rc_time_reader_formula : Nat → (List UInt8) → Int → Int → Int → Int → Tp1 → Option ((Int × (List UInt8) × Int × Int × Int × Int × Tp1) ⊕ (Int × Int))) (rc_time_reader_formula' : (List UInt8) → Int → Int → Int → Int → Tp1 → Option ((Int × (List UInt8) × Int × Int × Int × Int × Tp1) ⊕ (Int × Int))) (h_rc_time_reader_formula : ∀ a0 a1 a2 a3 a4 a5, ChO (fun κ => rc_time_reader_formula κ a0 a1 a2 a3 a4 a5) (rc_time_reader_formula' a0 a1 a2 a3 a4 a5)) (rc_time_reader_one : Nat → (List UInt8) → Int → Int → Int → Int → Tp1 → Option ((Int × (List UInt8) × Int × Int × Int × Int × Tp1) ⊕ (Int × Int))) (rc_time_reader_one' : (List UInt8) → Int → Int → Int → Int → Tp1 → Option ((Int × (List UInt8) × Int × Int × Int × Int × Tp1) ⊕ (Int × Int))) (h_rc_time_reader_one : ∀ a0 a1 a2 a3 a4 a5, ChO (fun κ => rc_time_reader_one κ a0 a1 a2 a3 a4 a5) (rc_time_reader_one' a0 a1 a2 a3 a4 a5)) (c : (List UInt8)) (c_1 : Int) (c_2 : Int) (c_3 : Int) (c_4 : Int) (l : Tp1) : ChO (fun κ => time_reader_one_B (rc_time_reader_formula κ) (rc_time_reader_one κ) c c_1 c_2 c_3 c_4 l) (time_reader_one_B rc_time_reader_formula' rc_time_reader_one' c c_1 c_2 c_3 c_4 l) := by
  unfold time_reader_one_B
  repeat' with_reducible first | exact ChO.const _ | exact h_rc_time_reader_formula _ _ _ _ _ _ | exact h_rc_time_reader_one _ _ _ _ _ _ | (apply time_reader_one_J19_ch <;> assumption) | apply ChO.ite | apply ChO.G | apply ChO.both | apply ChO.bothS | (apply ChO.bind; intro _) | (apply ChO.bind2 (h_rc_time_reader_formula _ _ _ _ _ _); intro _) | (refine ChO.bind2 ?_ (fun _ => ?_)) | (refine ChO.pbind (fun _ => ?_) (fun _ => ?_)) | (refine ChO.pbind2 ?_ (fun _ => ?_) (fun _ => ?_))
theorem time_reader_one_cn (rc_time_reader_formula : (List UInt8) → Int → Int → Int → Int → Tp1 → Option ((Int × (List UInt8) × Int × Int × Int × Int × Tp1) ⊕ (Int × Int)))  : Cn (time_reader_one_F rc_time_reader_formula) := fun g h hg x => time_reader_one_B_ch (fun _ => rc_time_reader_formula) rc_time_reader_formula (fun _ _ _ _ _ _ => ChO.const _) (fun κ c c_1 c_2 c_3 c_4 l => g κ (c, c_1, c_2, c_3, c_4, l)) (fun c c_1 c_2 c_3 c_4 l => h (c, c_1, c_2, c_3, c_4, l)) (fun c c_1 c_2 c_3 c_4 l => hg (c, c_1, c_2, c_3, c_4, l))  x.1 x.2.1 x.2.2.1 x.2.2.2.1 x.2.2.2.2.1 x.2.2.2.2.2
theorem time_reader_one_eq (rc_time_reader_formula : (List UInt8) → Int → Int → Int → Int → Tp1 → Option ((Int × (List UInt8) × Int × Int × Int × Int × Tp1) ⊕ (Int × Int)))  (c : (List UInt8)) (c_1 : Int) (c_2 : Int) (c_3 : Int) (c_4 : Int) (l : Tp1) : time_reader_one rc_time_reader_formula c c_1 c_2 c_3 c_4 l = time_reader_one_B rc_time_reader_formula (time_reader_one rc_time_reader_formula) c c_1 c_2 c_3 c_4 l := LFix_eq (time_reader_one_cn rc_time_reader_formula) (c, c_1, c_2, c_3, c_4, l)
theorem time_reader_one_ch (rc_time_reader_formula : Nat → (List UInt8) → Int → Int → Int → Int → Tp1 → Option ((Int × (List UInt8) × Int × Int × Int × Int × Tp1) ⊕ (Int × Int))) (rc_time_reader_formula' : (List UInt8) → Int → Int → Int → Int → Tp1 → Option ((Int × (List UInt8) × Int × Int × Int × Int × Tp1) ⊕ (Int × Int))) (h_rc_time_reader_formula : ∀ a0 a1 a2 a3 a4 a5, ChO (fun κ => rc_time_reader_formula κ a0 a1 a2 a3 a4 a5) (rc_time_reader_formula' a0 a1 a2 a3 a4 a5))  (c : (List UInt8)) (c_1 : Int) (c_2 : Int) (c_3 : Int) (c_4 : Int) (l : Tp1) : ChO (fun κ => time_reader_one (rc_time_reader_formula κ) c c_1 c_2 c_3 c_4 l) (time_reader_one rc_time_reader_formula' c c_1 c_2 c_3 c_4 l) := by
  unfold time_reader_one
  exact LFix_ch (fun κ => (time_reader_one_cn (rc_time_reader_formula κ) ).mono) (time_reader_one_cn rc_time_reader_formula' ).mono (fun g h hg x => time_reader_one_B_ch rc_time_reader_formula rc_time_reader_formula' h_rc_time_reader_formula (fun κ c c_1 c_2 c_3 c_4 l => g κ (c, c_1, c_2, c_3, c_4, l)) (fun c c_1 c_2 c_3 c_4 l => h (c, c_1, c_2, c_3, c_4, l)) (fun c c_1 c_2 c_3 c_4 l => hg (c, c_1, c_2, c_3, c_4, l))  x.1 x.2.1 x.2.2.1 x.2.2.2.1 x.2.2.2.2.1 x.2.2.2.2.2) _
theorem time_reader_part_B_ch (rc_time_reader_formula : Nat → (List UInt8) → Int → Int → Int → Int → Tp1 → Option ((Int × (List UInt8) × Int × Int × Int × Int × Tp1) ⊕ (Int × Int))) (rc_time_reader_formula' : (List UInt8) → Int → Int → Int → Int → Tp1 → Option ((Int × (List UInt8) × Int × Int × Int × Int × Tp1) ⊕ (Int × Int))) (h_rc_time_reader_formula : ∀ a0 a1 a2 a3 a4 a5, ChO (fun κ => rc_time_reader_formula κ a0 a1 a2 a3 a4 a5) (rc_time_reader_formula' a0 a1 a2 a3 a4 a5)) (rc_time_reader_part : Nat → (List UInt8) → Int → Int → Int → Int → Tp1 → Option ((Int × (List UInt8) × Int × Int × Int × Int × Tp1) ⊕ (Int × Int))) (rc_time_reader_part' : (List UInt8) → Int → Int → Int → Int → Tp1 → Option ((Int × (List UInt8) × Int × Int × Int × Int × Tp1) ⊕ (Int × Int))) (h_rc_time_reader_part : ∀ a0 a1 a2 a3 a4 a5, ChO (fun κ => rc_time_reader_part κ a0 a1 a2 a3 a4 a5) (rc_time_reader_part' a0 a1 a2 a3 a4 a5)) (c : (List UInt8)) (c_1 : Int) (c_2 : Int) (c_3 : Int) (c_4 : Int) (l : Tp1) : ChO (fun κ => time_reader_part_B (rc_time_reader_formula κ) (rc_time_reader_part κ) c c_1 c_2 c_3 c_4 l) (time_reader_part_B rc_time_reader_formula' rc_time_reader_part' c c_1 c_2 c_3 c_4 l) := by
  unfold time_reader_part_B
  repeat' with_reducible first | exact ChO.const _ | exact h_rc_time_reader_formula _ _ _ _ _ _ | exact h_rc_time_reader_part _ _ _ _ _ _ | (apply time_reader_one_J19_ch <;> assumption) | (apply time_reader_one_ch <;> assumption) | apply ChO.ite | apply ChO.G | apply ChO.both | apply ChO.bothS | (apply ChO.bind; intro _) | (apply ChO.bind2 (h_rc_time_reader_formula _ _ _ _ _ _); intro _) | (refine ChO.bind2 ?_ (fun _ => ?_)) | (refine ChO.pbind (fun _ => ?_) (fun _ => ?_)) | (refine ChO.pbind2 ?_ (fun _ => ?_) (fun _ => ?_))
theorem time_reader_part_cn (rc_time_reader_formula : (List UInt8) → Int → Int → Int → Int → Tp1 → Option ((Int × (List UInt8) × Int × Int × Int × Int × Tp1) ⊕ (Int × Int)))  : Cn (time_reader_part_F rc_time_reader_formula) := fun g h hg x => time_reader_part_B_ch (fun _ => rc_time_reader_formula) rc_time_reader_formula (fun _ _ _ _ _ _ => ChO.const _) (fun κ c c_1 c_2 c_3 c_4 l => g κ (c, c_1, c_2, c_3, c_4, l)) (fun c c_1 c_2 c_3 c_4 l => h (c, c_1, c_2, c_3, c_4, l)) (fun c c_1 c_2 c_3 c_4 l => hg (c, c_1, c_2, c_3, c_4, l))  x.1 x.2.1 x.2.2.1 x.2.2.2.1 x.2.2.2.2.1 x.2.2.2.2.2
theorem time_reader_part_eq (rc_time_reader_formula : (List UInt8) → Int → Int → Int → Int → Tp1 → Option ((Int × (List UInt8) × Int × Int × Int × Int × Tp1) ⊕ (Int × Int)))  (c : (List UInt8)) (c_1 : Int) (c_2 : Int) (c_3 : Int) (c_4 : Int) (l : Tp1) : time_reader_part rc_time_reader_formula c c_1 c_2 c_3 c_4 l = time_reader_part_B rc_time_reader_formula (time_reader_part rc_time_reader_formula) c c_1 c_2 c_3 c_4 l := LFix_eq (time_reader_part_cn rc_time_reader_formula) (c, c_1, c_2, c_3, c_4, l)
theorem time_reader_part_ch (rc_time_reader_formula : Nat → (List UInt8) → Int → Int → Int → Int → Tp1 → Option ((Int × (List UInt8) × Int × Int × Int × Int × Tp1) ⊕ (Int × Int))) (rc_time_reader_formula' : (List UInt8) → Int → Int → Int → Int → Tp1 → Option ((Int × (List UInt8) × Int × Int × Int × Int × Tp1) ⊕ (Int × Int))) (h_rc_time_reader_formula : ∀ a0 a1 a2 a3 a4 a5, ChO (fun κ => rc_time_reader_formula κ a0 a1 a2 a3 a4 a5) (rc_time_reader_formula' a0 a1 a2 a3 a4 a5))  (c : (List UInt8)) (c_1 : Int) (c_2 : Int) (c_3 : Int) (c_4 : Int) (l : Tp1) : ChO (fun κ => time_reader_part (rc_time_reader_formula κ) c c_1 c_2 c_3 c_4 l) (time_reader_part rc_time_reader_formula' c c_1 c_2 c_3 c_4 l) := by
  unfold time_reader_part
  exact LFix_ch (fun κ => (time_reader_part_cn (rc_time_reader_formula κ) ).mono) (time_reader_part_cn rc_time_reader_formula' ).mono (fun g h hg x => time_reader_part_B_ch rc_time_reader_formula rc_time_reader_formula' h_rc_time_reader_formula (fun κ c c_1 c_2 c_3 c_4 l => g κ (c, c_1, c_2, c_3, c_4, l)) (fun c c_1 c_2 c_3 c_4 l => h (c, c_1, c_2, c_3, c_4, l)) (fun c c_1 c_2 c_3 c_4 l => hg (c, c_1, c_2, c_3, c_4, l))  x.1 x.2.1 x.2.2.1 x.2.2.2.1 x.2.2.2.2.1 x.2.2.2.2.2) _
theorem time_reader_term_L2_B_ch (rc_time_reader_formula : Nat → (List UInt8) → Int → Int → Int → Int → Tp1 → Option ((Int × (List UInt8) × Int × Int × Int × Int × Tp1) ⊕ (Int × Int))) (rc_time_reader_formula' : (List UInt8) → Int → Int → Int → Int → Tp1 → Option ((Int × (List UInt8) × Int × Int × Int × Int × Tp1) ⊕ (Int × Int))) (h_rc_time_reader_formula : ∀ a0 a1 a2 a3 a4 a5, ChO (fun κ => rc_time_reader_formula κ a0 a1 a2 a3 a4 a5) (rc_time_reader_formula' a0 a1 a2 a3 a4 a5)) (r2 : Nat → Int → (List UInt8) → Int → Int → Int → Int → Tp1 → Option ((Int × (List UInt8) × Int × Int × Int × Int × Tp1) ⊕ (Int × Int))) (r2' : Int → (List UInt8) → Int → Int → Int → Int → Tp1 → Option ((Int × (List UInt8) × Int × Int × Int × Int × Tp1) ⊕ (Int × Int))) (h_r2 : ∀ a0 a1 a2 a3 a4 a5 a6, ChO (fun κ => r2 κ a0 a1 a2 a3 a4 a5 a6) (r2' a0 a1 a2 a3 a4 a5 a6)) (n : Int) (r : (List UInt8)) (r_1 : Int) (r_2 : Int) (r_3 : Int) (r_4 : Int) (l_1 : Tp1) : ChO (fun κ => time_reader_term_L2_B (rc_time_reader_formula κ) (r2 κ) n r r_1 r_2 r_3 r_4 l_1) (time_reader_term_L2_B rc_time_reader_formula' r2' n r r_1 r_2 r_3 r_4 l_1) := by
  unfold time_reader_term_L2_B
  repeat' with_reducible first | exact ChO.const _ | exact h_rc_time_reader_formula _ _ _ _ _ _ | exact h_r2 _ _ _ _ _ _ _ | (apply time_reader_one_J19_ch <;> assumption) | (apply time_reader_one_ch <;> assumption) | (apply time_reader_part_ch <;> assumption) | apply ChO.ite | apply ChO.G | apply ChO.both | apply ChO.bothS | (apply ChO.bind; intro _) | (apply ChO.bind2 (h_rc_time_reader_formula _ _ _ _ _ _); intro _) | (refine ChO.bind2 ?_ (fun _ => ?_)) | (refine ChO.pbind (fun _ => ?_) (fun _ => ?_)) | (refine ChO.pbind2 ?_ (fun _ => ?_) (fun _ => ?_))
theorem time_reader_term_L2_cn (rc_time_reader_formula : (List UInt8) → Int → Int → Int → Int → Tp1 → Option ((Int × (List UInt8) × Int × Int × Int × Int × Tp1) ⊕ (Int × Int)))  : Cn (time_reader_term_L2_F rc_time_reader_formula) := fun g h hg x => time_reader_term_L2_B_ch (fun _ => rc_time_reader_formula) rc_time_reader_formula (fun _ _ _ _ _ _ => ChO.const _) (fun κ n r r_1 r_2 r_3 r_4 l_1 => g κ (n, r, r_1, r_2, r_3, r_4, l_1)) (fun n r r_1 r_2 r_3 r_4 l_1 => h (n, r, r_1, r_2, r_3, r_4, l_1)) (fun n r r_1 r_2 r_3 r_4 l_1 => hg (n, r, r_1, r_2, r_3, r_4, l_1))  x.1 x.2.1 x.2.2.1 x.2.2.2.1 x.2.2.2.2.1 x.2.2.2.2.2.1 x.2.2.2.2.2.2
theorem time_reader_term_L2_eq (rc_time_reader_formula : (List UInt8) → Int → Int → Int → Int → Tp1 → Option ((Int × (List UInt8) × Int × Int × Int × Int × Tp1) ⊕ (Int × Int)))  (n : Int) (r : (List UInt8)) (r_1 : Int) (r_2 : Int) (r_3 : Int) (r_4 : Int) (l_1 : Tp1) : time_reader_term_L2 rc_time_reader_formula n r r_1 r_2 r_3 r_4 l_1 = time_reader_term_L2_B rc_time_reader_formula (time_reader_term_L2 rc_time_reader_formula) n r r_1 r_2 r_3 r_4 l_1 := LFix_eq (time_reader_term_L2_cn rc_time_reader_formula) (n, r, r_1, r_2, r_3, r_4, l_1)
theorem time_reader_term_L2_ch (rc_time_reader_formula : Nat → (List UInt8) → Int → Int → Int → Int → Tp1 → Option ((Int × (List UInt8) × Int × Int × Int × Int × Tp1) ⊕ (Int × Int))) (rc_time_reader_formula' : (List UInt8) → Int → Int → Int → Int → Tp1 → Option ((Int × (List UInt8) × Int × Int × Int × Int × Tp1) ⊕ (Int × Int))) (h_rc_time_reader_formula : ∀ a0 a1 a2 a3 a4 a5, ChO (fun κ => rc_time_reader_formula κ a0 a1 a2 a3 a4 a5) (rc_time_reader_formula' a0 a1 a2 a3 a4 a5))  (n : Int) (r : (List UInt8)) (r_1 : Int) (r_2 : Int) (r_3 : Int) (r_4 : Int) (l_1 : Tp1) : ChO (fun κ => time_reader_term_L2 (rc_time_reader_formula κ) n r r_1 r_2 r_3 r_4 l_1) (time_reader_term_L2 rc_time_reader_formula' n r r_1 r_2 r_3 r_4 l_1) := by
  unfold time_reader_term_L2
  exact LFix_ch (fun κ => (time_reader_term_L2_cn (rc_time_reader_formula κ) ).mono) (time_reader_term_L2_cn rc_time_reader_formula' ).mono (fun g h hg x => time_reader_term_L2_B_ch rc_time_reader_formula rc_time_reader_formula' h_rc_time_reader_formula (fun κ n r r_1 r_2 r_3 r_4 l_1 => g κ (n, r, r_1, r_2, r_3, r_4, l_1)) (fun n r r_1 r_2 r_3 r_4 l_1 => h (n, r, r_1, r_2, r_3, r_4, l_1)) (fun n r r_1 r_2 r_3 r_4 l_1 => hg (n, r, r_1, r_2, r_3, r_4, l_1))  x.1 x.2.1 x.2.2.1 x.2.2.2.1 x.2.2.2.2.1 x.2.2.2.2.2.1 x.2.2.2.2.2.2) _
theorem time_reader_term_ch (rc_time_reader_formula : Nat → (List UInt8) → Int → Int → Int → Int → Tp1 → Option ((Int × (List UInt8) × Int × Int × Int × Int × Tp1) ⊕ (Int × Int))) (rc_time_reader_formula' : (List UInt8) → Int → Int → Int → Int → Tp1 → Option ((Int × (List UInt8) × Int × Int × Int × Int × Tp1) ⊕ (Int × Int))) (h_rc_time_reader_formula : ∀ a0 a1 a2 a3 a4 a5, ChO (fun κ => rc_time_reader_formula κ a0 a1 a2 a3 a4 a5) (rc_time_reader_formula' a0 a1 a2 a3 a4 a5)) (c : (List UInt8)) (c_1 : Int) (c_2 : Int) (c_3 : Int) (c_4 : Int) (l : Tp1) : ChO (fun κ => time_reader_term (rc_time_reader_formula κ) c c_1 c_2 c_3 c_4 l) (time_reader_term rc_time_reader_formula' c c_1 c_2 c_3 c_4 l) := by
  unfold time_reader_term
  repeat' with_reducible first | exact ChO.const _ | exact h_rc_time_reader_formula _ _ _ _ _ _ | (apply time_reader_one_J19_ch <;> assumption) | (apply time_reader_one_ch <;> assumption) | (apply time_reader_part_ch <;> assumption) | (apply time_reader_term_L2_ch <;> assumption) | apply ChO.ite | apply ChO.G | apply ChO.both | apply ChO.bothS | (apply ChO.bind; intro _) | (apply ChO.bind2 (h_rc_time_reader_formula _ _ _ _ _ _); intro _) | (refine ChO.bind2 ?_ (fun _ => ?_)) | (refine ChO.pbind (fun _ => ?_) (fun _ => ?_)) | (refine ChO.pbind2 ?_ (fun _ => ?_) (fun _ => ?_))
theorem time_reader_formula_L2_B_ch (rc_time_reader_formula : Nat → (List UInt8) → Int → Int → Int → Int → Tp1 → Option ((Int × (List UInt8) × Int × Int × Int × Int × Tp1) ⊕ (Int × Int))) (rc_time_reader_formula' : (List UInt8) → Int → Int → Int → Int → Tp1 → Option ((Int × (List UInt8) × Int × Int × Int × Int × Tp1) ⊕ (Int × Int))) (h_rc_time_reader_formula : ∀ a0 a1 a2 a3 a4 a5, ChO (fun κ => rc_time_reader_formula κ a0 a1 a2 a3 a4 a5) (rc_time_reader_formula' a0 a1 a2 a3 a4 a5)) (r2 : Nat → Int → (List UInt8) → Int → Int → Int → Int → Tp1 → Option ((Int × (List UInt8) × Int × Int × Int × Int × Tp1) ⊕ (Int × Int))) (r2' : Int → (List UInt8) → Int → Int → Int → Int → Tp1 → Option ((Int × (List UInt8) × Int × Int × Int × Int × Tp1) ⊕ (Int × Int))) (h_r2 : ∀ a0 a1 a2 a3 a4 a5 a6, ChO (fun κ => r2 κ a0 a1 a2 a3 a4 a5 a6) (r2' a0 a1 a2 a3 a4 a5 a6)) (n : Int) (r : (List UInt8)) (r_1 : Int) (r_2 : Int) (r_3 : Int) (r_4 : Int) (l_1 : Tp1) : ChO (fun κ => time_reader_formula_L2_B (rc_time_reader_formula κ) (r2 κ) n r r_1 r_2 r_3 r_4 l_1) (time_reader_formula_L2_B rc_time_reader_formula' r2' n r r_1 r_2 r_3 r_4 l_1) := by
  unfold time_reader_formula_L2_B
  repeat' with_reducible first | exact ChO.const _ | exact h_rc_time_reader_formula _ _ _ _ _ _ | exact h_r2 _ _ _ _ _ _ _ | (apply time_reader_one_J19_ch <;> assumption) | (apply time_reader_one_ch <;> assumption) | (apply time_reader_part_ch <;> assumption) | (apply time_reader_term_L2_ch <;> assumption) | (apply time_reader_term_ch <;> assumption) | apply ChO.ite | apply ChO.G | apply ChO.both | apply ChO.bothS | (apply ChO.bind; intro _) | (apply ChO.bind2 (h_rc_time_reader_formula _ _ _ _ _ _); intro _) | (refine ChO.bind2 ?_ (fun _ => ?_)) | (refine ChO.pbind (fun _ => ?_) (fun _ => ?_)) | (refine ChO.pbind2 ?_ (fun _ => ?_) (fun _ => ?_))
theorem time_reader_formula_L2_cn (rc_time_reader_formula : (List UInt8) → Int → Int → Int → Int → Tp1 → Option ((Int × (List UInt8) × Int × Int × Int × Int × Tp1) ⊕ (Int × Int)))  : Cn (time_reader_formula_L2_F rc_time_reader_formula) := fun g h hg x => time_reader_formula_L2_B_ch (fun _ => rc_time_reader_formula) rc_time_reader_formula (fun _ _ _ _ _ _ => ChO.const _) (fun κ n r r_1 r_2 r_3 r_4 l_1 => g κ (n, r, r_1, r_2, r_3, r_4, l_1)) (fun n r r_1 r_2 r_3 r_4 l_1 => h (n, r, r_1, r_2, r_3, r_4, l_1)) (fun n r r_1 r_2 r_3 r_4 l_1 => hg (n, r, r_1, r_2, r_3, r_4, l_1))  x.1 x.2.1 x.2.2.1 x.2.2.2.1 x.2.2.2.2.1 x.2.2.2.2.2.1 x.2.2.2.2.2.2
theorem time_reader_formula_L2_eq (rc_time_reader_formula : (List UInt8) → Int → Int → Int → Int → Tp1 → Option ((Int × (List UInt8) × Int × Int × Int × Int × Tp1) ⊕ (Int × Int)))  (n : Int) (r : (List UInt8)) (r_1 : Int) (r_2 : Int) (r_3 : Int) (r_4 : Int) (l_1 : Tp1) : time_reader_formula_L2 rc_time_reader_formula n r r_1 r_2 r_3 r_4 l_1 = time_reader_formula_L2_B rc_time_reader_formula (time_reader_formula_L2 rc_time_reader_formula) n r r_1 r_2 r_3 r_4 l_1 := LFix_eq (time_reader_formula_L2_cn rc_time_reader_formula) (n, r, r_1, r_2, r_3, r_4, l_1)
theorem time_reader_formula_L2_ch (rc_time_reader_formula : Nat → (List UInt8) → Int → Int → Int → Int → Tp1 → Option ((Int × (List UInt8) × Int × Int × Int × Int × Tp1) ⊕ (Int × Int))) (rc_time_reader_formula' : (List UInt8) → Int → Int → Int → Int → Tp1 → Option ((Int × (List UInt8) × Int × Int × Int × Int × Tp1) ⊕ (Int × Int))) (h_rc_time_reader_formula : ∀ a0 a1 a2 a3 a4 a5, ChO (fun κ => rc_time_reader_formula κ a0 a1 a2 a3 a4 a5) (rc_time_reader_formula' a0 a1 a2 a3 a4 a5))  (n : Int) (r : (List UInt8)) (r_1 : Int) (r_2 : Int) (r_3 : Int) (r_4 : Int) (l_1 : Tp1) : ChO (fun κ => time_reader_formula_L2 (rc_time_reader_formula κ) n r r_1 r_2 r_3 r_4 l_1) (time_reader_formula_L2 rc_time_reader_formula' n r r_1 r_2 r_3 r_4 l_1) := by
  unfold time_reader_formula_L2
  exact LFix_ch (fun κ => (time_reader_formula_L2_cn (rc_time_reader_formula κ) ).mono) (time_reader_formula_L2_cn rc_time_reader_formula' ).mono (fun g h hg x => time_reader_formula_L2_B_ch rc_time_reader_formula rc_time_reader_formula' h_rc_time_reader_formula (fun κ n r r_1 r_2 r_3 r_4 l_1 => g κ (n, r, r_1, r_2, r_3, r_4, l_1)) (fun n r r_1 r_2 r_3 r_4 l_1 => h (n, r, r_1, r_2, r_3, r_4, l_1)) (fun n r r_1 r_2 r_3 r_4 l_1 => hg (n, r, r_1, r_2, r_3, r_4, l_1))  x.1 x.2.1 x.2.2.1 x.2.2.2.1 x.2.2.2.2.1 x.2.2.2.2.2.1 x.2.2.2.2.2.2) _
theorem time_reader_formula_B_ch (rc_time_reader_formula : Nat → (List UInt8) → Int → Int → Int → Int → Tp1 → Option ((Int × (List UInt8) × Int × Int × Int × Int × Tp1) ⊕ (Int × Int))) (rc_time_reader_formula' : (List UInt8) → Int → Int → Int → Int → Tp1 → Option ((Int × (List UInt8) × Int × Int × Int × Int × Tp1) ⊕ (Int × Int))) (h_rc_time_reader_formula : ∀ a0 a1 a2 a3 a4 a5, ChO (fun κ => rc_time_reader_formula κ a0 a1 a2 a3 a4 a5) (rc_time_reader_formula' a0 a1 a2 a3 a4 a5)) (c : (List UInt8)) (c_1 : Int) (c_2 : Int) (c_3 : Int) (c_4 : Int) (l : Tp1) : ChO (fun κ => time_reader_formula_B (rc_time_reader_formula κ) c c_1 c_2 c_3 c_4 l) (time_reader_formula_B rc_time_reader_formula' c c_1 c_2 c_3 c_4 l) := by
  unfold time_reader_formula_B
  repeat' with_reducible first | exact ChO.const _ | exact h_rc_time_reader_formula _ _ _ _ _ _ | (apply time_reader_one_J19_ch <;> assumption) | (apply time_reader_one_ch <;> assumption) | (apply time_reader_part_ch <;> assumption) | (apply time_reader_term_L2_ch <;> assumption) | (apply time_reader_term_ch <;> assumption) | (apply time_reader_formula_L2_ch <;> assumption) | apply ChO.ite | apply ChO.G | apply ChO.both | apply ChO.bothS | (apply ChO.bind; intro _) | (apply ChO.bind2 (h_rc_time_reader_formula _ _ _ _ _ _); intro _) | (refine ChO.bind2 ?_ (fun _ => ?_)) | (refine ChO.pbind (fun _ => ?_) (fun _ => ?_)) | (refine ChO.pbind2 ?_ (fun _ => ?_) (fun _ => ?_))
noncomputable def time_reader_formula_F : ((List UInt8) × Int × Int × Int × Int × Tp1 → Option ((Int × (List UInt8) × Int × Int × Int × Int × Tp1) ⊕ (Int × Int))) → (List UInt8) × Int × Int × Int × Int × Tp1 → Option ((Int × (List UInt8) × Int × Int × Int × Int × Tp1) ⊕ (Int × Int)) :=
  fun rec X => time_reader_formula_B (fun c c_1 c_2 c_3 c_4 l => rec (c, c_1, c_2, c_3, c_4, l)) X.1 X.2.1 X.2.2.1 X.2.2.2.1 X.2.2.2.2.1 X.2.2.2.2.2
noncomputable def time_reader_formula (c : (List UInt8)) (c_1 : Int) (c_2 : Int) (c_3 : Int) (c_4 : Int) (l : Tp1) : Option ((Int × (List UInt8) × Int × Int × Int × Int × Tp1) ⊕ (Int × Int)) := LFix time_reader_formula_F (c, c_1, c_2, c_3, c_4, l)
theorem time_reader_formula_cn : Cn time_reader_formula_F := fun g h hg X => time_reader_formula_B_ch _ _ (fun c c_1 c_2 c_3 c_4 l => hg (c, c_1, c_2, c_3, c_4, l)) X.1 X.2.1 X.2.2.1 X.2.2.2.1 X.2.2.2.2.1 X.2.2.2.2.2
theorem time_reader_formula_eq (c : (List UInt8)) (c_1 : Int) (c_2 : Int) (c_3 : Int) (c_4 : Int) (l : Tp1) : time_reader_formula c c_1 c_2 c_3 c_4 l = time_reader_formula_B time_reader_formula c c_1 c_2 c_3 c_4 l := LFix_eq time_reader_formula_cn (c, c_1, c_2, c_3, c_4, l)
noncomputable def time_reader_one_c (c : (List UInt8)) (c_1 : Int) (c_2 : Int) (c_3 : Int) (c_4 : Int) (l : Tp1) : Option ((Int × (List UInt8) × Int × Int × Int × Int × Tp1) ⊕ (Int × Int)) := time_reader_one time_reader_formula c c_1 c_2 c_3 c_4 l
noncomputable def time_reader_part_c (c : (List UInt8)) (c_1 : Int) (c_2 : Int) (c_3 : Int) (c_4 : Int) (l : Tp1) : Option ((Int × (List UInt8) × Int × Int × Int × Int × Tp1) ⊕ (Int × Int)) := time_reader_part time_reader_formula c c_1 c_2 c_3 c_4 l
noncomputable def time_reader_term_c (c : (List UInt8)) (c_1 : Int) (c_2 : Int) (c_3 : Int) (c_4 : Int) (l : Tp1) : Option ((Int × (List UInt8) × Int × Int × Int × Int × Tp1) ⊕ (Int × Int)) := time_reader_term time_reader_formula c c_1 c_2 c_3 c_4 l

noncomputable def time_parsed (text : (List UInt8)) : Option (Tp1 × Int × Int × Unit) :=
  if (decide ((4000 : Int) < (text.length : Int))) = true then
  some ([], ((1 : Int), ((0 : Int), ()))) else
  pbind (time_reader_formula text (0 : Int) (0 : Int) (0 : Int) (0 : Int) ([] : List Tp2)) (fun y'_7 =>
  if (decide (y'_7.2.2.1 < (text.length : Int))) = true then
  pbind (time_reader_fail (y'_7.2.1, (y'_7.2.2.1, (y'_7.2.2.2.1, (y'_7.2.2.2.2.1, (y'_7.2.2.2.2.2.1, (y'_7.2.2.2.2.2.2, ())))))) (4 : Int)) (fun _ =>
  G (fits (y'_7.1 + (1 : Int))) (
  G (0 ≤ y'_7.1 + (1 : Int) ∧ y'_7.1 + (1 : Int) ≤ (y'_7.2.2.2.2.2.2.length : Int)) (
  some ((y'_7.2.2.2.2.2.2.drop 0).take ((y'_7.1 + (1 : Int)).toNat), ((0 : Int), ((0 : Int), ())))))) (fun p => some ([], (p.1, (p.2, ())))) else
  G (fits (y'_7.1 + (1 : Int))) (
  G (0 ≤ y'_7.1 + (1 : Int) ∧ y'_7.1 + (1 : Int) ≤ (y'_7.2.2.2.2.2.2.length : Int)) (
  some ((y'_7.2.2.2.2.2.2.drop 0).take ((y'_7.1 + (1 : Int)).toNat), ((0 : Int), ((0 : Int), ())))))) (fun p => some ([], (p.1, (p.2, ()))))

noncomputable def time_Check (text : (List UInt8)) : Option (Int × Int × Unit) :=
  (time_parsed text).bind (fun y'_3 =>
  some (y'_3.2.1, (y'_3.2.2.1, ())))

noncomputable def r8_Reader_ok (r : ((List UInt8) × Int × Int × Int × Int × Tp1 × (Int × Int × Unit) × Unit)) : Option (Bool) :=
  some (decide (r.2.2.2.2.2.2.1.1 = (0 : Int)))

noncomputable def r8_Reader_now (r : ((List UInt8) × Int × Int × Int × Int × Tp1 × (Int × Int × Unit) × Unit)) : Option (Int) :=
  if (decide ((r.1.length : Int) ≤ r.2.1)) = true then
  some (0 : Int) else
  G (0 ≤ r.2.1 ∧ r.2.1 < (r.1.length : Int)) (
  some (bAt r.1 r.2.1))

noncomputable def r8_Reader_fail (code : Int) (c : (List UInt8)) (c_1 : Int) (c_2 : Int) (c_3 : Int) (c_4 : Int) (c_5 : Int) (c_6 : Int) (l : Tp1) : Option ((List UInt8) × Int × Int × Int × Int × Tp1 × Int × Int) :=
  if (decide (c_5 = (0 : Int))) = true then
  some (c, c_1, c_2, c_3, c_4, l, code, c_1) else
  some (c, c_1, c_2, c_3, c_4, l, c_5, c_6)

noncomputable def r8_Reader_counted_J4 (r : (List UInt8)) (r_1 : Int) (r_2 : Int) (r_3 : Int) (r_4 : Int) (r_5 : Int) (r_6 : Int) (l_1 : Tp1) (t : Bool) : Option ((List UInt8) × Int × Int × Int × Int × Tp1 × Int × Int) :=
  if t = true then
  (r8_Reader_fail (7 : Int) r r_1 r_2 r_3 r_4 r_5 r_6 l_1).bind (fun y'_9 =>
  G (fits (y'_9.2.1 + (1 : Int))) (
  some (y'_9.1, y'_9.2.1 + (1 : Int), y'_9.2.2.1, y'_9.2.2.2.1, y'_9.2.2.2.2.1, y'_9.2.2.2.2.2.1, y'_9.2.2.2.2.2.2.1, y'_9.2.2.2.2.2.2.2))) else
  G (fits (r_1 + (1 : Int))) (
  some (r, r_1 + (1 : Int), r_2, r_3, r_4, l_1, r_5, r_6))
noncomputable def r8_Reader_counted_J3 (timed : Bool) (r : (List UInt8)) (r_1 : Int) (r_2 : Int) (r_3 : Int) (r_4 : Int) (r_5 : Int) (r_6 : Int) (l_1 : Tp1) : Option ((List UInt8) × Int × Int × Int × Int × Tp1 × Int × Int) :=
  if (decide ((30 : Int) < r_2)) = true then
  r8_Reader_counted_J4 r r_1 r_2 r_3 r_4 r_5 r_6 l_1 true else
  if timed = true then
  r8_Reader_counted_J4 r r_1 r_2 r_3 r_4 r_5 r_6 l_1 (decide ((5 : Int) < r_3)) else
  r8_Reader_counted_J4 r r_1 r_2 r_3 r_4 r_5 r_6 l_1 false
noncomputable def r8_Reader_counted_J0 (c_1 : (List UInt8)) (c_2 : Int) (c_3 : Int) (c_4 : Int) (c_5 : Int) (c_6 : Int) (c_7 : Int) (l : Tp1) (timed : Bool) : Option ((List UInt8) × Int × Int × Int × Int × Tp1 × Int × Int) :=
  G (fits (c_3 + (1 : Int))) (
  if timed = true then
  G (fits (c_4 + (1 : Int))) (
  r8_Reader_counted_J3 timed c_1 c_2 (c_3 + (1 : Int)) (c_4 + (1 : Int)) c_5 c_6 c_7 l) else
  r8_Reader_counted_J3 timed c_1 c_2 (c_3 + (1 : Int)) c_4 c_5 c_6 c_7 l)
noncomputable def r8_Reader_counted (c : Int) (c_1 : (List UInt8)) (c_2 : Int) (c_3 : Int) (c_4 : Int) (c_5 : Int) (c_6 : Int) (c_7 : Int) (l : Tp1) : Option ((List UInt8) × Int × Int × Int × Int × Tp1 × Int × Int) :=
  if (decide (c = (88 : Int))) = true then
  r8_Reader_counted_J0 c_1 c_2 c_3 c_4 c_5 c_6 c_7 l true else
  if (decide (c = (70 : Int))) = true then
  r8_Reader_counted_J0 c_1 c_2 c_3 c_4 c_5 c_6 c_7 l true else
  if (decide (c = (71 : Int))) = true then
  r8_Reader_counted_J0 c_1 c_2 c_3 c_4 c_5 c_6 c_7 l true else
  if (decide (c = (85 : Int))) = true then
  r8_Reader_counted_J0 c_1 c_2 c_3 c_4 c_5 c_6 c_7 l true else
  r8_Reader_counted_J0 c_1 c_2 c_3 c_4 c_5 c_6 c_7 l (decide (c = (82 : Int)))

noncomputable def r8_Reader_put (kind : Int) (a : Int) (b : Int) (c : (List UInt8)) (c_1 : Int) (c_2 : Int) (c_3 : Int) (c_4 : Int) (c_5 : Int) (c_6 : Int) (l : Tp1) : Option (Int × (List UInt8) × Int × Int × Int × Int × Tp1 × Int × Int) :=
  G (room l ([(kind, (a, (b, ())))]) 24) (
  G (fits (((l ++ ([(kind, (a, (b, ())))])).length : Int) - (1 : Int))) (
  some (((l ++ ([(kind, (a, (b, ())))])).length : Int) - (1 : Int), c, c_1, c_2, c_3, c_4, l ++ ([(kind, (a, (b, ())))]), c_5, c_6)))

noncomputable def r8_Reader_one_J16 (rc_r8_Reader_formula : (List UInt8) → Int → Int → Int → Int → Int → Int → Tp1 → Option (Int × (List UInt8) × Int × Int × Int × Int × Tp1 × Int × Int)) (c : (List UInt8)) (c_1 : Int) (c_2 : Int) (c_3 : Int) (c_4 : Int) (c_5 : Int) (c_6 : Int) (l : Tp1) (y'_1 : Int) (t_1 : Bool) : Option (Int × (List UInt8) × Int × Int × Int × Int × Tp1 × Int × Int) :=
  if t_1 = true then
  (r8_Reader_counted y'_1 c c_1 c_2 c_3 c_4 c_5 c_6 l).bind (fun y'_54 =>
  (r8_Reader_put y'_1 (0 : Int) (0 : Int) y'_54.1 y'_54.2.1 y'_54.2.2.1 y'_54.2.2.2.1 y'_54.2.2.2.2.1 y'_54.2.2.2.2.2.2.1 y'_54.2.2.2.2.2.2.2 y'_54.2.2.2.2.2.1).bind (fun y'_53 =>
  some (y'_53.1, y'_53.2.1, y'_53.2.2.1, y'_53.2.2.2.1, y'_53.2.2.2.2.1, y'_53.2.2.2.2.2.1, y'_53.2.2.2.2.2.2.1, y'_53.2.2.2.2.2.2.2.1, y'_53.2.2.2.2.2.2.2.2))) else
  if (decide (¬ y'_1 = (40 : Int))) = true then
  (r8_Reader_fail (4 : Int) c c_1 c_2 c_3 c_4 c_5 c_6 l).bind (fun y'_64 =>
  some ((0 : Int), y'_64.1, y'_64.2.1, y'_64.2.2.1, y'_64.2.2.2.1, y'_64.2.2.2.2.1, y'_64.2.2.2.2.2.1, y'_64.2.2.2.2.2.2.1, y'_64.2.2.2.2.2.2.2)) else
  if (decide (c_4 = (40 : Int))) = true then
  (r8_Reader_fail (7 : Int) c c_1 c_2 c_3 c_4 c_5 c_6 l).bind (fun y'_74 =>
  some ((0 : Int), y'_74.1, y'_74.2.1, y'_74.2.2.1, y'_74.2.2.2.1, y'_74.2.2.2.2.1, y'_74.2.2.2.2.2.1, y'_74.2.2.2.2.2.2.1, y'_74.2.2.2.2.2.2.2)) else
  G (fits (c_4 + (1 : Int))) (
  G (fits (c_1 + (1 : Int))) (
  (rc_r8_Reader_formula c (c_1 + (1 : Int)) c_2 c_3 (c_4 + (1 : Int)) c_5 c_6 l).bind (fun y'_96 =>
  (r8_Reader_now (y'_96.2.1, (y'_96.2.2.1, (y'_96.2.2.2.1, (y'_96.2.2.2.2.1, (y'_96.2.2.2.2.2.1, (y'_96.2.2.2.2.2.2.1, ((y'_96.2.2.2.2.2.2.2.1, (y'_96.2.2.2.2.2.2.2.2, ())), ())))))))).bind (fun y'_85 =>
  if (decide (¬ y'_85 = (41 : Int))) = true then
  (r8_Reader_fail (4 : Int) y'_96.2.1 y'_96.2.2.1 y'_96.2.2.2.1 y'_96.2.2.2.2.1 y'_96.2.2.2.2.2.1 y'_96.2.2.2.2.2.2.2.1 y'_96.2.2.2.2.2.2.2.2 y'_96.2.2.2.2.2.2.1).bind (fun y'_95 =>
  G (fits (y'_95.2.1 + (1 : Int))) (
  G (fits (y'_95.2.2.2.2.1 - (1 : Int))) (
  some (y'_96.1, y'_95.1, y'_95.2.1 + (1 : Int), y'_95.2.2.1, y'_95.2.2.2.1, y'_95.2.2.2.2.1 - (1 : Int), y'_95.2.2.2.2.2.1, y'_95.2.2.2.2.2.2.1, y'_95.2.2.2.2.2.2.2)))) else
  G (fits (y'_96.2.2.1 + (1 : Int))) (
  G (fits (y'_96.2.2.2.2.2.1 - (1 : Int))) (
  some (y'_96.1, y'_96.2.1, y'_96.2.2.1 + (1 : Int), y'_96.2.2.2.1, y'_96.2.2.2.2.1, y'_96.2.2.2.2.2.1 - (1 : Int), y'_96.2.2.2.2.2.2.1, y'_96.2.2.2.2.2.2.2.1, y'_96.2.2.2.2.2.2.2.2)))))))
noncomputable def r8_Reader_one_J9 (rc_r8_Reader_formula : (List UInt8) → Int → Int → Int → Int → Int → Int → Tp1 → Option (Int × (List UInt8) × Int × Int × Int × Int × Tp1 × Int × Int)) (c : (List UInt8)) (c_1 : Int) (c_2 : Int) (c_3 : Int) (c_4 : Int) (c_5 : Int) (c_6 : Int) (l : Tp1) (rc_r8_Reader_one : ((List UInt8) → Int → Int → Int → Int → Int → Int → Tp1 → Option (Int × (List UInt8) × Int × Int × Int × Int × Tp1 × Int × Int))) (y'_1 : Int) (t : Bool) : Option (Int × (List UInt8) × Int × Int × Int × Int × Tp1 × Int × Int) :=
  if t = true then
  (r8_Reader_counted y'_1 c c_1 c_2 c_3 c_4 c_5 c_6 l).bind (fun y'_33 =>
  (rc_r8_Reader_one y'_33.1 y'_33.2.1 y'_33.2.2.1 y'_33.2.2.2.1 y'_33.2.2.2.2.1 y'_33.2.2.2.2.2.2.1 y'_33.2.2.2.2.2.2.2 y'_33.2.2.2.2.2.1).bind (fun y'_32 =>
  (r8_Reader_put y'_1 y'_32.1 (0 : Int) y'_32.2.1 y'_32.2.2.1 y'_32.2.2.2.1 y'_32.2.2.2.2.1 y'_32.2.2.2.2.2.1 y'_32.2.2.2.2.2.2.2.1 y'_32.2.2.2.2.2.2.2.2 y'_32.2.2.2.2.2.2.1).bind (fun y'_31 =>
  some (y'_31.1, y'_31.2.1, y'_31.2.2.1, y'_31.2.2.2.1, y'_31.2.2.2.2.1, y'_31.2.2.2.2.2.1, y'_31.2.2.2.2.2.2.1, y'_31.2.2.2.2.2.2.2.1, y'_31.2.2.2.2.2.2.2.2)))) else
  if (decide (y'_1 = (112 : Int))) = true then
  r8_Reader_one_J16 rc_r8_Reader_formula c c_1 c_2 c_3 c_4 c_5 c_6 l y'_1 (decide (y'_1 = (112 : Int))) else
  if (decide (y'_1 = (113 : Int))) = true then
  r8_Reader_one_J16 rc_r8_Reader_formula c c_1 c_2 c_3 c_4 c_5 c_6 l y'_1 (decide (y'_1 = (113 : Int))) else
  if (decide (y'_1 = (48 : Int))) = true then
  r8_Reader_one_J16 rc_r8_Reader_formula c c_1 c_2 c_3 c_4 c_5 c_6 l y'_1 (decide (y'_1 = (48 : Int))) else
  r8_Reader_one_J16 rc_r8_Reader_formula c c_1 c_2 c_3 c_4 c_5 c_6 l y'_1 (decide (y'_1 = (49 : Int)))
noncomputable def r8_Reader_one_B (rc_r8_Reader_formula : (List UInt8) → Int → Int → Int → Int → Int → Int → Tp1 → Option (Int × (List UInt8) × Int × Int × Int × Int × Tp1 × Int × Int))  (rc_r8_Reader_one : (List UInt8) → Int → Int → Int → Int → Int → Int → Tp1 → Option (Int × (List UInt8) × Int × Int × Int × Int × Tp1 × Int × Int)) (c : (List UInt8)) (c_1 : Int) (c_2 : Int) (c_3 : Int) (c_4 : Int) (c_5 : Int) (c_6 : Int) (l : Tp1) : Option (Int × (List UInt8) × Int × Int × Int × Int × Tp1 × Int × Int) :=
  (r8_Reader_ok (c, (c_1, (c_2, (c_3, (c_4, (l, ((c_5, (c_6, ())), ())))))))).bind (fun y' =>
  if (!y') = true then
  some ((0 : Int), c, c_1, c_2, c_3, c_4, l, c_5, c_6) else
  (r8_Reader_now (c, (c_1, (c_2, (c_3, (c_4, (l, ((c_5, (c_6, ())), ())))))))).bind (fun y'_1 =>
  if (decide (y'_1 = (33 : Int))) = true then
  r8_Reader_one_J9 rc_r8_Reader_formula c c_1 c_2 c_3 c_4 c_5 c_6 l rc_r8_Reader_one y'_1 (decide (y'_1 = (33 : Int))) else
  if (decide (y'_1 = (88 : Int))) = true then
  r8_Reader_one_J9 rc_r8_Reader_formula c c_1 c_2 c_3 c_4 c_5 c_6 l rc_r8_Reader_one y'_1 (decide (y'_1 = (88 : Int))) else
  if (decide (y'_1 = (70 : Int))) = true then
  r8_Reader_one_J9 rc_r8_Reader_formula c c_1 c_2 c_3 c_4 c_5 c_6 l rc_r8_Reader_one y'_1 (decide (y'_1 = (70 : Int))) else
  r8_Reader_one_J9 rc_r8_Reader_formula c c_1 c_2 c_3 c_4 c_5 c_6 l rc_r8_Reader_one y'_1 (decide (y'_1 = (71 : Int)))))
noncomputable def r8_Reader_one_F (rc_r8_Reader_formula : (List UInt8) → Int → Int → Int → Int → Int → Int → Tp1 → Option (Int × (List UInt8) × Int × Int × Int × Int × Tp1 × Int × Int))  : ((List UInt8) × Int × Int × Int × Int × Int × Int × Tp1 → Option (Int × (List UInt8) × Int × Int × Int × Int × Tp1 × Int × Int)) → (List UInt8) × Int × Int × Int × Int × Int × Int × Tp1 → Option (Int × (List UInt8) × Int × Int × Int × Int × Tp1 × Int × Int) :=
  fun rec x => r8_Reader_one_B rc_r8_Reader_formula (fun c c_1 c_2 c_3 c_4 c_5 c_6 l => rec (c, c_1, c_2, c_3, c_4, c_5, c_6, l)) x.1 x.2.1 x.2.2.1 x.2.2.2.1 x.2.2.2.2.1 x.2.2.2.2.2.1 x.2.2.2.2.2.2.1 x.2.2.2.2.2.2.2
noncomputable def r8_Reader_one (rc_r8_Reader_formula : (List UInt8) → Int → Int → Int → Int → Int → Int → Tp1 → Option (Int × (List UInt8) × Int × Int × Int × Int × Tp1 × Int × Int))  (c : (List UInt8)) (c_1 : Int) (c_2 : Int) (c_3 : Int) (c_4 : Int) (c_5 : Int) (c_6 : Int) (l : Tp1) : Option (Int × (List UInt8) × Int × Int × Int × Int × Tp1 × Int × Int) := LFix (r8_Reader_one_F rc_r8_Reader_formula ) (c, c_1, c_2, c_3, c_4, c_5, c_6, l)
noncomputable def r8_Reader_part_J5 (rc_r8_Reader_part : ((List UInt8) → Int → Int → Int → Int → Int → Int → Tp1 → Option (Int × (List UInt8) × Int × Int × Int × Int × Tp1 × Int × Int))) (y' : Int) (y'_1 : (List UInt8)) (y'_2 : Int) (y'_3 : Int) (y'_4 : Int) (y'_5 : Int) (y'_6 : Tp1) (y'_7 : Int) (y'_8 : Int) (y'_10 : Int) : Option (Int × (List UInt8) × Int × Int × Int × Int × Tp1 × Int × Int) :=
  (r8_Reader_counted y'_10 y'_1 y'_2 y'_3 y'_4 y'_5 y'_7 y'_8 y'_6).bind (fun y'_43 =>
  (rc_r8_Reader_part y'_43.1 y'_43.2.1 y'_43.2.2.1 y'_43.2.2.2.1 y'_43.2.2.2.2.1 y'_43.2.2.2.2.2.2.1 y'_43.2.2.2.2.2.2.2 y'_43.2.2.2.2.2.1).bind (fun y'_42 =>
  (r8_Reader_put y'_10 y' y'_42.1 y'_42.2.1 y'_42.2.2.1 y'_42.2.2.2.1 y'_42.2.2.2.2.1 y'_42.2.2.2.2.2.1 y'_42.2.2.2.2.2.2.2.1 y'_42.2.2.2.2.2.2.2.2 y'_42.2.2.2.2.2.2.1).bind (fun y'_41 =>
  some (y'_41.1, y'_41.2.1, y'_41.2.2.1, y'_41.2.2.2.1, y'_41.2.2.2.2.1, y'_41.2.2.2.2.2.1, y'_41.2.2.2.2.2.2.1, y'_41.2.2.2.2.2.2.2.1, y'_41.2.2.2.2.2.2.2.2))))
noncomputable def r8_Reader_part_B (rc_r8_Reader_formula : (List UInt8) → Int → Int → Int → Int → Int → Int → Tp1 → Option (Int × (List UInt8) × Int × Int × Int × Int × Tp1 × Int × Int))  (rc_r8_Reader_part : (List UInt8) → Int → Int → Int → Int → Int → Int → Tp1 → Option (Int × (List UInt8) × Int × Int × Int × Int × Tp1 × Int × Int)) (c : (List UInt8)) (c_1 : Int) (c_2 : Int) (c_3 : Int) (c_4 : Int) (c_5 : Int) (c_6 : Int) (l : Tp1) : Option (Int × (List UInt8) × Int × Int × Int × Int × Tp1 × Int × Int) :=
  (r8_Reader_one rc_r8_Reader_formula c c_1 c_2 c_3 c_4 c_5 c_6 l).bind (fun y'_44 =>
  (r8_Reader_now (y'_44.2.1, (y'_44.2.2.1, (y'_44.2.2.2.1, (y'_44.2.2.2.2.1, (y'_44.2.2.2.2.2.1, (y'_44.2.2.2.2.2.2.1, ((y'_44.2.2.2.2.2.2.2.1, (y'_44.2.2.2.2.2.2.2.2, ())), ())))))))).bind (fun y'_10 =>
  (r8_Reader_ok (y'_44.2.1, (y'_44.2.2.1, (y'_44.2.2.2.1, (y'_44.2.2.2.2.1, (y'_44.2.2.2.2.2.1, (y'_44.2.2.2.2.2.2.1, ((y'_44.2.2.2.2.2.2.2.1, (y'_44.2.2.2.2.2.2.2.2, ())), ())))))))).bind (fun y'_11 =>
  if (!y'_11) = true then
  some (y'_44.1, y'_44.2.1, y'_44.2.2.1, y'_44.2.2.2.1, y'_44.2.2.2.2.1, y'_44.2.2.2.2.2.1, y'_44.2.2.2.2.2.2.1, y'_44.2.2.2.2.2.2.2.1, y'_44.2.2.2.2.2.2.2.2) else
  if (decide (¬ y'_10 = (85 : Int))) = true then
  if (decide (¬ y'_10 = (82 : Int))) = true then
  some (y'_44.1, y'_44.2.1, y'_44.2.2.1, y'_44.2.2.2.1, y'_44.2.2.2.2.1, y'_44.2.2.2.2.2.1, y'_44.2.2.2.2.2.2.1, y'_44.2.2.2.2.2.2.2.1, y'_44.2.2.2.2.2.2.2.2) else
  r8_Reader_part_J5 rc_r8_Reader_part y'_44.1 y'_44.2.1 y'_44.2.2.1 y'_44.2.2.2.1 y'_44.2.2.2.2.1 y'_44.2.2.2.2.2.1 y'_44.2.2.2.2.2.2.1 y'_44.2.2.2.2.2.2.2.1 y'_44.2.2.2.2.2.2.2.2 y'_10 else
  r8_Reader_part_J5 rc_r8_Reader_part y'_44.1 y'_44.2.1 y'_44.2.2.1 y'_44.2.2.2.1 y'_44.2.2.2.2.1 y'_44.2.2.2.2.2.1 y'_44.2.2.2.2.2.2.1 y'_44.2.2.2.2.2.2.2.1 y'_44.2.2.2.2.2.2.2.2 y'_10)))
noncomputable def r8_Reader_part_F (rc_r8_Reader_formula : (List UInt8) → Int → Int → Int → Int → Int → Int → Tp1 → Option (Int × (List UInt8) × Int × Int × Int × Int × Tp1 × Int × Int))  : ((List UInt8) × Int × Int × Int × Int × Int × Int × Tp1 → Option (Int × (List UInt8) × Int × Int × Int × Int × Tp1 × Int × Int)) → (List UInt8) × Int × Int × Int × Int × Int × Int × Tp1 → Option (Int × (List UInt8) × Int × Int × Int × Int × Tp1 × Int × Int) :=
  fun rec x => r8_Reader_part_B rc_r8_Reader_formula (fun c c_1 c_2 c_3 c_4 c_5 c_6 l => rec (c, c_1, c_2, c_3, c_4, c_5, c_6, l)) x.1 x.2.1 x.2.2.1 x.2.2.2.1 x.2.2.2.2.1 x.2.2.2.2.2.1 x.2.2.2.2.2.2.1 x.2.2.2.2.2.2.2
noncomputable def r8_Reader_part (rc_r8_Reader_formula : (List UInt8) → Int → Int → Int → Int → Int → Int → Tp1 → Option (Int × (List UInt8) × Int × Int × Int × Int × Tp1 × Int × Int))  (c : (List UInt8)) (c_1 : Int) (c_2 : Int) (c_3 : Int) (c_4 : Int) (c_5 : Int) (c_6 : Int) (l : Tp1) : Option (Int × (List UInt8) × Int × Int × Int × Int × Tp1 × Int × Int) := LFix (r8_Reader_part_F rc_r8_Reader_formula ) (c, c_1, c_2, c_3, c_4, c_5, c_6, l)
noncomputable def r8_Reader_term_L2_B (rc_r8_Reader_formula : (List UInt8) → Int → Int → Int → Int → Int → Int → Tp1 → Option (Int × (List UInt8) × Int × Int × Int × Int × Tp1 × Int × Int))  (r2 : Int → (List UInt8) → Int → Int → Int → Int → Int → Int → Tp1 → Option (Int × (List UInt8) × Int × Int × Int × Int × Tp1 × Int × Int)) (a : Int) (r : (List UInt8)) (r_1 : Int) (r_2 : Int) (r_3 : Int) (r_4 : Int) (r_5 : Int) (r_6 : Int) (l_1 : Tp1) : Option (Int × (List UInt8) × Int × Int × Int × Int × Tp1 × Int × Int) :=
  (r8_Reader_now (r, (r_1, (r_2, (r_3, (r_4, (l_1, ((r_5, (r_6, ())), ())))))))).bind (fun y'_10 =>
  (r8_Reader_ok (r, (r_1, (r_2, (r_3, (r_4, (l_1, ((r_5, (r_6, ())), ())))))))).bind (fun y'_11 =>
  if (!y'_11) = true then
  some (a, r, r_1, r_2, r_3, r_4, l_1, r_5, r_6) else
  if (decide (¬ y'_10 = (38 : Int))) = true then
  some (a, r, r_1, r_2, r_3, r_4, l_1, r_5, r_6) else
  (r8_Reader_counted y'_10 r r_1 r_2 r_3 r_4 r_5 r_6 l_1).bind (fun y'_43 =>
  (r8_Reader_part rc_r8_Reader_formula y'_43.1 y'_43.2.1 y'_43.2.2.1 y'_43.2.2.2.1 y'_43.2.2.2.2.1 y'_43.2.2.2.2.2.2.1 y'_43.2.2.2.2.2.2.2 y'_43.2.2.2.2.2.1).bind (fun y'_42 =>
  (r8_Reader_put (38 : Int) a y'_42.1 y'_42.2.1 y'_42.2.2.1 y'_42.2.2.2.1 y'_42.2.2.2.2.1 y'_42.2.2.2.2.2.1 y'_42.2.2.2.2.2.2.2.1 y'_42.2.2.2.2.2.2.2.2 y'_42.2.2.2.2.2.2.1).bind (fun y'_41 =>
  r2 y'_41.1 y'_41.2.1 y'_41.2.2.1 y'_41.2.2.2.1 y'_41.2.2.2.2.1 y'_41.2.2.2.2.2.1 y'_41.2.2.2.2.2.2.2.1 y'_41.2.2.2.2.2.2.2.2 y'_41.2.2.2.2.2.2.1)))))
noncomputable def r8_Reader_term_L2_F (rc_r8_Reader_formula : (List UInt8) → Int → Int → Int → Int → Int → Int → Tp1 → Option (Int × (List UInt8) × Int × Int × Int × Int × Tp1 × Int × Int))  : (Int × (List UInt8) × Int × Int × Int × Int × Int × Int × Tp1 → Option (Int × (List UInt8) × Int × Int × Int × Int × Tp1 × Int × Int)) → Int × (List UInt8) × Int × Int × Int × Int × Int × Int × Tp1 → Option (Int × (List UInt8) × Int × Int × Int × Int × Tp1 × Int × Int) :=
  fun rec x => r8_Reader_term_L2_B rc_r8_Reader_formula (fun a r r_1 r_2 r_3 r_4 r_5 r_6 l_1 => rec (a, r, r_1, r_2, r_3, r_4, r_5, r_6, l_1)) x.1 x.2.1 x.2.2.1 x.2.2.2.1 x.2.2.2.2.1 x.2.2.2.2.2.1 x.2.2.2.2.2.2.1 x.2.2.2.2.2.2.2.1 x.2.2.2.2.2.2.2.2
noncomputable def r8_Reader_term_L2 (rc_r8_Reader_formula : (List UInt8) → Int → Int → Int → Int → Int → Int → Tp1 → Option (Int × (List UInt8) × Int × Int × Int × Int × Tp1 × Int × Int))  (a : Int) (r : (List UInt8)) (r_1 : Int) (r_2 : Int) (r_3 : Int) (r_4 : Int) (r_5 : Int) (r_6 : Int) (l_1 : Tp1) : Option (Int × (List UInt8) × Int × Int × Int × Int × Tp1 × Int × Int) := LFix (r8_Reader_term_L2_F rc_r8_Reader_formula ) (a, r, r_1, r_2, r_3, r_4, r_5, r_6, l_1)
noncomputable def r8_Reader_term (rc_r8_Reader_formula : (List UInt8) → Int → Int → Int → Int → Int → Int → Tp1 → Option (Int × (List UInt8) × Int × Int × Int × Int × Tp1 × Int × Int)) (c : (List UInt8)) (c_1 : Int) (c_2 : Int) (c_3 : Int) (c_4 : Int) (c_5 : Int) (c_6 : Int) (l : Tp1) : Option (Int × (List UInt8) × Int × Int × Int × Int × Tp1 × Int × Int) :=
  (r8_Reader_part rc_r8_Reader_formula c c_1 c_2 c_3 c_4 c_5 c_6 l).bind (fun y'_44 =>
  r8_Reader_term_L2 rc_r8_Reader_formula y'_44.1 y'_44.2.1 y'_44.2.2.1 y'_44.2.2.2.1 y'_44.2.2.2.2.1 y'_44.2.2.2.2.2.1 y'_44.2.2.2.2.2.2.2.1 y'_44.2.2.2.2.2.2.2.2 y'_44.2.2.2.2.2.2.1)
noncomputable def r8_Reader_formula_L2_B (rc_r8_Reader_formula : (List UInt8) → Int → Int → Int → Int → Int → Int → Tp1 → Option (Int × (List UInt8) × Int × Int × Int × Int × Tp1 × Int × Int))  (r2 : Int → (List UInt8) → Int → Int → Int → Int → Int → Int → Tp1 → Option (Int × (List UInt8) × Int × Int × Int × Int × Tp1 × Int × Int)) (a : Int) (r : (List UInt8)) (r_1 : Int) (r_2 : Int) (r_3 : Int) (r_4 : Int) (r_5 : Int) (r_6 : Int) (l_1 : Tp1) : Option (Int × (List UInt8) × Int × Int × Int × Int × Tp1 × Int × Int) :=
  (r8_Reader_now (r, (r_1, (r_2, (r_3, (r_4, (l_1, ((r_5, (r_6, ())), ())))))))).bind (fun y'_10 =>
  (r8_Reader_ok (r, (r_1, (r_2, (r_3, (r_4, (l_1, ((r_5, (r_6, ())), ())))))))).bind (fun y'_11 =>
  if (!y'_11) = true then
  some (a, r, r_1, r_2, r_3, r_4, l_1, r_5, r_6) else
  if (decide (¬ y'_10 = (124 : Int))) = true then
  some (a, r, r_1, r_2, r_3, r_4, l_1, r_5, r_6) else
  (r8_Reader_counted y'_10 r r_1 r_2 r_3 r_4 r_5 r_6 l_1).bind (fun y'_43 =>
  (r8_Reader_term rc_r8_Reader_formula y'_43.1 y'_43.2.1 y'_43.2.2.1 y'_43.2.2.2.1 y'_43.2.2.2.2.1 y'_43.2.2.2.2.2.2.1 y'_43.2.2.2.2.2.2.2 y'_43.2.2.2.2.2.1).bind (fun y'_42 =>
  (r8_Reader_put (124 : Int) a y'_42.1 y'_42.2.1 y'_42.2.2.1 y'_42.2.2.2.1 y'_42.2.2.2.2.1 y'_42.2.2.2.2.2.1 y'_42.2.2.2.2.2.2.2.1 y'_42.2.2.2.2.2.2.2.2 y'_42.2.2.2.2.2.2.1).bind (fun y'_41 =>
  r2 y'_41.1 y'_41.2.1 y'_41.2.2.1 y'_41.2.2.2.1 y'_41.2.2.2.2.1 y'_41.2.2.2.2.2.1 y'_41.2.2.2.2.2.2.2.1 y'_41.2.2.2.2.2.2.2.2 y'_41.2.2.2.2.2.2.1)))))
noncomputable def r8_Reader_formula_L2_F (rc_r8_Reader_formula : (List UInt8) → Int → Int → Int → Int → Int → Int → Tp1 → Option (Int × (List UInt8) × Int × Int × Int × Int × Tp1 × Int × Int))  : (Int × (List UInt8) × Int × Int × Int × Int × Int × Int × Tp1 → Option (Int × (List UInt8) × Int × Int × Int × Int × Tp1 × Int × Int)) → Int × (List UInt8) × Int × Int × Int × Int × Int × Int × Tp1 → Option (Int × (List UInt8) × Int × Int × Int × Int × Tp1 × Int × Int) :=
  fun rec x => r8_Reader_formula_L2_B rc_r8_Reader_formula (fun a r r_1 r_2 r_3 r_4 r_5 r_6 l_1 => rec (a, r, r_1, r_2, r_3, r_4, r_5, r_6, l_1)) x.1 x.2.1 x.2.2.1 x.2.2.2.1 x.2.2.2.2.1 x.2.2.2.2.2.1 x.2.2.2.2.2.2.1 x.2.2.2.2.2.2.2.1 x.2.2.2.2.2.2.2.2
noncomputable def r8_Reader_formula_L2 (rc_r8_Reader_formula : (List UInt8) → Int → Int → Int → Int → Int → Int → Tp1 → Option (Int × (List UInt8) × Int × Int × Int × Int × Tp1 × Int × Int))  (a : Int) (r : (List UInt8)) (r_1 : Int) (r_2 : Int) (r_3 : Int) (r_4 : Int) (r_5 : Int) (r_6 : Int) (l_1 : Tp1) : Option (Int × (List UInt8) × Int × Int × Int × Int × Tp1 × Int × Int) := LFix (r8_Reader_formula_L2_F rc_r8_Reader_formula ) (a, r, r_1, r_2, r_3, r_4, r_5, r_6, l_1)
noncomputable def r8_Reader_formula_B (rc_r8_Reader_formula : (List UInt8) → Int → Int → Int → Int → Int → Int → Tp1 → Option (Int × (List UInt8) × Int × Int × Int × Int × Tp1 × Int × Int)) (c : (List UInt8)) (c_1 : Int) (c_2 : Int) (c_3 : Int) (c_4 : Int) (c_5 : Int) (c_6 : Int) (l : Tp1) : Option (Int × (List UInt8) × Int × Int × Int × Int × Tp1 × Int × Int) :=
  (r8_Reader_term rc_r8_Reader_formula c c_1 c_2 c_3 c_4 c_5 c_6 l).bind (fun y'_44 =>
  r8_Reader_formula_L2 rc_r8_Reader_formula y'_44.1 y'_44.2.1 y'_44.2.2.1 y'_44.2.2.2.1 y'_44.2.2.2.2.1 y'_44.2.2.2.2.2.1 y'_44.2.2.2.2.2.2.2.1 y'_44.2.2.2.2.2.2.2.2 y'_44.2.2.2.2.2.2.1)
theorem r8_Reader_one_J16_ch (rc_r8_Reader_formula : Nat → (List UInt8) → Int → Int → Int → Int → Int → Int → Tp1 → Option (Int × (List UInt8) × Int × Int × Int × Int × Tp1 × Int × Int)) (rc_r8_Reader_formula' : (List UInt8) → Int → Int → Int → Int → Int → Int → Tp1 → Option (Int × (List UInt8) × Int × Int × Int × Int × Tp1 × Int × Int)) (h_rc_r8_Reader_formula : ∀ a0 a1 a2 a3 a4 a5 a6 a7, ChO (fun κ => rc_r8_Reader_formula κ a0 a1 a2 a3 a4 a5 a6 a7) (rc_r8_Reader_formula' a0 a1 a2 a3 a4 a5 a6 a7)) (c : (List UInt8)) (c_1 : Int) (c_2 : Int) (c_3 : Int) (c_4 : Int) (c_5 : Int) (c_6 : Int) (l : Tp1) (y'_1 : Int) (t_1 : Bool) : ChO (fun κ => r8_Reader_one_J16 (rc_r8_Reader_formula κ) c c_1 c_2 c_3 c_4 c_5 c_6 l y'_1 t_1) (r8_Reader_one_J16 rc_r8_Reader_formula' c c_1 c_2 c_3 c_4 c_5 c_6 l y'_1 t_1) := by
  unfold r8_Reader_one_J16
  repeat' with_reducible first | exact ChO.const _ | exact h_rc_r8_Reader_formula _ _ _ _ _ _ _ _ | apply ChO.ite | apply ChO.G | apply ChO.both | (apply ChO.bind; intro _) | (apply ChO.bind2 (h_rc_r8_Reader_formula _ _ _ _ _ _ _ _); intro _) | (refine ChO.bind2 ?_ (fun _ => ?_))
theorem r8_Reader_one_J9_ch (rc_r8_Reader_formula : Nat → (List UInt8) → Int → Int → Int → Int → Int → Int → Tp1 → Option (Int × (List UInt8) × Int × Int × Int × Int × Tp1 × Int × Int)) (rc_r8_Reader_formula' : (List UInt8) → Int → Int → Int → Int → Int → Int → Tp1 → Option (Int × (List UInt8) × Int × Int × Int × Int × Tp1 × Int × Int)) (h_rc_r8_Reader_formula : ∀ a0 a1 a2 a3 a4 a5 a6 a7, ChO (fun κ => rc_r8_Reader_formula κ a0 a1 a2 a3 a4 a5 a6 a7) (rc_r8_Reader_formula' a0 a1 a2 a3 a4 a5 a6 a7)) (rc_r8_Reader_one : Nat → (List UInt8) → Int → Int → Int → Int → Int → Int → Tp1 → Option (Int × (List UInt8) × Int × Int × Int × Int × Tp1 × Int × Int)) (rc_r8_Reader_one' : (List UInt8) → Int → Int → Int → Int → Int → Int → Tp1 → Option (Int × (List UInt8) × Int × Int × Int × Int × Tp1 × Int × Int)) (h_rc_r8_Reader_one : ∀ a0 a1 a2 a3 a4 a5 a6 a7, ChO (fun κ => rc_r8_Reader_one κ a0 a1 a2 a3 a4 a5 a6 a7) (rc_r8_Reader_one' a0 a1 a2 a3 a4 a5 a6 a7)) (c : (List UInt8)) (c_1 : Int) (c_2 : Int) (c_3 : Int) (c_4 : Int) (c_5 : Int) (c_6 : Int) (l : Tp1) (y'_1 : Int) (t : Bool) : ChO (fun κ => r8_Reader_one_J9 (rc_r8_Reader_formula κ) c c_1 c_2 c_3 c_4 c_5 c_6 l (rc_r8_Reader_one κ) y'_1 t) (r8_Reader_one_J9 rc_r8_Reader_formula' c c_1 c_2 c_3 c_4 c_5 c_6 l rc_r8_Reader_one' y'_1 t) := by
  unfold r8_Reader_one_J9
  repeat' with_reducible first | exact ChO.const _ | exact h_rc_r8_Reader_formula _ _ _ _ _ _ _ _ | exact h_rc_r8_Reader_one _ _ _ _ _ _ _ _ | (apply r8_Reader_one_J16_ch <;> assumption) | apply ChO.ite | apply ChO.G | apply ChO.both | (apply ChO.bind; intro _) | (apply ChO.bind2 (h_rc_r8_Reader_formula _ _ _ _ _ _ _ _); intro _) | (refine ChO.bind2 ?_ (fun _ => ?_))
theorem r8_Reader_one_B_ch (rc_r8_Reader_formula : Nat → (List UInt8) → Int → Int → Int → Int → Int → Int → Tp1 → Option (Int × (List UInt8) × Int × Int × Int × Int × Tp1 × Int × Int)) (rc_r8_Reader_formula' : (List UInt8) → Int → Int → Int → Int → Int → Int → Tp1 → Option (Int × (List UInt8) × Int × Int × Int × Int × Tp1 × Int × Int)) (h_rc_r8_Reader_formula : ∀ a0 a1 a2 a3 a4 a5 a6 a7, ChO (fun κ => rc_r8_Reader_formula κ a0 a1 a2 a3 a4 a5 a6 a7) (rc_r8_Reader_formula' a0 a1 a2 a3 a4 a5 a6 a7)) (rc_r8_Reader_one : Nat → (List UInt8) → Int → Int → Int → Int → Int → Int → Tp1 → Option (Int × (List UInt8) × Int × Int × Int × Int × Tp1 × Int × Int)) (rc_r8_Reader_one' : (List UInt8) → Int → Int → Int → Int → Int → Int → Tp1 → Option (Int × (List UInt8) × Int × Int × Int × Int × Tp1 × Int × Int)) (h_rc_r8_Reader_one : ∀ a0 a1 a2 a3 a4 a5 a6 a7, ChO (fun κ => rc_r8_Reader_one κ a0 a1 a2 a3 a4 a5 a6 a7) (rc_r8_Reader_one' a0 a1 a2 a3 a4 a5 a6 a7)) (c : (List UInt8)) (c_1 : Int) (c_2 : Int) (c_3 : Int) (c_4 : Int) (c_5 : Int) (c_6 : Int) (l : Tp1) : ChO (fun κ => r8_Reader_one_B (rc_r8_Reader_formula κ) (rc_r8_Reader_one κ) c c_1 c_2 c_3 c_4 c_5 c_6 l) (r8_Reader_one_B rc_r8_Reader_formula' rc_r8_Reader_one' c c_1 c_2 c_3 c_4 c_5 c_6 l) := by
  unfold r8_Reader_one_B
  repeat' with_reducible first | exact ChO.const _ | exact h_rc_r8_Reader_formula _ _ _ _ _ _ _ _ | exact h_rc_r8_Reader_one _ _ _ _ _ _ _ _ | (apply r8_Reader_one_J16_ch <;> assumption) | (apply r8_Reader_one_J9_ch <;> assumption) | apply ChO.ite | apply ChO.G | apply ChO.both | (apply ChO.bind; intro _) | (apply ChO.bind2 (h_rc_r8_Reader_formula _ _ _ _ _ _ _ _); intro _) | (refine ChO.bind2 ?_ (fun _ => ?_))
theorem r8_Reader_one_cn (rc_r8_Reader_formula : (List UInt8) → Int → Int → Int → Int → Int → Int → Tp1 → Option (Int × (List UInt8) × Int × Int × Int × Int × Tp1 × Int × Int))  : Cn (r8_Reader_one_F rc_r8_Reader_formula) := fun g h hg x => r8_Reader_one_B_ch (fun _ => rc_r8_Reader_formula) rc_r8_Reader_formula (fun _ _ _ _ _ _ _ _ => ChO.const _) (fun κ c c_1 c_2 c_3 c_4 c_5 c_6 l => g κ (c, c_1, c_2, c_3, c_4, c_5, c_6, l)) (fun c c_1 c_2 c_3 c_4 c_5 c_6 l => h (c, c_1, c_2, c_3, c_4, c_5, c_6, l)) (fun c c_1 c_2 c_3 c_4 c_5 c_6 l => hg (c, c_1, c_2, c_3, c_4, c_5, c_6, l))  x.1 x.2.1 x.2.2.1 x.2.2.2.1 x.2.2.2.2.1 x.2.2.2.2.2.1 x.2.2.2.2.2.2.1 x.2.2.2.2.2.2.2
theorem r8_Reader_one_eq (rc_r8_Reader_formula : (List UInt8) → Int → Int → Int → Int → Int → Int → Tp1 → Option (Int × (List UInt8) × Int × Int × Int × Int × Tp1 × Int × Int))  (c : (List UInt8)) (c_1 : Int) (c_2 : Int) (c_3 : Int) (c_4 : Int) (c_5 : Int) (c_6 : Int) (l : Tp1) : r8_Reader_one rc_r8_Reader_formula c c_1 c_2 c_3 c_4 c_5 c_6 l = r8_Reader_one_B rc_r8_Reader_formula (r8_Reader_one rc_r8_Reader_formula) c c_1 c_2 c_3 c_4 c_5 c_6 l := LFix_eq (r8_Reader_one_cn rc_r8_Reader_formula) (c, c_1, c_2, c_3, c_4, c_5, c_6, l)
theorem r8_Reader_one_ch (rc_r8_Reader_formula : Nat → (List UInt8) → Int → Int → Int → Int → Int → Int → Tp1 → Option (Int × (List UInt8) × Int × Int × Int × Int × Tp1 × Int × Int)) (rc_r8_Reader_formula' : (List UInt8) → Int → Int → Int → Int → Int → Int → Tp1 → Option (Int × (List UInt8) × Int × Int × Int × Int × Tp1 × Int × Int)) (h_rc_r8_Reader_formula : ∀ a0 a1 a2 a3 a4 a5 a6 a7, ChO (fun κ => rc_r8_Reader_formula κ a0 a1 a2 a3 a4 a5 a6 a7) (rc_r8_Reader_formula' a0 a1 a2 a3 a4 a5 a6 a7))  (c : (List UInt8)) (c_1 : Int) (c_2 : Int) (c_3 : Int) (c_4 : Int) (c_5 : Int) (c_6 : Int) (l : Tp1) : ChO (fun κ => r8_Reader_one (rc_r8_Reader_formula κ) c c_1 c_2 c_3 c_4 c_5 c_6 l) (r8_Reader_one rc_r8_Reader_formula' c c_1 c_2 c_3 c_4 c_5 c_6 l) := by
  unfold r8_Reader_one
  exact LFix_ch (fun κ => (r8_Reader_one_cn (rc_r8_Reader_formula κ) ).mono) (r8_Reader_one_cn rc_r8_Reader_formula' ).mono (fun g h hg x => r8_Reader_one_B_ch rc_r8_Reader_formula rc_r8_Reader_formula' h_rc_r8_Reader_formula (fun κ c c_1 c_2 c_3 c_4 c_5 c_6 l => g κ (c, c_1, c_2, c_3, c_4, c_5, c_6, l)) (fun c c_1 c_2 c_3 c_4 c_5 c_6 l => h (c, c_1, c_2, c_3, c_4, c_5, c_6, l)) (fun c c_1 c_2 c_3 c_4 c_5 c_6 l => hg (c, c_1, c_2, c_3, c_4, c_5, c_6, l))  x.1 x.2.1 x.2.2.1 x.2.2.2.1 x.2.2.2.2.1 x.2.2.2.2.2.1 x.2.2.2.2.2.2.1 x.2.2.2.2.2.2.2) _
theorem r8_Reader_part_J5_ch (rc_r8_Reader_part : Nat → (List UInt8) → Int → Int → Int → Int → Int → Int → Tp1 → Option (Int × (List UInt8) × Int × Int × Int × Int × Tp1 × Int × Int)) (rc_r8_Reader_part' : (List UInt8) → Int → Int → Int → Int → Int → Int → Tp1 → Option (Int × (List UInt8) × Int × Int × Int × Int × Tp1 × Int × Int)) (h_rc_r8_Reader_part : ∀ a0 a1 a2 a3 a4 a5 a6 a7, ChO (fun κ => rc_r8_Reader_part κ a0 a1 a2 a3 a4 a5 a6 a7) (rc_r8_Reader_part' a0 a1 a2 a3 a4 a5 a6 a7)) (y' : Int) (y'_1 : (List UInt8)) (y'_2 : Int) (y'_3 : Int) (y'_4 : Int) (y'_5 : Int) (y'_6 : Tp1) (y'_7 : Int) (y'_8 : Int) (y'_10 : Int) : ChO (fun κ => r8_Reader_part_J5 (rc_r8_Reader_part κ) y' y'_1 y'_2 y'_3 y'_4 y'_5 y'_6 y'_7 y'_8 y'_10) (r8_Reader_part_J5 rc_r8_Reader_part' y' y'_1 y'_2 y'_3 y'_4 y'_5 y'_6 y'_7 y'_8 y'_10) := by
  unfold r8_Reader_part_J5
  repeat' with_reducible first | exact ChO.const _ | exact h_rc_r8_Reader_part _ _ _ _ _ _ _ _ | (apply r8_Reader_one_J16_ch <;> assumption) | (apply r8_Reader_one_J9_ch <;> assumption) | (apply r8_Reader_one_ch <;> assumption) | apply ChO.ite | apply ChO.G | apply ChO.both | (apply ChO.bind; intro _) | (refine ChO.bind2 ?_ (fun _ => ?_))
theorem r8_Reader_part_B_ch (rc_r8_Reader_formula : Nat → (List UInt8) → Int → Int → Int → Int → Int → Int → Tp1 → Option (Int × (List UInt8) × Int × Int × Int × Int × Tp1 × Int × Int)) (rc_r8_Reader_formula' : (List UInt8) → Int → Int → Int → Int → Int → Int → Tp1 → Option (Int × (List UInt8) × Int × Int × Int × Int × Tp1 × Int × Int)) (h_rc_r8_Reader_formula : ∀ a0 a1 a2 a3 a4 a5 a6 a7, ChO (fun κ => rc_r8_Reader_formula κ a0 a1 a2 a3 a4 a5 a6 a7) (rc_r8_Reader_formula' a0 a1 a2 a3 a4 a5 a6 a7)) (rc_r8_Reader_part : Nat → (List UInt8) → Int → Int → Int → Int → Int → Int → Tp1 → Option (Int × (List UInt8) × Int × Int × Int × Int × Tp1 × Int × Int)) (rc_r8_Reader_part' : (List UInt8) → Int → Int → Int → Int → Int → Int → Tp1 → Option (Int × (List UInt8) × Int × Int × Int × Int × Tp1 × Int × Int)) (h_rc_r8_Reader_part : ∀ a0 a1 a2 a3 a4 a5 a6 a7, ChO (fun κ => rc_r8_Reader_part κ a0 a1 a2 a3 a4 a5 a6 a7) (rc_r8_Reader_part' a0 a1 a2 a3 a4 a5 a6 a7)) (c : (List UInt8)) (c_1 : Int) (c_2 : Int) (c_3 : Int) (c_4 : Int) (c_5 : Int) (c_6 : Int) (l : Tp1) : ChO (fun κ => r8_Reader_part_B (rc_r8_Reader_formula κ) (rc_r8_Reader_part κ) c c_1 c_2 c_3 c_4 c_5 c_6 l) (r8_Reader_part_B rc_r8_Reader_formula' rc_r8_Reader_part' c c_1 c_2 c_3 c_4 c_5 c_6 l) := by
  unfold r8_Reader_part_B
  repeat' with_reducible first | exact ChO.const _ | exact h_rc_r8_Reader_formula _ _ _ _ _ _ _ _ | exact h_rc_r8_Reader_part _ _ _ _ _ _ _ _ | (apply r8_Reader_one_J16_ch <;> assumption) | (apply r8_Reader_one_J9_ch <;> assumption) | (apply r8_Reader_one_ch <;> assumption) | (apply r8_Reader_part_J5_ch <;> assumption) | apply ChO.ite | apply ChO.G | apply ChO.both | (apply ChO.bind; intro _) | (apply ChO.bind2 (h_rc_r8_Reader_formula _ _ _ _ _ _ _ _); intro _) | (refine ChO.bind2 ?_ (fun _ => ?_))
theorem r8_Reader_part_cn (rc_r8_Reader_formula : (List UInt8) → Int → Int → Int → Int → Int → Int → Tp1 → Option (Int × (List UInt8) × Int × Int × Int × Int × Tp1 × Int × Int))  : Cn (r8_Reader_part_F rc_r8_Reader_formula) := fun g h hg x => r8_Reader_part_B_ch (fun _ => rc_r8_Reader_formula) rc_r8_Reader_formula (fun _ _ _ _ _ _ _ _ => ChO.const _) (fun κ c c_1 c_2 c_3 c_4 c_5 c_6 l => g κ (c, c_1, c_2, c_3, c_4, c_5, c_6, l)) (fun c c_1 c_2 c_3 c_4 c_5 c_6 l => h (c, c_1, c_2, c_3, c_4, c_5, c_6, l)) (fun c c_1 c_2 c_3 c_4 c_5 c_6 l => hg (c, c_1, c_2, c_3, c_4, c_5, c_6, l))  x.1 x.2.1 x.2.2.1 x.2.2.2.1 x.2.2.2.2.1 x.2.2.2.2.2.1 x.2.2.2.2.2.2.1 x.2.2.2.2.2.2.2
theorem r8_Reader_part_eq (rc_r8_Reader_formula : (List UInt8) → Int → Int → Int → Int → Int → Int → Tp1 → Option (Int × (List UInt8) × Int × Int × Int × Int × Tp1 × Int × Int))  (c : (List UInt8)) (c_1 : Int) (c_2 : Int) (c_3 : Int) (c_4 : Int) (c_5 : Int) (c_6 : Int) (l : Tp1) : r8_Reader_part rc_r8_Reader_formula c c_1 c_2 c_3 c_4 c_5 c_6 l = r8_Reader_part_B rc_r8_Reader_formula (r8_Reader_part rc_r8_Reader_formula) c c_1 c_2 c_3 c_4 c_5 c_6 l := LFix_eq (r8_Reader_part_cn rc_r8_Reader_formula) (c, c_1, c_2, c_3, c_4, c_5, c_6, l)
theorem r8_Reader_part_ch (rc_r8_Reader_formula : Nat → (List UInt8) → Int → Int → Int → Int → Int → Int → Tp1 → Option (Int × (List UInt8) × Int × Int × Int × Int × Tp1 × Int × Int)) (rc_r8_Reader_formula' : (List UInt8) → Int → Int → Int → Int → Int → Int → Tp1 → Option (Int × (List UInt8) × Int × Int × Int × Int × Tp1 × Int × Int)) (h_rc_r8_Reader_formula : ∀ a0 a1 a2 a3 a4 a5 a6 a7, ChO (fun κ => rc_r8_Reader_formula κ a0 a1 a2 a3 a4 a5 a6 a7) (rc_r8_Reader_formula' a0 a1 a2 a3 a4 a5 a6 a7))  (c : (List UInt8)) (c_1 : Int) (c_2 : Int) (c_3 : Int) (c_4 : Int) (c_5 : Int) (c_6 : Int) (l : Tp1) : ChO (fun κ => r8_Reader_part (rc_r8_Reader_formula κ) c c_1 c_2 c_3 c_4 c_5 c_6 l) (r8_Reader_part rc_r8_Reader_formula' c c_1 c_2 c_3 c_4 c_5 c_6 l) := by
  unfold r8_Reader_part
  exact LFix_ch (fun κ => (r8_Reader_part_cn (rc_r8_Reader_formula κ) ).mono) (r8_Reader_part_cn rc_r8_Reader_formula' ).mono (fun g h hg x => r8_Reader_part_B_ch rc_r8_Reader_formula rc_r8_Reader_formula' h_rc_r8_Reader_formula (fun κ c c_1 c_2 c_3 c_4 c_5 c_6 l => g κ (c, c_1, c_2, c_3, c_4, c_5, c_6, l)) (fun c c_1 c_2 c_3 c_4 c_5 c_6 l => h (c, c_1, c_2, c_3, c_4, c_5, c_6, l)) (fun c c_1 c_2 c_3 c_4 c_5 c_6 l => hg (c, c_1, c_2, c_3, c_4, c_5, c_6, l))  x.1 x.2.1 x.2.2.1 x.2.2.2.1 x.2.2.2.2.1 x.2.2.2.2.2.1 x.2.2.2.2.2.2.1 x.2.2.2.2.2.2.2) _
theorem r8_Reader_term_L2_B_ch (rc_r8_Reader_formula : Nat → (List UInt8) → Int → Int → Int → Int → Int → Int → Tp1 → Option (Int × (List UInt8) × Int × Int × Int × Int × Tp1 × Int × Int)) (rc_r8_Reader_formula' : (List UInt8) → Int → Int → Int → Int → Int → Int → Tp1 → Option (Int × (List UInt8) × Int × Int × Int × Int × Tp1 × Int × Int)) (h_rc_r8_Reader_formula : ∀ a0 a1 a2 a3 a4 a5 a6 a7, ChO (fun κ => rc_r8_Reader_formula κ a0 a1 a2 a3 a4 a5 a6 a7) (rc_r8_Reader_formula' a0 a1 a2 a3 a4 a5 a6 a7)) (r2 : Nat → Int → (List UInt8) → Int → Int → Int → Int → Int → Int → Tp1 → Option (Int × (List UInt8) × Int × Int × Int × Int × Tp1 × Int × Int)) (r2' : Int → (List UInt8) → Int → Int → Int → Int → Int → Int → Tp1 → Option (Int × (List UInt8) × Int × Int × Int × Int × Tp1 × Int × Int)) (h_r2 : ∀ a0 a1 a2 a3 a4 a5 a6 a7 a8, ChO (fun κ => r2 κ a0 a1 a2 a3 a4 a5 a6 a7 a8) (r2' a0 a1 a2 a3 a4 a5 a6 a7 a8)) (a : Int) (r : (List UInt8)) (r_1 : Int) (r_2 : Int) (r_3 : Int) (r_4 : Int) (r_5 : Int) (r_6 : Int) (l_1 : Tp1) : ChO (fun κ => r8_Reader_term_L2_B (rc_r8_Reader_formula κ) (r2 κ) a r r_1 r_2 r_3 r_4 r_5 r_6 l_1) (r8_Reader_term_L2_B rc_r8_Reader_formula' r2' a r r_1 r_2 r_3 r_4 r_5 r_6 l_1) := by
  unfold r8_Reader_term_L2_B
  repeat' with_reducible first | exact ChO.const _ | exact h_rc_r8_Reader_formula _ _ _ _ _ _ _ _ | exact h_r2 _ _ _ _ _ _ _ _ _ | (apply r8_Reader_one_J16_ch <;> assumption) | (apply r8_Reader_one_J9_ch <;> assumption) | (apply r8_Reader_one_ch <;> assumption) | (apply r8_Reader_part_J5_ch <;> assumption) | (apply r8_Reader_part_ch <;> assumption) | apply ChO.ite | apply ChO.G | apply ChO.both | (apply ChO.bind; intro _) | (apply ChO.bind2 (h_rc_r8_Reader_formula _ _ _ _ _ _ _ _); intro _) | (refine ChO.bind2 ?_ (fun _ => ?_))
theorem r8_Reader_term_L2_cn (rc_r8_Reader_formula : (List UInt8) → Int → Int → Int → Int → Int → Int → Tp1 → Option (Int × (List UInt8) × Int × Int × Int × Int × Tp1 × Int × Int))  : Cn (r8_Reader_term_L2_F rc_r8_Reader_formula) := fun g h hg x => r8_Reader_term_L2_B_ch (fun _ => rc_r8_Reader_formula) rc_r8_Reader_formula (fun _ _ _ _ _ _ _ _ => ChO.const _) (fun κ a r r_1 r_2 r_3 r_4 r_5 r_6 l_1 => g κ (a, r, r_1, r_2, r_3, r_4, r_5, r_6, l_1)) (fun a r r_1 r_2 r_3 r_4 r_5 r_6 l_1 => h (a, r, r_1, r_2, r_3, r_4, r_5, r_6, l_1)) (fun a r r_1 r_2 r_3 r_4 r_5 r_6 l_1 => hg (a, r, r_1, r_2, r_3, r_4, r_5, r_6, l_1))  x.1 x.2.1 x.2.2.1 x.2.2.2.1 x.2.2.2.2.1 x.2.2.2.2.2.1 x.2.2.2.2.2.2.1 x.2.2.2.2.2.2.2.1 x.2.2.2.2.2.2.2.2
theorem r8_Reader_term_L2_eq (rc_r8_Reader_formula : (List UInt8) → Int → Int → Int → Int → Int → Int → Tp1 → Option (Int × (List UInt8) × Int × Int × Int × Int × Tp1 × Int × Int))  (a : Int) (r : (List UInt8)) (r_1 : Int) (r_2 : Int) (r_3 : Int) (r_4 : Int) (r_5 : Int) (r_6 : Int) (l_1 : Tp1) : r8_Reader_term_L2 rc_r8_Reader_formula a r r_1 r_2 r_3 r_4 r_5 r_6 l_1 = r8_Reader_term_L2_B rc_r8_Reader_formula (r8_Reader_term_L2 rc_r8_Reader_formula) a r r_1 r_2 r_3 r_4 r_5 r_6 l_1 := LFix_eq (r8_Reader_term_L2_cn rc_r8_Reader_formula) (a, r, r_1, r_2, r_3, r_4, r_5, r_6, l_1)
theorem r8_Reader_term_L2_ch (rc_r8_Reader_formula : Nat → (List UInt8) → Int → Int → Int → Int → Int → Int → Tp1 → Option (Int × (List UInt8) × Int × Int × Int × Int × Tp1 × Int × Int)) (rc_r8_Reader_formula' : (List UInt8) → Int → Int → Int → Int → Int → Int → Tp1 → Option (Int × (List UInt8) × Int × Int × Int × Int × Tp1 × Int × Int)) (h_rc_r8_Reader_formula : ∀ a0 a1 a2 a3 a4 a5 a6 a7, ChO (fun κ => rc_r8_Reader_formula κ a0 a1 a2 a3 a4 a5 a6 a7) (rc_r8_Reader_formula' a0 a1 a2 a3 a4 a5 a6 a7))  (a : Int) (r : (List UInt8)) (r_1 : Int) (r_2 : Int) (r_3 : Int) (r_4 : Int) (r_5 : Int) (r_6 : Int) (l_1 : Tp1) : ChO (fun κ => r8_Reader_term_L2 (rc_r8_Reader_formula κ) a r r_1 r_2 r_3 r_4 r_5 r_6 l_1) (r8_Reader_term_L2 rc_r8_Reader_formula' a r r_1 r_2 r_3 r_4 r_5 r_6 l_1) := by
  unfold r8_Reader_term_L2
  exact LFix_ch (fun κ => (r8_Reader_term_L2_cn (rc_r8_Reader_formula κ) ).mono) (r8_Reader_term_L2_cn rc_r8_Reader_formula' ).mono (fun g h hg x => r8_Reader_term_L2_B_ch rc_r8_Reader_formula rc_r8_Reader_formula' h_rc_r8_Reader_formula (fun κ a r r_1 r_2 r_3 r_4 r_5 r_6 l_1 => g κ (a, r, r_1, r_2, r_3, r_4, r_5, r_6, l_1)) (fun a r r_1 r_2 r_3 r_4 r_5 r_6 l_1 => h (a, r, r_1, r_2, r_3, r_4, r_5, r_6, l_1)) (fun a r r_1 r_2 r_3 r_4 r_5 r_6 l_1 => hg (a, r, r_1, r_2, r_3, r_4, r_5, r_6, l_1))  x.1 x.2.1 x.2.2.1 x.2.2.2.1 x.2.2.2.2.1 x.2.2.2.2.2.1 x.2.2.2.2.2.2.1 x.2.2.2.2.2.2.2.1 x.2.2.2.2.2.2.2.2) _
theorem r8_Reader_term_ch (rc_r8_Reader_formula : Nat → (List UInt8) → Int → Int → Int → Int → Int → Int → Tp1 → Option (Int × (List UInt8) × Int × Int × Int × Int × Tp1 × Int × Int)) (rc_r8_Reader_formula' : (List UInt8) → Int → Int → Int → Int → Int → Int → Tp1 → Option (Int × (List UInt8) × Int × Int × Int × Int × Tp1 × Int × Int)) (h_rc_r8_Reader_formula : ∀ a0 a1 a2 a3 a4 a5 a6 a7, ChO (fun κ => rc_r8_Reader_formula κ a0 a1 a2 a3 a4 a5 a6 a7) (rc_r8_Reader_formula' a0 a1 a2 a3 a4 a5 a6 a7)) (c : (List UInt8)) (c_1 : Int) (c_2 : Int) (c_3 : Int) (c_4 : Int) (c_5 : Int) (c_6 : Int) (l : Tp1) : ChO (fun κ => r8_Reader_term (rc_r8_Reader_formula κ) c c_1 c_2 c_3 c_4 c_5 c_6 l) (r8_Reader_term rc_r8_Reader_formula' c c_1 c_2 c_3 c_4 c_5 c_6 l) := by
  unfold r8_Reader_term
  repeat' with_reducible first | exact ChO.const _ | exact h_rc_r8_Reader_formula _ _ _ _ _ _ _ _ | (apply r8_Reader_one_J16_ch <;> assumption) | (apply r8_Reader_one_J9_ch <;> assumption) | (apply r8_Reader_one_ch <;> assumption) | (apply r8_Reader_part_J5_ch <;> assumption) | (apply r8_Reader_part_ch <;> assumption) | (apply r8_Reader_term_L2_ch <;> assumption) | apply ChO.ite | apply ChO.G | apply ChO.both | (apply ChO.bind; intro _) | (apply ChO.bind2 (h_rc_r8_Reader_formula _ _ _ _ _ _ _ _); intro _) | (refine ChO.bind2 ?_ (fun _ => ?_))
theorem r8_Reader_formula_L2_B_ch (rc_r8_Reader_formula : Nat → (List UInt8) → Int → Int → Int → Int → Int → Int → Tp1 → Option (Int × (List UInt8) × Int × Int × Int × Int × Tp1 × Int × Int)) (rc_r8_Reader_formula' : (List UInt8) → Int → Int → Int → Int → Int → Int → Tp1 → Option (Int × (List UInt8) × Int × Int × Int × Int × Tp1 × Int × Int)) (h_rc_r8_Reader_formula : ∀ a0 a1 a2 a3 a4 a5 a6 a7, ChO (fun κ => rc_r8_Reader_formula κ a0 a1 a2 a3 a4 a5 a6 a7) (rc_r8_Reader_formula' a0 a1 a2 a3 a4 a5 a6 a7)) (r2 : Nat → Int → (List UInt8) → Int → Int → Int → Int → Int → Int → Tp1 → Option (Int × (List UInt8) × Int × Int × Int × Int × Tp1 × Int × Int)) (r2' : Int → (List UInt8) → Int → Int → Int → Int → Int → Int → Tp1 → Option (Int × (List UInt8) × Int × Int × Int × Int × Tp1 × Int × Int)) (h_r2 : ∀ a0 a1 a2 a3 a4 a5 a6 a7 a8, ChO (fun κ => r2 κ a0 a1 a2 a3 a4 a5 a6 a7 a8) (r2' a0 a1 a2 a3 a4 a5 a6 a7 a8)) (a : Int) (r : (List UInt8)) (r_1 : Int) (r_2 : Int) (r_3 : Int) (r_4 : Int) (r_5 : Int) (r_6 : Int) (l_1 : Tp1) : ChO (fun κ => r8_Reader_formula_L2_B (rc_r8_Reader_formula κ) (r2 κ) a r r_1 r_2 r_3 r_4 r_5 r_6 l_1) (r8_Reader_formula_L2_B rc_r8_Reader_formula' r2' a r r_1 r_2 r_3 r_4 r_5 r_6 l_1) := by
  unfold r8_Reader_formula_L2_B
  repeat' with_reducible first | exact ChO.const _ | exact h_rc_r8_Reader_formula _ _ _ _ _ _ _ _ | exact h_r2 _ _ _ _ _ _ _ _ _ | (apply r8_Reader_one_J16_ch <;> assumption) | (apply r8_Reader_one_J9_ch <;> assumption) | (apply r8_Reader_one_ch <;> assumption) | (apply r8_Reader_part_J5_ch <;> assumption) | (apply r8_Reader_part_ch <;> assumption) | (apply r8_Reader_term_L2_ch <;> assumption) | (apply r8_Reader_term_ch <;> assumption) | apply ChO.ite | apply ChO.G | apply ChO.both | (apply ChO.bind; intro _) | (apply ChO.bind2 (h_rc_r8_Reader_formula _ _ _ _ _ _ _ _); intro _) | (refine ChO.bind2 ?_ (fun _ => ?_))
theorem r8_Reader_formula_L2_cn (rc_r8_Reader_formula : (List UInt8) → Int → Int → Int → Int → Int → Int → Tp1 → Option (Int × (List UInt8) × Int × Int × Int × Int × Tp1 × Int × Int))  : Cn (r8_Reader_formula_L2_F rc_r8_Reader_formula) := fun g h hg x => r8_Reader_formula_L2_B_ch (fun _ => rc_r8_Reader_formula) rc_r8_Reader_formula (fun _ _ _ _ _ _ _ _ => ChO.const _) (fun κ a r r_1 r_2 r_3 r_4 r_5 r_6 l_1 => g κ (a, r, r_1, r_2, r_3, r_4, r_5, r_6, l_1)) (fun a r r_1 r_2 r_3 r_4 r_5 r_6 l_1 => h (a, r, r_1, r_2, r_3, r_4, r_5, r_6, l_1)) (fun a r r_1 r_2 r_3 r_4 r_5 r_6 l_1 => hg (a, r, r_1, r_2, r_3, r_4, r_5, r_6, l_1))  x.1 x.2.1 x.2.2.1 x.2.2.2.1 x.2.2.2.2.1 x.2.2.2.2.2.1 x.2.2.2.2.2.2.1 x.2.2.2.2.2.2.2.1 x.2.2.2.2.2.2.2.2
theorem r8_Reader_formula_L2_eq (rc_r8_Reader_formula : (List UInt8) → Int → Int → Int → Int → Int → Int → Tp1 → Option (Int × (List UInt8) × Int × Int × Int × Int × Tp1 × Int × Int))  (a : Int) (r : (List UInt8)) (r_1 : Int) (r_2 : Int) (r_3 : Int) (r_4 : Int) (r_5 : Int) (r_6 : Int) (l_1 : Tp1) : r8_Reader_formula_L2 rc_r8_Reader_formula a r r_1 r_2 r_3 r_4 r_5 r_6 l_1 = r8_Reader_formula_L2_B rc_r8_Reader_formula (r8_Reader_formula_L2 rc_r8_Reader_formula) a r r_1 r_2 r_3 r_4 r_5 r_6 l_1 := LFix_eq (r8_Reader_formula_L2_cn rc_r8_Reader_formula) (a, r, r_1, r_2, r_3, r_4, r_5, r_6, l_1)
theorem r8_Reader_formula_L2_ch (rc_r8_Reader_formula : Nat → (List UInt8) → Int → Int → Int → Int → Int → Int → Tp1 → Option (Int × (List UInt8) × Int × Int × Int × Int × Tp1 × Int × Int)) (rc_r8_Reader_formula' : (List UInt8) → Int → Int → Int → Int → Int → Int → Tp1 → Option (Int × (List UInt8) × Int × Int × Int × Int × Tp1 × Int × Int)) (h_rc_r8_Reader_formula : ∀ a0 a1 a2 a3 a4 a5 a6 a7, ChO (fun κ => rc_r8_Reader_formula κ a0 a1 a2 a3 a4 a5 a6 a7) (rc_r8_Reader_formula' a0 a1 a2 a3 a4 a5 a6 a7))  (a : Int) (r : (List UInt8)) (r_1 : Int) (r_2 : Int) (r_3 : Int) (r_4 : Int) (r_5 : Int) (r_6 : Int) (l_1 : Tp1) : ChO (fun κ => r8_Reader_formula_L2 (rc_r8_Reader_formula κ) a r r_1 r_2 r_3 r_4 r_5 r_6 l_1) (r8_Reader_formula_L2 rc_r8_Reader_formula' a r r_1 r_2 r_3 r_4 r_5 r_6 l_1) := by
  unfold r8_Reader_formula_L2
  exact LFix_ch (fun κ => (r8_Reader_formula_L2_cn (rc_r8_Reader_formula κ) ).mono) (r8_Reader_formula_L2_cn rc_r8_Reader_formula' ).mono (fun g h hg x => r8_Reader_formula_L2_B_ch rc_r8_Reader_formula rc_r8_Reader_formula' h_rc_r8_Reader_formula (fun κ a r r_1 r_2 r_3 r_4 r_5 r_6 l_1 => g κ (a, r, r_1, r_2, r_3, r_4, r_5, r_6, l_1)) (fun a r r_1 r_2 r_3 r_4 r_5 r_6 l_1 => h (a, r, r_1, r_2, r_3, r_4, r_5, r_6, l_1)) (fun a r r_1 r_2 r_3 r_4 r_5 r_6 l_1 => hg (a, r, r_1, r_2, r_3, r_4, r_5, r_6, l_1))  x.1 x.2.1 x.2.2.1 x.2.2.2.1 x.2.2.2.2.1 x.2.2.2.2.2.1 x.2.2.2.2.2.2.1 x.2.2.2.2.2.2.2.1 x.2.2.2.2.2.2.2.2) _
theorem r8_Reader_formula_B_ch (rc_r8_Reader_formula : Nat → (List UInt8) → Int → Int → Int → Int → Int → Int → Tp1 → Option (Int × (List UInt8) × Int × Int × Int × Int × Tp1 × Int × Int)) (rc_r8_Reader_formula' : (List UInt8) → Int → Int → Int → Int → Int → Int → Tp1 → Option (Int × (List UInt8) × Int × Int × Int × Int × Tp1 × Int × Int)) (h_rc_r8_Reader_formula : ∀ a0 a1 a2 a3 a4 a5 a6 a7, ChO (fun κ => rc_r8_Reader_formula κ a0 a1 a2 a3 a4 a5 a6 a7) (rc_r8_Reader_formula' a0 a1 a2 a3 a4 a5 a6 a7)) (c : (List UInt8)) (c_1 : Int) (c_2 : Int) (c_3 : Int) (c_4 : Int) (c_5 : Int) (c_6 : Int) (l : Tp1) : ChO (fun κ => r8_Reader_formula_B (rc_r8_Reader_formula κ) c c_1 c_2 c_3 c_4 c_5 c_6 l) (r8_Reader_formula_B rc_r8_Reader_formula' c c_1 c_2 c_3 c_4 c_5 c_6 l) := by
  unfold r8_Reader_formula_B
  repeat' with_reducible first | exact ChO.const _ | exact h_rc_r8_Reader_formula _ _ _ _ _ _ _ _ | (apply r8_Reader_one_J16_ch <;> assumption) | (apply r8_Reader_one_J9_ch <;> assumption) | (apply r8_Reader_one_ch <;> assumption) | (apply r8_Reader_part_J5_ch <;> assumption) | (apply r8_Reader_part_ch <;> assumption) | (apply r8_Reader_term_L2_ch <;> assumption) | (apply r8_Reader_term_ch <;> assumption) | (apply r8_Reader_formula_L2_ch <;> assumption) | apply ChO.ite | apply ChO.G | apply ChO.both | (apply ChO.bind; intro _) | (apply ChO.bind2 (h_rc_r8_Reader_formula _ _ _ _ _ _ _ _); intro _) | (refine ChO.bind2 ?_ (fun _ => ?_))
noncomputable def r8_Reader_formula_F : ((List UInt8) × Int × Int × Int × Int × Int × Int × Tp1 → Option (Int × (List UInt8) × Int × Int × Int × Int × Tp1 × Int × Int)) → (List UInt8) × Int × Int × Int × Int × Int × Int × Tp1 → Option (Int × (List UInt8) × Int × Int × Int × Int × Tp1 × Int × Int) :=
  fun rec X => r8_Reader_formula_B (fun c c_1 c_2 c_3 c_4 c_5 c_6 l => rec (c, c_1, c_2, c_3, c_4, c_5, c_6, l)) X.1 X.2.1 X.2.2.1 X.2.2.2.1 X.2.2.2.2.1 X.2.2.2.2.2.1 X.2.2.2.2.2.2.1 X.2.2.2.2.2.2.2
noncomputable def r8_Reader_formula (c : (List UInt8)) (c_1 : Int) (c_2 : Int) (c_3 : Int) (c_4 : Int) (c_5 : Int) (c_6 : Int) (l : Tp1) : Option (Int × (List UInt8) × Int × Int × Int × Int × Tp1 × Int × Int) := LFix r8_Reader_formula_F (c, c_1, c_2, c_3, c_4, c_5, c_6, l)
theorem r8_Reader_formula_cn : Cn r8_Reader_formula_F := fun g h hg X => r8_Reader_formula_B_ch _ _ (fun c c_1 c_2 c_3 c_4 c_5 c_6 l => hg (c, c_1, c_2, c_3, c_4, c_5, c_6, l)) X.1 X.2.1 X.2.2.1 X.2.2.2.1 X.2.2.2.2.1 X.2.2.2.2.2.1 X.2.2.2.2.2.2.1 X.2.2.2.2.2.2.2
theorem r8_Reader_formula_eq (c : (List UInt8)) (c_1 : Int) (c_2 : Int) (c_3 : Int) (c_4 : Int) (c_5 : Int) (c_6 : Int) (l : Tp1) : r8_Reader_formula c c_1 c_2 c_3 c_4 c_5 c_6 l = r8_Reader_formula_B r8_Reader_formula c c_1 c_2 c_3 c_4 c_5 c_6 l := LFix_eq r8_Reader_formula_cn (c, c_1, c_2, c_3, c_4, c_5, c_6, l)
noncomputable def r8_Reader_one_c (c : (List UInt8)) (c_1 : Int) (c_2 : Int) (c_3 : Int) (c_4 : Int) (c_5 : Int) (c_6 : Int) (l : Tp1) : Option (Int × (List UInt8) × Int × Int × Int × Int × Tp1 × Int × Int) := r8_Reader_one r8_Reader_formula c c_1 c_2 c_3 c_4 c_5 c_6 l
noncomputable def r8_Reader_part_c (c : (List UInt8)) (c_1 : Int) (c_2 : Int) (c_3 : Int) (c_4 : Int) (c_5 : Int) (c_6 : Int) (l : Tp1) : Option (Int × (List UInt8) × Int × Int × Int × Int × Tp1 × Int × Int) := r8_Reader_part r8_Reader_formula c c_1 c_2 c_3 c_4 c_5 c_6 l
noncomputable def r8_Reader_term_c (c : (List UInt8)) (c_1 : Int) (c_2 : Int) (c_3 : Int) (c_4 : Int) (c_5 : Int) (c_6 : Int) (l : Tp1) : Option (Int × (List UInt8) × Int × Int × Int × Int × Tp1 × Int × Int) := r8_Reader_term r8_Reader_formula c c_1 c_2 c_3 c_4 c_5 c_6 l

noncomputable def r8_Parse (text : (List UInt8)) : Option (Int × (Int × Int × Unit) × Tp1) :=
  if (decide ((4000 : Int) < (text.length : Int))) = true then
  some ((0 : Int), ((1 : Int), ((0 : Int), ())), []) else
  (r8_Reader_formula text (0 : Int) (0 : Int) (0 : Int) (0 : Int) (0 : Int) (0 : Int) ([] : List Tp2)).bind (fun y'_20 =>
  if (decide (y'_20.2.2.1 < (text.length : Int))) = true then
  (r8_Reader_fail (4 : Int) y'_20.2.1 y'_20.2.2.1 y'_20.2.2.2.1 y'_20.2.2.2.2.1 y'_20.2.2.2.2.2.1 y'_20.2.2.2.2.2.2.2.1 y'_20.2.2.2.2.2.2.2.2 y'_20.2.2.2.2.2.2.1).bind (fun y'_19 =>
  if (decide (¬ y'_19.2.2.2.2.2.2.1 = (0 : Int))) = true then
  some ((0 : Int), (y'_19.2.2.2.2.2.2.1, (y'_19.2.2.2.2.2.2.2, ())), []) else
  some (y'_20.1, ((0 : Int), ((0 : Int), ())), y'_19.2.2.2.2.2.1)) else
  if (decide (¬ y'_20.2.2.2.2.2.2.2.1 = (0 : Int))) = true then
  some ((0 : Int), (y'_20.2.2.2.2.2.2.2.1, (y'_20.2.2.2.2.2.2.2.2, ())), []) else
  some (y'_20.1, ((0 : Int), ((0 : Int), ())), y'_20.2.2.2.2.2.2.1))

noncomputable def law_TimeReads (text : (List UInt8)) : Option (Bool) :=
  (time_Check text).bind (fun y' =>
  (r8_Parse text).bind (fun y'_5 =>
  some (eqB (y'.1, (y'.2.1, ())) (y'_5.2.1.1, (y'_5.2.1.2.1, ())))))

end Go.Proofs.Ytdobpnnpfehjnaa.timeReadsW
