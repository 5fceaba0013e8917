/- What the functions that 'CodeUnique' reaches compute: plain functions. -/
import Derived.Test.YthepofdgjefncaaEv17n21
set_option maxHeartbeats 1000000
set_option maxRecDepth 20000
set_option linter.unusedSimpArgs false
set_option linter.unusedVariables false
set_option linter.unusedSectionVars false
namespace Go.Proofs.Ythepofdgjefncaa.codeUniqueW
open Go Go.Ab
noncomputable def law_list (l : (List Int)) : Option (List Int) :=
  G (fits ((l.length : Int) + (3 : Int))) (
  G (mkOK (l.length : Int) ((l.length : Int) + (3 : Int)) 8) (
  some (l.take (List.replicate ((l.length : Int)).toNat (0 : Int)).length ++ (List.replicate ((l.length : Int)).toNat (0 : Int)).drop l.length)))

noncomputable def law_lists_L3_B (l : (List (List Int))) (r3 : Int → (List (List Int)) → Option (List (List Int))) (i : Int) (out : (List (List Int))) : Option (List (List Int)) :=
  if (decide (i < (l.length : Int))) = true then
  G (0 ≤ i ∧ i < (l.length : Int)) (
  (law_list (ix l i)).bind (fun y' =>
  G (room out ([y']) 24) (
  G (fits (i + (1 : Int))) (
  r3 (i + (1 : Int)) (out ++ ([y'])))))) else
  some out
noncomputable def law_lists_L3_F (l : (List (List Int))) : (Int × (List (List Int)) → Option (List (List Int))) → Int × (List (List Int)) → Option (List (List Int)) :=
  fun rec x => law_lists_L3_B l (fun i out => rec (i, out)) x.1 x.2
noncomputable def law_lists_L3 (l : (List (List Int))) (i : Int) (out : (List (List Int))) : Option (List (List Int)) := LFix (law_lists_L3_F l ) (i, out)
noncomputable def law_lists (l : (List (List Int))) : Option (List (List Int)) :=
  law_lists_L3 l (0 : Int) ([])
theorem law_lists_L3_B_ch (r3 : Nat → Int → (List (List Int)) → Option (List (List Int))) (r3' : Int → (List (List Int)) → Option (List (List Int))) (h_r3 : ∀ a0 a1, ChO (fun κ => r3 κ a0 a1) (r3' a0 a1)) (l : (List (List Int))) (i : Int) (out : (List (List Int))) : ChO (fun κ => law_lists_L3_B l (r3 κ) i out) (law_lists_L3_B l r3' i out) := by
  unfold law_lists_L3_B
  repeat' with_reducible first | exact ChO.const _ | exact h_r3 _ _ | apply ChO.ite | apply ChO.G | apply ChO.both | (apply ChO.bind; intro _)
theorem law_lists_L3_cn  (l : (List (List Int))) : Cn (law_lists_L3_F l) := fun g h hg x => law_lists_L3_B_ch  (fun κ i out => g κ (i, out)) (fun i out => h (i, out)) (fun i out => hg (i, out)) l x.1 x.2
theorem law_lists_L3_eq  (l : (List (List Int))) (i : Int) (out : (List (List Int))) : law_lists_L3 l i out = law_lists_L3_B l (law_lists_L3 l) i out := LFix_eq (law_lists_L3_cn l) (i, out)

noncomputable def code_Check_1 (a : Int) (t : Int) : Option (Bool) :=
  if (decide (a < (0 : Int))) = true then
  some true else
  some (decide (t ≤ a))

noncomputable def slices_IndexFunc_L2_B (s : (List Int)) (c : Int) (r2 : Int → Option (Int)) (t : Int) : Option (Int) :=
  if (decide (t < (s.length : Int))) = true then
  G (0 ≤ t ∧ t < (s.length : Int)) (
  (code_Check_1 (ix s t) c).bind (fun y' =>
  if y' = true then
  some t else
  G (fits (t + (1 : Int))) (
  r2 (t + (1 : Int))))) else
  some (-1 : Int)
noncomputable def slices_IndexFunc_L2_F (s : (List Int)) (c : Int) : (Int → Option (Int)) → Int → Option (Int) :=
  fun rec x => slices_IndexFunc_L2_B s c (fun t => rec t) x
noncomputable def slices_IndexFunc_L2 (s : (List Int)) (c : Int) (t : Int) : Option (Int) := LFix (slices_IndexFunc_L2_F s c ) t
noncomputable def slices_IndexFunc (s : (List Int)) (c : Int) : Option (Int) :=
  slices_IndexFunc_L2 s c (0 : Int)
theorem slices_IndexFunc_L2_B_ch (r2 : Nat → Int → Option (Int)) (r2' : Int → Option (Int)) (h_r2 : ∀ a0, ChO (fun κ => r2 κ a0) (r2' a0)) (s : (List Int)) (c : Int) (t : Int) : ChO (fun κ => slices_IndexFunc_L2_B s c (r2 κ) t) (slices_IndexFunc_L2_B s c r2' t) := by
  unfold slices_IndexFunc_L2_B
  repeat' with_reducible first | exact ChO.const _ | exact h_r2 _ | apply ChO.ite | apply ChO.G | apply ChO.both | (apply ChO.bind; intro _)
theorem slices_IndexFunc_L2_cn  (s : (List Int)) (c : Int) : Cn (slices_IndexFunc_L2_F s c) := fun g h hg x => slices_IndexFunc_L2_B_ch  (fun κ t => g κ t) (fun t => h t) (fun t => hg t) s c x
theorem slices_IndexFunc_L2_eq  (s : (List Int)) (c : Int) (t : Int) : slices_IndexFunc_L2 s c t = slices_IndexFunc_L2_B s c (slices_IndexFunc_L2 s c) t := LFix_eq (slices_IndexFunc_L2_cn s c) t

noncomputable def slices_ContainsFunc (s : (List Int)) (c : Int) : Option (Bool) :=
  (slices_IndexFunc s c).bind (fun y' =>
  some (decide ((0 : Int) ≤ y')))

noncomputable def code_Check_L6_B (letters : Int) (l : (List (List Int))) (r6 : Int → Option (Int)) (t : Int) : Option (Int) :=
  if (decide (t < (l.length : Int))) = true then
  G (0 ≤ t ∧ t < (l.length : Int)) (
  if (decide (((ix l t).length : Int) < (1 : Int))) = true then
  some (1 : Int) else
  if (decide ((10 : Int) < ((ix l t).length : Int))) = true then
  some (1 : Int) else
  (slices_ContainsFunc (ix l t) letters).bind (fun y' =>
  if y' = true then
  some (2 : Int) else
  G (fits (t + (1 : Int))) (
  r6 (t + (1 : Int))))) else
  some (0 : Int)
noncomputable def code_Check_L6_F (letters : Int) (l : (List (List Int))) : (Int → Option (Int)) → Int → Option (Int) :=
  fun rec x => code_Check_L6_B letters l (fun t => rec t) x
noncomputable def code_Check_L6 (letters : Int) (l : (List (List Int))) (t : Int) : Option (Int) := LFix (code_Check_L6_F letters l ) t
noncomputable def code_Check (letters : Int) (l : (List (List Int))) : Option (Int) :=
  if (decide (letters < (1 : Int))) = true then
  some (2 : Int) else
  if (decide ((4 : Int) < letters)) = true then
  some (2 : Int) else
  if (decide ((l.length : Int) < (1 : Int))) = true then
  some (1 : Int) else
  if (decide ((10 : Int) < (l.length : Int))) = true then
  some (1 : Int) else
  code_Check_L6 letters l (0 : Int)
theorem code_Check_L6_B_ch (r6 : Nat → Int → Option (Int)) (r6' : Int → Option (Int)) (h_r6 : ∀ a0, ChO (fun κ => r6 κ a0) (r6' a0)) (letters : Int) (l : (List (List Int))) (t : Int) : ChO (fun κ => code_Check_L6_B letters l (r6 κ) t) (code_Check_L6_B letters l r6' t) := by
  unfold code_Check_L6_B
  repeat' with_reducible first | exact ChO.const _ | exact h_r6 _ | apply ChO.ite | apply ChO.G | apply ChO.both | (apply ChO.bind; intro _)
theorem code_Check_L6_cn  (letters : Int) (l : (List (List Int))) : Cn (code_Check_L6_F letters l) := fun g h hg x => code_Check_L6_B_ch  (fun κ t => g κ t) (fun t => h t) (fun t => hg t) letters l x
theorem code_Check_L6_eq  (letters : Int) (l : (List (List Int))) (t : Int) : code_Check_L6 letters l t = code_Check_L6_B letters l (code_Check_L6 letters l) t := LFix_eq (code_Check_L6_cn letters l) t

noncomputable def slices_Equal_L4_B (s1 : (List Int)) (s2 : (List Int)) (r4 : Int → Option (Bool)) (t : Int) : Option (Bool) :=
  if (decide (t < (s1.length : Int))) = true then
  G (0 ≤ t ∧ t < (s1.length : Int)) (
  G (0 ≤ t ∧ t < (s2.length : Int)) (
  if (decide (¬ (ix s1 t) = (ix s2 t))) = true then
  some false else
  G (fits (t + (1 : Int))) (
  r4 (t + (1 : Int))))) else
  some true
noncomputable def slices_Equal_L4_F (s1 : (List Int)) (s2 : (List Int)) : (Int → Option (Bool)) → Int → Option (Bool) :=
  fun rec x => slices_Equal_L4_B s1 s2 (fun t => rec t) x
noncomputable def slices_Equal_L4 (s1 : (List Int)) (s2 : (List Int)) (t : Int) : Option (Bool) := LFix (slices_Equal_L4_F s1 s2 ) t
noncomputable def slices_Equal (s1 : (List Int)) (s2 : (List Int)) : Option (Bool) :=
  if (decide (¬ (s1.length : Int) = (s2.length : Int))) = true then
  some false else
  slices_Equal_L4 s1 s2 (0 : Int)
theorem slices_Equal_L4_B_ch (r4 : Nat → Int → Option (Bool)) (r4' : Int → Option (Bool)) (h_r4 : ∀ a0, ChO (fun κ => r4 κ a0) (r4' a0)) (s1 : (List Int)) (s2 : (List Int)) (t : Int) : ChO (fun κ => slices_Equal_L4_B s1 s2 (r4 κ) t) (slices_Equal_L4_B s1 s2 r4' t) := by
  unfold slices_Equal_L4_B
  repeat' with_reducible first | exact ChO.const _ | exact h_r4 _ | apply ChO.ite | apply ChO.G | apply ChO.both | (apply ChO.bind; intro _)
theorem slices_Equal_L4_cn  (s1 : (List Int)) (s2 : (List Int)) : Cn (slices_Equal_L4_F s1 s2) := fun g h hg x => slices_Equal_L4_B_ch  (fun κ t => g κ t) (fun t => h t) (fun t => hg t) s1 s2 x
theorem slices_Equal_L4_eq  (s1 : (List Int)) (s2 : (List Int)) (t : Int) : slices_Equal_L4 s1 s2 t = slices_Equal_L4_B s1 s2 (slices_Equal_L4 s1 s2) t := LFix_eq (slices_Equal_L4_cn s1 s2) t

noncomputable def det_Key_L3_B (l : (List Int)) (r3 : Int → (List Int) → Option (List UInt8)) (t : Int) (b : (List Int)) : Option (List UInt8) :=
  if (decide (t < (l.length : Int))) = true then
  G (0 ≤ t ∧ t < (l.length : Int)) (
  G (0 ≤ (8 : Int)) (
  G (room b ([IntKind.wrap .u8 (ix l t), IntKind.wrap .u8 (ishr .i64 (ix l t) (8 : Int))]) 1) (
  G (fits (t + (1 : Int))) (
  r3 (t + (1 : Int)) (b ++ ([IntKind.wrap .u8 (ix l t), IntKind.wrap .u8 (ishr .i64 (ix l t) (8 : Int))])))))) else
  some (bstr b)
noncomputable def det_Key_L3_F (l : (List Int)) : (Int × (List Int) → Option (List UInt8)) → Int × (List Int) → Option (List UInt8) :=
  fun rec x => det_Key_L3_B l (fun t b => rec (t, b)) x.1 x.2
noncomputable def det_Key_L3 (l : (List Int)) (t : Int) (b : (List Int)) : Option (List UInt8) := LFix (det_Key_L3_F l ) (t, b)
noncomputable def det_Key (l : (List Int)) : Option (List UInt8) :=
  det_Key_L3 l (0 : Int) ([])
theorem det_Key_L3_B_ch (r3 : Nat → Int → (List Int) → Option (List UInt8)) (r3' : Int → (List Int) → Option (List UInt8)) (h_r3 : ∀ a0 a1, ChO (fun κ => r3 κ a0 a1) (r3' a0 a1)) (l : (List Int)) (t : Int) (b : (List Int)) : ChO (fun κ => det_Key_L3_B l (r3 κ) t b) (det_Key_L3_B l r3' t b) := by
  unfold det_Key_L3_B
  repeat' with_reducible first | exact ChO.const _ | exact h_r3 _ _ | apply ChO.ite | apply ChO.G | apply ChO.both | (apply ChO.bind; intro _)
theorem det_Key_L3_cn  (l : (List Int)) : Cn (det_Key_L3_F l) := fun g h hg x => det_Key_L3_B_ch  (fun κ t b => g κ (t, b)) (fun t b => h (t, b)) (fun t b => hg (t, b)) l x.1 x.2
theorem det_Key_L3_eq  (l : (List Int)) (t : Int) (b : (List Int)) : det_Key_L3 l t b = det_Key_L3_B l (det_Key_L3 l) t b := LFix_eq (det_Key_L3_cn l) (t, b)

noncomputable def code_Unique_1 (r : ((List Int) × (List Int) × (List Int) × Unit)) (c : (List (List UInt8))) (c_1 : (List Int)) : Option ((List ((List Int) × (List Int) × (List Int) × Unit)) × (List (List UInt8)) × (List Int)) :=
  (det_Key r.1).bind (fun y' =>
  if (decide ((mget c c_1 y' (0 : Int)) = (0 : Int))) = true then
  G (room ([] : List ((List Int) × (List Int) × (List Int) × Unit)) ([(r.1, (r.2.1, (r.2.2.1, ())))]) 72) (
  some ([(r.1, (r.2.1, (r.2.2.1, ())))], mputK c y', mputV c c_1 y' (1 : Int))) else
  some ([], c, c_1))

noncomputable def code_Unique_1_1 (r : ((List Int) × (List Int) × (List Int) × Unit)) (c : (List (List UInt8))) (c_1 : (List Int)) (l : (List ((List Int) × (List Int) × (List Int) × Unit))) : Option ((List ((List Int) × (List Int) × (List Int) × Unit)) × (List (List UInt8)) × (List Int)) :=
  (det_Key r.1).bind (fun y' =>
  if (decide ((mget c c_1 y' (0 : Int)) = (0 : Int))) = true then
  G (room l ([(r.1, (r.2.1, (r.2.2.1, ())))]) 72) (
  some (l ++ ([(r.1, (r.2.1, (r.2.2.1, ())))]), mputK c y', mputV c c_1 y' (1 : Int))) else
  some (l, c, c_1))

noncomputable def slices_Clone (s : (List Int)) : Option (List Int) :=
  if s.length = 0 then both [(.list (.int .i64))] (
  some ([])) (
  G (room ([] : List Int) s 8) (
  some (([] : List Int) ++ s))) else
  G (room ([] : List Int) s 8) (
  some (([] : List Int) ++ s))

noncomputable def code_Unique_J13 (l : (List (List Int))) (t : Int) (t_1 : Int) (l_3 : (List ((List Int) × (List Int) × (List Int) × Unit))) (l_4 : (List (List UInt8))) (l_5 : (List Int)) (r11 : (Int → (List ((List Int) × (List Int) × (List Int) × Unit)) → (List (List UInt8)) → (List Int) → Option ((List Int) × (List Int) × Bool × Int))) (t_2 : Bool) : Option ((List Int) × (List Int) × Bool × Int) :=
  if t_2 = true then
  G (0 ≤ ((ix l t_1).length : Int) ∧ ((ix l t_1).length : Int) ≤ ((ix l t).length : Int) ∧ ((ix l t).length : Int) ≤ ((ix l t).length : Int)) (
  (code_Unique_1_1 (cut (ix l t) ((ix l t_1).length : Int) ((ix l t).length : Int), ([t], ([t_1], ()))) l_4 l_5 l_3).bind (fun y'_6 =>
  G (fits (t_1 + (1 : Int))) (
  r11 (t_1 + (1 : Int)) y'_6.1 y'_6.2.1 y'_6.2.2))) else
  G (fits (t_1 + (1 : Int))) (
  r11 (t_1 + (1 : Int)) l_3 l_4 l_5)
noncomputable def code_Unique_L11_B (l : (List (List Int))) (t : Int) (r8 : (Int → (List (List UInt8)) → (List Int) → (List ((List Int) × (List Int) × (List Int) × Unit)) → Option ((List Int) × (List Int) × Bool × Int))) (r11 : Int → (List ((List Int) × (List Int) × (List Int) × Unit)) → (List (List UInt8)) → (List Int) → Option ((List Int) × (List Int) × Bool × Int)) (t_1 : Int) (l_3 : (List ((List Int) × (List Int) × (List Int) × Unit))) (l_4 : (List (List UInt8))) (l_5 : (List Int)) : Option ((List Int) × (List Int) × Bool × Int) :=
  if (decide (t_1 < (l.length : Int))) = true then
  G (0 ≤ t_1 ∧ t_1 < (l.length : Int)) (
  if (decide (¬ t = t_1)) = true then
  if (decide (((ix l t_1).length : Int) ≤ ((ix l t).length : Int))) = true then
  G (0 ≤ (0 : Int) ∧ (0 : Int) ≤ ((ix l t_1).length : Int) ∧ ((ix l t_1).length : Int) ≤ ((ix l t).length : Int)) (
  (slices_Equal (cut (ix l t) (0 : Int) ((ix l t_1).length : Int)) (ix l t_1)).bind (fun y'_1 =>
  code_Unique_J13 l t t_1 l_3 l_4 l_5 r11 y'_1)) else
  code_Unique_J13 l t t_1 l_3 l_4 l_5 r11 false else
  code_Unique_J13 l t t_1 l_3 l_4 l_5 r11 false) else
  G (fits (t + (1 : Int))) (
  r8 (t + (1 : Int)) l_4 l_5 l_3)
noncomputable def code_Unique_L11_F (l : (List (List Int))) (t : Int) (r8 : (Int → (List (List UInt8)) → (List Int) → (List ((List Int) × (List Int) × (List Int) × Unit)) → Option ((List Int) × (List Int) × Bool × Int))) : (Int × (List ((List Int) × (List Int) × (List Int) × Unit)) × (List (List UInt8)) × (List Int) → Option ((List Int) × (List Int) × Bool × Int)) → Int × (List ((List Int) × (List Int) × (List Int) × Unit)) × (List (List UInt8)) × (List Int) → Option ((List Int) × (List Int) × Bool × Int) :=
  fun rec x => code_Unique_L11_B l t r8 (fun t_1 l_3 l_4 l_5 => rec (t_1, l_3, l_4, l_5)) x.1 x.2.1 x.2.2.1 x.2.2.2
noncomputable def code_Unique_L11 (l : (List (List Int))) (t : Int) (r8 : (Int → (List (List UInt8)) → (List Int) → (List ((List Int) × (List Int) × (List Int) × Unit)) → Option ((List Int) × (List Int) × Bool × Int))) (t_1 : Int) (l_3 : (List ((List Int) × (List Int) × (List Int) × Unit))) (l_4 : (List (List UInt8))) (l_5 : (List Int)) : Option ((List Int) × (List Int) × Bool × Int) := LFix (code_Unique_L11_F l t r8 ) (t_1, l_3, l_4, l_5)
noncomputable def code_Unique_L24_B (l : (List (List Int))) (i : Int) (l_6 : (List ((List Int) × (List Int) × (List Int) × Unit))) (r18 : (Int → (List ((List Int) × (List Int) × (List Int) × Unit)) → (List (List UInt8)) → (List Int) → Option ((List Int) × (List Int) × Bool × Int))) (r24 : Int → (List ((List Int) × (List Int) × (List Int) × Unit)) → (List (List UInt8)) → (List Int) → Option ((List Int) × (List Int) × Bool × Int)) (t_3 : Int) (l_9 : (List ((List Int) × (List Int) × (List Int) × Unit))) (l_10 : (List (List UInt8))) (l_11 : (List Int)) : Option ((List Int) × (List Int) × Bool × Int) :=
  if (decide (t_3 < (l.length : Int))) = true then
  G (0 ≤ t_3 ∧ t_3 < (l.length : Int)) (
  (slices_Clone ((((ix l_6 i).2).2).1)).bind (fun y'_7 =>
  G (room y'_7 ([t_3]) 8) (
  G (0 ≤ (0 : Int) ∧ (0 : Int) ≤ imin ((ix l t_3).length : Int) (((ix l_6 i).1).length : Int) ∧ imin ((ix l t_3).length : Int) (((ix l_6 i).1).length : Int) ≤ ((ix l t_3).length : Int)) (
  G (0 ≤ (0 : Int) ∧ (0 : Int) ≤ imin ((ix l t_3).length : Int) (((ix l_6 i).1).length : Int) ∧ imin ((ix l t_3).length : Int) (((ix l_6 i).1).length : Int) ≤ (((ix l_6 i).1).length : Int)) (
  (slices_Equal (cut (ix l t_3) (0 : Int) (imin ((ix l t_3).length : Int) (((ix l_6 i).1).length : Int))) (cut ((ix l_6 i).1) (0 : Int) (imin ((ix l t_3).length : Int) (((ix l_6 i).1).length : Int)))).bind (fun y'_8 =>
  if (!y'_8) = true then
  G (fits (t_3 + (1 : Int))) (
  r24 (t_3 + (1 : Int)) l_9 l_10 l_11) else
  if (decide (((ix l t_3).length : Int) ≤ (((ix l_6 i).1).length : Int))) = true then
  G (0 ≤ imin ((ix l t_3).length : Int) (((ix l_6 i).1).length : Int) ∧ imin ((ix l t_3).length : Int) (((ix l_6 i).1).length : Int) ≤ (((ix l_6 i).1).length : Int) ∧ (((ix l_6 i).1).length : Int) ≤ (((ix l_6 i).1).length : Int)) (
  (code_Unique_1_1 (cut ((ix l_6 i).1) (imin ((ix l t_3).length : Int) (((ix l_6 i).1).length : Int)) (((ix l_6 i).1).length : Int), (((ix l_6 i).2).1, (y'_7 ++ ([t_3]), ()))) l_10 l_11 l_9).bind (fun y'_13 =>
  G (fits (t_3 + (1 : Int))) (
  r24 (t_3 + (1 : Int)) y'_13.1 y'_13.2.1 y'_13.2.2))) else
  G (0 ≤ imin ((ix l t_3).length : Int) (((ix l_6 i).1).length : Int) ∧ imin ((ix l t_3).length : Int) (((ix l_6 i).1).length : Int) ≤ ((ix l t_3).length : Int) ∧ ((ix l t_3).length : Int) ≤ ((ix l t_3).length : Int)) (
  (code_Unique_1_1 (cut (ix l t_3) (imin ((ix l t_3).length : Int) (((ix l_6 i).1).length : Int)) ((ix l t_3).length : Int), (y'_7 ++ ([t_3]), (((ix l_6 i).2).1, ()))) l_10 l_11 l_9).bind (fun y'_18 =>
  G (fits (t_3 + (1 : Int))) (
  r24 (t_3 + (1 : Int)) y'_18.1 y'_18.2.1 y'_18.2.2))))))))) else
  G (fits (i + (1 : Int))) (
  r18 (i + (1 : Int)) l_9 l_10 l_11)
noncomputable def code_Unique_L24_F (l : (List (List Int))) (i : Int) (l_6 : (List ((List Int) × (List Int) × (List Int) × Unit))) (r18 : (Int → (List ((List Int) × (List Int) × (List Int) × Unit)) → (List (List UInt8)) → (List Int) → Option ((List Int) × (List Int) × Bool × Int))) : (Int × (List ((List Int) × (List Int) × (List Int) × Unit)) × (List (List UInt8)) × (List Int) → Option ((List Int) × (List Int) × Bool × Int)) → Int × (List ((List Int) × (List Int) × (List Int) × Unit)) × (List (List UInt8)) × (List Int) → Option ((List Int) × (List Int) × Bool × Int) :=
  fun rec x => code_Unique_L24_B l i l_6 r18 (fun t_3 l_9 l_10 l_11 => rec (t_3, l_9, l_10, l_11)) x.1 x.2.1 x.2.2.1 x.2.2.2
noncomputable def code_Unique_L24 (l : (List (List Int))) (i : Int) (l_6 : (List ((List Int) × (List Int) × (List Int) × Unit))) (r18 : (Int → (List ((List Int) × (List Int) × (List Int) × Unit)) → (List (List UInt8)) → (List Int) → Option ((List Int) × (List Int) × Bool × Int))) (t_3 : Int) (l_9 : (List ((List Int) × (List Int) × (List Int) × Unit))) (l_10 : (List (List UInt8))) (l_11 : (List Int)) : Option ((List Int) × (List Int) × Bool × Int) := LFix (code_Unique_L24_F l i l_6 r18 ) (t_3, l_9, l_10, l_11)
noncomputable def code_Unique_L18_B (l : (List (List Int))) (r18 : Int → (List ((List Int) × (List Int) × (List Int) × Unit)) → (List (List UInt8)) → (List Int) → Option ((List Int) × (List Int) × Bool × Int)) (i : Int) (l_6 : (List ((List Int) × (List Int) × (List Int) × Unit))) (l_7 : (List (List UInt8))) (l_8 : (List Int)) : Option ((List Int) × (List Int) × Bool × Int) :=
  if (decide (i < (l_6.length : Int))) = true then
  G (0 ≤ i ∧ i < (l_6.length : Int)) (
  G ((i).toNat < l_6.length) (
  if (decide ((((ix l_6 i).1).length : Int) = (0 : Int))) = true then
  some (((ix l_6 i).2).1, (((ix l_6 i).2).2).1, false, (0 : Int)) else
  code_Unique_L24 l i l_6 r18 (0 : Int) l_6 l_7 l_8)) else
  some ([], [], true, (0 : Int))
noncomputable def code_Unique_L18_F (l : (List (List Int))) : (Int × (List ((List Int) × (List Int) × (List Int) × Unit)) × (List (List UInt8)) × (List Int) → Option ((List Int) × (List Int) × Bool × Int)) → Int × (List ((List Int) × (List Int) × (List Int) × Unit)) × (List (List UInt8)) × (List Int) → Option ((List Int) × (List Int) × Bool × Int) :=
  fun rec x => code_Unique_L18_B l (fun i l_6 l_7 l_8 => rec (i, l_6, l_7, l_8)) x.1 x.2.1 x.2.2.1 x.2.2.2
noncomputable def code_Unique_L18 (l : (List (List Int))) (i : Int) (l_6 : (List ((List Int) × (List Int) × (List Int) × Unit))) (l_7 : (List (List UInt8))) (l_8 : (List Int)) : Option ((List Int) × (List Int) × Bool × Int) := LFix (code_Unique_L18_F l ) (i, l_6, l_7, l_8)
noncomputable def code_Unique_L8_B (l : (List (List Int))) (r8 : Int → (List (List UInt8)) → (List Int) → (List ((List Int) × (List Int) × (List Int) × Unit)) → Option ((List Int) × (List Int) × Bool × Int)) (t : Int) (l_1 : (List (List UInt8))) (l_2 : (List Int)) (all' : (List ((List Int) × (List Int) × (List Int) × Unit))) : Option ((List Int) × (List Int) × Bool × Int) :=
  if (decide (t < (l.length : Int))) = true then
  G (0 ≤ t ∧ t < (l.length : Int)) (
  code_Unique_L11 l t r8 (0 : Int) all' l_1 l_2) else
  code_Unique_L18 l (0 : Int) all' l_1 l_2
noncomputable def code_Unique_L8_F (l : (List (List Int))) : (Int × (List (List UInt8)) × (List Int) × (List ((List Int) × (List Int) × (List Int) × Unit)) → Option ((List Int) × (List Int) × Bool × Int)) → Int × (List (List UInt8)) × (List Int) × (List ((List Int) × (List Int) × (List Int) × Unit)) → Option ((List Int) × (List Int) × Bool × Int) :=
  fun rec x => code_Unique_L8_B l (fun t l_1 l_2 all' => rec (t, l_1, l_2, all')) x.1 x.2.1 x.2.2.1 x.2.2.2
noncomputable def code_Unique_L8 (l : (List (List Int))) (t : Int) (l_1 : (List (List UInt8))) (l_2 : (List Int)) (all' : (List ((List Int) × (List Int) × (List Int) × Unit))) : Option ((List Int) × (List Int) × Bool × Int) := LFix (code_Unique_L8_F l ) (t, l_1, l_2, all')
noncomputable def code_Unique (letters : Int) (l : (List (List Int))) : Option ((List Int) × (List Int) × Bool × Int) :=
  (code_Check letters l).bind (fun y' =>
  if (decide (¬ y' = (0 : Int))) = true then
  some ([], [], false, y') else
  code_Unique_L8 l (0 : Int) ([] : List (List UInt8)) ([] : List Int) ([] : List ((List Int) × (List Int) × (List Int) × Unit)))
theorem code_Unique_J13_ch (r11 : Nat → Int → (List ((List Int) × (List Int) × (List Int) × Unit)) → (List (List UInt8)) → (List Int) → Option ((List Int) × (List Int) × Bool × Int)) (r11' : Int → (List ((List Int) × (List Int) × (List Int) × Unit)) → (List (List UInt8)) → (List Int) → Option ((List Int) × (List Int) × Bool × Int)) (h_r11 : ∀ a0 a1 a2 a3, ChO (fun κ => r11 κ a0 a1 a2 a3) (r11' a0 a1 a2 a3)) (l : (List (List Int))) (t : Int) (t_1 : Int) (l_3 : (List ((List Int) × (List Int) × (List Int) × Unit))) (l_4 : (List (List UInt8))) (l_5 : (List Int)) (t_2 : Bool) : ChO (fun κ => code_Unique_J13 l t t_1 l_3 l_4 l_5 (r11 κ) t_2) (code_Unique_J13 l t t_1 l_3 l_4 l_5 r11' t_2) := by
  unfold code_Unique_J13
  repeat' with_reducible first | exact ChO.const _ | exact h_r11 _ _ _ _ | apply ChO.ite | apply ChO.G | apply ChO.both | (apply ChO.bind; intro _)
theorem code_Unique_L11_B_ch (r8 : Nat → Int → (List (List UInt8)) → (List Int) → (List ((List Int) × (List Int) × (List Int) × Unit)) → Option ((List Int) × (List Int) × Bool × Int)) (r8' : Int → (List (List UInt8)) → (List Int) → (List ((List Int) × (List Int) × (List Int) × Unit)) → Option ((List Int) × (List Int) × Bool × Int)) (h_r8 : ∀ a0 a1 a2 a3, ChO (fun κ => r8 κ a0 a1 a2 a3) (r8' a0 a1 a2 a3)) (r11 : Nat → Int → (List ((List Int) × (List Int) × (List Int) × Unit)) → (List (List UInt8)) → (List Int) → Option ((List Int) × (List Int) × Bool × Int)) (r11' : Int → (List ((List Int) × (List Int) × (List Int) × Unit)) → (List (List UInt8)) → (List Int) → Option ((List Int) × (List Int) × Bool × Int)) (h_r11 : ∀ a0 a1 a2 a3, ChO (fun κ => r11 κ a0 a1 a2 a3) (r11' a0 a1 a2 a3)) (l : (List (List Int))) (t : Int) (t_1 : Int) (l_3 : (List ((List Int) × (List Int) × (List Int) × Unit))) (l_4 : (List (List UInt8))) (l_5 : (List Int)) : ChO (fun κ => code_Unique_L11_B l t (r8 κ) (r11 κ) t_1 l_3 l_4 l_5) (code_Unique_L11_B l t r8' r11' t_1 l_3 l_4 l_5) := by
  unfold code_Unique_L11_B
  repeat' with_reducible first | exact ChO.const _ | exact h_r8 _ _ _ _ | exact h_r11 _ _ _ _ | (apply code_Unique_J13_ch <;> assumption) | apply ChO.ite | apply ChO.G | apply ChO.both | (apply ChO.bind; intro _)
theorem code_Unique_L11_cn (r8 : Int → (List (List UInt8)) → (List Int) → (List ((List Int) × (List Int) × (List Int) × Unit)) → Option ((List Int) × (List Int) × Bool × Int)) (l : (List (List Int))) (t : Int) : Cn (code_Unique_L11_F l t r8) := fun g h hg x => code_Unique_L11_B_ch (fun _ => r8) r8 (fun _ _ _ _ => ChO.const _) (fun κ t_1 l_3 l_4 l_5 => g κ (t_1, l_3, l_4, l_5)) (fun t_1 l_3 l_4 l_5 => h (t_1, l_3, l_4, l_5)) (fun t_1 l_3 l_4 l_5 => hg (t_1, l_3, l_4, l_5)) l t x.1 x.2.1 x.2.2.1 x.2.2.2
theorem code_Unique_L11_eq (r8 : Int → (List (List UInt8)) → (List Int) → (List ((List Int) × (List Int) × (List Int) × Unit)) → Option ((List Int) × (List Int) × Bool × Int)) (l : (List (List Int))) (t : Int) (t_1 : Int) (l_3 : (List ((List Int) × (List Int) × (List Int) × Unit))) (l_4 : (List (List UInt8))) (l_5 : (List Int)) : code_Unique_L11 l t r8 t_1 l_3 l_4 l_5 = code_Unique_L11_B l t r8 (code_Unique_L11 l t r8) t_1 l_3 l_4 l_5 := LFix_eq (code_Unique_L11_cn r8 l t) (t_1, l_3, l_4, l_5)
theorem code_Unique_L11_ch (r8 : Nat → Int → (List (List UInt8)) → (List Int) → (List ((List Int) × (List Int) × (List Int) × Unit)) → Option ((List Int) × (List Int) × Bool × Int)) (r8' : Int → (List (List UInt8)) → (List Int) → (List ((List Int) × (List Int) × (List Int) × Unit)) → Option ((List Int) × (List Int) × Bool × Int)) (h_r8 : ∀ a0 a1 a2 a3, ChO (fun κ => r8 κ a0 a1 a2 a3) (r8' a0 a1 a2 a3)) (l : (List (List Int))) (t : Int) (t_1 : Int) (l_3 : (List ((List Int) × (List Int) × (List Int) × Unit))) (l_4 : (List (List UInt8))) (l_5 : (List Int)) : ChO (fun κ => code_Unique_L11 l t (r8 κ) t_1 l_3 l_4 l_5) (code_Unique_L11 l t r8' t_1 l_3 l_4 l_5) := by
  unfold code_Unique_L11
  exact LFix_ch (fun κ => (code_Unique_L11_cn (r8 κ) l t).mono) (code_Unique_L11_cn r8' l t).mono (fun g h hg x => code_Unique_L11_B_ch r8 r8' h_r8 (fun κ t_1 l_3 l_4 l_5 => g κ (t_1, l_3, l_4, l_5)) (fun t_1 l_3 l_4 l_5 => h (t_1, l_3, l_4, l_5)) (fun t_1 l_3 l_4 l_5 => hg (t_1, l_3, l_4, l_5)) l t x.1 x.2.1 x.2.2.1 x.2.2.2) _
theorem code_Unique_L24_B_ch (r18 : Nat → Int → (List ((List Int) × (List Int) × (List Int) × Unit)) → (List (List UInt8)) → (List Int) → Option ((List Int) × (List Int) × Bool × Int)) (r18' : Int → (List ((List Int) × (List Int) × (List Int) × Unit)) → (List (List UInt8)) → (List Int) → Option ((List Int) × (List Int) × Bool × Int)) (h_r18 : ∀ a0 a1 a2 a3, ChO (fun κ => r18 κ a0 a1 a2 a3) (r18' a0 a1 a2 a3)) (r24 : Nat → Int → (List ((List Int) × (List Int) × (List Int) × Unit)) → (List (List UInt8)) → (List Int) → Option ((List Int) × (List Int) × Bool × Int)) (r24' : Int → (List ((List Int) × (List Int) × (List Int) × Unit)) → (List (List UInt8)) → (List Int) → Option ((List Int) × (List Int) × Bool × Int)) (h_r24 : ∀ a0 a1 a2 a3, ChO (fun κ => r24 κ a0 a1 a2 a3) (r24' a0 a1 a2 a3)) (l : (List (List Int))) (i : Int) (l_6 : (List ((List Int) × (List Int) × (List Int) × Unit))) (t_3 : Int) (l_9 : (List ((List Int) × (List Int) × (List Int) × Unit))) (l_10 : (List (List UInt8))) (l_11 : (List Int)) : ChO (fun κ => code_Unique_L24_B l i l_6 (r18 κ) (r24 κ) t_3 l_9 l_10 l_11) (code_Unique_L24_B l i l_6 r18' r24' t_3 l_9 l_10 l_11) := by
  unfold code_Unique_L24_B
  repeat' with_reducible first | exact ChO.const _ | exact h_r18 _ _ _ _ | exact h_r24 _ _ _ _ | (apply code_Unique_J13_ch <;> assumption) | (apply code_Unique_L11_ch <;> assumption) | apply ChO.ite | apply ChO.G | apply ChO.both | (apply ChO.bind; intro _)
theorem code_Unique_L24_cn (r18 : Int → (List ((List Int) × (List Int) × (List Int) × Unit)) → (List (List UInt8)) → (List Int) → Option ((List Int) × (List Int) × Bool × Int)) (l : (List (List Int))) (i : Int) (l_6 : (List ((List Int) × (List Int) × (List Int) × Unit))) : Cn (code_Unique_L24_F l i l_6 r18) := fun g h hg x => code_Unique_L24_B_ch (fun _ => r18) r18 (fun _ _ _ _ => ChO.const _) (fun κ t_3 l_9 l_10 l_11 => g κ (t_3, l_9, l_10, l_11)) (fun t_3 l_9 l_10 l_11 => h (t_3, l_9, l_10, l_11)) (fun t_3 l_9 l_10 l_11 => hg (t_3, l_9, l_10, l_11)) l i l_6 x.1 x.2.1 x.2.2.1 x.2.2.2
theorem code_Unique_L24_eq (r18 : Int → (List ((List Int) × (List Int) × (List Int) × Unit)) → (List (List UInt8)) → (List Int) → Option ((List Int) × (List Int) × Bool × Int)) (l : (List (List Int))) (i : Int) (l_6 : (List ((List Int) × (List Int) × (List Int) × Unit))) (t_3 : Int) (l_9 : (List ((List Int) × (List Int) × (List Int) × Unit))) (l_10 : (List (List UInt8))) (l_11 : (List Int)) : code_Unique_L24 l i l_6 r18 t_3 l_9 l_10 l_11 = code_Unique_L24_B l i l_6 r18 (code_Unique_L24 l i l_6 r18) t_3 l_9 l_10 l_11 := LFix_eq (code_Unique_L24_cn r18 l i l_6) (t_3, l_9, l_10, l_11)
theorem code_Unique_L24_ch (r18 : Nat → Int → (List ((List Int) × (List Int) × (List Int) × Unit)) → (List (List UInt8)) → (List Int) → Option ((List Int) × (List Int) × Bool × Int)) (r18' : Int → (List ((List Int) × (List Int) × (List Int) × Unit)) → (List (List UInt8)) → (List Int) → Option ((List Int) × (List Int) × Bool × Int)) (h_r18 : ∀ a0 a1 a2 a3, ChO (fun κ => r18 κ a0 a1 a2 a3) (r18' a0 a1 a2 a3)) (l : (List (List Int))) (i : Int) (l_6 : (List ((List Int) × (List Int) × (List Int) × Unit))) (t_3 : Int) (l_9 : (List ((List Int) × (List Int) × (List Int) × Unit))) (l_10 : (List (List UInt8))) (l_11 : (List Int)) : ChO (fun κ => code_Unique_L24 l i l_6 (r18 κ) t_3 l_9 l_10 l_11) (code_Unique_L24 l i l_6 r18' t_3 l_9 l_10 l_11) := by
  unfold code_Unique_L24
  exact LFix_ch (fun κ => (code_Unique_L24_cn (r18 κ) l i l_6).mono) (code_Unique_L24_cn r18' l i l_6).mono (fun g h hg x => code_Unique_L24_B_ch r18 r18' h_r18 (fun κ t_3 l_9 l_10 l_11 => g κ (t_3, l_9, l_10, l_11)) (fun t_3 l_9 l_10 l_11 => h (t_3, l_9, l_10, l_11)) (fun t_3 l_9 l_10 l_11 => hg (t_3, l_9, l_10, l_11)) l i l_6 x.1 x.2.1 x.2.2.1 x.2.2.2) _
theorem code_Unique_L18_B_ch (r18 : Nat → Int → (List ((List Int) × (List Int) × (List Int) × Unit)) → (List (List UInt8)) → (List Int) → Option ((List Int) × (List Int) × Bool × Int)) (r18' : Int → (List ((List Int) × (List Int) × (List Int) × Unit)) → (List (List UInt8)) → (List Int) → Option ((List Int) × (List Int) × Bool × Int)) (h_r18 : ∀ a0 a1 a2 a3, ChO (fun κ => r18 κ a0 a1 a2 a3) (r18' a0 a1 a2 a3)) (l : (List (List Int))) (i : Int) (l_6 : (List ((List Int) × (List Int) × (List Int) × Unit))) (l_7 : (List (List UInt8))) (l_8 : (List Int)) : ChO (fun κ => code_Unique_L18_B l (r18 κ) i l_6 l_7 l_8) (code_Unique_L18_B l r18' i l_6 l_7 l_8) := by
  unfold code_Unique_L18_B
  repeat' with_reducible first | exact ChO.const _ | exact h_r18 _ _ _ _ | (apply code_Unique_J13_ch <;> assumption) | (apply code_Unique_L11_ch <;> assumption) | (apply code_Unique_L24_ch <;> assumption) | apply ChO.ite | apply ChO.G | apply ChO.both | (apply ChO.bind; intro _)
theorem code_Unique_L18_cn  (l : (List (List Int))) : Cn (code_Unique_L18_F l) := fun g h hg x => code_Unique_L18_B_ch  (fun κ i l_6 l_7 l_8 => g κ (i, l_6, l_7, l_8)) (fun i l_6 l_7 l_8 => h (i, l_6, l_7, l_8)) (fun i l_6 l_7 l_8 => hg (i, l_6, l_7, l_8)) l x.1 x.2.1 x.2.2.1 x.2.2.2
theorem code_Unique_L18_eq  (l : (List (List Int))) (i : Int) (l_6 : (List ((List Int) × (List Int) × (List Int) × Unit))) (l_7 : (List (List UInt8))) (l_8 : (List Int)) : code_Unique_L18 l i l_6 l_7 l_8 = code_Unique_L18_B l (code_Unique_L18 l) i l_6 l_7 l_8 := LFix_eq (code_Unique_L18_cn l) (i, l_6, l_7, l_8)
theorem code_Unique_L8_B_ch (r8 : Nat → Int → (List (List UInt8)) → (List Int) → (List ((List Int) × (List Int) × (List Int) × Unit)) → Option ((List Int) × (List Int) × Bool × Int)) (r8' : Int → (List (List UInt8)) → (List Int) → (List ((List Int) × (List Int) × (List Int) × Unit)) → Option ((List Int) × (List Int) × Bool × Int)) (h_r8 : ∀ a0 a1 a2 a3, ChO (fun κ => r8 κ a0 a1 a2 a3) (r8' a0 a1 a2 a3)) (l : (List (List Int))) (t : Int) (l_1 : (List (List UInt8))) (l_2 : (List Int)) (all' : (List ((List Int) × (List Int) × (List Int) × Unit))) : ChO (fun κ => code_Unique_L8_B l (r8 κ) t l_1 l_2 all') (code_Unique_L8_B l r8' t l_1 l_2 all') := by
  unfold code_Unique_L8_B
  repeat' with_reducible first | exact ChO.const _ | exact h_r8 _ _ _ _ | (apply code_Unique_J13_ch <;> assumption) | (apply code_Unique_L11_ch <;> assumption) | (apply code_Unique_L24_ch <;> assumption) | apply ChO.ite | apply ChO.G | apply ChO.both | (apply ChO.bind; intro _)
theorem code_Unique_L8_cn  (l : (List (List Int))) : Cn (code_Unique_L8_F l) := fun g h hg x => code_Unique_L8_B_ch  (fun κ t l_1 l_2 all' => g κ (t, l_1, l_2, all')) (fun t l_1 l_2 all' => h (t, l_1, l_2, all')) (fun t l_1 l_2 all' => hg (t, l_1, l_2, all')) l x.1 x.2.1 x.2.2.1 x.2.2.2
theorem code_Unique_L8_eq  (l : (List (List Int))) (t : Int) (l_1 : (List (List UInt8))) (l_2 : (List Int)) (all' : (List ((List Int) × (List Int) × (List Int) × Unit))) : code_Unique_L8 l t l_1 l_2 all' = code_Unique_L8_B l (code_Unique_L8 l) t l_1 l_2 all' := LFix_eq (code_Unique_L8_cn l) (t, l_1, l_2, all')

noncomputable def r1_Words_L4_B (a : (List Int)) (b : (List Int)) (r4 : Int → Option (Bool)) (i : Int) : Option (Bool) :=
  if (decide (i < (a.length : Int))) = true then
  G (0 ≤ i ∧ i < (a.length : Int)) (
  G (0 ≤ i ∧ i < (b.length : Int)) (
  if (decide (¬ (ix a i) = (ix b i))) = true then
  some false else
  G (fits (i + (1 : Int))) (
  r4 (i + (1 : Int))))) else
  some true
noncomputable def r1_Words_L4_F (a : (List Int)) (b : (List Int)) : (Int → Option (Bool)) → Int → Option (Bool) :=
  fun rec x => r1_Words_L4_B a b (fun i => rec i) x
noncomputable def r1_Words_L4 (a : (List Int)) (b : (List Int)) (i : Int) : Option (Bool) := LFix (r1_Words_L4_F a b ) i
noncomputable def r1_Words (a : (List Int)) (b : (List Int)) : Option (Bool) :=
  if (decide (¬ (a.length : Int) = (b.length : Int))) = true then
  some false else
  r1_Words_L4 a b (0 : Int)
theorem r1_Words_L4_B_ch (r4 : Nat → Int → Option (Bool)) (r4' : Int → Option (Bool)) (h_r4 : ∀ a0, ChO (fun κ => r4 κ a0) (r4' a0)) (a : (List Int)) (b : (List Int)) (i : Int) : ChO (fun κ => r1_Words_L4_B a b (r4 κ) i) (r1_Words_L4_B a b r4' i) := by
  unfold r1_Words_L4_B
  repeat' with_reducible first | exact ChO.const _ | exact h_r4 _ | apply ChO.ite | apply ChO.G | apply ChO.both | (apply ChO.bind; intro _)
theorem r1_Words_L4_cn  (a : (List Int)) (b : (List Int)) : Cn (r1_Words_L4_F a b) := fun g h hg x => r1_Words_L4_B_ch  (fun κ i => g κ i) (fun i => h i) (fun i => hg i) a b x
theorem r1_Words_L4_eq  (a : (List Int)) (b : (List Int)) (i : Int) : r1_Words_L4 a b i = r1_Words_L4_B a b (r1_Words_L4 a b) i := LFix_eq (r1_Words_L4_cn a b) i

noncomputable def law_sameLists_L4_B (a : (List (List Int))) (b : (List (List Int))) (r4 : Int → Option (Bool)) (i : Int) : Option (Bool) :=
  if (decide (i < (a.length : Int))) = true then
  G (0 ≤ i ∧ i < (a.length : Int)) (
  G (0 ≤ i ∧ i < (b.length : Int)) (
  (r1_Words (ix a i) (ix b i)).bind (fun y' =>
  if (!y') = true then
  some false else
  G (fits (i + (1 : Int))) (
  r4 (i + (1 : Int)))))) else
  some true
noncomputable def law_sameLists_L4_F (a : (List (List Int))) (b : (List (List Int))) : (Int → Option (Bool)) → Int → Option (Bool) :=
  fun rec x => law_sameLists_L4_B a b (fun i => rec i) x
noncomputable def law_sameLists_L4 (a : (List (List Int))) (b : (List (List Int))) (i : Int) : Option (Bool) := LFix (law_sameLists_L4_F a b ) i
noncomputable def law_sameLists (a : (List (List Int))) (b : (List (List Int))) : Option (Bool) :=
  if (decide (¬ (a.length : Int) = (b.length : Int))) = true then
  some false else
  law_sameLists_L4 a b (0 : Int)
theorem law_sameLists_L4_B_ch (r4 : Nat → Int → Option (Bool)) (r4' : Int → Option (Bool)) (h_r4 : ∀ a0, ChO (fun κ => r4 κ a0) (r4' a0)) (a : (List (List Int))) (b : (List (List Int))) (i : Int) : ChO (fun κ => law_sameLists_L4_B a b (r4 κ) i) (law_sameLists_L4_B a b r4' i) := by
  unfold law_sameLists_L4_B
  repeat' with_reducible first | exact ChO.const _ | exact h_r4 _ | apply ChO.ite | apply ChO.G | apply ChO.both | (apply ChO.bind; intro _)
theorem law_sameLists_L4_cn  (a : (List (List Int))) (b : (List (List Int))) : Cn (law_sameLists_L4_F a b) := fun g h hg x => law_sameLists_L4_B_ch  (fun κ i => g κ i) (fun i => h i) (fun i => hg i) a b x
theorem law_sameLists_L4_eq  (a : (List (List Int))) (b : (List (List Int))) (i : Int) : law_sameLists_L4 a b i = law_sameLists_L4_B a b (law_sameLists_L4 a b) i := LFix_eq (law_sameLists_L4_cn a b) i

noncomputable def r24_Check_L11_B (letters : Int) (l : (List (List Int))) (i : Int) (r6 : (Int → Option (Int))) (r11 : Int → Option (Int)) (k : Int) : Option (Int) :=
  G (0 ≤ i ∧ i < (l.length : Int)) (
  if (decide (k < ((ix l i).length : Int))) = true then
  G (0 ≤ i ∧ i < (l.length : Int)) (
  G (0 ≤ k ∧ k < ((ix l i).length : Int)) (
  if (decide ((ix (ix l i) k) < (0 : Int))) = true then
  some (2 : Int) else
  G (0 ≤ i ∧ i < (l.length : Int)) (
  G (0 ≤ k ∧ k < ((ix l i).length : Int)) (
  if (decide (letters ≤ (ix (ix l i) k))) = true then
  some (2 : Int) else
  G (fits (k + (1 : Int))) (
  r11 (k + (1 : Int))))))) else
  G (fits (i + (1 : Int))) (
  r6 (i + (1 : Int))))
noncomputable def r24_Check_L11_F (letters : Int) (l : (List (List Int))) (i : Int) (r6 : (Int → Option (Int))) : (Int → Option (Int)) → Int → Option (Int) :=
  fun rec x => r24_Check_L11_B letters l i r6 (fun k => rec k) x
noncomputable def r24_Check_L11 (letters : Int) (l : (List (List Int))) (i : Int) (r6 : (Int → Option (Int))) (k : Int) : Option (Int) := LFix (r24_Check_L11_F letters l i r6 ) k
noncomputable def r24_Check_L6_B (letters : Int) (l : (List (List Int))) (r6 : Int → Option (Int)) (i : Int) : Option (Int) :=
  if (decide (i < (l.length : Int))) = true then
  G (0 ≤ i ∧ i < (l.length : Int)) (
  if (decide (((ix l i).length : Int) < (1 : Int))) = true then
  some (1 : Int) else
  G (0 ≤ i ∧ i < (l.length : Int)) (
  if (decide ((10 : Int) < ((ix l i).length : Int))) = true then
  some (1 : Int) else
  r24_Check_L11 letters l i r6 (0 : Int))) else
  some (0 : Int)
noncomputable def r24_Check_L6_F (letters : Int) (l : (List (List Int))) : (Int → Option (Int)) → Int → Option (Int) :=
  fun rec x => r24_Check_L6_B letters l (fun i => rec i) x
noncomputable def r24_Check_L6 (letters : Int) (l : (List (List Int))) (i : Int) : Option (Int) := LFix (r24_Check_L6_F letters l ) i
noncomputable def r24_Check (letters : Int) (l : (List (List Int))) : Option (Int) :=
  if (decide (letters < (1 : Int))) = true then
  some (2 : Int) else
  if (decide ((4 : Int) < letters)) = true then
  some (2 : Int) else
  if (decide ((l.length : Int) < (1 : Int))) = true then
  some (1 : Int) else
  if (decide ((10 : Int) < (l.length : Int))) = true then
  some (1 : Int) else
  r24_Check_L6 letters l (0 : Int)
theorem r24_Check_L11_B_ch (r6 : Nat → Int → Option (Int)) (r6' : Int → Option (Int)) (h_r6 : ∀ a0, ChO (fun κ => r6 κ a0) (r6' a0)) (r11 : Nat → Int → Option (Int)) (r11' : Int → Option (Int)) (h_r11 : ∀ a0, ChO (fun κ => r11 κ a0) (r11' a0)) (letters : Int) (l : (List (List Int))) (i : Int) (k : Int) : ChO (fun κ => r24_Check_L11_B letters l i (r6 κ) (r11 κ) k) (r24_Check_L11_B letters l i r6' r11' k) := by
  unfold r24_Check_L11_B
  repeat' with_reducible first | exact ChO.const _ | exact h_r6 _ | exact h_r11 _ | apply ChO.ite | apply ChO.G | apply ChO.both | (apply ChO.bind; intro _)
theorem r24_Check_L11_cn (r6 : Int → Option (Int)) (letters : Int) (l : (List (List Int))) (i : Int) : Cn (r24_Check_L11_F letters l i r6) := fun g h hg x => r24_Check_L11_B_ch (fun _ => r6) r6 (fun _ => ChO.const _) (fun κ k => g κ k) (fun k => h k) (fun k => hg k) letters l i x
theorem r24_Check_L11_eq (r6 : Int → Option (Int)) (letters : Int) (l : (List (List Int))) (i : Int) (k : Int) : r24_Check_L11 letters l i r6 k = r24_Check_L11_B letters l i r6 (r24_Check_L11 letters l i r6) k := LFix_eq (r24_Check_L11_cn r6 letters l i) k
theorem r24_Check_L11_ch (r6 : Nat → Int → Option (Int)) (r6' : Int → Option (Int)) (h_r6 : ∀ a0, ChO (fun κ => r6 κ a0) (r6' a0)) (letters : Int) (l : (List (List Int))) (i : Int) (k : Int) : ChO (fun κ => r24_Check_L11 letters l i (r6 κ) k) (r24_Check_L11 letters l i r6' k) := by
  unfold r24_Check_L11
  exact LFix_ch (fun κ => (r24_Check_L11_cn (r6 κ) letters l i).mono) (r24_Check_L11_cn r6' letters l i).mono (fun g h hg x => r24_Check_L11_B_ch r6 r6' h_r6 (fun κ k => g κ k) (fun k => h k) (fun k => hg k) letters l i x) _
theorem r24_Check_L6_B_ch (r6 : Nat → Int → Option (Int)) (r6' : Int → Option (Int)) (h_r6 : ∀ a0, ChO (fun κ => r6 κ a0) (r6' a0)) (letters : Int) (l : (List (List Int))) (i : Int) : ChO (fun κ => r24_Check_L6_B letters l (r6 κ) i) (r24_Check_L6_B letters l r6' i) := by
  unfold r24_Check_L6_B
  repeat' with_reducible first | exact ChO.const _ | exact h_r6 _ | (apply r24_Check_L11_ch <;> assumption) | apply ChO.ite | apply ChO.G | apply ChO.both | (apply ChO.bind; intro _)
theorem r24_Check_L6_cn  (letters : Int) (l : (List (List Int))) : Cn (r24_Check_L6_F letters l) := fun g h hg x => r24_Check_L6_B_ch  (fun κ i => g κ i) (fun i => h i) (fun i => hg i) letters l x
theorem r24_Check_L6_eq  (letters : Int) (l : (List (List Int))) (i : Int) : r24_Check_L6 letters l i = r24_Check_L6_B letters l (r24_Check_L6 letters l) i := LFix_eq (r24_Check_L6_cn letters l) i

noncomputable def r24_Begins (w : (List Int)) (v : (List Int)) : Option (Bool) :=
  if (decide ((w.length : Int) < (v.length : Int))) = true then
  some false else
  G (0 ≤ (0 : Int) ∧ (0 : Int) ≤ (v.length : Int) ∧ (v.length : Int) ≤ (w.length : Int)) (
  (r1_Words (cut w (0 : Int) (v.length : Int)) v).bind (fun y' =>
  some y'))

noncomputable def r24_put_L2_B (w : (List Int)) (l : (List (List Int))) (r2 : Int → Option (List (List Int))) (i : Int) : Option (List (List Int)) :=
  if (decide (i < (l.length : Int))) = true then
  G (0 ≤ i ∧ i < (l.length : Int)) (
  G ((i).toNat < l.length) (
  (r1_Words (ix l i) w).bind (fun y' =>
  if y' = true then
  some l else
  G (fits (i + (1 : Int))) (
  r2 (i + (1 : Int)))))) else
  G (room l ([w]) 24) (
  some (l ++ ([w])))
noncomputable def r24_put_L2_F (w : (List Int)) (l : (List (List Int))) : (Int → Option (List (List Int))) → Int → Option (List (List Int)) :=
  fun rec x => r24_put_L2_B w l (fun i => rec i) x
noncomputable def r24_put_L2 (w : (List Int)) (l : (List (List Int))) (i : Int) : Option (List (List Int)) := LFix (r24_put_L2_F w l ) i
noncomputable def r24_put (w : (List Int)) (l : (List (List Int))) : Option (List (List Int)) :=
  r24_put_L2 w l (0 : Int)
theorem r24_put_L2_B_ch (r2 : Nat → Int → Option (List (List Int))) (r2' : Int → Option (List (List Int))) (h_r2 : ∀ a0, ChO (fun κ => r2 κ a0) (r2' a0)) (w : (List Int)) (l : (List (List Int))) (i : Int) : ChO (fun κ => r24_put_L2_B w l (r2 κ) i) (r24_put_L2_B w l r2' i) := by
  unfold r24_put_L2_B
  repeat' with_reducible first | exact ChO.const _ | exact h_r2 _ | apply ChO.ite | apply ChO.G | apply ChO.both | (apply ChO.bind; intro _)
theorem r24_put_L2_cn  (w : (List Int)) (l : (List (List Int))) : Cn (r24_put_L2_F w l) := fun g h hg x => r24_put_L2_B_ch  (fun κ i => g κ i) (fun i => h i) (fun i => hg i) w l x
theorem r24_put_L2_eq  (w : (List Int)) (l : (List (List Int))) (i : Int) : r24_put_L2 w l i = r24_put_L2_B w l (r24_put_L2 w l) i := LFix_eq (r24_put_L2_cn w l) i

noncomputable def r24_Unique_J9 (l : (List (List Int))) (i : Int) (k : Int) (rests_1 : (List (List Int))) (r6 : (Int → (List (List Int)) → Option (Bool))) (t : Bool) : Option (Bool) :=
  if t = true then
  G (0 ≤ i ∧ i < (l.length : Int)) (
  G (0 ≤ k ∧ k < (l.length : Int)) (
  G (0 ≤ ((ix l k).length : Int) ∧ ((ix l k).length : Int) ≤ ((ix l i).length : Int) ∧ ((ix l i).length : Int) ≤ ((ix l i).length : Int)) (
  (r24_put (cut (ix l i) ((ix l k).length : Int) ((ix l i).length : Int)) rests_1).bind (fun y'_1 =>
  G (fits (k + (1 : Int))) (
  r6 (k + (1 : Int)) y'_1))))) else
  G (fits (k + (1 : Int))) (
  r6 (k + (1 : Int)) rests_1)
noncomputable def r24_Unique_L6_B (l : (List (List Int))) (i : Int) (r3 : (Int → (List (List Int)) → Option (Bool))) (r6 : Int → (List (List Int)) → Option (Bool)) (k : Int) (rests_1 : (List (List Int))) : Option (Bool) :=
  if (decide (k < (l.length : Int))) = true then
  G (0 ≤ i ∧ i < (l.length : Int)) (
  G (0 ≤ k ∧ k < (l.length : Int)) (
  (r24_Begins (ix l i) (ix l k)).bind (fun y' =>
  if (decide (¬ i = k)) = true then
  r24_Unique_J9 l i k rests_1 r6 y' else
  r24_Unique_J9 l i k rests_1 r6 false))) else
  G (fits (i + (1 : Int))) (
  r3 (i + (1 : Int)) rests_1)
noncomputable def r24_Unique_L6_F (l : (List (List Int))) (i : Int) (r3 : (Int → (List (List Int)) → Option (Bool))) : (Int × (List (List Int)) → Option (Bool)) → Int × (List (List Int)) → Option (Bool) :=
  fun rec x => r24_Unique_L6_B l i r3 (fun k rests_1 => rec (k, rests_1)) x.1 x.2
noncomputable def r24_Unique_L6 (l : (List (List Int))) (i : Int) (r3 : (Int → (List (List Int)) → Option (Bool))) (k : Int) (rests_1 : (List (List Int))) : Option (Bool) := LFix (r24_Unique_L6_F l i r3 ) (k, rests_1)
noncomputable def r24_Unique_L18_B (l : (List (List Int))) (i_1 : Int) (rests_2 : (List (List Int))) (r12 : (Int → (List (List Int)) → Option (Bool))) (r18 : Int → (List (List Int)) → Option (Bool)) (k_1 : Int) (rests_3 : (List (List Int))) : Option (Bool) :=
  if (decide (k_1 < (l.length : Int))) = true then
  G (0 ≤ k_1 ∧ k_1 < (l.length : Int)) (
  (r24_Begins (ix rests_2 i_1) (ix l k_1)).bind (fun y'_2 =>
  G (0 ≤ k_1 ∧ k_1 < (l.length : Int)) (
  (r24_Begins (ix l k_1) (ix rests_2 i_1)).bind (fun y'_3 =>
  if y'_2 = true then
  G (0 ≤ k_1 ∧ k_1 < (l.length : Int)) (
  G (0 ≤ ((ix l k_1).length : Int) ∧ ((ix l k_1).length : Int) ≤ ((ix rests_2 i_1).length : Int) ∧ ((ix rests_2 i_1).length : Int) ≤ ((ix rests_2 i_1).length : Int)) (
  (r24_put (cut (ix rests_2 i_1) ((ix l k_1).length : Int) ((ix rests_2 i_1).length : Int)) rests_3).bind (fun y'_4 =>
  G (fits (k_1 + (1 : Int))) (
  r18 (k_1 + (1 : Int)) y'_4)))) else
  if y'_3 = true then
  G (0 ≤ k_1 ∧ k_1 < (l.length : Int)) (
  G (0 ≤ ((ix rests_2 i_1).length : Int) ∧ ((ix rests_2 i_1).length : Int) ≤ ((ix l k_1).length : Int) ∧ ((ix l k_1).length : Int) ≤ ((ix l k_1).length : Int)) (
  (r24_put (cut (ix l k_1) ((ix rests_2 i_1).length : Int) ((ix l k_1).length : Int)) rests_3).bind (fun y'_5 =>
  G (fits (k_1 + (1 : Int))) (
  r18 (k_1 + (1 : Int)) y'_5)))) else
  G (fits (k_1 + (1 : Int))) (
  r18 (k_1 + (1 : Int)) rests_3))))) else
  G (fits (i_1 + (1 : Int))) (
  r12 (i_1 + (1 : Int)) rests_3)
noncomputable def r24_Unique_L18_F (l : (List (List Int))) (i_1 : Int) (rests_2 : (List (List Int))) (r12 : (Int → (List (List Int)) → Option (Bool))) : (Int × (List (List Int)) → Option (Bool)) → Int × (List (List Int)) → Option (Bool) :=
  fun rec x => r24_Unique_L18_B l i_1 rests_2 r12 (fun k_1 rests_3 => rec (k_1, rests_3)) x.1 x.2
noncomputable def r24_Unique_L18 (l : (List (List Int))) (i_1 : Int) (rests_2 : (List (List Int))) (r12 : (Int → (List (List Int)) → Option (Bool))) (k_1 : Int) (rests_3 : (List (List Int))) : Option (Bool) := LFix (r24_Unique_L18_F l i_1 rests_2 r12 ) (k_1, rests_3)
noncomputable def r24_Unique_L12_B (l : (List (List Int))) (r12 : Int → (List (List Int)) → Option (Bool)) (i_1 : Int) (rests_2 : (List (List Int))) : Option (Bool) :=
  if (decide (i_1 < (rests_2.length : Int))) = true then
  G (0 ≤ i_1 ∧ i_1 < (rests_2.length : Int)) (
  G ((i_1).toNat < rests_2.length) (
  if (decide (((ix rests_2 i_1).length : Int) = (0 : Int))) = true then
  some false else
  r24_Unique_L18 l i_1 rests_2 r12 (0 : Int) rests_2)) else
  some true
noncomputable def r24_Unique_L12_F (l : (List (List Int))) : (Int × (List (List Int)) → Option (Bool)) → Int × (List (List Int)) → Option (Bool) :=
  fun rec x => r24_Unique_L12_B l (fun i_1 rests_2 => rec (i_1, rests_2)) x.1 x.2
noncomputable def r24_Unique_L12 (l : (List (List Int))) (i_1 : Int) (rests_2 : (List (List Int))) : Option (Bool) := LFix (r24_Unique_L12_F l ) (i_1, rests_2)
noncomputable def r24_Unique_L3_B (l : (List (List Int))) (r3 : Int → (List (List Int)) → Option (Bool)) (i : Int) (rests : (List (List Int))) : Option (Bool) :=
  if (decide (i < (l.length : Int))) = true then
  r24_Unique_L6 l i r3 (0 : Int) rests else
  r24_Unique_L12 l (0 : Int) rests
noncomputable def r24_Unique_L3_F (l : (List (List Int))) : (Int × (List (List Int)) → Option (Bool)) → Int × (List (List Int)) → Option (Bool) :=
  fun rec x => r24_Unique_L3_B l (fun i rests => rec (i, rests)) x.1 x.2
noncomputable def r24_Unique_L3 (l : (List (List Int))) (i : Int) (rests : (List (List Int))) : Option (Bool) := LFix (r24_Unique_L3_F l ) (i, rests)
noncomputable def r24_Unique (l : (List (List Int))) : Option (Bool) :=
  r24_Unique_L3 l (0 : Int) ([])
theorem r24_Unique_J9_ch (r6 : Nat → Int → (List (List Int)) → Option (Bool)) (r6' : Int → (List (List Int)) → Option (Bool)) (h_r6 : ∀ a0 a1, ChO (fun κ => r6 κ a0 a1) (r6' a0 a1)) (l : (List (List Int))) (i : Int) (k : Int) (rests_1 : (List (List Int))) (t : Bool) : ChO (fun κ => r24_Unique_J9 l i k rests_1 (r6 κ) t) (r24_Unique_J9 l i k rests_1 r6' t) := by
  unfold r24_Unique_J9
  repeat' with_reducible first | exact ChO.const _ | exact h_r6 _ _ | apply ChO.ite | apply ChO.G | apply ChO.both | (apply ChO.bind; intro _)
theorem r24_Unique_L6_B_ch (r3 : Nat → Int → (List (List Int)) → Option (Bool)) (r3' : Int → (List (List Int)) → Option (Bool)) (h_r3 : ∀ a0 a1, ChO (fun κ => r3 κ a0 a1) (r3' a0 a1)) (r6 : Nat → Int → (List (List Int)) → Option (Bool)) (r6' : Int → (List (List Int)) → Option (Bool)) (h_r6 : ∀ a0 a1, ChO (fun κ => r6 κ a0 a1) (r6' a0 a1)) (l : (List (List Int))) (i : Int) (k : Int) (rests_1 : (List (List Int))) : ChO (fun κ => r24_Unique_L6_B l i (r3 κ) (r6 κ) k rests_1) (r24_Unique_L6_B l i r3' r6' k rests_1) := by
  unfold r24_Unique_L6_B
  repeat' with_reducible first | exact ChO.const _ | exact h_r3 _ _ | exact h_r6 _ _ | (apply r24_Unique_J9_ch <;> assumption) | apply ChO.ite | apply ChO.G | apply ChO.both | (apply ChO.bind; intro _)
theorem r24_Unique_L6_cn (r3 : Int → (List (List Int)) → Option (Bool)) (l : (List (List Int))) (i : Int) : Cn (r24_Unique_L6_F l i r3) := fun g h hg x => r24_Unique_L6_B_ch (fun _ => r3) r3 (fun _ _ => ChO.const _) (fun κ k rests_1 => g κ (k, rests_1)) (fun k rests_1 => h (k, rests_1)) (fun k rests_1 => hg (k, rests_1)) l i x.1 x.2
theorem r24_Unique_L6_eq (r3 : Int → (List (List Int)) → Option (Bool)) (l : (List (List Int))) (i : Int) (k : Int) (rests_1 : (List (List Int))) : r24_Unique_L6 l i r3 k rests_1 = r24_Unique_L6_B l i r3 (r24_Unique_L6 l i r3) k rests_1 := LFix_eq (r24_Unique_L6_cn r3 l i) (k, rests_1)
theorem r24_Unique_L6_ch (r3 : Nat → Int → (List (List Int)) → Option (Bool)) (r3' : Int → (List (List Int)) → Option (Bool)) (h_r3 : ∀ a0 a1, ChO (fun κ => r3 κ a0 a1) (r3' a0 a1)) (l : (List (List Int))) (i : Int) (k : Int) (rests_1 : (List (List Int))) : ChO (fun κ => r24_Unique_L6 l i (r3 κ) k rests_1) (r24_Unique_L6 l i r3' k rests_1) := by
  unfold r24_Unique_L6
  exact LFix_ch (fun κ => (r24_Unique_L6_cn (r3 κ) l i).mono) (r24_Unique_L6_cn r3' l i).mono (fun g h hg x => r24_Unique_L6_B_ch r3 r3' h_r3 (fun κ k rests_1 => g κ (k, rests_1)) (fun k rests_1 => h (k, rests_1)) (fun k rests_1 => hg (k, rests_1)) l i x.1 x.2) _
theorem r24_Unique_L18_B_ch (r12 : Nat → Int → (List (List Int)) → Option (Bool)) (r12' : Int → (List (List Int)) → Option (Bool)) (h_r12 : ∀ a0 a1, ChO (fun κ => r12 κ a0 a1) (r12' a0 a1)) (r18 : Nat → Int → (List (List Int)) → Option (Bool)) (r18' : Int → (List (List Int)) → Option (Bool)) (h_r18 : ∀ a0 a1, ChO (fun κ => r18 κ a0 a1) (r18' a0 a1)) (l : (List (List Int))) (i_1 : Int) (rests_2 : (List (List Int))) (k_1 : Int) (rests_3 : (List (List Int))) : ChO (fun κ => r24_Unique_L18_B l i_1 rests_2 (r12 κ) (r18 κ) k_1 rests_3) (r24_Unique_L18_B l i_1 rests_2 r12' r18' k_1 rests_3) := by
  unfold r24_Unique_L18_B
  repeat' with_reducible first | exact ChO.const _ | exact h_r12 _ _ | exact h_r18 _ _ | (apply r24_Unique_J9_ch <;> assumption) | (apply r24_Unique_L6_ch <;> assumption) | apply ChO.ite | apply ChO.G | apply ChO.both | (apply ChO.bind; intro _)
theorem r24_Unique_L18_cn (r12 : Int → (List (List Int)) → Option (Bool)) (l : (List (List Int))) (i_1 : Int) (rests_2 : (List (List Int))) : Cn (r24_Unique_L18_F l i_1 rests_2 r12) := fun g h hg x => r24_Unique_L18_B_ch (fun _ => r12) r12 (fun _ _ => ChO.const _) (fun κ k_1 rests_3 => g κ (k_1, rests_3)) (fun k_1 rests_3 => h (k_1, rests_3)) (fun k_1 rests_3 => hg (k_1, rests_3)) l i_1 rests_2 x.1 x.2
theorem r24_Unique_L18_eq (r12 : Int → (List (List Int)) → Option (Bool)) (l : (List (List Int))) (i_1 : Int) (rests_2 : (List (List Int))) (k_1 : Int) (rests_3 : (List (List Int))) : r24_Unique_L18 l i_1 rests_2 r12 k_1 rests_3 = r24_Unique_L18_B l i_1 rests_2 r12 (r24_Unique_L18 l i_1 rests_2 r12) k_1 rests_3 := LFix_eq (r24_Unique_L18_cn r12 l i_1 rests_2) (k_1, rests_3)
theorem r24_Unique_L18_ch (r12 : Nat → Int → (List (List Int)) → Option (Bool)) (r12' : Int → (List (List Int)) → Option (Bool)) (h_r12 : ∀ a0 a1, ChO (fun κ => r12 κ a0 a1) (r12' a0 a1)) (l : (List (List Int))) (i_1 : Int) (rests_2 : (List (List Int))) (k_1 : Int) (rests_3 : (List (List Int))) : ChO (fun κ => r24_Unique_L18 l i_1 rests_2 (r12 κ) k_1 rests_3) (r24_Unique_L18 l i_1 rests_2 r12' k_1 rests_3) := by
  unfold r24_Unique_L18
  exact LFix_ch (fun κ => (r24_Unique_L18_cn (r12 κ) l i_1 rests_2).mono) (r24_Unique_L18_cn r12' l i_1 rests_2).mono (fun g h hg x => r24_Unique_L18_B_ch r12 r12' h_r12 (fun κ k_1 rests_3 => g κ (k_1, rests_3)) (fun k_1 rests_3 => h (k_1, rests_3)) (fun k_1 rests_3 => hg (k_1, rests_3)) l i_1 rests_2 x.1 x.2) _
theorem r24_Unique_L12_B_ch (r12 : Nat → Int → (List (List Int)) → Option (Bool)) (r12' : Int → (List (List Int)) → Option (Bool)) (h_r12 : ∀ a0 a1, ChO (fun κ => r12 κ a0 a1) (r12' a0 a1)) (l : (List (List Int))) (i_1 : Int) (rests_2 : (List (List Int))) : ChO (fun κ => r24_Unique_L12_B l (r12 κ) i_1 rests_2) (r24_Unique_L12_B l r12' i_1 rests_2) := by
  unfold r24_Unique_L12_B
  repeat' with_reducible first | exact ChO.const _ | exact h_r12 _ _ | (apply r24_Unique_J9_ch <;> assumption) | (apply r24_Unique_L6_ch <;> assumption) | (apply r24_Unique_L18_ch <;> assumption) | apply ChO.ite | apply ChO.G | apply ChO.both | (apply ChO.bind; intro _)
theorem r24_Unique_L12_cn  (l : (List (List Int))) : Cn (r24_Unique_L12_F l) := fun g h hg x => r24_Unique_L12_B_ch  (fun κ i_1 rests_2 => g κ (i_1, rests_2)) (fun i_1 rests_2 => h (i_1, rests_2)) (fun i_1 rests_2 => hg (i_1, rests_2)) l x.1 x.2
theorem r24_Unique_L12_eq  (l : (List (List Int))) (i_1 : Int) (rests_2 : (List (List Int))) : r24_Unique_L12 l i_1 rests_2 = r24_Unique_L12_B l (r24_Unique_L12 l) i_1 rests_2 := LFix_eq (r24_Unique_L12_cn l) (i_1, rests_2)
theorem r24_Unique_L3_B_ch (r3 : Nat → Int → (List (List Int)) → Option (Bool)) (r3' : Int → (List (List Int)) → Option (Bool)) (h_r3 : ∀ a0 a1, ChO (fun κ => r3 κ a0 a1) (r3' a0 a1)) (l : (List (List Int))) (i : Int) (rests : (List (List Int))) : ChO (fun κ => r24_Unique_L3_B l (r3 κ) i rests) (r24_Unique_L3_B l r3' i rests) := by
  unfold r24_Unique_L3_B
  repeat' with_reducible first | exact ChO.const _ | exact h_r3 _ _ | (apply r24_Unique_J9_ch <;> assumption) | (apply r24_Unique_L6_ch <;> assumption) | (apply r24_Unique_L18_ch <;> assumption) | apply ChO.ite | apply ChO.G | apply ChO.both | (apply ChO.bind; intro _)
theorem r24_Unique_L3_cn  (l : (List (List Int))) : Cn (r24_Unique_L3_F l) := fun g h hg x => r24_Unique_L3_B_ch  (fun κ i rests => g κ (i, rests)) (fun i rests => h (i, rests)) (fun i rests => hg (i, rests)) l x.1 x.2
theorem r24_Unique_L3_eq  (l : (List (List Int))) (i : Int) (rests : (List (List Int))) : r24_Unique_L3 l i rests = r24_Unique_L3_B l (r24_Unique_L3 l) i rests := LFix_eq (r24_Unique_L3_cn l) (i, rests)

noncomputable def r24_Whole_L3_B (l : (List (List Int))) (row : (List Int)) (r3 : Int → (List Int) → Option (Bool × (List Int))) (i : Int) (out : (List Int)) : Option (Bool × (List Int)) :=
  if (decide (i < (row.length : Int))) = true then
  G (0 ≤ i ∧ i < (row.length : Int)) (
  if (decide ((ix row i) < (0 : Int))) = true then
  some (false, []) else
  G (0 ≤ i ∧ i < (row.length : Int)) (
  if (decide ((l.length : Int) ≤ (ix row i))) = true then
  some (false, []) else
  G (0 ≤ i ∧ i < (row.length : Int)) (
  G (0 ≤ ix row i ∧ ix row i < (l.length : Int)) (
  G (room out (ix l (ix row i)) 8) (
  G (fits (i + (1 : Int))) (
  r3 (i + (1 : Int)) (out ++ (ix l (ix row i))))))))) else
  some (true, out)
noncomputable def r24_Whole_L3_F (l : (List (List Int))) (row : (List Int)) : (Int × (List Int) → Option (Bool × (List Int))) → Int × (List Int) → Option (Bool × (List Int)) :=
  fun rec x => r24_Whole_L3_B l row (fun i out => rec (i, out)) x.1 x.2
noncomputable def r24_Whole_L3 (l : (List (List Int))) (row : (List Int)) (i : Int) (out : (List Int)) : Option (Bool × (List Int)) := LFix (r24_Whole_L3_F l row ) (i, out)
noncomputable def r24_Whole (l : (List (List Int))) (row : (List Int)) : Option (Bool × (List Int)) :=
  r24_Whole_L3 l row (0 : Int) ([])
theorem r24_Whole_L3_B_ch (r3 : Nat → Int → (List Int) → Option (Bool × (List Int))) (r3' : Int → (List Int) → Option (Bool × (List Int))) (h_r3 : ∀ a0 a1, ChO (fun κ => r3 κ a0 a1) (r3' a0 a1)) (l : (List (List Int))) (row : (List Int)) (i : Int) (out : (List Int)) : ChO (fun κ => r24_Whole_L3_B l row (r3 κ) i out) (r24_Whole_L3_B l row r3' i out) := by
  unfold r24_Whole_L3_B
  repeat' with_reducible first | exact ChO.const _ | exact h_r3 _ _ | apply ChO.ite | apply ChO.G | apply ChO.both | (apply ChO.bind; intro _)
theorem r24_Whole_L3_cn  (l : (List (List Int))) (row : (List Int)) : Cn (r24_Whole_L3_F l row) := fun g h hg x => r24_Whole_L3_B_ch  (fun κ i out => g κ (i, out)) (fun i out => h (i, out)) (fun i out => hg (i, out)) l row x.1 x.2
theorem r24_Whole_L3_eq  (l : (List (List Int))) (row : (List Int)) (i : Int) (out : (List Int)) : r24_Whole_L3 l row i out = r24_Whole_L3_B l row (r24_Whole_L3 l row) i out := LFix_eq (r24_Whole_L3_cn l row) (i, out)

noncomputable def law_CodeUnique (letters : Int) (l : (List (List Int))) : Option (Bool) :=
  (law_lists l).bind (fun y' =>
  (code_Unique letters y').bind (fun y'_20 =>
  (code_Check letters y').bind (fun y'_6 =>
  (law_sameLists y' l).bind (fun y'_7 =>
  (r24_Check letters l).bind (fun y'_8 =>
  if (decide (¬ y'_6 = y'_8)) = true then
  some false else
  if (!y'_7) = true then
  some false else
  if (decide (¬ y'_8 = (0 : Int))) = true then
  if (decide (y'_20.2.2.2 = y'_8)) = true then
  if (!y'_20.2.2.1) = true then
  G (fits ((y'_20.1.length : Int) + (y'_20.2.1.length : Int))) (
  some (decide (((y'_20.1.length : Int) + (y'_20.2.1.length : Int)) = (0 : Int)))) else
  some false else
  some false else
  (r24_Unique l).bind (fun y'_9 =>
  if (decide (¬ y'_20.2.2.2 = (0 : Int))) = true then
  some false else
  if (decide (¬ y'_20.2.2.1 = y'_9)) = true then
  some false else
  if y'_20.2.2.1 = true then
  G (fits ((y'_20.1.length : Int) + (y'_20.2.1.length : Int))) (
  some (decide (((y'_20.1.length : Int) + (y'_20.2.1.length : Int)) = (0 : Int)))) else
  (r24_Whole l y'_20.1).bind (fun y'_19 =>
  (r24_Whole l y'_20.2.1).bind (fun y'_18 =>
  (r1_Words y'_20.1 y'_20.2.1).bind (fun y'_16 =>
  (r1_Words y'_19.2 y'_18.2).bind (fun y'_17 =>
  if y'_19.1 = true then
  if y'_18.1 = true then
  if (!y'_16) = true then
  some y'_17 else
  some false else
  some false else
  some false))))))))))

end Go.Proofs.Ythepofdgjefncaa.codeUniqueW
