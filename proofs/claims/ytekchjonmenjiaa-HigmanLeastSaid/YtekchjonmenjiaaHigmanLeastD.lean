/- What the functions that 'HigmanLeast' reaches compute: plain functions. -/
import Derived.Test.YtekchjonmenjiaaEv13n21
set_option maxHeartbeats 1000000
set_option maxRecDepth 20000
set_option linter.unusedSimpArgs false
set_option linter.unusedVariables false
namespace Go.Proofs.Ytekchjonmenjiaa.higmanLeastW
open Go Go.Ab
noncomputable def det_Check_1 (r : (List Int)) (t : (Int × Int × (List (List Int)) × (List Int) × Unit)) : Option (Bool) :=
  some (decide (¬ (r.length : Int) = t.1))

noncomputable def slices_IndexFunc_L2_B (s : (List (List Int))) (c : (Int × Int × (List (List Int)) × (List Int) × Unit)) (r2 : Int → Option (Int)) (t : Int) : Option (Int) :=
  if (decide (t < (s.length : Int))) = true then
  G (0 ≤ t ∧ t < (s.length : Int)) (
  (det_Check_1 (ix s t) c).bind (fun y' =>
  if y' = true then
  some t else
  G (fits (t + (1 : Int))) (
  r2 (t + (1 : Int))))) else
  some (-1 : Int)
noncomputable def slices_IndexFunc_L2_F (s : (List (List Int))) (c : (Int × Int × (List (List Int)) × (List Int) × Unit)) : (Int → Option (Int)) → Int → Option (Int) :=
  fun rec x => slices_IndexFunc_L2_B s c (fun t => rec t) x
noncomputable def slices_IndexFunc_L2 (s : (List (List Int))) (c : (Int × Int × (List (List Int)) × (List Int) × Unit)) (t : Int) : Option (Int) := LFix (slices_IndexFunc_L2_F s c ) t
noncomputable def slices_IndexFunc (s : (List (List Int))) (c : (Int × Int × (List (List Int)) × (List Int) × Unit)) : Option (Int) :=
  slices_IndexFunc_L2 s c (0 : Int)
theorem slices_IndexFunc_L2_B_ch (r2 : Nat → Int → Option (Int)) (r2' : Int → Option (Int)) (h_r2 : ∀ a0, ChO (fun κ => r2 κ a0) (r2' a0)) (s : (List (List Int))) (c : (Int × Int × (List (List Int)) × (List Int) × Unit)) (t : Int) : ChO (fun κ => slices_IndexFunc_L2_B s c (r2 κ) t) (slices_IndexFunc_L2_B s c r2' t) := by
  unfold slices_IndexFunc_L2_B
  repeat' with_reducible first | exact ChO.const _ | exact h_r2 _ | apply ChO.ite | apply ChO.G | apply ChO.both | (apply ChO.bind; intro _)
theorem slices_IndexFunc_L2_cn  (s : (List (List Int))) (c : (Int × Int × (List (List Int)) × (List Int) × Unit)) : Cn (slices_IndexFunc_L2_F s c) := fun g h hg x => slices_IndexFunc_L2_B_ch  (fun κ t => g κ t) (fun t => h t) (fun t => hg t) s c x
theorem slices_IndexFunc_L2_eq  (s : (List (List Int))) (c : (Int × Int × (List (List Int)) × (List Int) × Unit)) (t : Int) : slices_IndexFunc_L2 s c t = slices_IndexFunc_L2_B s c (slices_IndexFunc_L2 s c) t := LFix_eq (slices_IndexFunc_L2_cn s c) t

noncomputable def slices_ContainsFunc (s : (List (List Int))) (c : (Int × Int × (List (List Int)) × (List Int) × Unit)) : Option (Bool) :=
  (slices_IndexFunc s c).bind (fun y' =>
  some (decide ((0 : Int) ≤ y')))

noncomputable def det_Check_2 (q : Int) (t : Int) : Option (Bool) :=
  if (decide (q < (0 : Int))) = true then
  some true else
  some (decide (t ≤ q))

noncomputable def slices_IndexFunc_2_L2_B (s : (List Int)) (c : Int) (r2 : Int → Option (Int)) (t : Int) : Option (Int) :=
  if (decide (t < (s.length : Int))) = true then
  G (0 ≤ t ∧ t < (s.length : Int)) (
  (det_Check_2 (ix s t) c).bind (fun y' =>
  if y' = true then
  some t else
  G (fits (t + (1 : Int))) (
  r2 (t + (1 : Int))))) else
  some (-1 : Int)
noncomputable def slices_IndexFunc_2_L2_F (s : (List Int)) (c : Int) : (Int → Option (Int)) → Int → Option (Int) :=
  fun rec x => slices_IndexFunc_2_L2_B s c (fun t => rec t) x
noncomputable def slices_IndexFunc_2_L2 (s : (List Int)) (c : Int) (t : Int) : Option (Int) := LFix (slices_IndexFunc_2_L2_F s c ) t
noncomputable def slices_IndexFunc_2 (s : (List Int)) (c : Int) : Option (Int) :=
  slices_IndexFunc_2_L2 s c (0 : Int)
theorem slices_IndexFunc_2_L2_B_ch (r2 : Nat → Int → Option (Int)) (r2' : Int → Option (Int)) (h_r2 : ∀ a0, ChO (fun κ => r2 κ a0) (r2' a0)) (s : (List Int)) (c : Int) (t : Int) : ChO (fun κ => slices_IndexFunc_2_L2_B s c (r2 κ) t) (slices_IndexFunc_2_L2_B s c r2' t) := by
  unfold slices_IndexFunc_2_L2_B
  repeat' with_reducible first | exact ChO.const _ | exact h_r2 _ | apply ChO.ite | apply ChO.G | apply ChO.both | (apply ChO.bind; intro _)
theorem slices_IndexFunc_2_L2_cn  (s : (List Int)) (c : Int) : Cn (slices_IndexFunc_2_L2_F s c) := fun g h hg x => slices_IndexFunc_2_L2_B_ch  (fun κ t => g κ t) (fun t => h t) (fun t => hg t) s c x
theorem slices_IndexFunc_2_L2_eq  (s : (List Int)) (c : Int) (t : Int) : slices_IndexFunc_2_L2 s c t = slices_IndexFunc_2_L2_B s c (slices_IndexFunc_2_L2 s c) t := LFix_eq (slices_IndexFunc_2_L2_cn s c) t

noncomputable def slices_ContainsFunc_2 (s : (List Int)) (c : Int) : Option (Bool) :=
  (slices_IndexFunc_2 s c).bind (fun y' =>
  some (decide ((0 : Int) ≤ y')))

noncomputable def det_Check_3 (r : (List Int)) (c : Int) : Option (Bool × Int) :=
  (slices_ContainsFunc_2 r c).bind (fun y' =>
  some (y', c))

noncomputable def slices_IndexFunc_1_L2_B (s : (List (List Int))) (r2 : Int → Int → Option (Int × Int)) (t : Int) (l : Int) : Option (Int × Int) :=
  if (decide (t < (s.length : Int))) = true then
  G (0 ≤ t ∧ t < (s.length : Int)) (
  (det_Check_3 (ix s t) l).bind (fun y'_3 =>
  if y'_3.1 = true then
  some (t, y'_3.2) else
  G (fits (t + (1 : Int))) (
  r2 (t + (1 : Int)) y'_3.2))) else
  some ((-1 : Int), l)
noncomputable def slices_IndexFunc_1_L2_F (s : (List (List Int))) : (Int × Int → Option (Int × Int)) → Int × Int → Option (Int × Int) :=
  fun rec x => slices_IndexFunc_1_L2_B s (fun t l => rec (t, l)) x.1 x.2
noncomputable def slices_IndexFunc_1_L2 (s : (List (List Int))) (t : Int) (l : Int) : Option (Int × Int) := LFix (slices_IndexFunc_1_L2_F s ) (t, l)
noncomputable def slices_IndexFunc_1 (s : (List (List Int))) (c : Int) : Option (Int × Int) :=
  slices_IndexFunc_1_L2 s (0 : Int) c
theorem slices_IndexFunc_1_L2_B_ch (r2 : Nat → Int → Int → Option (Int × Int)) (r2' : Int → Int → Option (Int × Int)) (h_r2 : ∀ a0 a1, ChO (fun κ => r2 κ a0 a1) (r2' a0 a1)) (s : (List (List Int))) (t : Int) (l : Int) : ChO (fun κ => slices_IndexFunc_1_L2_B s (r2 κ) t l) (slices_IndexFunc_1_L2_B s r2' t l) := by
  unfold slices_IndexFunc_1_L2_B
  repeat' with_reducible first | exact ChO.const _ | exact h_r2 _ _ | apply ChO.ite | apply ChO.G | apply ChO.both | (apply ChO.bind; intro _)
theorem slices_IndexFunc_1_L2_cn  (s : (List (List Int))) : Cn (slices_IndexFunc_1_L2_F s) := fun g h hg x => slices_IndexFunc_1_L2_B_ch  (fun κ t l => g κ (t, l)) (fun t l => h (t, l)) (fun t l => hg (t, l)) s x.1 x.2
theorem slices_IndexFunc_1_L2_eq  (s : (List (List Int))) (t : Int) (l : Int) : slices_IndexFunc_1_L2 s t l = slices_IndexFunc_1_L2_B s (slices_IndexFunc_1_L2 s) t l := LFix_eq (slices_IndexFunc_1_L2_cn s) (t, l)

noncomputable def slices_ContainsFunc_1 (s : (List (List Int))) (c : Int) : Option (Bool × Int) :=
  (slices_IndexFunc_1 s c).bind (fun y'_3 =>
  some (decide ((0 : Int) ≤ y'_3.1), y'_3.2))

noncomputable def det_Check_4 (m : Int) : Option (Bool) :=
  if (decide (¬ m = (0 : Int))) = true then
  some (decide (¬ m = (1 : Int))) else
  some false

noncomputable def slices_IndexFunc_3_L2_B (s : (List Int)) (r2 : Int → Option (Int)) (t : Int) : Option (Int) :=
  if (decide (t < (s.length : Int))) = true then
  G (0 ≤ t ∧ t < (s.length : Int)) (
  (det_Check_4 (ix s t)).bind (fun y' =>
  if y' = true then
  some t else
  G (fits (t + (1 : Int))) (
  r2 (t + (1 : Int))))) else
  some (-1 : Int)
noncomputable def slices_IndexFunc_3_L2_F (s : (List Int)) : (Int → Option (Int)) → Int → Option (Int) :=
  fun rec x => slices_IndexFunc_3_L2_B s (fun t => rec t) x
noncomputable def slices_IndexFunc_3_L2 (s : (List Int)) (t : Int) : Option (Int) := LFix (slices_IndexFunc_3_L2_F s ) t
noncomputable def slices_IndexFunc_3 (s : (List Int)) : Option (Int) :=
  slices_IndexFunc_3_L2 s (0 : Int)
theorem slices_IndexFunc_3_L2_B_ch (r2 : Nat → Int → Option (Int)) (r2' : Int → Option (Int)) (h_r2 : ∀ a0, ChO (fun κ => r2 κ a0) (r2' a0)) (s : (List Int)) (t : Int) : ChO (fun κ => slices_IndexFunc_3_L2_B s (r2 κ) t) (slices_IndexFunc_3_L2_B s r2' t) := by
  unfold slices_IndexFunc_3_L2_B
  repeat' with_reducible first | exact ChO.const _ | exact h_r2 _ | apply ChO.ite | apply ChO.G | apply ChO.both | (apply ChO.bind; intro _)
theorem slices_IndexFunc_3_L2_cn  (s : (List Int)) : Cn (slices_IndexFunc_3_L2_F s) := fun g h hg x => slices_IndexFunc_3_L2_B_ch  (fun κ t => g κ t) (fun t => h t) (fun t => hg t) s x
theorem slices_IndexFunc_3_L2_eq  (s : (List Int)) (t : Int) : slices_IndexFunc_3_L2 s t = slices_IndexFunc_3_L2_B s (slices_IndexFunc_3_L2 s) t := LFix_eq (slices_IndexFunc_3_L2_cn s) t

noncomputable def slices_ContainsFunc_3 (s : (List Int)) : Option (Bool) :=
  (slices_IndexFunc_3 s).bind (fun y' =>
  some (decide ((0 : Int) ≤ y')))

noncomputable def det_Check (d : (Int × Int × (List (List Int)) × (List Int) × Unit)) : Option (Int) :=
  if (decide (d.1 < (1 : Int))) = true then
  some (2 : Int) else
  if (decide ((4 : Int) < d.1)) = true then
  some (2 : Int) else
  if (decide ((d.2.2.1.length : Int) < (1 : Int))) = true then
  some (1 : Int) else
  if (decide ((3000 : Int) < (d.2.2.1.length : Int))) = true then
  some (1 : Int) else
  if (decide (¬ (d.2.2.2.1.length : Int) = (d.2.2.1.length : Int))) = true then
  some (3 : Int) else
  (slices_ContainsFunc d.2.2.1 (d.1, (d.2.1, (d.2.2.1, (d.2.2.2.1, ()))))).bind (fun y' =>
  if y' = true then
  some (3 : Int) else
  (det_Check_2 d.2.1 (d.2.2.1.length : Int)).bind (fun y'_1 =>
  if y'_1 = true then
  some (2 : Int) else
  (slices_ContainsFunc_1 d.2.2.1 (d.2.2.1.length : Int)).bind (fun y'_6 =>
  if y'_6.1 = true then
  some (2 : Int) else
  (slices_ContainsFunc_3 d.2.2.2.1).bind (fun y'_5 =>
  if y'_5 = true then
  some (2 : Int) else
  some (0 : Int)))))

noncomputable def higman_small (d : (Int × Int × (List (List Int)) × (List Int) × Unit)) : Option (Int) :=
  (det_Check (d.1, (d.2.1, (d.2.2.1, (d.2.2.2.1, ()))))).bind (fun y' =>
  if (decide (¬ y' = (0 : Int))) = true then
  some y' else
  if (decide ((5 : Int) < (d.2.2.1.length : Int))) = true then
  some (1 : Int) else
  some (0 : Int))

noncomputable def word_May_L6_B (letters : Int) (w : (List Int)) (r6 : Int → Option (Int)) (t : Int) : Option (Int) :=
  if (decide (t < (w.length : Int))) = true then
  G (0 ≤ t ∧ t < (w.length : Int)) (
  if (decide ((ix w t) < (0 : Int))) = true then
  some (2 : Int) else
  if (decide (letters ≤ (ix w t))) = true then
  some (2 : Int) else
  G (fits (t + (1 : Int))) (
  r6 (t + (1 : Int)))) else
  some (0 : Int)
noncomputable def word_May_L6_F (letters : Int) (w : (List Int)) : (Int → Option (Int)) → Int → Option (Int) :=
  fun rec x => word_May_L6_B letters w (fun t => rec t) x
noncomputable def word_May_L6 (letters : Int) (w : (List Int)) (t : Int) : Option (Int) := LFix (word_May_L6_F letters w ) t
noncomputable def word_May (letters : Int) (w : (List Int)) : Option (Int) :=
  if (decide (letters < (1 : Int))) = true then
  some (2 : Int) else
  if (decide ((4 : Int) < letters)) = true then
  some (2 : Int) else
  if (decide ((60 : Int) < (w.length : Int))) = true then
  some (1 : Int) else
  word_May_L6 letters w (0 : Int)
theorem word_May_L6_B_ch (r6 : Nat → Int → Option (Int)) (r6' : Int → Option (Int)) (h_r6 : ∀ a0, ChO (fun κ => r6 κ a0) (r6' a0)) (letters : Int) (w : (List Int)) (t : Int) : ChO (fun κ => word_May_L6_B letters w (r6 κ) t) (word_May_L6_B letters w r6' t) := by
  unfold word_May_L6_B
  repeat' with_reducible first | exact ChO.const _ | exact h_r6 _ | apply ChO.ite | apply ChO.G | apply ChO.both | (apply ChO.bind; intro _)
theorem word_May_L6_cn  (letters : Int) (w : (List Int)) : Cn (word_May_L6_F letters w) := fun g h hg x => word_May_L6_B_ch  (fun κ t => g κ t) (fun t => h t) (fun t => hg t) letters w x
theorem word_May_L6_eq  (letters : Int) (w : (List Int)) (t : Int) : word_May_L6 letters w t = word_May_L6_B letters w (word_May_L6 letters w) t := LFix_eq (word_May_L6_cn letters w) t

noncomputable def higman_Stands_J11 (t_1 : Int) (places_1 : (List Int)) (r9 : (Int → (List Int) → Option (Bool × Int × (List Int)))) (t_2 : Bool) : Option (Bool × Int × (List Int)) :=
  if t_2 = true then
  G (room places_1 ([t_1]) 8) (
  G (fits (t_1 + (1 : Int))) (
  r9 (t_1 + (1 : Int)) (places_1 ++ ([t_1])))) else
  G (fits (t_1 + (1 : Int))) (
  r9 (t_1 + (1 : Int)) places_1)
noncomputable def higman_Stands_L9_B (u : (List Int)) (v : (List Int)) (r9 : Int → (List Int) → Option (Bool × Int × (List Int))) (t_1 : Int) (places_1 : (List Int)) : Option (Bool × Int × (List Int)) :=
  if (decide (t_1 < (v.length : Int))) = true then
  G (0 ≤ t_1 ∧ t_1 < (v.length : Int)) (
  if (decide ((places_1.length : Int) < (u.length : Int))) = true then
  G (0 ≤ (places_1.length : Int) ∧ (places_1.length : Int) < (u.length : Int)) (
  higman_Stands_J11 t_1 places_1 r9 (decide ((ix u (places_1.length : Int)) = (ix v t_1)))) else
  higman_Stands_J11 t_1 places_1 r9 false) else
  if (decide ((places_1.length : Int) < (u.length : Int))) = true then
  some (false, (0 : Int), []) else
  some (true, (0 : Int), places_1)
noncomputable def higman_Stands_L9_F (u : (List Int)) (v : (List Int)) : (Int × (List Int) → Option (Bool × Int × (List Int))) → Int × (List Int) → Option (Bool × Int × (List Int)) :=
  fun rec x => higman_Stands_L9_B u v (fun t_1 places_1 => rec (t_1, places_1)) x.1 x.2
noncomputable def higman_Stands_L9 (u : (List Int)) (v : (List Int)) (t_1 : Int) (places_1 : (List Int)) : Option (Bool × Int × (List Int)) := LFix (higman_Stands_L9_F u v ) (t_1, places_1)
noncomputable def higman_Stands_L2_B (u : (List Int)) (v : (List Int)) (r2 : Int → (List Int) → Option (Bool × Int × (List Int))) (t : Int) (places : (List Int)) : Option (Bool × Int × (List Int)) :=
  if (decide (t < (([u, v]).length : Int))) = true then
  G (0 ≤ t ∧ t < (([u, v]).length : Int)) (
  G ((t).toNat < ([u, v]).length) (
  (word_May (4 : Int) (ix ([u, v]) t)).bind (fun y' =>
  if (decide (¬ y' = (0 : Int))) = true then
  some (false, y', []) else
  G (fits (t + (1 : Int))) (
  r2 (t + (1 : Int)) places)))) else
  higman_Stands_L9 u v (0 : Int) places
noncomputable def higman_Stands_L2_F (u : (List Int)) (v : (List Int)) : (Int × (List Int) → Option (Bool × Int × (List Int))) → Int × (List Int) → Option (Bool × Int × (List Int)) :=
  fun rec x => higman_Stands_L2_B u v (fun t places => rec (t, places)) x.1 x.2
noncomputable def higman_Stands_L2 (u : (List Int)) (v : (List Int)) (t : Int) (places : (List Int)) : Option (Bool × Int × (List Int)) := LFix (higman_Stands_L2_F u v ) (t, places)
noncomputable def higman_Stands (u : (List Int)) (v : (List Int)) : Option (Bool × Int × (List Int)) :=
  higman_Stands_L2 u v (0 : Int) ([])
theorem higman_Stands_J11_ch (r9 : Nat → Int → (List Int) → Option (Bool × Int × (List Int))) (r9' : Int → (List Int) → Option (Bool × Int × (List Int))) (h_r9 : ∀ a0 a1, ChO (fun κ => r9 κ a0 a1) (r9' a0 a1)) (t_1 : Int) (places_1 : (List Int)) (t_2 : Bool) : ChO (fun κ => higman_Stands_J11 t_1 places_1 (r9 κ) t_2) (higman_Stands_J11 t_1 places_1 r9' t_2) := by
  unfold higman_Stands_J11
  repeat' with_reducible first | exact ChO.const _ | exact h_r9 _ _ | apply ChO.ite | apply ChO.G | apply ChO.both | (apply ChO.bind; intro _)
theorem higman_Stands_L9_B_ch (r9 : Nat → Int → (List Int) → Option (Bool × Int × (List Int))) (r9' : Int → (List Int) → Option (Bool × Int × (List Int))) (h_r9 : ∀ a0 a1, ChO (fun κ => r9 κ a0 a1) (r9' a0 a1)) (u : (List Int)) (v : (List Int)) (t_1 : Int) (places_1 : (List Int)) : ChO (fun κ => higman_Stands_L9_B u v (r9 κ) t_1 places_1) (higman_Stands_L9_B u v r9' t_1 places_1) := by
  unfold higman_Stands_L9_B
  repeat' with_reducible first | exact ChO.const _ | exact h_r9 _ _ | (apply higman_Stands_J11_ch <;> assumption) | apply ChO.ite | apply ChO.G | apply ChO.both | (apply ChO.bind; intro _)
theorem higman_Stands_L9_cn  (u : (List Int)) (v : (List Int)) : Cn (higman_Stands_L9_F u v) := fun g h hg x => higman_Stands_L9_B_ch  (fun κ t_1 places_1 => g κ (t_1, places_1)) (fun t_1 places_1 => h (t_1, places_1)) (fun t_1 places_1 => hg (t_1, places_1)) u v x.1 x.2
theorem higman_Stands_L9_eq  (u : (List Int)) (v : (List Int)) (t_1 : Int) (places_1 : (List Int)) : higman_Stands_L9 u v t_1 places_1 = higman_Stands_L9_B u v (higman_Stands_L9 u v) t_1 places_1 := LFix_eq (higman_Stands_L9_cn u v) (t_1, places_1)
theorem higman_Stands_L2_B_ch (r2 : Nat → Int → (List Int) → Option (Bool × Int × (List Int))) (r2' : Int → (List Int) → Option (Bool × Int × (List Int))) (h_r2 : ∀ a0 a1, ChO (fun κ => r2 κ a0 a1) (r2' a0 a1)) (u : (List Int)) (v : (List Int)) (t : Int) (places : (List Int)) : ChO (fun κ => higman_Stands_L2_B u v (r2 κ) t places) (higman_Stands_L2_B u v r2' t places) := by
  unfold higman_Stands_L2_B
  repeat' with_reducible first | exact ChO.const _ | exact h_r2 _ _ | (apply higman_Stands_J11_ch <;> assumption) | apply ChO.ite | apply ChO.G | apply ChO.both | (apply ChO.bind; intro _)
theorem higman_Stands_L2_cn  (u : (List Int)) (v : (List Int)) : Cn (higman_Stands_L2_F u v) := fun g h hg x => higman_Stands_L2_B_ch  (fun κ t places => g κ (t, places)) (fun t places => h (t, places)) (fun t places => hg (t, places)) u v x.1 x.2
theorem higman_Stands_L2_eq  (u : (List Int)) (v : (List Int)) (t : Int) (places : (List Int)) : higman_Stands_L2 u v t places = higman_Stands_L2_B u v (higman_Stands_L2 u v) t places := LFix_eq (higman_Stands_L2_cn u v) (t, places)

noncomputable def higman_within (u : (List Int)) (v : (List Int)) : Option (Bool) :=
  (higman_Stands u v).bind (fun y'_4 =>
  some y'_4.1)

noncomputable def higman_Least_1 (u : (List Int)) (t : (List Int)) : Option (Bool) :=
  (higman_within u t).bind (fun y' =>
  some y')

noncomputable def slices_IndexFunc_4_L2_B (s : (List (List Int))) (c : (List Int)) (r2 : Int → Option (Int)) (t : Int) : Option (Int) :=
  if (decide (t < (s.length : Int))) = true then
  G (0 ≤ t ∧ t < (s.length : Int)) (
  (higman_Least_1 (ix s t) c).bind (fun y' =>
  if y' = true then
  some t else
  G (fits (t + (1 : Int))) (
  r2 (t + (1 : Int))))) else
  some (-1 : Int)
noncomputable def slices_IndexFunc_4_L2_F (s : (List (List Int))) (c : (List Int)) : (Int → Option (Int)) → Int → Option (Int) :=
  fun rec x => slices_IndexFunc_4_L2_B s c (fun t => rec t) x
noncomputable def slices_IndexFunc_4_L2 (s : (List (List Int))) (c : (List Int)) (t : Int) : Option (Int) := LFix (slices_IndexFunc_4_L2_F s c ) t
noncomputable def slices_IndexFunc_4 (s : (List (List Int))) (c : (List Int)) : Option (Int) :=
  slices_IndexFunc_4_L2 s c (0 : Int)
theorem slices_IndexFunc_4_L2_B_ch (r2 : Nat → Int → Option (Int)) (r2' : Int → Option (Int)) (h_r2 : ∀ a0, ChO (fun κ => r2 κ a0) (r2' a0)) (s : (List (List Int))) (c : (List Int)) (t : Int) : ChO (fun κ => slices_IndexFunc_4_L2_B s c (r2 κ) t) (slices_IndexFunc_4_L2_B s c r2' t) := by
  unfold slices_IndexFunc_4_L2_B
  repeat' with_reducible first | exact ChO.const _ | exact h_r2 _ | apply ChO.ite | apply ChO.G | apply ChO.both | (apply ChO.bind; intro _)
theorem slices_IndexFunc_4_L2_cn  (s : (List (List Int))) (c : (List Int)) : Cn (slices_IndexFunc_4_L2_F s c) := fun g h hg x => slices_IndexFunc_4_L2_B_ch  (fun κ t => g κ t) (fun t => h t) (fun t => hg t) s c x
theorem slices_IndexFunc_4_L2_eq  (s : (List (List Int))) (c : (List Int)) (t : Int) : slices_IndexFunc_4_L2 s c t = slices_IndexFunc_4_L2_B s c (slices_IndexFunc_4_L2 s c) t := LFix_eq (slices_IndexFunc_4_L2_cn s c) t

noncomputable def slices_ContainsFunc_4 (s : (List (List Int))) (c : (List Int)) : Option (Bool) :=
  (slices_IndexFunc_4 s c).bind (fun y' =>
  some (decide ((0 : Int) ≤ y')))

noncomputable def det_After_L2_B (d : (Int × Int × (List (List Int)) × (List Int) × Unit)) (w : (List Int)) (r2 : Int → Int → Option (Int)) (q_1 : Int) (t : Int) : Option (Int) :=
  if (decide (t < (w.length : Int))) = true then
  G (0 ≤ t ∧ t < (w.length : Int)) (
  G (0 ≤ q_1 ∧ q_1 < (d.2.2.1.length : Int)) (
  G (0 ≤ ix w t ∧ ix w t < ((ix d.2.2.1 q_1).length : Int)) (
  G (fits (t + (1 : Int))) (
  r2 (ix (ix d.2.2.1 q_1) (ix w t)) (t + (1 : Int)))))) else
  some q_1
noncomputable def det_After_L2_F (d : (Int × Int × (List (List Int)) × (List Int) × Unit)) (w : (List Int)) : (Int × Int → Option (Int)) → Int × Int → Option (Int) :=
  fun rec x => det_After_L2_B d w (fun q_1 t => rec (q_1, t)) x.1 x.2
noncomputable def det_After_L2 (d : (Int × Int × (List (List Int)) × (List Int) × Unit)) (w : (List Int)) (q_1 : Int) (t : Int) : Option (Int) := LFix (det_After_L2_F d w ) (q_1, t)
noncomputable def det_After (d : (Int × Int × (List (List Int)) × (List Int) × Unit)) (q : Int) (w : (List Int)) : Option (Int) :=
  det_After_L2 d w q (0 : Int)
theorem det_After_L2_B_ch (r2 : Nat → Int → Int → Option (Int)) (r2' : Int → Int → Option (Int)) (h_r2 : ∀ a0 a1, ChO (fun κ => r2 κ a0 a1) (r2' a0 a1)) (d : (Int × Int × (List (List Int)) × (List Int) × Unit)) (w : (List Int)) (q_1 : Int) (t : Int) : ChO (fun κ => det_After_L2_B d w (r2 κ) q_1 t) (det_After_L2_B d w r2' q_1 t) := by
  unfold det_After_L2_B
  repeat' with_reducible first | exact ChO.const _ | exact h_r2 _ _ | apply ChO.ite | apply ChO.G | apply ChO.both | (apply ChO.bind; intro _)
theorem det_After_L2_cn  (d : (Int × Int × (List (List Int)) × (List Int) × Unit)) (w : (List Int)) : Cn (det_After_L2_F d w) := fun g h hg x => det_After_L2_B_ch  (fun κ q_1 t => g κ (q_1, t)) (fun q_1 t => h (q_1, t)) (fun q_1 t => hg (q_1, t)) d w x.1 x.2
theorem det_After_L2_eq  (d : (Int × Int × (List (List Int)) × (List Int) × Unit)) (w : (List Int)) (q_1 : Int) (t : Int) : det_After_L2 d w q_1 t = det_After_L2_B d w (det_After_L2 d w) q_1 t := LFix_eq (det_After_L2_cn d w) (q_1, t)

noncomputable def slices_Clone (s : (List Int)) : Option (List Int) :=
  if s.length = 0 then both [(.list (.int .i64))] (
  some ([])) (
  G (room ([] : List Int) s 8) (
  some (([] : List Int) ++ s))) else
  G (room ([] : List Int) s 8) (
  some (([] : List Int) ++ s))

noncomputable def higman_Least_L13_B (d : (Int × Int × (List (List Int)) × (List Int) × Unit)) (row : (List (List Int))) (out : (List (List Int))) (r6 : ((List (List Int)) → (List (List Int)) → Option (Int × (List (List Int))))) (r13 : Int → (List (List Int)) → Option (Int × (List (List Int)))) (t : Int) (row_1 : (List (List Int))) : Option (Int × (List (List Int))) :=
  if (decide (t < d.1)) = true then
  (slices_Clone (ix row (0 : Int))).bind (fun y'_3 =>
  G (room y'_3 ([t]) 8) (
  G (room row_1 ([y'_3 ++ ([t])]) 24) (
  G (fits (t + (1 : Int))) (
  r13 (t + (1 : Int)) (row_1 ++ ([y'_3 ++ ([t])])))))) else
  G (0 ≤ (1 : Int) ∧ (1 : Int) ≤ (row_1.length : Int)) (
  r6 (row_1.drop ((1 : Int)).toNat) out)
noncomputable def higman_Least_L13_F (d : (Int × Int × (List (List Int)) × (List Int) × Unit)) (row : (List (List Int))) (out : (List (List Int))) (r6 : ((List (List Int)) → (List (List Int)) → Option (Int × (List (List Int))))) : (Int × (List (List Int)) → Option (Int × (List (List Int)))) → Int × (List (List Int)) → Option (Int × (List (List Int))) :=
  fun rec x => higman_Least_L13_B d row out r6 (fun t row_1 => rec (t, row_1)) x.1 x.2
noncomputable def higman_Least_L13 (d : (Int × Int × (List (List Int)) × (List Int) × Unit)) (row : (List (List Int))) (out : (List (List Int))) (r6 : ((List (List Int)) → (List (List Int)) → Option (Int × (List (List Int))))) (t : Int) (row_1 : (List (List Int))) : Option (Int × (List (List Int))) := LFix (higman_Least_L13_F d row out r6 ) (t, row_1)
noncomputable def higman_Least_L6_B (d : (Int × Int × (List (List Int)) × (List Int) × Unit)) (r6 : (List (List Int)) → (List (List Int)) → Option (Int × (List (List Int)))) (row : (List (List Int))) (out : (List (List Int))) : Option (Int × (List (List Int))) :=
  if (decide ((0 : Int) < (row.length : Int))) = true then
  G (0 ≤ (0 : Int) ∧ (0 : Int) < (row.length : Int)) (
  G (((0 : Int)).toNat < row.length) (
  if (decide (((ix row (0 : Int)).length : Int) < (d.2.2.1.length : Int))) = true then
  G (0 ≤ (0 : Int) ∧ (0 : Int) < (row.length : Int)) (
  G (((0 : Int)).toNat < row.length) (
  (slices_ContainsFunc_4 out (ix row (0 : Int))).bind (fun y'_1 =>
  if y'_1 = true then
  G (0 ≤ (1 : Int) ∧ (1 : Int) ≤ (row.length : Int)) (
  r6 (row.drop ((1 : Int)).toNat) out) else
  (det_After (d.1, (d.2.1, (d.2.2.1, (d.2.2.2.1, ())))) d.2.1 (ix row (0 : Int))).bind (fun y'_2 =>
  G (0 ≤ y'_2 ∧ y'_2 < (d.2.2.2.1.length : Int)) (
  if (decide ((ix d.2.2.2.1 y'_2) = (1 : Int))) = true then
  G (room out ([ix row (0 : Int)]) 24) (
  G (0 ≤ (1 : Int) ∧ (1 : Int) ≤ (row.length : Int)) (
  r6 (row.drop ((1 : Int)).toNat) (out ++ ([ix row (0 : Int)])))) else
  higman_Least_L13 d row out r6 (0 : Int) row))))) else
  some ((0 : Int), out))) else
  some ((0 : Int), out)
noncomputable def higman_Least_L6_F (d : (Int × Int × (List (List Int)) × (List Int) × Unit)) : ((List (List Int)) × (List (List Int)) → Option (Int × (List (List Int)))) → (List (List Int)) × (List (List Int)) → Option (Int × (List (List Int))) :=
  fun rec x => higman_Least_L6_B d (fun row out => rec (row, out)) x.1 x.2
noncomputable def higman_Least_L6 (d : (Int × Int × (List (List Int)) × (List Int) × Unit)) (row : (List (List Int))) (out : (List (List Int))) : Option (Int × (List (List Int))) := LFix (higman_Least_L6_F d ) (row, out)
noncomputable def higman_Least (d : (Int × Int × (List (List Int)) × (List Int) × Unit)) : Option (Int × (List (List Int))) :=
  (higman_small (d.1, (d.2.1, (d.2.2.1, (d.2.2.2.1, ()))))).bind (fun y' =>
  if (decide (¬ y' = (0 : Int))) = true then
  some (y', []) else
  higman_Least_L6 d ([([] : List Int)]) ([]))
theorem higman_Least_L13_B_ch (r6 : Nat → (List (List Int)) → (List (List Int)) → Option (Int × (List (List Int)))) (r6' : (List (List Int)) → (List (List Int)) → Option (Int × (List (List Int)))) (h_r6 : ∀ a0 a1, ChO (fun κ => r6 κ a0 a1) (r6' a0 a1)) (r13 : Nat → Int → (List (List Int)) → Option (Int × (List (List Int)))) (r13' : Int → (List (List Int)) → Option (Int × (List (List Int)))) (h_r13 : ∀ a0 a1, ChO (fun κ => r13 κ a0 a1) (r13' a0 a1)) (d : (Int × Int × (List (List Int)) × (List Int) × Unit)) (row : (List (List Int))) (out : (List (List Int))) (t : Int) (row_1 : (List (List Int))) : ChO (fun κ => higman_Least_L13_B d row out (r6 κ) (r13 κ) t row_1) (higman_Least_L13_B d row out r6' r13' t row_1) := by
  unfold higman_Least_L13_B
  repeat' with_reducible first | exact ChO.const _ | exact h_r6 _ _ | exact h_r13 _ _ | apply ChO.ite | apply ChO.G | apply ChO.both | (apply ChO.bind; intro _)
theorem higman_Least_L13_cn (r6 : (List (List Int)) → (List (List Int)) → Option (Int × (List (List Int)))) (d : (Int × Int × (List (List Int)) × (List Int) × Unit)) (row : (List (List Int))) (out : (List (List Int))) : Cn (higman_Least_L13_F d row out r6) := fun g h hg x => higman_Least_L13_B_ch (fun _ => r6) r6 (fun _ _ => ChO.const _) (fun κ t row_1 => g κ (t, row_1)) (fun t row_1 => h (t, row_1)) (fun t row_1 => hg (t, row_1)) d row out x.1 x.2
theorem higman_Least_L13_eq (r6 : (List (List Int)) → (List (List Int)) → Option (Int × (List (List Int)))) (d : (Int × Int × (List (List Int)) × (List Int) × Unit)) (row : (List (List Int))) (out : (List (List Int))) (t : Int) (row_1 : (List (List Int))) : higman_Least_L13 d row out r6 t row_1 = higman_Least_L13_B d row out r6 (higman_Least_L13 d row out r6) t row_1 := LFix_eq (higman_Least_L13_cn r6 d row out) (t, row_1)
theorem higman_Least_L13_ch (r6 : Nat → (List (List Int)) → (List (List Int)) → Option (Int × (List (List Int)))) (r6' : (List (List Int)) → (List (List Int)) → Option (Int × (List (List Int)))) (h_r6 : ∀ a0 a1, ChO (fun κ => r6 κ a0 a1) (r6' a0 a1)) (d : (Int × Int × (List (List Int)) × (List Int) × Unit)) (row : (List (List Int))) (out : (List (List Int))) (t : Int) (row_1 : (List (List Int))) : ChO (fun κ => higman_Least_L13 d row out (r6 κ) t row_1) (higman_Least_L13 d row out r6' t row_1) := by
  unfold higman_Least_L13
  exact LFix_ch (fun κ => (higman_Least_L13_cn (r6 κ) d row out).mono) (higman_Least_L13_cn r6' d row out).mono (fun g h hg x => higman_Least_L13_B_ch r6 r6' h_r6 (fun κ t row_1 => g κ (t, row_1)) (fun t row_1 => h (t, row_1)) (fun t row_1 => hg (t, row_1)) d row out x.1 x.2) _
theorem higman_Least_L6_B_ch (r6 : Nat → (List (List Int)) → (List (List Int)) → Option (Int × (List (List Int)))) (r6' : (List (List Int)) → (List (List Int)) → Option (Int × (List (List Int)))) (h_r6 : ∀ a0 a1, ChO (fun κ => r6 κ a0 a1) (r6' a0 a1)) (d : (Int × Int × (List (List Int)) × (List Int) × Unit)) (row : (List (List Int))) (out : (List (List Int))) : ChO (fun κ => higman_Least_L6_B d (r6 κ) row out) (higman_Least_L6_B d r6' row out) := by
  unfold higman_Least_L6_B
  repeat' with_reducible first | exact ChO.const _ | exact h_r6 _ _ | (apply higman_Least_L13_ch <;> assumption) | apply ChO.ite | apply ChO.G | apply ChO.both | (apply ChO.bind; intro _)
theorem higman_Least_L6_cn  (d : (Int × Int × (List (List Int)) × (List Int) × Unit)) : Cn (higman_Least_L6_F d) := fun g h hg x => higman_Least_L6_B_ch  (fun κ row out => g κ (row, out)) (fun row out => h (row, out)) (fun row out => hg (row, out)) d x.1 x.2
theorem higman_Least_L6_eq  (d : (Int × Int × (List (List Int)) × (List Int) × Unit)) (row : (List (List Int))) (out : (List (List Int))) : higman_Least_L6 d row out = higman_Least_L6_B d (higman_Least_L6 d) row out := LFix_eq (higman_Least_L6_cn d) (row, out)

noncomputable def r3_Check_L19_B (d : (Int × Int × (List (List Int)) × (List Int) × Unit)) (i_1 : Int) (r16 : (Int → Option (Int))) (r19 : Int → Option (Int)) (k : Int) : Option (Int) :=
  if (decide (k < d.1)) = true then
  G (0 ≤ i_1 ∧ i_1 < (d.2.2.1.length : Int)) (
  G (0 ≤ k ∧ k < ((ix d.2.2.1 i_1).length : Int)) (
  if (decide ((ix (ix d.2.2.1 i_1) k) < (0 : Int))) = true then
  some (2 : Int) else
  G (0 ≤ i_1 ∧ i_1 < (d.2.2.1.length : Int)) (
  G (0 ≤ k ∧ k < ((ix d.2.2.1 i_1).length : Int)) (
  if (decide ((d.2.2.1.length : Int) ≤ (ix (ix d.2.2.1 i_1) k))) = true then
  some (2 : Int) else
  G (fits (k + (1 : Int))) (
  r19 (k + (1 : Int))))))) else
  G (fits (i_1 + (1 : Int))) (
  r16 (i_1 + (1 : Int)))
noncomputable def r3_Check_L19_F (d : (Int × Int × (List (List Int)) × (List Int) × Unit)) (i_1 : Int) (r16 : (Int → Option (Int))) : (Int → Option (Int)) → Int → Option (Int) :=
  fun rec x => r3_Check_L19_B d i_1 r16 (fun k => rec k) x
noncomputable def r3_Check_L19 (d : (Int × Int × (List (List Int)) × (List Int) × Unit)) (i_1 : Int) (r16 : (Int → Option (Int))) (k : Int) : Option (Int) := LFix (r3_Check_L19_F d i_1 r16 ) k
noncomputable def r3_Check_L24_B (d : (Int × Int × (List (List Int)) × (List Int) × Unit)) (r24 : Int → Option (Int)) (i_2 : Int) : Option (Int) :=
  if (decide (i_2 < (d.2.2.1.length : Int))) = true then
  G (0 ≤ i_2 ∧ i_2 < (d.2.2.2.1.length : Int)) (
  if (decide (¬ (ix d.2.2.2.1 i_2) = (0 : Int))) = true then
  G (0 ≤ i_2 ∧ i_2 < (d.2.2.2.1.length : Int)) (
  if (decide (¬ (ix d.2.2.2.1 i_2) = (1 : Int))) = true then
  some (2 : Int) else
  G (fits (i_2 + (1 : Int))) (
  r24 (i_2 + (1 : Int)))) else
  G (fits (i_2 + (1 : Int))) (
  r24 (i_2 + (1 : Int)))) else
  some (0 : Int)
noncomputable def r3_Check_L24_F (d : (Int × Int × (List (List Int)) × (List Int) × Unit)) : (Int → Option (Int)) → Int → Option (Int) :=
  fun rec x => r3_Check_L24_B d (fun i_2 => rec i_2) x
noncomputable def r3_Check_L24 (d : (Int × Int × (List (List Int)) × (List Int) × Unit)) (i_2 : Int) : Option (Int) := LFix (r3_Check_L24_F d ) i_2
noncomputable def r3_Check_L16_B (d : (Int × Int × (List (List Int)) × (List Int) × Unit)) (r16 : Int → Option (Int)) (i_1 : Int) : Option (Int) :=
  if (decide (i_1 < (d.2.2.1.length : Int))) = true then
  r3_Check_L19 d i_1 r16 (0 : Int) else
  r3_Check_L24 d (0 : Int)
noncomputable def r3_Check_L16_F (d : (Int × Int × (List (List Int)) × (List Int) × Unit)) : (Int → Option (Int)) → Int → Option (Int) :=
  fun rec x => r3_Check_L16_B d (fun i_1 => rec i_1) x
noncomputable def r3_Check_L16 (d : (Int × Int × (List (List Int)) × (List Int) × Unit)) (i_1 : Int) : Option (Int) := LFix (r3_Check_L16_F d ) i_1
noncomputable def r3_Check_L9_B (d : (Int × Int × (List (List Int)) × (List Int) × Unit)) (r9 : Int → Option (Int)) (i : Int) : Option (Int) :=
  if (decide (i < (d.2.2.1.length : Int))) = true then
  G (0 ≤ i ∧ i < (d.2.2.1.length : Int)) (
  if (decide (¬ ((ix d.2.2.1 i).length : Int) = d.1)) = true then
  some (3 : Int) else
  G (fits (i + (1 : Int))) (
  r9 (i + (1 : Int)))) else
  if (decide (d.2.1 < (0 : Int))) = true then
  some (2 : Int) else
  if (decide ((d.2.2.1.length : Int) ≤ d.2.1)) = true then
  some (2 : Int) else
  r3_Check_L16 d (0 : Int)
noncomputable def r3_Check_L9_F (d : (Int × Int × (List (List Int)) × (List Int) × Unit)) : (Int → Option (Int)) → Int → Option (Int) :=
  fun rec x => r3_Check_L9_B d (fun i => rec i) x
noncomputable def r3_Check_L9 (d : (Int × Int × (List (List Int)) × (List Int) × Unit)) (i : Int) : Option (Int) := LFix (r3_Check_L9_F d ) i
noncomputable def r3_Check (d : (Int × Int × (List (List Int)) × (List Int) × Unit)) : Option (Int) :=
  if (decide (d.1 < (1 : Int))) = true then
  some (2 : Int) else
  if (decide ((4 : Int) < d.1)) = true then
  some (2 : Int) else
  if (decide ((d.2.2.1.length : Int) < (1 : Int))) = true then
  some (1 : Int) else
  if (decide ((3000 : Int) < (d.2.2.1.length : Int))) = true then
  some (1 : Int) else
  if (decide (¬ (d.2.2.2.1.length : Int) = (d.2.2.1.length : Int))) = true then
  some (3 : Int) else
  r3_Check_L9 d (0 : Int)
theorem r3_Check_L19_B_ch (r16 : Nat → Int → Option (Int)) (r16' : Int → Option (Int)) (h_r16 : ∀ a0, ChO (fun κ => r16 κ a0) (r16' a0)) (r19 : Nat → Int → Option (Int)) (r19' : Int → Option (Int)) (h_r19 : ∀ a0, ChO (fun κ => r19 κ a0) (r19' a0)) (d : (Int × Int × (List (List Int)) × (List Int) × Unit)) (i_1 : Int) (k : Int) : ChO (fun κ => r3_Check_L19_B d i_1 (r16 κ) (r19 κ) k) (r3_Check_L19_B d i_1 r16' r19' k) := by
  unfold r3_Check_L19_B
  repeat' with_reducible first | exact ChO.const _ | exact h_r16 _ | exact h_r19 _ | apply ChO.ite | apply ChO.G | apply ChO.both | (apply ChO.bind; intro _)
theorem r3_Check_L19_cn (r16 : Int → Option (Int)) (d : (Int × Int × (List (List Int)) × (List Int) × Unit)) (i_1 : Int) : Cn (r3_Check_L19_F d i_1 r16) := fun g h hg x => r3_Check_L19_B_ch (fun _ => r16) r16 (fun _ => ChO.const _) (fun κ k => g κ k) (fun k => h k) (fun k => hg k) d i_1 x
theorem r3_Check_L19_eq (r16 : Int → Option (Int)) (d : (Int × Int × (List (List Int)) × (List Int) × Unit)) (i_1 : Int) (k : Int) : r3_Check_L19 d i_1 r16 k = r3_Check_L19_B d i_1 r16 (r3_Check_L19 d i_1 r16) k := LFix_eq (r3_Check_L19_cn r16 d i_1) k
theorem r3_Check_L19_ch (r16 : Nat → Int → Option (Int)) (r16' : Int → Option (Int)) (h_r16 : ∀ a0, ChO (fun κ => r16 κ a0) (r16' a0)) (d : (Int × Int × (List (List Int)) × (List Int) × Unit)) (i_1 : Int) (k : Int) : ChO (fun κ => r3_Check_L19 d i_1 (r16 κ) k) (r3_Check_L19 d i_1 r16' k) := by
  unfold r3_Check_L19
  exact LFix_ch (fun κ => (r3_Check_L19_cn (r16 κ) d i_1).mono) (r3_Check_L19_cn r16' d i_1).mono (fun g h hg x => r3_Check_L19_B_ch r16 r16' h_r16 (fun κ k => g κ k) (fun k => h k) (fun k => hg k) d i_1 x) _
theorem r3_Check_L24_B_ch (r24 : Nat → Int → Option (Int)) (r24' : Int → Option (Int)) (h_r24 : ∀ a0, ChO (fun κ => r24 κ a0) (r24' a0)) (d : (Int × Int × (List (List Int)) × (List Int) × Unit)) (i_2 : Int) : ChO (fun κ => r3_Check_L24_B d (r24 κ) i_2) (r3_Check_L24_B d r24' i_2) := by
  unfold r3_Check_L24_B
  repeat' with_reducible first | exact ChO.const _ | exact h_r24 _ | (apply r3_Check_L19_ch <;> assumption) | apply ChO.ite | apply ChO.G | apply ChO.both | (apply ChO.bind; intro _)
theorem r3_Check_L24_cn  (d : (Int × Int × (List (List Int)) × (List Int) × Unit)) : Cn (r3_Check_L24_F d) := fun g h hg x => r3_Check_L24_B_ch  (fun κ i_2 => g κ i_2) (fun i_2 => h i_2) (fun i_2 => hg i_2) d x
theorem r3_Check_L24_eq  (d : (Int × Int × (List (List Int)) × (List Int) × Unit)) (i_2 : Int) : r3_Check_L24 d i_2 = r3_Check_L24_B d (r3_Check_L24 d) i_2 := LFix_eq (r3_Check_L24_cn d) i_2
theorem r3_Check_L16_B_ch (r16 : Nat → Int → Option (Int)) (r16' : Int → Option (Int)) (h_r16 : ∀ a0, ChO (fun κ => r16 κ a0) (r16' a0)) (d : (Int × Int × (List (List Int)) × (List Int) × Unit)) (i_1 : Int) : ChO (fun κ => r3_Check_L16_B d (r16 κ) i_1) (r3_Check_L16_B d r16' i_1) := by
  unfold r3_Check_L16_B
  repeat' with_reducible first | exact ChO.const _ | exact h_r16 _ | (apply r3_Check_L19_ch <;> assumption) | apply ChO.ite | apply ChO.G | apply ChO.both | (apply ChO.bind; intro _)
theorem r3_Check_L16_cn  (d : (Int × Int × (List (List Int)) × (List Int) × Unit)) : Cn (r3_Check_L16_F d) := fun g h hg x => r3_Check_L16_B_ch  (fun κ i_1 => g κ i_1) (fun i_1 => h i_1) (fun i_1 => hg i_1) d x
theorem r3_Check_L16_eq  (d : (Int × Int × (List (List Int)) × (List Int) × Unit)) (i_1 : Int) : r3_Check_L16 d i_1 = r3_Check_L16_B d (r3_Check_L16 d) i_1 := LFix_eq (r3_Check_L16_cn d) i_1
theorem r3_Check_L9_B_ch (r9 : Nat → Int → Option (Int)) (r9' : Int → Option (Int)) (h_r9 : ∀ a0, ChO (fun κ => r9 κ a0) (r9' a0)) (d : (Int × Int × (List (List Int)) × (List Int) × Unit)) (i : Int) : ChO (fun κ => r3_Check_L9_B d (r9 κ) i) (r3_Check_L9_B d r9' i) := by
  unfold r3_Check_L9_B
  repeat' with_reducible first | exact ChO.const _ | exact h_r9 _ | (apply r3_Check_L19_ch <;> assumption) | apply ChO.ite | apply ChO.G | apply ChO.both | (apply ChO.bind; intro _)
theorem r3_Check_L9_cn  (d : (Int × Int × (List (List Int)) × (List Int) × Unit)) : Cn (r3_Check_L9_F d) := fun g h hg x => r3_Check_L9_B_ch  (fun κ i => g κ i) (fun i => h i) (fun i => hg i) d x
theorem r3_Check_L9_eq  (d : (Int × Int × (List (List Int)) × (List Int) × Unit)) (i : Int) : r3_Check_L9 d i = r3_Check_L9_B d (r3_Check_L9 d) i := LFix_eq (r3_Check_L9_cn d) i

noncomputable def r3_After_L2_B (d : (Int × Int × (List (List Int)) × (List Int) × Unit)) (w : (List Int)) (r2 : Int → Int → Option (Int)) (q_1 : Int) (i : Int) : Option (Int) :=
  if (decide (i < (w.length : Int))) = true then
  G (0 ≤ q_1 ∧ q_1 < (d.2.2.1.length : Int)) (
  G (0 ≤ i ∧ i < (w.length : Int)) (
  G (0 ≤ ix w i ∧ ix w i < ((ix d.2.2.1 q_1).length : Int)) (
  G (fits (i + (1 : Int))) (
  r2 (ix (ix d.2.2.1 q_1) (ix w i)) (i + (1 : Int)))))) else
  some q_1
noncomputable def r3_After_L2_F (d : (Int × Int × (List (List Int)) × (List Int) × Unit)) (w : (List Int)) : (Int × Int → Option (Int)) → Int × Int → Option (Int) :=
  fun rec x => r3_After_L2_B d w (fun q_1 i => rec (q_1, i)) x.1 x.2
noncomputable def r3_After_L2 (d : (Int × Int × (List (List Int)) × (List Int) × Unit)) (w : (List Int)) (q_1 : Int) (i : Int) : Option (Int) := LFix (r3_After_L2_F d w ) (q_1, i)
noncomputable def r3_After (d : (Int × Int × (List (List Int)) × (List Int) × Unit)) (q : Int) (w : (List Int)) : Option (Int) :=
  r3_After_L2 d w q (0 : Int)
theorem r3_After_L2_B_ch (r2 : Nat → Int → Int → Option (Int)) (r2' : Int → Int → Option (Int)) (h_r2 : ∀ a0 a1, ChO (fun κ => r2 κ a0 a1) (r2' a0 a1)) (d : (Int × Int × (List (List Int)) × (List Int) × Unit)) (w : (List Int)) (q_1 : Int) (i : Int) : ChO (fun κ => r3_After_L2_B d w (r2 κ) q_1 i) (r3_After_L2_B d w r2' q_1 i) := by
  unfold r3_After_L2_B
  repeat' with_reducible first | exact ChO.const _ | exact h_r2 _ _ | apply ChO.ite | apply ChO.G | apply ChO.both | (apply ChO.bind; intro _)
theorem r3_After_L2_cn  (d : (Int × Int × (List (List Int)) × (List Int) × Unit)) (w : (List Int)) : Cn (r3_After_L2_F d w) := fun g h hg x => r3_After_L2_B_ch  (fun κ q_1 i => g κ (q_1, i)) (fun q_1 i => h (q_1, i)) (fun q_1 i => hg (q_1, i)) d w x.1 x.2
theorem r3_After_L2_eq  (d : (Int × Int × (List (List Int)) × (List Int) × Unit)) (w : (List Int)) (q_1 : Int) (i : Int) : r3_After_L2 d w q_1 i = r3_After_L2_B d w (r3_After_L2 d w) q_1 i := LFix_eq (r3_After_L2_cn d w) (q_1, i)

noncomputable def r3_Accepts (d : (Int × Int × (List (List Int)) × (List Int) × Unit)) (w : (List Int)) : Option (Bool) :=
  (r3_After (d.1, (d.2.1, (d.2.2.1, (d.2.2.2.1, ())))) d.2.1 w).bind (fun y' =>
  G (0 ≤ y' ∧ y' < (d.2.2.2.1.length : Int)) (
  some (decide ((ix d.2.2.2.1 y') = (1 : Int)))))

noncomputable def r32_Within_J7 (v : (List Int)) (i : Int) (places : (List Int)) (r4 : (Int → Int → (List Int) → Option (Bool × (List Int)))) (at'_2 : Int) : Option (Bool × (List Int)) :=
  if (decide (at'_2 = (v.length : Int))) = true then
  some (false, []) else
  G (room places ([at'_2]) 8) (
  G (fits (at'_2 + (1 : Int))) (
  G (fits (i + (1 : Int))) (
  r4 (at'_2 + (1 : Int)) (i + (1 : Int)) (places ++ ([at'_2])))))
noncomputable def r32_Within_L6_B (u : (List Int)) (v : (List Int)) (i : Int) (places : (List Int)) (r4 : (Int → Int → (List Int) → Option (Bool × (List Int)))) (r6 : Int → Option (Bool × (List Int))) (at'_1 : Int) : Option (Bool × (List Int)) :=
  if (decide (at'_1 < (v.length : Int))) = true then
  G (0 ≤ at'_1 ∧ at'_1 < (v.length : Int)) (
  G (0 ≤ i ∧ i < (u.length : Int)) (
  if (decide (¬ (ix v at'_1) = (ix u i))) = true then
  G (fits (at'_1 + (1 : Int))) (
  r6 (at'_1 + (1 : Int))) else
  r32_Within_J7 v i places r4 at'_1)) else
  r32_Within_J7 v i places r4 at'_1
noncomputable def r32_Within_L6_F (u : (List Int)) (v : (List Int)) (i : Int) (places : (List Int)) (r4 : (Int → Int → (List Int) → Option (Bool × (List Int)))) : (Int → Option (Bool × (List Int))) → Int → Option (Bool × (List Int)) :=
  fun rec x => r32_Within_L6_B u v i places r4 (fun at'_1 => rec at'_1) x
noncomputable def r32_Within_L6 (u : (List Int)) (v : (List Int)) (i : Int) (places : (List Int)) (r4 : (Int → Int → (List Int) → Option (Bool × (List Int)))) (at'_1 : Int) : Option (Bool × (List Int)) := LFix (r32_Within_L6_F u v i places r4 ) at'_1
noncomputable def r32_Within_L4_B (u : (List Int)) (v : (List Int)) (r4 : Int → Int → (List Int) → Option (Bool × (List Int))) (at' : Int) (i : Int) (places : (List Int)) : Option (Bool × (List Int)) :=
  if (decide (i < (u.length : Int))) = true then
  r32_Within_L6 u v i places r4 at' else
  some (true, places)
noncomputable def r32_Within_L4_F (u : (List Int)) (v : (List Int)) : (Int × Int × (List Int) → Option (Bool × (List Int))) → Int × Int × (List Int) → Option (Bool × (List Int)) :=
  fun rec x => r32_Within_L4_B u v (fun at' i places => rec (at', i, places)) x.1 x.2.1 x.2.2
noncomputable def r32_Within_L4 (u : (List Int)) (v : (List Int)) (at' : Int) (i : Int) (places : (List Int)) : Option (Bool × (List Int)) := LFix (r32_Within_L4_F u v ) (at', i, places)
noncomputable def r32_Within (u : (List Int)) (v : (List Int)) : Option (Bool × (List Int)) :=
  r32_Within_L4 u v (0 : Int) (0 : Int) ([])
theorem r32_Within_J7_ch (r4 : Nat → Int → Int → (List Int) → Option (Bool × (List Int))) (r4' : Int → Int → (List Int) → Option (Bool × (List Int))) (h_r4 : ∀ a0 a1 a2, ChO (fun κ => r4 κ a0 a1 a2) (r4' a0 a1 a2)) (v : (List Int)) (i : Int) (places : (List Int)) (at'_2 : Int) : ChO (fun κ => r32_Within_J7 v i places (r4 κ) at'_2) (r32_Within_J7 v i places r4' at'_2) := by
  unfold r32_Within_J7
  repeat' with_reducible first | exact ChO.const _ | exact h_r4 _ _ _ | apply ChO.ite | apply ChO.G | apply ChO.both | (apply ChO.bind; intro _)
theorem r32_Within_L6_B_ch (r4 : Nat → Int → Int → (List Int) → Option (Bool × (List Int))) (r4' : Int → Int → (List Int) → Option (Bool × (List Int))) (h_r4 : ∀ a0 a1 a2, ChO (fun κ => r4 κ a0 a1 a2) (r4' a0 a1 a2)) (r6 : Nat → Int → Option (Bool × (List Int))) (r6' : Int → Option (Bool × (List Int))) (h_r6 : ∀ a0, ChO (fun κ => r6 κ a0) (r6' a0)) (u : (List Int)) (v : (List Int)) (i : Int) (places : (List Int)) (at'_1 : Int) : ChO (fun κ => r32_Within_L6_B u v i places (r4 κ) (r6 κ) at'_1) (r32_Within_L6_B u v i places r4' r6' at'_1) := by
  unfold r32_Within_L6_B
  repeat' with_reducible first | exact ChO.const _ | exact h_r4 _ _ _ | exact h_r6 _ | (apply r32_Within_J7_ch <;> assumption) | apply ChO.ite | apply ChO.G | apply ChO.both | (apply ChO.bind; intro _)
theorem r32_Within_L6_cn (r4 : Int → Int → (List Int) → Option (Bool × (List Int))) (u : (List Int)) (v : (List Int)) (i : Int) (places : (List Int)) : Cn (r32_Within_L6_F u v i places r4) := fun g h hg x => r32_Within_L6_B_ch (fun _ => r4) r4 (fun _ _ _ => ChO.const _) (fun κ at'_1 => g κ at'_1) (fun at'_1 => h at'_1) (fun at'_1 => hg at'_1) u v i places x
theorem r32_Within_L6_eq (r4 : Int → Int → (List Int) → Option (Bool × (List Int))) (u : (List Int)) (v : (List Int)) (i : Int) (places : (List Int)) (at'_1 : Int) : r32_Within_L6 u v i places r4 at'_1 = r32_Within_L6_B u v i places r4 (r32_Within_L6 u v i places r4) at'_1 := LFix_eq (r32_Within_L6_cn r4 u v i places) at'_1
theorem r32_Within_L6_ch (r4 : Nat → Int → Int → (List Int) → Option (Bool × (List Int))) (r4' : Int → Int → (List Int) → Option (Bool × (List Int))) (h_r4 : ∀ a0 a1 a2, ChO (fun κ => r4 κ a0 a1 a2) (r4' a0 a1 a2)) (u : (List Int)) (v : (List Int)) (i : Int) (places : (List Int)) (at'_1 : Int) : ChO (fun κ => r32_Within_L6 u v i places (r4 κ) at'_1) (r32_Within_L6 u v i places r4' at'_1) := by
  unfold r32_Within_L6
  exact LFix_ch (fun κ => (r32_Within_L6_cn (r4 κ) u v i places).mono) (r32_Within_L6_cn r4' u v i places).mono (fun g h hg x => r32_Within_L6_B_ch r4 r4' h_r4 (fun κ at'_1 => g κ at'_1) (fun at'_1 => h at'_1) (fun at'_1 => hg at'_1) u v i places x) _
theorem r32_Within_L4_B_ch (r4 : Nat → Int → Int → (List Int) → Option (Bool × (List Int))) (r4' : Int → Int → (List Int) → Option (Bool × (List Int))) (h_r4 : ∀ a0 a1 a2, ChO (fun κ => r4 κ a0 a1 a2) (r4' a0 a1 a2)) (u : (List Int)) (v : (List Int)) (at' : Int) (i : Int) (places : (List Int)) : ChO (fun κ => r32_Within_L4_B u v (r4 κ) at' i places) (r32_Within_L4_B u v r4' at' i places) := by
  unfold r32_Within_L4_B
  repeat' with_reducible first | exact ChO.const _ | exact h_r4 _ _ _ | (apply r32_Within_J7_ch <;> assumption) | (apply r32_Within_L6_ch <;> assumption) | apply ChO.ite | apply ChO.G | apply ChO.both | (apply ChO.bind; intro _)
theorem r32_Within_L4_cn  (u : (List Int)) (v : (List Int)) : Cn (r32_Within_L4_F u v) := fun g h hg x => r32_Within_L4_B_ch  (fun κ at' i places => g κ (at', i, places)) (fun at' i places => h (at', i, places)) (fun at' i places => hg (at', i, places)) u v x.1 x.2.1 x.2.2
theorem r32_Within_L4_eq  (u : (List Int)) (v : (List Int)) (at' : Int) (i : Int) (places : (List Int)) : r32_Within_L4 u v at' i places = r32_Within_L4_B u v (r32_Within_L4 u v) at' i places := LFix_eq (r32_Within_L4_cn u v) (at', i, places)

noncomputable def r1_Next_L3_B (letters : Int) (r3 : Int → (List Int) → Option (List Int)) (i : Int) (out : (List Int)) : Option (List Int) :=
  if (decide ((0 : Int) ≤ i)) = true then
  G (0 ≤ i ∧ i < (out.length : Int)) (
  G ((i).toNat < out.length) (
  G (fits (letters - (1 : Int))) (
  if (decide ((ix out i) < (letters - (1 : Int)))) = true then
  G (0 ≤ i ∧ i < (out.length : Int)) (
  G ((i).toNat < out.length) (
  G (fits ((ix out i) + (1 : Int))) (
  G (0 ≤ i ∧ i < (out.length : Int)) (
  G ((i).toNat < out.length) (
  some (out.set (i).toNat ((ix out i) + (1 : Int)))))))) else
  G (0 ≤ i ∧ i < (out.length : Int)) (
  G ((i).toNat < out.length) (
  G (fits (i - (1 : Int))) (
  r3 (i - (1 : Int)) (out.set (i).toNat (0 : Int)))))))) else
  G (room out ([(0 : Int)]) 8) (
  some (out ++ ([(0 : Int)])))
noncomputable def r1_Next_L3_F (letters : Int) : (Int × (List Int) → Option (List Int)) → Int × (List Int) → Option (List Int) :=
  fun rec x => r1_Next_L3_B letters (fun i out => rec (i, out)) x.1 x.2
noncomputable def r1_Next_L3 (letters : Int) (i : Int) (out : (List Int)) : Option (List Int) := LFix (r1_Next_L3_F letters ) (i, out)
noncomputable def r1_Next (letters : Int) (w : (List Int)) : Option (List Int) :=
  G (room ([] : List Int) w 8) (
  G (fits (((([] : List Int) ++ w).length : Int) - (1 : Int))) (
  r1_Next_L3 letters (((([] : List Int) ++ w).length : Int) - (1 : Int)) (([] : List Int) ++ w)))
theorem r1_Next_L3_B_ch (r3 : Nat → Int → (List Int) → Option (List Int)) (r3' : Int → (List Int) → Option (List Int)) (h_r3 : ∀ a0 a1, ChO (fun κ => r3 κ a0 a1) (r3' a0 a1)) (letters : Int) (i : Int) (out : (List Int)) : ChO (fun κ => r1_Next_L3_B letters (r3 κ) i out) (r1_Next_L3_B letters r3' i out) := by
  unfold r1_Next_L3_B
  repeat' with_reducible first | exact ChO.const _ | exact h_r3 _ _ | apply ChO.ite | apply ChO.G | apply ChO.both | (apply ChO.bind; intro _)
theorem r1_Next_L3_cn  (letters : Int) : Cn (r1_Next_L3_F letters) := fun g h hg x => r1_Next_L3_B_ch  (fun κ i out => g κ (i, out)) (fun i out => h (i, out)) (fun i out => hg (i, out)) letters x.1 x.2
theorem r1_Next_L3_eq  (letters : Int) (i : Int) (out : (List Int)) : r1_Next_L3 letters i out = r1_Next_L3_B letters (r1_Next_L3 letters) i out := LFix_eq (r1_Next_L3_cn letters) (i, out)

noncomputable def r32_Least_J7 (d : (Int × Int × (List (List Int)) × (List Int) × Unit)) (out : (List (List Int))) (w : (List Int)) (r3 : ((List (List Int)) → (List Int) → Option (List (List Int)))) (is'_1 : Bool) : Option (List (List Int)) :=
  if is'_1 = true then
  G (room out ([w]) 24) (
  (r1_Next d.1 w).bind (fun y'_5 =>
  r3 (out ++ ([w])) y'_5)) else
  (r1_Next d.1 w).bind (fun y'_6 =>
  r3 out y'_6)
noncomputable def r32_Least_L6_B (d : (Int × Int × (List (List Int)) × (List Int) × Unit)) (out : (List (List Int))) (w : (List Int)) (r3 : ((List (List Int)) → (List Int) → Option (List (List Int)))) (r6 : Bool → Int → Option (List (List Int))) (is' : Bool) (i : Int) : Option (List (List Int)) :=
  if (decide (i < (out.length : Int))) = true then
  if is' = true then
  G (0 ≤ i ∧ i < (out.length : Int)) (
  G ((i).toNat < out.length) (
  (r32_Within (ix out i) w).bind (fun y'_4 =>
  G (fits (i + (1 : Int))) (
  r6 (!y'_4.1) (i + (1 : Int)))))) else
  r32_Least_J7 d out w r3 is' else
  r32_Least_J7 d out w r3 is'
noncomputable def r32_Least_L6_F (d : (Int × Int × (List (List Int)) × (List Int) × Unit)) (out : (List (List Int))) (w : (List Int)) (r3 : ((List (List Int)) → (List Int) → Option (List (List Int)))) : (Bool × Int → Option (List (List Int))) → Bool × Int → Option (List (List Int)) :=
  fun rec x => r32_Least_L6_B d out w r3 (fun is' i => rec (is', i)) x.1 x.2
noncomputable def r32_Least_L6 (d : (Int × Int × (List (List Int)) × (List Int) × Unit)) (out : (List (List Int))) (w : (List Int)) (r3 : ((List (List Int)) → (List Int) → Option (List (List Int)))) (is' : Bool) (i : Int) : Option (List (List Int)) := LFix (r32_Least_L6_F d out w r3 ) (is', i)
noncomputable def r32_Least_L3_B (d : (Int × Int × (List (List Int)) × (List Int) × Unit)) (r3 : (List (List Int)) → (List Int) → Option (List (List Int))) (out : (List (List Int))) (w : (List Int)) : Option (List (List Int)) :=
  if (decide ((w.length : Int) < (d.2.2.1.length : Int))) = true then
  (r3_Accepts (d.1, (d.2.1, (d.2.2.1, (d.2.2.2.1, ())))) w).bind (fun y' =>
  r32_Least_L6 d out w r3 y' (0 : Int)) else
  some out
noncomputable def r32_Least_L3_F (d : (Int × Int × (List (List Int)) × (List Int) × Unit)) : ((List (List Int)) × (List Int) → Option (List (List Int))) → (List (List Int)) × (List Int) → Option (List (List Int)) :=
  fun rec x => r32_Least_L3_B d (fun out w => rec (out, w)) x.1 x.2
noncomputable def r32_Least_L3 (d : (Int × Int × (List (List Int)) × (List Int) × Unit)) (out : (List (List Int))) (w : (List Int)) : Option (List (List Int)) := LFix (r32_Least_L3_F d ) (out, w)
noncomputable def r32_Least (d : (Int × Int × (List (List Int)) × (List Int) × Unit)) : Option (List (List Int)) :=
  r32_Least_L3 d ([]) ([])
theorem r32_Least_J7_ch (r3 : Nat → (List (List Int)) → (List Int) → Option (List (List Int))) (r3' : (List (List Int)) → (List Int) → Option (List (List Int))) (h_r3 : ∀ a0 a1, ChO (fun κ => r3 κ a0 a1) (r3' a0 a1)) (d : (Int × Int × (List (List Int)) × (List Int) × Unit)) (out : (List (List Int))) (w : (List Int)) (is'_1 : Bool) : ChO (fun κ => r32_Least_J7 d out w (r3 κ) is'_1) (r32_Least_J7 d out w r3' is'_1) := by
  unfold r32_Least_J7
  repeat' with_reducible first | exact ChO.const _ | exact h_r3 _ _ | apply ChO.ite | apply ChO.G | apply ChO.both | (apply ChO.bind; intro _)
theorem r32_Least_L6_B_ch (r3 : Nat → (List (List Int)) → (List Int) → Option (List (List Int))) (r3' : (List (List Int)) → (List Int) → Option (List (List Int))) (h_r3 : ∀ a0 a1, ChO (fun κ => r3 κ a0 a1) (r3' a0 a1)) (r6 : Nat → Bool → Int → Option (List (List Int))) (r6' : Bool → Int → Option (List (List Int))) (h_r6 : ∀ a0 a1, ChO (fun κ => r6 κ a0 a1) (r6' a0 a1)) (d : (Int × Int × (List (List Int)) × (List Int) × Unit)) (out : (List (List Int))) (w : (List Int)) (is' : Bool) (i : Int) : ChO (fun κ => r32_Least_L6_B d out w (r3 κ) (r6 κ) is' i) (r32_Least_L6_B d out w r3' r6' is' i) := by
  unfold r32_Least_L6_B
  repeat' with_reducible first | exact ChO.const _ | exact h_r3 _ _ | exact h_r6 _ _ | (apply r32_Least_J7_ch <;> assumption) | apply ChO.ite | apply ChO.G | apply ChO.both | (apply ChO.bind; intro _)
theorem r32_Least_L6_cn (r3 : (List (List Int)) → (List Int) → Option (List (List Int))) (d : (Int × Int × (List (List Int)) × (List Int) × Unit)) (out : (List (List Int))) (w : (List Int)) : Cn (r32_Least_L6_F d out w r3) := fun g h hg x => r32_Least_L6_B_ch (fun _ => r3) r3 (fun _ _ => ChO.const _) (fun κ is' i => g κ (is', i)) (fun is' i => h (is', i)) (fun is' i => hg (is', i)) d out w x.1 x.2
theorem r32_Least_L6_eq (r3 : (List (List Int)) → (List Int) → Option (List (List Int))) (d : (Int × Int × (List (List Int)) × (List Int) × Unit)) (out : (List (List Int))) (w : (List Int)) (is' : Bool) (i : Int) : r32_Least_L6 d out w r3 is' i = r32_Least_L6_B d out w r3 (r32_Least_L6 d out w r3) is' i := LFix_eq (r32_Least_L6_cn r3 d out w) (is', i)
theorem r32_Least_L6_ch (r3 : Nat → (List (List Int)) → (List Int) → Option (List (List Int))) (r3' : (List (List Int)) → (List Int) → Option (List (List Int))) (h_r3 : ∀ a0 a1, ChO (fun κ => r3 κ a0 a1) (r3' a0 a1)) (d : (Int × Int × (List (List Int)) × (List Int) × Unit)) (out : (List (List Int))) (w : (List Int)) (is' : Bool) (i : Int) : ChO (fun κ => r32_Least_L6 d out w (r3 κ) is' i) (r32_Least_L6 d out w r3' is' i) := by
  unfold r32_Least_L6
  exact LFix_ch (fun κ => (r32_Least_L6_cn (r3 κ) d out w).mono) (r32_Least_L6_cn r3' d out w).mono (fun g h hg x => r32_Least_L6_B_ch r3 r3' h_r3 (fun κ is' i => g κ (is', i)) (fun is' i => h (is', i)) (fun is' i => hg (is', i)) d out w x.1 x.2) _
theorem r32_Least_L3_B_ch (r3 : Nat → (List (List Int)) → (List Int) → Option (List (List Int))) (r3' : (List (List Int)) → (List Int) → Option (List (List Int))) (h_r3 : ∀ a0 a1, ChO (fun κ => r3 κ a0 a1) (r3' a0 a1)) (d : (Int × Int × (List (List Int)) × (List Int) × Unit)) (out : (List (List Int))) (w : (List Int)) : ChO (fun κ => r32_Least_L3_B d (r3 κ) out w) (r32_Least_L3_B d r3' out w) := by
  unfold r32_Least_L3_B
  repeat' with_reducible first | exact ChO.const _ | exact h_r3 _ _ | (apply r32_Least_J7_ch <;> assumption) | (apply r32_Least_L6_ch <;> assumption) | apply ChO.ite | apply ChO.G | apply ChO.both | (apply ChO.bind; intro _)
theorem r32_Least_L3_cn  (d : (Int × Int × (List (List Int)) × (List Int) × Unit)) : Cn (r32_Least_L3_F d) := fun g h hg x => r32_Least_L3_B_ch  (fun κ out w => g κ (out, w)) (fun out w => h (out, w)) (fun out w => hg (out, w)) d x.1 x.2
theorem r32_Least_L3_eq  (d : (Int × Int × (List (List Int)) × (List Int) × Unit)) (out : (List (List Int))) (w : (List Int)) : r32_Least_L3 d out w = r32_Least_L3_B d (r32_Least_L3 d) out w := LFix_eq (r32_Least_L3_cn d) (out, w)

noncomputable def r1_Words_L4_B (a : (List Int)) (b : (List Int)) (r4 : Int → Option (Bool)) (i : Int) : Option (Bool) :=
  if (decide (i < (a.length : Int))) = true then
  G (0 ≤ i ∧ i < (a.length : Int)) (
  G (0 ≤ i ∧ i < (b.length : Int)) (
  if (decide (¬ (ix a i) = (ix b i))) = true then
  some false else
  G (fits (i + (1 : Int))) (
  r4 (i + (1 : Int))))) else
  some true
noncomputable def r1_Words_L4_F (a : (List Int)) (b : (List Int)) : (Int → Option (Bool)) → Int → Option (Bool) :=
  fun rec x => r1_Words_L4_B a b (fun i => rec i) x
noncomputable def r1_Words_L4 (a : (List Int)) (b : (List Int)) (i : Int) : Option (Bool) := LFix (r1_Words_L4_F a b ) i
noncomputable def r1_Words (a : (List Int)) (b : (List Int)) : Option (Bool) :=
  if (decide (¬ (a.length : Int) = (b.length : Int))) = true then
  some false else
  r1_Words_L4 a b (0 : Int)
theorem r1_Words_L4_B_ch (r4 : Nat → Int → Option (Bool)) (r4' : Int → Option (Bool)) (h_r4 : ∀ a0, ChO (fun κ => r4 κ a0) (r4' a0)) (a : (List Int)) (b : (List Int)) (i : Int) : ChO (fun κ => r1_Words_L4_B a b (r4 κ) i) (r1_Words_L4_B a b r4' i) := by
  unfold r1_Words_L4_B
  repeat' with_reducible first | exact ChO.const _ | exact h_r4 _ | apply ChO.ite | apply ChO.G | apply ChO.both | (apply ChO.bind; intro _)
theorem r1_Words_L4_cn  (a : (List Int)) (b : (List Int)) : Cn (r1_Words_L4_F a b) := fun g h hg x => r1_Words_L4_B_ch  (fun κ i => g κ i) (fun i => h i) (fun i => hg i) a b x
theorem r1_Words_L4_eq  (a : (List Int)) (b : (List Int)) (i : Int) : r1_Words_L4 a b i = r1_Words_L4_B a b (r1_Words_L4 a b) i := LFix_eq (r1_Words_L4_cn a b) i

noncomputable def law_sameLists_L4_B (a : (List (List Int))) (b : (List (List Int))) (r4 : Int → Option (Bool)) (i : Int) : Option (Bool) :=
  if (decide (i < (a.length : Int))) = true then
  G (0 ≤ i ∧ i < (a.length : Int)) (
  G (0 ≤ i ∧ i < (b.length : Int)) (
  (r1_Words (ix a i) (ix b i)).bind (fun y' =>
  if (!y') = true then
  some false else
  G (fits (i + (1 : Int))) (
  r4 (i + (1 : Int)))))) else
  some true
noncomputable def law_sameLists_L4_F (a : (List (List Int))) (b : (List (List Int))) : (Int → Option (Bool)) → Int → Option (Bool) :=
  fun rec x => law_sameLists_L4_B a b (fun i => rec i) x
noncomputable def law_sameLists_L4 (a : (List (List Int))) (b : (List (List Int))) (i : Int) : Option (Bool) := LFix (law_sameLists_L4_F a b ) i
noncomputable def law_sameLists (a : (List (List Int))) (b : (List (List Int))) : Option (Bool) :=
  if (decide (¬ (a.length : Int) = (b.length : Int))) = true then
  some false else
  law_sameLists_L4 a b (0 : Int)
theorem law_sameLists_L4_B_ch (r4 : Nat → Int → Option (Bool)) (r4' : Int → Option (Bool)) (h_r4 : ∀ a0, ChO (fun κ => r4 κ a0) (r4' a0)) (a : (List (List Int))) (b : (List (List Int))) (i : Int) : ChO (fun κ => law_sameLists_L4_B a b (r4 κ) i) (law_sameLists_L4_B a b r4' i) := by
  unfold law_sameLists_L4_B
  repeat' with_reducible first | exact ChO.const _ | exact h_r4 _ | apply ChO.ite | apply ChO.G | apply ChO.both | (apply ChO.bind; intro _)
theorem law_sameLists_L4_cn  (a : (List (List Int))) (b : (List (List Int))) : Cn (law_sameLists_L4_F a b) := fun g h hg x => law_sameLists_L4_B_ch  (fun κ i => g κ i) (fun i => h i) (fun i => hg i) a b x
theorem law_sameLists_L4_eq  (a : (List (List Int))) (b : (List (List Int))) (i : Int) : law_sameLists_L4 a b i = law_sameLists_L4_B a b (law_sameLists_L4 a b) i := LFix_eq (law_sameLists_L4_cn a b) i

noncomputable def r1_May_L6_B (letters : Int) (w : (List Int)) (r6 : Int → Option (Int)) (i : Int) : Option (Int) :=
  if (decide (i < (w.length : Int))) = true then
  G (0 ≤ i ∧ i < (w.length : Int)) (
  if (decide ((ix w i) < (0 : Int))) = true then
  some (2 : Int) else
  G (0 ≤ i ∧ i < (w.length : Int)) (
  if (decide (letters ≤ (ix w i))) = true then
  some (2 : Int) else
  G (fits (i + (1 : Int))) (
  r6 (i + (1 : Int))))) else
  some (0 : Int)
noncomputable def r1_May_L6_F (letters : Int) (w : (List Int)) : (Int → Option (Int)) → Int → Option (Int) :=
  fun rec x => r1_May_L6_B letters w (fun i => rec i) x
noncomputable def r1_May_L6 (letters : Int) (w : (List Int)) (i : Int) : Option (Int) := LFix (r1_May_L6_F letters w ) i
noncomputable def r1_May (letters : Int) (w : (List Int)) : Option (Int) :=
  if (decide (letters < (1 : Int))) = true then
  some (2 : Int) else
  if (decide ((4 : Int) < letters)) = true then
  some (2 : Int) else
  if (decide ((60 : Int) < (w.length : Int))) = true then
  some (1 : Int) else
  r1_May_L6 letters w (0 : Int)
theorem r1_May_L6_B_ch (r6 : Nat → Int → Option (Int)) (r6' : Int → Option (Int)) (h_r6 : ∀ a0, ChO (fun κ => r6 κ a0) (r6' a0)) (letters : Int) (w : (List Int)) (i : Int) : ChO (fun κ => r1_May_L6_B letters w (r6 κ) i) (r1_May_L6_B letters w r6' i) := by
  unfold r1_May_L6_B
  repeat' with_reducible first | exact ChO.const _ | exact h_r6 _ | apply ChO.ite | apply ChO.G | apply ChO.both | (apply ChO.bind; intro _)
theorem r1_May_L6_cn  (letters : Int) (w : (List Int)) : Cn (r1_May_L6_F letters w) := fun g h hg x => r1_May_L6_B_ch  (fun κ i => g κ i) (fun i => h i) (fun i => hg i) letters w x
theorem r1_May_L6_eq  (letters : Int) (w : (List Int)) (i : Int) : r1_May_L6 letters w i = r1_May_L6_B letters w (r1_May_L6 letters w) i := LFix_eq (r1_May_L6_cn letters w) i

noncomputable def law_HigmanLeast_L16_B (w : (List Int)) (y'_1 : (List (List Int))) (y'_7 : Bool) (r16 : Int → Option (Bool)) (i : Int) : Option (Bool) :=
  if (decide (i < (y'_1.length : Int))) = true then
  G (0 ≤ i ∧ i < (y'_1.length : Int)) (
  G ((i).toNat < y'_1.length) (
  (r32_Within (ix y'_1 i) w).bind (fun y'_11 =>
  if y'_11.1 = true then
  some true else
  G (fits (i + (1 : Int))) (
  r16 (i + (1 : Int)))))) else
  some (!y'_7)
noncomputable def law_HigmanLeast_L16_F (w : (List Int)) (y'_1 : (List (List Int))) (y'_7 : Bool) : (Int → Option (Bool)) → Int → Option (Bool) :=
  fun rec x => law_HigmanLeast_L16_B w y'_1 y'_7 (fun i => rec i) x
noncomputable def law_HigmanLeast_L16 (w : (List Int)) (y'_1 : (List (List Int))) (y'_7 : Bool) (i : Int) : Option (Bool) := LFix (law_HigmanLeast_L16_F w y'_1 y'_7 ) i
noncomputable def law_HigmanLeast_J4 (d : (Int × Int × (List (List Int)) × (List Int) × Unit)) (w : (List Int)) (y' : Int) (y'_1 : (List (List Int))) (no : Int) : Option (Bool) :=
  if (decide (¬ no = (0 : Int))) = true then
  if (decide (y' = no)) = true then
  some (decide ((y'_1.length : Int) = (0 : Int))) else
  some false else
  (r32_Least (d.1, (d.2.1, (d.2.2.1, (d.2.2.2.1, ()))))).bind (fun y'_4 =>
  (law_sameLists y'_1 y'_4).bind (fun y'_5 =>
  if (decide (¬ y' = (0 : Int))) = true then
  some false else
  if (!y'_5) = true then
  some false else
  (r1_May d.1 w).bind (fun y'_6 =>
  if (decide (¬ y'_6 = (0 : Int))) = true then
  some true else
  (r3_Accepts (d.1, (d.2.1, (d.2.2.1, (d.2.2.2.1, ())))) w).bind (fun y'_7 =>
  law_HigmanLeast_L16 w y'_1 y'_7 (0 : Int)))))
noncomputable def law_HigmanLeast_J3 (d : (Int × Int × (List (List Int)) × (List Int) × Unit)) (w : (List Int)) (y' : Int) (y'_1 : (List (List Int))) (y'_3 : Int) (t : Bool) : Option (Bool) :=
  if t = true then
  law_HigmanLeast_J4 d w y' y'_1 (1 : Int) else
  law_HigmanLeast_J4 d w y' y'_1 y'_3
noncomputable def law_HigmanLeast (d : (Int × Int × (List (List Int)) × (List Int) × Unit)) (w : (List Int)) : Option (Bool) :=
  (higman_Least (d.1, (d.2.1, (d.2.2.1, (d.2.2.2.1, ()))))).bind (fun y'_12 =>
  (r3_Check (d.1, (d.2.1, (d.2.2.1, (d.2.2.2.1, ()))))).bind (fun y'_3 =>
  if (decide (y'_3 = (0 : Int))) = true then
  law_HigmanLeast_J3 d w y'_12.1 y'_12.2 y'_3 (decide ((5 : Int) < (d.2.2.1.length : Int))) else
  law_HigmanLeast_J3 d w y'_12.1 y'_12.2 y'_3 false))
theorem law_HigmanLeast_L16_B_ch (r16 : Nat → Int → Option (Bool)) (r16' : Int → Option (Bool)) (h_r16 : ∀ a0, ChO (fun κ => r16 κ a0) (r16' a0)) (w : (List Int)) (y'_1 : (List (List Int))) (y'_7 : Bool) (i : Int) : ChO (fun κ => law_HigmanLeast_L16_B w y'_1 y'_7 (r16 κ) i) (law_HigmanLeast_L16_B w y'_1 y'_7 r16' i) := by
  unfold law_HigmanLeast_L16_B
  repeat' with_reducible first | exact ChO.const _ | exact h_r16 _ | apply ChO.ite | apply ChO.G | apply ChO.both | (apply ChO.bind; intro _)
theorem law_HigmanLeast_L16_cn  (w : (List Int)) (y'_1 : (List (List Int))) (y'_7 : Bool) : Cn (law_HigmanLeast_L16_F w y'_1 y'_7) := fun g h hg x => law_HigmanLeast_L16_B_ch  (fun κ i => g κ i) (fun i => h i) (fun i => hg i) w y'_1 y'_7 x
theorem law_HigmanLeast_L16_eq  (w : (List Int)) (y'_1 : (List (List Int))) (y'_7 : Bool) (i : Int) : law_HigmanLeast_L16 w y'_1 y'_7 i = law_HigmanLeast_L16_B w y'_1 y'_7 (law_HigmanLeast_L16 w y'_1 y'_7) i := LFix_eq (law_HigmanLeast_L16_cn w y'_1 y'_7) i

end Go.Proofs.Ytekchjonmenjiaa.higmanLeastW
