/- What the functions that 'LyndonFinds' reaches compute: plain functions. -/
import Derived.Test.YtgjpkfbaobanlaaEv1n21
set_option maxHeartbeats 1000000
set_option maxRecDepth 20000
set_option linter.unusedSimpArgs false
set_option linter.unusedVariables false
namespace Go.Proofs.Ytgjpkfbaobanlaa.lyndonFindsW
open Go Go.Ab
noncomputable def word_May_L6_B (letters : Int) (w : (List Int)) (r6 : Int → Option (Int)) (t : Int) : Option (Int) :=
  if (decide (t < (w.length : Int))) = true then
  G (0 ≤ t ∧ t < (w.length : Int)) (
  if (decide ((ix w t) < (0 : Int))) = true then
  some (2 : Int) else
  if (decide (letters ≤ (ix w t))) = true then
  some (2 : Int) else
  G (fits (t + (1 : Int))) (
  r6 (t + (1 : Int)))) else
  some (0 : Int)
noncomputable def word_May_L6_F (letters : Int) (w : (List Int)) : (Int → Option (Int)) → Int → Option (Int) :=
  fun rec x => word_May_L6_B letters w (fun t => rec t) x
noncomputable def word_May_L6 (letters : Int) (w : (List Int)) (t : Int) : Option (Int) := LFix (word_May_L6_F letters w ) t
noncomputable def word_May (letters : Int) (w : (List Int)) : Option (Int) :=
  if (decide (letters < (1 : Int))) = true then
  some (2 : Int) else
  if (decide ((4 : Int) < letters)) = true then
  some (2 : Int) else
  if (decide ((60 : Int) < (w.length : Int))) = true then
  some (1 : Int) else
  word_May_L6 letters w (0 : Int)
theorem word_May_L6_B_ch (r6 : Nat → Int → Option (Int)) (r6' : Int → Option (Int)) (h_r6 : ∀ a0, ChO (fun κ => r6 κ a0) (r6' a0)) (letters : Int) (w : (List Int)) (t : Int) : ChO (fun κ => word_May_L6_B letters w (r6 κ) t) (word_May_L6_B letters w r6' t) := by
  unfold word_May_L6_B
  repeat' first | exact ChO.const _ | exact h_r6 _ | apply ChO.ite | apply ChO.G | apply ChO.both | (apply ChO.bind; intro _)
theorem word_May_L6_cn  (letters : Int) (w : (List Int)) : Cn (word_May_L6_F letters w) := fun g h hg x => word_May_L6_B_ch  (fun κ t => g κ t) (fun t => h t) (fun t => hg t) letters w x
theorem word_May_L6_eq  (letters : Int) (w : (List Int)) (t : Int) : word_May_L6 letters w t = word_May_L6_B letters w (word_May_L6 letters w) t := LFix_eq (word_May_L6_cn letters w) t

noncomputable def lyndon_may_L2_B (l : (List (List Int))) (r2 : Int → Option (Int)) (t : Int) : Option (Int) :=
  if (decide (t < (l.length : Int))) = true then
  G (0 ≤ t ∧ t < (l.length : Int)) (
  (word_May (4 : Int) (ix l t)).bind (fun y' =>
  if (decide (¬ y' = (0 : Int))) = true then
  some y' else
  G (fits (t + (1 : Int))) (
  r2 (t + (1 : Int))))) else
  some (0 : Int)
noncomputable def lyndon_may_L2_F (l : (List (List Int))) : (Int → Option (Int)) → Int → Option (Int) :=
  fun rec x => lyndon_may_L2_B l (fun t => rec t) x
noncomputable def lyndon_may_L2 (l : (List (List Int))) (t : Int) : Option (Int) := LFix (lyndon_may_L2_F l ) t
noncomputable def lyndon_may (l : (List (List Int))) : Option (Int) :=
  lyndon_may_L2 l (0 : Int)
theorem lyndon_may_L2_B_ch (r2 : Nat → Int → Option (Int)) (r2' : Int → Option (Int)) (h_r2 : ∀ a0, ChO (fun κ => r2 κ a0) (r2' a0)) (l : (List (List Int))) (t : Int) : ChO (fun κ => lyndon_may_L2_B l (r2 κ) t) (lyndon_may_L2_B l r2' t) := by
  unfold lyndon_may_L2_B
  repeat' first | exact ChO.const _ | exact h_r2 _ | apply ChO.ite | apply ChO.G | apply ChO.both | (apply ChO.bind; intro _)
theorem lyndon_may_L2_cn  (l : (List (List Int))) : Cn (lyndon_may_L2_F l) := fun g h hg x => lyndon_may_L2_B_ch  (fun κ t => g κ t) (fun t => h t) (fun t => hg t) l x
theorem lyndon_may_L2_eq  (l : (List (List Int))) (t : Int) : lyndon_may_L2 l t = lyndon_may_L2_B l (lyndon_may_L2 l) t := LFix_eq (lyndon_may_L2_cn l) t

noncomputable def lyndon_borders_J6_1 (l : (List Int)) (k_1 : Int) (r6 : (Int → Option (List Int))) (t_2 : Bool) : Option (List Int) :=
  G (fits (k_1 - (1 : Int))) (
  G (0 ≤ k_1 - (1 : Int) ∧ k_1 - (1 : Int) < (l.length : Int)) (
  G ((k_1 - (1 : Int)).toNat < l.length) (
  r6 (ix l (k_1 - (1 : Int))))))
noncomputable def lyndon_borders_J8 (t : Int) (l : (List Int)) (r4 : (Int → Int → (List Int) → Option (List Int))) (k_1 : Int) (t_3 : Bool) : Option (List Int) :=
  if t_3 = true then
  G (fits (k_1 + (1 : Int))) (
  G (room l ([k_1 + (1 : Int)]) 8) (
  G (fits (t + (1 : Int))) (
  r4 (k_1 + (1 : Int)) (t + (1 : Int)) (l ++ ([k_1 + (1 : Int)]))))) else
  G (room l ([k_1]) 8) (
  G (fits (t + (1 : Int))) (
  r4 k_1 (t + (1 : Int)) (l ++ ([k_1]))))
noncomputable def lyndon_borders_J6 (w : (List Int)) (t : Int) (l : (List Int)) (r4 : (Int → Int → (List Int) → Option (List Int))) (k_1 : Int) (r6 : (Int → Option (List Int))) (t_1 : Bool) : Option (List Int) :=
  if t_1 = true then
  lyndon_borders_J6_1 l k_1 r6 t_1 else
  if (decide ((0 : Int) < t)) = true then
  G (0 ≤ t ∧ t < (w.length : Int)) (
  G (0 ≤ k_1 ∧ k_1 < (w.length : Int)) (
  lyndon_borders_J8 t l r4 k_1 (decide ((ix w t) = (ix w k_1))))) else
  lyndon_borders_J8 t l r4 k_1 false
noncomputable def lyndon_borders_L6_B (w : (List Int)) (t : Int) (l : (List Int)) (r4 : (Int → Int → (List Int) → Option (List Int))) (r6 : Int → Option (List Int)) (k_1 : Int) : Option (List Int) :=
  if (decide ((0 : Int) < t)) = true then
  if (decide ((0 : Int) < k_1)) = true then
  G (0 ≤ t ∧ t < (w.length : Int)) (
  G (0 ≤ k_1 ∧ k_1 < (w.length : Int)) (
  lyndon_borders_J6 w t l r4 k_1 r6 (decide (¬ (ix w t) = (ix w k_1))))) else
  lyndon_borders_J6 w t l r4 k_1 r6 false else
  lyndon_borders_J6 w t l r4 k_1 r6 false
noncomputable def lyndon_borders_L6_F (w : (List Int)) (t : Int) (l : (List Int)) (r4 : (Int → Int → (List Int) → Option (List Int))) : (Int → Option (List Int)) → Int → Option (List Int) :=
  fun rec x => lyndon_borders_L6_B w t l r4 (fun k_1 => rec k_1) x
noncomputable def lyndon_borders_L6 (w : (List Int)) (t : Int) (l : (List Int)) (r4 : (Int → Int → (List Int) → Option (List Int))) (k_1 : Int) : Option (List Int) := LFix (lyndon_borders_L6_F w t l r4 ) k_1
noncomputable def lyndon_borders_L4_B (w : (List Int)) (r4 : Int → Int → (List Int) → Option (List Int)) (k : Int) (t : Int) (l : (List Int)) : Option (List Int) :=
  if (decide (t < (w.length : Int))) = true then
  lyndon_borders_L6 w t l r4 k else
  some l
noncomputable def lyndon_borders_L4_F (w : (List Int)) : (Int × Int × (List Int) → Option (List Int)) → Int × Int × (List Int) → Option (List Int) :=
  fun rec x => lyndon_borders_L4_B w (fun k t l => rec (k, t, l)) x.1 x.2.1 x.2.2
noncomputable def lyndon_borders_L4 (w : (List Int)) (k : Int) (t : Int) (l : (List Int)) : Option (List Int) := LFix (lyndon_borders_L4_F w ) (k, t, l)
noncomputable def lyndon_borders (w : (List Int)) : Option (List Int) :=
  lyndon_borders_L4 w (0 : Int) (0 : Int) ([])
theorem lyndon_borders_J6_1_ch (r6 : Nat → Int → Option (List Int)) (r6' : Int → Option (List Int)) (h_r6 : ∀ a0, ChO (fun κ => r6 κ a0) (r6' a0)) (l : (List Int)) (k_1 : Int) (t_2 : Bool) : ChO (fun κ => lyndon_borders_J6_1 l k_1 (r6 κ) t_2) (lyndon_borders_J6_1 l k_1 r6' t_2) := by
  unfold lyndon_borders_J6_1
  repeat' first | exact ChO.const _ | exact h_r6 _ | apply ChO.ite | apply ChO.G | apply ChO.both | (apply ChO.bind; intro _)
theorem lyndon_borders_J8_ch (r4 : Nat → Int → Int → (List Int) → Option (List Int)) (r4' : Int → Int → (List Int) → Option (List Int)) (h_r4 : ∀ a0 a1 a2, ChO (fun κ => r4 κ a0 a1 a2) (r4' a0 a1 a2)) (t : Int) (l : (List Int)) (k_1 : Int) (t_3 : Bool) : ChO (fun κ => lyndon_borders_J8 t l (r4 κ) k_1 t_3) (lyndon_borders_J8 t l r4' k_1 t_3) := by
  unfold lyndon_borders_J8
  repeat' first | exact ChO.const _ | exact h_r4 _ _ _ | (apply lyndon_borders_J6_1_ch <;> assumption) | apply ChO.ite | apply ChO.G | apply ChO.both | (apply ChO.bind; intro _)
theorem lyndon_borders_J6_ch (r4 : Nat → Int → Int → (List Int) → Option (List Int)) (r4' : Int → Int → (List Int) → Option (List Int)) (h_r4 : ∀ a0 a1 a2, ChO (fun κ => r4 κ a0 a1 a2) (r4' a0 a1 a2)) (r6 : Nat → Int → Option (List Int)) (r6' : Int → Option (List Int)) (h_r6 : ∀ a0, ChO (fun κ => r6 κ a0) (r6' a0)) (w : (List Int)) (t : Int) (l : (List Int)) (k_1 : Int) (t_1 : Bool) : ChO (fun κ => lyndon_borders_J6 w t l (r4 κ) k_1 (r6 κ) t_1) (lyndon_borders_J6 w t l r4' k_1 r6' t_1) := by
  unfold lyndon_borders_J6
  repeat' first | exact ChO.const _ | exact h_r4 _ _ _ | exact h_r6 _ | (apply lyndon_borders_J6_1_ch <;> assumption) | (apply lyndon_borders_J8_ch <;> assumption) | apply ChO.ite | apply ChO.G | apply ChO.both | (apply ChO.bind; intro _)
theorem lyndon_borders_L6_B_ch (r4 : Nat → Int → Int → (List Int) → Option (List Int)) (r4' : Int → Int → (List Int) → Option (List Int)) (h_r4 : ∀ a0 a1 a2, ChO (fun κ => r4 κ a0 a1 a2) (r4' a0 a1 a2)) (r6 : Nat → Int → Option (List Int)) (r6' : Int → Option (List Int)) (h_r6 : ∀ a0, ChO (fun κ => r6 κ a0) (r6' a0)) (w : (List Int)) (t : Int) (l : (List Int)) (k_1 : Int) : ChO (fun κ => lyndon_borders_L6_B w t l (r4 κ) (r6 κ) k_1) (lyndon_borders_L6_B w t l r4' r6' k_1) := by
  unfold lyndon_borders_L6_B
  repeat' first | exact ChO.const _ | exact h_r4 _ _ _ | exact h_r6 _ | (apply lyndon_borders_J6_1_ch <;> assumption) | (apply lyndon_borders_J8_ch <;> assumption) | (apply lyndon_borders_J6_ch <;> assumption) | apply ChO.ite | apply ChO.G | apply ChO.both | (apply ChO.bind; intro _)
theorem lyndon_borders_L6_cn (r4 : Int → Int → (List Int) → Option (List Int)) (w : (List Int)) (t : Int) (l : (List Int)) : Cn (lyndon_borders_L6_F w t l r4) := fun g h hg x => lyndon_borders_L6_B_ch (fun _ => r4) r4 (fun _ _ _ => ChO.const _) (fun κ k_1 => g κ k_1) (fun k_1 => h k_1) (fun k_1 => hg k_1) w t l x
theorem lyndon_borders_L6_eq (r4 : Int → Int → (List Int) → Option (List Int)) (w : (List Int)) (t : Int) (l : (List Int)) (k_1 : Int) : lyndon_borders_L6 w t l r4 k_1 = lyndon_borders_L6_B w t l r4 (lyndon_borders_L6 w t l r4) k_1 := LFix_eq (lyndon_borders_L6_cn r4 w t l) k_1
theorem lyndon_borders_L6_ch (r4 : Nat → Int → Int → (List Int) → Option (List Int)) (r4' : Int → Int → (List Int) → Option (List Int)) (h_r4 : ∀ a0 a1 a2, ChO (fun κ => r4 κ a0 a1 a2) (r4' a0 a1 a2)) (w : (List Int)) (t : Int) (l : (List Int)) (k_1 : Int) : ChO (fun κ => lyndon_borders_L6 w t l (r4 κ) k_1) (lyndon_borders_L6 w t l r4' k_1) := by
  unfold lyndon_borders_L6
  exact LFix_ch (fun κ => (lyndon_borders_L6_cn (r4 κ) w t l).mono) (lyndon_borders_L6_cn r4' w t l).mono (fun g h hg x => lyndon_borders_L6_B_ch r4 r4' h_r4 (fun κ k_1 => g κ k_1) (fun k_1 => h k_1) (fun k_1 => hg k_1) w t l x) _
theorem lyndon_borders_L4_B_ch (r4 : Nat → Int → Int → (List Int) → Option (List Int)) (r4' : Int → Int → (List Int) → Option (List Int)) (h_r4 : ∀ a0 a1 a2, ChO (fun κ => r4 κ a0 a1 a2) (r4' a0 a1 a2)) (w : (List Int)) (k : Int) (t : Int) (l : (List Int)) : ChO (fun κ => lyndon_borders_L4_B w (r4 κ) k t l) (lyndon_borders_L4_B w r4' k t l) := by
  unfold lyndon_borders_L4_B
  repeat' first | exact ChO.const _ | exact h_r4 _ _ _ | (apply lyndon_borders_J6_1_ch <;> assumption) | (apply lyndon_borders_J8_ch <;> assumption) | (apply lyndon_borders_J6_ch <;> assumption) | (apply lyndon_borders_L6_ch <;> assumption) | apply ChO.ite | apply ChO.G | apply ChO.both | (apply ChO.bind; intro _)
theorem lyndon_borders_L4_cn  (w : (List Int)) : Cn (lyndon_borders_L4_F w) := fun g h hg x => lyndon_borders_L4_B_ch  (fun κ k t l => g κ (k, t, l)) (fun k t l => h (k, t, l)) (fun k t l => hg (k, t, l)) w x.1 x.2.1 x.2.2
theorem lyndon_borders_L4_eq  (w : (List Int)) (k : Int) (t : Int) (l : (List Int)) : lyndon_borders_L4 w k t l = lyndon_borders_L4_B w (lyndon_borders_L4 w) k t l := LFix_eq (lyndon_borders_L4_cn w) (k, t, l)

noncomputable def lyndon_Find_J12_1 (y'_1 : (List Int)) (k_1 : Int) (r12 : (Int → Option (Int × (List Int)))) (t_2 : Bool) : Option (Int × (List Int)) :=
  G (fits (k_1 - (1 : Int))) (
  G (0 ≤ k_1 - (1 : Int) ∧ k_1 - (1 : Int) < (y'_1.length : Int)) (
  G ((k_1 - (1 : Int)).toNat < y'_1.length) (
  r12 (ix y'_1 (k_1 - (1 : Int))))))
noncomputable def lyndon_Find_J15 (v : (List Int)) (t : Int) (out : (List Int)) (r10 : (Int → Int → (List Int) → Option (Int × (List Int)))) (k_2 : Int) : Option (Int × (List Int)) :=
  if (decide (k_2 = (v.length : Int))) = true then
  G (fits (t + (1 : Int))) (
  G (fits ((t + (1 : Int)) - k_2)) (
  G (room out ([(t + (1 : Int)) - k_2]) 8) (
  G (fits (t + (1 : Int))) (
  r10 k_2 (t + (1 : Int)) (out ++ ([(t + (1 : Int)) - k_2])))))) else
  G (fits (t + (1 : Int))) (
  r10 k_2 (t + (1 : Int)) out)
noncomputable def lyndon_Find_J12 (w : (List Int)) (v : (List Int)) (y'_1 : (List Int)) (t : Int) (out : (List Int)) (r10 : (Int → Int → (List Int) → Option (Int × (List Int)))) (k_1 : Int) (r12 : (Int → Option (Int × (List Int)))) (t_1 : Bool) : Option (Int × (List Int)) :=
  if t_1 = true then
  lyndon_Find_J12_1 y'_1 k_1 r12 t_1 else
  G (0 ≤ k_1 ∧ k_1 < (v.length : Int)) (
  if (decide ((ix v k_1) = (ix w t))) = true then
  G (fits (k_1 + (1 : Int))) (
  lyndon_Find_J15 v t out r10 (k_1 + (1 : Int))) else
  lyndon_Find_J15 v t out r10 k_1)
noncomputable def lyndon_Find_L12_B (w : (List Int)) (v : (List Int)) (y'_1 : (List Int)) (t : Int) (out : (List Int)) (r10 : (Int → Int → (List Int) → Option (Int × (List Int)))) (r12 : Int → Option (Int × (List Int))) (k_1 : Int) : Option (Int × (List Int)) :=
  if (decide ((0 : Int) < k_1)) = true then
  if (decide (k_1 = (v.length : Int))) = true then
  lyndon_Find_J12 w v y'_1 t out r10 k_1 r12 true else
  G (0 ≤ k_1 ∧ k_1 < (v.length : Int)) (
  lyndon_Find_J12 w v y'_1 t out r10 k_1 r12 (decide (¬ (ix v k_1) = (ix w t)))) else
  lyndon_Find_J12 w v y'_1 t out r10 k_1 r12 false
noncomputable def lyndon_Find_L12_F (w : (List Int)) (v : (List Int)) (y'_1 : (List Int)) (t : Int) (out : (List Int)) (r10 : (Int → Int → (List Int) → Option (Int × (List Int)))) : (Int → Option (Int × (List Int))) → Int → Option (Int × (List Int)) :=
  fun rec x => lyndon_Find_L12_B w v y'_1 t out r10 (fun k_1 => rec k_1) x
noncomputable def lyndon_Find_L12 (w : (List Int)) (v : (List Int)) (y'_1 : (List Int)) (t : Int) (out : (List Int)) (r10 : (Int → Int → (List Int) → Option (Int × (List Int)))) (k_1 : Int) : Option (Int × (List Int)) := LFix (lyndon_Find_L12_F w v y'_1 t out r10 ) k_1
noncomputable def lyndon_Find_L10_B (w : (List Int)) (v : (List Int)) (y'_1 : (List Int)) (r10 : Int → Int → (List Int) → Option (Int × (List Int))) (k : Int) (t : Int) (out : (List Int)) : Option (Int × (List Int)) :=
  if (decide (t < (w.length : Int))) = true then
  G (0 ≤ t ∧ t < (w.length : Int)) (
  lyndon_Find_L12 w v y'_1 t out r10 k) else
  some ((0 : Int), out)
noncomputable def lyndon_Find_L10_F (w : (List Int)) (v : (List Int)) (y'_1 : (List Int)) : (Int × Int × (List Int) → Option (Int × (List Int))) → Int × Int × (List Int) → Option (Int × (List Int)) :=
  fun rec x => lyndon_Find_L10_B w v y'_1 (fun k t out => rec (k, t, out)) x.1 x.2.1 x.2.2
noncomputable def lyndon_Find_L10 (w : (List Int)) (v : (List Int)) (y'_1 : (List Int)) (k : Int) (t : Int) (out : (List Int)) : Option (Int × (List Int)) := LFix (lyndon_Find_L10_F w v y'_1 ) (k, t, out)
noncomputable def lyndon_Find (w : (List Int)) (v : (List Int)) : Option (Int × (List Int)) :=
  (lyndon_may ([w, v])).bind (fun y' =>
  if (decide (¬ y' = (0 : Int))) = true then
  some (y', []) else
  if (decide ((v.length : Int) = (0 : Int))) = true then
  some ((6 : Int), []) else
  (lyndon_borders v).bind (fun y'_1 =>
  lyndon_Find_L10 w v y'_1 (0 : Int) (0 : Int) ([])))
theorem lyndon_Find_J12_1_ch (r12 : Nat → Int → Option (Int × (List Int))) (r12' : Int → Option (Int × (List Int))) (h_r12 : ∀ a0, ChO (fun κ => r12 κ a0) (r12' a0)) (y'_1 : (List Int)) (k_1 : Int) (t_2 : Bool) : ChO (fun κ => lyndon_Find_J12_1 y'_1 k_1 (r12 κ) t_2) (lyndon_Find_J12_1 y'_1 k_1 r12' t_2) := by
  unfold lyndon_Find_J12_1
  repeat' first | exact ChO.const _ | exact h_r12 _ | apply ChO.ite | apply ChO.G | apply ChO.both | (apply ChO.bind; intro _)
theorem lyndon_Find_J15_ch (r10 : Nat → Int → Int → (List Int) → Option (Int × (List Int))) (r10' : Int → Int → (List Int) → Option (Int × (List Int))) (h_r10 : ∀ a0 a1 a2, ChO (fun κ => r10 κ a0 a1 a2) (r10' a0 a1 a2)) (v : (List Int)) (t : Int) (out : (List Int)) (k_2 : Int) : ChO (fun κ => lyndon_Find_J15 v t out (r10 κ) k_2) (lyndon_Find_J15 v t out r10' k_2) := by
  unfold lyndon_Find_J15
  repeat' first | exact ChO.const _ | exact h_r10 _ _ _ | (apply lyndon_Find_J12_1_ch <;> assumption) | apply ChO.ite | apply ChO.G | apply ChO.both | (apply ChO.bind; intro _)
theorem lyndon_Find_J12_ch (r10 : Nat → Int → Int → (List Int) → Option (Int × (List Int))) (r10' : Int → Int → (List Int) → Option (Int × (List Int))) (h_r10 : ∀ a0 a1 a2, ChO (fun κ => r10 κ a0 a1 a2) (r10' a0 a1 a2)) (r12 : Nat → Int → Option (Int × (List Int))) (r12' : Int → Option (Int × (List Int))) (h_r12 : ∀ a0, ChO (fun κ => r12 κ a0) (r12' a0)) (w : (List Int)) (v : (List Int)) (y'_1 : (List Int)) (t : Int) (out : (List Int)) (k_1 : Int) (t_1 : Bool) : ChO (fun κ => lyndon_Find_J12 w v y'_1 t out (r10 κ) k_1 (r12 κ) t_1) (lyndon_Find_J12 w v y'_1 t out r10' k_1 r12' t_1) := by
  unfold lyndon_Find_J12
  repeat' first | exact ChO.const _ | exact h_r10 _ _ _ | exact h_r12 _ | (apply lyndon_Find_J12_1_ch <;> assumption) | (apply lyndon_Find_J15_ch <;> assumption) | apply ChO.ite | apply ChO.G | apply ChO.both | (apply ChO.bind; intro _)
theorem lyndon_Find_L12_B_ch (r10 : Nat → Int → Int → (List Int) → Option (Int × (List Int))) (r10' : Int → Int → (List Int) → Option (Int × (List Int))) (h_r10 : ∀ a0 a1 a2, ChO (fun κ => r10 κ a0 a1 a2) (r10' a0 a1 a2)) (r12 : Nat → Int → Option (Int × (List Int))) (r12' : Int → Option (Int × (List Int))) (h_r12 : ∀ a0, ChO (fun κ => r12 κ a0) (r12' a0)) (w : (List Int)) (v : (List Int)) (y'_1 : (List Int)) (t : Int) (out : (List Int)) (k_1 : Int) : ChO (fun κ => lyndon_Find_L12_B w v y'_1 t out (r10 κ) (r12 κ) k_1) (lyndon_Find_L12_B w v y'_1 t out r10' r12' k_1) := by
  unfold lyndon_Find_L12_B
  repeat' first | exact ChO.const _ | exact h_r10 _ _ _ | exact h_r12 _ | (apply lyndon_Find_J12_1_ch <;> assumption) | (apply lyndon_Find_J15_ch <;> assumption) | (apply lyndon_Find_J12_ch <;> assumption) | apply ChO.ite | apply ChO.G | apply ChO.both | (apply ChO.bind; intro _)
theorem lyndon_Find_L12_cn (r10 : Int → Int → (List Int) → Option (Int × (List Int))) (w : (List Int)) (v : (List Int)) (y'_1 : (List Int)) (t : Int) (out : (List Int)) : Cn (lyndon_Find_L12_F w v y'_1 t out r10) := fun g h hg x => lyndon_Find_L12_B_ch (fun _ => r10) r10 (fun _ _ _ => ChO.const _) (fun κ k_1 => g κ k_1) (fun k_1 => h k_1) (fun k_1 => hg k_1) w v y'_1 t out x
theorem lyndon_Find_L12_eq (r10 : Int → Int → (List Int) → Option (Int × (List Int))) (w : (List Int)) (v : (List Int)) (y'_1 : (List Int)) (t : Int) (out : (List Int)) (k_1 : Int) : lyndon_Find_L12 w v y'_1 t out r10 k_1 = lyndon_Find_L12_B w v y'_1 t out r10 (lyndon_Find_L12 w v y'_1 t out r10) k_1 := LFix_eq (lyndon_Find_L12_cn r10 w v y'_1 t out) k_1
theorem lyndon_Find_L12_ch (r10 : Nat → Int → Int → (List Int) → Option (Int × (List Int))) (r10' : Int → Int → (List Int) → Option (Int × (List Int))) (h_r10 : ∀ a0 a1 a2, ChO (fun κ => r10 κ a0 a1 a2) (r10' a0 a1 a2)) (w : (List Int)) (v : (List Int)) (y'_1 : (List Int)) (t : Int) (out : (List Int)) (k_1 : Int) : ChO (fun κ => lyndon_Find_L12 w v y'_1 t out (r10 κ) k_1) (lyndon_Find_L12 w v y'_1 t out r10' k_1) := by
  unfold lyndon_Find_L12
  exact LFix_ch (fun κ => (lyndon_Find_L12_cn (r10 κ) w v y'_1 t out).mono) (lyndon_Find_L12_cn r10' w v y'_1 t out).mono (fun g h hg x => lyndon_Find_L12_B_ch r10 r10' h_r10 (fun κ k_1 => g κ k_1) (fun k_1 => h k_1) (fun k_1 => hg k_1) w v y'_1 t out x) _
theorem lyndon_Find_L10_B_ch (r10 : Nat → Int → Int → (List Int) → Option (Int × (List Int))) (r10' : Int → Int → (List Int) → Option (Int × (List Int))) (h_r10 : ∀ a0 a1 a2, ChO (fun κ => r10 κ a0 a1 a2) (r10' a0 a1 a2)) (w : (List Int)) (v : (List Int)) (y'_1 : (List Int)) (k : Int) (t : Int) (out : (List Int)) : ChO (fun κ => lyndon_Find_L10_B w v y'_1 (r10 κ) k t out) (lyndon_Find_L10_B w v y'_1 r10' k t out) := by
  unfold lyndon_Find_L10_B
  repeat' first | exact ChO.const _ | exact h_r10 _ _ _ | (apply lyndon_Find_J12_1_ch <;> assumption) | (apply lyndon_Find_J15_ch <;> assumption) | (apply lyndon_Find_J12_ch <;> assumption) | (apply lyndon_Find_L12_ch <;> assumption) | apply ChO.ite | apply ChO.G | apply ChO.both | (apply ChO.bind; intro _)
theorem lyndon_Find_L10_cn  (w : (List Int)) (v : (List Int)) (y'_1 : (List Int)) : Cn (lyndon_Find_L10_F w v y'_1) := fun g h hg x => lyndon_Find_L10_B_ch  (fun κ k t out => g κ (k, t, out)) (fun k t out => h (k, t, out)) (fun k t out => hg (k, t, out)) w v y'_1 x.1 x.2.1 x.2.2
theorem lyndon_Find_L10_eq  (w : (List Int)) (v : (List Int)) (y'_1 : (List Int)) (k : Int) (t : Int) (out : (List Int)) : lyndon_Find_L10 w v y'_1 k t out = lyndon_Find_L10_B w v y'_1 (lyndon_Find_L10 w v y'_1) k t out := LFix_eq (lyndon_Find_L10_cn w v y'_1) (k, t, out)

noncomputable def r1_May_L6_B (letters : Int) (w : (List Int)) (r6 : Int → Option (Int)) (i : Int) : Option (Int) :=
  if (decide (i < (w.length : Int))) = true then
  G (0 ≤ i ∧ i < (w.length : Int)) (
  if (decide ((ix w i) < (0 : Int))) = true then
  some (2 : Int) else
  G (0 ≤ i ∧ i < (w.length : Int)) (
  if (decide (letters ≤ (ix w i))) = true then
  some (2 : Int) else
  G (fits (i + (1 : Int))) (
  r6 (i + (1 : Int))))) else
  some (0 : Int)
noncomputable def r1_May_L6_F (letters : Int) (w : (List Int)) : (Int → Option (Int)) → Int → Option (Int) :=
  fun rec x => r1_May_L6_B letters w (fun i => rec i) x
noncomputable def r1_May_L6 (letters : Int) (w : (List Int)) (i : Int) : Option (Int) := LFix (r1_May_L6_F letters w ) i
noncomputable def r1_May (letters : Int) (w : (List Int)) : Option (Int) :=
  if (decide (letters < (1 : Int))) = true then
  some (2 : Int) else
  if (decide ((4 : Int) < letters)) = true then
  some (2 : Int) else
  if (decide ((60 : Int) < (w.length : Int))) = true then
  some (1 : Int) else
  r1_May_L6 letters w (0 : Int)
theorem r1_May_L6_B_ch (r6 : Nat → Int → Option (Int)) (r6' : Int → Option (Int)) (h_r6 : ∀ a0, ChO (fun κ => r6 κ a0) (r6' a0)) (letters : Int) (w : (List Int)) (i : Int) : ChO (fun κ => r1_May_L6_B letters w (r6 κ) i) (r1_May_L6_B letters w r6' i) := by
  unfold r1_May_L6_B
  repeat' first | exact ChO.const _ | exact h_r6 _ | apply ChO.ite | apply ChO.G | apply ChO.both | (apply ChO.bind; intro _)
theorem r1_May_L6_cn  (letters : Int) (w : (List Int)) : Cn (r1_May_L6_F letters w) := fun g h hg x => r1_May_L6_B_ch  (fun κ i => g κ i) (fun i => h i) (fun i => hg i) letters w x
theorem r1_May_L6_eq  (letters : Int) (w : (List Int)) (i : Int) : r1_May_L6 letters w i = r1_May_L6_B letters w (r1_May_L6 letters w) i := LFix_eq (r1_May_L6_cn letters w) i

noncomputable def r1_Words_L4_B (a : (List Int)) (b : (List Int)) (r4 : Int → Option (Bool)) (i : Int) : Option (Bool) :=
  if (decide (i < (a.length : Int))) = true then
  G (0 ≤ i ∧ i < (a.length : Int)) (
  G (0 ≤ i ∧ i < (b.length : Int)) (
  if (decide (¬ (ix a i) = (ix b i))) = true then
  some false else
  G (fits (i + (1 : Int))) (
  r4 (i + (1 : Int))))) else
  some true
noncomputable def r1_Words_L4_F (a : (List Int)) (b : (List Int)) : (Int → Option (Bool)) → Int → Option (Bool) :=
  fun rec x => r1_Words_L4_B a b (fun i => rec i) x
noncomputable def r1_Words_L4 (a : (List Int)) (b : (List Int)) (i : Int) : Option (Bool) := LFix (r1_Words_L4_F a b ) i
noncomputable def r1_Words (a : (List Int)) (b : (List Int)) : Option (Bool) :=
  if (decide (¬ (a.length : Int) = (b.length : Int))) = true then
  some false else
  r1_Words_L4 a b (0 : Int)
theorem r1_Words_L4_B_ch (r4 : Nat → Int → Option (Bool)) (r4' : Int → Option (Bool)) (h_r4 : ∀ a0, ChO (fun κ => r4 κ a0) (r4' a0)) (a : (List Int)) (b : (List Int)) (i : Int) : ChO (fun κ => r1_Words_L4_B a b (r4 κ) i) (r1_Words_L4_B a b r4' i) := by
  unfold r1_Words_L4_B
  repeat' first | exact ChO.const _ | exact h_r4 _ | apply ChO.ite | apply ChO.G | apply ChO.both | (apply ChO.bind; intro _)
theorem r1_Words_L4_cn  (a : (List Int)) (b : (List Int)) : Cn (r1_Words_L4_F a b) := fun g h hg x => r1_Words_L4_B_ch  (fun κ i => g κ i) (fun i => h i) (fun i => hg i) a b x
theorem r1_Words_L4_eq  (a : (List Int)) (b : (List Int)) (i : Int) : r1_Words_L4 a b i = r1_Words_L4_B a b (r1_Words_L4 a b) i := LFix_eq (r1_Words_L4_cn a b) i

noncomputable def law_LyndonFinds_L11_B (w : (List Int)) (v : (List Int)) (y' : Int) (y'_1 : (List Int)) (r11 : Int → (List Int) → Option (Bool)) (i : Int) (want : (List Int)) : Option (Bool) :=
  G (fits (i + (v.length : Int))) (
  if (decide ((i + (v.length : Int)) ≤ (w.length : Int))) = true then
  G (fits (i + (v.length : Int))) (
  G (0 ≤ i ∧ i ≤ i + (v.length : Int) ∧ i + (v.length : Int) ≤ (w.length : Int)) (
  (r1_Words (cut w i (i + (v.length : Int))) v).bind (fun y'_5 =>
  if y'_5 = true then
  G (room want ([i]) 8) (
  G (fits (i + (1 : Int))) (
  r11 (i + (1 : Int)) (want ++ ([i])))) else
  G (fits (i + (1 : Int))) (
  r11 (i + (1 : Int)) want)))) else
  (r1_Words y'_1 want).bind (fun y'_6 =>
  if (decide (y' = (0 : Int))) = true then
  some y'_6 else
  some false))
noncomputable def law_LyndonFinds_L11_F (w : (List Int)) (v : (List Int)) (y' : Int) (y'_1 : (List Int)) : (Int × (List Int) → Option (Bool)) → Int × (List Int) → Option (Bool) :=
  fun rec x => law_LyndonFinds_L11_B w v y' y'_1 (fun i want => rec (i, want)) x.1 x.2
noncomputable def law_LyndonFinds_L11 (w : (List Int)) (v : (List Int)) (y' : Int) (y'_1 : (List Int)) (i : Int) (want : (List Int)) : Option (Bool) := LFix (law_LyndonFinds_L11_F w v y' y'_1 ) (i, want)
noncomputable def law_LyndonFinds_J6 (w : (List Int)) (v : (List Int)) (y' : Int) (y'_1 : (List Int)) (no_1 : Int) : Option (Bool) :=
  if (decide (¬ no_1 = (0 : Int))) = true then
  if (decide (y' = no_1)) = true then
  some (decide ((y'_1.length : Int) = (0 : Int))) else
  some false else
  law_LyndonFinds_L11 w v y' y'_1 (0 : Int) ([])
noncomputable def law_LyndonFinds_J5 (w : (List Int)) (v : (List Int)) (y' : Int) (y'_1 : (List Int)) (no : Int) (t : Bool) : Option (Bool) :=
  if t = true then
  law_LyndonFinds_J6 w v y' y'_1 (6 : Int) else
  law_LyndonFinds_J6 w v y' y'_1 no
noncomputable def law_LyndonFinds_J4 (w : (List Int)) (v : (List Int)) (y' : Int) (y'_1 : (List Int)) (no : Int) : Option (Bool) :=
  if (decide (no = (0 : Int))) = true then
  law_LyndonFinds_J5 w v y' y'_1 no (decide ((v.length : Int) = (0 : Int))) else
  law_LyndonFinds_J5 w v y' y'_1 no false
noncomputable def law_LyndonFinds (w : (List Int)) (v : (List Int)) : Option (Bool) :=
  (lyndon_Find w v).bind (fun y'_7 =>
  (r1_May (4 : Int) w).bind (fun y'_3 =>
  if (decide (y'_3 = (0 : Int))) = true then
  (r1_May (4 : Int) v).bind (fun y'_4 =>
  law_LyndonFinds_J4 w v y'_7.1 y'_7.2 y'_4) else
  law_LyndonFinds_J4 w v y'_7.1 y'_7.2 y'_3))
theorem law_LyndonFinds_L11_B_ch (r11 : Nat → Int → (List Int) → Option (Bool)) (r11' : Int → (List Int) → Option (Bool)) (h_r11 : ∀ a0 a1, ChO (fun κ => r11 κ a0 a1) (r11' a0 a1)) (w : (List Int)) (v : (List Int)) (y' : Int) (y'_1 : (List Int)) (i : Int) (want : (List Int)) : ChO (fun κ => law_LyndonFinds_L11_B w v y' y'_1 (r11 κ) i want) (law_LyndonFinds_L11_B w v y' y'_1 r11' i want) := by
  unfold law_LyndonFinds_L11_B
  repeat' first | exact ChO.const _ | exact h_r11 _ _ | apply ChO.ite | apply ChO.G | apply ChO.both | (apply ChO.bind; intro _)
theorem law_LyndonFinds_L11_cn  (w : (List Int)) (v : (List Int)) (y' : Int) (y'_1 : (List Int)) : Cn (law_LyndonFinds_L11_F w v y' y'_1) := fun g h hg x => law_LyndonFinds_L11_B_ch  (fun κ i want => g κ (i, want)) (fun i want => h (i, want)) (fun i want => hg (i, want)) w v y' y'_1 x.1 x.2
theorem law_LyndonFinds_L11_eq  (w : (List Int)) (v : (List Int)) (y' : Int) (y'_1 : (List Int)) (i : Int) (want : (List Int)) : law_LyndonFinds_L11 w v y' y'_1 i want = law_LyndonFinds_L11_B w v y' y'_1 (law_LyndonFinds_L11 w v y' y'_1) i want := LFix_eq (law_LyndonFinds_L11_cn w v y' y'_1) (i, want)

end Go.Proofs.Ytgjpkfbaobanlaa.lyndonFindsW
