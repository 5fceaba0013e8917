/- What the functions that 'LyndonBorders' reaches compute: plain functions. -/
import Derived.Test.YtgjpkfbaobanlaaEv1n21
set_option maxHeartbeats 1000000
set_option maxRecDepth 20000
set_option linter.unusedSimpArgs false
set_option linter.unusedVariables false
namespace Go.Proofs.Ytgjpkfbaobanlaa.lyndonBordersW
open Go Go.Ab
noncomputable def word_May_L6_B (letters : Int) (w : (List Int)) (r6 : Int → Option (Int)) (t : Int) : Option (Int) :=
  if (decide (t < (w.length : Int))) = true then
  G (0 ≤ t ∧ t < (w.length : Int)) (
  if (decide ((ix w t) < (0 : Int))) = true then
  some (2 : Int) else
  if (decide (letters ≤ (ix w t))) = true then
  some (2 : Int) else
  G (fits (t + (1 : Int))) (
  r6 (t + (1 : Int)))) else
  some (0 : Int)
noncomputable def word_May_L6_F (letters : Int) (w : (List Int)) : (Int → Option (Int)) → Int → Option (Int) :=
  fun rec x => word_May_L6_B letters w (fun t => rec t) x
noncomputable def word_May_L6 (letters : Int) (w : (List Int)) (t : Int) : Option (Int) := LFix (word_May_L6_F letters w ) t
noncomputable def word_May (letters : Int) (w : (List Int)) : Option (Int) :=
  if (decide (letters < (1 : Int))) = true then
  some (2 : Int) else
  if (decide ((4 : Int) < letters)) = true then
  some (2 : Int) else
  if (decide ((60 : Int) < (w.length : Int))) = true then
  some (1 : Int) else
  word_May_L6 letters w (0 : Int)
theorem word_May_L6_B_ch (r6 : Nat → Int → Option (Int)) (r6' : Int → Option (Int)) (h_r6 : ∀ a0, ChO (fun κ => r6 κ a0) (r6' a0)) (letters : Int) (w : (List Int)) (t : Int) : ChO (fun κ => word_May_L6_B letters w (r6 κ) t) (word_May_L6_B letters w r6' t) := by
  unfold word_May_L6_B
  repeat' first | exact ChO.const _ | exact h_r6 _ | apply ChO.ite | apply ChO.G | apply ChO.both | (apply ChO.bind; intro _)
theorem word_May_L6_cn  (letters : Int) (w : (List Int)) : Cn (word_May_L6_F letters w) := fun g h hg x => word_May_L6_B_ch  (fun κ t => g κ t) (fun t => h t) (fun t => hg t) letters w x
theorem word_May_L6_eq  (letters : Int) (w : (List Int)) (t : Int) : word_May_L6 letters w t = word_May_L6_B letters w (word_May_L6 letters w) t := LFix_eq (word_May_L6_cn letters w) t

noncomputable def lyndon_may_L2_B (l : (List (List Int))) (r2 : Int → Option (Int)) (t : Int) : Option (Int) :=
  if (decide (t < (l.length : Int))) = true then
  G (0 ≤ t ∧ t < (l.length : Int)) (
  (word_May (4 : Int) (ix l t)).bind (fun y' =>
  if (decide (¬ y' = (0 : Int))) = true then
  some y' else
  G (fits (t + (1 : Int))) (
  r2 (t + (1 : Int))))) else
  some (0 : Int)
noncomputable def lyndon_may_L2_F (l : (List (List Int))) : (Int → Option (Int)) → Int → Option (Int) :=
  fun rec x => lyndon_may_L2_B l (fun t => rec t) x
noncomputable def lyndon_may_L2 (l : (List (List Int))) (t : Int) : Option (Int) := LFix (lyndon_may_L2_F l ) t
noncomputable def lyndon_may (l : (List (List Int))) : Option (Int) :=
  lyndon_may_L2 l (0 : Int)
theorem lyndon_may_L2_B_ch (r2 : Nat → Int → Option (Int)) (r2' : Int → Option (Int)) (h_r2 : ∀ a0, ChO (fun κ => r2 κ a0) (r2' a0)) (l : (List (List Int))) (t : Int) : ChO (fun κ => lyndon_may_L2_B l (r2 κ) t) (lyndon_may_L2_B l r2' t) := by
  unfold lyndon_may_L2_B
  repeat' first | exact ChO.const _ | exact h_r2 _ | apply ChO.ite | apply ChO.G | apply ChO.both | (apply ChO.bind; intro _)
theorem lyndon_may_L2_cn  (l : (List (List Int))) : Cn (lyndon_may_L2_F l) := fun g h hg x => lyndon_may_L2_B_ch  (fun κ t => g κ t) (fun t => h t) (fun t => hg t) l x
theorem lyndon_may_L2_eq  (l : (List (List Int))) (t : Int) : lyndon_may_L2 l t = lyndon_may_L2_B l (lyndon_may_L2 l) t := LFix_eq (lyndon_may_L2_cn l) t

noncomputable def lyndon_borders_J6_1 (l : (List Int)) (k_1 : Int) (r6 : (Int → Option (List Int))) (t_2 : Bool) : Option (List Int) :=
  G (fits (k_1 - (1 : Int))) (
  G (0 ≤ k_1 - (1 : Int) ∧ k_1 - (1 : Int) < (l.length : Int)) (
  G ((k_1 - (1 : Int)).toNat < l.length) (
  r6 (ix l (k_1 - (1 : Int))))))
noncomputable def lyndon_borders_J8 (t : Int) (l : (List Int)) (r4 : (Int → Int → (List Int) → Option (List Int))) (k_1 : Int) (t_3 : Bool) : Option (List Int) :=
  if t_3 = true then
  G (fits (k_1 + (1 : Int))) (
  G (room l ([k_1 + (1 : Int)]) 8) (
  G (fits (t + (1 : Int))) (
  r4 (k_1 + (1 : Int)) (t + (1 : Int)) (l ++ ([k_1 + (1 : Int)]))))) else
  G (room l ([k_1]) 8) (
  G (fits (t + (1 : Int))) (
  r4 k_1 (t + (1 : Int)) (l ++ ([k_1]))))
noncomputable def lyndon_borders_J6 (w : (List Int)) (t : Int) (l : (List Int)) (r4 : (Int → Int → (List Int) → Option (List Int))) (k_1 : Int) (r6 : (Int → Option (List Int))) (t_1 : Bool) : Option (List Int) :=
  if t_1 = true then
  lyndon_borders_J6_1 l k_1 r6 t_1 else
  if (decide ((0 : Int) < t)) = true then
  G (0 ≤ t ∧ t < (w.length : Int)) (
  G (0 ≤ k_1 ∧ k_1 < (w.length : Int)) (
  lyndon_borders_J8 t l r4 k_1 (decide ((ix w t) = (ix w k_1))))) else
  lyndon_borders_J8 t l r4 k_1 false
noncomputable def lyndon_borders_L6_B (w : (List Int)) (t : Int) (l : (List Int)) (r4 : (Int → Int → (List Int) → Option (List Int))) (r6 : Int → Option (List Int)) (k_1 : Int) : Option (List Int) :=
  if (decide ((0 : Int) < t)) = true then
  if (decide ((0 : Int) < k_1)) = true then
  G (0 ≤ t ∧ t < (w.length : Int)) (
  G (0 ≤ k_1 ∧ k_1 < (w.length : Int)) (
  lyndon_borders_J6 w t l r4 k_1 r6 (decide (¬ (ix w t) = (ix w k_1))))) else
  lyndon_borders_J6 w t l r4 k_1 r6 false else
  lyndon_borders_J6 w t l r4 k_1 r6 false
noncomputable def lyndon_borders_L6_F (w : (List Int)) (t : Int) (l : (List Int)) (r4 : (Int → Int → (List Int) → Option (List Int))) : (Int → Option (List Int)) → Int → Option (List Int) :=
  fun rec x => lyndon_borders_L6_B w t l r4 (fun k_1 => rec k_1) x
noncomputable def lyndon_borders_L6 (w : (List Int)) (t : Int) (l : (List Int)) (r4 : (Int → Int → (List Int) → Option (List Int))) (k_1 : Int) : Option (List Int) := LFix (lyndon_borders_L6_F w t l r4 ) k_1
noncomputable def lyndon_borders_L4_B (w : (List Int)) (r4 : Int → Int → (List Int) → Option (List Int)) (k : Int) (t : Int) (l : (List Int)) : Option (List Int) :=
  if (decide (t < (w.length : Int))) = true then
  lyndon_borders_L6 w t l r4 k else
  some l
noncomputable def lyndon_borders_L4_F (w : (List Int)) : (Int × Int × (List Int) → Option (List Int)) → Int × Int × (List Int) → Option (List Int) :=
  fun rec x => lyndon_borders_L4_B w (fun k t l => rec (k, t, l)) x.1 x.2.1 x.2.2
noncomputable def lyndon_borders_L4 (w : (List Int)) (k : Int) (t : Int) (l : (List Int)) : Option (List Int) := LFix (lyndon_borders_L4_F w ) (k, t, l)
noncomputable def lyndon_borders (w : (List Int)) : Option (List Int) :=
  lyndon_borders_L4 w (0 : Int) (0 : Int) ([])
theorem lyndon_borders_J6_1_ch (r6 : Nat → Int → Option (List Int)) (r6' : Int → Option (List Int)) (h_r6 : ∀ a0, ChO (fun κ => r6 κ a0) (r6' a0)) (l : (List Int)) (k_1 : Int) (t_2 : Bool) : ChO (fun κ => lyndon_borders_J6_1 l k_1 (r6 κ) t_2) (lyndon_borders_J6_1 l k_1 r6' t_2) := by
  unfold lyndon_borders_J6_1
  repeat' first | exact ChO.const _ | exact h_r6 _ | apply ChO.ite | apply ChO.G | apply ChO.both | (apply ChO.bind; intro _)
theorem lyndon_borders_J8_ch (r4 : Nat → Int → Int → (List Int) → Option (List Int)) (r4' : Int → Int → (List Int) → Option (List Int)) (h_r4 : ∀ a0 a1 a2, ChO (fun κ => r4 κ a0 a1 a2) (r4' a0 a1 a2)) (t : Int) (l : (List Int)) (k_1 : Int) (t_3 : Bool) : ChO (fun κ => lyndon_borders_J8 t l (r4 κ) k_1 t_3) (lyndon_borders_J8 t l r4' k_1 t_3) := by
  unfold lyndon_borders_J8
  repeat' first | exact ChO.const _ | exact h_r4 _ _ _ | (apply lyndon_borders_J6_1_ch <;> assumption) | apply ChO.ite | apply ChO.G | apply ChO.both | (apply ChO.bind; intro _)
theorem lyndon_borders_J6_ch (r4 : Nat → Int → Int → (List Int) → Option (List Int)) (r4' : Int → Int → (List Int) → Option (List Int)) (h_r4 : ∀ a0 a1 a2, ChO (fun κ => r4 κ a0 a1 a2) (r4' a0 a1 a2)) (r6 : Nat → Int → Option (List Int)) (r6' : Int → Option (List Int)) (h_r6 : ∀ a0, ChO (fun κ => r6 κ a0) (r6' a0)) (w : (List Int)) (t : Int) (l : (List Int)) (k_1 : Int) (t_1 : Bool) : ChO (fun κ => lyndon_borders_J6 w t l (r4 κ) k_1 (r6 κ) t_1) (lyndon_borders_J6 w t l r4' k_1 r6' t_1) := by
  unfold lyndon_borders_J6
  repeat' first | exact ChO.const _ | exact h_r4 _ _ _ | exact h_r6 _ | (apply lyndon_borders_J6_1_ch <;> assumption) | (apply lyndon_borders_J8_ch <;> assumption) | apply ChO.ite | apply ChO.G | apply ChO.both | (apply ChO.bind; intro _)
theorem lyndon_borders_L6_B_ch (r4 : Nat → Int → Int → (List Int) → Option (List Int)) (r4' : Int → Int → (List Int) → Option (List Int)) (h_r4 : ∀ a0 a1 a2, ChO (fun κ => r4 κ a0 a1 a2) (r4' a0 a1 a2)) (r6 : Nat → Int → Option (List Int)) (r6' : Int → Option (List Int)) (h_r6 : ∀ a0, ChO (fun κ => r6 κ a0) (r6' a0)) (w : (List Int)) (t : Int) (l : (List Int)) (k_1 : Int) : ChO (fun κ => lyndon_borders_L6_B w t l (r4 κ) (r6 κ) k_1) (lyndon_borders_L6_B w t l r4' r6' k_1) := by
  unfold lyndon_borders_L6_B
  repeat' first | exact ChO.const _ | exact h_r4 _ _ _ | exact h_r6 _ | (apply lyndon_borders_J6_1_ch <;> assumption) | (apply lyndon_borders_J8_ch <;> assumption) | (apply lyndon_borders_J6_ch <;> assumption) | apply ChO.ite | apply ChO.G | apply ChO.both | (apply ChO.bind; intro _)
theorem lyndon_borders_L6_cn (r4 : Int → Int → (List Int) → Option (List Int)) (w : (List Int)) (t : Int) (l : (List Int)) : Cn (lyndon_borders_L6_F w t l r4) := fun g h hg x => lyndon_borders_L6_B_ch (fun _ => r4) r4 (fun _ _ _ => ChO.const _) (fun κ k_1 => g κ k_1) (fun k_1 => h k_1) (fun k_1 => hg k_1) w t l x
theorem lyndon_borders_L6_eq (r4 : Int → Int → (List Int) → Option (List Int)) (w : (List Int)) (t : Int) (l : (List Int)) (k_1 : Int) : lyndon_borders_L6 w t l r4 k_1 = lyndon_borders_L6_B w t l r4 (lyndon_borders_L6 w t l r4) k_1 := LFix_eq (lyndon_borders_L6_cn r4 w t l) k_1
theorem lyndon_borders_L6_ch (r4 : Nat → Int → Int → (List Int) → Option (List Int)) (r4' : Int → Int → (List Int) → Option (List Int)) (h_r4 : ∀ a0 a1 a2, ChO (fun κ => r4 κ a0 a1 a2) (r4' a0 a1 a2)) (w : (List Int)) (t : Int) (l : (List Int)) (k_1 : Int) : ChO (fun κ => lyndon_borders_L6 w t l (r4 κ) k_1) (lyndon_borders_L6 w t l r4' k_1) := by
  unfold lyndon_borders_L6
  exact LFix_ch (fun κ => (lyndon_borders_L6_cn (r4 κ) w t l).mono) (lyndon_borders_L6_cn r4' w t l).mono (fun g h hg x => lyndon_borders_L6_B_ch r4 r4' h_r4 (fun κ k_1 => g κ k_1) (fun k_1 => h k_1) (fun k_1 => hg k_1) w t l x) _
theorem lyndon_borders_L4_B_ch (r4 : Nat → Int → Int → (List Int) → Option (List Int)) (r4' : Int → Int → (List Int) → Option (List Int)) (h_r4 : ∀ a0 a1 a2, ChO (fun κ => r4 κ a0 a1 a2) (r4' a0 a1 a2)) (w : (List Int)) (k : Int) (t : Int) (l : (List Int)) : ChO (fun κ => lyndon_borders_L4_B w (r4 κ) k t l) (lyndon_borders_L4_B w r4' k t l) := by
  unfold lyndon_borders_L4_B
  repeat' first | exact ChO.const _ | exact h_r4 _ _ _ | (apply lyndon_borders_J6_1_ch <;> assumption) | (apply lyndon_borders_J8_ch <;> assumption) | (apply lyndon_borders_J6_ch <;> assumption) | (apply lyndon_borders_L6_ch <;> assumption) | apply ChO.ite | apply ChO.G | apply ChO.both | (apply ChO.bind; intro _)
theorem lyndon_borders_L4_cn  (w : (List Int)) : Cn (lyndon_borders_L4_F w) := fun g h hg x => lyndon_borders_L4_B_ch  (fun κ k t l => g κ (k, t, l)) (fun k t l => h (k, t, l)) (fun k t l => hg (k, t, l)) w x.1 x.2.1 x.2.2
theorem lyndon_borders_L4_eq  (w : (List Int)) (k : Int) (t : Int) (l : (List Int)) : lyndon_borders_L4 w k t l = lyndon_borders_L4_B w (lyndon_borders_L4 w) k t l := LFix_eq (lyndon_borders_L4_cn w) (k, t, l)

noncomputable def lyndon_Borders (w : (List Int)) : Option (Int × (List Int)) :=
  (lyndon_may ([w])).bind (fun y' =>
  if (decide (¬ y' = (0 : Int))) = true then
  some (y', []) else
  (lyndon_borders w).bind (fun y'_1 =>
  some ((0 : Int), y'_1)))

noncomputable def slices_Clone (s : (List Int)) : Option (List Int) :=
  if s.length = 0 then both [(.list (.int .i64))] (
  some ([])) (
  G (room ([] : List Int) s 8) (
  some (([] : List Int) ++ s))) else
  G (room ([] : List Int) s 8) (
  some (([] : List Int) ++ s))

noncomputable def lyndon_Root_J10 (w : (List Int)) (size : Int) : Option (Int × Int × (List Int)) :=
  G (0 ≤ (0 : Int) ∧ (0 : Int) ≤ size ∧ size ≤ (w.length : Int)) (
  G (size ≠ 0) (
  G (fits (Int.tdiv (w.length : Int) size)) (
  (slices_Clone (cut w (0 : Int) size)).bind (fun y'_2 =>
  some (Int.tdiv (w.length : Int) size, (0 : Int), y'_2)))))
noncomputable def lyndon_Root (w : (List Int)) : Option (Int × Int × (List Int)) :=
  (lyndon_may ([w])).bind (fun y' =>
  if (decide (¬ y' = (0 : Int))) = true then
  some ((0 : Int), y', []) else
  if (decide ((w.length : Int) = (0 : Int))) = true then
  some ((0 : Int), (0 : Int), []) else
  (lyndon_borders w).bind (fun y'_1 =>
  G (fits ((w.length : Int) - (1 : Int))) (
  G (0 ≤ (w.length : Int) - (1 : Int) ∧ (w.length : Int) - (1 : Int) < (y'_1.length : Int)) (
  G (((w.length : Int) - (1 : Int)).toNat < y'_1.length) (
  G (fits ((w.length : Int) - (ix y'_1 ((w.length : Int) - (1 : Int))))) (
  G (((w.length : Int) - (ix y'_1 ((w.length : Int) - (1 : Int)))) ≠ 0) (
  if (decide (¬ (Int.tmod (w.length : Int) ((w.length : Int) - (ix y'_1 ((w.length : Int) - (1 : Int))))) = (0 : Int))) = true then
  lyndon_Root_J10 w (w.length : Int) else
  lyndon_Root_J10 w ((w.length : Int) - (ix y'_1 ((w.length : Int) - (1 : Int)))))))))))

noncomputable def r1_May_L6_B (letters : Int) (w : (List Int)) (r6 : Int → Option (Int)) (i : Int) : Option (Int) :=
  if (decide (i < (w.length : Int))) = true then
  G (0 ≤ i ∧ i < (w.length : Int)) (
  if (decide ((ix w i) < (0 : Int))) = true then
  some (2 : Int) else
  G (0 ≤ i ∧ i < (w.length : Int)) (
  if (decide (letters ≤ (ix w i))) = true then
  some (2 : Int) else
  G (fits (i + (1 : Int))) (
  r6 (i + (1 : Int))))) else
  some (0 : Int)
noncomputable def r1_May_L6_F (letters : Int) (w : (List Int)) : (Int → Option (Int)) → Int → Option (Int) :=
  fun rec x => r1_May_L6_B letters w (fun i => rec i) x
noncomputable def r1_May_L6 (letters : Int) (w : (List Int)) (i : Int) : Option (Int) := LFix (r1_May_L6_F letters w ) i
noncomputable def r1_May (letters : Int) (w : (List Int)) : Option (Int) :=
  if (decide (letters < (1 : Int))) = true then
  some (2 : Int) else
  if (decide ((4 : Int) < letters)) = true then
  some (2 : Int) else
  if (decide ((60 : Int) < (w.length : Int))) = true then
  some (1 : Int) else
  r1_May_L6 letters w (0 : Int)
theorem r1_May_L6_B_ch (r6 : Nat → Int → Option (Int)) (r6' : Int → Option (Int)) (h_r6 : ∀ a0, ChO (fun κ => r6 κ a0) (r6' a0)) (letters : Int) (w : (List Int)) (i : Int) : ChO (fun κ => r1_May_L6_B letters w (r6 κ) i) (r1_May_L6_B letters w r6' i) := by
  unfold r1_May_L6_B
  repeat' first | exact ChO.const _ | exact h_r6 _ | apply ChO.ite | apply ChO.G | apply ChO.both | (apply ChO.bind; intro _)
theorem r1_May_L6_cn  (letters : Int) (w : (List Int)) : Cn (r1_May_L6_F letters w) := fun g h hg x => r1_May_L6_B_ch  (fun κ i => g κ i) (fun i => h i) (fun i => hg i) letters w x
theorem r1_May_L6_eq  (letters : Int) (w : (List Int)) (i : Int) : r1_May_L6 letters w i = r1_May_L6_B letters w (r1_May_L6 letters w) i := LFix_eq (r1_May_L6_cn letters w) i

noncomputable def r1_Words_L4_B (a : (List Int)) (b : (List Int)) (r4 : Int → Option (Bool)) (i : Int) : Option (Bool) :=
  if (decide (i < (a.length : Int))) = true then
  G (0 ≤ i ∧ i < (a.length : Int)) (
  G (0 ≤ i ∧ i < (b.length : Int)) (
  if (decide (¬ (ix a i) = (ix b i))) = true then
  some false else
  G (fits (i + (1 : Int))) (
  r4 (i + (1 : Int))))) else
  some true
noncomputable def r1_Words_L4_F (a : (List Int)) (b : (List Int)) : (Int → Option (Bool)) → Int → Option (Bool) :=
  fun rec x => r1_Words_L4_B a b (fun i => rec i) x
noncomputable def r1_Words_L4 (a : (List Int)) (b : (List Int)) (i : Int) : Option (Bool) := LFix (r1_Words_L4_F a b ) i
noncomputable def r1_Words (a : (List Int)) (b : (List Int)) : Option (Bool) :=
  if (decide (¬ (a.length : Int) = (b.length : Int))) = true then
  some false else
  r1_Words_L4 a b (0 : Int)
theorem r1_Words_L4_B_ch (r4 : Nat → Int → Option (Bool)) (r4' : Int → Option (Bool)) (h_r4 : ∀ a0, ChO (fun κ => r4 κ a0) (r4' a0)) (a : (List Int)) (b : (List Int)) (i : Int) : ChO (fun κ => r1_Words_L4_B a b (r4 κ) i) (r1_Words_L4_B a b r4' i) := by
  unfold r1_Words_L4_B
  repeat' first | exact ChO.const _ | exact h_r4 _ | apply ChO.ite | apply ChO.G | apply ChO.both | (apply ChO.bind; intro _)
theorem r1_Words_L4_cn  (a : (List Int)) (b : (List Int)) : Cn (r1_Words_L4_F a b) := fun g h hg x => r1_Words_L4_B_ch  (fun κ i => g κ i) (fun i => h i) (fun i => hg i) a b x
theorem r1_Words_L4_eq  (a : (List Int)) (b : (List Int)) (i : Int) : r1_Words_L4 a b i = r1_Words_L4_B a b (r1_Words_L4 a b) i := LFix_eq (r1_Words_L4_cn a b) i

noncomputable def r31_Border_L2_B (w : (List Int)) (r2 : Int → Option (Int)) (k : Int) : Option (Int) :=
  if (decide ((0 : Int) < k)) = true then
  G (0 ≤ (0 : Int) ∧ (0 : Int) ≤ k ∧ k ≤ (w.length : Int)) (
  G (fits ((w.length : Int) - k)) (
  G (0 ≤ (w.length : Int) - k ∧ (w.length : Int) - k ≤ (w.length : Int) ∧ (w.length : Int) ≤ (w.length : Int)) (
  (r1_Words (cut w (0 : Int) k) (cut w ((w.length : Int) - k) (w.length : Int))).bind (fun y' =>
  if y' = true then
  some k else
  G (fits (k - (1 : Int))) (
  r2 (k - (1 : Int))))))) else
  some (0 : Int)
noncomputable def r31_Border_L2_F (w : (List Int)) : (Int → Option (Int)) → Int → Option (Int) :=
  fun rec x => r31_Border_L2_B w (fun k => rec k) x
noncomputable def r31_Border_L2 (w : (List Int)) (k : Int) : Option (Int) := LFix (r31_Border_L2_F w ) k
noncomputable def r31_Border (w : (List Int)) : Option (Int) :=
  G (fits ((w.length : Int) - (1 : Int))) (
  r31_Border_L2 w ((w.length : Int) - (1 : Int)))
theorem r31_Border_L2_B_ch (r2 : Nat → Int → Option (Int)) (r2' : Int → Option (Int)) (h_r2 : ∀ a0, ChO (fun κ => r2 κ a0) (r2' a0)) (w : (List Int)) (k : Int) : ChO (fun κ => r31_Border_L2_B w (r2 κ) k) (r31_Border_L2_B w r2' k) := by
  unfold r31_Border_L2_B
  repeat' first | exact ChO.const _ | exact h_r2 _ | apply ChO.ite | apply ChO.G | apply ChO.both | (apply ChO.bind; intro _)
theorem r31_Border_L2_cn  (w : (List Int)) : Cn (r31_Border_L2_F w) := fun g h hg x => r31_Border_L2_B_ch  (fun κ k => g κ k) (fun k => h k) (fun k => hg k) w x
theorem r31_Border_L2_eq  (w : (List Int)) (k : Int) : r31_Border_L2 w k = r31_Border_L2_B w (r31_Border_L2 w) k := LFix_eq (r31_Border_L2_cn w) k

noncomputable def r31_Whole_L4_B (w : (List Int)) (u : (List Int)) (r4 : Int → Option (Bool)) (i : Int) : Option (Bool) :=
  if (decide (i < (w.length : Int))) = true then
  G (0 ≤ i ∧ i < (w.length : Int)) (
  G ((u.length : Int) ≠ 0) (
  G (0 ≤ Int.tmod i (u.length : Int) ∧ Int.tmod i (u.length : Int) < (u.length : Int)) (
  if (decide (¬ (ix w i) = (ix u (Int.tmod i (u.length : Int))))) = true then
  some false else
  G (fits (i + (1 : Int))) (
  r4 (i + (1 : Int)))))) else
  some true
noncomputable def r31_Whole_L4_F (w : (List Int)) (u : (List Int)) : (Int → Option (Bool)) → Int → Option (Bool) :=
  fun rec x => r31_Whole_L4_B w u (fun i => rec i) x
noncomputable def r31_Whole_L4 (w : (List Int)) (u : (List Int)) (i : Int) : Option (Bool) := LFix (r31_Whole_L4_F w u ) i
noncomputable def r31_Whole (w : (List Int)) (u : (List Int)) (times : Int) : Option (Bool) :=
  G (fits ((u.length : Int) * times)) (
  if (decide (¬ ((u.length : Int) * times) = (w.length : Int))) = true then
  some false else
  r31_Whole_L4 w u (0 : Int))
theorem r31_Whole_L4_B_ch (r4 : Nat → Int → Option (Bool)) (r4' : Int → Option (Bool)) (h_r4 : ∀ a0, ChO (fun κ => r4 κ a0) (r4' a0)) (w : (List Int)) (u : (List Int)) (i : Int) : ChO (fun κ => r31_Whole_L4_B w u (r4 κ) i) (r31_Whole_L4_B w u r4' i) := by
  unfold r31_Whole_L4_B
  repeat' first | exact ChO.const _ | exact h_r4 _ | apply ChO.ite | apply ChO.G | apply ChO.both | (apply ChO.bind; intro _)
theorem r31_Whole_L4_cn  (w : (List Int)) (u : (List Int)) : Cn (r31_Whole_L4_F w u) := fun g h hg x => r31_Whole_L4_B_ch  (fun κ i => g κ i) (fun i => h i) (fun i => hg i) w u x
theorem r31_Whole_L4_eq  (w : (List Int)) (u : (List Int)) (i : Int) : r31_Whole_L4 w u i = r31_Whole_L4_B w u (r31_Whole_L4 w u) i := LFix_eq (r31_Whole_L4_cn w u) i

noncomputable def r31_Root_L2_B (w : (List Int)) (r2 : Int → Option (Int)) (n : Int) : Option (Int) :=
  if (decide (n ≤ (w.length : Int))) = true then
  G (n ≠ 0) (
  if (decide (¬ (Int.tmod (w.length : Int) n) = (0 : Int))) = true then
  G (fits (n + (1 : Int))) (
  r2 (n + (1 : Int))) else
  G (0 ≤ (0 : Int) ∧ (0 : Int) ≤ n ∧ n ≤ (w.length : Int)) (
  G (n ≠ 0) (
  G (fits (Int.tdiv (w.length : Int) n)) (
  (r31_Whole w (cut w (0 : Int) n) (Int.tdiv (w.length : Int) n)).bind (fun y' =>
  if y' = true then
  some n else
  G (fits (n + (1 : Int))) (
  r2 (n + (1 : Int)))))))) else
  some (0 : Int)
noncomputable def r31_Root_L2_F (w : (List Int)) : (Int → Option (Int)) → Int → Option (Int) :=
  fun rec x => r31_Root_L2_B w (fun n => rec n) x
noncomputable def r31_Root_L2 (w : (List Int)) (n : Int) : Option (Int) := LFix (r31_Root_L2_F w ) n
noncomputable def r31_Root (w : (List Int)) : Option (Int) :=
  r31_Root_L2 w (1 : Int)
theorem r31_Root_L2_B_ch (r2 : Nat → Int → Option (Int)) (r2' : Int → Option (Int)) (h_r2 : ∀ a0, ChO (fun κ => r2 κ a0) (r2' a0)) (w : (List Int)) (n : Int) : ChO (fun κ => r31_Root_L2_B w (r2 κ) n) (r31_Root_L2_B w r2' n) := by
  unfold r31_Root_L2_B
  repeat' first | exact ChO.const _ | exact h_r2 _ | apply ChO.ite | apply ChO.G | apply ChO.both | (apply ChO.bind; intro _)
theorem r31_Root_L2_cn  (w : (List Int)) : Cn (r31_Root_L2_F w) := fun g h hg x => r31_Root_L2_B_ch  (fun κ n => g κ n) (fun n => h n) (fun n => hg n) w x
theorem r31_Root_L2_eq  (w : (List Int)) (n : Int) : r31_Root_L2 w n = r31_Root_L2_B w (r31_Root_L2 w) n := LFix_eq (r31_Root_L2_cn w) n

noncomputable def law_LyndonBorders_L9_B (w : (List Int)) (y'_1 : (List Int)) (y'_3 : Int) (y'_5 : (List Int)) (r9 : Int → Option (Bool)) (i : Int) : Option (Bool) :=
  if (decide (i < (w.length : Int))) = true then
  G (fits (i + (1 : Int))) (
  G (0 ≤ (0 : Int) ∧ (0 : Int) ≤ i + (1 : Int) ∧ i + (1 : Int) ≤ (w.length : Int)) (
  (r31_Border (cut w (0 : Int) (i + (1 : Int)))).bind (fun y'_8 =>
  G (0 ≤ i ∧ i < (y'_1.length : Int)) (
  G ((i).toNat < y'_1.length) (
  if (decide (¬ (ix y'_1 i) = y'_8)) = true then
  some false else
  G (fits (i + (1 : Int))) (
  r9 (i + (1 : Int)))))))) else
  if (decide ((w.length : Int) = (0 : Int))) = true then
  if (decide (y'_3 = (0 : Int))) = true then
  some (decide ((y'_5.length : Int) = (0 : Int))) else
  some false else
  (r31_Root w).bind (fun y'_9 =>
  G (0 ≤ (0 : Int) ∧ (0 : Int) ≤ y'_9 ∧ y'_9 ≤ (w.length : Int)) (
  (r1_Words y'_5 (cut w (0 : Int) y'_9)).bind (fun y'_10 =>
  if y'_10 = true then
  G (y'_9 ≠ 0) (
  G (fits (Int.tdiv (w.length : Int) y'_9)) (
  some (decide (y'_3 = (Int.tdiv (w.length : Int) y'_9))))) else
  some false)))
noncomputable def law_LyndonBorders_L9_F (w : (List Int)) (y'_1 : (List Int)) (y'_3 : Int) (y'_5 : (List Int)) : (Int → Option (Bool)) → Int → Option (Bool) :=
  fun rec x => law_LyndonBorders_L9_B w y'_1 y'_3 y'_5 (fun i => rec i) x
noncomputable def law_LyndonBorders_L9 (w : (List Int)) (y'_1 : (List Int)) (y'_3 : Int) (y'_5 : (List Int)) (i : Int) : Option (Bool) := LFix (law_LyndonBorders_L9_F w y'_1 y'_3 y'_5 ) i
noncomputable def law_LyndonBorders (w : (List Int)) : Option (Bool) :=
  (lyndon_Borders w).bind (fun y'_12 =>
  (lyndon_Root w).bind (fun y'_11 =>
  (r1_May (4 : Int) w).bind (fun y'_7 =>
  if (decide (¬ y'_7 = (0 : Int))) = true then
  if (decide (y'_12.1 = y'_7)) = true then
  if (decide (y'_11.2.1 = y'_7)) = true then
  if (decide (y'_11.1 = (0 : Int))) = true then
  G (fits ((y'_12.2.length : Int) + (y'_11.2.2.length : Int))) (
  some (decide (((y'_12.2.length : Int) + (y'_11.2.2.length : Int)) = (0 : Int)))) else
  some false else
  some false else
  some false else
  if (decide (¬ y'_12.1 = (0 : Int))) = true then
  some false else
  if (decide (¬ y'_11.2.1 = (0 : Int))) = true then
  some false else
  if (decide (¬ (y'_12.2.length : Int) = (w.length : Int))) = true then
  some false else
  law_LyndonBorders_L9 w y'_12.2 y'_11.1 y'_11.2.2 (0 : Int))))
theorem law_LyndonBorders_L9_B_ch (r9 : Nat → Int → Option (Bool)) (r9' : Int → Option (Bool)) (h_r9 : ∀ a0, ChO (fun κ => r9 κ a0) (r9' a0)) (w : (List Int)) (y'_1 : (List Int)) (y'_3 : Int) (y'_5 : (List Int)) (i : Int) : ChO (fun κ => law_LyndonBorders_L9_B w y'_1 y'_3 y'_5 (r9 κ) i) (law_LyndonBorders_L9_B w y'_1 y'_3 y'_5 r9' i) := by
  unfold law_LyndonBorders_L9_B
  repeat' first | exact ChO.const _ | exact h_r9 _ | apply ChO.ite | apply ChO.G | apply ChO.both | (apply ChO.bind; intro _)
theorem law_LyndonBorders_L9_cn  (w : (List Int)) (y'_1 : (List Int)) (y'_3 : Int) (y'_5 : (List Int)) : Cn (law_LyndonBorders_L9_F w y'_1 y'_3 y'_5) := fun g h hg x => law_LyndonBorders_L9_B_ch  (fun κ i => g κ i) (fun i => h i) (fun i => hg i) w y'_1 y'_3 y'_5 x
theorem law_LyndonBorders_L9_eq  (w : (List Int)) (y'_1 : (List Int)) (y'_3 : Int) (y'_5 : (List Int)) (i : Int) : law_LyndonBorders_L9 w y'_1 y'_3 y'_5 i = law_LyndonBorders_L9_B w y'_1 y'_3 y'_5 (law_LyndonBorders_L9 w y'_1 y'_3 y'_5) i := LFix_eq (law_LyndonBorders_L9_cn w y'_1 y'_3 y'_5) i

end Go.Proofs.Ytgjpkfbaobanlaa.lyndonBordersW
