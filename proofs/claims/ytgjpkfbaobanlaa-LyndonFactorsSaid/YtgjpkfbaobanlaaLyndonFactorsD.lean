/- What the functions that 'LyndonFactors' reaches compute: plain functions. -/
import Derived.Test.YtgjpkfbaobanlaaEv2n21
set_option maxHeartbeats 1000000
set_option maxRecDepth 20000
set_option linter.unusedSimpArgs false
set_option linter.unusedVariables false
namespace Go.Proofs.Ytgjpkfbaobanlaa.lyndonFactorsW
open Go Go.Ab
noncomputable def law_list (l : (List Int)) : Option (List Int) :=
  G (fits ((l.length : Int) + (3 : Int))) (
  G (mkOK (l.length : Int) ((l.length : Int) + (3 : Int)) 8) (
  some (l.take (List.replicate ((l.length : Int)).toNat (0 : Int)).length ++ (List.replicate ((l.length : Int)).toNat (0 : Int)).drop l.length)))

noncomputable def word_May_L6_B (letters : Int) (w : (List Int)) (r6 : Int → Option (Int)) (t : Int) : Option (Int) :=
  if (decide (t < (w.length : Int))) = true then
  G (0 ≤ t ∧ t < (w.length : Int)) (
  if (decide ((ix w t) < (0 : Int))) = true then
  some (2 : Int) else
  if (decide (letters ≤ (ix w t))) = true then
  some (2 : Int) else
  G (fits (t + (1 : Int))) (
  r6 (t + (1 : Int)))) else
  some (0 : Int)
noncomputable def word_May_L6_F (letters : Int) (w : (List Int)) : (Int → Option (Int)) → Int → Option (Int) :=
  fun rec x => word_May_L6_B letters w (fun t => rec t) x
noncomputable def word_May_L6 (letters : Int) (w : (List Int)) (t : Int) : Option (Int) := LFix (word_May_L6_F letters w ) t
noncomputable def word_May (letters : Int) (w : (List Int)) : Option (Int) :=
  if (decide (letters < (1 : Int))) = true then
  some (2 : Int) else
  if (decide ((4 : Int) < letters)) = true then
  some (2 : Int) else
  if (decide ((60 : Int) < (w.length : Int))) = true then
  some (1 : Int) else
  word_May_L6 letters w (0 : Int)
theorem word_May_L6_B_ch (r6 : Nat → Int → Option (Int)) (r6' : Int → Option (Int)) (h_r6 : ∀ a0, ChO (fun κ => r6 κ a0) (r6' a0)) (letters : Int) (w : (List Int)) (t : Int) : ChO (fun κ => word_May_L6_B letters w (r6 κ) t) (word_May_L6_B letters w r6' t) := by
  unfold word_May_L6_B
  repeat' first | exact ChO.const _ | exact h_r6 _ | apply ChO.ite | apply ChO.G | apply ChO.both | (apply ChO.bind; intro _)
theorem word_May_L6_cn  (letters : Int) (w : (List Int)) : Cn (word_May_L6_F letters w) := fun g h hg x => word_May_L6_B_ch  (fun κ t => g κ t) (fun t => h t) (fun t => hg t) letters w x
theorem word_May_L6_eq  (letters : Int) (w : (List Int)) (t : Int) : word_May_L6 letters w t = word_May_L6_B letters w (word_May_L6 letters w) t := LFix_eq (word_May_L6_cn letters w) t

noncomputable def lyndon_may_L2_B (l : (List (List Int))) (r2 : Int → Option (Int)) (t : Int) : Option (Int) :=
  if (decide (t < (l.length : Int))) = true then
  G (0 ≤ t ∧ t < (l.length : Int)) (
  (word_May (4 : Int) (ix l t)).bind (fun y' =>
  if (decide (¬ y' = (0 : Int))) = true then
  some y' else
  G (fits (t + (1 : Int))) (
  r2 (t + (1 : Int))))) else
  some (0 : Int)
noncomputable def lyndon_may_L2_F (l : (List (List Int))) : (Int → Option (Int)) → Int → Option (Int) :=
  fun rec x => lyndon_may_L2_B l (fun t => rec t) x
noncomputable def lyndon_may_L2 (l : (List (List Int))) (t : Int) : Option (Int) := LFix (lyndon_may_L2_F l ) t
noncomputable def lyndon_may (l : (List (List Int))) : Option (Int) :=
  lyndon_may_L2 l (0 : Int)
theorem lyndon_may_L2_B_ch (r2 : Nat → Int → Option (Int)) (r2' : Int → Option (Int)) (h_r2 : ∀ a0, ChO (fun κ => r2 κ a0) (r2' a0)) (l : (List (List Int))) (t : Int) : ChO (fun κ => lyndon_may_L2_B l (r2 κ) t) (lyndon_may_L2_B l r2' t) := by
  unfold lyndon_may_L2_B
  repeat' first | exact ChO.const _ | exact h_r2 _ | apply ChO.ite | apply ChO.G | apply ChO.both | (apply ChO.bind; intro _)
theorem lyndon_may_L2_cn  (l : (List (List Int))) : Cn (lyndon_may_L2_F l) := fun g h hg x => lyndon_may_L2_B_ch  (fun κ t => g κ t) (fun t => h t) (fun t => hg t) l x
theorem lyndon_may_L2_eq  (l : (List (List Int))) (t : Int) : lyndon_may_L2 l t = lyndon_may_L2_B l (lyndon_may_L2 l) t := LFix_eq (lyndon_may_L2_cn l) t

noncomputable def slices_Clone (s : (List Int)) : Option (List Int) :=
  if s.length = 0 then both [(.list (.int .i64))] (
  some ([])) (
  G (room ([] : List Int) s 8) (
  some (([] : List Int) ++ s))) else
  G (room ([] : List Int) s 8) (
  some (([] : List Int) ++ s))

noncomputable def lyndon_Factors_J8_1 (w : (List Int)) (i : Int) (j : Int) (k : Int) (r8 : (Int → Int → Option (Int × (List (List Int))))) (t_1 : Bool) : Option (Int × (List (List Int))) :=
  G (0 ≤ k ∧ k < (w.length : Int)) (
  G (0 ≤ j ∧ j < (w.length : Int)) (
  if (decide ((ix w k) < (ix w j))) = true then
  G (fits (j + (1 : Int))) (
  r8 (j + (1 : Int)) i) else
  G (fits (k + (1 : Int))) (
  G (fits (j + (1 : Int))) (
  r8 (j + (1 : Int)) (k + (1 : Int))))))
noncomputable def lyndon_Factors_L13_B (w : (List Int)) (r6 : (Int → (List (List Int)) → Option (Int × (List (List Int))))) (j : Int) (k : Int) (r13 : Int → (List (List Int)) → Option (Int × (List (List Int)))) (i_1 : Int) (out_1 : (List (List Int))) : Option (Int × (List (List Int))) :=
  if (decide (i_1 ≤ k)) = true then
  G (fits (i_1 + j)) (
  G (fits ((i_1 + j) - k)) (
  G (0 ≤ i_1 ∧ i_1 ≤ (i_1 + j) - k ∧ (i_1 + j) - k ≤ (w.length : Int)) (
  (slices_Clone (cut w i_1 ((i_1 + j) - k))).bind (fun y'_1 =>
  G (room out_1 ([y'_1]) 24) (
  G (fits (j - k)) (
  G (fits (i_1 + (j - k))) (
  r13 (i_1 + (j - k)) (out_1 ++ ([y'_1]))))))))) else
  r6 i_1 out_1
noncomputable def lyndon_Factors_L13_F (w : (List Int)) (r6 : (Int → (List (List Int)) → Option (Int × (List (List Int))))) (j : Int) (k : Int) : (Int × (List (List Int)) → Option (Int × (List (List Int)))) → Int × (List (List Int)) → Option (Int × (List (List Int))) :=
  fun rec x => lyndon_Factors_L13_B w r6 j k (fun i_1 out_1 => rec (i_1, out_1)) x.1 x.2
noncomputable def lyndon_Factors_L13 (w : (List Int)) (r6 : (Int → (List (List Int)) → Option (Int × (List (List Int))))) (j : Int) (k : Int) (i_1 : Int) (out_1 : (List (List Int))) : Option (Int × (List (List Int))) := LFix (lyndon_Factors_L13_F w r6 j k ) (i_1, out_1)
noncomputable def lyndon_Factors_J8 (w : (List Int)) (i : Int) (out : (List (List Int))) (r6 : (Int → (List (List Int)) → Option (Int × (List (List Int))))) (j : Int) (k : Int) (r8 : (Int → Int → Option (Int × (List (List Int))))) (t : Bool) : Option (Int × (List (List Int))) :=
  if t = true then
  lyndon_Factors_J8_1 w i j k r8 t else
  lyndon_Factors_L13 w r6 j k i out
noncomputable def lyndon_Factors_L8_B (w : (List Int)) (i : Int) (out : (List (List Int))) (r6 : (Int → (List (List Int)) → Option (Int × (List (List Int))))) (r8 : Int → Int → Option (Int × (List (List Int)))) (j : Int) (k : Int) : Option (Int × (List (List Int))) :=
  if (decide (j < (w.length : Int))) = true then
  G (0 ≤ k ∧ k < (w.length : Int)) (
  G (0 ≤ j ∧ j < (w.length : Int)) (
  lyndon_Factors_J8 w i out r6 j k r8 (decide ((ix w k) ≤ (ix w j))))) else
  lyndon_Factors_J8 w i out r6 j k r8 false
noncomputable def lyndon_Factors_L8_F (w : (List Int)) (i : Int) (out : (List (List Int))) (r6 : (Int → (List (List Int)) → Option (Int × (List (List Int))))) : (Int × Int → Option (Int × (List (List Int)))) → Int × Int → Option (Int × (List (List Int))) :=
  fun rec x => lyndon_Factors_L8_B w i out r6 (fun j k => rec (j, k)) x.1 x.2
noncomputable def lyndon_Factors_L8 (w : (List Int)) (i : Int) (out : (List (List Int))) (r6 : (Int → (List (List Int)) → Option (Int × (List (List Int))))) (j : Int) (k : Int) : Option (Int × (List (List Int))) := LFix (lyndon_Factors_L8_F w i out r6 ) (j, k)
noncomputable def lyndon_Factors_L6_B (w : (List Int)) (r6 : Int → (List (List Int)) → Option (Int × (List (List Int)))) (i : Int) (out : (List (List Int))) : Option (Int × (List (List Int))) :=
  if (decide (i < (w.length : Int))) = true then
  G (fits (i + (1 : Int))) (
  lyndon_Factors_L8 w i out r6 (i + (1 : Int)) i) else
  some ((0 : Int), out)
noncomputable def lyndon_Factors_L6_F (w : (List Int)) : (Int × (List (List Int)) → Option (Int × (List (List Int)))) → Int × (List (List Int)) → Option (Int × (List (List Int))) :=
  fun rec x => lyndon_Factors_L6_B w (fun i out => rec (i, out)) x.1 x.2
noncomputable def lyndon_Factors_L6 (w : (List Int)) (i : Int) (out : (List (List Int))) : Option (Int × (List (List Int))) := LFix (lyndon_Factors_L6_F w ) (i, out)
noncomputable def lyndon_Factors (w : (List Int)) : Option (Int × (List (List Int))) :=
  (lyndon_may ([w])).bind (fun y' =>
  if (decide (¬ y' = (0 : Int))) = true then
  some (y', []) else
  lyndon_Factors_L6 w (0 : Int) ([]))
theorem lyndon_Factors_J8_1_ch (r8 : Nat → Int → Int → Option (Int × (List (List Int)))) (r8' : Int → Int → Option (Int × (List (List Int)))) (h_r8 : ∀ a0 a1, ChO (fun κ => r8 κ a0 a1) (r8' a0 a1)) (w : (List Int)) (i : Int) (j : Int) (k : Int) (t_1 : Bool) : ChO (fun κ => lyndon_Factors_J8_1 w i j k (r8 κ) t_1) (lyndon_Factors_J8_1 w i j k r8' t_1) := by
  unfold lyndon_Factors_J8_1
  repeat' first | exact ChO.const _ | exact h_r8 _ _ | apply ChO.ite | apply ChO.G | apply ChO.both | (apply ChO.bind; intro _)
theorem lyndon_Factors_L13_B_ch (r6 : Nat → Int → (List (List Int)) → Option (Int × (List (List Int)))) (r6' : Int → (List (List Int)) → Option (Int × (List (List Int)))) (h_r6 : ∀ a0 a1, ChO (fun κ => r6 κ a0 a1) (r6' a0 a1)) (r13 : Nat → Int → (List (List Int)) → Option (Int × (List (List Int)))) (r13' : Int → (List (List Int)) → Option (Int × (List (List Int)))) (h_r13 : ∀ a0 a1, ChO (fun κ => r13 κ a0 a1) (r13' a0 a1)) (w : (List Int)) (j : Int) (k : Int) (i_1 : Int) (out_1 : (List (List Int))) : ChO (fun κ => lyndon_Factors_L13_B w (r6 κ) j k (r13 κ) i_1 out_1) (lyndon_Factors_L13_B w r6' j k r13' i_1 out_1) := by
  unfold lyndon_Factors_L13_B
  repeat' first | exact ChO.const _ | exact h_r6 _ _ | exact h_r13 _ _ | (apply lyndon_Factors_J8_1_ch <;> assumption) | apply ChO.ite | apply ChO.G | apply ChO.both | (apply ChO.bind; intro _)
theorem lyndon_Factors_L13_cn (r6 : Int → (List (List Int)) → Option (Int × (List (List Int)))) (w : (List Int)) (j : Int) (k : Int) : Cn (lyndon_Factors_L13_F w r6 j k) := fun g h hg x => lyndon_Factors_L13_B_ch (fun _ => r6) r6 (fun _ _ => ChO.const _) (fun κ i_1 out_1 => g κ (i_1, out_1)) (fun i_1 out_1 => h (i_1, out_1)) (fun i_1 out_1 => hg (i_1, out_1)) w j k x.1 x.2
theorem lyndon_Factors_L13_eq (r6 : Int → (List (List Int)) → Option (Int × (List (List Int)))) (w : (List Int)) (j : Int) (k : Int) (i_1 : Int) (out_1 : (List (List Int))) : lyndon_Factors_L13 w r6 j k i_1 out_1 = lyndon_Factors_L13_B w r6 j k (lyndon_Factors_L13 w r6 j k) i_1 out_1 := LFix_eq (lyndon_Factors_L13_cn r6 w j k) (i_1, out_1)
theorem lyndon_Factors_L13_ch (r6 : Nat → Int → (List (List Int)) → Option (Int × (List (List Int)))) (r6' : Int → (List (List Int)) → Option (Int × (List (List Int)))) (h_r6 : ∀ a0 a1, ChO (fun κ => r6 κ a0 a1) (r6' a0 a1)) (w : (List Int)) (j : Int) (k : Int) (i_1 : Int) (out_1 : (List (List Int))) : ChO (fun κ => lyndon_Factors_L13 w (r6 κ) j k i_1 out_1) (lyndon_Factors_L13 w r6' j k i_1 out_1) := by
  unfold lyndon_Factors_L13
  exact LFix_ch (fun κ => (lyndon_Factors_L13_cn (r6 κ) w j k).mono) (lyndon_Factors_L13_cn r6' w j k).mono (fun g h hg x => lyndon_Factors_L13_B_ch r6 r6' h_r6 (fun κ i_1 out_1 => g κ (i_1, out_1)) (fun i_1 out_1 => h (i_1, out_1)) (fun i_1 out_1 => hg (i_1, out_1)) w j k x.1 x.2) _
theorem lyndon_Factors_J8_ch (r6 : Nat → Int → (List (List Int)) → Option (Int × (List (List Int)))) (r6' : Int → (List (List Int)) → Option (Int × (List (List Int)))) (h_r6 : ∀ a0 a1, ChO (fun κ => r6 κ a0 a1) (r6' a0 a1)) (r8 : Nat → Int → Int → Option (Int × (List (List Int)))) (r8' : Int → Int → Option (Int × (List (List Int)))) (h_r8 : ∀ a0 a1, ChO (fun κ => r8 κ a0 a1) (r8' a0 a1)) (w : (List Int)) (i : Int) (out : (List (List Int))) (j : Int) (k : Int) (t : Bool) : ChO (fun κ => lyndon_Factors_J8 w i out (r6 κ) j k (r8 κ) t) (lyndon_Factors_J8 w i out r6' j k r8' t) := by
  unfold lyndon_Factors_J8
  repeat' first | exact ChO.const _ | exact h_r6 _ _ | exact h_r8 _ _ | (apply lyndon_Factors_J8_1_ch <;> assumption) | (apply lyndon_Factors_L13_ch <;> assumption) | apply ChO.ite | apply ChO.G | apply ChO.both | (apply ChO.bind; intro _)
theorem lyndon_Factors_L8_B_ch (r6 : Nat → Int → (List (List Int)) → Option (Int × (List (List Int)))) (r6' : Int → (List (List Int)) → Option (Int × (List (List Int)))) (h_r6 : ∀ a0 a1, ChO (fun κ => r6 κ a0 a1) (r6' a0 a1)) (r8 : Nat → Int → Int → Option (Int × (List (List Int)))) (r8' : Int → Int → Option (Int × (List (List Int)))) (h_r8 : ∀ a0 a1, ChO (fun κ => r8 κ a0 a1) (r8' a0 a1)) (w : (List Int)) (i : Int) (out : (List (List Int))) (j : Int) (k : Int) : ChO (fun κ => lyndon_Factors_L8_B w i out (r6 κ) (r8 κ) j k) (lyndon_Factors_L8_B w i out r6' r8' j k) := by
  unfold lyndon_Factors_L8_B
  repeat' first | exact ChO.const _ | exact h_r6 _ _ | exact h_r8 _ _ | (apply lyndon_Factors_J8_1_ch <;> assumption) | (apply lyndon_Factors_L13_ch <;> assumption) | (apply lyndon_Factors_J8_ch <;> assumption) | apply ChO.ite | apply ChO.G | apply ChO.both | (apply ChO.bind; intro _)
theorem lyndon_Factors_L8_cn (r6 : Int → (List (List Int)) → Option (Int × (List (List Int)))) (w : (List Int)) (i : Int) (out : (List (List Int))) : Cn (lyndon_Factors_L8_F w i out r6) := fun g h hg x => lyndon_Factors_L8_B_ch (fun _ => r6) r6 (fun _ _ => ChO.const _) (fun κ j k => g κ (j, k)) (fun j k => h (j, k)) (fun j k => hg (j, k)) w i out x.1 x.2
theorem lyndon_Factors_L8_eq (r6 : Int → (List (List Int)) → Option (Int × (List (List Int)))) (w : (List Int)) (i : Int) (out : (List (List Int))) (j : Int) (k : Int) : lyndon_Factors_L8 w i out r6 j k = lyndon_Factors_L8_B w i out r6 (lyndon_Factors_L8 w i out r6) j k := LFix_eq (lyndon_Factors_L8_cn r6 w i out) (j, k)
theorem lyndon_Factors_L8_ch (r6 : Nat → Int → (List (List Int)) → Option (Int × (List (List Int)))) (r6' : Int → (List (List Int)) → Option (Int × (List (List Int)))) (h_r6 : ∀ a0 a1, ChO (fun κ => r6 κ a0 a1) (r6' a0 a1)) (w : (List Int)) (i : Int) (out : (List (List Int))) (j : Int) (k : Int) : ChO (fun κ => lyndon_Factors_L8 w i out (r6 κ) j k) (lyndon_Factors_L8 w i out r6' j k) := by
  unfold lyndon_Factors_L8
  exact LFix_ch (fun κ => (lyndon_Factors_L8_cn (r6 κ) w i out).mono) (lyndon_Factors_L8_cn r6' w i out).mono (fun g h hg x => lyndon_Factors_L8_B_ch r6 r6' h_r6 (fun κ j k => g κ (j, k)) (fun j k => h (j, k)) (fun j k => hg (j, k)) w i out x.1 x.2) _
theorem lyndon_Factors_L6_B_ch (r6 : Nat → Int → (List (List Int)) → Option (Int × (List (List Int)))) (r6' : Int → (List (List Int)) → Option (Int × (List (List Int)))) (h_r6 : ∀ a0 a1, ChO (fun κ => r6 κ a0 a1) (r6' a0 a1)) (w : (List Int)) (i : Int) (out : (List (List Int))) : ChO (fun κ => lyndon_Factors_L6_B w (r6 κ) i out) (lyndon_Factors_L6_B w r6' i out) := by
  unfold lyndon_Factors_L6_B
  repeat' first | exact ChO.const _ | exact h_r6 _ _ | (apply lyndon_Factors_J8_1_ch <;> assumption) | (apply lyndon_Factors_L13_ch <;> assumption) | (apply lyndon_Factors_J8_ch <;> assumption) | (apply lyndon_Factors_L8_ch <;> assumption) | apply ChO.ite | apply ChO.G | apply ChO.both | (apply ChO.bind; intro _)
theorem lyndon_Factors_L6_cn  (w : (List Int)) : Cn (lyndon_Factors_L6_F w) := fun g h hg x => lyndon_Factors_L6_B_ch  (fun κ i out => g κ (i, out)) (fun i out => h (i, out)) (fun i out => hg (i, out)) w x.1 x.2
theorem lyndon_Factors_L6_eq  (w : (List Int)) (i : Int) (out : (List (List Int))) : lyndon_Factors_L6 w i out = lyndon_Factors_L6_B w (lyndon_Factors_L6 w) i out := LFix_eq (lyndon_Factors_L6_cn w) (i, out)

noncomputable def r1_Words_L4_B (a : (List Int)) (b : (List Int)) (r4 : Int → Option (Bool)) (i : Int) : Option (Bool) :=
  if (decide (i < (a.length : Int))) = true then
  G (0 ≤ i ∧ i < (a.length : Int)) (
  G (0 ≤ i ∧ i < (b.length : Int)) (
  if (decide (¬ (ix a i) = (ix b i))) = true then
  some false else
  G (fits (i + (1 : Int))) (
  r4 (i + (1 : Int))))) else
  some true
noncomputable def r1_Words_L4_F (a : (List Int)) (b : (List Int)) : (Int → Option (Bool)) → Int → Option (Bool) :=
  fun rec x => r1_Words_L4_B a b (fun i => rec i) x
noncomputable def r1_Words_L4 (a : (List Int)) (b : (List Int)) (i : Int) : Option (Bool) := LFix (r1_Words_L4_F a b ) i
noncomputable def r1_Words (a : (List Int)) (b : (List Int)) : Option (Bool) :=
  if (decide (¬ (a.length : Int) = (b.length : Int))) = true then
  some false else
  r1_Words_L4 a b (0 : Int)
theorem r1_Words_L4_B_ch (r4 : Nat → Int → Option (Bool)) (r4' : Int → Option (Bool)) (h_r4 : ∀ a0, ChO (fun κ => r4 κ a0) (r4' a0)) (a : (List Int)) (b : (List Int)) (i : Int) : ChO (fun κ => r1_Words_L4_B a b (r4 κ) i) (r1_Words_L4_B a b r4' i) := by
  unfold r1_Words_L4_B
  repeat' first | exact ChO.const _ | exact h_r4 _ | apply ChO.ite | apply ChO.G | apply ChO.both | (apply ChO.bind; intro _)
theorem r1_Words_L4_cn  (a : (List Int)) (b : (List Int)) : Cn (r1_Words_L4_F a b) := fun g h hg x => r1_Words_L4_B_ch  (fun κ i => g κ i) (fun i => h i) (fun i => hg i) a b x
theorem r1_Words_L4_eq  (a : (List Int)) (b : (List Int)) (i : Int) : r1_Words_L4 a b i = r1_Words_L4_B a b (r1_Words_L4 a b) i := LFix_eq (r1_Words_L4_cn a b) i

noncomputable def r1_May_L6_B (letters : Int) (w : (List Int)) (r6 : Int → Option (Int)) (i : Int) : Option (Int) :=
  if (decide (i < (w.length : Int))) = true then
  G (0 ≤ i ∧ i < (w.length : Int)) (
  if (decide ((ix w i) < (0 : Int))) = true then
  some (2 : Int) else
  G (0 ≤ i ∧ i < (w.length : Int)) (
  if (decide (letters ≤ (ix w i))) = true then
  some (2 : Int) else
  G (fits (i + (1 : Int))) (
  r6 (i + (1 : Int))))) else
  some (0 : Int)
noncomputable def r1_May_L6_F (letters : Int) (w : (List Int)) : (Int → Option (Int)) → Int → Option (Int) :=
  fun rec x => r1_May_L6_B letters w (fun i => rec i) x
noncomputable def r1_May_L6 (letters : Int) (w : (List Int)) (i : Int) : Option (Int) := LFix (r1_May_L6_F letters w ) i
noncomputable def r1_May (letters : Int) (w : (List Int)) : Option (Int) :=
  if (decide (letters < (1 : Int))) = true then
  some (2 : Int) else
  if (decide ((4 : Int) < letters)) = true then
  some (2 : Int) else
  if (decide ((60 : Int) < (w.length : Int))) = true then
  some (1 : Int) else
  r1_May_L6 letters w (0 : Int)
theorem r1_May_L6_B_ch (r6 : Nat → Int → Option (Int)) (r6' : Int → Option (Int)) (h_r6 : ∀ a0, ChO (fun κ => r6 κ a0) (r6' a0)) (letters : Int) (w : (List Int)) (i : Int) : ChO (fun κ => r1_May_L6_B letters w (r6 κ) i) (r1_May_L6_B letters w r6' i) := by
  unfold r1_May_L6_B
  repeat' first | exact ChO.const _ | exact h_r6 _ | apply ChO.ite | apply ChO.G | apply ChO.both | (apply ChO.bind; intro _)
theorem r1_May_L6_cn  (letters : Int) (w : (List Int)) : Cn (r1_May_L6_F letters w) := fun g h hg x => r1_May_L6_B_ch  (fun κ i => g κ i) (fun i => h i) (fun i => hg i) letters w x
theorem r1_May_L6_eq  (letters : Int) (w : (List Int)) (i : Int) : r1_May_L6 letters w i = r1_May_L6_B letters w (r1_May_L6 letters w) i := LFix_eq (r1_May_L6_cn letters w) i

noncomputable def r31_Ahead_J2_1 (a : (List Int)) (b : (List Int)) (i : Int) (r2 : (Int → Option (Bool))) (t_1 : Bool) : Option (Bool) :=
  G (0 ≤ i ∧ i < (a.length : Int)) (
  G (0 ≤ i ∧ i < (b.length : Int)) (
  if (decide (¬ (ix a i) = (ix b i))) = true then
  G (0 ≤ i ∧ i < (a.length : Int)) (
  G (0 ≤ i ∧ i < (b.length : Int)) (
  some (decide ((ix a i) < (ix b i))))) else
  G (fits (i + (1 : Int))) (
  r2 (i + (1 : Int)))))
noncomputable def r31_Ahead_J2 (a : (List Int)) (b : (List Int)) (i : Int) (r2 : (Int → Option (Bool))) (t : Bool) : Option (Bool) :=
  if t = true then
  r31_Ahead_J2_1 a b i r2 t else
  some (decide ((a.length : Int) < (b.length : Int)))
noncomputable def r31_Ahead_L2_B (a : (List Int)) (b : (List Int)) (r2 : Int → Option (Bool)) (i : Int) : Option (Bool) :=
  if (decide (i < (a.length : Int))) = true then
  r31_Ahead_J2 a b i r2 (decide (i < (b.length : Int))) else
  r31_Ahead_J2 a b i r2 false
noncomputable def r31_Ahead_L2_F (a : (List Int)) (b : (List Int)) : (Int → Option (Bool)) → Int → Option (Bool) :=
  fun rec x => r31_Ahead_L2_B a b (fun i => rec i) x
noncomputable def r31_Ahead_L2 (a : (List Int)) (b : (List Int)) (i : Int) : Option (Bool) := LFix (r31_Ahead_L2_F a b ) i
noncomputable def r31_Ahead (a : (List Int)) (b : (List Int)) : Option (Bool) :=
  r31_Ahead_L2 a b (0 : Int)
theorem r31_Ahead_J2_1_ch (r2 : Nat → Int → Option (Bool)) (r2' : Int → Option (Bool)) (h_r2 : ∀ a0, ChO (fun κ => r2 κ a0) (r2' a0)) (a : (List Int)) (b : (List Int)) (i : Int) (t_1 : Bool) : ChO (fun κ => r31_Ahead_J2_1 a b i (r2 κ) t_1) (r31_Ahead_J2_1 a b i r2' t_1) := by
  unfold r31_Ahead_J2_1
  repeat' first | exact ChO.const _ | exact h_r2 _ | apply ChO.ite | apply ChO.G | apply ChO.both | (apply ChO.bind; intro _)
theorem r31_Ahead_J2_ch (r2 : Nat → Int → Option (Bool)) (r2' : Int → Option (Bool)) (h_r2 : ∀ a0, ChO (fun κ => r2 κ a0) (r2' a0)) (a : (List Int)) (b : (List Int)) (i : Int) (t : Bool) : ChO (fun κ => r31_Ahead_J2 a b i (r2 κ) t) (r31_Ahead_J2 a b i r2' t) := by
  unfold r31_Ahead_J2
  repeat' first | exact ChO.const _ | exact h_r2 _ | (apply r31_Ahead_J2_1_ch <;> assumption) | apply ChO.ite | apply ChO.G | apply ChO.both | (apply ChO.bind; intro _)
theorem r31_Ahead_L2_B_ch (r2 : Nat → Int → Option (Bool)) (r2' : Int → Option (Bool)) (h_r2 : ∀ a0, ChO (fun κ => r2 κ a0) (r2' a0)) (a : (List Int)) (b : (List Int)) (i : Int) : ChO (fun κ => r31_Ahead_L2_B a b (r2 κ) i) (r31_Ahead_L2_B a b r2' i) := by
  unfold r31_Ahead_L2_B
  repeat' first | exact ChO.const _ | exact h_r2 _ | (apply r31_Ahead_J2_1_ch <;> assumption) | (apply r31_Ahead_J2_ch <;> assumption) | apply ChO.ite | apply ChO.G | apply ChO.both | (apply ChO.bind; intro _)
theorem r31_Ahead_L2_cn  (a : (List Int)) (b : (List Int)) : Cn (r31_Ahead_L2_F a b) := fun g h hg x => r31_Ahead_L2_B_ch  (fun κ i => g κ i) (fun i => h i) (fun i => hg i) a b x
theorem r31_Ahead_L2_eq  (a : (List Int)) (b : (List Int)) (i : Int) : r31_Ahead_L2 a b i = r31_Ahead_L2_B a b (r31_Ahead_L2 a b) i := LFix_eq (r31_Ahead_L2_cn a b) i

noncomputable def r31_Lyndon_L2_B (w : (List Int)) (r2 : Int → Option (Bool)) (k : Int) : Option (Bool) :=
  if (decide (k < (w.length : Int))) = true then
  G (0 ≤ k ∧ k ≤ (w.length : Int) ∧ (w.length : Int) ≤ (w.length : Int)) (
  (r31_Ahead w (cut w k (w.length : Int))).bind (fun y' =>
  if (!y') = true then
  some false else
  G (fits (k + (1 : Int))) (
  r2 (k + (1 : Int))))) else
  some (decide ((0 : Int) < (w.length : Int)))
noncomputable def r31_Lyndon_L2_F (w : (List Int)) : (Int → Option (Bool)) → Int → Option (Bool) :=
  fun rec x => r31_Lyndon_L2_B w (fun k => rec k) x
noncomputable def r31_Lyndon_L2 (w : (List Int)) (k : Int) : Option (Bool) := LFix (r31_Lyndon_L2_F w ) k
noncomputable def r31_Lyndon (w : (List Int)) : Option (Bool) :=
  r31_Lyndon_L2 w (1 : Int)
theorem r31_Lyndon_L2_B_ch (r2 : Nat → Int → Option (Bool)) (r2' : Int → Option (Bool)) (h_r2 : ∀ a0, ChO (fun κ => r2 κ a0) (r2' a0)) (w : (List Int)) (k : Int) : ChO (fun κ => r31_Lyndon_L2_B w (r2 κ) k) (r31_Lyndon_L2_B w r2' k) := by
  unfold r31_Lyndon_L2_B
  repeat' first | exact ChO.const _ | exact h_r2 _ | apply ChO.ite | apply ChO.G | apply ChO.both | (apply ChO.bind; intro _)
theorem r31_Lyndon_L2_cn  (w : (List Int)) : Cn (r31_Lyndon_L2_F w) := fun g h hg x => r31_Lyndon_L2_B_ch  (fun κ k => g κ k) (fun k => h k) (fun k => hg k) w x
theorem r31_Lyndon_L2_eq  (w : (List Int)) (k : Int) : r31_Lyndon_L2 w k = r31_Lyndon_L2_B w (r31_Lyndon_L2 w) k := LFix_eq (r31_Lyndon_L2_cn w) k

noncomputable def law_LyndonFactors_J14 (y'_2 : (List (List Int))) (i : Int) (all' : (List Int)) (r11 : (Int → (List Int) → Option (Bool))) (y'_6 : Bool) (rises : Bool) : Option (Bool) :=
  if (!y'_6) = true then
  some false else
  if rises = true then
  some false else
  G (0 ≤ i ∧ i < (y'_2.length : Int)) (
  G ((i).toNat < y'_2.length) (
  G (room all' (ix y'_2 i) 8) (
  G (fits (i + (1 : Int))) (
  r11 (i + (1 : Int)) (all' ++ (ix y'_2 i))))))
noncomputable def law_LyndonFactors_L11_B (w : (List Int)) (y'_1 : Int) (y'_2 : (List (List Int))) (r11 : Int → (List Int) → Option (Bool)) (i : Int) (all' : (List Int)) : Option (Bool) :=
  if (decide (i < (y'_2.length : Int))) = true then
  G (0 ≤ i ∧ i < (y'_2.length : Int)) (
  G ((i).toNat < y'_2.length) (
  (r31_Lyndon (ix y'_2 i)).bind (fun y'_6 =>
  if (decide ((0 : Int) < i)) = true then
  G (fits (i - (1 : Int))) (
  G (0 ≤ i - (1 : Int) ∧ i - (1 : Int) < (y'_2.length : Int)) (
  G ((i - (1 : Int)).toNat < y'_2.length) (
  G (0 ≤ i ∧ i < (y'_2.length : Int)) (
  G ((i).toNat < y'_2.length) (
  (r31_Ahead (ix y'_2 (i - (1 : Int))) (ix y'_2 i)).bind (fun y'_7 =>
  law_LyndonFactors_J14 y'_2 i all' r11 y'_6 y'_7)))))) else
  law_LyndonFactors_J14 y'_2 i all' r11 y'_6 false))) else
  (r1_Words all' w).bind (fun y'_8 =>
  if (decide (y'_1 = (0 : Int))) = true then
  some y'_8 else
  some false)
noncomputable def law_LyndonFactors_L11_F (w : (List Int)) (y'_1 : Int) (y'_2 : (List (List Int))) : (Int × (List Int) → Option (Bool)) → Int × (List Int) → Option (Bool) :=
  fun rec x => law_LyndonFactors_L11_B w y'_1 y'_2 (fun i all' => rec (i, all')) x.1 x.2
noncomputable def law_LyndonFactors_L11 (w : (List Int)) (y'_1 : Int) (y'_2 : (List (List Int))) (i : Int) (all' : (List Int)) : Option (Bool) := LFix (law_LyndonFactors_L11_F w y'_1 y'_2 ) (i, all')
noncomputable def law_LyndonFactors (w : (List Int)) : Option (Bool) :=
  (law_list w).bind (fun y' =>
  (lyndon_Factors y').bind (fun y'_9 =>
  (r1_Words y' w).bind (fun y'_4 =>
  (r1_May (4 : Int) w).bind (fun y'_5 =>
  if (!y'_4) = true then
  some false else
  if (decide (¬ y'_5 = (0 : Int))) = true then
  if (decide (y'_9.1 = y'_5)) = true then
  some (decide ((y'_9.2.length : Int) = (0 : Int))) else
  some false else
  law_LyndonFactors_L11 w y'_9.1 y'_9.2 (0 : Int) ([])))))
theorem law_LyndonFactors_J14_ch (r11 : Nat → Int → (List Int) → Option (Bool)) (r11' : Int → (List Int) → Option (Bool)) (h_r11 : ∀ a0 a1, ChO (fun κ => r11 κ a0 a1) (r11' a0 a1)) (y'_2 : (List (List Int))) (i : Int) (all' : (List Int)) (y'_6 : Bool) (rises : Bool) : ChO (fun κ => law_LyndonFactors_J14 y'_2 i all' (r11 κ) y'_6 rises) (law_LyndonFactors_J14 y'_2 i all' r11' y'_6 rises) := by
  unfold law_LyndonFactors_J14
  repeat' first | exact ChO.const _ | exact h_r11 _ _ | apply ChO.ite | apply ChO.G | apply ChO.both | (apply ChO.bind; intro _)
theorem law_LyndonFactors_L11_B_ch (r11 : Nat → Int → (List Int) → Option (Bool)) (r11' : Int → (List Int) → Option (Bool)) (h_r11 : ∀ a0 a1, ChO (fun κ => r11 κ a0 a1) (r11' a0 a1)) (w : (List Int)) (y'_1 : Int) (y'_2 : (List (List Int))) (i : Int) (all' : (List Int)) : ChO (fun κ => law_LyndonFactors_L11_B w y'_1 y'_2 (r11 κ) i all') (law_LyndonFactors_L11_B w y'_1 y'_2 r11' i all') := by
  unfold law_LyndonFactors_L11_B
  repeat' first | exact ChO.const _ | exact h_r11 _ _ | (apply law_LyndonFactors_J14_ch <;> assumption) | apply ChO.ite | apply ChO.G | apply ChO.both | (apply ChO.bind; intro _)
theorem law_LyndonFactors_L11_cn  (w : (List Int)) (y'_1 : Int) (y'_2 : (List (List Int))) : Cn (law_LyndonFactors_L11_F w y'_1 y'_2) := fun g h hg x => law_LyndonFactors_L11_B_ch  (fun κ i all' => g κ (i, all')) (fun i all' => h (i, all')) (fun i all' => hg (i, all')) w y'_1 y'_2 x.1 x.2
theorem law_LyndonFactors_L11_eq  (w : (List Int)) (y'_1 : Int) (y'_2 : (List (List Int))) (i : Int) (all' : (List Int)) : law_LyndonFactors_L11 w y'_1 y'_2 i all' = law_LyndonFactors_L11_B w y'_1 y'_2 (law_LyndonFactors_L11 w y'_1 y'_2) i all' := LFix_eq (law_LyndonFactors_L11_cn w y'_1 y'_2) (i, all')

end Go.Proofs.Ytgjpkfbaobanlaa.lyndonFactorsW
