/- What the functions that 'AlterAccepts' reaches compute: plain functions. -/
import Derived.Test.YtbkokgohnmjdeaaEv37n21
set_option maxHeartbeats 1000000
set_option maxRecDepth 20000
set_option linter.unusedSimpArgs false
set_option linter.unusedVariables false
set_option linter.unusedSectionVars false
namespace Go.Proofs.Ytbkokgohnmjdeaa.alterAcceptsW
open Go Go.Ab
abbrev Tp5 := (List Int)
abbrev Tp4 := (List Tp5)
abbrev Tp3 := (List Tp4)
abbrev Tp2 := (Bool × Tp4)
abbrev Tp1 := (Int × Int × (List Tp3) × Tp5 × Unit)
abbrev Tf1 := Tp1 → Int → Tp5 → Int → Tp4 → Option Tp2
abbrev Tf2 := Bool → Int → Int → Option (Int)
noncomputable def alter_Check_1 (r : Tp3) (t : Tp1) : Option (Bool) :=
  some (decide (¬ (r.length : Int) = t.1))

noncomputable def slices_IndexFunc_L2_B (s : (List Tp3)) (c : Tp1) (r2 : Int → Option (Int)) (t : Int) : Option (Int) :=
  if (decide (t < (s.length : Int))) = true then
  G (0 ≤ t ∧ t < (s.length : Int)) (
  (alter_Check_1 (ix s t) c).bind (fun y' =>
  if y' = true then
  some t else
  G (fits (t + (1 : Int))) (
  r2 (t + (1 : Int))))) else
  some (-1 : Int)
noncomputable def slices_IndexFunc_L2_F (s : (List Tp3)) (c : Tp1) : (Int → Option (Int)) → Int → Option (Int) :=
  fun rec x => slices_IndexFunc_L2_B s c (fun t => rec t) x
noncomputable def slices_IndexFunc_L2 (s : (List Tp3)) (c : Tp1) (t : Int) : Option (Int) := LFix (slices_IndexFunc_L2_F s c ) t
noncomputable def slices_IndexFunc (s : (List Tp3)) (c : Tp1) : Option (Int) :=
  slices_IndexFunc_L2 s c (0 : Int)
theorem slices_IndexFunc_L2_B_ch (r2 : Nat → Int → Option (Int)) (r2' : Int → Option (Int)) (h_r2 : ∀ a0, ChO (fun κ => r2 κ a0) (r2' a0)) (s : (List Tp3)) (c : Tp1) (t : Int) : ChO (fun κ => slices_IndexFunc_L2_B s c (r2 κ) t) (slices_IndexFunc_L2_B s c r2' t) := by
  unfold slices_IndexFunc_L2_B
  repeat' with_reducible first | exact ChO.const _ | exact h_r2 _ | apply ChO.ite | apply ChO.G | apply ChO.both | (apply ChO.bind; intro _)
theorem slices_IndexFunc_L2_cn  (s : (List Tp3)) (c : Tp1) : Cn (slices_IndexFunc_L2_F s c) := fun g h hg x => slices_IndexFunc_L2_B_ch  (fun κ t => g κ t) (fun t => h t) (fun t => hg t) s c x
theorem slices_IndexFunc_L2_eq  (s : (List Tp3)) (c : Tp1) (t : Int) : slices_IndexFunc_L2 s c t = slices_IndexFunc_L2_B s c (slices_IndexFunc_L2 s c) t := LFix_eq (slices_IndexFunc_L2_cn s c) t

noncomputable def slices_ContainsFunc (s : (List Tp3)) (c : Tp1) : Option (Bool) :=
  (slices_IndexFunc s c).bind (fun y' =>
  some (decide ((0 : Int) ≤ y')))

noncomputable def alter_Check_3 (c : Tp5) : Option (Bool) :=
  some (decide ((4 : Int) < (c.length : Int)))

noncomputable def slices_IndexFunc_1_L2_B (s : Tp4) (r2 : Int → Option (Int)) (t : Int) : Option (Int) :=
  if (decide (t < (s.length : Int))) = true then
  G (0 ≤ t ∧ t < (s.length : Int)) (
  (alter_Check_3 (ix s t)).bind (fun y' =>
  if y' = true then
  some t else
  G (fits (t + (1 : Int))) (
  r2 (t + (1 : Int))))) else
  some (-1 : Int)
noncomputable def slices_IndexFunc_1_L2_F (s : Tp4) : (Int → Option (Int)) → Int → Option (Int) :=
  fun rec x => slices_IndexFunc_1_L2_B s (fun t => rec t) x
noncomputable def slices_IndexFunc_1_L2 (s : Tp4) (t : Int) : Option (Int) := LFix (slices_IndexFunc_1_L2_F s ) t
noncomputable def slices_IndexFunc_1 (s : Tp4) : Option (Int) :=
  slices_IndexFunc_1_L2 s (0 : Int)
theorem slices_IndexFunc_1_L2_B_ch (r2 : Nat → Int → Option (Int)) (r2' : Int → Option (Int)) (h_r2 : ∀ a0, ChO (fun κ => r2 κ a0) (r2' a0)) (s : Tp4) (t : Int) : ChO (fun κ => slices_IndexFunc_1_L2_B s (r2 κ) t) (slices_IndexFunc_1_L2_B s r2' t) := by
  unfold slices_IndexFunc_1_L2_B
  repeat' with_reducible first | exact ChO.const _ | exact h_r2 _ | apply ChO.ite | apply ChO.G | apply ChO.both | (apply ChO.bind; intro _)
theorem slices_IndexFunc_1_L2_cn  (s : Tp4) : Cn (slices_IndexFunc_1_L2_F s) := fun g h hg x => slices_IndexFunc_1_L2_B_ch  (fun κ t => g κ t) (fun t => h t) (fun t => hg t) s x
theorem slices_IndexFunc_1_L2_eq  (s : Tp4) (t : Int) : slices_IndexFunc_1_L2 s t = slices_IndexFunc_1_L2_B s (slices_IndexFunc_1_L2 s) t := LFix_eq (slices_IndexFunc_1_L2_cn s) t

noncomputable def slices_ContainsFunc_1 (s : Tp4) : Option (Bool) :=
  (slices_IndexFunc_1 s).bind (fun y' =>
  some (decide ((0 : Int) ≤ y')))

noncomputable def alter_Check_2 (q : Int) (t : Int) : Option (Bool) :=
  if (decide (q < (0 : Int))) = true then
  some true else
  some (decide (t ≤ q))

noncomputable def slices_IndexFunc_3_L2_B (s : Tp5) (c : Int) (r2 : Int → Option (Int)) (t : Int) : Option (Int) :=
  if (decide (t < (s.length : Int))) = true then
  G (0 ≤ t ∧ t < (s.length : Int)) (
  (alter_Check_2 (ix s t) c).bind (fun y' =>
  if y' = true then
  some t else
  G (fits (t + (1 : Int))) (
  r2 (t + (1 : Int))))) else
  some (-1 : Int)
noncomputable def slices_IndexFunc_3_L2_F (s : Tp5) (c : Int) : (Int → Option (Int)) → Int → Option (Int) :=
  fun rec x => slices_IndexFunc_3_L2_B s c (fun t => rec t) x
noncomputable def slices_IndexFunc_3_L2 (s : Tp5) (c : Int) (t : Int) : Option (Int) := LFix (slices_IndexFunc_3_L2_F s c ) t
noncomputable def slices_IndexFunc_3 (s : Tp5) (c : Int) : Option (Int) :=
  slices_IndexFunc_3_L2 s c (0 : Int)
theorem slices_IndexFunc_3_L2_B_ch (r2 : Nat → Int → Option (Int)) (r2' : Int → Option (Int)) (h_r2 : ∀ a0, ChO (fun κ => r2 κ a0) (r2' a0)) (s : Tp5) (c : Int) (t : Int) : ChO (fun κ => slices_IndexFunc_3_L2_B s c (r2 κ) t) (slices_IndexFunc_3_L2_B s c r2' t) := by
  unfold slices_IndexFunc_3_L2_B
  repeat' with_reducible first | exact ChO.const _ | exact h_r2 _ | apply ChO.ite | apply ChO.G | apply ChO.both | (apply ChO.bind; intro _)
theorem slices_IndexFunc_3_L2_cn  (s : Tp5) (c : Int) : Cn (slices_IndexFunc_3_L2_F s c) := fun g h hg x => slices_IndexFunc_3_L2_B_ch  (fun κ t => g κ t) (fun t => h t) (fun t => hg t) s c x
theorem slices_IndexFunc_3_L2_eq  (s : Tp5) (c : Int) (t : Int) : slices_IndexFunc_3_L2 s c t = slices_IndexFunc_3_L2_B s c (slices_IndexFunc_3_L2 s c) t := LFix_eq (slices_IndexFunc_3_L2_cn s c) t

noncomputable def slices_ContainsFunc_3 (s : Tp5) (c : Int) : Option (Bool) :=
  (slices_IndexFunc_3 s c).bind (fun y' =>
  some (decide ((0 : Int) ≤ y')))

noncomputable def alter_Check_4 (c : Tp5) (c_1 : Int) : Option (Bool × Int) :=
  (slices_ContainsFunc_3 c c_1).bind (fun y' =>
  some (y', c_1))

noncomputable def slices_IndexFunc_2_L2_B (s : Tp4) (r2 : Int → Int → Option (Int × Int)) (t : Int) (l : Int) : Option (Int × Int) :=
  if (decide (t < (s.length : Int))) = true then
  G (0 ≤ t ∧ t < (s.length : Int)) (
  (alter_Check_4 (ix s t) l).bind (fun y'_3 =>
  if y'_3.1 = true then
  some (t, y'_3.2) else
  G (fits (t + (1 : Int))) (
  r2 (t + (1 : Int)) y'_3.2))) else
  some ((-1 : Int), l)
noncomputable def slices_IndexFunc_2_L2_F (s : Tp4) : (Int × Int → Option (Int × Int)) → Int × Int → Option (Int × Int) :=
  fun rec x => slices_IndexFunc_2_L2_B s (fun t l => rec (t, l)) x.1 x.2
noncomputable def slices_IndexFunc_2_L2 (s : Tp4) (t : Int) (l : Int) : Option (Int × Int) := LFix (slices_IndexFunc_2_L2_F s ) (t, l)
noncomputable def slices_IndexFunc_2 (s : Tp4) (c : Int) : Option (Int × Int) :=
  slices_IndexFunc_2_L2 s (0 : Int) c
theorem slices_IndexFunc_2_L2_B_ch (r2 : Nat → Int → Int → Option (Int × Int)) (r2' : Int → Int → Option (Int × Int)) (h_r2 : ∀ a0 a1, ChO (fun κ => r2 κ a0 a1) (r2' a0 a1)) (s : Tp4) (t : Int) (l : Int) : ChO (fun κ => slices_IndexFunc_2_L2_B s (r2 κ) t l) (slices_IndexFunc_2_L2_B s r2' t l) := by
  unfold slices_IndexFunc_2_L2_B
  repeat' with_reducible first | exact ChO.const _ | exact h_r2 _ _ | apply ChO.ite | apply ChO.G | apply ChO.both | (apply ChO.bind; intro _)
theorem slices_IndexFunc_2_L2_cn  (s : Tp4) : Cn (slices_IndexFunc_2_L2_F s) := fun g h hg x => slices_IndexFunc_2_L2_B_ch  (fun κ t l => g κ (t, l)) (fun t l => h (t, l)) (fun t l => hg (t, l)) s x.1 x.2
theorem slices_IndexFunc_2_L2_eq  (s : Tp4) (t : Int) (l : Int) : slices_IndexFunc_2_L2 s t l = slices_IndexFunc_2_L2_B s (slices_IndexFunc_2_L2 s) t l := LFix_eq (slices_IndexFunc_2_L2_cn s) (t, l)

noncomputable def slices_ContainsFunc_2 (s : Tp4) (c : Int) : Option (Bool × Int) :=
  (slices_IndexFunc_2 s c).bind (fun y'_3 =>
  some (decide ((0 : Int) ≤ y'_3.1), y'_3.2))

noncomputable def alter_Check_5 (m : Int) : Option (Bool) :=
  if (decide (¬ m = (0 : Int))) = true then
  some (decide (¬ m = (1 : Int))) else
  some false

noncomputable def slices_IndexFunc_4_L2_B (s : Tp5) (r2 : Int → Option (Int)) (t : Int) : Option (Int) :=
  if (decide (t < (s.length : Int))) = true then
  G (0 ≤ t ∧ t < (s.length : Int)) (
  (alter_Check_5 (ix s t)).bind (fun y' =>
  if y' = true then
  some t else
  G (fits (t + (1 : Int))) (
  r2 (t + (1 : Int))))) else
  some (-1 : Int)
noncomputable def slices_IndexFunc_4_L2_F (s : Tp5) : (Int → Option (Int)) → Int → Option (Int) :=
  fun rec x => slices_IndexFunc_4_L2_B s (fun t => rec t) x
noncomputable def slices_IndexFunc_4_L2 (s : Tp5) (t : Int) : Option (Int) := LFix (slices_IndexFunc_4_L2_F s ) t
noncomputable def slices_IndexFunc_4 (s : Tp5) : Option (Int) :=
  slices_IndexFunc_4_L2 s (0 : Int)
theorem slices_IndexFunc_4_L2_B_ch (r2 : Nat → Int → Option (Int)) (r2' : Int → Option (Int)) (h_r2 : ∀ a0, ChO (fun κ => r2 κ a0) (r2' a0)) (s : Tp5) (t : Int) : ChO (fun κ => slices_IndexFunc_4_L2_B s (r2 κ) t) (slices_IndexFunc_4_L2_B s r2' t) := by
  unfold slices_IndexFunc_4_L2_B
  repeat' with_reducible first | exact ChO.const _ | exact h_r2 _ | apply ChO.ite | apply ChO.G | apply ChO.both | (apply ChO.bind; intro _)
theorem slices_IndexFunc_4_L2_cn  (s : Tp5) : Cn (slices_IndexFunc_4_L2_F s) := fun g h hg x => slices_IndexFunc_4_L2_B_ch  (fun κ t => g κ t) (fun t => h t) (fun t => hg t) s x
theorem slices_IndexFunc_4_L2_eq  (s : Tp5) (t : Int) : slices_IndexFunc_4_L2 s t = slices_IndexFunc_4_L2_B s (slices_IndexFunc_4_L2 s) t := LFix_eq (slices_IndexFunc_4_L2_cn s) t

noncomputable def slices_ContainsFunc_4 (s : Tp5) : Option (Bool) :=
  (slices_IndexFunc_4 s).bind (fun y' =>
  some (decide ((0 : Int) ≤ y')))

noncomputable def alter_Check_L14_B (a : Tp1) (t : Int) (r11 : (Bool → Int → Int → Option (Int))) (r14 : Tf2) (bad_1 : Bool) (t_1 : Int) (no_1 : Int) : Option (Int) :=
  if (decide (t_1 < ((ix a.2.2.1 t).length : Int))) = true then
  G (0 ≤ t_1 ∧ t_1 < ((ix a.2.2.1 t).length : Int)) (
  if (decide ((16 : Int) < ((ix (ix a.2.2.1 t) t_1).length : Int))) = true then
  some (1 : Int) else
  (slices_ContainsFunc_1 (ix (ix a.2.2.1 t) t_1)).bind (fun y'_1 =>
  if y'_1 = true then
  some (1 : Int) else
  if bad_1 = true then
  G (fits (t_1 + (1 : Int))) (
  r14 true (t_1 + (1 : Int)) no_1) else
  (slices_ContainsFunc_2 (ix (ix a.2.2.1 t) t_1) no_1).bind (fun y'_5 =>
  G (fits (t_1 + (1 : Int))) (
  r14 y'_5.1 (t_1 + (1 : Int)) y'_5.2)))) else
  G (fits (t + (1 : Int))) (
  r11 bad_1 (t + (1 : Int)) no_1)
noncomputable def alter_Check_L14_F (a : Tp1) (t : Int) (r11 : (Bool → Int → Int → Option (Int))) : (Bool × Int × Int → Option (Int)) → Bool × Int × Int → Option (Int) :=
  fun rec x => alter_Check_L14_B a t r11 (fun bad_1 t_1 no_1 => rec (bad_1, t_1, no_1)) x.1 x.2.1 x.2.2
noncomputable def alter_Check_L14 (a : Tp1) (t : Int) (r11 : (Bool → Int → Int → Option (Int))) (bad_1 : Bool) (t_1 : Int) (no_1 : Int) : Option (Int) := LFix (alter_Check_L14_F a t r11 ) (bad_1, t_1, no_1)
noncomputable def alter_Check_L11_B (a : Tp1) (r11 : Tf2) (bad : Bool) (t : Int) (no : Int) : Option (Int) :=
  if (decide (t < (a.2.2.1.length : Int))) = true then
  G (0 ≤ t ∧ t < (a.2.2.1.length : Int)) (
  alter_Check_L14 a t r11 bad (0 : Int) no) else
  if bad = true then
  some (2 : Int) else
  (alter_Check_2 a.2.1 no).bind (fun y'_6 =>
  if y'_6 = true then
  some (2 : Int) else
  (slices_ContainsFunc_4 a.2.2.2.1).bind (fun y'_7 =>
  if y'_7 = true then
  some (2 : Int) else
  some (0 : Int)))
noncomputable def alter_Check_L11_F (a : Tp1) : (Bool × Int × Int → Option (Int)) → Bool × Int × Int → Option (Int) :=
  fun rec x => alter_Check_L11_B a (fun bad t no => rec (bad, t, no)) x.1 x.2.1 x.2.2
noncomputable def alter_Check_L11 (a : Tp1) (bad : Bool) (t : Int) (no : Int) : Option (Int) := LFix (alter_Check_L11_F a ) (bad, t, no)
noncomputable def alter_Check (a : Tp1) : Option (Int) :=
  if (decide (a.1 < (1 : Int))) = true then
  some (2 : Int) else
  if (decide ((4 : Int) < a.1)) = true then
  some (2 : Int) else
  if (decide ((a.2.2.1.length : Int) < (1 : Int))) = true then
  some (1 : Int) else
  if (decide ((4 : Int) < (a.2.2.1.length : Int))) = true then
  some (1 : Int) else
  if (decide (¬ (a.2.2.2.1.length : Int) = (a.2.2.1.length : Int))) = true then
  some (3 : Int) else
  (slices_ContainsFunc a.2.2.1 (a.1, (a.2.1, (a.2.2.1, (a.2.2.2.1, ()))))).bind (fun y' =>
  if y' = true then
  some (3 : Int) else
  alter_Check_L11 a false (0 : Int) (a.2.2.1.length : Int))
theorem alter_Check_L14_B_ch (r11 : Nat → Tf2) (r11' : Tf2) (h_r11 : ∀ a0 a1 a2, ChO (fun κ => r11 κ a0 a1 a2) (r11' a0 a1 a2)) (r14 : Nat → Tf2) (r14' : Tf2) (h_r14 : ∀ a0 a1 a2, ChO (fun κ => r14 κ a0 a1 a2) (r14' a0 a1 a2)) (a : Tp1) (t : Int) (bad_1 : Bool) (t_1 : Int) (no_1 : Int) : ChO (fun κ => alter_Check_L14_B a t (r11 κ) (r14 κ) bad_1 t_1 no_1) (alter_Check_L14_B a t r11' r14' bad_1 t_1 no_1) := by
  unfold alter_Check_L14_B
  repeat' with_reducible first | exact ChO.const _ | exact h_r11 _ _ _ | exact h_r14 _ _ _ | apply ChO.ite | apply ChO.G | apply ChO.both | (apply ChO.bind; intro _)
theorem alter_Check_L14_cn (r11 : Tf2) (a : Tp1) (t : Int) : Cn (alter_Check_L14_F a t r11) := fun g h hg x => alter_Check_L14_B_ch (fun _ => r11) r11 (fun _ _ _ => ChO.const _) (fun κ bad_1 t_1 no_1 => g κ (bad_1, t_1, no_1)) (fun bad_1 t_1 no_1 => h (bad_1, t_1, no_1)) (fun bad_1 t_1 no_1 => hg (bad_1, t_1, no_1)) a t x.1 x.2.1 x.2.2
theorem alter_Check_L14_eq (r11 : Tf2) (a : Tp1) (t : Int) (bad_1 : Bool) (t_1 : Int) (no_1 : Int) : alter_Check_L14 a t r11 bad_1 t_1 no_1 = alter_Check_L14_B a t r11 (alter_Check_L14 a t r11) bad_1 t_1 no_1 := LFix_eq (alter_Check_L14_cn r11 a t) (bad_1, t_1, no_1)
theorem alter_Check_L14_ch (r11 : Nat → Tf2) (r11' : Tf2) (h_r11 : ∀ a0 a1 a2, ChO (fun κ => r11 κ a0 a1 a2) (r11' a0 a1 a2)) (a : Tp1) (t : Int) (bad_1 : Bool) (t_1 : Int) (no_1 : Int) : ChO (fun κ => alter_Check_L14 a t (r11 κ) bad_1 t_1 no_1) (alter_Check_L14 a t r11' bad_1 t_1 no_1) := by
  unfold alter_Check_L14
  exact LFix_ch (fun κ => (alter_Check_L14_cn (r11 κ) a t).mono) (alter_Check_L14_cn r11' a t).mono (fun g h hg x => alter_Check_L14_B_ch r11 r11' h_r11 (fun κ bad_1 t_1 no_1 => g κ (bad_1, t_1, no_1)) (fun bad_1 t_1 no_1 => h (bad_1, t_1, no_1)) (fun bad_1 t_1 no_1 => hg (bad_1, t_1, no_1)) a t x.1 x.2.1 x.2.2) _
theorem alter_Check_L11_B_ch (r11 : Nat → Tf2) (r11' : Tf2) (h_r11 : ∀ a0 a1 a2, ChO (fun κ => r11 κ a0 a1 a2) (r11' a0 a1 a2)) (a : Tp1) (bad : Bool) (t : Int) (no : Int) : ChO (fun κ => alter_Check_L11_B a (r11 κ) bad t no) (alter_Check_L11_B a r11' bad t no) := by
  unfold alter_Check_L11_B
  repeat' with_reducible first | exact ChO.const _ | exact h_r11 _ _ _ | (apply alter_Check_L14_ch <;> assumption) | apply ChO.ite | apply ChO.G | apply ChO.both | (apply ChO.bind; intro _)
theorem alter_Check_L11_cn  (a : Tp1) : Cn (alter_Check_L11_F a) := fun g h hg x => alter_Check_L11_B_ch  (fun κ bad t no => g κ (bad, t, no)) (fun bad t no => h (bad, t, no)) (fun bad t no => hg (bad, t, no)) a x.1 x.2.1 x.2.2
theorem alter_Check_L11_eq  (a : Tp1) (bad : Bool) (t : Int) (no : Int) : alter_Check_L11 a bad t no = alter_Check_L11_B a (alter_Check_L11 a) bad t no := LFix_eq (alter_Check_L11_cn a) (bad, t, no)

noncomputable def r26_Check_L29_B (a : Tp1) (q_1 : Int) (k : Int) (i : Int) (r24 : (Bool → Int → Option (Int))) (r29 : Bool → Int → Option (Int)) (bad_4 : Bool) (j : Int) : Option (Int) :=
  G (0 ≤ i ∧ i < ((ix (ix a.2.2.1 q_1) k).length : Int)) (
  if (decide (j < ((ix (ix (ix a.2.2.1 q_1) k) i).length : Int))) = true then
  if bad_4 = true then
  G (fits (j + (1 : Int))) (
  r29 true (j + (1 : Int))) else
  G (0 ≤ i ∧ i < ((ix (ix a.2.2.1 q_1) k).length : Int)) (
  G (0 ≤ j ∧ j < ((ix (ix (ix a.2.2.1 q_1) k) i).length : Int)) (
  if (decide ((ix (ix (ix (ix a.2.2.1 q_1) k) i) j) < (0 : Int))) = true then
  G (fits (j + (1 : Int))) (
  r29 true (j + (1 : Int))) else
  G (0 ≤ i ∧ i < ((ix (ix a.2.2.1 q_1) k).length : Int)) (
  G (0 ≤ j ∧ j < ((ix (ix (ix a.2.2.1 q_1) k) i).length : Int)) (
  G (fits (j + (1 : Int))) (
  r29 (decide ((a.2.2.1.length : Int) ≤ (ix (ix (ix (ix a.2.2.1 q_1) k) i) j))) (j + (1 : Int))))))) else
  G (fits (i + (1 : Int))) (
  r24 bad_4 (i + (1 : Int))))
noncomputable def r26_Check_L29_F (a : Tp1) (q_1 : Int) (k : Int) (i : Int) (r24 : (Bool → Int → Option (Int))) : (Bool × Int → Option (Int)) → Bool × Int → Option (Int) :=
  fun rec x => r26_Check_L29_B a q_1 k i r24 (fun bad_4 j => rec (bad_4, j)) x.1 x.2
noncomputable def r26_Check_L29 (a : Tp1) (q_1 : Int) (k : Int) (i : Int) (r24 : (Bool → Int → Option (Int))) (bad_4 : Bool) (j : Int) : Option (Int) := LFix (r26_Check_L29_F a q_1 k i r24 ) (bad_4, j)
noncomputable def r26_Check_L24_B (a : Tp1) (q_1 : Int) (k : Int) (r18 : (Bool → Int → Option (Int))) (r24 : Bool → Int → Option (Int)) (bad_3 : Bool) (i : Int) : Option (Int) :=
  if (decide (i < ((ix (ix a.2.2.1 q_1) k).length : Int))) = true then
  G (0 ≤ i ∧ i < ((ix (ix a.2.2.1 q_1) k).length : Int)) (
  if (decide ((4 : Int) < ((ix (ix (ix a.2.2.1 q_1) k) i).length : Int))) = true then
  some (1 : Int) else
  r26_Check_L29 a q_1 k i r24 bad_3 (0 : Int)) else
  G (fits (k + (1 : Int))) (
  r18 bad_3 (k + (1 : Int)))
noncomputable def r26_Check_L24_F (a : Tp1) (q_1 : Int) (k : Int) (r18 : (Bool → Int → Option (Int))) : (Bool × Int → Option (Int)) → Bool × Int → Option (Int) :=
  fun rec x => r26_Check_L24_B a q_1 k r18 (fun bad_3 i => rec (bad_3, i)) x.1 x.2
noncomputable def r26_Check_L24 (a : Tp1) (q_1 : Int) (k : Int) (r18 : (Bool → Int → Option (Int))) (bad_3 : Bool) (i : Int) : Option (Int) := LFix (r26_Check_L24_F a q_1 k r18 ) (bad_3, i)
noncomputable def r26_Check_L18_B (a : Tp1) (q_1 : Int) (r15 : (Bool → Int → Option (Int))) (r18 : Bool → Int → Option (Int)) (bad_2 : Bool) (k : Int) : Option (Int) :=
  if (decide (k < a.1)) = true then
  G (0 ≤ q_1 ∧ q_1 < (a.2.2.1.length : Int)) (
  G (0 ≤ k ∧ k < ((ix a.2.2.1 q_1).length : Int)) (
  if (decide ((16 : Int) < ((ix (ix a.2.2.1 q_1) k).length : Int))) = true then
  some (1 : Int) else
  r26_Check_L24 a q_1 k r18 bad_2 (0 : Int))) else
  if bad_2 = true then
  G (fits (q_1 + (1 : Int))) (
  r15 true (q_1 + (1 : Int))) else
  G (0 ≤ q_1 ∧ q_1 < (a.2.2.2.1.length : Int)) (
  if (decide (¬ (ix a.2.2.2.1 q_1) = (0 : Int))) = true then
  G (0 ≤ q_1 ∧ q_1 < (a.2.2.2.1.length : Int)) (
  G (fits (q_1 + (1 : Int))) (
  r15 (decide (¬ (ix a.2.2.2.1 q_1) = (1 : Int))) (q_1 + (1 : Int)))) else
  G (fits (q_1 + (1 : Int))) (
  r15 false (q_1 + (1 : Int))))
noncomputable def r26_Check_L18_F (a : Tp1) (q_1 : Int) (r15 : (Bool → Int → Option (Int))) : (Bool × Int → Option (Int)) → Bool × Int → Option (Int) :=
  fun rec x => r26_Check_L18_B a q_1 r15 (fun bad_2 k => rec (bad_2, k)) x.1 x.2
noncomputable def r26_Check_L18 (a : Tp1) (q_1 : Int) (r15 : (Bool → Int → Option (Int))) (bad_2 : Bool) (k : Int) : Option (Int) := LFix (r26_Check_L18_F a q_1 r15 ) (bad_2, k)
noncomputable def r26_Check_L15_B (a : Tp1) (r15 : Bool → Int → Option (Int)) (bad_1 : Bool) (q_1 : Int) : Option (Int) :=
  if (decide (q_1 < (a.2.2.1.length : Int))) = true then
  r26_Check_L18 a q_1 r15 bad_1 (0 : Int) else
  if bad_1 = true then
  some (2 : Int) else
  some (0 : Int)
noncomputable def r26_Check_L15_F (a : Tp1) : (Bool × Int → Option (Int)) → Bool × Int → Option (Int) :=
  fun rec x => r26_Check_L15_B a (fun bad_1 q_1 => rec (bad_1, q_1)) x.1 x.2
noncomputable def r26_Check_L15 (a : Tp1) (bad_1 : Bool) (q_1 : Int) : Option (Int) := LFix (r26_Check_L15_F a ) (bad_1, q_1)
noncomputable def r26_Check_J13 (a : Tp1) (bad : Bool) : Option (Int) :=
  r26_Check_L15 a bad (0 : Int)
noncomputable def r26_Check_L9_B (a : Tp1) (r9 : Int → Option (Int)) (q : Int) : Option (Int) :=
  if (decide (q < (a.2.2.1.length : Int))) = true then
  G (0 ≤ q ∧ q < (a.2.2.1.length : Int)) (
  if (decide (¬ ((ix a.2.2.1 q).length : Int) = a.1)) = true then
  some (3 : Int) else
  G (fits (q + (1 : Int))) (
  r9 (q + (1 : Int)))) else
  if (decide (a.2.1 < (0 : Int))) = true then
  r26_Check_J13 a true else
  r26_Check_J13 a (decide ((a.2.2.1.length : Int) ≤ a.2.1))
noncomputable def r26_Check_L9_F (a : Tp1) : (Int → Option (Int)) → Int → Option (Int) :=
  fun rec x => r26_Check_L9_B a (fun q => rec q) x
noncomputable def r26_Check_L9 (a : Tp1) (q : Int) : Option (Int) := LFix (r26_Check_L9_F a ) q
noncomputable def r26_Check (a : Tp1) : Option (Int) :=
  if (decide (a.1 < (1 : Int))) = true then
  some (2 : Int) else
  if (decide ((4 : Int) < a.1)) = true then
  some (2 : Int) else
  if (decide ((a.2.2.1.length : Int) < (1 : Int))) = true then
  some (1 : Int) else
  if (decide ((4 : Int) < (a.2.2.1.length : Int))) = true then
  some (1 : Int) else
  if (decide (¬ (a.2.2.2.1.length : Int) = (a.2.2.1.length : Int))) = true then
  some (3 : Int) else
  r26_Check_L9 a (0 : Int)
theorem r26_Check_L29_B_ch (r24 : Nat → Bool → Int → Option (Int)) (r24' : Bool → Int → Option (Int)) (h_r24 : ∀ a0 a1, ChO (fun κ => r24 κ a0 a1) (r24' a0 a1)) (r29 : Nat → Bool → Int → Option (Int)) (r29' : Bool → Int → Option (Int)) (h_r29 : ∀ a0 a1, ChO (fun κ => r29 κ a0 a1) (r29' a0 a1)) (a : Tp1) (q_1 : Int) (k : Int) (i : Int) (bad_4 : Bool) (j : Int) : ChO (fun κ => r26_Check_L29_B a q_1 k i (r24 κ) (r29 κ) bad_4 j) (r26_Check_L29_B a q_1 k i r24' r29' bad_4 j) := by
  unfold r26_Check_L29_B
  repeat' with_reducible first | exact ChO.const _ | exact h_r24 _ _ | exact h_r29 _ _ | apply ChO.ite | apply ChO.G | apply ChO.both | (apply ChO.bind; intro _)
theorem r26_Check_L29_cn (r24 : Bool → Int → Option (Int)) (a : Tp1) (q_1 : Int) (k : Int) (i : Int) : Cn (r26_Check_L29_F a q_1 k i r24) := fun g h hg x => r26_Check_L29_B_ch (fun _ => r24) r24 (fun _ _ => ChO.const _) (fun κ bad_4 j => g κ (bad_4, j)) (fun bad_4 j => h (bad_4, j)) (fun bad_4 j => hg (bad_4, j)) a q_1 k i x.1 x.2
theorem r26_Check_L29_eq (r24 : Bool → Int → Option (Int)) (a : Tp1) (q_1 : Int) (k : Int) (i : Int) (bad_4 : Bool) (j : Int) : r26_Check_L29 a q_1 k i r24 bad_4 j = r26_Check_L29_B a q_1 k i r24 (r26_Check_L29 a q_1 k i r24) bad_4 j := LFix_eq (r26_Check_L29_cn r24 a q_1 k i) (bad_4, j)
theorem r26_Check_L29_ch (r24 : Nat → Bool → Int → Option (Int)) (r24' : Bool → Int → Option (Int)) (h_r24 : ∀ a0 a1, ChO (fun κ => r24 κ a0 a1) (r24' a0 a1)) (a : Tp1) (q_1 : Int) (k : Int) (i : Int) (bad_4 : Bool) (j : Int) : ChO (fun κ => r26_Check_L29 a q_1 k i (r24 κ) bad_4 j) (r26_Check_L29 a q_1 k i r24' bad_4 j) := by
  unfold r26_Check_L29
  exact LFix_ch (fun κ => (r26_Check_L29_cn (r24 κ) a q_1 k i).mono) (r26_Check_L29_cn r24' a q_1 k i).mono (fun g h hg x => r26_Check_L29_B_ch r24 r24' h_r24 (fun κ bad_4 j => g κ (bad_4, j)) (fun bad_4 j => h (bad_4, j)) (fun bad_4 j => hg (bad_4, j)) a q_1 k i x.1 x.2) _
theorem r26_Check_L24_B_ch (r18 : Nat → Bool → Int → Option (Int)) (r18' : Bool → Int → Option (Int)) (h_r18 : ∀ a0 a1, ChO (fun κ => r18 κ a0 a1) (r18' a0 a1)) (r24 : Nat → Bool → Int → Option (Int)) (r24' : Bool → Int → Option (Int)) (h_r24 : ∀ a0 a1, ChO (fun κ => r24 κ a0 a1) (r24' a0 a1)) (a : Tp1) (q_1 : Int) (k : Int) (bad_3 : Bool) (i : Int) : ChO (fun κ => r26_Check_L24_B a q_1 k (r18 κ) (r24 κ) bad_3 i) (r26_Check_L24_B a q_1 k r18' r24' bad_3 i) := by
  unfold r26_Check_L24_B
  repeat' with_reducible first | exact ChO.const _ | exact h_r18 _ _ | exact h_r24 _ _ | (apply r26_Check_L29_ch <;> assumption) | apply ChO.ite | apply ChO.G | apply ChO.both | (apply ChO.bind; intro _)
theorem r26_Check_L24_cn (r18 : Bool → Int → Option (Int)) (a : Tp1) (q_1 : Int) (k : Int) : Cn (r26_Check_L24_F a q_1 k r18) := fun g h hg x => r26_Check_L24_B_ch (fun _ => r18) r18 (fun _ _ => ChO.const _) (fun κ bad_3 i => g κ (bad_3, i)) (fun bad_3 i => h (bad_3, i)) (fun bad_3 i => hg (bad_3, i)) a q_1 k x.1 x.2
theorem r26_Check_L24_eq (r18 : Bool → Int → Option (Int)) (a : Tp1) (q_1 : Int) (k : Int) (bad_3 : Bool) (i : Int) : r26_Check_L24 a q_1 k r18 bad_3 i = r26_Check_L24_B a q_1 k r18 (r26_Check_L24 a q_1 k r18) bad_3 i := LFix_eq (r26_Check_L24_cn r18 a q_1 k) (bad_3, i)
theorem r26_Check_L24_ch (r18 : Nat → Bool → Int → Option (Int)) (r18' : Bool → Int → Option (Int)) (h_r18 : ∀ a0 a1, ChO (fun κ => r18 κ a0 a1) (r18' a0 a1)) (a : Tp1) (q_1 : Int) (k : Int) (bad_3 : Bool) (i : Int) : ChO (fun κ => r26_Check_L24 a q_1 k (r18 κ) bad_3 i) (r26_Check_L24 a q_1 k r18' bad_3 i) := by
  unfold r26_Check_L24
  exact LFix_ch (fun κ => (r26_Check_L24_cn (r18 κ) a q_1 k).mono) (r26_Check_L24_cn r18' a q_1 k).mono (fun g h hg x => r26_Check_L24_B_ch r18 r18' h_r18 (fun κ bad_3 i => g κ (bad_3, i)) (fun bad_3 i => h (bad_3, i)) (fun bad_3 i => hg (bad_3, i)) a q_1 k x.1 x.2) _
theorem r26_Check_L18_B_ch (r15 : Nat → Bool → Int → Option (Int)) (r15' : Bool → Int → Option (Int)) (h_r15 : ∀ a0 a1, ChO (fun κ => r15 κ a0 a1) (r15' a0 a1)) (r18 : Nat → Bool → Int → Option (Int)) (r18' : Bool → Int → Option (Int)) (h_r18 : ∀ a0 a1, ChO (fun κ => r18 κ a0 a1) (r18' a0 a1)) (a : Tp1) (q_1 : Int) (bad_2 : Bool) (k : Int) : ChO (fun κ => r26_Check_L18_B a q_1 (r15 κ) (r18 κ) bad_2 k) (r26_Check_L18_B a q_1 r15' r18' bad_2 k) := by
  unfold r26_Check_L18_B
  repeat' with_reducible first | exact ChO.const _ | exact h_r15 _ _ | exact h_r18 _ _ | (apply r26_Check_L29_ch <;> assumption) | (apply r26_Check_L24_ch <;> assumption) | apply ChO.ite | apply ChO.G | apply ChO.both | (apply ChO.bind; intro _)
theorem r26_Check_L18_cn (r15 : Bool → Int → Option (Int)) (a : Tp1) (q_1 : Int) : Cn (r26_Check_L18_F a q_1 r15) := fun g h hg x => r26_Check_L18_B_ch (fun _ => r15) r15 (fun _ _ => ChO.const _) (fun κ bad_2 k => g κ (bad_2, k)) (fun bad_2 k => h (bad_2, k)) (fun bad_2 k => hg (bad_2, k)) a q_1 x.1 x.2
theorem r26_Check_L18_eq (r15 : Bool → Int → Option (Int)) (a : Tp1) (q_1 : Int) (bad_2 : Bool) (k : Int) : r26_Check_L18 a q_1 r15 bad_2 k = r26_Check_L18_B a q_1 r15 (r26_Check_L18 a q_1 r15) bad_2 k := LFix_eq (r26_Check_L18_cn r15 a q_1) (bad_2, k)
theorem r26_Check_L18_ch (r15 : Nat → Bool → Int → Option (Int)) (r15' : Bool → Int → Option (Int)) (h_r15 : ∀ a0 a1, ChO (fun κ => r15 κ a0 a1) (r15' a0 a1)) (a : Tp1) (q_1 : Int) (bad_2 : Bool) (k : Int) : ChO (fun κ => r26_Check_L18 a q_1 (r15 κ) bad_2 k) (r26_Check_L18 a q_1 r15' bad_2 k) := by
  unfold r26_Check_L18
  exact LFix_ch (fun κ => (r26_Check_L18_cn (r15 κ) a q_1).mono) (r26_Check_L18_cn r15' a q_1).mono (fun g h hg x => r26_Check_L18_B_ch r15 r15' h_r15 (fun κ bad_2 k => g κ (bad_2, k)) (fun bad_2 k => h (bad_2, k)) (fun bad_2 k => hg (bad_2, k)) a q_1 x.1 x.2) _
theorem r26_Check_L15_B_ch (r15 : Nat → Bool → Int → Option (Int)) (r15' : Bool → Int → Option (Int)) (h_r15 : ∀ a0 a1, ChO (fun κ => r15 κ a0 a1) (r15' a0 a1)) (a : Tp1) (bad_1 : Bool) (q_1 : Int) : ChO (fun κ => r26_Check_L15_B a (r15 κ) bad_1 q_1) (r26_Check_L15_B a r15' bad_1 q_1) := by
  unfold r26_Check_L15_B
  repeat' with_reducible first | exact ChO.const _ | exact h_r15 _ _ | (apply r26_Check_L29_ch <;> assumption) | (apply r26_Check_L24_ch <;> assumption) | (apply r26_Check_L18_ch <;> assumption) | apply ChO.ite | apply ChO.G | apply ChO.both | (apply ChO.bind; intro _)
theorem r26_Check_L15_cn  (a : Tp1) : Cn (r26_Check_L15_F a) := fun g h hg x => r26_Check_L15_B_ch  (fun κ bad_1 q_1 => g κ (bad_1, q_1)) (fun bad_1 q_1 => h (bad_1, q_1)) (fun bad_1 q_1 => hg (bad_1, q_1)) a x.1 x.2
theorem r26_Check_L15_eq  (a : Tp1) (bad_1 : Bool) (q_1 : Int) : r26_Check_L15 a bad_1 q_1 = r26_Check_L15_B a (r26_Check_L15 a) bad_1 q_1 := LFix_eq (r26_Check_L15_cn a) (bad_1, q_1)
theorem r26_Check_L9_B_ch (r9 : Nat → Int → Option (Int)) (r9' : Int → Option (Int)) (h_r9 : ∀ a0, ChO (fun κ => r9 κ a0) (r9' a0)) (a : Tp1) (q : Int) : ChO (fun κ => r26_Check_L9_B a (r9 κ) q) (r26_Check_L9_B a r9' q) := by
  unfold r26_Check_L9_B
  repeat' with_reducible first | exact ChO.const _ | exact h_r9 _ | (apply r26_Check_L29_ch <;> assumption) | (apply r26_Check_L24_ch <;> assumption) | (apply r26_Check_L18_ch <;> assumption) | apply ChO.ite | apply ChO.G | apply ChO.both | (apply ChO.bind; intro _)
theorem r26_Check_L9_cn  (a : Tp1) : Cn (r26_Check_L9_F a) := fun g h hg x => r26_Check_L9_B_ch  (fun κ q => g κ q) (fun q => h q) (fun q => hg q) a x
theorem r26_Check_L9_eq  (a : Tp1) (q : Int) : r26_Check_L9 a q = r26_Check_L9_B a (r26_Check_L9 a) q := LFix_eq (r26_Check_L9_cn a) q

noncomputable def word_May_L6_B (letters : Int) (w : Tp5) (r6 : Int → Option (Int)) (t : Int) : Option (Int) :=
  if (decide (t < (w.length : Int))) = true then
  G (0 ≤ t ∧ t < (w.length : Int)) (
  if (decide ((ix w t) < (0 : Int))) = true then
  some (2 : Int) else
  if (decide (letters ≤ (ix w t))) = true then
  some (2 : Int) else
  G (fits (t + (1 : Int))) (
  r6 (t + (1 : Int)))) else
  some (0 : Int)
noncomputable def word_May_L6_F (letters : Int) (w : Tp5) : (Int → Option (Int)) → Int → Option (Int) :=
  fun rec x => word_May_L6_B letters w (fun t => rec t) x
noncomputable def word_May_L6 (letters : Int) (w : Tp5) (t : Int) : Option (Int) := LFix (word_May_L6_F letters w ) t
noncomputable def word_May (letters : Int) (w : Tp5) : Option (Int) :=
  if (decide (letters < (1 : Int))) = true then
  some (2 : Int) else
  if (decide ((4 : Int) < letters)) = true then
  some (2 : Int) else
  if (decide ((60 : Int) < (w.length : Int))) = true then
  some (1 : Int) else
  word_May_L6 letters w (0 : Int)
theorem word_May_L6_B_ch (r6 : Nat → Int → Option (Int)) (r6' : Int → Option (Int)) (h_r6 : ∀ a0, ChO (fun κ => r6 κ a0) (r6' a0)) (letters : Int) (w : Tp5) (t : Int) : ChO (fun κ => word_May_L6_B letters w (r6 κ) t) (word_May_L6_B letters w r6' t) := by
  unfold word_May_L6_B
  repeat' with_reducible first | exact ChO.const _ | exact h_r6 _ | apply ChO.ite | apply ChO.G | apply ChO.both | (apply ChO.bind; intro _)
theorem word_May_L6_cn  (letters : Int) (w : Tp5) : Cn (word_May_L6_F letters w) := fun g h hg x => word_May_L6_B_ch  (fun κ t => g κ t) (fun t => h t) (fun t => hg t) letters w x
theorem word_May_L6_eq  (letters : Int) (w : Tp5) (t : Int) : word_May_L6 letters w t = word_May_L6_B letters w (word_May_L6 letters w) t := LFix_eq (word_May_L6_cn letters w) t

noncomputable def alter_ends_L3_B (a : Tp1) (r3 : Int → Int → Option (Int)) (set' : Int) (t : Int) : Option (Int) :=
  if (decide (t < (a.2.2.2.1.length : Int))) = true then
  G (0 ≤ t ∧ t < (a.2.2.2.1.length : Int)) (
  G (0 ≤ t) (
  G (fits (t + (1 : Int))) (
  r3 (ior .i64 set' (ishl .i64 (ix a.2.2.2.1 t) t)) (t + (1 : Int))))) else
  some set'
noncomputable def alter_ends_L3_F (a : Tp1) : (Int × Int → Option (Int)) → Int × Int → Option (Int) :=
  fun rec x => alter_ends_L3_B a (fun set' t => rec (set', t)) x.1 x.2
noncomputable def alter_ends_L3 (a : Tp1) (set' : Int) (t : Int) : Option (Int) := LFix (alter_ends_L3_F a ) (set', t)
noncomputable def alter_ends (a : Tp1) : Option (Int) :=
  alter_ends_L3 a (0 : Int) (0 : Int)
theorem alter_ends_L3_B_ch (r3 : Nat → Int → Int → Option (Int)) (r3' : Int → Int → Option (Int)) (h_r3 : ∀ a0 a1, ChO (fun κ => r3 κ a0 a1) (r3' a0 a1)) (a : Tp1) (set' : Int) (t : Int) : ChO (fun κ => alter_ends_L3_B a (r3 κ) set' t) (alter_ends_L3_B a r3' set' t) := by
  unfold alter_ends_L3_B
  repeat' with_reducible first | exact ChO.const _ | exact h_r3 _ _ | apply ChO.ite | apply ChO.G | apply ChO.both | (apply ChO.bind; intro _)
theorem alter_ends_L3_cn  (a : Tp1) : Cn (alter_ends_L3_F a) := fun g h hg x => alter_ends_L3_B_ch  (fun κ set' t => g κ (set', t)) (fun set' t => h (set', t)) (fun set' t => hg (set', t)) a x.1 x.2
theorem alter_ends_L3_eq  (a : Tp1) (set' : Int) (t : Int) : alter_ends_L3 a set' t = alter_ends_L3_B a (alter_ends_L3 a) set' t := LFix_eq (alter_ends_L3_cn a) (set', t)

noncomputable def alter_ahead_1_1 (p : Int) (t : Int) : Option (Bool) :=
  G (0 ≤ p) (
  some (decide ((iand .i64 (ishr .i64 t p) (1 : Int)) = (0 : Int))))

noncomputable def slices_IndexFunc_6_L2_B (s : Tp5) (c : Int) (r2 : Int → Option (Int)) (t : Int) : Option (Int) :=
  if (decide (t < (s.length : Int))) = true then
  G (0 ≤ t ∧ t < (s.length : Int)) (
  (alter_ahead_1_1 (ix s t) c).bind (fun y' =>
  if y' = true then
  some t else
  G (fits (t + (1 : Int))) (
  r2 (t + (1 : Int))))) else
  some (-1 : Int)
noncomputable def slices_IndexFunc_6_L2_F (s : Tp5) (c : Int) : (Int → Option (Int)) → Int → Option (Int) :=
  fun rec x => slices_IndexFunc_6_L2_B s c (fun t => rec t) x
noncomputable def slices_IndexFunc_6_L2 (s : Tp5) (c : Int) (t : Int) : Option (Int) := LFix (slices_IndexFunc_6_L2_F s c ) t
noncomputable def slices_IndexFunc_6 (s : Tp5) (c : Int) : Option (Int) :=
  slices_IndexFunc_6_L2 s c (0 : Int)
theorem slices_IndexFunc_6_L2_B_ch (r2 : Nat → Int → Option (Int)) (r2' : Int → Option (Int)) (h_r2 : ∀ a0, ChO (fun κ => r2 κ a0) (r2' a0)) (s : Tp5) (c : Int) (t : Int) : ChO (fun κ => slices_IndexFunc_6_L2_B s c (r2 κ) t) (slices_IndexFunc_6_L2_B s c r2' t) := by
  unfold slices_IndexFunc_6_L2_B
  repeat' with_reducible first | exact ChO.const _ | exact h_r2 _ | apply ChO.ite | apply ChO.G | apply ChO.both | (apply ChO.bind; intro _)
theorem slices_IndexFunc_6_L2_cn  (s : Tp5) (c : Int) : Cn (slices_IndexFunc_6_L2_F s c) := fun g h hg x => slices_IndexFunc_6_L2_B_ch  (fun κ t => g κ t) (fun t => h t) (fun t => hg t) s c x
theorem slices_IndexFunc_6_L2_eq  (s : Tp5) (c : Int) (t : Int) : slices_IndexFunc_6_L2 s c t = slices_IndexFunc_6_L2_B s c (slices_IndexFunc_6_L2 s c) t := LFix_eq (slices_IndexFunc_6_L2_cn s c) t

noncomputable def slices_ContainsFunc_6 (s : Tp5) (c : Int) : Option (Bool) :=
  (slices_IndexFunc_6 s c).bind (fun y' =>
  some (decide ((0 : Int) ≤ y')))

noncomputable def alter_ahead_1 (c : Tp5) (t : Int) : Option (Bool) :=
  (slices_ContainsFunc_6 c t).bind (fun y' =>
  some (!y'))

noncomputable def slices_IndexFunc_5_L2_B (s : Tp4) (c : Int) (r2 : Int → Option (Int)) (t : Int) : Option (Int) :=
  if (decide (t < (s.length : Int))) = true then
  G (0 ≤ t ∧ t < (s.length : Int)) (
  (alter_ahead_1 (ix s t) c).bind (fun y' =>
  if y' = true then
  some t else
  G (fits (t + (1 : Int))) (
  r2 (t + (1 : Int))))) else
  some (-1 : Int)
noncomputable def slices_IndexFunc_5_L2_F (s : Tp4) (c : Int) : (Int → Option (Int)) → Int → Option (Int) :=
  fun rec x => slices_IndexFunc_5_L2_B s c (fun t => rec t) x
noncomputable def slices_IndexFunc_5_L2 (s : Tp4) (c : Int) (t : Int) : Option (Int) := LFix (slices_IndexFunc_5_L2_F s c ) t
noncomputable def slices_IndexFunc_5 (s : Tp4) (c : Int) : Option (Int) :=
  slices_IndexFunc_5_L2 s c (0 : Int)
theorem slices_IndexFunc_5_L2_B_ch (r2 : Nat → Int → Option (Int)) (r2' : Int → Option (Int)) (h_r2 : ∀ a0, ChO (fun κ => r2 κ a0) (r2' a0)) (s : Tp4) (c : Int) (t : Int) : ChO (fun κ => slices_IndexFunc_5_L2_B s c (r2 κ) t) (slices_IndexFunc_5_L2_B s c r2' t) := by
  unfold slices_IndexFunc_5_L2_B
  repeat' with_reducible first | exact ChO.const _ | exact h_r2 _ | apply ChO.ite | apply ChO.G | apply ChO.both | (apply ChO.bind; intro _)
theorem slices_IndexFunc_5_L2_cn  (s : Tp4) (c : Int) : Cn (slices_IndexFunc_5_L2_F s c) := fun g h hg x => slices_IndexFunc_5_L2_B_ch  (fun κ t => g κ t) (fun t => h t) (fun t => hg t) s c x
theorem slices_IndexFunc_5_L2_eq  (s : Tp4) (c : Int) (t : Int) : slices_IndexFunc_5_L2 s c t = slices_IndexFunc_5_L2_B s c (slices_IndexFunc_5_L2 s c) t := LFix_eq (slices_IndexFunc_5_L2_cn s c) t

noncomputable def slices_ContainsFunc_5 (s : Tp4) (c : Int) : Option (Bool) :=
  (slices_IndexFunc_5 s c).bind (fun y' =>
  some (decide ((0 : Int) ≤ y')))

noncomputable def alter_ahead_L3_B (a : Tp1) (set' : Int) (letter : Int) (r3 : Int → Int → Option (Int)) (out : Int) (t : Int) : Option (Int) :=
  if (decide (t < (a.2.2.1.length : Int))) = true then
  G (0 ≤ t ∧ t < (a.2.2.1.length : Int)) (
  G (0 ≤ letter ∧ letter < ((ix a.2.2.1 t).length : Int)) (
  (slices_ContainsFunc_5 (ix (ix a.2.2.1 t) letter) set').bind (fun y' =>
  if y' = true then
  G (0 ≤ t) (
  G (fits (t + (1 : Int))) (
  r3 (ior .i64 out (ishl .i64 (1 : Int) t)) (t + (1 : Int)))) else
  G (fits (t + (1 : Int))) (
  r3 out (t + (1 : Int)))))) else
  some out
noncomputable def alter_ahead_L3_F (a : Tp1) (set' : Int) (letter : Int) : (Int × Int → Option (Int)) → Int × Int → Option (Int) :=
  fun rec x => alter_ahead_L3_B a set' letter (fun out t => rec (out, t)) x.1 x.2
noncomputable def alter_ahead_L3 (a : Tp1) (set' : Int) (letter : Int) (out : Int) (t : Int) : Option (Int) := LFix (alter_ahead_L3_F a set' letter ) (out, t)
noncomputable def alter_ahead (a : Tp1) (set' : Int) (letter : Int) : Option (Int) :=
  alter_ahead_L3 a set' letter (0 : Int) (0 : Int)
theorem alter_ahead_L3_B_ch (r3 : Nat → Int → Int → Option (Int)) (r3' : Int → Int → Option (Int)) (h_r3 : ∀ a0 a1, ChO (fun κ => r3 κ a0 a1) (r3' a0 a1)) (a : Tp1) (set' : Int) (letter : Int) (out : Int) (t : Int) : ChO (fun κ => alter_ahead_L3_B a set' letter (r3 κ) out t) (alter_ahead_L3_B a set' letter r3' out t) := by
  unfold alter_ahead_L3_B
  repeat' with_reducible first | exact ChO.const _ | exact h_r3 _ _ | apply ChO.ite | apply ChO.G | apply ChO.both | (apply ChO.bind; intro _)
theorem alter_ahead_L3_cn  (a : Tp1) (set' : Int) (letter : Int) : Cn (alter_ahead_L3_F a set' letter) := fun g h hg x => alter_ahead_L3_B_ch  (fun κ out t => g κ (out, t)) (fun out t => h (out, t)) (fun out t => hg (out, t)) a set' letter x.1 x.2
theorem alter_ahead_L3_eq  (a : Tp1) (set' : Int) (letter : Int) (out : Int) (t : Int) : alter_ahead_L3 a set' letter out t = alter_ahead_L3_B a set' letter (alter_ahead_L3 a set' letter) out t := LFix_eq (alter_ahead_L3_cn a set' letter) (out, t)

noncomputable def alter_Accepts (a : (Int × (Int × ((List Tp3) × (Tp5 × Unit))))) (w : List Int) : Option (Bool × Int) :=
  (alter_Check a).bind fun e0 => if ¬ e0 = 0 then some (false, e0) else (word_May a.1 w).bind fun e1 => if ¬ e1 = 0 then some (false, e1) else
    (alter_ends a).bind fun s0 => backAll (fun s x => alter_ahead a s x) w s0 fun s => G (0 ≤ a.2.1) (some (decide (iand .i64 (ishr .i64 s a.2.1) 1 = 1), 0))


noncomputable def r1_May_L6_B (letters : Int) (w : Tp5) (r6 : Int → Option (Int)) (i : Int) : Option (Int) :=
  if (decide (i < (w.length : Int))) = true then
  G (0 ≤ i ∧ i < (w.length : Int)) (
  if (decide ((ix w i) < (0 : Int))) = true then
  some (2 : Int) else
  G (0 ≤ i ∧ i < (w.length : Int)) (
  if (decide (letters ≤ (ix w i))) = true then
  some (2 : Int) else
  G (fits (i + (1 : Int))) (
  r6 (i + (1 : Int))))) else
  some (0 : Int)
noncomputable def r1_May_L6_F (letters : Int) (w : Tp5) : (Int → Option (Int)) → Int → Option (Int) :=
  fun rec x => r1_May_L6_B letters w (fun i => rec i) x
noncomputable def r1_May_L6 (letters : Int) (w : Tp5) (i : Int) : Option (Int) := LFix (r1_May_L6_F letters w ) i
noncomputable def r1_May (letters : Int) (w : Tp5) : Option (Int) :=
  if (decide (letters < (1 : Int))) = true then
  some (2 : Int) else
  if (decide ((4 : Int) < letters)) = true then
  some (2 : Int) else
  if (decide ((60 : Int) < (w.length : Int))) = true then
  some (1 : Int) else
  r1_May_L6 letters w (0 : Int)
theorem r1_May_L6_B_ch (r6 : Nat → Int → Option (Int)) (r6' : Int → Option (Int)) (h_r6 : ∀ a0, ChO (fun κ => r6 κ a0) (r6' a0)) (letters : Int) (w : Tp5) (i : Int) : ChO (fun κ => r1_May_L6_B letters w (r6 κ) i) (r1_May_L6_B letters w r6' i) := by
  unfold r1_May_L6_B
  repeat' with_reducible first | exact ChO.const _ | exact h_r6 _ | apply ChO.ite | apply ChO.G | apply ChO.both | (apply ChO.bind; intro _)
theorem r1_May_L6_cn  (letters : Int) (w : Tp5) : Cn (r1_May_L6_F letters w) := fun g h hg x => r1_May_L6_B_ch  (fun κ i => g κ i) (fun i => h i) (fun i => hg i) letters w x
theorem r1_May_L6_eq  (letters : Int) (w : Tp5) (i : Int) : r1_May_L6 letters w i = r1_May_L6_B letters w (r1_May_L6 letters w) i := LFix_eq (r1_May_L6_cn letters w) i

noncomputable def r26_From_L12_B (rc_r26_From : Tf1) (a : Tp1) (q : Int) (w : Tp5) (at' : Int) (i : Int) (r8 : (Bool → Int → Tp4 → Option Tp2)) (r12 : Bool → Int → Tp4 → Option Tp2) (all' : Bool) (j : Int) (known_2 : Tp4) : Option Tp2 :=
  G (0 ≤ i ∧ i < ((ix (ix a.2.2.1 q) (ix w at')).length : Int)) (
  if (decide (j < ((ix (ix (ix a.2.2.1 q) (ix w at')) i).length : Int))) = true then
  if all' = true then
  G (0 ≤ i ∧ i < ((ix (ix a.2.2.1 q) (ix w at')).length : Int)) (
  G (0 ≤ j ∧ j < ((ix (ix (ix a.2.2.1 q) (ix w at')) i).length : Int)) (
  G (fits (at' + (1 : Int))) (
  (rc_r26_From (a.1, (a.2.1, (a.2.2.1, (a.2.2.2.1, ())))) (ix (ix (ix (ix a.2.2.1 q) (ix w at')) i) j) w (at' + (1 : Int)) known_2).bind (fun y'_3 =>
  G (fits (j + (1 : Int))) (
  r12 y'_3.1 (j + (1 : Int)) y'_3.2))))) else
  G (fits (i + (1 : Int))) (
  r8 all' (i + (1 : Int)) known_2) else
  G (fits (i + (1 : Int))) (
  r8 all' (i + (1 : Int)) known_2))
noncomputable def r26_From_L12_F (rc_r26_From : Tf1) (a : Tp1) (q : Int) (w : Tp5) (at' : Int) (i : Int) (r8 : (Bool → Int → Tp4 → Option Tp2)) : (Bool × Int × Tp4 → Option Tp2) → Bool × Int × Tp4 → Option Tp2 :=
  fun rec x => r26_From_L12_B rc_r26_From a q w at' i r8 (fun all' j known_2 => rec (all', j, known_2)) x.1 x.2.1 x.2.2
noncomputable def r26_From_L12 (rc_r26_From : Tf1) (a : Tp1) (q : Int) (w : Tp5) (at' : Int) (i : Int) (r8 : (Bool → Int → Tp4 → Option Tp2)) (all' : Bool) (j : Int) (known_2 : Tp4) : Option Tp2 := LFix (r26_From_L12_F rc_r26_From a q w at' i r8 ) (all', j, known_2)
noncomputable def r26_From_J18 (is'_1 : Bool) (known_4 : Tp4) : Option Tp2 :=
  some (is'_1, known_4)
noncomputable def r26_From_J9 (q : Int) (at' : Int) (is'_1 : Bool) (known_3 : Tp4) : Option Tp2 :=
  G (0 ≤ q ∧ q < (known_3.length : Int)) (
  G ((q).toNat < known_3.length) (
  G (0 ≤ at' ∧ at' < ((ix known_3 q).length : Int)) (
  G ((at').toNat < (ix known_3 q).length) (
  if is'_1 = true then
  G (0 ≤ q ∧ q < ((known_3.set (q).toNat ((ix known_3 q).set (at').toNat (2 : Int))).length : Int)) (
  G ((q).toNat < (known_3.set (q).toNat ((ix known_3 q).set (at').toNat (2 : Int))).length) (
  G (0 ≤ at' ∧ at' < ((ix (known_3.set (q).toNat ((ix known_3 q).set (at').toNat (2 : Int))) q).length : Int)) (
  G ((at').toNat < (ix (known_3.set (q).toNat ((ix known_3 q).set (at').toNat (2 : Int))) q).length) (
  r26_From_J18 is'_1 ((known_3.set (q).toNat ((ix known_3 q).set (at').toNat (2 : Int))).set (q).toNat ((ix (known_3.set (q).toNat ((ix known_3 q).set (at').toNat (2 : Int))) q).set (at').toNat (1 : Int))))))) else
  r26_From_J18 is'_1 (known_3.set (q).toNat ((ix known_3 q).set (at').toNat (2 : Int)))))))
noncomputable def r26_From_L8_B (rc_r26_From : Tf1) (a : Tp1) (q : Int) (w : Tp5) (at' : Int) (r8 : Bool → Int → Tp4 → Option Tp2) (is' : Bool) (i : Int) (known_1 : Tp4) : Option Tp2 :=
  if (decide (i < ((ix (ix a.2.2.1 q) (ix w at')).length : Int))) = true then
  if (!is') = true then
  r26_From_L12 rc_r26_From a q w at' i r8 true (0 : Int) known_1 else
  r26_From_J9 q at' is' known_1 else
  r26_From_J9 q at' is' known_1
noncomputable def r26_From_L8_F (rc_r26_From : Tf1) (a : Tp1) (q : Int) (w : Tp5) (at' : Int) : (Bool × Int × Tp4 → Option Tp2) → Bool × Int × Tp4 → Option Tp2 :=
  fun rec x => r26_From_L8_B rc_r26_From a q w at' (fun is' i known_1 => rec (is', i, known_1)) x.1 x.2.1 x.2.2
noncomputable def r26_From_L8 (rc_r26_From : Tf1) (a : Tp1) (q : Int) (w : Tp5) (at' : Int) (is' : Bool) (i : Int) (known_1 : Tp4) : Option Tp2 := LFix (r26_From_L8_F rc_r26_From a q w at' ) (is', i, known_1)
noncomputable def r26_From_B (rc_r26_From : Tf1) (a : Tp1) (q : Int) (w : Tp5) (at' : Int) (known : Tp4) : Option Tp2 :=
  G (0 ≤ q ∧ q < (known.length : Int)) (
  G ((q).toNat < known.length) (
  G (0 ≤ at' ∧ at' < ((ix known q).length : Int)) (
  G ((at').toNat < (ix known q).length) (
  if (decide ((0 : Int) < (ix (ix known q) at'))) = true then
  G (0 ≤ q ∧ q < (known.length : Int)) (
  G ((q).toNat < known.length) (
  G (0 ≤ at' ∧ at' < ((ix known q).length : Int)) (
  G ((at').toNat < (ix known q).length) (
  some (decide ((ix (ix known q) at') = (1 : Int)), known))))) else
  G (0 ≤ q ∧ q < (a.2.2.2.1.length : Int)) (
  if (decide (at' < (w.length : Int))) = true then
  G (0 ≤ q ∧ q < (a.2.2.1.length : Int)) (
  G (0 ≤ at' ∧ at' < (w.length : Int)) (
  G (0 ≤ ix w at' ∧ ix w at' < ((ix a.2.2.1 q).length : Int)) (
  r26_From_L8 rc_r26_From a q w at' false (0 : Int) known))) else
  r26_From_J9 q at' (decide ((ix a.2.2.2.1 q) = (1 : Int))) known)))))
theorem r26_From_L12_B_ch (rc_r26_From : Nat → Tf1) (rc_r26_From' : Tf1) (h_rc_r26_From : ∀ a0 a1 a2 a3 a4, ChO (fun κ => rc_r26_From κ a0 a1 a2 a3 a4) (rc_r26_From' a0 a1 a2 a3 a4)) (r8 : Nat → Bool → Int → Tp4 → Option Tp2) (r8' : Bool → Int → Tp4 → Option Tp2) (h_r8 : ∀ a0 a1 a2, ChO (fun κ => r8 κ a0 a1 a2) (r8' a0 a1 a2)) (r12 : Nat → Bool → Int → Tp4 → Option Tp2) (r12' : Bool → Int → Tp4 → Option Tp2) (h_r12 : ∀ a0 a1 a2, ChO (fun κ => r12 κ a0 a1 a2) (r12' a0 a1 a2)) (a : Tp1) (q : Int) (w : Tp5) (at' : Int) (i : Int) (all' : Bool) (j : Int) (known_2 : Tp4) : ChO (fun κ => r26_From_L12_B (rc_r26_From κ) a q w at' i (r8 κ) (r12 κ) all' j known_2) (r26_From_L12_B rc_r26_From' a q w at' i r8' r12' all' j known_2) := by
  unfold r26_From_L12_B
  repeat' with_reducible first | exact ChO.const _ | exact h_rc_r26_From _ _ _ _ _ | exact h_r8 _ _ _ | exact h_r12 _ _ _ | apply ChO.ite | apply ChO.G | apply ChO.both | (apply ChO.bind; intro _) | (apply ChO.bind2 (h_rc_r26_From _ _ _ _ _); intro _)
theorem r26_From_L12_cn (rc_r26_From : Tf1) (r8 : Bool → Int → Tp4 → Option Tp2) (a : Tp1) (q : Int) (w : Tp5) (at' : Int) (i : Int) : Cn (r26_From_L12_F rc_r26_From a q w at' i r8) := fun g h hg x => r26_From_L12_B_ch (fun _ => rc_r26_From) rc_r26_From (fun _ _ _ _ _ => ChO.const _) (fun _ => r8) r8 (fun _ _ _ => ChO.const _) (fun κ all' j known_2 => g κ (all', j, known_2)) (fun all' j known_2 => h (all', j, known_2)) (fun all' j known_2 => hg (all', j, known_2)) a q w at' i x.1 x.2.1 x.2.2
theorem r26_From_L12_eq (rc_r26_From : Tf1) (r8 : Bool → Int → Tp4 → Option Tp2) (a : Tp1) (q : Int) (w : Tp5) (at' : Int) (i : Int) (all' : Bool) (j : Int) (known_2 : Tp4) : r26_From_L12 rc_r26_From a q w at' i r8 all' j known_2 = r26_From_L12_B rc_r26_From a q w at' i r8 (r26_From_L12 rc_r26_From a q w at' i r8) all' j known_2 := LFix_eq (r26_From_L12_cn rc_r26_From r8 a q w at' i) (all', j, known_2)
theorem r26_From_L12_ch (rc_r26_From : Nat → Tf1) (rc_r26_From' : Tf1) (h_rc_r26_From : ∀ a0 a1 a2 a3 a4, ChO (fun κ => rc_r26_From κ a0 a1 a2 a3 a4) (rc_r26_From' a0 a1 a2 a3 a4)) (r8 : Nat → Bool → Int → Tp4 → Option Tp2) (r8' : Bool → Int → Tp4 → Option Tp2) (h_r8 : ∀ a0 a1 a2, ChO (fun κ => r8 κ a0 a1 a2) (r8' a0 a1 a2)) (a : Tp1) (q : Int) (w : Tp5) (at' : Int) (i : Int) (all' : Bool) (j : Int) (known_2 : Tp4) : ChO (fun κ => r26_From_L12 (rc_r26_From κ) a q w at' i (r8 κ) all' j known_2) (r26_From_L12 rc_r26_From' a q w at' i r8' all' j known_2) := by
  unfold r26_From_L12
  exact LFix_ch (fun κ => (r26_From_L12_cn (rc_r26_From κ) (r8 κ) a q w at' i).mono) (r26_From_L12_cn rc_r26_From' r8' a q w at' i).mono (fun g h hg x => r26_From_L12_B_ch rc_r26_From rc_r26_From' h_rc_r26_From r8 r8' h_r8 (fun κ all' j known_2 => g κ (all', j, known_2)) (fun all' j known_2 => h (all', j, known_2)) (fun all' j known_2 => hg (all', j, known_2)) a q w at' i x.1 x.2.1 x.2.2) _
theorem r26_From_L8_B_ch (rc_r26_From : Nat → Tf1) (rc_r26_From' : Tf1) (h_rc_r26_From : ∀ a0 a1 a2 a3 a4, ChO (fun κ => rc_r26_From κ a0 a1 a2 a3 a4) (rc_r26_From' a0 a1 a2 a3 a4)) (r8 : Nat → Bool → Int → Tp4 → Option Tp2) (r8' : Bool → Int → Tp4 → Option Tp2) (h_r8 : ∀ a0 a1 a2, ChO (fun κ => r8 κ a0 a1 a2) (r8' a0 a1 a2)) (a : Tp1) (q : Int) (w : Tp5) (at' : Int) (is' : Bool) (i : Int) (known_1 : Tp4) : ChO (fun κ => r26_From_L8_B (rc_r26_From κ) a q w at' (r8 κ) is' i known_1) (r26_From_L8_B rc_r26_From' a q w at' r8' is' i known_1) := by
  unfold r26_From_L8_B
  repeat' with_reducible first | exact ChO.const _ | exact h_rc_r26_From _ _ _ _ _ | exact h_r8 _ _ _ | (apply r26_From_L12_ch <;> assumption) | apply ChO.ite | apply ChO.G | apply ChO.both | (apply ChO.bind; intro _) | (apply ChO.bind2 (h_rc_r26_From _ _ _ _ _); intro _)
theorem r26_From_L8_cn (rc_r26_From : Tf1) (a : Tp1) (q : Int) (w : Tp5) (at' : Int) : Cn (r26_From_L8_F rc_r26_From a q w at') := fun g h hg x => r26_From_L8_B_ch (fun _ => rc_r26_From) rc_r26_From (fun _ _ _ _ _ => ChO.const _) (fun κ is' i known_1 => g κ (is', i, known_1)) (fun is' i known_1 => h (is', i, known_1)) (fun is' i known_1 => hg (is', i, known_1)) a q w at' x.1 x.2.1 x.2.2
theorem r26_From_L8_eq (rc_r26_From : Tf1) (a : Tp1) (q : Int) (w : Tp5) (at' : Int) (is' : Bool) (i : Int) (known_1 : Tp4) : r26_From_L8 rc_r26_From a q w at' is' i known_1 = r26_From_L8_B rc_r26_From a q w at' (r26_From_L8 rc_r26_From a q w at') is' i known_1 := LFix_eq (r26_From_L8_cn rc_r26_From a q w at') (is', i, known_1)
theorem r26_From_L8_ch (rc_r26_From : Nat → Tf1) (rc_r26_From' : Tf1) (h_rc_r26_From : ∀ a0 a1 a2 a3 a4, ChO (fun κ => rc_r26_From κ a0 a1 a2 a3 a4) (rc_r26_From' a0 a1 a2 a3 a4)) (a : Tp1) (q : Int) (w : Tp5) (at' : Int) (is' : Bool) (i : Int) (known_1 : Tp4) : ChO (fun κ => r26_From_L8 (rc_r26_From κ) a q w at' is' i known_1) (r26_From_L8 rc_r26_From' a q w at' is' i known_1) := by
  unfold r26_From_L8
  exact LFix_ch (fun κ => (r26_From_L8_cn (rc_r26_From κ) a q w at').mono) (r26_From_L8_cn rc_r26_From' a q w at').mono (fun g h hg x => r26_From_L8_B_ch rc_r26_From rc_r26_From' h_rc_r26_From (fun κ is' i known_1 => g κ (is', i, known_1)) (fun is' i known_1 => h (is', i, known_1)) (fun is' i known_1 => hg (is', i, known_1)) a q w at' x.1 x.2.1 x.2.2) _
theorem r26_From_B_ch (rc_r26_From : Nat → Tf1) (rc_r26_From' : Tf1) (h_rc_r26_From : ∀ a0 a1 a2 a3 a4, ChO (fun κ => rc_r26_From κ a0 a1 a2 a3 a4) (rc_r26_From' a0 a1 a2 a3 a4)) (a : Tp1) (q : Int) (w : Tp5) (at' : Int) (known : Tp4) : ChO (fun κ => r26_From_B (rc_r26_From κ) a q w at' known) (r26_From_B rc_r26_From' a q w at' known) := by
  unfold r26_From_B
  repeat' with_reducible first | exact ChO.const _ | exact h_rc_r26_From _ _ _ _ _ | (apply r26_From_L12_ch <;> assumption) | (apply r26_From_L8_ch <;> assumption) | apply ChO.ite | apply ChO.G | apply ChO.both | (apply ChO.bind; intro _) | (apply ChO.bind2 (h_rc_r26_From _ _ _ _ _); intro _)
noncomputable def r26_From_F : (Tp1 × Int × Tp5 × Int × Tp4 → Option Tp2) → Tp1 × Int × Tp5 × Int × Tp4 → Option Tp2 :=
  fun rec X => r26_From_B (fun a q w at' known => rec (a, q, w, at', known)) X.1 X.2.1 X.2.2.1 X.2.2.2.1 X.2.2.2.2
noncomputable def r26_From (a : Tp1) (q : Int) (w : Tp5) (at' : Int) (known : Tp4) : Option Tp2 := LFix r26_From_F (a, q, w, at', known)
theorem r26_From_cn : Cn r26_From_F := fun g h hg X => r26_From_B_ch _ _ (fun a q w at' known => hg (a, q, w, at', known)) X.1 X.2.1 X.2.2.1 X.2.2.2.1 X.2.2.2.2
theorem r26_From_eq (a : Tp1) (q : Int) (w : Tp5) (at' : Int) (known : Tp4) : r26_From a q w at' known = r26_From_B r26_From a q w at' known := LFix_eq r26_From_cn (a, q, w, at', known)

noncomputable def r26_Accepts_L3_B (a : Tp1) (w : Tp5) (r3 : Int → Tp4 → Option (Bool)) (q : Int) (known : Tp4) : Option (Bool) :=
  if (decide (q < (a.2.2.1.length : Int))) = true then
  G (fits ((w.length : Int) + (1 : Int))) (
  G (mkOK ((w.length : Int) + (1 : Int)) ((w.length : Int) + (1 : Int)) 8) (
  G (room known ([List.replicate ((w.length : Int) + (1 : Int)).toNat (0 : Int)]) 24) (
  G (fits (q + (1 : Int))) (
  r3 (q + (1 : Int)) (known ++ ([List.replicate ((w.length : Int) + (1 : Int)).toNat (0 : Int)])))))) else
  (r26_From (a.1, (a.2.1, (a.2.2.1, (a.2.2.2.1, ())))) a.2.1 w (0 : Int) known).bind (fun y'_3 =>
  some y'_3.1)
noncomputable def r26_Accepts_L3_F (a : Tp1) (w : Tp5) : (Int × Tp4 → Option (Bool)) → Int × Tp4 → Option (Bool) :=
  fun rec x => r26_Accepts_L3_B a w (fun q known => rec (q, known)) x.1 x.2
noncomputable def r26_Accepts_L3 (a : Tp1) (w : Tp5) (q : Int) (known : Tp4) : Option (Bool) := LFix (r26_Accepts_L3_F a w ) (q, known)
noncomputable def r26_Accepts (a : Tp1) (w : Tp5) : Option (Bool) :=
  r26_Accepts_L3 a w (0 : Int) ([])
theorem r26_Accepts_L3_B_ch (r3 : Nat → Int → Tp4 → Option (Bool)) (r3' : Int → Tp4 → Option (Bool)) (h_r3 : ∀ a0 a1, ChO (fun κ => r3 κ a0 a1) (r3' a0 a1)) (a : Tp1) (w : Tp5) (q : Int) (known : Tp4) : ChO (fun κ => r26_Accepts_L3_B a w (r3 κ) q known) (r26_Accepts_L3_B a w r3' q known) := by
  unfold r26_Accepts_L3_B
  repeat' with_reducible first | exact ChO.const _ | exact h_r3 _ _ | apply ChO.ite | apply ChO.G | apply ChO.both | (apply ChO.bind; intro _)
theorem r26_Accepts_L3_cn  (a : Tp1) (w : Tp5) : Cn (r26_Accepts_L3_F a w) := fun g h hg x => r26_Accepts_L3_B_ch  (fun κ q known => g κ (q, known)) (fun q known => h (q, known)) (fun q known => hg (q, known)) a w x.1 x.2
theorem r26_Accepts_L3_eq  (a : Tp1) (w : Tp5) (q : Int) (known : Tp4) : r26_Accepts_L3 a w q known = r26_Accepts_L3_B a w (r26_Accepts_L3 a w) q known := LFix_eq (r26_Accepts_L3_cn a w) (q, known)

noncomputable def law_AlterAccepts_J7 (a : Tp1) (w : Tp5) (y'_2 : Bool) (e : Int) (no : Int) : Option (Bool) :=
  if (decide (¬ no = (0 : Int))) = true then
  if (decide (e = no)) = true then
  some (!y'_2) else
  some false else
  (r26_Accepts (a.1, (a.2.1, (a.2.2.1, (a.2.2.2.1, ())))) w).bind (fun y'_5 =>
  if (decide (e = (0 : Int))) = true then
  some (decide (y'_2 = y'_5)) else
  some false)
noncomputable def law_AlterAccepts (a : Tp1) (w : Tp5) : Option (Bool) :=
  (alter_Check (a.1, (a.2.1, (a.2.2.1, (a.2.2.2.1, ()))))).bind (fun y' =>
  (r26_Check (a.1, (a.2.1, (a.2.2.1, (a.2.2.2.1, ()))))).bind (fun y'_1 =>
  (alter_Accepts (a.1, (a.2.1, (a.2.2.1, (a.2.2.2.1, ())))) w).bind (fun y'_6 =>
  if (decide (¬ y' = y'_1)) = true then
  some false else
  if (decide (y'_1 = (0 : Int))) = true then
  (r1_May a.1 w).bind (fun y'_4 =>
  law_AlterAccepts_J7 a w y'_6.1 y'_6.2 y'_4) else
  law_AlterAccepts_J7 a w y'_6.1 y'_6.2 y'_1)))

end Go.Proofs.Ytbkokgohnmjdeaa.alterAcceptsW
