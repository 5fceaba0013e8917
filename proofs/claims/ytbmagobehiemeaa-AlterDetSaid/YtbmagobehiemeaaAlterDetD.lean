/- What the functions that 'AlterDet' reaches compute: plain functions. -/
import Derived.Test.YtbmagobehiemeaaEv20n21
set_option maxHeartbeats 1000000
set_option maxRecDepth 20000
set_option linter.unusedSimpArgs false
set_option linter.unusedVariables false
set_option linter.unusedSectionVars false
namespace Go.Proofs.Ytbmagobehiemeaa.alterDetW
open Go Go.Ab
abbrev Tp5 := (Bool × (List (List Int)))
abbrev Tp4 := (Int × Int × (List (List Int)) × (List Int) × Unit)
abbrev Tp3 := (Tp4 × Int)
abbrev Tp2 := (Tp4 × Bool)
abbrev Tp1 := (Int × Int × (List (List (List (List Int)))) × (List Int) × Unit)
noncomputable def alter_Check_1 (r : (List (List (List Int)))) (t : Tp1) : Option (Bool) :=
  some (decide (¬ (r.length : Int) = t.1))

noncomputable def slices_IndexFunc_L2_B (s : (List (List (List (List Int))))) (c : Tp1) (r2 : Int → Option (Int)) (t : Int) : Option (Int) :=
  if (decide (t < (s.length : Int))) = true then
  G (0 ≤ t ∧ t < (s.length : Int)) (
  (alter_Check_1 (ix s t) c).bind (fun y' =>
  if y' = true then
  some t else
  G (fits (t + (1 : Int))) (
  r2 (t + (1 : Int))))) else
  some (-1 : Int)
noncomputable def slices_IndexFunc_L2_F (s : (List (List (List (List Int))))) (c : Tp1) : (Int → Option (Int)) → Int → Option (Int) :=
  fun rec x => slices_IndexFunc_L2_B s c (fun t => rec t) x
noncomputable def slices_IndexFunc_L2 (s : (List (List (List (List Int))))) (c : Tp1) (t : Int) : Option (Int) := LFix (slices_IndexFunc_L2_F s c ) t
noncomputable def slices_IndexFunc (s : (List (List (List (List Int))))) (c : Tp1) : Option (Int) :=
  slices_IndexFunc_L2 s c (0 : Int)
theorem slices_IndexFunc_L2_B_ch (r2 : Nat → Int → Option (Int)) (r2' : Int → Option (Int)) (h_r2 : ∀ a0, ChO (fun κ => r2 κ a0) (r2' a0)) (s : (List (List (List (List Int))))) (c : Tp1) (t : Int) : ChO (fun κ => slices_IndexFunc_L2_B s c (r2 κ) t) (slices_IndexFunc_L2_B s c r2' t) := by
  unfold slices_IndexFunc_L2_B
  repeat' with_reducible first | exact ChO.const _ | exact h_r2 _ | apply ChO.ite | apply ChO.G | apply ChO.both | (apply ChO.bind; intro _)
theorem slices_IndexFunc_L2_cn  (s : (List (List (List (List Int))))) (c : Tp1) : Cn (slices_IndexFunc_L2_F s c) := fun g h hg x => slices_IndexFunc_L2_B_ch  (fun κ t => g κ t) (fun t => h t) (fun t => hg t) s c x
theorem slices_IndexFunc_L2_eq  (s : (List (List (List (List Int))))) (c : Tp1) (t : Int) : slices_IndexFunc_L2 s c t = slices_IndexFunc_L2_B s c (slices_IndexFunc_L2 s c) t := LFix_eq (slices_IndexFunc_L2_cn s c) t

noncomputable def slices_ContainsFunc (s : (List (List (List (List Int))))) (c : Tp1) : Option (Bool) :=
  (slices_IndexFunc s c).bind (fun y' =>
  some (decide ((0 : Int) ≤ y')))

noncomputable def alter_Check_3 (c : (List Int)) : Option (Bool) :=
  some (decide ((4 : Int) < (c.length : Int)))

noncomputable def slices_IndexFunc_1_L2_B (s : (List (List Int))) (r2 : Int → Option (Int)) (t : Int) : Option (Int) :=
  if (decide (t < (s.length : Int))) = true then
  G (0 ≤ t ∧ t < (s.length : Int)) (
  (alter_Check_3 (ix s t)).bind (fun y' =>
  if y' = true then
  some t else
  G (fits (t + (1 : Int))) (
  r2 (t + (1 : Int))))) else
  some (-1 : Int)
noncomputable def slices_IndexFunc_1_L2_F (s : (List (List Int))) : (Int → Option (Int)) → Int → Option (Int) :=
  fun rec x => slices_IndexFunc_1_L2_B s (fun t => rec t) x
noncomputable def slices_IndexFunc_1_L2 (s : (List (List Int))) (t : Int) : Option (Int) := LFix (slices_IndexFunc_1_L2_F s ) t
noncomputable def slices_IndexFunc_1 (s : (List (List Int))) : Option (Int) :=
  slices_IndexFunc_1_L2 s (0 : Int)
theorem slices_IndexFunc_1_L2_B_ch (r2 : Nat → Int → Option (Int)) (r2' : Int → Option (Int)) (h_r2 : ∀ a0, ChO (fun κ => r2 κ a0) (r2' a0)) (s : (List (List Int))) (t : Int) : ChO (fun κ => slices_IndexFunc_1_L2_B s (r2 κ) t) (slices_IndexFunc_1_L2_B s r2' t) := by
  unfold slices_IndexFunc_1_L2_B
  repeat' with_reducible first | exact ChO.const _ | exact h_r2 _ | apply ChO.ite | apply ChO.G | apply ChO.both | (apply ChO.bind; intro _)
theorem slices_IndexFunc_1_L2_cn  (s : (List (List Int))) : Cn (slices_IndexFunc_1_L2_F s) := fun g h hg x => slices_IndexFunc_1_L2_B_ch  (fun κ t => g κ t) (fun t => h t) (fun t => hg t) s x
theorem slices_IndexFunc_1_L2_eq  (s : (List (List Int))) (t : Int) : slices_IndexFunc_1_L2 s t = slices_IndexFunc_1_L2_B s (slices_IndexFunc_1_L2 s) t := LFix_eq (slices_IndexFunc_1_L2_cn s) t

noncomputable def slices_ContainsFunc_1 (s : (List (List Int))) : Option (Bool) :=
  (slices_IndexFunc_1 s).bind (fun y' =>
  some (decide ((0 : Int) ≤ y')))

noncomputable def alter_Check_2 (q : Int) (t : Int) : Option (Bool) :=
  if (decide (q < (0 : Int))) = true then
  some true else
  some (decide (t ≤ q))

noncomputable def slices_IndexFunc_3_L2_B (s : (List Int)) (c : Int) (r2 : Int → Option (Int)) (t : Int) : Option (Int) :=
  if (decide (t < (s.length : Int))) = true then
  G (0 ≤ t ∧ t < (s.length : Int)) (
  (alter_Check_2 (ix s t) c).bind (fun y' =>
  if y' = true then
  some t else
  G (fits (t + (1 : Int))) (
  r2 (t + (1 : Int))))) else
  some (-1 : Int)
noncomputable def slices_IndexFunc_3_L2_F (s : (List Int)) (c : Int) : (Int → Option (Int)) → Int → Option (Int) :=
  fun rec x => slices_IndexFunc_3_L2_B s c (fun t => rec t) x
noncomputable def slices_IndexFunc_3_L2 (s : (List Int)) (c : Int) (t : Int) : Option (Int) := LFix (slices_IndexFunc_3_L2_F s c ) t
noncomputable def slices_IndexFunc_3 (s : (List Int)) (c : Int) : Option (Int) :=
  slices_IndexFunc_3_L2 s c (0 : Int)
theorem slices_IndexFunc_3_L2_B_ch (r2 : Nat → Int → Option (Int)) (r2' : Int → Option (Int)) (h_r2 : ∀ a0, ChO (fun κ => r2 κ a0) (r2' a0)) (s : (List Int)) (c : Int) (t : Int) : ChO (fun κ => slices_IndexFunc_3_L2_B s c (r2 κ) t) (slices_IndexFunc_3_L2_B s c r2' t) := by
  unfold slices_IndexFunc_3_L2_B
  repeat' with_reducible first | exact ChO.const _ | exact h_r2 _ | apply ChO.ite | apply ChO.G | apply ChO.both | (apply ChO.bind; intro _)
theorem slices_IndexFunc_3_L2_cn  (s : (List Int)) (c : Int) : Cn (slices_IndexFunc_3_L2_F s c) := fun g h hg x => slices_IndexFunc_3_L2_B_ch  (fun κ t => g κ t) (fun t => h t) (fun t => hg t) s c x
theorem slices_IndexFunc_3_L2_eq  (s : (List Int)) (c : Int) (t : Int) : slices_IndexFunc_3_L2 s c t = slices_IndexFunc_3_L2_B s c (slices_IndexFunc_3_L2 s c) t := LFix_eq (slices_IndexFunc_3_L2_cn s c) t

noncomputable def slices_ContainsFunc_3 (s : (List Int)) (c : Int) : Option (Bool) :=
  (slices_IndexFunc_3 s c).bind (fun y' =>
  some (decide ((0 : Int) ≤ y')))

noncomputable def alter_Check_4 (c : (List Int)) (c_1 : Int) : Option (Bool × Int) :=
  (slices_ContainsFunc_3 c c_1).bind (fun y' =>
  some (y', c_1))

noncomputable def slices_IndexFunc_2_L2_B (s : (List (List Int))) (r2 : Int → Int → Option (Int × Int)) (t : Int) (l : Int) : Option (Int × Int) :=
  if (decide (t < (s.length : Int))) = true then
  G (0 ≤ t ∧ t < (s.length : Int)) (
  (alter_Check_4 (ix s t) l).bind (fun y'_3 =>
  if y'_3.1 = true then
  some (t, y'_3.2) else
  G (fits (t + (1 : Int))) (
  r2 (t + (1 : Int)) y'_3.2))) else
  some ((-1 : Int), l)
noncomputable def slices_IndexFunc_2_L2_F (s : (List (List Int))) : (Int × Int → Option (Int × Int)) → Int × Int → Option (Int × Int) :=
  fun rec x => slices_IndexFunc_2_L2_B s (fun t l => rec (t, l)) x.1 x.2
noncomputable def slices_IndexFunc_2_L2 (s : (List (List Int))) (t : Int) (l : Int) : Option (Int × Int) := LFix (slices_IndexFunc_2_L2_F s ) (t, l)
noncomputable def slices_IndexFunc_2 (s : (List (List Int))) (c : Int) : Option (Int × Int) :=
  slices_IndexFunc_2_L2 s (0 : Int) c
theorem slices_IndexFunc_2_L2_B_ch (r2 : Nat → Int → Int → Option (Int × Int)) (r2' : Int → Int → Option (Int × Int)) (h_r2 : ∀ a0 a1, ChO (fun κ => r2 κ a0 a1) (r2' a0 a1)) (s : (List (List Int))) (t : Int) (l : Int) : ChO (fun κ => slices_IndexFunc_2_L2_B s (r2 κ) t l) (slices_IndexFunc_2_L2_B s r2' t l) := by
  unfold slices_IndexFunc_2_L2_B
  repeat' with_reducible first | exact ChO.const _ | exact h_r2 _ _ | apply ChO.ite | apply ChO.G | apply ChO.both | (apply ChO.bind; intro _)
theorem slices_IndexFunc_2_L2_cn  (s : (List (List Int))) : Cn (slices_IndexFunc_2_L2_F s) := fun g h hg x => slices_IndexFunc_2_L2_B_ch  (fun κ t l => g κ (t, l)) (fun t l => h (t, l)) (fun t l => hg (t, l)) s x.1 x.2
theorem slices_IndexFunc_2_L2_eq  (s : (List (List Int))) (t : Int) (l : Int) : slices_IndexFunc_2_L2 s t l = slices_IndexFunc_2_L2_B s (slices_IndexFunc_2_L2 s) t l := LFix_eq (slices_IndexFunc_2_L2_cn s) (t, l)

noncomputable def slices_ContainsFunc_2 (s : (List (List Int))) (c : Int) : Option (Bool × Int) :=
  (slices_IndexFunc_2 s c).bind (fun y'_3 =>
  some (decide ((0 : Int) ≤ y'_3.1), y'_3.2))

noncomputable def alter_Check_5 (m : Int) : Option (Bool) :=
  if (decide (¬ m = (0 : Int))) = true then
  some (decide (¬ m = (1 : Int))) else
  some false

noncomputable def slices_IndexFunc_4_L2_B (s : (List Int)) (r2 : Int → Option (Int)) (t : Int) : Option (Int) :=
  if (decide (t < (s.length : Int))) = true then
  G (0 ≤ t ∧ t < (s.length : Int)) (
  (alter_Check_5 (ix s t)).bind (fun y' =>
  if y' = true then
  some t else
  G (fits (t + (1 : Int))) (
  r2 (t + (1 : Int))))) else
  some (-1 : Int)
noncomputable def slices_IndexFunc_4_L2_F (s : (List Int)) : (Int → Option (Int)) → Int → Option (Int) :=
  fun rec x => slices_IndexFunc_4_L2_B s (fun t => rec t) x
noncomputable def slices_IndexFunc_4_L2 (s : (List Int)) (t : Int) : Option (Int) := LFix (slices_IndexFunc_4_L2_F s ) t
noncomputable def slices_IndexFunc_4 (s : (List Int)) : Option (Int) :=
  slices_IndexFunc_4_L2 s (0 : Int)
theorem slices_IndexFunc_4_L2_B_ch (r2 : Nat → Int → Option (Int)) (r2' : Int → Option (Int)) (h_r2 : ∀ a0, ChO (fun κ => r2 κ a0) (r2' a0)) (s : (List Int)) (t : Int) : ChO (fun κ => slices_IndexFunc_4_L2_B s (r2 κ) t) (slices_IndexFunc_4_L2_B s r2' t) := by
  unfold slices_IndexFunc_4_L2_B
  repeat' with_reducible first | exact ChO.const _ | exact h_r2 _ | apply ChO.ite | apply ChO.G | apply ChO.both | (apply ChO.bind; intro _)
theorem slices_IndexFunc_4_L2_cn  (s : (List Int)) : Cn (slices_IndexFunc_4_L2_F s) := fun g h hg x => slices_IndexFunc_4_L2_B_ch  (fun κ t => g κ t) (fun t => h t) (fun t => hg t) s x
theorem slices_IndexFunc_4_L2_eq  (s : (List Int)) (t : Int) : slices_IndexFunc_4_L2 s t = slices_IndexFunc_4_L2_B s (slices_IndexFunc_4_L2 s) t := LFix_eq (slices_IndexFunc_4_L2_cn s) t

noncomputable def slices_ContainsFunc_4 (s : (List Int)) : Option (Bool) :=
  (slices_IndexFunc_4 s).bind (fun y' =>
  some (decide ((0 : Int) ≤ y')))

noncomputable def alter_Check_L14_B (a : Tp1) (t : Int) (r11 : (Bool → Int → Int → Option (Int))) (r14 : Bool → Int → Int → Option (Int)) (bad_1 : Bool) (t_1 : Int) (no_1 : Int) : Option (Int) :=
  if (decide (t_1 < ((ix a.2.2.1 t).length : Int))) = true then
  G (0 ≤ t_1 ∧ t_1 < ((ix a.2.2.1 t).length : Int)) (
  if (decide ((16 : Int) < ((ix (ix a.2.2.1 t) t_1).length : Int))) = true then
  some (1 : Int) else
  (slices_ContainsFunc_1 (ix (ix a.2.2.1 t) t_1)).bind (fun y'_1 =>
  if y'_1 = true then
  some (1 : Int) else
  if bad_1 = true then
  G (fits (t_1 + (1 : Int))) (
  r14 true (t_1 + (1 : Int)) no_1) else
  (slices_ContainsFunc_2 (ix (ix a.2.2.1 t) t_1) no_1).bind (fun y'_5 =>
  G (fits (t_1 + (1 : Int))) (
  r14 y'_5.1 (t_1 + (1 : Int)) y'_5.2)))) else
  G (fits (t + (1 : Int))) (
  r11 bad_1 (t + (1 : Int)) no_1)
noncomputable def alter_Check_L14_F (a : Tp1) (t : Int) (r11 : (Bool → Int → Int → Option (Int))) : (Bool × Int × Int → Option (Int)) → Bool × Int × Int → Option (Int) :=
  fun rec x => alter_Check_L14_B a t r11 (fun bad_1 t_1 no_1 => rec (bad_1, t_1, no_1)) x.1 x.2.1 x.2.2
noncomputable def alter_Check_L14 (a : Tp1) (t : Int) (r11 : (Bool → Int → Int → Option (Int))) (bad_1 : Bool) (t_1 : Int) (no_1 : Int) : Option (Int) := LFix (alter_Check_L14_F a t r11 ) (bad_1, t_1, no_1)
noncomputable def alter_Check_L11_B (a : Tp1) (r11 : Bool → Int → Int → Option (Int)) (bad : Bool) (t : Int) (no : Int) : Option (Int) :=
  if (decide (t < (a.2.2.1.length : Int))) = true then
  G (0 ≤ t ∧ t < (a.2.2.1.length : Int)) (
  alter_Check_L14 a t r11 bad (0 : Int) no) else
  if bad = true then
  some (2 : Int) else
  (alter_Check_2 a.2.1 no).bind (fun y'_6 =>
  if y'_6 = true then
  some (2 : Int) else
  (slices_ContainsFunc_4 a.2.2.2.1).bind (fun y'_7 =>
  if y'_7 = true then
  some (2 : Int) else
  some (0 : Int)))
noncomputable def alter_Check_L11_F (a : Tp1) : (Bool × Int × Int → Option (Int)) → Bool × Int × Int → Option (Int) :=
  fun rec x => alter_Check_L11_B a (fun bad t no => rec (bad, t, no)) x.1 x.2.1 x.2.2
noncomputable def alter_Check_L11 (a : Tp1) (bad : Bool) (t : Int) (no : Int) : Option (Int) := LFix (alter_Check_L11_F a ) (bad, t, no)
noncomputable def alter_Check (a : Tp1) : Option (Int) :=
  if (decide (a.1 < (1 : Int))) = true then
  some (2 : Int) else
  if (decide ((4 : Int) < a.1)) = true then
  some (2 : Int) else
  if (decide ((a.2.2.1.length : Int) < (1 : Int))) = true then
  some (1 : Int) else
  if (decide ((4 : Int) < (a.2.2.1.length : Int))) = true then
  some (1 : Int) else
  if (decide (¬ (a.2.2.2.1.length : Int) = (a.2.2.1.length : Int))) = true then
  some (3 : Int) else
  (slices_ContainsFunc a.2.2.1 (a.1, (a.2.1, (a.2.2.1, (a.2.2.2.1, ()))))).bind (fun y' =>
  if y' = true then
  some (3 : Int) else
  alter_Check_L11 a false (0 : Int) (a.2.2.1.length : Int))
theorem alter_Check_L14_B_ch (r11 : Nat → Bool → Int → Int → Option (Int)) (r11' : Bool → Int → Int → Option (Int)) (h_r11 : ∀ a0 a1 a2, ChO (fun κ => r11 κ a0 a1 a2) (r11' a0 a1 a2)) (r14 : Nat → Bool → Int → Int → Option (Int)) (r14' : Bool → Int → Int → Option (Int)) (h_r14 : ∀ a0 a1 a2, ChO (fun κ => r14 κ a0 a1 a2) (r14' a0 a1 a2)) (a : Tp1) (t : Int) (bad_1 : Bool) (t_1 : Int) (no_1 : Int) : ChO (fun κ => alter_Check_L14_B a t (r11 κ) (r14 κ) bad_1 t_1 no_1) (alter_Check_L14_B a t r11' r14' bad_1 t_1 no_1) := by
  unfold alter_Check_L14_B
  repeat' with_reducible first | exact ChO.const _ | exact h_r11 _ _ _ | exact h_r14 _ _ _ | apply ChO.ite | apply ChO.G | apply ChO.both | (apply ChO.bind; intro _)
theorem alter_Check_L14_cn (r11 : Bool → Int → Int → Option (Int)) (a : Tp1) (t : Int) : Cn (alter_Check_L14_F a t r11) := fun g h hg x => alter_Check_L14_B_ch (fun _ => r11) r11 (fun _ _ _ => ChO.const _) (fun κ bad_1 t_1 no_1 => g κ (bad_1, t_1, no_1)) (fun bad_1 t_1 no_1 => h (bad_1, t_1, no_1)) (fun bad_1 t_1 no_1 => hg (bad_1, t_1, no_1)) a t x.1 x.2.1 x.2.2
theorem alter_Check_L14_eq (r11 : Bool → Int → Int → Option (Int)) (a : Tp1) (t : Int) (bad_1 : Bool) (t_1 : Int) (no_1 : Int) : alter_Check_L14 a t r11 bad_1 t_1 no_1 = alter_Check_L14_B a t r11 (alter_Check_L14 a t r11) bad_1 t_1 no_1 := LFix_eq (alter_Check_L14_cn r11 a t) (bad_1, t_1, no_1)
theorem alter_Check_L14_ch (r11 : Nat → Bool → Int → Int → Option (Int)) (r11' : Bool → Int → Int → Option (Int)) (h_r11 : ∀ a0 a1 a2, ChO (fun κ => r11 κ a0 a1 a2) (r11' a0 a1 a2)) (a : Tp1) (t : Int) (bad_1 : Bool) (t_1 : Int) (no_1 : Int) : ChO (fun κ => alter_Check_L14 a t (r11 κ) bad_1 t_1 no_1) (alter_Check_L14 a t r11' bad_1 t_1 no_1) := by
  unfold alter_Check_L14
  exact LFix_ch (fun κ => (alter_Check_L14_cn (r11 κ) a t).mono) (alter_Check_L14_cn r11' a t).mono (fun g h hg x => alter_Check_L14_B_ch r11 r11' h_r11 (fun κ bad_1 t_1 no_1 => g κ (bad_1, t_1, no_1)) (fun bad_1 t_1 no_1 => h (bad_1, t_1, no_1)) (fun bad_1 t_1 no_1 => hg (bad_1, t_1, no_1)) a t x.1 x.2.1 x.2.2) _
theorem alter_Check_L11_B_ch (r11 : Nat → Bool → Int → Int → Option (Int)) (r11' : Bool → Int → Int → Option (Int)) (h_r11 : ∀ a0 a1 a2, ChO (fun κ => r11 κ a0 a1 a2) (r11' a0 a1 a2)) (a : Tp1) (bad : Bool) (t : Int) (no : Int) : ChO (fun κ => alter_Check_L11_B a (r11 κ) bad t no) (alter_Check_L11_B a r11' bad t no) := by
  unfold alter_Check_L11_B
  repeat' with_reducible first | exact ChO.const _ | exact h_r11 _ _ _ | (apply alter_Check_L14_ch <;> assumption) | apply ChO.ite | apply ChO.G | apply ChO.both | (apply ChO.bind; intro _)
theorem alter_Check_L11_cn  (a : Tp1) : Cn (alter_Check_L11_F a) := fun g h hg x => alter_Check_L11_B_ch  (fun κ bad t no => g κ (bad, t, no)) (fun bad t no => h (bad, t, no)) (fun bad t no => hg (bad, t, no)) a x.1 x.2.1 x.2.2
theorem alter_Check_L11_eq  (a : Tp1) (bad : Bool) (t : Int) (no : Int) : alter_Check_L11 a bad t no = alter_Check_L11_B a (alter_Check_L11 a) bad t no := LFix_eq (alter_Check_L11_cn a) (bad, t, no)

noncomputable def alter_ends_L3_B (a : Tp1) (r3 : Int → Int → Option (Int)) (set' : Int) (t : Int) : Option (Int) :=
  if (decide (t < (a.2.2.2.1.length : Int))) = true then
  G (0 ≤ t ∧ t < (a.2.2.2.1.length : Int)) (
  G (0 ≤ t) (
  G (fits (t + (1 : Int))) (
  r3 (ior .i64 set' (ishl .i64 (ix a.2.2.2.1 t) t)) (t + (1 : Int))))) else
  some set'
noncomputable def alter_ends_L3_F (a : Tp1) : (Int × Int → Option (Int)) → Int × Int → Option (Int) :=
  fun rec x => alter_ends_L3_B a (fun set' t => rec (set', t)) x.1 x.2
noncomputable def alter_ends_L3 (a : Tp1) (set' : Int) (t : Int) : Option (Int) := LFix (alter_ends_L3_F a ) (set', t)
noncomputable def alter_ends (a : Tp1) : Option (Int) :=
  alter_ends_L3 a (0 : Int) (0 : Int)
theorem alter_ends_L3_B_ch (r3 : Nat → Int → Int → Option (Int)) (r3' : Int → Int → Option (Int)) (h_r3 : ∀ a0 a1, ChO (fun κ => r3 κ a0 a1) (r3' a0 a1)) (a : Tp1) (set' : Int) (t : Int) : ChO (fun κ => alter_ends_L3_B a (r3 κ) set' t) (alter_ends_L3_B a r3' set' t) := by
  unfold alter_ends_L3_B
  repeat' with_reducible first | exact ChO.const _ | exact h_r3 _ _ | apply ChO.ite | apply ChO.G | apply ChO.both | (apply ChO.bind; intro _)
theorem alter_ends_L3_cn  (a : Tp1) : Cn (alter_ends_L3_F a) := fun g h hg x => alter_ends_L3_B_ch  (fun κ set' t => g κ (set', t)) (fun set' t => h (set', t)) (fun set' t => hg (set', t)) a x.1 x.2
theorem alter_ends_L3_eq  (a : Tp1) (set' : Int) (t : Int) : alter_ends_L3 a set' t = alter_ends_L3_B a (alter_ends_L3 a) set' t := LFix_eq (alter_ends_L3_cn a) (set', t)

noncomputable def alter_ahead_1_1 (p : Int) (t : Int) : Option (Bool) :=
  G (0 ≤ p) (
  some (decide ((iand .i64 (ishr .i64 t p) (1 : Int)) = (0 : Int))))

noncomputable def slices_IndexFunc_6_L2_B (s : (List Int)) (c : Int) (r2 : Int → Option (Int)) (t : Int) : Option (Int) :=
  if (decide (t < (s.length : Int))) = true then
  G (0 ≤ t ∧ t < (s.length : Int)) (
  (alter_ahead_1_1 (ix s t) c).bind (fun y' =>
  if y' = true then
  some t else
  G (fits (t + (1 : Int))) (
  r2 (t + (1 : Int))))) else
  some (-1 : Int)
noncomputable def slices_IndexFunc_6_L2_F (s : (List Int)) (c : Int) : (Int → Option (Int)) → Int → Option (Int) :=
  fun rec x => slices_IndexFunc_6_L2_B s c (fun t => rec t) x
noncomputable def slices_IndexFunc_6_L2 (s : (List Int)) (c : Int) (t : Int) : Option (Int) := LFix (slices_IndexFunc_6_L2_F s c ) t
noncomputable def slices_IndexFunc_6 (s : (List Int)) (c : Int) : Option (Int) :=
  slices_IndexFunc_6_L2 s c (0 : Int)
theorem slices_IndexFunc_6_L2_B_ch (r2 : Nat → Int → Option (Int)) (r2' : Int → Option (Int)) (h_r2 : ∀ a0, ChO (fun κ => r2 κ a0) (r2' a0)) (s : (List Int)) (c : Int) (t : Int) : ChO (fun κ => slices_IndexFunc_6_L2_B s c (r2 κ) t) (slices_IndexFunc_6_L2_B s c r2' t) := by
  unfold slices_IndexFunc_6_L2_B
  repeat' with_reducible first | exact ChO.const _ | exact h_r2 _ | apply ChO.ite | apply ChO.G | apply ChO.both | (apply ChO.bind; intro _)
theorem slices_IndexFunc_6_L2_cn  (s : (List Int)) (c : Int) : Cn (slices_IndexFunc_6_L2_F s c) := fun g h hg x => slices_IndexFunc_6_L2_B_ch  (fun κ t => g κ t) (fun t => h t) (fun t => hg t) s c x
theorem slices_IndexFunc_6_L2_eq  (s : (List Int)) (c : Int) (t : Int) : slices_IndexFunc_6_L2 s c t = slices_IndexFunc_6_L2_B s c (slices_IndexFunc_6_L2 s c) t := LFix_eq (slices_IndexFunc_6_L2_cn s c) t

noncomputable def slices_ContainsFunc_6 (s : (List Int)) (c : Int) : Option (Bool) :=
  (slices_IndexFunc_6 s c).bind (fun y' =>
  some (decide ((0 : Int) ≤ y')))

noncomputable def alter_ahead_1 (c : (List Int)) (t : Int) : Option (Bool) :=
  (slices_ContainsFunc_6 c t).bind (fun y' =>
  some (!y'))

noncomputable def slices_IndexFunc_5_L2_B (s : (List (List Int))) (c : Int) (r2 : Int → Option (Int)) (t : Int) : Option (Int) :=
  if (decide (t < (s.length : Int))) = true then
  G (0 ≤ t ∧ t < (s.length : Int)) (
  (alter_ahead_1 (ix s t) c).bind (fun y' =>
  if y' = true then
  some t else
  G (fits (t + (1 : Int))) (
  r2 (t + (1 : Int))))) else
  some (-1 : Int)
noncomputable def slices_IndexFunc_5_L2_F (s : (List (List Int))) (c : Int) : (Int → Option (Int)) → Int → Option (Int) :=
  fun rec x => slices_IndexFunc_5_L2_B s c (fun t => rec t) x
noncomputable def slices_IndexFunc_5_L2 (s : (List (List Int))) (c : Int) (t : Int) : Option (Int) := LFix (slices_IndexFunc_5_L2_F s c ) t
noncomputable def slices_IndexFunc_5 (s : (List (List Int))) (c : Int) : Option (Int) :=
  slices_IndexFunc_5_L2 s c (0 : Int)
theorem slices_IndexFunc_5_L2_B_ch (r2 : Nat → Int → Option (Int)) (r2' : Int → Option (Int)) (h_r2 : ∀ a0, ChO (fun κ => r2 κ a0) (r2' a0)) (s : (List (List Int))) (c : Int) (t : Int) : ChO (fun κ => slices_IndexFunc_5_L2_B s c (r2 κ) t) (slices_IndexFunc_5_L2_B s c r2' t) := by
  unfold slices_IndexFunc_5_L2_B
  repeat' with_reducible first | exact ChO.const _ | exact h_r2 _ | apply ChO.ite | apply ChO.G | apply ChO.both | (apply ChO.bind; intro _)
theorem slices_IndexFunc_5_L2_cn  (s : (List (List Int))) (c : Int) : Cn (slices_IndexFunc_5_L2_F s c) := fun g h hg x => slices_IndexFunc_5_L2_B_ch  (fun κ t => g κ t) (fun t => h t) (fun t => hg t) s c x
theorem slices_IndexFunc_5_L2_eq  (s : (List (List Int))) (c : Int) (t : Int) : slices_IndexFunc_5_L2 s c t = slices_IndexFunc_5_L2_B s c (slices_IndexFunc_5_L2 s c) t := LFix_eq (slices_IndexFunc_5_L2_cn s c) t

noncomputable def slices_ContainsFunc_5 (s : (List (List Int))) (c : Int) : Option (Bool) :=
  (slices_IndexFunc_5 s c).bind (fun y' =>
  some (decide ((0 : Int) ≤ y')))

noncomputable def alter_ahead_L3_B (a : Tp1) (set' : Int) (letter : Int) (r3 : Int → Int → Option (Int)) (out : Int) (t : Int) : Option (Int) :=
  if (decide (t < (a.2.2.1.length : Int))) = true then
  G (0 ≤ t ∧ t < (a.2.2.1.length : Int)) (
  G (0 ≤ letter ∧ letter < ((ix a.2.2.1 t).length : Int)) (
  (slices_ContainsFunc_5 (ix (ix a.2.2.1 t) letter) set').bind (fun y' =>
  if y' = true then
  G (0 ≤ t) (
  G (fits (t + (1 : Int))) (
  r3 (ior .i64 out (ishl .i64 (1 : Int) t)) (t + (1 : Int)))) else
  G (fits (t + (1 : Int))) (
  r3 out (t + (1 : Int)))))) else
  some out
noncomputable def alter_ahead_L3_F (a : Tp1) (set' : Int) (letter : Int) : (Int × Int → Option (Int)) → Int × Int → Option (Int) :=
  fun rec x => alter_ahead_L3_B a set' letter (fun out t => rec (out, t)) x.1 x.2
noncomputable def alter_ahead_L3 (a : Tp1) (set' : Int) (letter : Int) (out : Int) (t : Int) : Option (Int) := LFix (alter_ahead_L3_F a set' letter ) (out, t)
noncomputable def alter_ahead (a : Tp1) (set' : Int) (letter : Int) : Option (Int) :=
  alter_ahead_L3 a set' letter (0 : Int) (0 : Int)
theorem alter_ahead_L3_B_ch (r3 : Nat → Int → Int → Option (Int)) (r3' : Int → Int → Option (Int)) (h_r3 : ∀ a0 a1, ChO (fun κ => r3 κ a0 a1) (r3' a0 a1)) (a : Tp1) (set' : Int) (letter : Int) (out : Int) (t : Int) : ChO (fun κ => alter_ahead_L3_B a set' letter (r3 κ) out t) (alter_ahead_L3_B a set' letter r3' out t) := by
  unfold alter_ahead_L3_B
  repeat' with_reducible first | exact ChO.const _ | exact h_r3 _ _ | apply ChO.ite | apply ChO.G | apply ChO.both | (apply ChO.bind; intro _)
theorem alter_ahead_L3_cn  (a : Tp1) (set' : Int) (letter : Int) : Cn (alter_ahead_L3_F a set' letter) := fun g h hg x => alter_ahead_L3_B_ch  (fun κ out t => g κ (out, t)) (fun out t => h (out, t)) (fun out t => hg (out, t)) a set' letter x.1 x.2
theorem alter_ahead_L3_eq  (a : Tp1) (set' : Int) (letter : Int) (out : Int) (t : Int) : alter_ahead_L3 a set' letter out t = alter_ahead_L3_B a set' letter (alter_ahead_L3 a set' letter) out t := LFix_eq (alter_ahead_L3_cn a set' letter) (out, t)

noncomputable def alter_Det_1_L3_B (good : Int) (letter : Int) (t : Tp1) (r3 : Int → Int → Option (Int)) (next' : Int) (t_1 : Int) : Option (Int) :=
  if (decide (t_1 < (16 : Int))) = true then
  (alter_ahead t t_1 letter).bind (fun y' =>
  G (0 ≤ y') (
  if (decide ((iand .i64 (ishr .i64 good y') (1 : Int)) = (1 : Int))) = true then
  G (0 ≤ t_1) (
  G (fits (t_1 + (1 : Int))) (
  r3 (ior .i64 next' (ishl .i64 (1 : Int) t_1)) (t_1 + (1 : Int)))) else
  G (fits (t_1 + (1 : Int))) (
  r3 next' (t_1 + (1 : Int))))) else
  some next'
noncomputable def alter_Det_1_L3_F (good : Int) (letter : Int) (t : Tp1) : (Int × Int → Option (Int)) → Int × Int → Option (Int) :=
  fun rec x => alter_Det_1_L3_B good letter t (fun next' t_1 => rec (next', t_1)) x.1 x.2
noncomputable def alter_Det_1_L3 (good : Int) (letter : Int) (t : Tp1) (next' : Int) (t_1 : Int) : Option (Int) := LFix (alter_Det_1_L3_F good letter t ) (next', t_1)
noncomputable def alter_Det_1 (good : Int) (letter : Int) (t : Tp1) : Option (Int) :=
  alter_Det_1_L3 good letter t (0 : Int) (0 : Int)
theorem alter_Det_1_L3_B_ch (r3 : Nat → Int → Int → Option (Int)) (r3' : Int → Int → Option (Int)) (h_r3 : ∀ a0 a1, ChO (fun κ => r3 κ a0 a1) (r3' a0 a1)) (good : Int) (letter : Int) (t : Tp1) (next' : Int) (t_1 : Int) : ChO (fun κ => alter_Det_1_L3_B good letter t (r3 κ) next' t_1) (alter_Det_1_L3_B good letter t r3' next' t_1) := by
  unfold alter_Det_1_L3_B
  repeat' with_reducible first | exact ChO.const _ | exact h_r3 _ _ | apply ChO.ite | apply ChO.G | apply ChO.both | (apply ChO.bind; intro _)
theorem alter_Det_1_L3_cn  (good : Int) (letter : Int) (t : Tp1) : Cn (alter_Det_1_L3_F good letter t) := fun g h hg x => alter_Det_1_L3_B_ch  (fun κ next' t_1 => g κ (next', t_1)) (fun next' t_1 => h (next', t_1)) (fun next' t_1 => hg (next', t_1)) good letter t x.1 x.2
theorem alter_Det_1_L3_eq  (good : Int) (letter : Int) (t : Tp1) (next' : Int) (t_1 : Int) : alter_Det_1_L3 good letter t next' t_1 = alter_Det_1_L3_B good letter t (alter_Det_1_L3 good letter t) next' t_1 := LFix_eq (alter_Det_1_L3_cn good letter t) (next', t_1)

noncomputable def alter_Det_2 (good : Int) (t : Int) : Option (Int) :=
  G (0 ≤ t) (
  some (iand .i64 (ishr .i64 good t) (1 : Int)))

noncomputable def det_Explore_J17 (t : Int) (row : (List Int)) (r8 : (Int → (List Int) → (List Int) → (List Int) → (List Int) → Option Tp2)) (n : Int) (number_4 : (List Int)) (number_5 : (List Int)) (l_2 : (List Int)) : Option Tp2 :=
  G (0 ≤ t ∧ t < (row.length : Int)) (
  G ((t).toNat < row.length) (
  G (fits (t + (1 : Int))) (
  r8 (t + (1 : Int)) number_4 number_5 l_2 (row.set (t).toNat n))))
noncomputable def det_Explore_L8_B (letters : Int) (c : Tp1) (c_1 : Int) (most : Int) (d : Int) (d_1 : Int) (l : (List Int)) (d_2 : (List (List Int))) (d_3 : (List Int)) (r4 : (Int → Int → (List Int) → (List Int) → (List Int) → (List (List Int)) → (List Int) → Option Tp2)) (r8 : Int → (List Int) → (List Int) → (List Int) → (List Int) → Option Tp2) (t : Int) (number_2 : (List Int)) (number_3 : (List Int)) (l_1 : (List Int)) (row : (List Int)) : Option Tp2 :=
  if (decide (t < letters)) = true then
  (alter_Det_1 (ix l (d_2.length : Int)) t c).bind (fun y' =>
  if (!(mhas number_2 y')) = true then
  if (decide ((l_1.length : Int) = most)) = true then
  some (((0 : Int), ((0 : Int), ([], ([], ())))), false) else
  G (room l_1 ([y']) 8) (
  det_Explore_J17 t row r8 (l_1.length : Int) (mputK number_2 y') (mputV number_2 number_3 y' (l_1.length : Int)) (l_1 ++ ([y']))) else
  det_Explore_J17 t row r8 (mget number_2 number_3 y' (0 : Int)) number_2 number_3 l_1) else
  G (room d_2 ([row]) 24) (
  (alter_Det_2 (ix l (d_2.length : Int)) c_1).bind (fun y'_1 =>
  G (room d_3 ([y'_1]) 8) (
  r4 d d_1 number_2 number_3 l_1 (d_2 ++ ([row])) (d_3 ++ ([y'_1])))))
noncomputable def det_Explore_L8_F (letters : Int) (c : Tp1) (c_1 : Int) (most : Int) (d : Int) (d_1 : Int) (l : (List Int)) (d_2 : (List (List Int))) (d_3 : (List Int)) (r4 : (Int → Int → (List Int) → (List Int) → (List Int) → (List (List Int)) → (List Int) → Option Tp2)) : (Int × (List Int) × (List Int) × (List Int) × (List Int) → Option Tp2) → Int × (List Int) × (List Int) × (List Int) × (List Int) → Option Tp2 :=
  fun rec x => det_Explore_L8_B letters c c_1 most d d_1 l d_2 d_3 r4 (fun t number_2 number_3 l_1 row => rec (t, number_2, number_3, l_1, row)) x.1 x.2.1 x.2.2.1 x.2.2.2.1 x.2.2.2.2
noncomputable def det_Explore_L8 (letters : Int) (c : Tp1) (c_1 : Int) (most : Int) (d : Int) (d_1 : Int) (l : (List Int)) (d_2 : (List (List Int))) (d_3 : (List Int)) (r4 : (Int → Int → (List Int) → (List Int) → (List Int) → (List (List Int)) → (List Int) → Option Tp2)) (t : Int) (number_2 : (List Int)) (number_3 : (List Int)) (l_1 : (List Int)) (row : (List Int)) : Option Tp2 := LFix (det_Explore_L8_F letters c c_1 most d d_1 l d_2 d_3 r4 ) (t, number_2, number_3, l_1, row)
noncomputable def det_Explore_L4_B (letters : Int) (c : Tp1) (c_1 : Int) (most : Int) (r4 : Int → Int → (List Int) → (List Int) → (List Int) → (List (List Int)) → (List Int) → Option Tp2) (d : Int) (d_1 : Int) (number : (List Int)) (number_1 : (List Int)) (l : (List Int)) (d_2 : (List (List Int))) (d_3 : (List Int)) : Option Tp2 :=
  if (decide ((d_2.length : Int) < (l.length : Int))) = true then
  G (0 ≤ (d_2.length : Int) ∧ (d_2.length : Int) < (l.length : Int)) (
  G (((d_2.length : Int)).toNat < l.length) (
  G (mkOK letters letters 8) (
  det_Explore_L8 letters c c_1 most d d_1 l d_2 d_3 r4 (0 : Int) number number_1 l (List.replicate (letters).toNat (0 : Int))))) else
  some ((d, (d_1, (d_2, (d_3, ())))), true)
noncomputable def det_Explore_L4_F (letters : Int) (c : Tp1) (c_1 : Int) (most : Int) : (Int × Int × (List Int) × (List Int) × (List Int) × (List (List Int)) × (List Int) → Option Tp2) → Int × Int × (List Int) × (List Int) × (List Int) × (List (List Int)) × (List Int) → Option Tp2 :=
  fun rec x => det_Explore_L4_B letters c c_1 most (fun d d_1 number number_1 l d_2 d_3 => rec (d, d_1, number, number_1, l, d_2, d_3)) x.1 x.2.1 x.2.2.1 x.2.2.2.1 x.2.2.2.2.1 x.2.2.2.2.2.1 x.2.2.2.2.2.2
noncomputable def det_Explore_L4 (letters : Int) (c : Tp1) (c_1 : Int) (most : Int) (d : Int) (d_1 : Int) (number : (List Int)) (number_1 : (List Int)) (l : (List Int)) (d_2 : (List (List Int))) (d_3 : (List Int)) : Option Tp2 := LFix (det_Explore_L4_F letters c c_1 most ) (d, d_1, number, number_1, l, d_2, d_3)
noncomputable def det_Explore (letters : Int) (first : Int) (c : Tp1) (c_1 : Int) (most : Int) : Option Tp2 :=
  det_Explore_L4 letters c c_1 most letters (0 : Int) (mputK ([] : List Int) first) (mputV ([] : List Int) ([] : List Int) first (0 : Int)) ([first]) ([] : List (List Int)) ([] : List Int)
theorem det_Explore_J17_ch (r8 : Nat → Int → (List Int) → (List Int) → (List Int) → (List Int) → Option Tp2) (r8' : Int → (List Int) → (List Int) → (List Int) → (List Int) → Option Tp2) (h_r8 : ∀ a0 a1 a2 a3 a4, ChO (fun κ => r8 κ a0 a1 a2 a3 a4) (r8' a0 a1 a2 a3 a4)) (t : Int) (row : (List Int)) (n : Int) (number_4 : (List Int)) (number_5 : (List Int)) (l_2 : (List Int)) : ChO (fun κ => det_Explore_J17 t row (r8 κ) n number_4 number_5 l_2) (det_Explore_J17 t row r8' n number_4 number_5 l_2) := by
  unfold det_Explore_J17
  repeat' with_reducible first | exact ChO.const _ | exact h_r8 _ _ _ _ _ | apply ChO.ite | apply ChO.G | apply ChO.both | (apply ChO.bind; intro _)
theorem det_Explore_L8_B_ch (r4 : Nat → Int → Int → (List Int) → (List Int) → (List Int) → (List (List Int)) → (List Int) → Option Tp2) (r4' : Int → Int → (List Int) → (List Int) → (List Int) → (List (List Int)) → (List Int) → Option Tp2) (h_r4 : ∀ a0 a1 a2 a3 a4 a5 a6, ChO (fun κ => r4 κ a0 a1 a2 a3 a4 a5 a6) (r4' a0 a1 a2 a3 a4 a5 a6)) (r8 : Nat → Int → (List Int) → (List Int) → (List Int) → (List Int) → Option Tp2) (r8' : Int → (List Int) → (List Int) → (List Int) → (List Int) → Option Tp2) (h_r8 : ∀ a0 a1 a2 a3 a4, ChO (fun κ => r8 κ a0 a1 a2 a3 a4) (r8' a0 a1 a2 a3 a4)) (letters : Int) (c : Tp1) (c_1 : Int) (most : Int) (d : Int) (d_1 : Int) (l : (List Int)) (d_2 : (List (List Int))) (d_3 : (List Int)) (t : Int) (number_2 : (List Int)) (number_3 : (List Int)) (l_1 : (List Int)) (row : (List Int)) : ChO (fun κ => det_Explore_L8_B letters c c_1 most d d_1 l d_2 d_3 (r4 κ) (r8 κ) t number_2 number_3 l_1 row) (det_Explore_L8_B letters c c_1 most d d_1 l d_2 d_3 r4' r8' t number_2 number_3 l_1 row) := by
  unfold det_Explore_L8_B
  repeat' with_reducible first | exact ChO.const _ | exact h_r4 _ _ _ _ _ _ _ | exact h_r8 _ _ _ _ _ | (apply det_Explore_J17_ch <;> assumption) | apply ChO.ite | apply ChO.G | apply ChO.both | (apply ChO.bind; intro _)
theorem det_Explore_L8_cn (r4 : Int → Int → (List Int) → (List Int) → (List Int) → (List (List Int)) → (List Int) → Option Tp2) (letters : Int) (c : Tp1) (c_1 : Int) (most : Int) (d : Int) (d_1 : Int) (l : (List Int)) (d_2 : (List (List Int))) (d_3 : (List Int)) : Cn (det_Explore_L8_F letters c c_1 most d d_1 l d_2 d_3 r4) := fun g h hg x => det_Explore_L8_B_ch (fun _ => r4) r4 (fun _ _ _ _ _ _ _ => ChO.const _) (fun κ t number_2 number_3 l_1 row => g κ (t, number_2, number_3, l_1, row)) (fun t number_2 number_3 l_1 row => h (t, number_2, number_3, l_1, row)) (fun t number_2 number_3 l_1 row => hg (t, number_2, number_3, l_1, row)) letters c c_1 most d d_1 l d_2 d_3 x.1 x.2.1 x.2.2.1 x.2.2.2.1 x.2.2.2.2
theorem det_Explore_L8_eq (r4 : Int → Int → (List Int) → (List Int) → (List Int) → (List (List Int)) → (List Int) → Option Tp2) (letters : Int) (c : Tp1) (c_1 : Int) (most : Int) (d : Int) (d_1 : Int) (l : (List Int)) (d_2 : (List (List Int))) (d_3 : (List Int)) (t : Int) (number_2 : (List Int)) (number_3 : (List Int)) (l_1 : (List Int)) (row : (List Int)) : det_Explore_L8 letters c c_1 most d d_1 l d_2 d_3 r4 t number_2 number_3 l_1 row = det_Explore_L8_B letters c c_1 most d d_1 l d_2 d_3 r4 (det_Explore_L8 letters c c_1 most d d_1 l d_2 d_3 r4) t number_2 number_3 l_1 row := LFix_eq (det_Explore_L8_cn r4 letters c c_1 most d d_1 l d_2 d_3) (t, number_2, number_3, l_1, row)
theorem det_Explore_L8_ch (r4 : Nat → Int → Int → (List Int) → (List Int) → (List Int) → (List (List Int)) → (List Int) → Option Tp2) (r4' : Int → Int → (List Int) → (List Int) → (List Int) → (List (List Int)) → (List Int) → Option Tp2) (h_r4 : ∀ a0 a1 a2 a3 a4 a5 a6, ChO (fun κ => r4 κ a0 a1 a2 a3 a4 a5 a6) (r4' a0 a1 a2 a3 a4 a5 a6)) (letters : Int) (c : Tp1) (c_1 : Int) (most : Int) (d : Int) (d_1 : Int) (l : (List Int)) (d_2 : (List (List Int))) (d_3 : (List Int)) (t : Int) (number_2 : (List Int)) (number_3 : (List Int)) (l_1 : (List Int)) (row : (List Int)) : ChO (fun κ => det_Explore_L8 letters c c_1 most d d_1 l d_2 d_3 (r4 κ) t number_2 number_3 l_1 row) (det_Explore_L8 letters c c_1 most d d_1 l d_2 d_3 r4' t number_2 number_3 l_1 row) := by
  unfold det_Explore_L8
  exact LFix_ch (fun κ => (det_Explore_L8_cn (r4 κ) letters c c_1 most d d_1 l d_2 d_3).mono) (det_Explore_L8_cn r4' letters c c_1 most d d_1 l d_2 d_3).mono (fun g h hg x => det_Explore_L8_B_ch r4 r4' h_r4 (fun κ t number_2 number_3 l_1 row => g κ (t, number_2, number_3, l_1, row)) (fun t number_2 number_3 l_1 row => h (t, number_2, number_3, l_1, row)) (fun t number_2 number_3 l_1 row => hg (t, number_2, number_3, l_1, row)) letters c c_1 most d d_1 l d_2 d_3 x.1 x.2.1 x.2.2.1 x.2.2.2.1 x.2.2.2.2) _
theorem det_Explore_L4_B_ch (r4 : Nat → Int → Int → (List Int) → (List Int) → (List Int) → (List (List Int)) → (List Int) → Option Tp2) (r4' : Int → Int → (List Int) → (List Int) → (List Int) → (List (List Int)) → (List Int) → Option Tp2) (h_r4 : ∀ a0 a1 a2 a3 a4 a5 a6, ChO (fun κ => r4 κ a0 a1 a2 a3 a4 a5 a6) (r4' a0 a1 a2 a3 a4 a5 a6)) (letters : Int) (c : Tp1) (c_1 : Int) (most : Int) (d : Int) (d_1 : Int) (number : (List Int)) (number_1 : (List Int)) (l : (List Int)) (d_2 : (List (List Int))) (d_3 : (List Int)) : ChO (fun κ => det_Explore_L4_B letters c c_1 most (r4 κ) d d_1 number number_1 l d_2 d_3) (det_Explore_L4_B letters c c_1 most r4' d d_1 number number_1 l d_2 d_3) := by
  unfold det_Explore_L4_B
  repeat' with_reducible first | exact ChO.const _ | exact h_r4 _ _ _ _ _ _ _ | (apply det_Explore_J17_ch <;> assumption) | (apply det_Explore_L8_ch <;> assumption) | apply ChO.ite | apply ChO.G | apply ChO.both | (apply ChO.bind; intro _)
theorem det_Explore_L4_cn  (letters : Int) (c : Tp1) (c_1 : Int) (most : Int) : Cn (det_Explore_L4_F letters c c_1 most) := fun g h hg x => det_Explore_L4_B_ch  (fun κ d d_1 number number_1 l d_2 d_3 => g κ (d, d_1, number, number_1, l, d_2, d_3)) (fun d d_1 number number_1 l d_2 d_3 => h (d, d_1, number, number_1, l, d_2, d_3)) (fun d d_1 number number_1 l d_2 d_3 => hg (d, d_1, number, number_1, l, d_2, d_3)) letters c c_1 most x.1 x.2.1 x.2.2.1 x.2.2.2.1 x.2.2.2.2.1 x.2.2.2.2.2.1 x.2.2.2.2.2.2
theorem det_Explore_L4_eq  (letters : Int) (c : Tp1) (c_1 : Int) (most : Int) (d : Int) (d_1 : Int) (number : (List Int)) (number_1 : (List Int)) (l : (List Int)) (d_2 : (List (List Int))) (d_3 : (List Int)) : det_Explore_L4 letters c c_1 most d d_1 number number_1 l d_2 d_3 = det_Explore_L4_B letters c c_1 most (det_Explore_L4 letters c c_1 most) d d_1 number number_1 l d_2 d_3 := LFix_eq (det_Explore_L4_cn letters c c_1 most) (d, d_1, number, number_1, l, d_2, d_3)

noncomputable def slices_Clone (s : (List Int)) : Option (List Int) :=
  if s.length = 0 then both [(.list (.int .i64))] (
  some ([])) (
  G (room ([] : List Int) s 8) (
  some (([] : List Int) ++ s))) else
  G (room ([] : List Int) s 8) (
  some (([] : List Int) ++ s))

noncomputable def det_Classes_J17 (class' : (List Int)) (t : Int) (next' : (List Int)) (r6 : (Int → (List (Int × (List UInt8) × Unit)) → (List Int) → (List Int) → Option (List Int))) (b : (List Int)) (number_2 : (List (Int × (List UInt8) × Unit))) (number_3 : (List Int)) : Option (List Int) :=
  G (0 ≤ t ∧ t < (next'.length : Int)) (
  G ((t).toNat < next'.length) (
  G (fits (t + (1 : Int))) (
  r6 (t + (1 : Int)) number_2 number_3 (next'.set (t).toNat (mget number_2 number_3 (ix class' t, (bstr b, ())) (0 : Int))))))
noncomputable def det_Classes_L10_B (d : Tp4) (class' : (List Int)) (t : Int) (number : (List (Int × (List UInt8) × Unit))) (number_1 : (List Int)) (next' : (List Int)) (r6 : (Int → (List (Int × (List UInt8) × Unit)) → (List Int) → (List Int) → Option (List Int))) (r10 : Int → (List Int) → Option (List Int)) (t_1 : Int) (b : (List Int)) : Option (List Int) :=
  if (decide (t_1 < ((ix d.2.2.1 t).length : Int))) = true then
  G (0 ≤ t_1 ∧ t_1 < ((ix d.2.2.1 t).length : Int)) (
  G (0 ≤ ix (ix d.2.2.1 t) t_1 ∧ ix (ix d.2.2.1 t) t_1 < (class'.length : Int)) (
  G ((ix (ix d.2.2.1 t) t_1).toNat < class'.length) (
  G (0 ≤ ix (ix d.2.2.1 t) t_1 ∧ ix (ix d.2.2.1 t) t_1 < (class'.length : Int)) (
  G ((ix (ix d.2.2.1 t) t_1).toNat < class'.length) (
  G (0 ≤ (8 : Int)) (
  G (room b ([IntKind.wrap .u8 (ix class' (ix (ix d.2.2.1 t) t_1)), IntKind.wrap .u8 (ishr .i64 (ix class' (ix (ix d.2.2.1 t) t_1)) (8 : Int))]) 1) (
  G (fits (t_1 + (1 : Int))) (
  r10 (t_1 + (1 : Int)) (b ++ ([IntKind.wrap .u8 (ix class' (ix (ix d.2.2.1 t) t_1)), IntKind.wrap .u8 (ishr .i64 (ix class' (ix (ix d.2.2.1 t) t_1)) (8 : Int))])))))))))) else
  G (0 ≤ t ∧ t < (class'.length : Int)) (
  G ((t).toNat < class'.length) (
  if (!(mhas number (ix class' t, (bstr b, ())))) = true then
  det_Classes_J17 class' t next' r6 b (mputK number (ix class' t, (bstr b, ()))) (mputV number number_1 (ix class' t, (bstr b, ())) (number.length : Int)) else
  det_Classes_J17 class' t next' r6 b number number_1))
noncomputable def det_Classes_L10_F (d : Tp4) (class' : (List Int)) (t : Int) (number : (List (Int × (List UInt8) × Unit))) (number_1 : (List Int)) (next' : (List Int)) (r6 : (Int → (List (Int × (List UInt8) × Unit)) → (List Int) → (List Int) → Option (List Int))) : (Int × (List Int) → Option (List Int)) → Int × (List Int) → Option (List Int) :=
  fun rec x => det_Classes_L10_B d class' t number number_1 next' r6 (fun t_1 b => rec (t_1, b)) x.1 x.2
noncomputable def det_Classes_L10 (d : Tp4) (class' : (List Int)) (t : Int) (number : (List (Int × (List UInt8) × Unit))) (number_1 : (List Int)) (next' : (List Int)) (r6 : (Int → (List (Int × (List UInt8) × Unit)) → (List Int) → (List Int) → Option (List Int))) (t_1 : Int) (b : (List Int)) : Option (List Int) := LFix (det_Classes_L10_F d class' t number number_1 next' r6 ) (t_1, b)
noncomputable def det_Classes_L6_B (d : Tp4) (count : Int) (class' : (List Int)) (r3 : (Int → (List Int) → Option (List Int))) (r6 : Int → (List (Int × (List UInt8) × Unit)) → (List Int) → (List Int) → Option (List Int)) (t : Int) (number : (List (Int × (List UInt8) × Unit))) (number_1 : (List Int)) (next' : (List Int)) : Option (List Int) :=
  if (decide (t < (d.2.2.1.length : Int))) = true then
  G (0 ≤ t ∧ t < (d.2.2.1.length : Int)) (
  det_Classes_L10 d class' t number number_1 next' r6 (0 : Int) ([])) else
  if (decide ((number.length : Int) = count)) = true then
  some next' else
  r3 (number.length : Int) next'
noncomputable def det_Classes_L6_F (d : Tp4) (count : Int) (class' : (List Int)) (r3 : (Int → (List Int) → Option (List Int))) : (Int × (List (Int × (List UInt8) × Unit)) × (List Int) × (List Int) → Option (List Int)) → Int × (List (Int × (List UInt8) × Unit)) × (List Int) × (List Int) → Option (List Int) :=
  fun rec x => det_Classes_L6_B d count class' r3 (fun t number number_1 next' => rec (t, number, number_1, next')) x.1 x.2.1 x.2.2.1 x.2.2.2
noncomputable def det_Classes_L6 (d : Tp4) (count : Int) (class' : (List Int)) (r3 : (Int → (List Int) → Option (List Int))) (t : Int) (number : (List (Int × (List UInt8) × Unit))) (number_1 : (List Int)) (next' : (List Int)) : Option (List Int) := LFix (det_Classes_L6_F d count class' r3 ) (t, number, number_1, next')
noncomputable def det_Classes_L3_B (d : Tp4) (r3 : Int → (List Int) → Option (List Int)) (count : Int) (class' : (List Int)) : Option (List Int) :=
  G (mkOK (class'.length : Int) (class'.length : Int) 8) (
  det_Classes_L6 d count class' r3 (0 : Int) ([] : List (Int × (List UInt8) × Unit)) ([] : List Int) (List.replicate ((class'.length : Int)).toNat (0 : Int)))
noncomputable def det_Classes_L3_F (d : Tp4) : (Int × (List Int) → Option (List Int)) → Int × (List Int) → Option (List Int) :=
  fun rec x => det_Classes_L3_B d (fun count class' => rec (count, class')) x.1 x.2
noncomputable def det_Classes_L3 (d : Tp4) (count : Int) (class' : (List Int)) : Option (List Int) := LFix (det_Classes_L3_F d ) (count, class')
noncomputable def det_Classes (d : Tp4) : Option (List Int) :=
  (slices_Clone d.2.2.2.1).bind (fun y' =>
  det_Classes_L3 d (0 : Int) y')
theorem det_Classes_J17_ch (r6 : Nat → Int → (List (Int × (List UInt8) × Unit)) → (List Int) → (List Int) → Option (List Int)) (r6' : Int → (List (Int × (List UInt8) × Unit)) → (List Int) → (List Int) → Option (List Int)) (h_r6 : ∀ a0 a1 a2 a3, ChO (fun κ => r6 κ a0 a1 a2 a3) (r6' a0 a1 a2 a3)) (class' : (List Int)) (t : Int) (next' : (List Int)) (b : (List Int)) (number_2 : (List (Int × (List UInt8) × Unit))) (number_3 : (List Int)) : ChO (fun κ => det_Classes_J17 class' t next' (r6 κ) b number_2 number_3) (det_Classes_J17 class' t next' r6' b number_2 number_3) := by
  unfold det_Classes_J17
  repeat' with_reducible first | exact ChO.const _ | exact h_r6 _ _ _ _ | apply ChO.ite | apply ChO.G | apply ChO.both | (apply ChO.bind; intro _)
theorem det_Classes_L10_B_ch (r6 : Nat → Int → (List (Int × (List UInt8) × Unit)) → (List Int) → (List Int) → Option (List Int)) (r6' : Int → (List (Int × (List UInt8) × Unit)) → (List Int) → (List Int) → Option (List Int)) (h_r6 : ∀ a0 a1 a2 a3, ChO (fun κ => r6 κ a0 a1 a2 a3) (r6' a0 a1 a2 a3)) (r10 : Nat → Int → (List Int) → Option (List Int)) (r10' : Int → (List Int) → Option (List Int)) (h_r10 : ∀ a0 a1, ChO (fun κ => r10 κ a0 a1) (r10' a0 a1)) (d : Tp4) (class' : (List Int)) (t : Int) (number : (List (Int × (List UInt8) × Unit))) (number_1 : (List Int)) (next' : (List Int)) (t_1 : Int) (b : (List Int)) : ChO (fun κ => det_Classes_L10_B d class' t number number_1 next' (r6 κ) (r10 κ) t_1 b) (det_Classes_L10_B d class' t number number_1 next' r6' r10' t_1 b) := by
  unfold det_Classes_L10_B
  repeat' with_reducible first | exact ChO.const _ | exact h_r6 _ _ _ _ | exact h_r10 _ _ | (apply det_Classes_J17_ch <;> assumption) | apply ChO.ite | apply ChO.G | apply ChO.both | (apply ChO.bind; intro _)
theorem det_Classes_L10_cn (r6 : Int → (List (Int × (List UInt8) × Unit)) → (List Int) → (List Int) → Option (List Int)) (d : Tp4) (class' : (List Int)) (t : Int) (number : (List (Int × (List UInt8) × Unit))) (number_1 : (List Int)) (next' : (List Int)) : Cn (det_Classes_L10_F d class' t number number_1 next' r6) := fun g h hg x => det_Classes_L10_B_ch (fun _ => r6) r6 (fun _ _ _ _ => ChO.const _) (fun κ t_1 b => g κ (t_1, b)) (fun t_1 b => h (t_1, b)) (fun t_1 b => hg (t_1, b)) d class' t number number_1 next' x.1 x.2
theorem det_Classes_L10_eq (r6 : Int → (List (Int × (List UInt8) × Unit)) → (List Int) → (List Int) → Option (List Int)) (d : Tp4) (class' : (List Int)) (t : Int) (number : (List (Int × (List UInt8) × Unit))) (number_1 : (List Int)) (next' : (List Int)) (t_1 : Int) (b : (List Int)) : det_Classes_L10 d class' t number number_1 next' r6 t_1 b = det_Classes_L10_B d class' t number number_1 next' r6 (det_Classes_L10 d class' t number number_1 next' r6) t_1 b := LFix_eq (det_Classes_L10_cn r6 d class' t number number_1 next') (t_1, b)
theorem det_Classes_L10_ch (r6 : Nat → Int → (List (Int × (List UInt8) × Unit)) → (List Int) → (List Int) → Option (List Int)) (r6' : Int → (List (Int × (List UInt8) × Unit)) → (List Int) → (List Int) → Option (List Int)) (h_r6 : ∀ a0 a1 a2 a3, ChO (fun κ => r6 κ a0 a1 a2 a3) (r6' a0 a1 a2 a3)) (d : Tp4) (class' : (List Int)) (t : Int) (number : (List (Int × (List UInt8) × Unit))) (number_1 : (List Int)) (next' : (List Int)) (t_1 : Int) (b : (List Int)) : ChO (fun κ => det_Classes_L10 d class' t number number_1 next' (r6 κ) t_1 b) (det_Classes_L10 d class' t number number_1 next' r6' t_1 b) := by
  unfold det_Classes_L10
  exact LFix_ch (fun κ => (det_Classes_L10_cn (r6 κ) d class' t number number_1 next').mono) (det_Classes_L10_cn r6' d class' t number number_1 next').mono (fun g h hg x => det_Classes_L10_B_ch r6 r6' h_r6 (fun κ t_1 b => g κ (t_1, b)) (fun t_1 b => h (t_1, b)) (fun t_1 b => hg (t_1, b)) d class' t number number_1 next' x.1 x.2) _
theorem det_Classes_L6_B_ch (r3 : Nat → Int → (List Int) → Option (List Int)) (r3' : Int → (List Int) → Option (List Int)) (h_r3 : ∀ a0 a1, ChO (fun κ => r3 κ a0 a1) (r3' a0 a1)) (r6 : Nat → Int → (List (Int × (List UInt8) × Unit)) → (List Int) → (List Int) → Option (List Int)) (r6' : Int → (List (Int × (List UInt8) × Unit)) → (List Int) → (List Int) → Option (List Int)) (h_r6 : ∀ a0 a1 a2 a3, ChO (fun κ => r6 κ a0 a1 a2 a3) (r6' a0 a1 a2 a3)) (d : Tp4) (count : Int) (class' : (List Int)) (t : Int) (number : (List (Int × (List UInt8) × Unit))) (number_1 : (List Int)) (next' : (List Int)) : ChO (fun κ => det_Classes_L6_B d count class' (r3 κ) (r6 κ) t number number_1 next') (det_Classes_L6_B d count class' r3' r6' t number number_1 next') := by
  unfold det_Classes_L6_B
  repeat' with_reducible first | exact ChO.const _ | exact h_r3 _ _ | exact h_r6 _ _ _ _ | (apply det_Classes_J17_ch <;> assumption) | (apply det_Classes_L10_ch <;> assumption) | apply ChO.ite | apply ChO.G | apply ChO.both | (apply ChO.bind; intro _)
theorem det_Classes_L6_cn (r3 : Int → (List Int) → Option (List Int)) (d : Tp4) (count : Int) (class' : (List Int)) : Cn (det_Classes_L6_F d count class' r3) := fun g h hg x => det_Classes_L6_B_ch (fun _ => r3) r3 (fun _ _ => ChO.const _) (fun κ t number number_1 next' => g κ (t, number, number_1, next')) (fun t number number_1 next' => h (t, number, number_1, next')) (fun t number number_1 next' => hg (t, number, number_1, next')) d count class' x.1 x.2.1 x.2.2.1 x.2.2.2
theorem det_Classes_L6_eq (r3 : Int → (List Int) → Option (List Int)) (d : Tp4) (count : Int) (class' : (List Int)) (t : Int) (number : (List (Int × (List UInt8) × Unit))) (number_1 : (List Int)) (next' : (List Int)) : det_Classes_L6 d count class' r3 t number number_1 next' = det_Classes_L6_B d count class' r3 (det_Classes_L6 d count class' r3) t number number_1 next' := LFix_eq (det_Classes_L6_cn r3 d count class') (t, number, number_1, next')
theorem det_Classes_L6_ch (r3 : Nat → Int → (List Int) → Option (List Int)) (r3' : Int → (List Int) → Option (List Int)) (h_r3 : ∀ a0 a1, ChO (fun κ => r3 κ a0 a1) (r3' a0 a1)) (d : Tp4) (count : Int) (class' : (List Int)) (t : Int) (number : (List (Int × (List UInt8) × Unit))) (number_1 : (List Int)) (next' : (List Int)) : ChO (fun κ => det_Classes_L6 d count class' (r3 κ) t number number_1 next') (det_Classes_L6 d count class' r3' t number number_1 next') := by
  unfold det_Classes_L6
  exact LFix_ch (fun κ => (det_Classes_L6_cn (r3 κ) d count class').mono) (det_Classes_L6_cn r3' d count class').mono (fun g h hg x => det_Classes_L6_B_ch r3 r3' h_r3 (fun κ t number number_1 next' => g κ (t, number, number_1, next')) (fun t number number_1 next' => h (t, number, number_1, next')) (fun t number number_1 next' => hg (t, number, number_1, next')) d count class' x.1 x.2.1 x.2.2.1 x.2.2.2) _
theorem det_Classes_L3_B_ch (r3 : Nat → Int → (List Int) → Option (List Int)) (r3' : Int → (List Int) → Option (List Int)) (h_r3 : ∀ a0 a1, ChO (fun κ => r3 κ a0 a1) (r3' a0 a1)) (d : Tp4) (count : Int) (class' : (List Int)) : ChO (fun κ => det_Classes_L3_B d (r3 κ) count class') (det_Classes_L3_B d r3' count class') := by
  unfold det_Classes_L3_B
  repeat' with_reducible first | exact ChO.const _ | exact h_r3 _ _ | (apply det_Classes_J17_ch <;> assumption) | (apply det_Classes_L10_ch <;> assumption) | (apply det_Classes_L6_ch <;> assumption) | apply ChO.ite | apply ChO.G | apply ChO.both | (apply ChO.bind; intro _)
theorem det_Classes_L3_cn  (d : Tp4) : Cn (det_Classes_L3_F d) := fun g h hg x => det_Classes_L3_B_ch  (fun κ count class' => g κ (count, class')) (fun count class' => h (count, class')) (fun count class' => hg (count, class')) d x.1 x.2
theorem det_Classes_L3_eq  (d : Tp4) (count : Int) (class' : (List Int)) : det_Classes_L3 d count class' = det_Classes_L3_B d (det_Classes_L3 d) count class' := LFix_eq (det_Classes_L3_cn d) (count, class')

noncomputable def det_Smallest_1 (c : Int) (a : Int) (t : (List Int)) (t_1 : Tp4) (t_2 : (List Int)) : Option (Int) :=
  G (0 ≤ c ∧ c < (t_2.length : Int)) (
  G (0 ≤ ix t_2 c ∧ ix t_2 c < (t_1.2.2.1.length : Int)) (
  G (0 ≤ a ∧ a < ((ix t_1.2.2.1 (ix t_2 c)).length : Int)) (
  G (0 ≤ ix (ix t_1.2.2.1 (ix t_2 c)) a ∧ ix (ix t_1.2.2.1 (ix t_2 c)) a < (t.length : Int)) (
  some (ix t (ix (ix t_1.2.2.1 (ix t_2 c)) a))))))

noncomputable def det_Smallest_2 (c : Int) (t : Tp4) (t_1 : (List Int)) : Option (Int) :=
  G (0 ≤ c ∧ c < (t_1.length : Int)) (
  G (0 ≤ ix t_1 c ∧ ix t_1 c < (t.2.2.2.1.length : Int)) (
  some (ix t.2.2.2.1 (ix t_1 c))))

noncomputable def det_Explore_1_J17 (t : Int) (row : (List Int)) (r8 : (Int → (List Int) → (List Int) → (List Int) → (List Int) → Option Tp2)) (n : Int) (number_4 : (List Int)) (number_5 : (List Int)) (l_2 : (List Int)) : Option Tp2 :=
  G (0 ≤ t ∧ t < (row.length : Int)) (
  G ((t).toNat < row.length) (
  G (fits (t + (1 : Int))) (
  r8 (t + (1 : Int)) number_4 number_5 l_2 (row.set (t).toNat n))))
noncomputable def det_Explore_1_L8_B (letters : Int) (c : (List Int)) (c_1 : Tp4) (c_2 : (List Int)) (c_3 : Tp4) (c_4 : (List Int)) (most : Int) (d : Int) (d_1 : Int) (l : (List Int)) (d_2 : (List (List Int))) (d_3 : (List Int)) (r4 : (Int → Int → (List Int) → (List Int) → (List Int) → (List (List Int)) → (List Int) → Option Tp2)) (r8 : Int → (List Int) → (List Int) → (List Int) → (List Int) → Option Tp2) (t : Int) (number_2 : (List Int)) (number_3 : (List Int)) (l_1 : (List Int)) (row : (List Int)) : Option Tp2 :=
  if (decide (t < letters)) = true then
  (det_Smallest_1 (ix l (d_2.length : Int)) t c c_1 c_2).bind (fun y' =>
  if (!(mhas number_2 y')) = true then
  if (decide ((l_1.length : Int) = most)) = true then
  some (((0 : Int), ((0 : Int), ([], ([], ())))), false) else
  G (room l_1 ([y']) 8) (
  det_Explore_1_J17 t row r8 (l_1.length : Int) (mputK number_2 y') (mputV number_2 number_3 y' (l_1.length : Int)) (l_1 ++ ([y']))) else
  det_Explore_1_J17 t row r8 (mget number_2 number_3 y' (0 : Int)) number_2 number_3 l_1) else
  G (room d_2 ([row]) 24) (
  (det_Smallest_2 (ix l (d_2.length : Int)) c_3 c_4).bind (fun y'_1 =>
  G (room d_3 ([y'_1]) 8) (
  r4 d d_1 number_2 number_3 l_1 (d_2 ++ ([row])) (d_3 ++ ([y'_1])))))
noncomputable def det_Explore_1_L8_F (letters : Int) (c : (List Int)) (c_1 : Tp4) (c_2 : (List Int)) (c_3 : Tp4) (c_4 : (List Int)) (most : Int) (d : Int) (d_1 : Int) (l : (List Int)) (d_2 : (List (List Int))) (d_3 : (List Int)) (r4 : (Int → Int → (List Int) → (List Int) → (List Int) → (List (List Int)) → (List Int) → Option Tp2)) : (Int × (List Int) × (List Int) × (List Int) × (List Int) → Option Tp2) → Int × (List Int) × (List Int) × (List Int) × (List Int) → Option Tp2 :=
  fun rec x => det_Explore_1_L8_B letters c c_1 c_2 c_3 c_4 most d d_1 l d_2 d_3 r4 (fun t number_2 number_3 l_1 row => rec (t, number_2, number_3, l_1, row)) x.1 x.2.1 x.2.2.1 x.2.2.2.1 x.2.2.2.2
noncomputable def det_Explore_1_L8 (letters : Int) (c : (List Int)) (c_1 : Tp4) (c_2 : (List Int)) (c_3 : Tp4) (c_4 : (List Int)) (most : Int) (d : Int) (d_1 : Int) (l : (List Int)) (d_2 : (List (List Int))) (d_3 : (List Int)) (r4 : (Int → Int → (List Int) → (List Int) → (List Int) → (List (List Int)) → (List Int) → Option Tp2)) (t : Int) (number_2 : (List Int)) (number_3 : (List Int)) (l_1 : (List Int)) (row : (List Int)) : Option Tp2 := LFix (det_Explore_1_L8_F letters c c_1 c_2 c_3 c_4 most d d_1 l d_2 d_3 r4 ) (t, number_2, number_3, l_1, row)
noncomputable def det_Explore_1_L4_B (letters : Int) (c : (List Int)) (c_1 : Tp4) (c_2 : (List Int)) (c_3 : Tp4) (c_4 : (List Int)) (most : Int) (r4 : Int → Int → (List Int) → (List Int) → (List Int) → (List (List Int)) → (List Int) → Option Tp2) (d : Int) (d_1 : Int) (number : (List Int)) (number_1 : (List Int)) (l : (List Int)) (d_2 : (List (List Int))) (d_3 : (List Int)) : Option Tp2 :=
  if (decide ((d_2.length : Int) < (l.length : Int))) = true then
  G (0 ≤ (d_2.length : Int) ∧ (d_2.length : Int) < (l.length : Int)) (
  G (((d_2.length : Int)).toNat < l.length) (
  G (mkOK letters letters 8) (
  det_Explore_1_L8 letters c c_1 c_2 c_3 c_4 most d d_1 l d_2 d_3 r4 (0 : Int) number number_1 l (List.replicate (letters).toNat (0 : Int))))) else
  some ((d, (d_1, (d_2, (d_3, ())))), true)
noncomputable def det_Explore_1_L4_F (letters : Int) (c : (List Int)) (c_1 : Tp4) (c_2 : (List Int)) (c_3 : Tp4) (c_4 : (List Int)) (most : Int) : (Int × Int × (List Int) × (List Int) × (List Int) × (List (List Int)) × (List Int) → Option Tp2) → Int × Int × (List Int) × (List Int) × (List Int) × (List (List Int)) × (List Int) → Option Tp2 :=
  fun rec x => det_Explore_1_L4_B letters c c_1 c_2 c_3 c_4 most (fun d d_1 number number_1 l d_2 d_3 => rec (d, d_1, number, number_1, l, d_2, d_3)) x.1 x.2.1 x.2.2.1 x.2.2.2.1 x.2.2.2.2.1 x.2.2.2.2.2.1 x.2.2.2.2.2.2
noncomputable def det_Explore_1_L4 (letters : Int) (c : (List Int)) (c_1 : Tp4) (c_2 : (List Int)) (c_3 : Tp4) (c_4 : (List Int)) (most : Int) (d : Int) (d_1 : Int) (number : (List Int)) (number_1 : (List Int)) (l : (List Int)) (d_2 : (List (List Int))) (d_3 : (List Int)) : Option Tp2 := LFix (det_Explore_1_L4_F letters c c_1 c_2 c_3 c_4 most ) (d, d_1, number, number_1, l, d_2, d_3)
noncomputable def det_Explore_1 (letters : Int) (first : Int) (c : (List Int)) (c_1 : Tp4) (c_2 : (List Int)) (c_3 : Tp4) (c_4 : (List Int)) (most : Int) : Option Tp2 :=
  det_Explore_1_L4 letters c c_1 c_2 c_3 c_4 most letters (0 : Int) (mputK ([] : List Int) first) (mputV ([] : List Int) ([] : List Int) first (0 : Int)) ([first]) ([] : List (List Int)) ([] : List Int)
theorem det_Explore_1_J17_ch (r8 : Nat → Int → (List Int) → (List Int) → (List Int) → (List Int) → Option Tp2) (r8' : Int → (List Int) → (List Int) → (List Int) → (List Int) → Option Tp2) (h_r8 : ∀ a0 a1 a2 a3 a4, ChO (fun κ => r8 κ a0 a1 a2 a3 a4) (r8' a0 a1 a2 a3 a4)) (t : Int) (row : (List Int)) (n : Int) (number_4 : (List Int)) (number_5 : (List Int)) (l_2 : (List Int)) : ChO (fun κ => det_Explore_1_J17 t row (r8 κ) n number_4 number_5 l_2) (det_Explore_1_J17 t row r8' n number_4 number_5 l_2) := by
  unfold det_Explore_1_J17
  repeat' with_reducible first | exact ChO.const _ | exact h_r8 _ _ _ _ _ | apply ChO.ite | apply ChO.G | apply ChO.both | (apply ChO.bind; intro _)
theorem det_Explore_1_L8_B_ch (r4 : Nat → Int → Int → (List Int) → (List Int) → (List Int) → (List (List Int)) → (List Int) → Option Tp2) (r4' : Int → Int → (List Int) → (List Int) → (List Int) → (List (List Int)) → (List Int) → Option Tp2) (h_r4 : ∀ a0 a1 a2 a3 a4 a5 a6, ChO (fun κ => r4 κ a0 a1 a2 a3 a4 a5 a6) (r4' a0 a1 a2 a3 a4 a5 a6)) (r8 : Nat → Int → (List Int) → (List Int) → (List Int) → (List Int) → Option Tp2) (r8' : Int → (List Int) → (List Int) → (List Int) → (List Int) → Option Tp2) (h_r8 : ∀ a0 a1 a2 a3 a4, ChO (fun κ => r8 κ a0 a1 a2 a3 a4) (r8' a0 a1 a2 a3 a4)) (letters : Int) (c : (List Int)) (c_1 : Tp4) (c_2 : (List Int)) (c_3 : Tp4) (c_4 : (List Int)) (most : Int) (d : Int) (d_1 : Int) (l : (List Int)) (d_2 : (List (List Int))) (d_3 : (List Int)) (t : Int) (number_2 : (List Int)) (number_3 : (List Int)) (l_1 : (List Int)) (row : (List Int)) : ChO (fun κ => det_Explore_1_L8_B letters c c_1 c_2 c_3 c_4 most d d_1 l d_2 d_3 (r4 κ) (r8 κ) t number_2 number_3 l_1 row) (det_Explore_1_L8_B letters c c_1 c_2 c_3 c_4 most d d_1 l d_2 d_3 r4' r8' t number_2 number_3 l_1 row) := by
  unfold det_Explore_1_L8_B
  repeat' with_reducible first | exact ChO.const _ | exact h_r4 _ _ _ _ _ _ _ | exact h_r8 _ _ _ _ _ | (apply det_Explore_1_J17_ch <;> assumption) | apply ChO.ite | apply ChO.G | apply ChO.both | (apply ChO.bind; intro _)
theorem det_Explore_1_L8_cn (r4 : Int → Int → (List Int) → (List Int) → (List Int) → (List (List Int)) → (List Int) → Option Tp2) (letters : Int) (c : (List Int)) (c_1 : Tp4) (c_2 : (List Int)) (c_3 : Tp4) (c_4 : (List Int)) (most : Int) (d : Int) (d_1 : Int) (l : (List Int)) (d_2 : (List (List Int))) (d_3 : (List Int)) : Cn (det_Explore_1_L8_F letters c c_1 c_2 c_3 c_4 most d d_1 l d_2 d_3 r4) := fun g h hg x => det_Explore_1_L8_B_ch (fun _ => r4) r4 (fun _ _ _ _ _ _ _ => ChO.const _) (fun κ t number_2 number_3 l_1 row => g κ (t, number_2, number_3, l_1, row)) (fun t number_2 number_3 l_1 row => h (t, number_2, number_3, l_1, row)) (fun t number_2 number_3 l_1 row => hg (t, number_2, number_3, l_1, row)) letters c c_1 c_2 c_3 c_4 most d d_1 l d_2 d_3 x.1 x.2.1 x.2.2.1 x.2.2.2.1 x.2.2.2.2
theorem det_Explore_1_L8_eq (r4 : Int → Int → (List Int) → (List Int) → (List Int) → (List (List Int)) → (List Int) → Option Tp2) (letters : Int) (c : (List Int)) (c_1 : Tp4) (c_2 : (List Int)) (c_3 : Tp4) (c_4 : (List Int)) (most : Int) (d : Int) (d_1 : Int) (l : (List Int)) (d_2 : (List (List Int))) (d_3 : (List Int)) (t : Int) (number_2 : (List Int)) (number_3 : (List Int)) (l_1 : (List Int)) (row : (List Int)) : det_Explore_1_L8 letters c c_1 c_2 c_3 c_4 most d d_1 l d_2 d_3 r4 t number_2 number_3 l_1 row = det_Explore_1_L8_B letters c c_1 c_2 c_3 c_4 most d d_1 l d_2 d_3 r4 (det_Explore_1_L8 letters c c_1 c_2 c_3 c_4 most d d_1 l d_2 d_3 r4) t number_2 number_3 l_1 row := LFix_eq (det_Explore_1_L8_cn r4 letters c c_1 c_2 c_3 c_4 most d d_1 l d_2 d_3) (t, number_2, number_3, l_1, row)
theorem det_Explore_1_L8_ch (r4 : Nat → Int → Int → (List Int) → (List Int) → (List Int) → (List (List Int)) → (List Int) → Option Tp2) (r4' : Int → Int → (List Int) → (List Int) → (List Int) → (List (List Int)) → (List Int) → Option Tp2) (h_r4 : ∀ a0 a1 a2 a3 a4 a5 a6, ChO (fun κ => r4 κ a0 a1 a2 a3 a4 a5 a6) (r4' a0 a1 a2 a3 a4 a5 a6)) (letters : Int) (c : (List Int)) (c_1 : Tp4) (c_2 : (List Int)) (c_3 : Tp4) (c_4 : (List Int)) (most : Int) (d : Int) (d_1 : Int) (l : (List Int)) (d_2 : (List (List Int))) (d_3 : (List Int)) (t : Int) (number_2 : (List Int)) (number_3 : (List Int)) (l_1 : (List Int)) (row : (List Int)) : ChO (fun κ => det_Explore_1_L8 letters c c_1 c_2 c_3 c_4 most d d_1 l d_2 d_3 (r4 κ) t number_2 number_3 l_1 row) (det_Explore_1_L8 letters c c_1 c_2 c_3 c_4 most d d_1 l d_2 d_3 r4' t number_2 number_3 l_1 row) := by
  unfold det_Explore_1_L8
  exact LFix_ch (fun κ => (det_Explore_1_L8_cn (r4 κ) letters c c_1 c_2 c_3 c_4 most d d_1 l d_2 d_3).mono) (det_Explore_1_L8_cn r4' letters c c_1 c_2 c_3 c_4 most d d_1 l d_2 d_3).mono (fun g h hg x => det_Explore_1_L8_B_ch r4 r4' h_r4 (fun κ t number_2 number_3 l_1 row => g κ (t, number_2, number_3, l_1, row)) (fun t number_2 number_3 l_1 row => h (t, number_2, number_3, l_1, row)) (fun t number_2 number_3 l_1 row => hg (t, number_2, number_3, l_1, row)) letters c c_1 c_2 c_3 c_4 most d d_1 l d_2 d_3 x.1 x.2.1 x.2.2.1 x.2.2.2.1 x.2.2.2.2) _
theorem det_Explore_1_L4_B_ch (r4 : Nat → Int → Int → (List Int) → (List Int) → (List Int) → (List (List Int)) → (List Int) → Option Tp2) (r4' : Int → Int → (List Int) → (List Int) → (List Int) → (List (List Int)) → (List Int) → Option Tp2) (h_r4 : ∀ a0 a1 a2 a3 a4 a5 a6, ChO (fun κ => r4 κ a0 a1 a2 a3 a4 a5 a6) (r4' a0 a1 a2 a3 a4 a5 a6)) (letters : Int) (c : (List Int)) (c_1 : Tp4) (c_2 : (List Int)) (c_3 : Tp4) (c_4 : (List Int)) (most : Int) (d : Int) (d_1 : Int) (number : (List Int)) (number_1 : (List Int)) (l : (List Int)) (d_2 : (List (List Int))) (d_3 : (List Int)) : ChO (fun κ => det_Explore_1_L4_B letters c c_1 c_2 c_3 c_4 most (r4 κ) d d_1 number number_1 l d_2 d_3) (det_Explore_1_L4_B letters c c_1 c_2 c_3 c_4 most r4' d d_1 number number_1 l d_2 d_3) := by
  unfold det_Explore_1_L4_B
  repeat' with_reducible first | exact ChO.const _ | exact h_r4 _ _ _ _ _ _ _ | (apply det_Explore_1_J17_ch <;> assumption) | (apply det_Explore_1_L8_ch <;> assumption) | apply ChO.ite | apply ChO.G | apply ChO.both | (apply ChO.bind; intro _)
theorem det_Explore_1_L4_cn  (letters : Int) (c : (List Int)) (c_1 : Tp4) (c_2 : (List Int)) (c_3 : Tp4) (c_4 : (List Int)) (most : Int) : Cn (det_Explore_1_L4_F letters c c_1 c_2 c_3 c_4 most) := fun g h hg x => det_Explore_1_L4_B_ch  (fun κ d d_1 number number_1 l d_2 d_3 => g κ (d, d_1, number, number_1, l, d_2, d_3)) (fun d d_1 number number_1 l d_2 d_3 => h (d, d_1, number, number_1, l, d_2, d_3)) (fun d d_1 number number_1 l d_2 d_3 => hg (d, d_1, number, number_1, l, d_2, d_3)) letters c c_1 c_2 c_3 c_4 most x.1 x.2.1 x.2.2.1 x.2.2.2.1 x.2.2.2.2.1 x.2.2.2.2.2.1 x.2.2.2.2.2.2
theorem det_Explore_1_L4_eq  (letters : Int) (c : (List Int)) (c_1 : Tp4) (c_2 : (List Int)) (c_3 : Tp4) (c_4 : (List Int)) (most : Int) (d : Int) (d_1 : Int) (number : (List Int)) (number_1 : (List Int)) (l : (List Int)) (d_2 : (List (List Int))) (d_3 : (List Int)) : det_Explore_1_L4 letters c c_1 c_2 c_3 c_4 most d d_1 number number_1 l d_2 d_3 = det_Explore_1_L4_B letters c c_1 c_2 c_3 c_4 most (det_Explore_1_L4 letters c c_1 c_2 c_3 c_4 most) d d_1 number number_1 l d_2 d_3 := LFix_eq (det_Explore_1_L4_cn letters c c_1 c_2 c_3 c_4 most) (d, d_1, number, number_1, l, d_2, d_3)

noncomputable def det_Smallest_J8 (out : Int) (out_1 : Int) (out_2 : (List (List Int))) (out_3 : (List Int)) : Option Tp4 :=
  some (out, (out_1, (out_2, (out_3, ()))))
noncomputable def det_Smallest_L4_B (d : Tp4) (y' : (List Int)) (r4 : Int → (List Int) → Option Tp4) (t : Int) (l : (List Int)) : Option Tp4 :=
  if (decide (t < (y'.length : Int))) = true then
  G (0 ≤ t ∧ t < (y'.length : Int)) (
  G ((t).toNat < y'.length) (
  G (0 ≤ ix y' t ∧ ix y' t < (l.length : Int)) (
  G ((ix y' t).toNat < l.length) (
  G (fits (t + (1 : Int))) (
  r4 (t + (1 : Int)) (l.set (ix y' t).toNat t)))))) else
  G (0 ≤ d.2.1 ∧ d.2.1 < (y'.length : Int)) (
  G ((d.2.1).toNat < y'.length) (
  G (fits ((y'.length : Int) + (1 : Int))) (
  both [(.pair (.int .i64) (.pair (.int .i64) (.pair (.list (.list (.int .i64))) (.pair (.list (.int .i64)) .unit))))] (
  (det_Explore_1 d.1 (ix y' d.2.1) y' (d.1, (d.2.1, (d.2.2.1, (d.2.2.2.1, ())))) l (d.1, (d.2.1, (d.2.2.1, (d.2.2.2.1, ())))) l ((y'.length : Int) + (1 : Int))).bind (fun y'_4 =>
  det_Smallest_J8 y'_4.1.1 y'_4.1.2.1 y'_4.1.2.2.1 y'_4.1.2.2.2.1)) (
  (det_Explore_1 d.1 (ix y' d.2.1) y' (d.1, (d.2.1, (d.2.2.1, (d.2.2.2.1, ())))) l (d.1, (d.2.1, (d.2.2.1, (d.2.2.2.1, ())))) l ((y'.length : Int) + (1 : Int))).bind (fun y'_8 =>
  det_Smallest_J8 y'_8.1.1 y'_8.1.2.1 y'_8.1.2.2.1 y'_8.1.2.2.2.1)))))
noncomputable def det_Smallest_L4_F (d : Tp4) (y' : (List Int)) : (Int × (List Int) → Option Tp4) → Int × (List Int) → Option Tp4 :=
  fun rec x => det_Smallest_L4_B d y' (fun t l => rec (t, l)) x.1 x.2
noncomputable def det_Smallest_L4 (d : Tp4) (y' : (List Int)) (t : Int) (l : (List Int)) : Option Tp4 := LFix (det_Smallest_L4_F d y' ) (t, l)
noncomputable def det_Smallest (d : Tp4) : Option Tp4 :=
  (det_Classes (d.1, (d.2.1, (d.2.2.1, (d.2.2.2.1, ()))))).bind (fun y' =>
  G (mkOK (y'.length : Int) (y'.length : Int) 8) (
  det_Smallest_L4 d y' (0 : Int) (List.replicate ((y'.length : Int)).toNat (0 : Int))))
theorem det_Smallest_L4_B_ch (r4 : Nat → Int → (List Int) → Option Tp4) (r4' : Int → (List Int) → Option Tp4) (h_r4 : ∀ a0 a1, ChO (fun κ => r4 κ a0 a1) (r4' a0 a1)) (d : Tp4) (y' : (List Int)) (t : Int) (l : (List Int)) : ChO (fun κ => det_Smallest_L4_B d y' (r4 κ) t l) (det_Smallest_L4_B d y' r4' t l) := by
  unfold det_Smallest_L4_B
  repeat' with_reducible first | exact ChO.const _ | exact h_r4 _ _ | apply ChO.ite | apply ChO.G | apply ChO.both | (apply ChO.bind; intro _)
theorem det_Smallest_L4_cn  (d : Tp4) (y' : (List Int)) : Cn (det_Smallest_L4_F d y') := fun g h hg x => det_Smallest_L4_B_ch  (fun κ t l => g κ (t, l)) (fun t l => h (t, l)) (fun t l => hg (t, l)) d y' x.1 x.2
theorem det_Smallest_L4_eq  (d : Tp4) (y' : (List Int)) (t : Int) (l : (List Int)) : det_Smallest_L4 d y' t l = det_Smallest_L4_B d y' (det_Smallest_L4 d y') t l := LFix_eq (det_Smallest_L4_cn d y') (t, l)

noncomputable def alter_Det_L6_B (a : Tp1) (r6 : Int → Int → Option Tp3) (first : Int) (t : Int) : Option Tp3 :=
  if (decide (t < (16 : Int))) = true then
  G (0 ≤ a.2.1) (
  if (decide ((iand .i64 (ishr .i64 t a.2.1) (1 : Int)) = (1 : Int))) = true then
  G (0 ≤ t) (
  G (fits (t + (1 : Int))) (
  r6 (ior .i64 first (ishl .i64 (1 : Int) t)) (t + (1 : Int)))) else
  G (fits (t + (1 : Int))) (
  r6 first (t + (1 : Int)))) else
  (alter_ends (a.1, (a.2.1, (a.2.2.1, (a.2.2.2.1, ()))))).bind (fun y'_1 =>
  (det_Explore a.1 first (a.1, (a.2.1, (a.2.2.1, (a.2.2.2.1, ())))) y'_1 (131072 : Int)).bind (fun y'_6 =>
  (det_Smallest (y'_6.1.1, (y'_6.1.2.1, (y'_6.1.2.2.1, (y'_6.1.2.2.2.1, ()))))).bind (fun y'_5 =>
  if (!y'_6.2) = true then
  some (((0 : Int), ((0 : Int), ([], ([], ())))), (7 : Int)) else
  if (decide ((3000 : Int) < (y'_5.2.2.1.length : Int))) = true then
  some (((0 : Int), ((0 : Int), ([], ([], ())))), (7 : Int)) else
  some ((y'_5.1, (y'_5.2.1, (y'_5.2.2.1, (y'_5.2.2.2.1, ())))), (0 : Int)))))
noncomputable def alter_Det_L6_F (a : Tp1) : (Int × Int → Option Tp3) → Int × Int → Option Tp3 :=
  fun rec x => alter_Det_L6_B a (fun first t => rec (first, t)) x.1 x.2
noncomputable def alter_Det_L6 (a : Tp1) (first : Int) (t : Int) : Option Tp3 := LFix (alter_Det_L6_F a ) (first, t)
noncomputable def alter_Det (a : Tp1) : Option Tp3 :=
  (alter_Check (a.1, (a.2.1, (a.2.2.1, (a.2.2.2.1, ()))))).bind (fun y' =>
  if (decide (¬ y' = (0 : Int))) = true then
  some (((0 : Int), ((0 : Int), ([], ([], ())))), y') else
  alter_Det_L6 a (0 : Int) (0 : Int))
theorem alter_Det_L6_B_ch (r6 : Nat → Int → Int → Option Tp3) (r6' : Int → Int → Option Tp3) (h_r6 : ∀ a0 a1, ChO (fun κ => r6 κ a0 a1) (r6' a0 a1)) (a : Tp1) (first : Int) (t : Int) : ChO (fun κ => alter_Det_L6_B a (r6 κ) first t) (alter_Det_L6_B a r6' first t) := by
  unfold alter_Det_L6_B
  repeat' with_reducible first | exact ChO.const _ | exact h_r6 _ _ | apply ChO.ite | apply ChO.G | apply ChO.both | (apply ChO.bind; intro _)
theorem alter_Det_L6_cn  (a : Tp1) : Cn (alter_Det_L6_F a) := fun g h hg x => alter_Det_L6_B_ch  (fun κ first t => g κ (first, t)) (fun first t => h (first, t)) (fun first t => hg (first, t)) a x.1 x.2
theorem alter_Det_L6_eq  (a : Tp1) (first : Int) (t : Int) : alter_Det_L6 a first t = alter_Det_L6_B a (alter_Det_L6 a) first t := LFix_eq (alter_Det_L6_cn a) (first, t)

noncomputable def law_noDet (d : Tp4) : Option (Bool) :=
  if (decide (d.1 = (0 : Int))) = true then
  if (decide (d.2.1 = (0 : Int))) = true then
  G (fits ((d.2.2.1.length : Int) + (d.2.2.2.1.length : Int))) (
  some (decide (((d.2.2.1.length : Int) + (d.2.2.2.1.length : Int)) = (0 : Int)))) else
  some false else
  some false

noncomputable def r26_Check_L29_B (a : Tp1) (q_1 : Int) (k : Int) (i : Int) (r24 : (Bool → Int → Option (Int))) (r29 : Bool → Int → Option (Int)) (bad_4 : Bool) (j : Int) : Option (Int) :=
  G (0 ≤ i ∧ i < ((ix (ix a.2.2.1 q_1) k).length : Int)) (
  if (decide (j < ((ix (ix (ix a.2.2.1 q_1) k) i).length : Int))) = true then
  if bad_4 = true then
  G (fits (j + (1 : Int))) (
  r29 true (j + (1 : Int))) else
  G (0 ≤ i ∧ i < ((ix (ix a.2.2.1 q_1) k).length : Int)) (
  G (0 ≤ j ∧ j < ((ix (ix (ix a.2.2.1 q_1) k) i).length : Int)) (
  if (decide ((ix (ix (ix (ix a.2.2.1 q_1) k) i) j) < (0 : Int))) = true then
  G (fits (j + (1 : Int))) (
  r29 true (j + (1 : Int))) else
  G (0 ≤ i ∧ i < ((ix (ix a.2.2.1 q_1) k).length : Int)) (
  G (0 ≤ j ∧ j < ((ix (ix (ix a.2.2.1 q_1) k) i).length : Int)) (
  G (fits (j + (1 : Int))) (
  r29 (decide ((a.2.2.1.length : Int) ≤ (ix (ix (ix (ix a.2.2.1 q_1) k) i) j))) (j + (1 : Int))))))) else
  G (fits (i + (1 : Int))) (
  r24 bad_4 (i + (1 : Int))))
noncomputable def r26_Check_L29_F (a : Tp1) (q_1 : Int) (k : Int) (i : Int) (r24 : (Bool → Int → Option (Int))) : (Bool × Int → Option (Int)) → Bool × Int → Option (Int) :=
  fun rec x => r26_Check_L29_B a q_1 k i r24 (fun bad_4 j => rec (bad_4, j)) x.1 x.2
noncomputable def r26_Check_L29 (a : Tp1) (q_1 : Int) (k : Int) (i : Int) (r24 : (Bool → Int → Option (Int))) (bad_4 : Bool) (j : Int) : Option (Int) := LFix (r26_Check_L29_F a q_1 k i r24 ) (bad_4, j)
noncomputable def r26_Check_L24_B (a : Tp1) (q_1 : Int) (k : Int) (r18 : (Bool → Int → Option (Int))) (r24 : Bool → Int → Option (Int)) (bad_3 : Bool) (i : Int) : Option (Int) :=
  if (decide (i < ((ix (ix a.2.2.1 q_1) k).length : Int))) = true then
  G (0 ≤ i ∧ i < ((ix (ix a.2.2.1 q_1) k).length : Int)) (
  if (decide ((4 : Int) < ((ix (ix (ix a.2.2.1 q_1) k) i).length : Int))) = true then
  some (1 : Int) else
  r26_Check_L29 a q_1 k i r24 bad_3 (0 : Int)) else
  G (fits (k + (1 : Int))) (
  r18 bad_3 (k + (1 : Int)))
noncomputable def r26_Check_L24_F (a : Tp1) (q_1 : Int) (k : Int) (r18 : (Bool → Int → Option (Int))) : (Bool × Int → Option (Int)) → Bool × Int → Option (Int) :=
  fun rec x => r26_Check_L24_B a q_1 k r18 (fun bad_3 i => rec (bad_3, i)) x.1 x.2
noncomputable def r26_Check_L24 (a : Tp1) (q_1 : Int) (k : Int) (r18 : (Bool → Int → Option (Int))) (bad_3 : Bool) (i : Int) : Option (Int) := LFix (r26_Check_L24_F a q_1 k r18 ) (bad_3, i)
noncomputable def r26_Check_L18_B (a : Tp1) (q_1 : Int) (r15 : (Bool → Int → Option (Int))) (r18 : Bool → Int → Option (Int)) (bad_2 : Bool) (k : Int) : Option (Int) :=
  if (decide (k < a.1)) = true then
  G (0 ≤ q_1 ∧ q_1 < (a.2.2.1.length : Int)) (
  G (0 ≤ k ∧ k < ((ix a.2.2.1 q_1).length : Int)) (
  if (decide ((16 : Int) < ((ix (ix a.2.2.1 q_1) k).length : Int))) = true then
  some (1 : Int) else
  r26_Check_L24 a q_1 k r18 bad_2 (0 : Int))) else
  if bad_2 = true then
  G (fits (q_1 + (1 : Int))) (
  r15 true (q_1 + (1 : Int))) else
  G (0 ≤ q_1 ∧ q_1 < (a.2.2.2.1.length : Int)) (
  if (decide (¬ (ix a.2.2.2.1 q_1) = (0 : Int))) = true then
  G (0 ≤ q_1 ∧ q_1 < (a.2.2.2.1.length : Int)) (
  G (fits (q_1 + (1 : Int))) (
  r15 (decide (¬ (ix a.2.2.2.1 q_1) = (1 : Int))) (q_1 + (1 : Int)))) else
  G (fits (q_1 + (1 : Int))) (
  r15 false (q_1 + (1 : Int))))
noncomputable def r26_Check_L18_F (a : Tp1) (q_1 : Int) (r15 : (Bool → Int → Option (Int))) : (Bool × Int → Option (Int)) → Bool × Int → Option (Int) :=
  fun rec x => r26_Check_L18_B a q_1 r15 (fun bad_2 k => rec (bad_2, k)) x.1 x.2
noncomputable def r26_Check_L18 (a : Tp1) (q_1 : Int) (r15 : (Bool → Int → Option (Int))) (bad_2 : Bool) (k : Int) : Option (Int) := LFix (r26_Check_L18_F a q_1 r15 ) (bad_2, k)
noncomputable def r26_Check_L15_B (a : Tp1) (r15 : Bool → Int → Option (Int)) (bad_1 : Bool) (q_1 : Int) : Option (Int) :=
  if (decide (q_1 < (a.2.2.1.length : Int))) = true then
  r26_Check_L18 a q_1 r15 bad_1 (0 : Int) else
  if bad_1 = true then
  some (2 : Int) else
  some (0 : Int)
noncomputable def r26_Check_L15_F (a : Tp1) : (Bool × Int → Option (Int)) → Bool × Int → Option (Int) :=
  fun rec x => r26_Check_L15_B a (fun bad_1 q_1 => rec (bad_1, q_1)) x.1 x.2
noncomputable def r26_Check_L15 (a : Tp1) (bad_1 : Bool) (q_1 : Int) : Option (Int) := LFix (r26_Check_L15_F a ) (bad_1, q_1)
noncomputable def r26_Check_J13 (a : Tp1) (bad : Bool) : Option (Int) :=
  r26_Check_L15 a bad (0 : Int)
noncomputable def r26_Check_L9_B (a : Tp1) (r9 : Int → Option (Int)) (q : Int) : Option (Int) :=
  if (decide (q < (a.2.2.1.length : Int))) = true then
  G (0 ≤ q ∧ q < (a.2.2.1.length : Int)) (
  if (decide (¬ ((ix a.2.2.1 q).length : Int) = a.1)) = true then
  some (3 : Int) else
  G (fits (q + (1 : Int))) (
  r9 (q + (1 : Int)))) else
  if (decide (a.2.1 < (0 : Int))) = true then
  r26_Check_J13 a true else
  r26_Check_J13 a (decide ((a.2.2.1.length : Int) ≤ a.2.1))
noncomputable def r26_Check_L9_F (a : Tp1) : (Int → Option (Int)) → Int → Option (Int) :=
  fun rec x => r26_Check_L9_B a (fun q => rec q) x
noncomputable def r26_Check_L9 (a : Tp1) (q : Int) : Option (Int) := LFix (r26_Check_L9_F a ) q
noncomputable def r26_Check (a : Tp1) : Option (Int) :=
  if (decide (a.1 < (1 : Int))) = true then
  some (2 : Int) else
  if (decide ((4 : Int) < a.1)) = true then
  some (2 : Int) else
  if (decide ((a.2.2.1.length : Int) < (1 : Int))) = true then
  some (1 : Int) else
  if (decide ((4 : Int) < (a.2.2.1.length : Int))) = true then
  some (1 : Int) else
  if (decide (¬ (a.2.2.2.1.length : Int) = (a.2.2.1.length : Int))) = true then
  some (3 : Int) else
  r26_Check_L9 a (0 : Int)
theorem r26_Check_L29_B_ch (r24 : Nat → Bool → Int → Option (Int)) (r24' : Bool → Int → Option (Int)) (h_r24 : ∀ a0 a1, ChO (fun κ => r24 κ a0 a1) (r24' a0 a1)) (r29 : Nat → Bool → Int → Option (Int)) (r29' : Bool → Int → Option (Int)) (h_r29 : ∀ a0 a1, ChO (fun κ => r29 κ a0 a1) (r29' a0 a1)) (a : Tp1) (q_1 : Int) (k : Int) (i : Int) (bad_4 : Bool) (j : Int) : ChO (fun κ => r26_Check_L29_B a q_1 k i (r24 κ) (r29 κ) bad_4 j) (r26_Check_L29_B a q_1 k i r24' r29' bad_4 j) := by
  unfold r26_Check_L29_B
  repeat' with_reducible first | exact ChO.const _ | exact h_r24 _ _ | exact h_r29 _ _ | apply ChO.ite | apply ChO.G | apply ChO.both | (apply ChO.bind; intro _)
theorem r26_Check_L29_cn (r24 : Bool → Int → Option (Int)) (a : Tp1) (q_1 : Int) (k : Int) (i : Int) : Cn (r26_Check_L29_F a q_1 k i r24) := fun g h hg x => r26_Check_L29_B_ch (fun _ => r24) r24 (fun _ _ => ChO.const _) (fun κ bad_4 j => g κ (bad_4, j)) (fun bad_4 j => h (bad_4, j)) (fun bad_4 j => hg (bad_4, j)) a q_1 k i x.1 x.2
theorem r26_Check_L29_eq (r24 : Bool → Int → Option (Int)) (a : Tp1) (q_1 : Int) (k : Int) (i : Int) (bad_4 : Bool) (j : Int) : r26_Check_L29 a q_1 k i r24 bad_4 j = r26_Check_L29_B a q_1 k i r24 (r26_Check_L29 a q_1 k i r24) bad_4 j := LFix_eq (r26_Check_L29_cn r24 a q_1 k i) (bad_4, j)
theorem r26_Check_L29_ch (r24 : Nat → Bool → Int → Option (Int)) (r24' : Bool → Int → Option (Int)) (h_r24 : ∀ a0 a1, ChO (fun κ => r24 κ a0 a1) (r24' a0 a1)) (a : Tp1) (q_1 : Int) (k : Int) (i : Int) (bad_4 : Bool) (j : Int) : ChO (fun κ => r26_Check_L29 a q_1 k i (r24 κ) bad_4 j) (r26_Check_L29 a q_1 k i r24' bad_4 j) := by
  unfold r26_Check_L29
  exact LFix_ch (fun κ => (r26_Check_L29_cn (r24 κ) a q_1 k i).mono) (r26_Check_L29_cn r24' a q_1 k i).mono (fun g h hg x => r26_Check_L29_B_ch r24 r24' h_r24 (fun κ bad_4 j => g κ (bad_4, j)) (fun bad_4 j => h (bad_4, j)) (fun bad_4 j => hg (bad_4, j)) a q_1 k i x.1 x.2) _
theorem r26_Check_L24_B_ch (r18 : Nat → Bool → Int → Option (Int)) (r18' : Bool → Int → Option (Int)) (h_r18 : ∀ a0 a1, ChO (fun κ => r18 κ a0 a1) (r18' a0 a1)) (r24 : Nat → Bool → Int → Option (Int)) (r24' : Bool → Int → Option (Int)) (h_r24 : ∀ a0 a1, ChO (fun κ => r24 κ a0 a1) (r24' a0 a1)) (a : Tp1) (q_1 : Int) (k : Int) (bad_3 : Bool) (i : Int) : ChO (fun κ => r26_Check_L24_B a q_1 k (r18 κ) (r24 κ) bad_3 i) (r26_Check_L24_B a q_1 k r18' r24' bad_3 i) := by
  unfold r26_Check_L24_B
  repeat' with_reducible first | exact ChO.const _ | exact h_r18 _ _ | exact h_r24 _ _ | (apply r26_Check_L29_ch <;> assumption) | apply ChO.ite | apply ChO.G | apply ChO.both | (apply ChO.bind; intro _)
theorem r26_Check_L24_cn (r18 : Bool → Int → Option (Int)) (a : Tp1) (q_1 : Int) (k : Int) : Cn (r26_Check_L24_F a q_1 k r18) := fun g h hg x => r26_Check_L24_B_ch (fun _ => r18) r18 (fun _ _ => ChO.const _) (fun κ bad_3 i => g κ (bad_3, i)) (fun bad_3 i => h (bad_3, i)) (fun bad_3 i => hg (bad_3, i)) a q_1 k x.1 x.2
theorem r26_Check_L24_eq (r18 : Bool → Int → Option (Int)) (a : Tp1) (q_1 : Int) (k : Int) (bad_3 : Bool) (i : Int) : r26_Check_L24 a q_1 k r18 bad_3 i = r26_Check_L24_B a q_1 k r18 (r26_Check_L24 a q_1 k r18) bad_3 i := LFix_eq (r26_Check_L24_cn r18 a q_1 k) (bad_3, i)
theorem r26_Check_L24_ch (r18 : Nat → Bool → Int → Option (Int)) (r18' : Bool → Int → Option (Int)) (h_r18 : ∀ a0 a1, ChO (fun κ => r18 κ a0 a1) (r18' a0 a1)) (a : Tp1) (q_1 : Int) (k : Int) (bad_3 : Bool) (i : Int) : ChO (fun κ => r26_Check_L24 a q_1 k (r18 κ) bad_3 i) (r26_Check_L24 a q_1 k r18' bad_3 i) := by
  unfold r26_Check_L24
  exact LFix_ch (fun κ => (r26_Check_L24_cn (r18 κ) a q_1 k).mono) (r26_Check_L24_cn r18' a q_1 k).mono (fun g h hg x => r26_Check_L24_B_ch r18 r18' h_r18 (fun κ bad_3 i => g κ (bad_3, i)) (fun bad_3 i => h (bad_3, i)) (fun bad_3 i => hg (bad_3, i)) a q_1 k x.1 x.2) _
theorem r26_Check_L18_B_ch (r15 : Nat → Bool → Int → Option (Int)) (r15' : Bool → Int → Option (Int)) (h_r15 : ∀ a0 a1, ChO (fun κ => r15 κ a0 a1) (r15' a0 a1)) (r18 : Nat → Bool → Int → Option (Int)) (r18' : Bool → Int → Option (Int)) (h_r18 : ∀ a0 a1, ChO (fun κ => r18 κ a0 a1) (r18' a0 a1)) (a : Tp1) (q_1 : Int) (bad_2 : Bool) (k : Int) : ChO (fun κ => r26_Check_L18_B a q_1 (r15 κ) (r18 κ) bad_2 k) (r26_Check_L18_B a q_1 r15' r18' bad_2 k) := by
  unfold r26_Check_L18_B
  repeat' with_reducible first | exact ChO.const _ | exact h_r15 _ _ | exact h_r18 _ _ | (apply r26_Check_L29_ch <;> assumption) | (apply r26_Check_L24_ch <;> assumption) | apply ChO.ite | apply ChO.G | apply ChO.both | (apply ChO.bind; intro _)
theorem r26_Check_L18_cn (r15 : Bool → Int → Option (Int)) (a : Tp1) (q_1 : Int) : Cn (r26_Check_L18_F a q_1 r15) := fun g h hg x => r26_Check_L18_B_ch (fun _ => r15) r15 (fun _ _ => ChO.const _) (fun κ bad_2 k => g κ (bad_2, k)) (fun bad_2 k => h (bad_2, k)) (fun bad_2 k => hg (bad_2, k)) a q_1 x.1 x.2
theorem r26_Check_L18_eq (r15 : Bool → Int → Option (Int)) (a : Tp1) (q_1 : Int) (bad_2 : Bool) (k : Int) : r26_Check_L18 a q_1 r15 bad_2 k = r26_Check_L18_B a q_1 r15 (r26_Check_L18 a q_1 r15) bad_2 k := LFix_eq (r26_Check_L18_cn r15 a q_1) (bad_2, k)
theorem r26_Check_L18_ch (r15 : Nat → Bool → Int → Option (Int)) (r15' : Bool → Int → Option (Int)) (h_r15 : ∀ a0 a1, ChO (fun κ => r15 κ a0 a1) (r15' a0 a1)) (a : Tp1) (q_1 : Int) (bad_2 : Bool) (k : Int) : ChO (fun κ => r26_Check_L18 a q_1 (r15 κ) bad_2 k) (r26_Check_L18 a q_1 r15' bad_2 k) := by
  unfold r26_Check_L18
  exact LFix_ch (fun κ => (r26_Check_L18_cn (r15 κ) a q_1).mono) (r26_Check_L18_cn r15' a q_1).mono (fun g h hg x => r26_Check_L18_B_ch r15 r15' h_r15 (fun κ bad_2 k => g κ (bad_2, k)) (fun bad_2 k => h (bad_2, k)) (fun bad_2 k => hg (bad_2, k)) a q_1 x.1 x.2) _
theorem r26_Check_L15_B_ch (r15 : Nat → Bool → Int → Option (Int)) (r15' : Bool → Int → Option (Int)) (h_r15 : ∀ a0 a1, ChO (fun κ => r15 κ a0 a1) (r15' a0 a1)) (a : Tp1) (bad_1 : Bool) (q_1 : Int) : ChO (fun κ => r26_Check_L15_B a (r15 κ) bad_1 q_1) (r26_Check_L15_B a r15' bad_1 q_1) := by
  unfold r26_Check_L15_B
  repeat' with_reducible first | exact ChO.const _ | exact h_r15 _ _ | (apply r26_Check_L29_ch <;> assumption) | (apply r26_Check_L24_ch <;> assumption) | (apply r26_Check_L18_ch <;> assumption) | apply ChO.ite | apply ChO.G | apply ChO.both | (apply ChO.bind; intro _)
theorem r26_Check_L15_cn  (a : Tp1) : Cn (r26_Check_L15_F a) := fun g h hg x => r26_Check_L15_B_ch  (fun κ bad_1 q_1 => g κ (bad_1, q_1)) (fun bad_1 q_1 => h (bad_1, q_1)) (fun bad_1 q_1 => hg (bad_1, q_1)) a x.1 x.2
theorem r26_Check_L15_eq  (a : Tp1) (bad_1 : Bool) (q_1 : Int) : r26_Check_L15 a bad_1 q_1 = r26_Check_L15_B a (r26_Check_L15 a) bad_1 q_1 := LFix_eq (r26_Check_L15_cn a) (bad_1, q_1)
theorem r26_Check_L9_B_ch (r9 : Nat → Int → Option (Int)) (r9' : Int → Option (Int)) (h_r9 : ∀ a0, ChO (fun κ => r9 κ a0) (r9' a0)) (a : Tp1) (q : Int) : ChO (fun κ => r26_Check_L9_B a (r9 κ) q) (r26_Check_L9_B a r9' q) := by
  unfold r26_Check_L9_B
  repeat' with_reducible first | exact ChO.const _ | exact h_r9 _ | (apply r26_Check_L29_ch <;> assumption) | (apply r26_Check_L24_ch <;> assumption) | (apply r26_Check_L18_ch <;> assumption) | apply ChO.ite | apply ChO.G | apply ChO.both | (apply ChO.bind; intro _)
theorem r26_Check_L9_cn  (a : Tp1) : Cn (r26_Check_L9_F a) := fun g h hg x => r26_Check_L9_B_ch  (fun κ q => g κ q) (fun q => h q) (fun q => hg q) a x
theorem r26_Check_L9_eq  (a : Tp1) (q : Int) : r26_Check_L9 a q = r26_Check_L9_B a (r26_Check_L9 a) q := LFix_eq (r26_Check_L9_cn a) q

noncomputable def r26_Ahead_L11_B (a : Tp1) (set' : Int) (letter : Int) (q : Int) (out_1 : Int) (i : Int) (r7 : (Int → Int → Option (Int))) (r11 : Bool → Int → Option (Int)) (all' : Bool) (j : Int) : Option (Int) :=
  G (0 ≤ i ∧ i < ((ix (ix a.2.2.1 q) letter).length : Int)) (
  if (decide (j < ((ix (ix (ix a.2.2.1 q) letter) i).length : Int))) = true then
  if all' = true then
  G (0 ≤ i ∧ i < ((ix (ix a.2.2.1 q) letter).length : Int)) (
  G (0 ≤ j ∧ j < ((ix (ix (ix a.2.2.1 q) letter) i).length : Int)) (
  G (0 ≤ ix (ix (ix (ix a.2.2.1 q) letter) i) j) (
  G (fits (j + (1 : Int))) (
  r11 (decide ((iand .i64 (ishr .i64 set' (ix (ix (ix (ix a.2.2.1 q) letter) i) j)) (1 : Int)) = (1 : Int))) (j + (1 : Int)))))) else
  G (fits (j + (1 : Int))) (
  r11 false (j + (1 : Int))) else
  if all' = true then
  G (0 ≤ q) (
  G (fits (i + (1 : Int))) (
  r7 (ior .i64 out_1 (ishl .i64 (1 : Int) q)) (i + (1 : Int)))) else
  G (fits (i + (1 : Int))) (
  r7 out_1 (i + (1 : Int))))
noncomputable def r26_Ahead_L11_F (a : Tp1) (set' : Int) (letter : Int) (q : Int) (out_1 : Int) (i : Int) (r7 : (Int → Int → Option (Int))) : (Bool × Int → Option (Int)) → Bool × Int → Option (Int) :=
  fun rec x => r26_Ahead_L11_B a set' letter q out_1 i r7 (fun all' j => rec (all', j)) x.1 x.2
noncomputable def r26_Ahead_L11 (a : Tp1) (set' : Int) (letter : Int) (q : Int) (out_1 : Int) (i : Int) (r7 : (Int → Int → Option (Int))) (all' : Bool) (j : Int) : Option (Int) := LFix (r26_Ahead_L11_F a set' letter q out_1 i r7 ) (all', j)
noncomputable def r26_Ahead_L7_B (a : Tp1) (set' : Int) (letter : Int) (q : Int) (r3 : (Int → Int → Option (Int))) (r7 : Int → Int → Option (Int)) (out_1 : Int) (i : Int) : Option (Int) :=
  if (decide (i < ((ix (ix a.2.2.1 q) letter).length : Int))) = true then
  r26_Ahead_L11 a set' letter q out_1 i r7 true (0 : Int) else
  G (fits (q + (1 : Int))) (
  r3 out_1 (q + (1 : Int)))
noncomputable def r26_Ahead_L7_F (a : Tp1) (set' : Int) (letter : Int) (q : Int) (r3 : (Int → Int → Option (Int))) : (Int × Int → Option (Int)) → Int × Int → Option (Int) :=
  fun rec x => r26_Ahead_L7_B a set' letter q r3 (fun out_1 i => rec (out_1, i)) x.1 x.2
noncomputable def r26_Ahead_L7 (a : Tp1) (set' : Int) (letter : Int) (q : Int) (r3 : (Int → Int → Option (Int))) (out_1 : Int) (i : Int) : Option (Int) := LFix (r26_Ahead_L7_F a set' letter q r3 ) (out_1, i)
noncomputable def r26_Ahead_L3_B (a : Tp1) (set' : Int) (letter : Int) (r3 : Int → Int → Option (Int)) (out : Int) (q : Int) : Option (Int) :=
  if (decide (q < (a.2.2.1.length : Int))) = true then
  G (0 ≤ q ∧ q < (a.2.2.1.length : Int)) (
  G (0 ≤ letter ∧ letter < ((ix a.2.2.1 q).length : Int)) (
  r26_Ahead_L7 a set' letter q r3 out (0 : Int))) else
  some out
noncomputable def r26_Ahead_L3_F (a : Tp1) (set' : Int) (letter : Int) : (Int × Int → Option (Int)) → Int × Int → Option (Int) :=
  fun rec x => r26_Ahead_L3_B a set' letter (fun out q => rec (out, q)) x.1 x.2
noncomputable def r26_Ahead_L3 (a : Tp1) (set' : Int) (letter : Int) (out : Int) (q : Int) : Option (Int) := LFix (r26_Ahead_L3_F a set' letter ) (out, q)
noncomputable def r26_Ahead (a : Tp1) (set' : Int) (letter : Int) : Option (Int) :=
  r26_Ahead_L3 a set' letter (0 : Int) (0 : Int)
theorem r26_Ahead_L11_B_ch (r7 : Nat → Int → Int → Option (Int)) (r7' : Int → Int → Option (Int)) (h_r7 : ∀ a0 a1, ChO (fun κ => r7 κ a0 a1) (r7' a0 a1)) (r11 : Nat → Bool → Int → Option (Int)) (r11' : Bool → Int → Option (Int)) (h_r11 : ∀ a0 a1, ChO (fun κ => r11 κ a0 a1) (r11' a0 a1)) (a : Tp1) (set' : Int) (letter : Int) (q : Int) (out_1 : Int) (i : Int) (all' : Bool) (j : Int) : ChO (fun κ => r26_Ahead_L11_B a set' letter q out_1 i (r7 κ) (r11 κ) all' j) (r26_Ahead_L11_B a set' letter q out_1 i r7' r11' all' j) := by
  unfold r26_Ahead_L11_B
  repeat' with_reducible first | exact ChO.const _ | exact h_r7 _ _ | exact h_r11 _ _ | apply ChO.ite | apply ChO.G | apply ChO.both | (apply ChO.bind; intro _)
theorem r26_Ahead_L11_cn (r7 : Int → Int → Option (Int)) (a : Tp1) (set' : Int) (letter : Int) (q : Int) (out_1 : Int) (i : Int) : Cn (r26_Ahead_L11_F a set' letter q out_1 i r7) := fun g h hg x => r26_Ahead_L11_B_ch (fun _ => r7) r7 (fun _ _ => ChO.const _) (fun κ all' j => g κ (all', j)) (fun all' j => h (all', j)) (fun all' j => hg (all', j)) a set' letter q out_1 i x.1 x.2
theorem r26_Ahead_L11_eq (r7 : Int → Int → Option (Int)) (a : Tp1) (set' : Int) (letter : Int) (q : Int) (out_1 : Int) (i : Int) (all' : Bool) (j : Int) : r26_Ahead_L11 a set' letter q out_1 i r7 all' j = r26_Ahead_L11_B a set' letter q out_1 i r7 (r26_Ahead_L11 a set' letter q out_1 i r7) all' j := LFix_eq (r26_Ahead_L11_cn r7 a set' letter q out_1 i) (all', j)
theorem r26_Ahead_L11_ch (r7 : Nat → Int → Int → Option (Int)) (r7' : Int → Int → Option (Int)) (h_r7 : ∀ a0 a1, ChO (fun κ => r7 κ a0 a1) (r7' a0 a1)) (a : Tp1) (set' : Int) (letter : Int) (q : Int) (out_1 : Int) (i : Int) (all' : Bool) (j : Int) : ChO (fun κ => r26_Ahead_L11 a set' letter q out_1 i (r7 κ) all' j) (r26_Ahead_L11 a set' letter q out_1 i r7' all' j) := by
  unfold r26_Ahead_L11
  exact LFix_ch (fun κ => (r26_Ahead_L11_cn (r7 κ) a set' letter q out_1 i).mono) (r26_Ahead_L11_cn r7' a set' letter q out_1 i).mono (fun g h hg x => r26_Ahead_L11_B_ch r7 r7' h_r7 (fun κ all' j => g κ (all', j)) (fun all' j => h (all', j)) (fun all' j => hg (all', j)) a set' letter q out_1 i x.1 x.2) _
theorem r26_Ahead_L7_B_ch (r3 : Nat → Int → Int → Option (Int)) (r3' : Int → Int → Option (Int)) (h_r3 : ∀ a0 a1, ChO (fun κ => r3 κ a0 a1) (r3' a0 a1)) (r7 : Nat → Int → Int → Option (Int)) (r7' : Int → Int → Option (Int)) (h_r7 : ∀ a0 a1, ChO (fun κ => r7 κ a0 a1) (r7' a0 a1)) (a : Tp1) (set' : Int) (letter : Int) (q : Int) (out_1 : Int) (i : Int) : ChO (fun κ => r26_Ahead_L7_B a set' letter q (r3 κ) (r7 κ) out_1 i) (r26_Ahead_L7_B a set' letter q r3' r7' out_1 i) := by
  unfold r26_Ahead_L7_B
  repeat' with_reducible first | exact ChO.const _ | exact h_r3 _ _ | exact h_r7 _ _ | (apply r26_Ahead_L11_ch <;> assumption) | apply ChO.ite | apply ChO.G | apply ChO.both | (apply ChO.bind; intro _)
theorem r26_Ahead_L7_cn (r3 : Int → Int → Option (Int)) (a : Tp1) (set' : Int) (letter : Int) (q : Int) : Cn (r26_Ahead_L7_F a set' letter q r3) := fun g h hg x => r26_Ahead_L7_B_ch (fun _ => r3) r3 (fun _ _ => ChO.const _) (fun κ out_1 i => g κ (out_1, i)) (fun out_1 i => h (out_1, i)) (fun out_1 i => hg (out_1, i)) a set' letter q x.1 x.2
theorem r26_Ahead_L7_eq (r3 : Int → Int → Option (Int)) (a : Tp1) (set' : Int) (letter : Int) (q : Int) (out_1 : Int) (i : Int) : r26_Ahead_L7 a set' letter q r3 out_1 i = r26_Ahead_L7_B a set' letter q r3 (r26_Ahead_L7 a set' letter q r3) out_1 i := LFix_eq (r26_Ahead_L7_cn r3 a set' letter q) (out_1, i)
theorem r26_Ahead_L7_ch (r3 : Nat → Int → Int → Option (Int)) (r3' : Int → Int → Option (Int)) (h_r3 : ∀ a0 a1, ChO (fun κ => r3 κ a0 a1) (r3' a0 a1)) (a : Tp1) (set' : Int) (letter : Int) (q : Int) (out_1 : Int) (i : Int) : ChO (fun κ => r26_Ahead_L7 a set' letter q (r3 κ) out_1 i) (r26_Ahead_L7 a set' letter q r3' out_1 i) := by
  unfold r26_Ahead_L7
  exact LFix_ch (fun κ => (r26_Ahead_L7_cn (r3 κ) a set' letter q).mono) (r26_Ahead_L7_cn r3' a set' letter q).mono (fun g h hg x => r26_Ahead_L7_B_ch r3 r3' h_r3 (fun κ out_1 i => g κ (out_1, i)) (fun out_1 i => h (out_1, i)) (fun out_1 i => hg (out_1, i)) a set' letter q x.1 x.2) _
theorem r26_Ahead_L3_B_ch (r3 : Nat → Int → Int → Option (Int)) (r3' : Int → Int → Option (Int)) (h_r3 : ∀ a0 a1, ChO (fun κ => r3 κ a0 a1) (r3' a0 a1)) (a : Tp1) (set' : Int) (letter : Int) (out : Int) (q : Int) : ChO (fun κ => r26_Ahead_L3_B a set' letter (r3 κ) out q) (r26_Ahead_L3_B a set' letter r3' out q) := by
  unfold r26_Ahead_L3_B
  repeat' with_reducible first | exact ChO.const _ | exact h_r3 _ _ | (apply r26_Ahead_L11_ch <;> assumption) | (apply r26_Ahead_L7_ch <;> assumption) | apply ChO.ite | apply ChO.G | apply ChO.both | (apply ChO.bind; intro _)
theorem r26_Ahead_L3_cn  (a : Tp1) (set' : Int) (letter : Int) : Cn (r26_Ahead_L3_F a set' letter) := fun g h hg x => r26_Ahead_L3_B_ch  (fun κ out q => g κ (out, q)) (fun out q => h (out, q)) (fun out q => hg (out, q)) a set' letter x.1 x.2
theorem r26_Ahead_L3_eq  (a : Tp1) (set' : Int) (letter : Int) (out : Int) (q : Int) : r26_Ahead_L3 a set' letter out q = r26_Ahead_L3_B a set' letter (r26_Ahead_L3 a set' letter) out q := LFix_eq (r26_Ahead_L3_cn a set' letter) (out, q)

noncomputable def r3_Classes_J21 (q : Int) (next' : (List Int)) (r7 : (Int → Int → (List Int) → (List Int) → Option (List Int))) (k_1 : Int) (n_1 : Int) (first_1 : (List Int)) : Option (List Int) :=
  G (0 ≤ q ∧ q < (next'.length : Int)) (
  G ((q).toNat < next'.length) (
  G (fits (q + (1 : Int))) (
  r7 n_1 (q + (1 : Int)) (next'.set (q).toNat k_1) first_1)))
noncomputable def r3_Classes_J18 (n : Int) (q : Int) (next' : (List Int)) (first : (List Int)) (r7 : (Int → Int → (List Int) → (List Int) → Option (List Int))) (k_1 : Int) : Option (List Int) :=
  if (decide (k_1 = n)) = true then
  G (room first ([q]) 8) (
  G (fits (n + (1 : Int))) (
  r3_Classes_J21 q next' r7 k_1 (n + (1 : Int)) (first ++ ([q])))) else
  r3_Classes_J21 q next' r7 k_1 n first
noncomputable def r3_Classes_J15 (n : Int) (q : Int) (next' : (List Int)) (first : (List Int)) (r7 : (Int → Int → (List Int) → (List Int) → Option (List Int))) (k : Int) (r10 : (Int → Option (List Int))) (same_1 : Bool) : Option (List Int) :=
  if same_1 = true then
  r3_Classes_J18 n q next' first r7 k else
  G (fits (k + (1 : Int))) (
  r10 (k + (1 : Int)))
noncomputable def r3_Classes_L14_B (d : Tp4) (class' : (List Int)) (n : Int) (q : Int) (next' : (List Int)) (first : (List Int)) (r7 : (Int → Int → (List Int) → (List Int) → Option (List Int))) (k : Int) (r10 : (Int → Option (List Int))) (r14 : Bool → Int → Option (List Int)) (same : Bool) (a : Int) : Option (List Int) :=
  if (decide (a < d.1)) = true then
  if same = true then
  G (0 ≤ ix first k ∧ ix first k < (d.2.2.1.length : Int)) (
  G (0 ≤ a ∧ a < ((ix d.2.2.1 (ix first k)).length : Int)) (
  G (0 ≤ ix (ix d.2.2.1 (ix first k)) a ∧ ix (ix d.2.2.1 (ix first k)) a < (class'.length : Int)) (
  G ((ix (ix d.2.2.1 (ix first k)) a).toNat < class'.length) (
  G (0 ≤ q ∧ q < (d.2.2.1.length : Int)) (
  G (0 ≤ a ∧ a < ((ix d.2.2.1 q).length : Int)) (
  G (0 ≤ ix (ix d.2.2.1 q) a ∧ ix (ix d.2.2.1 q) a < (class'.length : Int)) (
  G ((ix (ix d.2.2.1 q) a).toNat < class'.length) (
  G (fits (a + (1 : Int))) (
  r14 (decide ((ix class' (ix (ix d.2.2.1 (ix first k)) a)) = (ix class' (ix (ix d.2.2.1 q) a)))) (a + (1 : Int))))))))))) else
  r3_Classes_J15 n q next' first r7 k r10 same else
  r3_Classes_J15 n q next' first r7 k r10 same
noncomputable def r3_Classes_L14_F (d : Tp4) (class' : (List Int)) (n : Int) (q : Int) (next' : (List Int)) (first : (List Int)) (r7 : (Int → Int → (List Int) → (List Int) → Option (List Int))) (k : Int) (r10 : (Int → Option (List Int))) : (Bool × Int → Option (List Int)) → Bool × Int → Option (List Int) :=
  fun rec x => r3_Classes_L14_B d class' n q next' first r7 k r10 (fun same a => rec (same, a)) x.1 x.2
noncomputable def r3_Classes_L14 (d : Tp4) (class' : (List Int)) (n : Int) (q : Int) (next' : (List Int)) (first : (List Int)) (r7 : (Int → Int → (List Int) → (List Int) → Option (List Int))) (k : Int) (r10 : (Int → Option (List Int))) (same : Bool) (a : Int) : Option (List Int) := LFix (r3_Classes_L14_F d class' n q next' first r7 k r10 ) (same, a)
noncomputable def r3_Classes_L10_B (d : Tp4) (class' : (List Int)) (n : Int) (q : Int) (next' : (List Int)) (first : (List Int)) (r7 : (Int → Int → (List Int) → (List Int) → Option (List Int))) (r10 : Int → Option (List Int)) (k : Int) : Option (List Int) :=
  if (decide (k < n)) = true then
  G (0 ≤ k ∧ k < (first.length : Int)) (
  G ((k).toNat < first.length) (
  G (0 ≤ ix first k ∧ ix first k < (class'.length : Int)) (
  G ((ix first k).toNat < class'.length) (
  G (0 ≤ q ∧ q < (class'.length : Int)) (
  G ((q).toNat < class'.length) (
  r3_Classes_L14 d class' n q next' first r7 k r10 (decide ((ix class' (ix first k)) = (ix class' q))) (0 : Int))))))) else
  r3_Classes_J18 n q next' first r7 k
noncomputable def r3_Classes_L10_F (d : Tp4) (class' : (List Int)) (n : Int) (q : Int) (next' : (List Int)) (first : (List Int)) (r7 : (Int → Int → (List Int) → (List Int) → Option (List Int))) : (Int → Option (List Int)) → Int → Option (List Int) :=
  fun rec x => r3_Classes_L10_B d class' n q next' first r7 (fun k => rec k) x
noncomputable def r3_Classes_L10 (d : Tp4) (class' : (List Int)) (n : Int) (q : Int) (next' : (List Int)) (first : (List Int)) (r7 : (Int → Int → (List Int) → (List Int) → Option (List Int))) (k : Int) : Option (List Int) := LFix (r3_Classes_L10_F d class' n q next' first r7 ) k
noncomputable def r3_Classes_L7_B (d : Tp4) (count : Int) (class' : (List Int)) (r3 : (Int → (List Int) → Option (List Int))) (r7 : Int → Int → (List Int) → (List Int) → Option (List Int)) (n : Int) (q : Int) (next' : (List Int)) (first : (List Int)) : Option (List Int) :=
  if (decide (q < (class'.length : Int))) = true then
  r3_Classes_L10 d class' n q next' first r7 (0 : Int) else
  if (decide (n = count)) = true then
  some next' else
  r3 n next'
noncomputable def r3_Classes_L7_F (d : Tp4) (count : Int) (class' : (List Int)) (r3 : (Int → (List Int) → Option (List Int))) : (Int × Int × (List Int) × (List Int) → Option (List Int)) → Int × Int × (List Int) × (List Int) → Option (List Int) :=
  fun rec x => r3_Classes_L7_B d count class' r3 (fun n q next' first => rec (n, q, next', first)) x.1 x.2.1 x.2.2.1 x.2.2.2
noncomputable def r3_Classes_L7 (d : Tp4) (count : Int) (class' : (List Int)) (r3 : (Int → (List Int) → Option (List Int))) (n : Int) (q : Int) (next' : (List Int)) (first : (List Int)) : Option (List Int) := LFix (r3_Classes_L7_F d count class' r3 ) (n, q, next', first)
noncomputable def r3_Classes_L3_B (d : Tp4) (r3 : Int → (List Int) → Option (List Int)) (count : Int) (class' : (List Int)) : Option (List Int) :=
  G (mkOK (class'.length : Int) (class'.length : Int) 8) (
  r3_Classes_L7 d count class' r3 (0 : Int) (0 : Int) (List.replicate ((class'.length : Int)).toNat (0 : Int)) ([]))
noncomputable def r3_Classes_L3_F (d : Tp4) : (Int × (List Int) → Option (List Int)) → Int × (List Int) → Option (List Int) :=
  fun rec x => r3_Classes_L3_B d (fun count class' => rec (count, class')) x.1 x.2
noncomputable def r3_Classes_L3 (d : Tp4) (count : Int) (class' : (List Int)) : Option (List Int) := LFix (r3_Classes_L3_F d ) (count, class')
noncomputable def r3_Classes (d : Tp4) : Option (List Int) :=
  G (room ([] : List Int) d.2.2.2.1 8) (
  r3_Classes_L3 d (0 : Int) (([] : List Int) ++ d.2.2.2.1))
theorem r3_Classes_J21_ch (r7 : Nat → Int → Int → (List Int) → (List Int) → Option (List Int)) (r7' : Int → Int → (List Int) → (List Int) → Option (List Int)) (h_r7 : ∀ a0 a1 a2 a3, ChO (fun κ => r7 κ a0 a1 a2 a3) (r7' a0 a1 a2 a3)) (q : Int) (next' : (List Int)) (k_1 : Int) (n_1 : Int) (first_1 : (List Int)) : ChO (fun κ => r3_Classes_J21 q next' (r7 κ) k_1 n_1 first_1) (r3_Classes_J21 q next' r7' k_1 n_1 first_1) := by
  unfold r3_Classes_J21
  repeat' with_reducible first | exact ChO.const _ | exact h_r7 _ _ _ _ | apply ChO.ite | apply ChO.G | apply ChO.both | (apply ChO.bind; intro _)
theorem r3_Classes_J18_ch (r7 : Nat → Int → Int → (List Int) → (List Int) → Option (List Int)) (r7' : Int → Int → (List Int) → (List Int) → Option (List Int)) (h_r7 : ∀ a0 a1 a2 a3, ChO (fun κ => r7 κ a0 a1 a2 a3) (r7' a0 a1 a2 a3)) (n : Int) (q : Int) (next' : (List Int)) (first : (List Int)) (k_1 : Int) : ChO (fun κ => r3_Classes_J18 n q next' first (r7 κ) k_1) (r3_Classes_J18 n q next' first r7' k_1) := by
  unfold r3_Classes_J18
  repeat' with_reducible first | exact ChO.const _ | exact h_r7 _ _ _ _ | (apply r3_Classes_J21_ch <;> assumption) | apply ChO.ite | apply ChO.G | apply ChO.both | (apply ChO.bind; intro _)
theorem r3_Classes_J15_ch (r7 : Nat → Int → Int → (List Int) → (List Int) → Option (List Int)) (r7' : Int → Int → (List Int) → (List Int) → Option (List Int)) (h_r7 : ∀ a0 a1 a2 a3, ChO (fun κ => r7 κ a0 a1 a2 a3) (r7' a0 a1 a2 a3)) (r10 : Nat → Int → Option (List Int)) (r10' : Int → Option (List Int)) (h_r10 : ∀ a0, ChO (fun κ => r10 κ a0) (r10' a0)) (n : Int) (q : Int) (next' : (List Int)) (first : (List Int)) (k : Int) (same_1 : Bool) : ChO (fun κ => r3_Classes_J15 n q next' first (r7 κ) k (r10 κ) same_1) (r3_Classes_J15 n q next' first r7' k r10' same_1) := by
  unfold r3_Classes_J15
  repeat' with_reducible first | exact ChO.const _ | exact h_r7 _ _ _ _ | exact h_r10 _ | (apply r3_Classes_J21_ch <;> assumption) | (apply r3_Classes_J18_ch <;> assumption) | apply ChO.ite | apply ChO.G | apply ChO.both | (apply ChO.bind; intro _)
theorem r3_Classes_L14_B_ch (r7 : Nat → Int → Int → (List Int) → (List Int) → Option (List Int)) (r7' : Int → Int → (List Int) → (List Int) → Option (List Int)) (h_r7 : ∀ a0 a1 a2 a3, ChO (fun κ => r7 κ a0 a1 a2 a3) (r7' a0 a1 a2 a3)) (r10 : Nat → Int → Option (List Int)) (r10' : Int → Option (List Int)) (h_r10 : ∀ a0, ChO (fun κ => r10 κ a0) (r10' a0)) (r14 : Nat → Bool → Int → Option (List Int)) (r14' : Bool → Int → Option (List Int)) (h_r14 : ∀ a0 a1, ChO (fun κ => r14 κ a0 a1) (r14' a0 a1)) (d : Tp4) (class' : (List Int)) (n : Int) (q : Int) (next' : (List Int)) (first : (List Int)) (k : Int) (same : Bool) (a : Int) : ChO (fun κ => r3_Classes_L14_B d class' n q next' first (r7 κ) k (r10 κ) (r14 κ) same a) (r3_Classes_L14_B d class' n q next' first r7' k r10' r14' same a) := by
  unfold r3_Classes_L14_B
  repeat' with_reducible first | exact ChO.const _ | exact h_r7 _ _ _ _ | exact h_r10 _ | exact h_r14 _ _ | (apply r3_Classes_J21_ch <;> assumption) | (apply r3_Classes_J18_ch <;> assumption) | (apply r3_Classes_J15_ch <;> assumption) | apply ChO.ite | apply ChO.G | apply ChO.both | (apply ChO.bind; intro _)
theorem r3_Classes_L14_cn (r7 : Int → Int → (List Int) → (List Int) → Option (List Int)) (r10 : Int → Option (List Int)) (d : Tp4) (class' : (List Int)) (n : Int) (q : Int) (next' : (List Int)) (first : (List Int)) (k : Int) : Cn (r3_Classes_L14_F d class' n q next' first r7 k r10) := fun g h hg x => r3_Classes_L14_B_ch (fun _ => r7) r7 (fun _ _ _ _ => ChO.const _) (fun _ => r10) r10 (fun _ => ChO.const _) (fun κ same a => g κ (same, a)) (fun same a => h (same, a)) (fun same a => hg (same, a)) d class' n q next' first k x.1 x.2
theorem r3_Classes_L14_eq (r7 : Int → Int → (List Int) → (List Int) → Option (List Int)) (r10 : Int → Option (List Int)) (d : Tp4) (class' : (List Int)) (n : Int) (q : Int) (next' : (List Int)) (first : (List Int)) (k : Int) (same : Bool) (a : Int) : r3_Classes_L14 d class' n q next' first r7 k r10 same a = r3_Classes_L14_B d class' n q next' first r7 k r10 (r3_Classes_L14 d class' n q next' first r7 k r10) same a := LFix_eq (r3_Classes_L14_cn r7 r10 d class' n q next' first k) (same, a)
theorem r3_Classes_L14_ch (r7 : Nat → Int → Int → (List Int) → (List Int) → Option (List Int)) (r7' : Int → Int → (List Int) → (List Int) → Option (List Int)) (h_r7 : ∀ a0 a1 a2 a3, ChO (fun κ => r7 κ a0 a1 a2 a3) (r7' a0 a1 a2 a3)) (r10 : Nat → Int → Option (List Int)) (r10' : Int → Option (List Int)) (h_r10 : ∀ a0, ChO (fun κ => r10 κ a0) (r10' a0)) (d : Tp4) (class' : (List Int)) (n : Int) (q : Int) (next' : (List Int)) (first : (List Int)) (k : Int) (same : Bool) (a : Int) : ChO (fun κ => r3_Classes_L14 d class' n q next' first (r7 κ) k (r10 κ) same a) (r3_Classes_L14 d class' n q next' first r7' k r10' same a) := by
  unfold r3_Classes_L14
  exact LFix_ch (fun κ => (r3_Classes_L14_cn (r7 κ) (r10 κ) d class' n q next' first k).mono) (r3_Classes_L14_cn r7' r10' d class' n q next' first k).mono (fun g h hg x => r3_Classes_L14_B_ch r7 r7' h_r7 r10 r10' h_r10 (fun κ same a => g κ (same, a)) (fun same a => h (same, a)) (fun same a => hg (same, a)) d class' n q next' first k x.1 x.2) _
theorem r3_Classes_L10_B_ch (r7 : Nat → Int → Int → (List Int) → (List Int) → Option (List Int)) (r7' : Int → Int → (List Int) → (List Int) → Option (List Int)) (h_r7 : ∀ a0 a1 a2 a3, ChO (fun κ => r7 κ a0 a1 a2 a3) (r7' a0 a1 a2 a3)) (r10 : Nat → Int → Option (List Int)) (r10' : Int → Option (List Int)) (h_r10 : ∀ a0, ChO (fun κ => r10 κ a0) (r10' a0)) (d : Tp4) (class' : (List Int)) (n : Int) (q : Int) (next' : (List Int)) (first : (List Int)) (k : Int) : ChO (fun κ => r3_Classes_L10_B d class' n q next' first (r7 κ) (r10 κ) k) (r3_Classes_L10_B d class' n q next' first r7' r10' k) := by
  unfold r3_Classes_L10_B
  repeat' with_reducible first | exact ChO.const _ | exact h_r7 _ _ _ _ | exact h_r10 _ | (apply r3_Classes_J21_ch <;> assumption) | (apply r3_Classes_J18_ch <;> assumption) | (apply r3_Classes_J15_ch <;> assumption) | (apply r3_Classes_L14_ch <;> assumption) | apply ChO.ite | apply ChO.G | apply ChO.both | (apply ChO.bind; intro _)
theorem r3_Classes_L10_cn (r7 : Int → Int → (List Int) → (List Int) → Option (List Int)) (d : Tp4) (class' : (List Int)) (n : Int) (q : Int) (next' : (List Int)) (first : (List Int)) : Cn (r3_Classes_L10_F d class' n q next' first r7) := fun g h hg x => r3_Classes_L10_B_ch (fun _ => r7) r7 (fun _ _ _ _ => ChO.const _) (fun κ k => g κ k) (fun k => h k) (fun k => hg k) d class' n q next' first x
theorem r3_Classes_L10_eq (r7 : Int → Int → (List Int) → (List Int) → Option (List Int)) (d : Tp4) (class' : (List Int)) (n : Int) (q : Int) (next' : (List Int)) (first : (List Int)) (k : Int) : r3_Classes_L10 d class' n q next' first r7 k = r3_Classes_L10_B d class' n q next' first r7 (r3_Classes_L10 d class' n q next' first r7) k := LFix_eq (r3_Classes_L10_cn r7 d class' n q next' first) k
theorem r3_Classes_L10_ch (r7 : Nat → Int → Int → (List Int) → (List Int) → Option (List Int)) (r7' : Int → Int → (List Int) → (List Int) → Option (List Int)) (h_r7 : ∀ a0 a1 a2 a3, ChO (fun κ => r7 κ a0 a1 a2 a3) (r7' a0 a1 a2 a3)) (d : Tp4) (class' : (List Int)) (n : Int) (q : Int) (next' : (List Int)) (first : (List Int)) (k : Int) : ChO (fun κ => r3_Classes_L10 d class' n q next' first (r7 κ) k) (r3_Classes_L10 d class' n q next' first r7' k) := by
  unfold r3_Classes_L10
  exact LFix_ch (fun κ => (r3_Classes_L10_cn (r7 κ) d class' n q next' first).mono) (r3_Classes_L10_cn r7' d class' n q next' first).mono (fun g h hg x => r3_Classes_L10_B_ch r7 r7' h_r7 (fun κ k => g κ k) (fun k => h k) (fun k => hg k) d class' n q next' first x) _
theorem r3_Classes_L7_B_ch (r3 : Nat → Int → (List Int) → Option (List Int)) (r3' : Int → (List Int) → Option (List Int)) (h_r3 : ∀ a0 a1, ChO (fun κ => r3 κ a0 a1) (r3' a0 a1)) (r7 : Nat → Int → Int → (List Int) → (List Int) → Option (List Int)) (r7' : Int → Int → (List Int) → (List Int) → Option (List Int)) (h_r7 : ∀ a0 a1 a2 a3, ChO (fun κ => r7 κ a0 a1 a2 a3) (r7' a0 a1 a2 a3)) (d : Tp4) (count : Int) (class' : (List Int)) (n : Int) (q : Int) (next' : (List Int)) (first : (List Int)) : ChO (fun κ => r3_Classes_L7_B d count class' (r3 κ) (r7 κ) n q next' first) (r3_Classes_L7_B d count class' r3' r7' n q next' first) := by
  unfold r3_Classes_L7_B
  repeat' with_reducible first | exact ChO.const _ | exact h_r3 _ _ | exact h_r7 _ _ _ _ | (apply r3_Classes_J21_ch <;> assumption) | (apply r3_Classes_J18_ch <;> assumption) | (apply r3_Classes_J15_ch <;> assumption) | (apply r3_Classes_L14_ch <;> assumption) | (apply r3_Classes_L10_ch <;> assumption) | apply ChO.ite | apply ChO.G | apply ChO.both | (apply ChO.bind; intro _)
theorem r3_Classes_L7_cn (r3 : Int → (List Int) → Option (List Int)) (d : Tp4) (count : Int) (class' : (List Int)) : Cn (r3_Classes_L7_F d count class' r3) := fun g h hg x => r3_Classes_L7_B_ch (fun _ => r3) r3 (fun _ _ => ChO.const _) (fun κ n q next' first => g κ (n, q, next', first)) (fun n q next' first => h (n, q, next', first)) (fun n q next' first => hg (n, q, next', first)) d count class' x.1 x.2.1 x.2.2.1 x.2.2.2
theorem r3_Classes_L7_eq (r3 : Int → (List Int) → Option (List Int)) (d : Tp4) (count : Int) (class' : (List Int)) (n : Int) (q : Int) (next' : (List Int)) (first : (List Int)) : r3_Classes_L7 d count class' r3 n q next' first = r3_Classes_L7_B d count class' r3 (r3_Classes_L7 d count class' r3) n q next' first := LFix_eq (r3_Classes_L7_cn r3 d count class') (n, q, next', first)
theorem r3_Classes_L7_ch (r3 : Nat → Int → (List Int) → Option (List Int)) (r3' : Int → (List Int) → Option (List Int)) (h_r3 : ∀ a0 a1, ChO (fun κ => r3 κ a0 a1) (r3' a0 a1)) (d : Tp4) (count : Int) (class' : (List Int)) (n : Int) (q : Int) (next' : (List Int)) (first : (List Int)) : ChO (fun κ => r3_Classes_L7 d count class' (r3 κ) n q next' first) (r3_Classes_L7 d count class' r3' n q next' first) := by
  unfold r3_Classes_L7
  exact LFix_ch (fun κ => (r3_Classes_L7_cn (r3 κ) d count class').mono) (r3_Classes_L7_cn r3' d count class').mono (fun g h hg x => r3_Classes_L7_B_ch r3 r3' h_r3 (fun κ n q next' first => g κ (n, q, next', first)) (fun n q next' first => h (n, q, next', first)) (fun n q next' first => hg (n, q, next', first)) d count class' x.1 x.2.1 x.2.2.1 x.2.2.2) _
theorem r3_Classes_L3_B_ch (r3 : Nat → Int → (List Int) → Option (List Int)) (r3' : Int → (List Int) → Option (List Int)) (h_r3 : ∀ a0 a1, ChO (fun κ => r3 κ a0 a1) (r3' a0 a1)) (d : Tp4) (count : Int) (class' : (List Int)) : ChO (fun κ => r3_Classes_L3_B d (r3 κ) count class') (r3_Classes_L3_B d r3' count class') := by
  unfold r3_Classes_L3_B
  repeat' with_reducible first | exact ChO.const _ | exact h_r3 _ _ | (apply r3_Classes_J21_ch <;> assumption) | (apply r3_Classes_J18_ch <;> assumption) | (apply r3_Classes_J15_ch <;> assumption) | (apply r3_Classes_L14_ch <;> assumption) | (apply r3_Classes_L10_ch <;> assumption) | (apply r3_Classes_L7_ch <;> assumption) | apply ChO.ite | apply ChO.G | apply ChO.both | (apply ChO.bind; intro _)
theorem r3_Classes_L3_cn  (d : Tp4) : Cn (r3_Classes_L3_F d) := fun g h hg x => r3_Classes_L3_B_ch  (fun κ count class' => g κ (count, class')) (fun count class' => h (count, class')) (fun count class' => hg (count, class')) d x.1 x.2
theorem r3_Classes_L3_eq  (d : Tp4) (count : Int) (class' : (List Int)) : r3_Classes_L3 d count class' = r3_Classes_L3_B d (r3_Classes_L3 d) count class' := LFix_eq (r3_Classes_L3_cn d) (count, class')

noncomputable def r3_Least_J20 (d : Tp4) (y' : (List Int)) (i_1 : Int) (a : Int) (row_1 : (List Int)) (next' : (List Int)) (r15 : (Int → (List Int) → (List Int) → (List Int) → Option Tp4)) (number_3 : (List Int)) (row_2 : (List Int)) : Option Tp4 :=
  G (0 ≤ ix (ix d.2.2.1 (ix row_1 i_1)) a ∧ ix (ix d.2.2.1 (ix row_1 i_1)) a < (y'.length : Int)) (
  G ((ix (ix d.2.2.1 (ix row_1 i_1)) a).toNat < y'.length) (
  G (0 ≤ ix y' (ix (ix d.2.2.1 (ix row_1 i_1)) a) ∧ ix y' (ix (ix d.2.2.1 (ix row_1 i_1)) a) < (number_3.length : Int)) (
  G ((ix y' (ix (ix d.2.2.1 (ix row_1 i_1)) a)).toNat < number_3.length) (
  G (0 ≤ a ∧ a < (next'.length : Int)) (
  G ((a).toNat < next'.length) (
  G (fits (a + (1 : Int))) (
  r15 (a + (1 : Int)) number_3 row_2 (next'.set (a).toNat (ix number_3 (ix y' (ix (ix d.2.2.1 (ix row_1 i_1)) a)))))))))))
noncomputable def r3_Least_L15_B (d : Tp4) (y' : (List Int)) (i_1 : Int) (out : Int) (out_1 : Int) (out_2 : (List (List Int))) (out_3 : (List Int)) (r11 : (Int → (List Int) → (List Int) → Int → Int → (List (List Int)) → (List Int) → Option Tp4)) (r15 : Int → (List Int) → (List Int) → (List Int) → Option Tp4) (a : Int) (number_2 : (List Int)) (row_1 : (List Int)) (next' : (List Int)) : Option Tp4 :=
  if (decide (a < d.1)) = true then
  G (0 ≤ i_1 ∧ i_1 < (row_1.length : Int)) (
  G ((i_1).toNat < row_1.length) (
  G (0 ≤ ix row_1 i_1 ∧ ix row_1 i_1 < (d.2.2.1.length : Int)) (
  G (0 ≤ a ∧ a < ((ix d.2.2.1 (ix row_1 i_1)).length : Int)) (
  G (0 ≤ ix (ix d.2.2.1 (ix row_1 i_1)) a ∧ ix (ix d.2.2.1 (ix row_1 i_1)) a < (y'.length : Int)) (
  G ((ix (ix d.2.2.1 (ix row_1 i_1)) a).toNat < y'.length) (
  G (0 ≤ ix y' (ix (ix d.2.2.1 (ix row_1 i_1)) a) ∧ ix y' (ix (ix d.2.2.1 (ix row_1 i_1)) a) < (number_2.length : Int)) (
  G ((ix y' (ix (ix d.2.2.1 (ix row_1 i_1)) a)).toNat < number_2.length) (
  if (decide ((ix number_2 (ix y' (ix (ix d.2.2.1 (ix row_1 i_1)) a))) < (0 : Int))) = true then
  G (0 ≤ ix (ix d.2.2.1 (ix row_1 i_1)) a ∧ ix (ix d.2.2.1 (ix row_1 i_1)) a < (y'.length : Int)) (
  G ((ix (ix d.2.2.1 (ix row_1 i_1)) a).toNat < y'.length) (
  G (0 ≤ ix y' (ix (ix d.2.2.1 (ix row_1 i_1)) a) ∧ ix y' (ix (ix d.2.2.1 (ix row_1 i_1)) a) < (number_2.length : Int)) (
  G ((ix y' (ix (ix d.2.2.1 (ix row_1 i_1)) a)).toNat < number_2.length) (
  G (room row_1 ([ix (ix d.2.2.1 (ix row_1 i_1)) a]) 8) (
  r3_Least_J20 d y' i_1 a row_1 next' r15 (number_2.set (ix y' (ix (ix d.2.2.1 (ix row_1 i_1)) a)).toNat (row_1.length : Int)) (row_1 ++ ([ix (ix d.2.2.1 (ix row_1 i_1)) a]))))))) else
  r3_Least_J20 d y' i_1 a row_1 next' r15 number_2 row_1)))))))) else
  G (room out_2 ([next']) 24) (
  G (0 ≤ i_1 ∧ i_1 < (row_1.length : Int)) (
  G ((i_1).toNat < row_1.length) (
  G (0 ≤ ix row_1 i_1 ∧ ix row_1 i_1 < (d.2.2.2.1.length : Int)) (
  G (room out_3 ([ix d.2.2.2.1 (ix row_1 i_1)]) 8) (
  G (fits (i_1 + (1 : Int))) (
  r11 (i_1 + (1 : Int)) number_2 row_1 out out_1 (out_2 ++ ([next'])) (out_3 ++ ([ix d.2.2.2.1 (ix row_1 i_1)]))))))))
noncomputable def r3_Least_L15_F (d : Tp4) (y' : (List Int)) (i_1 : Int) (out : Int) (out_1 : Int) (out_2 : (List (List Int))) (out_3 : (List Int)) (r11 : (Int → (List Int) → (List Int) → Int → Int → (List (List Int)) → (List Int) → Option Tp4)) : (Int × (List Int) × (List Int) × (List Int) → Option Tp4) → Int × (List Int) × (List Int) × (List Int) → Option Tp4 :=
  fun rec x => r3_Least_L15_B d y' i_1 out out_1 out_2 out_3 r11 (fun a number_2 row_1 next' => rec (a, number_2, row_1, next')) x.1 x.2.1 x.2.2.1 x.2.2.2
noncomputable def r3_Least_L15 (d : Tp4) (y' : (List Int)) (i_1 : Int) (out : Int) (out_1 : Int) (out_2 : (List (List Int))) (out_3 : (List Int)) (r11 : (Int → (List Int) → (List Int) → Int → Int → (List (List Int)) → (List Int) → Option Tp4)) (a : Int) (number_2 : (List Int)) (row_1 : (List Int)) (next' : (List Int)) : Option Tp4 := LFix (r3_Least_L15_F d y' i_1 out out_1 out_2 out_3 r11 ) (a, number_2, row_1, next')
noncomputable def r3_Least_L11_B (d : Tp4) (y' : (List Int)) (r11 : Int → (List Int) → (List Int) → Int → Int → (List (List Int)) → (List Int) → Option Tp4) (i_1 : Int) (number_1 : (List Int)) (row : (List Int)) (out : Int) (out_1 : Int) (out_2 : (List (List Int))) (out_3 : (List Int)) : Option Tp4 :=
  if (decide (i_1 < (row.length : Int))) = true then
  G (mkOK d.1 d.1 8) (
  r3_Least_L15 d y' i_1 out out_1 out_2 out_3 r11 (0 : Int) number_1 row (List.replicate (d.1).toNat (0 : Int))) else
  some (out, (out_1, (out_2, (out_3, ()))))
noncomputable def r3_Least_L11_F (d : Tp4) (y' : (List Int)) : (Int × (List Int) × (List Int) × Int × Int × (List (List Int)) × (List Int) → Option Tp4) → Int × (List Int) × (List Int) × Int × Int × (List (List Int)) × (List Int) → Option Tp4 :=
  fun rec x => r3_Least_L11_B d y' (fun i_1 number_1 row out out_1 out_2 out_3 => rec (i_1, number_1, row, out, out_1, out_2, out_3)) x.1 x.2.1 x.2.2.1 x.2.2.2.1 x.2.2.2.2.1 x.2.2.2.2.2.1 x.2.2.2.2.2.2
noncomputable def r3_Least_L11 (d : Tp4) (y' : (List Int)) (i_1 : Int) (number_1 : (List Int)) (row : (List Int)) (out : Int) (out_1 : Int) (out_2 : (List (List Int))) (out_3 : (List Int)) : Option Tp4 := LFix (r3_Least_L11_F d y' ) (i_1, number_1, row, out, out_1, out_2, out_3)
noncomputable def r3_Least_L4_B (d : Tp4) (y' : (List Int)) (r4 : Int → (List Int) → Option Tp4) (i : Int) (number : (List Int)) : Option Tp4 :=
  if (decide (i < (number.length : Int))) = true then
  G (0 ≤ i ∧ i < (number.length : Int)) (
  G ((i).toNat < number.length) (
  G (fits (i + (1 : Int))) (
  r4 (i + (1 : Int)) (number.set (i).toNat (-1 : Int))))) else
  G (0 ≤ d.2.1 ∧ d.2.1 < (y'.length : Int)) (
  G ((d.2.1).toNat < y'.length) (
  G (0 ≤ ix y' d.2.1 ∧ ix y' d.2.1 < (number.length : Int)) (
  G ((ix y' d.2.1).toNat < number.length) (
  r3_Least_L11 d y' (0 : Int) (number.set (ix y' d.2.1).toNat (0 : Int)) ([d.2.1]) d.1 (0 : Int) ([] : List (List Int)) ([] : List Int)))))
noncomputable def r3_Least_L4_F (d : Tp4) (y' : (List Int)) : (Int × (List Int) → Option Tp4) → Int × (List Int) → Option Tp4 :=
  fun rec x => r3_Least_L4_B d y' (fun i number => rec (i, number)) x.1 x.2
noncomputable def r3_Least_L4 (d : Tp4) (y' : (List Int)) (i : Int) (number : (List Int)) : Option Tp4 := LFix (r3_Least_L4_F d y' ) (i, number)
noncomputable def r3_Least (d : Tp4) : Option Tp4 :=
  (r3_Classes (d.1, (d.2.1, (d.2.2.1, (d.2.2.2.1, ()))))).bind (fun y' =>
  G (mkOK (y'.length : Int) (y'.length : Int) 8) (
  r3_Least_L4 d y' (0 : Int) (List.replicate ((y'.length : Int)).toNat (0 : Int))))
theorem r3_Least_J20_ch (r15 : Nat → Int → (List Int) → (List Int) → (List Int) → Option Tp4) (r15' : Int → (List Int) → (List Int) → (List Int) → Option Tp4) (h_r15 : ∀ a0 a1 a2 a3, ChO (fun κ => r15 κ a0 a1 a2 a3) (r15' a0 a1 a2 a3)) (d : Tp4) (y' : (List Int)) (i_1 : Int) (a : Int) (row_1 : (List Int)) (next' : (List Int)) (number_3 : (List Int)) (row_2 : (List Int)) : ChO (fun κ => r3_Least_J20 d y' i_1 a row_1 next' (r15 κ) number_3 row_2) (r3_Least_J20 d y' i_1 a row_1 next' r15' number_3 row_2) := by
  unfold r3_Least_J20
  repeat' with_reducible first | exact ChO.const _ | exact h_r15 _ _ _ _ | apply ChO.ite | apply ChO.G | apply ChO.both | (apply ChO.bind; intro _)
theorem r3_Least_L15_B_ch (r11 : Nat → Int → (List Int) → (List Int) → Int → Int → (List (List Int)) → (List Int) → Option Tp4) (r11' : Int → (List Int) → (List Int) → Int → Int → (List (List Int)) → (List Int) → Option Tp4) (h_r11 : ∀ a0 a1 a2 a3 a4 a5 a6, ChO (fun κ => r11 κ a0 a1 a2 a3 a4 a5 a6) (r11' a0 a1 a2 a3 a4 a5 a6)) (r15 : Nat → Int → (List Int) → (List Int) → (List Int) → Option Tp4) (r15' : Int → (List Int) → (List Int) → (List Int) → Option Tp4) (h_r15 : ∀ a0 a1 a2 a3, ChO (fun κ => r15 κ a0 a1 a2 a3) (r15' a0 a1 a2 a3)) (d : Tp4) (y' : (List Int)) (i_1 : Int) (out : Int) (out_1 : Int) (out_2 : (List (List Int))) (out_3 : (List Int)) (a : Int) (number_2 : (List Int)) (row_1 : (List Int)) (next' : (List Int)) : ChO (fun κ => r3_Least_L15_B d y' i_1 out out_1 out_2 out_3 (r11 κ) (r15 κ) a number_2 row_1 next') (r3_Least_L15_B d y' i_1 out out_1 out_2 out_3 r11' r15' a number_2 row_1 next') := by
  unfold r3_Least_L15_B
  repeat' with_reducible first | exact ChO.const _ | exact h_r11 _ _ _ _ _ _ _ | exact h_r15 _ _ _ _ | (apply r3_Least_J20_ch <;> assumption) | apply ChO.ite | apply ChO.G | apply ChO.both | (apply ChO.bind; intro _)
theorem r3_Least_L15_cn (r11 : Int → (List Int) → (List Int) → Int → Int → (List (List Int)) → (List Int) → Option Tp4) (d : Tp4) (y' : (List Int)) (i_1 : Int) (out : Int) (out_1 : Int) (out_2 : (List (List Int))) (out_3 : (List Int)) : Cn (r3_Least_L15_F d y' i_1 out out_1 out_2 out_3 r11) := fun g h hg x => r3_Least_L15_B_ch (fun _ => r11) r11 (fun _ _ _ _ _ _ _ => ChO.const _) (fun κ a number_2 row_1 next' => g κ (a, number_2, row_1, next')) (fun a number_2 row_1 next' => h (a, number_2, row_1, next')) (fun a number_2 row_1 next' => hg (a, number_2, row_1, next')) d y' i_1 out out_1 out_2 out_3 x.1 x.2.1 x.2.2.1 x.2.2.2
theorem r3_Least_L15_eq (r11 : Int → (List Int) → (List Int) → Int → Int → (List (List Int)) → (List Int) → Option Tp4) (d : Tp4) (y' : (List Int)) (i_1 : Int) (out : Int) (out_1 : Int) (out_2 : (List (List Int))) (out_3 : (List Int)) (a : Int) (number_2 : (List Int)) (row_1 : (List Int)) (next' : (List Int)) : r3_Least_L15 d y' i_1 out out_1 out_2 out_3 r11 a number_2 row_1 next' = r3_Least_L15_B d y' i_1 out out_1 out_2 out_3 r11 (r3_Least_L15 d y' i_1 out out_1 out_2 out_3 r11) a number_2 row_1 next' := LFix_eq (r3_Least_L15_cn r11 d y' i_1 out out_1 out_2 out_3) (a, number_2, row_1, next')
theorem r3_Least_L15_ch (r11 : Nat → Int → (List Int) → (List Int) → Int → Int → (List (List Int)) → (List Int) → Option Tp4) (r11' : Int → (List Int) → (List Int) → Int → Int → (List (List Int)) → (List Int) → Option Tp4) (h_r11 : ∀ a0 a1 a2 a3 a4 a5 a6, ChO (fun κ => r11 κ a0 a1 a2 a3 a4 a5 a6) (r11' a0 a1 a2 a3 a4 a5 a6)) (d : Tp4) (y' : (List Int)) (i_1 : Int) (out : Int) (out_1 : Int) (out_2 : (List (List Int))) (out_3 : (List Int)) (a : Int) (number_2 : (List Int)) (row_1 : (List Int)) (next' : (List Int)) : ChO (fun κ => r3_Least_L15 d y' i_1 out out_1 out_2 out_3 (r11 κ) a number_2 row_1 next') (r3_Least_L15 d y' i_1 out out_1 out_2 out_3 r11' a number_2 row_1 next') := by
  unfold r3_Least_L15
  exact LFix_ch (fun κ => (r3_Least_L15_cn (r11 κ) d y' i_1 out out_1 out_2 out_3).mono) (r3_Least_L15_cn r11' d y' i_1 out out_1 out_2 out_3).mono (fun g h hg x => r3_Least_L15_B_ch r11 r11' h_r11 (fun κ a number_2 row_1 next' => g κ (a, number_2, row_1, next')) (fun a number_2 row_1 next' => h (a, number_2, row_1, next')) (fun a number_2 row_1 next' => hg (a, number_2, row_1, next')) d y' i_1 out out_1 out_2 out_3 x.1 x.2.1 x.2.2.1 x.2.2.2) _
theorem r3_Least_L11_B_ch (r11 : Nat → Int → (List Int) → (List Int) → Int → Int → (List (List Int)) → (List Int) → Option Tp4) (r11' : Int → (List Int) → (List Int) → Int → Int → (List (List Int)) → (List Int) → Option Tp4) (h_r11 : ∀ a0 a1 a2 a3 a4 a5 a6, ChO (fun κ => r11 κ a0 a1 a2 a3 a4 a5 a6) (r11' a0 a1 a2 a3 a4 a5 a6)) (d : Tp4) (y' : (List Int)) (i_1 : Int) (number_1 : (List Int)) (row : (List Int)) (out : Int) (out_1 : Int) (out_2 : (List (List Int))) (out_3 : (List Int)) : ChO (fun κ => r3_Least_L11_B d y' (r11 κ) i_1 number_1 row out out_1 out_2 out_3) (r3_Least_L11_B d y' r11' i_1 number_1 row out out_1 out_2 out_3) := by
  unfold r3_Least_L11_B
  repeat' with_reducible first | exact ChO.const _ | exact h_r11 _ _ _ _ _ _ _ | (apply r3_Least_J20_ch <;> assumption) | (apply r3_Least_L15_ch <;> assumption) | apply ChO.ite | apply ChO.G | apply ChO.both | (apply ChO.bind; intro _)
theorem r3_Least_L11_cn  (d : Tp4) (y' : (List Int)) : Cn (r3_Least_L11_F d y') := fun g h hg x => r3_Least_L11_B_ch  (fun κ i_1 number_1 row out out_1 out_2 out_3 => g κ (i_1, number_1, row, out, out_1, out_2, out_3)) (fun i_1 number_1 row out out_1 out_2 out_3 => h (i_1, number_1, row, out, out_1, out_2, out_3)) (fun i_1 number_1 row out out_1 out_2 out_3 => hg (i_1, number_1, row, out, out_1, out_2, out_3)) d y' x.1 x.2.1 x.2.2.1 x.2.2.2.1 x.2.2.2.2.1 x.2.2.2.2.2.1 x.2.2.2.2.2.2
theorem r3_Least_L11_eq  (d : Tp4) (y' : (List Int)) (i_1 : Int) (number_1 : (List Int)) (row : (List Int)) (out : Int) (out_1 : Int) (out_2 : (List (List Int))) (out_3 : (List Int)) : r3_Least_L11 d y' i_1 number_1 row out out_1 out_2 out_3 = r3_Least_L11_B d y' (r3_Least_L11 d y') i_1 number_1 row out out_1 out_2 out_3 := LFix_eq (r3_Least_L11_cn d y') (i_1, number_1, row, out, out_1, out_2, out_3)
theorem r3_Least_L4_B_ch (r4 : Nat → Int → (List Int) → Option Tp4) (r4' : Int → (List Int) → Option Tp4) (h_r4 : ∀ a0 a1, ChO (fun κ => r4 κ a0 a1) (r4' a0 a1)) (d : Tp4) (y' : (List Int)) (i : Int) (number : (List Int)) : ChO (fun κ => r3_Least_L4_B d y' (r4 κ) i number) (r3_Least_L4_B d y' r4' i number) := by
  unfold r3_Least_L4_B
  repeat' with_reducible first | exact ChO.const _ | exact h_r4 _ _ | (apply r3_Least_J20_ch <;> assumption) | (apply r3_Least_L15_ch <;> assumption) | apply ChO.ite | apply ChO.G | apply ChO.both | (apply ChO.bind; intro _)
theorem r3_Least_L4_cn  (d : Tp4) (y' : (List Int)) : Cn (r3_Least_L4_F d y') := fun g h hg x => r3_Least_L4_B_ch  (fun κ i number => g κ (i, number)) (fun i number => h (i, number)) (fun i number => hg (i, number)) d y' x.1 x.2
theorem r3_Least_L4_eq  (d : Tp4) (y' : (List Int)) (i : Int) (number : (List Int)) : r3_Least_L4 d y' i number = r3_Least_L4_B d y' (r3_Least_L4 d y') i number := LFix_eq (r3_Least_L4_cn d y') (i, number)

noncomputable def r26_Det_J32 (k : Int) (next' : (List Int)) (r20 : (Int → (List Int) → (List Int) → (List Int) → Option Tp2)) (to : Int) (number_2 : (List Int)) (row_2 : (List Int)) : Option Tp2 :=
  G (0 ≤ to ∧ to < (number_2.length : Int)) (
  G ((to).toNat < number_2.length) (
  G (fits ((ix number_2 to) - (1 : Int))) (
  G (room next' ([(ix number_2 to) - (1 : Int)]) 8) (
  G (fits (k + (1 : Int))) (
  r20 (k + (1 : Int)) number_2 row_2 (next' ++ ([(ix number_2 to) - (1 : Int)])))))))
noncomputable def r26_Det_L24_B (a : Tp1) (i : Int) (k : Int) (number_1 : (List Int)) (row_1 : (List Int)) (next' : (List Int)) (r20 : (Int → (List Int) → (List Int) → (List Int) → Option Tp2)) (r24 : Int → Int → Option Tp2) (to : Int) (s_1 : Int) : Option Tp2 :=
  if (decide (s_1 < (16 : Int))) = true then
  (r26_Ahead (a.1, (a.2.1, (a.2.2.1, (a.2.2.2.1, ())))) s_1 k).bind (fun y' =>
  G (0 ≤ i ∧ i < (row_1.length : Int)) (
  G ((i).toNat < row_1.length) (
  G (0 ≤ y') (
  G (0 ≤ s_1) (
  G (fits (s_1 + (1 : Int))) (
  r24 (ior .i64 to (ishl .i64 (iand .i64 (ishr .i64 (ix row_1 i) y') (1 : Int)) s_1)) (s_1 + (1 : Int)))))))) else
  G (0 ≤ to ∧ to < (number_1.length : Int)) (
  G ((to).toNat < number_1.length) (
  if (decide ((ix number_1 to) = (0 : Int))) = true then
  if (decide ((row_1.length : Int) = (1500 : Int))) = true then
  some (((0 : Int), ((0 : Int), ([], ([], ())))), true) else
  G (room row_1 ([to]) 8) (
  G (0 ≤ to ∧ to < (number_1.length : Int)) (
  G ((to).toNat < number_1.length) (
  r26_Det_J32 k next' r20 to (number_1.set (to).toNat ((row_1 ++ ([to])).length : Int)) (row_1 ++ ([to]))))) else
  r26_Det_J32 k next' r20 to number_1 row_1))
noncomputable def r26_Det_L24_F (a : Tp1) (i : Int) (k : Int) (number_1 : (List Int)) (row_1 : (List Int)) (next' : (List Int)) (r20 : (Int → (List Int) → (List Int) → (List Int) → Option Tp2)) : (Int × Int → Option Tp2) → Int × Int → Option Tp2 :=
  fun rec x => r26_Det_L24_B a i k number_1 row_1 next' r20 (fun to s_1 => rec (to, s_1)) x.1 x.2
noncomputable def r26_Det_L24 (a : Tp1) (i : Int) (k : Int) (number_1 : (List Int)) (row_1 : (List Int)) (next' : (List Int)) (r20 : (Int → (List Int) → (List Int) → (List Int) → Option Tp2)) (to : Int) (s_1 : Int) : Option Tp2 := LFix (r26_Det_L24_F a i k number_1 row_1 next' r20 ) (to, s_1)
noncomputable def r26_Det_L20_B (a : Tp1) (last : Int) (i : Int) (out : Int) (out_1 : Int) (out_2 : (List (List Int))) (out_3 : (List Int)) (r16 : (Int → (List Int) → (List Int) → Int → Int → (List (List Int)) → (List Int) → Option Tp2)) (r20 : Int → (List Int) → (List Int) → (List Int) → Option Tp2) (k : Int) (number_1 : (List Int)) (row_1 : (List Int)) (next' : (List Int)) : Option Tp2 :=
  if (decide (k < a.1)) = true then
  r26_Det_L24 a i k number_1 row_1 next' r20 (0 : Int) (0 : Int) else
  G (room out_2 ([next']) 24) (
  G (0 ≤ i ∧ i < (row_1.length : Int)) (
  G ((i).toNat < row_1.length) (
  G (0 ≤ last) (
  G (room out_3 ([iand .i64 (ishr .i64 (ix row_1 i) last) (1 : Int)]) 8) (
  G (fits (i + (1 : Int))) (
  r16 (i + (1 : Int)) number_1 row_1 out out_1 (out_2 ++ ([next'])) (out_3 ++ ([iand .i64 (ishr .i64 (ix row_1 i) last) (1 : Int)]))))))))
noncomputable def r26_Det_L20_F (a : Tp1) (last : Int) (i : Int) (out : Int) (out_1 : Int) (out_2 : (List (List Int))) (out_3 : (List Int)) (r16 : (Int → (List Int) → (List Int) → Int → Int → (List (List Int)) → (List Int) → Option Tp2)) : (Int × (List Int) × (List Int) × (List Int) → Option Tp2) → Int × (List Int) × (List Int) × (List Int) → Option Tp2 :=
  fun rec x => r26_Det_L20_B a last i out out_1 out_2 out_3 r16 (fun k number_1 row_1 next' => rec (k, number_1, row_1, next')) x.1 x.2.1 x.2.2.1 x.2.2.2
noncomputable def r26_Det_L20 (a : Tp1) (last : Int) (i : Int) (out : Int) (out_1 : Int) (out_2 : (List (List Int))) (out_3 : (List Int)) (r16 : (Int → (List Int) → (List Int) → Int → Int → (List (List Int)) → (List Int) → Option Tp2)) (k : Int) (number_1 : (List Int)) (row_1 : (List Int)) (next' : (List Int)) : Option Tp2 := LFix (r26_Det_L20_F a last i out out_1 out_2 out_3 r16 ) (k, number_1, row_1, next')
noncomputable def r26_Det_L16_B (a : Tp1) (last : Int) (r16 : Int → (List Int) → (List Int) → Int → Int → (List (List Int)) → (List Int) → Option Tp2) (i : Int) (number : (List Int)) (row : (List Int)) (out : Int) (out_1 : Int) (out_2 : (List (List Int))) (out_3 : (List Int)) : Option Tp2 :=
  if (decide (i < (row.length : Int))) = true then
  r26_Det_L20 a last i out out_1 out_2 out_3 r16 (0 : Int) number row ([]) else
  (r3_Least (out, (out_1, (out_2, (out_3, ()))))).bind (fun y'_1 =>
  some ((y'_1.1, (y'_1.2.1, (y'_1.2.2.1, (y'_1.2.2.2.1, ())))), false))
noncomputable def r26_Det_L16_F (a : Tp1) (last : Int) : (Int × (List Int) × (List Int) × Int × Int × (List (List Int)) × (List Int) → Option Tp2) → Int × (List Int) × (List Int) × Int × Int × (List (List Int)) × (List Int) → Option Tp2 :=
  fun rec x => r26_Det_L16_B a last (fun i number row out out_1 out_2 out_3 => rec (i, number, row, out, out_1, out_2, out_3)) x.1 x.2.1 x.2.2.1 x.2.2.2.1 x.2.2.2.2.1 x.2.2.2.2.2.1 x.2.2.2.2.2.2
noncomputable def r26_Det_L16 (a : Tp1) (last : Int) (i : Int) (number : (List Int)) (row : (List Int)) (out : Int) (out_1 : Int) (out_2 : (List (List Int))) (out_3 : (List Int)) : Option Tp2 := LFix (r26_Det_L16_F a last ) (i, number, row, out, out_1, out_2, out_3)
noncomputable def r26_Det_L8_B (a : Tp1) (last : Int) (r8 : Int → Int → Option Tp2) (first : Int) (s : Int) : Option Tp2 :=
  if (decide (s < (16 : Int))) = true then
  G (0 ≤ a.2.1) (
  G (0 ≤ s) (
  G (fits (s + (1 : Int))) (
  r8 (ior .i64 first (ishl .i64 (iand .i64 (ishr .i64 s a.2.1) (1 : Int)) s)) (s + (1 : Int))))) else
  G (mkOK (65536 : Int) (65536 : Int) 8) (
  G (0 ≤ first ∧ first < ((List.replicate ((65536 : Int)).toNat (0 : Int)).length : Int)) (
  G ((first).toNat < (List.replicate ((65536 : Int)).toNat (0 : Int)).length) (
  r26_Det_L16 a last (0 : Int) ((List.replicate ((65536 : Int)).toNat (0 : Int)).set (first).toNat (1 : Int)) ([first]) a.1 (0 : Int) ([] : List (List Int)) ([] : List Int))))
noncomputable def r26_Det_L8_F (a : Tp1) (last : Int) : (Int × Int → Option Tp2) → Int × Int → Option Tp2 :=
  fun rec x => r26_Det_L8_B a last (fun first s => rec (first, s)) x.1 x.2
noncomputable def r26_Det_L8 (a : Tp1) (last : Int) (first : Int) (s : Int) : Option Tp2 := LFix (r26_Det_L8_F a last ) (first, s)
noncomputable def r26_Det_L3_B (a : Tp1) (r3 : Int → Int → Option Tp2) (last : Int) (q : Int) : Option Tp2 :=
  if (decide (q < (a.2.2.1.length : Int))) = true then
  G (0 ≤ q ∧ q < (a.2.2.2.1.length : Int)) (
  G (0 ≤ q) (
  G (fits (q + (1 : Int))) (
  r3 (ior .i64 last (ishl .i64 (ix a.2.2.2.1 q) q)) (q + (1 : Int))))) else
  r26_Det_L8 a last (0 : Int) (0 : Int)
noncomputable def r26_Det_L3_F (a : Tp1) : (Int × Int → Option Tp2) → Int × Int → Option Tp2 :=
  fun rec x => r26_Det_L3_B a (fun last q => rec (last, q)) x.1 x.2
noncomputable def r26_Det_L3 (a : Tp1) (last : Int) (q : Int) : Option Tp2 := LFix (r26_Det_L3_F a ) (last, q)
noncomputable def r26_Det (a : Tp1) : Option Tp2 :=
  r26_Det_L3 a (0 : Int) (0 : Int)
theorem r26_Det_J32_ch (r20 : Nat → Int → (List Int) → (List Int) → (List Int) → Option Tp2) (r20' : Int → (List Int) → (List Int) → (List Int) → Option Tp2) (h_r20 : ∀ a0 a1 a2 a3, ChO (fun κ => r20 κ a0 a1 a2 a3) (r20' a0 a1 a2 a3)) (k : Int) (next' : (List Int)) (to : Int) (number_2 : (List Int)) (row_2 : (List Int)) : ChO (fun κ => r26_Det_J32 k next' (r20 κ) to number_2 row_2) (r26_Det_J32 k next' r20' to number_2 row_2) := by
  unfold r26_Det_J32
  repeat' with_reducible first | exact ChO.const _ | exact h_r20 _ _ _ _ | apply ChO.ite | apply ChO.G | apply ChO.both | (apply ChO.bind; intro _)
theorem r26_Det_L24_B_ch (r20 : Nat → Int → (List Int) → (List Int) → (List Int) → Option Tp2) (r20' : Int → (List Int) → (List Int) → (List Int) → Option Tp2) (h_r20 : ∀ a0 a1 a2 a3, ChO (fun κ => r20 κ a0 a1 a2 a3) (r20' a0 a1 a2 a3)) (r24 : Nat → Int → Int → Option Tp2) (r24' : Int → Int → Option Tp2) (h_r24 : ∀ a0 a1, ChO (fun κ => r24 κ a0 a1) (r24' a0 a1)) (a : Tp1) (i : Int) (k : Int) (number_1 : (List Int)) (row_1 : (List Int)) (next' : (List Int)) (to : Int) (s_1 : Int) : ChO (fun κ => r26_Det_L24_B a i k number_1 row_1 next' (r20 κ) (r24 κ) to s_1) (r26_Det_L24_B a i k number_1 row_1 next' r20' r24' to s_1) := by
  unfold r26_Det_L24_B
  repeat' with_reducible first | exact ChO.const _ | exact h_r20 _ _ _ _ | exact h_r24 _ _ | (apply r26_Det_J32_ch <;> assumption) | apply ChO.ite | apply ChO.G | apply ChO.both | (apply ChO.bind; intro _)
theorem r26_Det_L24_cn (r20 : Int → (List Int) → (List Int) → (List Int) → Option Tp2) (a : Tp1) (i : Int) (k : Int) (number_1 : (List Int)) (row_1 : (List Int)) (next' : (List Int)) : Cn (r26_Det_L24_F a i k number_1 row_1 next' r20) := fun g h hg x => r26_Det_L24_B_ch (fun _ => r20) r20 (fun _ _ _ _ => ChO.const _) (fun κ to s_1 => g κ (to, s_1)) (fun to s_1 => h (to, s_1)) (fun to s_1 => hg (to, s_1)) a i k number_1 row_1 next' x.1 x.2
theorem r26_Det_L24_eq (r20 : Int → (List Int) → (List Int) → (List Int) → Option Tp2) (a : Tp1) (i : Int) (k : Int) (number_1 : (List Int)) (row_1 : (List Int)) (next' : (List Int)) (to : Int) (s_1 : Int) : r26_Det_L24 a i k number_1 row_1 next' r20 to s_1 = r26_Det_L24_B a i k number_1 row_1 next' r20 (r26_Det_L24 a i k number_1 row_1 next' r20) to s_1 := LFix_eq (r26_Det_L24_cn r20 a i k number_1 row_1 next') (to, s_1)
theorem r26_Det_L24_ch (r20 : Nat → Int → (List Int) → (List Int) → (List Int) → Option Tp2) (r20' : Int → (List Int) → (List Int) → (List Int) → Option Tp2) (h_r20 : ∀ a0 a1 a2 a3, ChO (fun κ => r20 κ a0 a1 a2 a3) (r20' a0 a1 a2 a3)) (a : Tp1) (i : Int) (k : Int) (number_1 : (List Int)) (row_1 : (List Int)) (next' : (List Int)) (to : Int) (s_1 : Int) : ChO (fun κ => r26_Det_L24 a i k number_1 row_1 next' (r20 κ) to s_1) (r26_Det_L24 a i k number_1 row_1 next' r20' to s_1) := by
  unfold r26_Det_L24
  exact LFix_ch (fun κ => (r26_Det_L24_cn (r20 κ) a i k number_1 row_1 next').mono) (r26_Det_L24_cn r20' a i k number_1 row_1 next').mono (fun g h hg x => r26_Det_L24_B_ch r20 r20' h_r20 (fun κ to s_1 => g κ (to, s_1)) (fun to s_1 => h (to, s_1)) (fun to s_1 => hg (to, s_1)) a i k number_1 row_1 next' x.1 x.2) _
theorem r26_Det_L20_B_ch (r16 : Nat → Int → (List Int) → (List Int) → Int → Int → (List (List Int)) → (List Int) → Option Tp2) (r16' : Int → (List Int) → (List Int) → Int → Int → (List (List Int)) → (List Int) → Option Tp2) (h_r16 : ∀ a0 a1 a2 a3 a4 a5 a6, ChO (fun κ => r16 κ a0 a1 a2 a3 a4 a5 a6) (r16' a0 a1 a2 a3 a4 a5 a6)) (r20 : Nat → Int → (List Int) → (List Int) → (List Int) → Option Tp2) (r20' : Int → (List Int) → (List Int) → (List Int) → Option Tp2) (h_r20 : ∀ a0 a1 a2 a3, ChO (fun κ => r20 κ a0 a1 a2 a3) (r20' a0 a1 a2 a3)) (a : Tp1) (last : Int) (i : Int) (out : Int) (out_1 : Int) (out_2 : (List (List Int))) (out_3 : (List Int)) (k : Int) (number_1 : (List Int)) (row_1 : (List Int)) (next' : (List Int)) : ChO (fun κ => r26_Det_L20_B a last i out out_1 out_2 out_3 (r16 κ) (r20 κ) k number_1 row_1 next') (r26_Det_L20_B a last i out out_1 out_2 out_3 r16' r20' k number_1 row_1 next') := by
  unfold r26_Det_L20_B
  repeat' with_reducible first | exact ChO.const _ | exact h_r16 _ _ _ _ _ _ _ | exact h_r20 _ _ _ _ | (apply r26_Det_J32_ch <;> assumption) | (apply r26_Det_L24_ch <;> assumption) | apply ChO.ite | apply ChO.G | apply ChO.both | (apply ChO.bind; intro _)
theorem r26_Det_L20_cn (r16 : Int → (List Int) → (List Int) → Int → Int → (List (List Int)) → (List Int) → Option Tp2) (a : Tp1) (last : Int) (i : Int) (out : Int) (out_1 : Int) (out_2 : (List (List Int))) (out_3 : (List Int)) : Cn (r26_Det_L20_F a last i out out_1 out_2 out_3 r16) := fun g h hg x => r26_Det_L20_B_ch (fun _ => r16) r16 (fun _ _ _ _ _ _ _ => ChO.const _) (fun κ k number_1 row_1 next' => g κ (k, number_1, row_1, next')) (fun k number_1 row_1 next' => h (k, number_1, row_1, next')) (fun k number_1 row_1 next' => hg (k, number_1, row_1, next')) a last i out out_1 out_2 out_3 x.1 x.2.1 x.2.2.1 x.2.2.2
theorem r26_Det_L20_eq (r16 : Int → (List Int) → (List Int) → Int → Int → (List (List Int)) → (List Int) → Option Tp2) (a : Tp1) (last : Int) (i : Int) (out : Int) (out_1 : Int) (out_2 : (List (List Int))) (out_3 : (List Int)) (k : Int) (number_1 : (List Int)) (row_1 : (List Int)) (next' : (List Int)) : r26_Det_L20 a last i out out_1 out_2 out_3 r16 k number_1 row_1 next' = r26_Det_L20_B a last i out out_1 out_2 out_3 r16 (r26_Det_L20 a last i out out_1 out_2 out_3 r16) k number_1 row_1 next' := LFix_eq (r26_Det_L20_cn r16 a last i out out_1 out_2 out_3) (k, number_1, row_1, next')
theorem r26_Det_L20_ch (r16 : Nat → Int → (List Int) → (List Int) → Int → Int → (List (List Int)) → (List Int) → Option Tp2) (r16' : Int → (List Int) → (List Int) → Int → Int → (List (List Int)) → (List Int) → Option Tp2) (h_r16 : ∀ a0 a1 a2 a3 a4 a5 a6, ChO (fun κ => r16 κ a0 a1 a2 a3 a4 a5 a6) (r16' a0 a1 a2 a3 a4 a5 a6)) (a : Tp1) (last : Int) (i : Int) (out : Int) (out_1 : Int) (out_2 : (List (List Int))) (out_3 : (List Int)) (k : Int) (number_1 : (List Int)) (row_1 : (List Int)) (next' : (List Int)) : ChO (fun κ => r26_Det_L20 a last i out out_1 out_2 out_3 (r16 κ) k number_1 row_1 next') (r26_Det_L20 a last i out out_1 out_2 out_3 r16' k number_1 row_1 next') := by
  unfold r26_Det_L20
  exact LFix_ch (fun κ => (r26_Det_L20_cn (r16 κ) a last i out out_1 out_2 out_3).mono) (r26_Det_L20_cn r16' a last i out out_1 out_2 out_3).mono (fun g h hg x => r26_Det_L20_B_ch r16 r16' h_r16 (fun κ k number_1 row_1 next' => g κ (k, number_1, row_1, next')) (fun k number_1 row_1 next' => h (k, number_1, row_1, next')) (fun k number_1 row_1 next' => hg (k, number_1, row_1, next')) a last i out out_1 out_2 out_3 x.1 x.2.1 x.2.2.1 x.2.2.2) _
theorem r26_Det_L16_B_ch (r16 : Nat → Int → (List Int) → (List Int) → Int → Int → (List (List Int)) → (List Int) → Option Tp2) (r16' : Int → (List Int) → (List Int) → Int → Int → (List (List Int)) → (List Int) → Option Tp2) (h_r16 : ∀ a0 a1 a2 a3 a4 a5 a6, ChO (fun κ => r16 κ a0 a1 a2 a3 a4 a5 a6) (r16' a0 a1 a2 a3 a4 a5 a6)) (a : Tp1) (last : Int) (i : Int) (number : (List Int)) (row : (List Int)) (out : Int) (out_1 : Int) (out_2 : (List (List Int))) (out_3 : (List Int)) : ChO (fun κ => r26_Det_L16_B a last (r16 κ) i number row out out_1 out_2 out_3) (r26_Det_L16_B a last r16' i number row out out_1 out_2 out_3) := by
  unfold r26_Det_L16_B
  repeat' with_reducible first | exact ChO.const _ | exact h_r16 _ _ _ _ _ _ _ | (apply r26_Det_J32_ch <;> assumption) | (apply r26_Det_L24_ch <;> assumption) | (apply r26_Det_L20_ch <;> assumption) | apply ChO.ite | apply ChO.G | apply ChO.both | (apply ChO.bind; intro _)
theorem r26_Det_L16_cn  (a : Tp1) (last : Int) : Cn (r26_Det_L16_F a last) := fun g h hg x => r26_Det_L16_B_ch  (fun κ i number row out out_1 out_2 out_3 => g κ (i, number, row, out, out_1, out_2, out_3)) (fun i number row out out_1 out_2 out_3 => h (i, number, row, out, out_1, out_2, out_3)) (fun i number row out out_1 out_2 out_3 => hg (i, number, row, out, out_1, out_2, out_3)) a last x.1 x.2.1 x.2.2.1 x.2.2.2.1 x.2.2.2.2.1 x.2.2.2.2.2.1 x.2.2.2.2.2.2
theorem r26_Det_L16_eq  (a : Tp1) (last : Int) (i : Int) (number : (List Int)) (row : (List Int)) (out : Int) (out_1 : Int) (out_2 : (List (List Int))) (out_3 : (List Int)) : r26_Det_L16 a last i number row out out_1 out_2 out_3 = r26_Det_L16_B a last (r26_Det_L16 a last) i number row out out_1 out_2 out_3 := LFix_eq (r26_Det_L16_cn a last) (i, number, row, out, out_1, out_2, out_3)
theorem r26_Det_L8_B_ch (r8 : Nat → Int → Int → Option Tp2) (r8' : Int → Int → Option Tp2) (h_r8 : ∀ a0 a1, ChO (fun κ => r8 κ a0 a1) (r8' a0 a1)) (a : Tp1) (last : Int) (first : Int) (s : Int) : ChO (fun κ => r26_Det_L8_B a last (r8 κ) first s) (r26_Det_L8_B a last r8' first s) := by
  unfold r26_Det_L8_B
  repeat' with_reducible first | exact ChO.const _ | exact h_r8 _ _ | (apply r26_Det_J32_ch <;> assumption) | (apply r26_Det_L24_ch <;> assumption) | (apply r26_Det_L20_ch <;> assumption) | apply ChO.ite | apply ChO.G | apply ChO.both | (apply ChO.bind; intro _)
theorem r26_Det_L8_cn  (a : Tp1) (last : Int) : Cn (r26_Det_L8_F a last) := fun g h hg x => r26_Det_L8_B_ch  (fun κ first s => g κ (first, s)) (fun first s => h (first, s)) (fun first s => hg (first, s)) a last x.1 x.2
theorem r26_Det_L8_eq  (a : Tp1) (last : Int) (first : Int) (s : Int) : r26_Det_L8 a last first s = r26_Det_L8_B a last (r26_Det_L8 a last) first s := LFix_eq (r26_Det_L8_cn a last) (first, s)
theorem r26_Det_L3_B_ch (r3 : Nat → Int → Int → Option Tp2) (r3' : Int → Int → Option Tp2) (h_r3 : ∀ a0 a1, ChO (fun κ => r3 κ a0 a1) (r3' a0 a1)) (a : Tp1) (last : Int) (q : Int) : ChO (fun κ => r26_Det_L3_B a (r3 κ) last q) (r26_Det_L3_B a r3' last q) := by
  unfold r26_Det_L3_B
  repeat' with_reducible first | exact ChO.const _ | exact h_r3 _ _ | (apply r26_Det_J32_ch <;> assumption) | (apply r26_Det_L24_ch <;> assumption) | (apply r26_Det_L20_ch <;> assumption) | apply ChO.ite | apply ChO.G | apply ChO.both | (apply ChO.bind; intro _)
theorem r26_Det_L3_cn  (a : Tp1) : Cn (r26_Det_L3_F a) := fun g h hg x => r26_Det_L3_B_ch  (fun κ last q => g κ (last, q)) (fun last q => h (last, q)) (fun last q => hg (last, q)) a x.1 x.2
theorem r26_Det_L3_eq  (a : Tp1) (last : Int) (q : Int) : r26_Det_L3 a last q = r26_Det_L3_B a (r26_Det_L3 a) last q := LFix_eq (r26_Det_L3_cn a) (last, q)

noncomputable def r3_Same_L14_B (a : Tp4) (b : Tp4) (i_1 : Int) (r9 : (Int → Option (Bool))) (r14 : Int → Option (Bool)) (k : Int) : Option (Bool) :=
  G (0 ≤ i_1 ∧ i_1 < (a.2.2.1.length : Int)) (
  if (decide (k < ((ix a.2.2.1 i_1).length : Int))) = true then
  G (0 ≤ i_1 ∧ i_1 < (a.2.2.1.length : Int)) (
  G (0 ≤ k ∧ k < ((ix a.2.2.1 i_1).length : Int)) (
  G (0 ≤ i_1 ∧ i_1 < (b.2.2.1.length : Int)) (
  G (0 ≤ k ∧ k < ((ix b.2.2.1 i_1).length : Int)) (
  if (decide (¬ (ix (ix a.2.2.1 i_1) k) = (ix (ix b.2.2.1 i_1) k))) = true then
  some false else
  G (fits (k + (1 : Int))) (
  r14 (k + (1 : Int))))))) else
  G (fits (i_1 + (1 : Int))) (
  r9 (i_1 + (1 : Int))))
noncomputable def r3_Same_L14_F (a : Tp4) (b : Tp4) (i_1 : Int) (r9 : (Int → Option (Bool))) : (Int → Option (Bool)) → Int → Option (Bool) :=
  fun rec x => r3_Same_L14_B a b i_1 r9 (fun k => rec k) x
noncomputable def r3_Same_L14 (a : Tp4) (b : Tp4) (i_1 : Int) (r9 : (Int → Option (Bool))) (k : Int) : Option (Bool) := LFix (r3_Same_L14_F a b i_1 r9 ) k
noncomputable def r3_Same_L9_B (a : Tp4) (b : Tp4) (r9 : Int → Option (Bool)) (i_1 : Int) : Option (Bool) :=
  if (decide (i_1 < (a.2.2.1.length : Int))) = true then
  G (0 ≤ i_1 ∧ i_1 < (a.2.2.1.length : Int)) (
  G (0 ≤ i_1 ∧ i_1 < (b.2.2.1.length : Int)) (
  if (decide (¬ ((ix a.2.2.1 i_1).length : Int) = ((ix b.2.2.1 i_1).length : Int))) = true then
  some false else
  r3_Same_L14 a b i_1 r9 (0 : Int))) else
  some true
noncomputable def r3_Same_L9_F (a : Tp4) (b : Tp4) : (Int → Option (Bool)) → Int → Option (Bool) :=
  fun rec x => r3_Same_L9_B a b (fun i_1 => rec i_1) x
noncomputable def r3_Same_L9 (a : Tp4) (b : Tp4) (i_1 : Int) : Option (Bool) := LFix (r3_Same_L9_F a b ) i_1
noncomputable def r3_Same_L4_B (a : Tp4) (b : Tp4) (r4 : Int → Option (Bool)) (i : Int) : Option (Bool) :=
  if (decide (i < (a.2.2.2.1.length : Int))) = true then
  G (0 ≤ i ∧ i < (a.2.2.2.1.length : Int)) (
  G (0 ≤ i ∧ i < (b.2.2.2.1.length : Int)) (
  if (decide (¬ (ix a.2.2.2.1 i) = (ix b.2.2.2.1 i))) = true then
  some false else
  G (fits (i + (1 : Int))) (
  r4 (i + (1 : Int))))) else
  r3_Same_L9 a b (0 : Int)
noncomputable def r3_Same_L4_F (a : Tp4) (b : Tp4) : (Int → Option (Bool)) → Int → Option (Bool) :=
  fun rec x => r3_Same_L4_B a b (fun i => rec i) x
noncomputable def r3_Same_L4 (a : Tp4) (b : Tp4) (i : Int) : Option (Bool) := LFix (r3_Same_L4_F a b ) i
noncomputable def r3_Same (a : Tp4) (b : Tp4) : Option (Bool) :=
  if (decide (¬ a.1 = b.1)) = true then
  some false else
  if (decide (¬ a.2.1 = b.2.1)) = true then
  some false else
  if (decide (¬ (a.2.2.1.length : Int) = (b.2.2.1.length : Int))) = true then
  some false else
  if (decide (¬ (a.2.2.2.1.length : Int) = (b.2.2.2.1.length : Int))) = true then
  some false else
  r3_Same_L4 a b (0 : Int)
theorem r3_Same_L14_B_ch (r9 : Nat → Int → Option (Bool)) (r9' : Int → Option (Bool)) (h_r9 : ∀ a0, ChO (fun κ => r9 κ a0) (r9' a0)) (r14 : Nat → Int → Option (Bool)) (r14' : Int → Option (Bool)) (h_r14 : ∀ a0, ChO (fun κ => r14 κ a0) (r14' a0)) (a : Tp4) (b : Tp4) (i_1 : Int) (k : Int) : ChO (fun κ => r3_Same_L14_B a b i_1 (r9 κ) (r14 κ) k) (r3_Same_L14_B a b i_1 r9' r14' k) := by
  unfold r3_Same_L14_B
  repeat' with_reducible first | exact ChO.const _ | exact h_r9 _ | exact h_r14 _ | apply ChO.ite | apply ChO.G | apply ChO.both | (apply ChO.bind; intro _)
theorem r3_Same_L14_cn (r9 : Int → Option (Bool)) (a : Tp4) (b : Tp4) (i_1 : Int) : Cn (r3_Same_L14_F a b i_1 r9) := fun g h hg x => r3_Same_L14_B_ch (fun _ => r9) r9 (fun _ => ChO.const _) (fun κ k => g κ k) (fun k => h k) (fun k => hg k) a b i_1 x
theorem r3_Same_L14_eq (r9 : Int → Option (Bool)) (a : Tp4) (b : Tp4) (i_1 : Int) (k : Int) : r3_Same_L14 a b i_1 r9 k = r3_Same_L14_B a b i_1 r9 (r3_Same_L14 a b i_1 r9) k := LFix_eq (r3_Same_L14_cn r9 a b i_1) k
theorem r3_Same_L14_ch (r9 : Nat → Int → Option (Bool)) (r9' : Int → Option (Bool)) (h_r9 : ∀ a0, ChO (fun κ => r9 κ a0) (r9' a0)) (a : Tp4) (b : Tp4) (i_1 : Int) (k : Int) : ChO (fun κ => r3_Same_L14 a b i_1 (r9 κ) k) (r3_Same_L14 a b i_1 r9' k) := by
  unfold r3_Same_L14
  exact LFix_ch (fun κ => (r3_Same_L14_cn (r9 κ) a b i_1).mono) (r3_Same_L14_cn r9' a b i_1).mono (fun g h hg x => r3_Same_L14_B_ch r9 r9' h_r9 (fun κ k => g κ k) (fun k => h k) (fun k => hg k) a b i_1 x) _
theorem r3_Same_L9_B_ch (r9 : Nat → Int → Option (Bool)) (r9' : Int → Option (Bool)) (h_r9 : ∀ a0, ChO (fun κ => r9 κ a0) (r9' a0)) (a : Tp4) (b : Tp4) (i_1 : Int) : ChO (fun κ => r3_Same_L9_B a b (r9 κ) i_1) (r3_Same_L9_B a b r9' i_1) := by
  unfold r3_Same_L9_B
  repeat' with_reducible first | exact ChO.const _ | exact h_r9 _ | (apply r3_Same_L14_ch <;> assumption) | apply ChO.ite | apply ChO.G | apply ChO.both | (apply ChO.bind; intro _)
theorem r3_Same_L9_cn  (a : Tp4) (b : Tp4) : Cn (r3_Same_L9_F a b) := fun g h hg x => r3_Same_L9_B_ch  (fun κ i_1 => g κ i_1) (fun i_1 => h i_1) (fun i_1 => hg i_1) a b x
theorem r3_Same_L9_eq  (a : Tp4) (b : Tp4) (i_1 : Int) : r3_Same_L9 a b i_1 = r3_Same_L9_B a b (r3_Same_L9 a b) i_1 := LFix_eq (r3_Same_L9_cn a b) i_1
theorem r3_Same_L4_B_ch (r4 : Nat → Int → Option (Bool)) (r4' : Int → Option (Bool)) (h_r4 : ∀ a0, ChO (fun κ => r4 κ a0) (r4' a0)) (a : Tp4) (b : Tp4) (i : Int) : ChO (fun κ => r3_Same_L4_B a b (r4 κ) i) (r3_Same_L4_B a b r4' i) := by
  unfold r3_Same_L4_B
  repeat' with_reducible first | exact ChO.const _ | exact h_r4 _ | (apply r3_Same_L14_ch <;> assumption) | apply ChO.ite | apply ChO.G | apply ChO.both | (apply ChO.bind; intro _)
theorem r3_Same_L4_cn  (a : Tp4) (b : Tp4) : Cn (r3_Same_L4_F a b) := fun g h hg x => r3_Same_L4_B_ch  (fun κ i => g κ i) (fun i => h i) (fun i => hg i) a b x
theorem r3_Same_L4_eq  (a : Tp4) (b : Tp4) (i : Int) : r3_Same_L4 a b i = r3_Same_L4_B a b (r3_Same_L4 a b) i := LFix_eq (r3_Same_L4_cn a b) i

noncomputable def r1_May_L6_B (letters : Int) (w : (List Int)) (r6 : Int → Option (Int)) (i : Int) : Option (Int) :=
  if (decide (i < (w.length : Int))) = true then
  G (0 ≤ i ∧ i < (w.length : Int)) (
  if (decide ((ix w i) < (0 : Int))) = true then
  some (2 : Int) else
  G (0 ≤ i ∧ i < (w.length : Int)) (
  if (decide (letters ≤ (ix w i))) = true then
  some (2 : Int) else
  G (fits (i + (1 : Int))) (
  r6 (i + (1 : Int))))) else
  some (0 : Int)
noncomputable def r1_May_L6_F (letters : Int) (w : (List Int)) : (Int → Option (Int)) → Int → Option (Int) :=
  fun rec x => r1_May_L6_B letters w (fun i => rec i) x
noncomputable def r1_May_L6 (letters : Int) (w : (List Int)) (i : Int) : Option (Int) := LFix (r1_May_L6_F letters w ) i
noncomputable def r1_May (letters : Int) (w : (List Int)) : Option (Int) :=
  if (decide (letters < (1 : Int))) = true then
  some (2 : Int) else
  if (decide ((4 : Int) < letters)) = true then
  some (2 : Int) else
  if (decide ((60 : Int) < (w.length : Int))) = true then
  some (1 : Int) else
  r1_May_L6 letters w (0 : Int)
theorem r1_May_L6_B_ch (r6 : Nat → Int → Option (Int)) (r6' : Int → Option (Int)) (h_r6 : ∀ a0, ChO (fun κ => r6 κ a0) (r6' a0)) (letters : Int) (w : (List Int)) (i : Int) : ChO (fun κ => r1_May_L6_B letters w (r6 κ) i) (r1_May_L6_B letters w r6' i) := by
  unfold r1_May_L6_B
  repeat' with_reducible first | exact ChO.const _ | exact h_r6 _ | apply ChO.ite | apply ChO.G | apply ChO.both | (apply ChO.bind; intro _)
theorem r1_May_L6_cn  (letters : Int) (w : (List Int)) : Cn (r1_May_L6_F letters w) := fun g h hg x => r1_May_L6_B_ch  (fun κ i => g κ i) (fun i => h i) (fun i => hg i) letters w x
theorem r1_May_L6_eq  (letters : Int) (w : (List Int)) (i : Int) : r1_May_L6 letters w i = r1_May_L6_B letters w (r1_May_L6 letters w) i := LFix_eq (r1_May_L6_cn letters w) i

noncomputable def r26_From_L12_B (rc_r26_From : Tp1 → Int → (List Int) → Int → (List (List Int)) → Option Tp5) (a : Tp1) (q : Int) (w : (List Int)) (at' : Int) (i : Int) (r8 : (Bool → Int → (List (List Int)) → Option Tp5)) (r12 : Bool → Int → (List (List Int)) → Option Tp5) (all' : Bool) (j : Int) (known_2 : (List (List Int))) : Option Tp5 :=
  G (0 ≤ i ∧ i < ((ix (ix a.2.2.1 q) (ix w at')).length : Int)) (
  if (decide (j < ((ix (ix (ix a.2.2.1 q) (ix w at')) i).length : Int))) = true then
  if all' = true then
  G (0 ≤ i ∧ i < ((ix (ix a.2.2.1 q) (ix w at')).length : Int)) (
  G (0 ≤ j ∧ j < ((ix (ix (ix a.2.2.1 q) (ix w at')) i).length : Int)) (
  G (fits (at' + (1 : Int))) (
  (rc_r26_From (a.1, (a.2.1, (a.2.2.1, (a.2.2.2.1, ())))) (ix (ix (ix (ix a.2.2.1 q) (ix w at')) i) j) w (at' + (1 : Int)) known_2).bind (fun y'_3 =>
  G (fits (j + (1 : Int))) (
  r12 y'_3.1 (j + (1 : Int)) y'_3.2))))) else
  G (fits (i + (1 : Int))) (
  r8 all' (i + (1 : Int)) known_2) else
  G (fits (i + (1 : Int))) (
  r8 all' (i + (1 : Int)) known_2))
noncomputable def r26_From_L12_F (rc_r26_From : Tp1 → Int → (List Int) → Int → (List (List Int)) → Option Tp5) (a : Tp1) (q : Int) (w : (List Int)) (at' : Int) (i : Int) (r8 : (Bool → Int → (List (List Int)) → Option Tp5)) : (Bool × Int × (List (List Int)) → Option Tp5) → Bool × Int × (List (List Int)) → Option Tp5 :=
  fun rec x => r26_From_L12_B rc_r26_From a q w at' i r8 (fun all' j known_2 => rec (all', j, known_2)) x.1 x.2.1 x.2.2
noncomputable def r26_From_L12 (rc_r26_From : Tp1 → Int → (List Int) → Int → (List (List Int)) → Option Tp5) (a : Tp1) (q : Int) (w : (List Int)) (at' : Int) (i : Int) (r8 : (Bool → Int → (List (List Int)) → Option Tp5)) (all' : Bool) (j : Int) (known_2 : (List (List Int))) : Option Tp5 := LFix (r26_From_L12_F rc_r26_From a q w at' i r8 ) (all', j, known_2)
noncomputable def r26_From_J18 (is'_1 : Bool) (known_4 : (List (List Int))) : Option Tp5 :=
  some (is'_1, known_4)
noncomputable def r26_From_J9 (q : Int) (at' : Int) (is'_1 : Bool) (known_3 : (List (List Int))) : Option Tp5 :=
  G (0 ≤ q ∧ q < (known_3.length : Int)) (
  G ((q).toNat < known_3.length) (
  G (0 ≤ at' ∧ at' < ((ix known_3 q).length : Int)) (
  G ((at').toNat < (ix known_3 q).length) (
  if is'_1 = true then
  G (0 ≤ q ∧ q < ((known_3.set (q).toNat ((ix known_3 q).set (at').toNat (2 : Int))).length : Int)) (
  G ((q).toNat < (known_3.set (q).toNat ((ix known_3 q).set (at').toNat (2 : Int))).length) (
  G (0 ≤ at' ∧ at' < ((ix (known_3.set (q).toNat ((ix known_3 q).set (at').toNat (2 : Int))) q).length : Int)) (
  G ((at').toNat < (ix (known_3.set (q).toNat ((ix known_3 q).set (at').toNat (2 : Int))) q).length) (
  r26_From_J18 is'_1 ((known_3.set (q).toNat ((ix known_3 q).set (at').toNat (2 : Int))).set (q).toNat ((ix (known_3.set (q).toNat ((ix known_3 q).set (at').toNat (2 : Int))) q).set (at').toNat (1 : Int))))))) else
  r26_From_J18 is'_1 (known_3.set (q).toNat ((ix known_3 q).set (at').toNat (2 : Int)))))))
noncomputable def r26_From_L8_B (rc_r26_From : Tp1 → Int → (List Int) → Int → (List (List Int)) → Option Tp5) (a : Tp1) (q : Int) (w : (List Int)) (at' : Int) (r8 : Bool → Int → (List (List Int)) → Option Tp5) (is' : Bool) (i : Int) (known_1 : (List (List Int))) : Option Tp5 :=
  if (decide (i < ((ix (ix a.2.2.1 q) (ix w at')).length : Int))) = true then
  if (!is') = true then
  r26_From_L12 rc_r26_From a q w at' i r8 true (0 : Int) known_1 else
  r26_From_J9 q at' is' known_1 else
  r26_From_J9 q at' is' known_1
noncomputable def r26_From_L8_F (rc_r26_From : Tp1 → Int → (List Int) → Int → (List (List Int)) → Option Tp5) (a : Tp1) (q : Int) (w : (List Int)) (at' : Int) : (Bool × Int × (List (List Int)) → Option Tp5) → Bool × Int × (List (List Int)) → Option Tp5 :=
  fun rec x => r26_From_L8_B rc_r26_From a q w at' (fun is' i known_1 => rec (is', i, known_1)) x.1 x.2.1 x.2.2
noncomputable def r26_From_L8 (rc_r26_From : Tp1 → Int → (List Int) → Int → (List (List Int)) → Option Tp5) (a : Tp1) (q : Int) (w : (List Int)) (at' : Int) (is' : Bool) (i : Int) (known_1 : (List (List Int))) : Option Tp5 := LFix (r26_From_L8_F rc_r26_From a q w at' ) (is', i, known_1)
noncomputable def r26_From_B (rc_r26_From : Tp1 → Int → (List Int) → Int → (List (List Int)) → Option Tp5) (a : Tp1) (q : Int) (w : (List Int)) (at' : Int) (known : (List (List Int))) : Option Tp5 :=
  G (0 ≤ q ∧ q < (known.length : Int)) (
  G ((q).toNat < known.length) (
  G (0 ≤ at' ∧ at' < ((ix known q).length : Int)) (
  G ((at').toNat < (ix known q).length) (
  if (decide ((0 : Int) < (ix (ix known q) at'))) = true then
  G (0 ≤ q ∧ q < (known.length : Int)) (
  G ((q).toNat < known.length) (
  G (0 ≤ at' ∧ at' < ((ix known q).length : Int)) (
  G ((at').toNat < (ix known q).length) (
  some (decide ((ix (ix known q) at') = (1 : Int)), known))))) else
  G (0 ≤ q ∧ q < (a.2.2.2.1.length : Int)) (
  if (decide (at' < (w.length : Int))) = true then
  G (0 ≤ q ∧ q < (a.2.2.1.length : Int)) (
  G (0 ≤ at' ∧ at' < (w.length : Int)) (
  G (0 ≤ ix w at' ∧ ix w at' < ((ix a.2.2.1 q).length : Int)) (
  r26_From_L8 rc_r26_From a q w at' false (0 : Int) known))) else
  r26_From_J9 q at' (decide ((ix a.2.2.2.1 q) = (1 : Int))) known)))))
theorem r26_From_L12_B_ch (rc_r26_From : Nat → Tp1 → Int → (List Int) → Int → (List (List Int)) → Option Tp5) (rc_r26_From' : Tp1 → Int → (List Int) → Int → (List (List Int)) → Option Tp5) (h_rc_r26_From : ∀ a0 a1 a2 a3 a4, ChO (fun κ => rc_r26_From κ a0 a1 a2 a3 a4) (rc_r26_From' a0 a1 a2 a3 a4)) (r8 : Nat → Bool → Int → (List (List Int)) → Option Tp5) (r8' : Bool → Int → (List (List Int)) → Option Tp5) (h_r8 : ∀ a0 a1 a2, ChO (fun κ => r8 κ a0 a1 a2) (r8' a0 a1 a2)) (r12 : Nat → Bool → Int → (List (List Int)) → Option Tp5) (r12' : Bool → Int → (List (List Int)) → Option Tp5) (h_r12 : ∀ a0 a1 a2, ChO (fun κ => r12 κ a0 a1 a2) (r12' a0 a1 a2)) (a : Tp1) (q : Int) (w : (List Int)) (at' : Int) (i : Int) (all' : Bool) (j : Int) (known_2 : (List (List Int))) : ChO (fun κ => r26_From_L12_B (rc_r26_From κ) a q w at' i (r8 κ) (r12 κ) all' j known_2) (r26_From_L12_B rc_r26_From' a q w at' i r8' r12' all' j known_2) := by
  unfold r26_From_L12_B
  repeat' with_reducible first | exact ChO.const _ | exact h_rc_r26_From _ _ _ _ _ | exact h_r8 _ _ _ | exact h_r12 _ _ _ | apply ChO.ite | apply ChO.G | apply ChO.both | (apply ChO.bind; intro _) | (apply ChO.bind2 (h_rc_r26_From _ _ _ _ _); intro _)
theorem r26_From_L12_cn (rc_r26_From : Tp1 → Int → (List Int) → Int → (List (List Int)) → Option Tp5) (r8 : Bool → Int → (List (List Int)) → Option Tp5) (a : Tp1) (q : Int) (w : (List Int)) (at' : Int) (i : Int) : Cn (r26_From_L12_F rc_r26_From a q w at' i r8) := fun g h hg x => r26_From_L12_B_ch (fun _ => rc_r26_From) rc_r26_From (fun _ _ _ _ _ => ChO.const _) (fun _ => r8) r8 (fun _ _ _ => ChO.const _) (fun κ all' j known_2 => g κ (all', j, known_2)) (fun all' j known_2 => h (all', j, known_2)) (fun all' j known_2 => hg (all', j, known_2)) a q w at' i x.1 x.2.1 x.2.2
theorem r26_From_L12_eq (rc_r26_From : Tp1 → Int → (List Int) → Int → (List (List Int)) → Option Tp5) (r8 : Bool → Int → (List (List Int)) → Option Tp5) (a : Tp1) (q : Int) (w : (List Int)) (at' : Int) (i : Int) (all' : Bool) (j : Int) (known_2 : (List (List Int))) : r26_From_L12 rc_r26_From a q w at' i r8 all' j known_2 = r26_From_L12_B rc_r26_From a q w at' i r8 (r26_From_L12 rc_r26_From a q w at' i r8) all' j known_2 := LFix_eq (r26_From_L12_cn rc_r26_From r8 a q w at' i) (all', j, known_2)
theorem r26_From_L12_ch (rc_r26_From : Nat → Tp1 → Int → (List Int) → Int → (List (List Int)) → Option Tp5) (rc_r26_From' : Tp1 → Int → (List Int) → Int → (List (List Int)) → Option Tp5) (h_rc_r26_From : ∀ a0 a1 a2 a3 a4, ChO (fun κ => rc_r26_From κ a0 a1 a2 a3 a4) (rc_r26_From' a0 a1 a2 a3 a4)) (r8 : Nat → Bool → Int → (List (List Int)) → Option Tp5) (r8' : Bool → Int → (List (List Int)) → Option Tp5) (h_r8 : ∀ a0 a1 a2, ChO (fun κ => r8 κ a0 a1 a2) (r8' a0 a1 a2)) (a : Tp1) (q : Int) (w : (List Int)) (at' : Int) (i : Int) (all' : Bool) (j : Int) (known_2 : (List (List Int))) : ChO (fun κ => r26_From_L12 (rc_r26_From κ) a q w at' i (r8 κ) all' j known_2) (r26_From_L12 rc_r26_From' a q w at' i r8' all' j known_2) := by
  unfold r26_From_L12
  exact LFix_ch (fun κ => (r26_From_L12_cn (rc_r26_From κ) (r8 κ) a q w at' i).mono) (r26_From_L12_cn rc_r26_From' r8' a q w at' i).mono (fun g h hg x => r26_From_L12_B_ch rc_r26_From rc_r26_From' h_rc_r26_From r8 r8' h_r8 (fun κ all' j known_2 => g κ (all', j, known_2)) (fun all' j known_2 => h (all', j, known_2)) (fun all' j known_2 => hg (all', j, known_2)) a q w at' i x.1 x.2.1 x.2.2) _
theorem r26_From_L8_B_ch (rc_r26_From : Nat → Tp1 → Int → (List Int) → Int → (List (List Int)) → Option Tp5) (rc_r26_From' : Tp1 → Int → (List Int) → Int → (List (List Int)) → Option Tp5) (h_rc_r26_From : ∀ a0 a1 a2 a3 a4, ChO (fun κ => rc_r26_From κ a0 a1 a2 a3 a4) (rc_r26_From' a0 a1 a2 a3 a4)) (r8 : Nat → Bool → Int → (List (List Int)) → Option Tp5) (r8' : Bool → Int → (List (List Int)) → Option Tp5) (h_r8 : ∀ a0 a1 a2, ChO (fun κ => r8 κ a0 a1 a2) (r8' a0 a1 a2)) (a : Tp1) (q : Int) (w : (List Int)) (at' : Int) (is' : Bool) (i : Int) (known_1 : (List (List Int))) : ChO (fun κ => r26_From_L8_B (rc_r26_From κ) a q w at' (r8 κ) is' i known_1) (r26_From_L8_B rc_r26_From' a q w at' r8' is' i known_1) := by
  unfold r26_From_L8_B
  repeat' with_reducible first | exact ChO.const _ | exact h_rc_r26_From _ _ _ _ _ | exact h_r8 _ _ _ | (apply r26_From_L12_ch <;> assumption) | apply ChO.ite | apply ChO.G | apply ChO.both | (apply ChO.bind; intro _) | (apply ChO.bind2 (h_rc_r26_From _ _ _ _ _); intro _)
theorem r26_From_L8_cn (rc_r26_From : Tp1 → Int → (List Int) → Int → (List (List Int)) → Option Tp5) (a : Tp1) (q : Int) (w : (List Int)) (at' : Int) : Cn (r26_From_L8_F rc_r26_From a q w at') := fun g h hg x => r26_From_L8_B_ch (fun _ => rc_r26_From) rc_r26_From (fun _ _ _ _ _ => ChO.const _) (fun κ is' i known_1 => g κ (is', i, known_1)) (fun is' i known_1 => h (is', i, known_1)) (fun is' i known_1 => hg (is', i, known_1)) a q w at' x.1 x.2.1 x.2.2
theorem r26_From_L8_eq (rc_r26_From : Tp1 → Int → (List Int) → Int → (List (List Int)) → Option Tp5) (a : Tp1) (q : Int) (w : (List Int)) (at' : Int) (is' : Bool) (i : Int) (known_1 : (List (List Int))) : r26_From_L8 rc_r26_From a q w at' is' i known_1 = r26_From_L8_B rc_r26_From a q w at' (r26_From_L8 rc_r26_From a q w at') is' i known_1 := LFix_eq (r26_From_L8_cn rc_r26_From a q w at') (is', i, known_1)
theorem r26_From_L8_ch (rc_r26_From : Nat → Tp1 → Int → (List Int) → Int → (List (List Int)) → Option Tp5) (rc_r26_From' : Tp1 → Int → (List Int) → Int → (List (List Int)) → Option Tp5) (h_rc_r26_From : ∀ a0 a1 a2 a3 a4, ChO (fun κ => rc_r26_From κ a0 a1 a2 a3 a4) (rc_r26_From' a0 a1 a2 a3 a4)) (a : Tp1) (q : Int) (w : (List Int)) (at' : Int) (is' : Bool) (i : Int) (known_1 : (List (List Int))) : ChO (fun κ => r26_From_L8 (rc_r26_From κ) a q w at' is' i known_1) (r26_From_L8 rc_r26_From' a q w at' is' i known_1) := by
  unfold r26_From_L8
  exact LFix_ch (fun κ => (r26_From_L8_cn (rc_r26_From κ) a q w at').mono) (r26_From_L8_cn rc_r26_From' a q w at').mono (fun g h hg x => r26_From_L8_B_ch rc_r26_From rc_r26_From' h_rc_r26_From (fun κ is' i known_1 => g κ (is', i, known_1)) (fun is' i known_1 => h (is', i, known_1)) (fun is' i known_1 => hg (is', i, known_1)) a q w at' x.1 x.2.1 x.2.2) _
theorem r26_From_B_ch (rc_r26_From : Nat → Tp1 → Int → (List Int) → Int → (List (List Int)) → Option Tp5) (rc_r26_From' : Tp1 → Int → (List Int) → Int → (List (List Int)) → Option Tp5) (h_rc_r26_From : ∀ a0 a1 a2 a3 a4, ChO (fun κ => rc_r26_From κ a0 a1 a2 a3 a4) (rc_r26_From' a0 a1 a2 a3 a4)) (a : Tp1) (q : Int) (w : (List Int)) (at' : Int) (known : (List (List Int))) : ChO (fun κ => r26_From_B (rc_r26_From κ) a q w at' known) (r26_From_B rc_r26_From' a q w at' known) := by
  unfold r26_From_B
  repeat' with_reducible first | exact ChO.const _ | exact h_rc_r26_From _ _ _ _ _ | (apply r26_From_L12_ch <;> assumption) | (apply r26_From_L8_ch <;> assumption) | apply ChO.ite | apply ChO.G | apply ChO.both | (apply ChO.bind; intro _) | (apply ChO.bind2 (h_rc_r26_From _ _ _ _ _); intro _)
noncomputable def r26_From_F : (Tp1 × Int × (List Int) × Int × (List (List Int)) → Option Tp5) → Tp1 × Int × (List Int) × Int × (List (List Int)) → Option Tp5 :=
  fun rec X => r26_From_B (fun a q w at' known => rec (a, q, w, at', known)) X.1 X.2.1 X.2.2.1 X.2.2.2.1 X.2.2.2.2
noncomputable def r26_From (a : Tp1) (q : Int) (w : (List Int)) (at' : Int) (known : (List (List Int))) : Option Tp5 := LFix r26_From_F (a, q, w, at', known)
theorem r26_From_cn : Cn r26_From_F := fun g h hg X => r26_From_B_ch _ _ (fun a q w at' known => hg (a, q, w, at', known)) X.1 X.2.1 X.2.2.1 X.2.2.2.1 X.2.2.2.2
theorem r26_From_eq (a : Tp1) (q : Int) (w : (List Int)) (at' : Int) (known : (List (List Int))) : r26_From a q w at' known = r26_From_B r26_From a q w at' known := LFix_eq r26_From_cn (a, q, w, at', known)

noncomputable def r26_Accepts_L3_B (a : Tp1) (w : (List Int)) (r3 : Int → (List (List Int)) → Option (Bool)) (q : Int) (known : (List (List Int))) : Option (Bool) :=
  if (decide (q < (a.2.2.1.length : Int))) = true then
  G (fits ((w.length : Int) + (1 : Int))) (
  G (mkOK ((w.length : Int) + (1 : Int)) ((w.length : Int) + (1 : Int)) 8) (
  G (room known ([List.replicate ((w.length : Int) + (1 : Int)).toNat (0 : Int)]) 24) (
  G (fits (q + (1 : Int))) (
  r3 (q + (1 : Int)) (known ++ ([List.replicate ((w.length : Int) + (1 : Int)).toNat (0 : Int)])))))) else
  (r26_From (a.1, (a.2.1, (a.2.2.1, (a.2.2.2.1, ())))) a.2.1 w (0 : Int) known).bind (fun y'_3 =>
  some y'_3.1)
noncomputable def r26_Accepts_L3_F (a : Tp1) (w : (List Int)) : (Int × (List (List Int)) → Option (Bool)) → Int × (List (List Int)) → Option (Bool) :=
  fun rec x => r26_Accepts_L3_B a w (fun q known => rec (q, known)) x.1 x.2
noncomputable def r26_Accepts_L3 (a : Tp1) (w : (List Int)) (q : Int) (known : (List (List Int))) : Option (Bool) := LFix (r26_Accepts_L3_F a w ) (q, known)
noncomputable def r26_Accepts (a : Tp1) (w : (List Int)) : Option (Bool) :=
  r26_Accepts_L3 a w (0 : Int) ([])
theorem r26_Accepts_L3_B_ch (r3 : Nat → Int → (List (List Int)) → Option (Bool)) (r3' : Int → (List (List Int)) → Option (Bool)) (h_r3 : ∀ a0 a1, ChO (fun κ => r3 κ a0 a1) (r3' a0 a1)) (a : Tp1) (w : (List Int)) (q : Int) (known : (List (List Int))) : ChO (fun κ => r26_Accepts_L3_B a w (r3 κ) q known) (r26_Accepts_L3_B a w r3' q known) := by
  unfold r26_Accepts_L3_B
  repeat' with_reducible first | exact ChO.const _ | exact h_r3 _ _ | apply ChO.ite | apply ChO.G | apply ChO.both | (apply ChO.bind; intro _)
theorem r26_Accepts_L3_cn  (a : Tp1) (w : (List Int)) : Cn (r26_Accepts_L3_F a w) := fun g h hg x => r26_Accepts_L3_B_ch  (fun κ q known => g κ (q, known)) (fun q known => h (q, known)) (fun q known => hg (q, known)) a w x.1 x.2
theorem r26_Accepts_L3_eq  (a : Tp1) (w : (List Int)) (q : Int) (known : (List (List Int))) : r26_Accepts_L3 a w q known = r26_Accepts_L3_B a w (r26_Accepts_L3 a w) q known := LFix_eq (r26_Accepts_L3_cn a w) (q, known)

noncomputable def r3_After_L2_B (d : Tp4) (w : (List Int)) (r2 : Int → Int → Option (Int)) (q_1 : Int) (i : Int) : Option (Int) :=
  if (decide (i < (w.length : Int))) = true then
  G (0 ≤ q_1 ∧ q_1 < (d.2.2.1.length : Int)) (
  G (0 ≤ i ∧ i < (w.length : Int)) (
  G (0 ≤ ix w i ∧ ix w i < ((ix d.2.2.1 q_1).length : Int)) (
  G (fits (i + (1 : Int))) (
  r2 (ix (ix d.2.2.1 q_1) (ix w i)) (i + (1 : Int)))))) else
  some q_1
noncomputable def r3_After_L2_F (d : Tp4) (w : (List Int)) : (Int × Int → Option (Int)) → Int × Int → Option (Int) :=
  fun rec x => r3_After_L2_B d w (fun q_1 i => rec (q_1, i)) x.1 x.2
noncomputable def r3_After_L2 (d : Tp4) (w : (List Int)) (q_1 : Int) (i : Int) : Option (Int) := LFix (r3_After_L2_F d w ) (q_1, i)
noncomputable def r3_After (d : Tp4) (q : Int) (w : (List Int)) : Option (Int) :=
  r3_After_L2 d w q (0 : Int)
theorem r3_After_L2_B_ch (r2 : Nat → Int → Int → Option (Int)) (r2' : Int → Int → Option (Int)) (h_r2 : ∀ a0 a1, ChO (fun κ => r2 κ a0 a1) (r2' a0 a1)) (d : Tp4) (w : (List Int)) (q_1 : Int) (i : Int) : ChO (fun κ => r3_After_L2_B d w (r2 κ) q_1 i) (r3_After_L2_B d w r2' q_1 i) := by
  unfold r3_After_L2_B
  repeat' with_reducible first | exact ChO.const _ | exact h_r2 _ _ | apply ChO.ite | apply ChO.G | apply ChO.both | (apply ChO.bind; intro _)
theorem r3_After_L2_cn  (d : Tp4) (w : (List Int)) : Cn (r3_After_L2_F d w) := fun g h hg x => r3_After_L2_B_ch  (fun κ q_1 i => g κ (q_1, i)) (fun q_1 i => h (q_1, i)) (fun q_1 i => hg (q_1, i)) d w x.1 x.2
theorem r3_After_L2_eq  (d : Tp4) (w : (List Int)) (q_1 : Int) (i : Int) : r3_After_L2 d w q_1 i = r3_After_L2_B d w (r3_After_L2 d w) q_1 i := LFix_eq (r3_After_L2_cn d w) (q_1, i)

noncomputable def r3_Accepts (d : Tp4) (w : (List Int)) : Option (Bool) :=
  (r3_After (d.1, (d.2.1, (d.2.2.1, (d.2.2.2.1, ())))) d.2.1 w).bind (fun y' =>
  G (0 ≤ y' ∧ y' < (d.2.2.2.1.length : Int)) (
  some (decide ((ix d.2.2.2.1 y') = (1 : Int)))))

noncomputable def law_AlterDet (a : Tp1) (w : (List Int)) : Option (Bool) :=
  (alter_Det (a.1, (a.2.1, (a.2.2.1, (a.2.2.2.1, ()))))).bind (fun y'_13 =>
  (law_noDet (y'_13.1.1, (y'_13.1.2.1, (y'_13.1.2.2.1, (y'_13.1.2.2.2.1, ()))))).bind (fun y'_3 =>
  (r26_Check (a.1, (a.2.1, (a.2.2.1, (a.2.2.2.1, ()))))).bind (fun y'_4 =>
  if (decide (¬ y'_4 = (0 : Int))) = true then
  if (decide (y'_13.2 = y'_4)) = true then
  some y'_3 else
  some false else
  (r26_Det (a.1, (a.2.1, (a.2.2.1, (a.2.2.2.1, ()))))).bind (fun y'_12 =>
  if y'_12.2 = true then
  some true else
  (r3_Same (y'_13.1.1, (y'_13.1.2.1, (y'_13.1.2.2.1, (y'_13.1.2.2.2.1, ())))) (y'_12.1.1, (y'_12.1.2.1, (y'_12.1.2.2.1, (y'_12.1.2.2.2.1, ()))))).bind (fun y'_8 =>
  if (decide (¬ y'_13.2 = (0 : Int))) = true then
  some false else
  if (!y'_8) = true then
  some false else
  (r1_May a.1 w).bind (fun y'_9 =>
  if (decide (¬ y'_9 = (0 : Int))) = true then
  some true else
  (r26_Accepts (a.1, (a.2.1, (a.2.2.1, (a.2.2.2.1, ())))) w).bind (fun y'_10 =>
  (r3_Accepts (y'_13.1.1, (y'_13.1.2.1, (y'_13.1.2.2.1, (y'_13.1.2.2.2.1, ())))) w).bind (fun y'_11 =>
  some (decide (y'_10 = y'_11))))))))))

end Go.Proofs.Ytbmagobehiemeaa.alterDetW
