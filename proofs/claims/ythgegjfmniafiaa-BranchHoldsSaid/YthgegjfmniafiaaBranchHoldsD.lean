/- What the functions that 'BranchHolds' reaches compute: plain functions. -/
import Derived.Test.YthgegjfmniafiaaEv29n21
set_option maxHeartbeats 1000000
set_option maxRecDepth 20000
set_option linter.unusedSimpArgs false
set_option linter.unusedVariables false
set_option linter.unusedSectionVars false
namespace Go.Proofs.Ythgegjfmniafiaa.branchHoldsW
open Go Go.Ab
noncomputable section
abbrev Tp15 := (List Int)
abbrev Tp14 := (List Bool)
abbrev Tp13 := (List Tp15)
abbrev Tp12 := (Int × Int × Int × Unit)
abbrev Tp11 := (Int × Bool × Int × Unit)
abbrev Tp10 := (List Tp12)
abbrev Tp9 := (Int × Bool × Int × Int × Int × Unit)
abbrev Tc8 : Ty := (.pair (.list (.list (.int .i64))) .unit)
abbrev Tp8 := (List Tp9)
abbrev Tc7 : Ty := (.pair (.int .i64) (.pair (.int .i64) .unit))
abbrev Tp7 := (Int × Int × Tp10 × Unit)
abbrev Tp6 := (Int × Int × Int × Tp10 × Unit)
abbrev Tc6 : Ty := (.pair (.int .i64) Tc7)
abbrev Tc5 : Ty := (.list Tc6)
abbrev Tp5 := (Tp7 × Tp13 × Unit)
abbrev Tc4 : Ty := (.pair Tc5 .unit)
abbrev Tp4 := (Bool × Tp7 × Tp13 × Unit)
abbrev Tp3 := (Tp14 × Tp7 × Tp13 × Unit)
abbrev Tc3 : Ty := (.pair (.int .i64) Tc4)
abbrev Tp2 := (Tp14 × Tp14 × Tp7 × Tp13 × Unit)
abbrev Tp1 := (Tp14 × Tp14 × Tp14 × Tp7 × Tp13 × Unit)
abbrev Tc2 : Ty := (.pair (.int .i64) Tc3)
abbrev Tc1 : Ty := (.pair Tc2 Tc8)
abbrev Tf1 := Tp14 -> Tp14 -> Int -> Tp5 -> Tp14 -> Option Tp3
abbrev Tf2 := Int -> Tp14 -> Tp5 -> Tp14 -> Tp14 -> Option Tp1
abbrev Tf3 := Int -> Int -> Int -> Tp10 -> Tp13 -> Option Tp5
abbrev Tf4 := Tp14 -> Int -> Tp5 -> Tp14 -> Option Tp3
abbrev Tf5 := Int -> Tp5 -> Tp14 -> Tp14 -> Option Tp2
abbrev Tf6 := Tp5 -> Tp14 -> Tp14 -> Option Tp14
def zhW (p : Int) (t : Tp7) : Option (Bool) :=
  if (decide (p < (0 : Int))) = true then
  some true else
  some (decide (t.2.1 <= p))

def zhX (x' : Tp12) (t : Tp7) (c : Tp7) : Option (Bool × Int × Int × Tp10 × Unit) :=
  (zhW x'.1 c).bind (fun y' =>
  if y' = true then
  some (true, c) else
  (zhW x'.2.2.1 c).bind (fun y'_1 =>
  if y'_1 = true then
  some (true, c) else
  if (decide (x'.2.1 < (0 : Int))) = true then
  some (true, c) else
  some (decide (t.1 <= x'.2.1), c)))

def zcr (s : Tp10) (r2 : Tp7 -> Int -> Tp7 -> Option Tp6) (f : Tp7) (t : Int) (l : Tp7) : Option Tp6 :=
  if (decide (t < (s.length : Int))) = true then
  G (0 <= t /\ t < (s.length : Int)) (
  (zhX (ix s t) f l).bind (fun y'_3 =>
  if y'_3.1 = true then
  some (t, y'_3.2) else
  G (fits (t + (1 : Int))) (
  r2 f (t + (1 : Int)) y'_3.2))) else
  some ((-1 : Int), l)
def zh1 (s : Tp10) : (Tp7 × Int × Int × Int × Tp10 × Unit -> Option Tp6) -> Tp7 × Int × Int × Int × Tp10 × Unit -> Option Tp6 :=
  fun rec x => zcr s (fun f t l => rec (f, t, l)) x.1 x.2.1 x.2.2
def zfE (s : Tp10) (f : Tp7) (t : Int) (l : Tp7) : Option Tp6 := LFix (zh1 s ) (f, t, l)
def zlS (s : Tp10) (c : Tp7) (c_1 : Tp7) : Option Tp6 :=
  zfE s c (0 : Int) c_1
theorem zk2 (r2 : Nat -> Tp7 -> Int -> Tp7 -> Option Tp6) (r2' : Tp7 -> Int -> Tp7 -> Option Tp6) (h_r2 : ∀ a0 a1 a2, ChO (fun κ => r2 κ a0 a1 a2) (r2' a0 a1 a2)) (s : Tp10) (f : Tp7) (t : Int) (l : Tp7) : ChO (fun κ => zcr s (r2 κ) f t l) (zcr s r2' f t l) := by
  unfold zcr
  repeat' with_reducible first | exact ChO.const _ | exact h_r2 _ _ _ | apply ChO.ite | apply ChO.G | apply ChO.both | (apply ChO.bind; intro _)
theorem zl3  (s : Tp10) : Cn (zh1 s) := fun g h hg x => zk2  (fun κ f t l => g κ (f, t, l)) (fun f t l => h (f, t, l)) (fun f t l => hg (f, t, l)) s x.1 x.2.1 x.2.2
theorem zl4  (s : Tp10) (f : Tp7) (t : Int) (l : Tp7) : zfE s f t l = zcr s (zfE s) f t l := zaK (zl3 s) (f, t, l)

def zfD (s : Tp10) (c : Tp7) (c_1 : Tp7) : Option (Bool × Int × Int × Tp10 × Unit) :=
  (zlS s c c_1).bind (fun y'_3 =>
  some (decide ((0 : Int) <= y'_3.1), y'_3.2))

def zoi (x' : Int) : Option (Bool) :=
  some (decide (¬ x' = x'))

def zhq (x' : Int) (y' : Int) : Option (Int) :=
  (zoi x').bind (fun y'_1 =>
  (zoi y').bind (fun y'_2 =>
  if y'_1 = true then
  if y'_2 = true then
  some (0 : Int) else
  some (-1 : Int) else
  if y'_2 = true then
  some (1 : Int) else
  if (decide (x' < y')) = true then
  some (-1 : Int) else
  if (decide (y' < x')) = true then
  some (1 : Int) else
  some (0 : Int)))

def zdS (vals : Tp15) (r3 : Int -> Option (Int)) (t : Int) : Option (Int) :=
  if (decide (t < (vals.length : Int))) = true then
  G (0 <= t /\ t < (vals.length : Int)) (
  if (decide (¬ (ix vals t) = (0 : Int))) = true then
  some (ix vals t) else
  G (fits (t + (1 : Int))) (
  r3 (t + (1 : Int)))) else
  some (0 : Int)
def zrk (vals : Tp15) : (Int -> Option (Int)) -> Int -> Option (Int) :=
  fun rec x => zdS vals (fun t => rec t) x
def zrj (vals : Tp15) (t : Int) : Option (Int) := LFix (zrk vals ) t
def zvS (vals : Tp15) : Option (Int) :=
  zrj vals (0 : Int)
theorem zsc (r3 : Nat -> Int -> Option (Int)) (r3' : Int -> Option (Int)) (h_r3 : ∀ a0, ChO (fun κ => r3 κ a0) (r3' a0)) (vals : Tp15) (t : Int) : ChO (fun κ => zdS vals (r3 κ) t) (zdS vals r3' t) := by
  unfold zdS
  repeat' with_reducible first | exact ChO.const _ | exact h_r3 _ | apply ChO.ite | apply ChO.G | apply ChO.both | (apply ChO.bind; intro _)
theorem zt9  (vals : Tp15) : Cn (zrk vals) := fun g h hg x => zsc  (fun κ t => g κ t) (fun t => h t) (fun t => hg t) vals x
theorem zjE  (vals : Tp15) (t : Int) : zrj vals t = zdS vals (zrj vals) t := zaK (zt9 vals) t

def znl (x' : Tp12) (y' : Tp12) : Option (Int) :=
  (zhq x'.1 y'.1).bind (fun y'_1 =>
  (zhq x'.2.1 y'.2.1).bind (fun y'_2 =>
  (zhq x'.2.2.1 y'.2.2.1).bind (fun y'_3 =>
  (zvS ([y'_1, y'_2, y'_3])).bind (fun y'_4 =>
  some y'_4))))

def zcq (g' : Tp7) (r9 : Int -> Option (Int)) (t : Int) : Option (Int) :=
  if (decide (t < (g'.2.2.1.length : Int))) = true then
  if (decide ((0 : Int) < t)) = true then
  G (fits (t - (1 : Int))) (
  G (0 <= t - (1 : Int) /\ t - (1 : Int) < (g'.2.2.1.length : Int)) (
  G (0 <= t /\ t < (g'.2.2.1.length : Int)) (
  (znl (ix g'.2.2.1 (t - (1 : Int))) (ix g'.2.2.1 t)).bind (fun y'_3 =>
  if (decide ((0 : Int) <= y'_3)) = true then
  some (3 : Int) else
  G (fits (t + (1 : Int))) (
  r9 (t + (1 : Int))))))) else
  G (fits (t + (1 : Int))) (
  r9 (t + (1 : Int))) else
  some (0 : Int)
def zmT (g' : Tp7) : (Int -> Option (Int)) -> Int -> Option (Int) :=
  fun rec x => zcq g' (fun t => rec t) x
def zlu (g' : Tp7) (t : Int) : Option (Int) := LFix (zmT g' ) t
def znk (g' : Tp7) : Option (Int) :=
  if (decide (g'.1 < (1 : Int))) = true then
  some (2 : Int) else
  if (decide ((4 : Int) < g'.1)) = true then
  some (2 : Int) else
  if (decide (g'.2.1 < (1 : Int))) = true then
  some (1 : Int) else
  if (decide ((12 : Int) < g'.2.1)) = true then
  some (1 : Int) else
  if (decide ((60 : Int) < (g'.2.2.1.length : Int))) = true then
  some (1 : Int) else
  (zfD g'.2.2.1 (g'.1, (g'.2.1, (g'.2.2.1, ()))) (g'.1, (g'.2.1, (g'.2.2.1, ())))).bind (fun y'_4 =>
  if y'_4.1 = true then
  some (2 : Int) else
  zlu g' (0 : Int))
theorem zpl (r9 : Nat -> Int -> Option (Int)) (r9' : Int -> Option (Int)) (h_r9 : ∀ a0, ChO (fun κ => r9 κ a0) (r9' a0)) (g' : Tp7) (t : Int) : ChO (fun κ => zcq g' (r9 κ) t) (zcq g' r9' t) := by
  unfold zcq
  repeat' with_reducible first | exact ChO.const _ | exact h_r9 _ | apply ChO.ite | apply ChO.G | apply ChO.both | (apply ChO.bind; intro _)
theorem zqN  (g' : Tp7) : Cn (zmT g') := fun g h hg x => zpl  (fun κ t => g κ t) (fun t => h t) (fun t => hg t) g' x
theorem zh8  (g' : Tp7) (t : Int) : zlu g' t = zcq g' (zlu g') t := zaK (zqN g') t

def zbL (r : ((List UInt8) × Int × Int × Int × Unit)) : Option (Int) :=
  if (decide (r.2.1 < (r.1.length : Int))) = true then
  G (0 <= r.2.1 /\ r.2.1 < (r.1.length : Int)) (
  some (bAt r.1 r.2.1)) else
  some (0 : Int)

def zbs (r : ((List UInt8) × Int × Int × Int × Unit)) (code : Int) : Option ((Unit) ⊕ (Int × Int)) :=
  some (.inr ((((code, (r.2.1, ())), ())).1.1, (((code, (r.2.1, ())), ())).1.2.1))

def zaE (c : (List UInt8)) (c_1 : Int) (c_2 : Int) (c_3 : Int) : Option (((List UInt8) × Int × Int × Int) ⊕ (Int × Int)) :=
  G (fits (c_3 + (1 : Int))) (
  if (decide ((30 : Int) < (c_3 + (1 : Int)))) = true then
  pbind (zbs (c, (c_1, (c_2, (c_3 + (1 : Int), ())))) (7 : Int)) (fun _ =>
  G (fits (c_1 + (1 : Int))) (
  some (.inl (c, c_1 + (1 : Int), c_2, c_3 + (1 : Int))))) (fun p => some (.inr (p.1, p.2))) else
  G (fits (c_1 + (1 : Int))) (
  some (.inl (c, c_1 + (1 : Int), c_2, c_3 + (1 : Int)))))

def zc7 (c : (List UInt8)) (c_1 : Int) (c_2 : Int) (c_3 : Int) : Option (((List UInt8) × Int × Int × Int) ⊕ (Int × Int)) :=
  if (decide (c_2 = (40 : Int))) = true then
  pbind (zbs (c, (c_1, (c_2, (c_3, ())))) (7 : Int)) (fun _ =>
  G (fits (c_2 + (1 : Int))) (
  G (fits (c_1 + (1 : Int))) (
  some (.inl (c, c_1 + (1 : Int), c_2 + (1 : Int), c_3))))) (fun p => some (.inr (p.1, p.2))) else
  G (fits (c_2 + (1 : Int))) (
  G (fits (c_1 + (1 : Int))) (
  some (.inl (c, c_1 + (1 : Int), c_2 + (1 : Int), c_3))))

def zc9 (c : Int) (c_1 : (List UInt8)) (c_2 : Int) (c_3 : Int) (c_4 : Int) : Option (((List UInt8) × Int × Int × Int) ⊕ (Int × Int)) :=
  (zbL (c_1, (c_2, (c_3, (c_4, ()))))).bind (fun y' =>
  if (decide (¬ y' = c)) = true then
  pbind (zbs (c_1, (c_2, (c_3, (c_4, ())))) (4 : Int)) (fun _ =>
  G (fits (c_2 + (1 : Int))) (
  some (.inl (c_1, c_2 + (1 : Int), c_3, c_4)))) (fun p => some (.inr (p.1, p.2))) else
  G (fits (c_2 + (1 : Int))) (
  some (.inl (c_1, c_2 + (1 : Int), c_3, c_4))))

def zc8 (c : (List UInt8)) (c_1 : Int) (c_2 : Int) (c_3 : Int) : Option (((List UInt8) × Int × Int × Int) ⊕ (Int × Int)) :=
  pbind (zc9 (41 : Int) c c_1 c_2 c_3) (fun y'_4 =>
  G (fits (y'_4.2.2.1 - (1 : Int))) (
  some (.inl (y'_4.1, y'_4.2.1, y'_4.2.2.1 - (1 : Int), y'_4.2.2.2)))) (fun p => some (.inr (p.1, p.2)))

def zbl (zaa : (List UInt8) -> Int -> Int -> Int -> Option (((Tr Tp11) × (List UInt8) × Int × Int × Int) ⊕ (Int × Int)))  (r2 : (Tr Tp11) -> (List UInt8) -> Int -> Int -> Int -> Option (((Tr Tp11) × (List UInt8) × Int × Int × Int) ⊕ (Int × Int))) (n : (Tr Tp11)) (r : (List UInt8)) (r_1 : Int) (r_2 : Int) (r_3 : Int) : Option (((Tr Tp11) × (List UInt8) × Int × Int × Int) ⊕ (Int × Int)) :=
  (zbL (r, (r_1, (r_2, (r_3, ()))))).bind (fun y'_6 =>
  if (decide (y'_6 = (38 : Int))) = true then
  pbind (zaE r r_1 r_2 r_3) (fun y'_11 =>
  pbind (zaa y'_11.1 y'_11.2.1 y'_11.2.2.1 y'_11.2.2.2) (fun y'_17 =>
  r2 (Tr.mk ((38 : Int), (false, ((0 : Int), ()))) ([n, y'_17.1])) y'_17.2.1 y'_17.2.2.1 y'_17.2.2.2.1 y'_17.2.2.2.2) (fun p => some (.inr (p.1, p.2)))) (fun p => some (.inr (p.1, p.2))) else
  some (.inl (n, r, r_1, r_2, r_3)))
def zgh (zaa : (List UInt8) -> Int -> Int -> Int -> Option (((Tr Tp11) × (List UInt8) × Int × Int × Int) ⊕ (Int × Int)))  : ((Tr Tp11) × (List UInt8) × Int × Int × Int -> Option (((Tr Tp11) × (List UInt8) × Int × Int × Int) ⊕ (Int × Int))) -> (Tr Tp11) × (List UInt8) × Int × Int × Int -> Option (((Tr Tp11) × (List UInt8) × Int × Int × Int) ⊕ (Int × Int)) :=
  fun rec x => zbl zaa (fun n r r_1 r_2 r_3 => rec (n, r, r_1, r_2, r_3)) x.1 x.2.1 x.2.2.1 x.2.2.2.1 x.2.2.2.2
def zbi (zaa : (List UInt8) -> Int -> Int -> Int -> Option (((Tr Tp11) × (List UInt8) × Int × Int × Int) ⊕ (Int × Int)))  (n : (Tr Tp11)) (r : (List UInt8)) (r_1 : Int) (r_2 : Int) (r_3 : Int) : Option (((Tr Tp11) × (List UInt8) × Int × Int × Int) ⊕ (Int × Int)) := LFix (zgh zaa ) (n, r, r_1, r_2, r_3)
def zbt (zaa : (List UInt8) -> Int -> Int -> Int -> Option (((Tr Tp11) × (List UInt8) × Int × Int × Int) ⊕ (Int × Int))) (c : (List UInt8)) (c_1 : Int) (c_2 : Int) (c_3 : Int) : Option (((Tr Tp11) × (List UInt8) × Int × Int × Int) ⊕ (Int × Int)) :=
  pbind (zaa c c_1 c_2 c_3) (fun y'_5 =>
  zbi zaa y'_5.1 y'_5.2.1 y'_5.2.2.1 y'_5.2.2.2.1 y'_5.2.2.2.2) (fun p => some (.inr (p.1, p.2)))
def zbd (zaa : (List UInt8) -> Int -> Int -> Int -> Option (((Tr Tp11) × (List UInt8) × Int × Int × Int) ⊕ (Int × Int)))  (r2 : (Tr Tp11) -> (List UInt8) -> Int -> Int -> Int -> Option (((Tr Tp11) × (List UInt8) × Int × Int × Int) ⊕ (Int × Int))) (n : (Tr Tp11)) (r : (List UInt8)) (r_1 : Int) (r_2 : Int) (r_3 : Int) : Option (((Tr Tp11) × (List UInt8) × Int × Int × Int) ⊕ (Int × Int)) :=
  (zbL (r, (r_1, (r_2, (r_3, ()))))).bind (fun y'_6 =>
  if (decide (y'_6 = (124 : Int))) = true then
  pbind (zaE r r_1 r_2 r_3) (fun y'_11 =>
  pbind (zbt zaa y'_11.1 y'_11.2.1 y'_11.2.2.1 y'_11.2.2.2) (fun y'_17 =>
  r2 (Tr.mk ((124 : Int), (false, ((0 : Int), ()))) ([n, y'_17.1])) y'_17.2.1 y'_17.2.2.1 y'_17.2.2.2.1 y'_17.2.2.2.2) (fun p => some (.inr (p.1, p.2)))) (fun p => some (.inr (p.1, p.2))) else
  some (.inl (n, r, r_1, r_2, r_3)))
def zfH (zaa : (List UInt8) -> Int -> Int -> Int -> Option (((Tr Tp11) × (List UInt8) × Int × Int × Int) ⊕ (Int × Int)))  : ((Tr Tp11) × (List UInt8) × Int × Int × Int -> Option (((Tr Tp11) × (List UInt8) × Int × Int × Int) ⊕ (Int × Int))) -> (Tr Tp11) × (List UInt8) × Int × Int × Int -> Option (((Tr Tp11) × (List UInt8) × Int × Int × Int) ⊕ (Int × Int)) :=
  fun rec x => zbd zaa (fun n r r_1 r_2 r_3 => rec (n, r, r_1, r_2, r_3)) x.1 x.2.1 x.2.2.1 x.2.2.2.1 x.2.2.2.2
def za7 (zaa : (List UInt8) -> Int -> Int -> Int -> Option (((Tr Tp11) × (List UInt8) × Int × Int × Int) ⊕ (Int × Int)))  (n : (Tr Tp11)) (r : (List UInt8)) (r_1 : Int) (r_2 : Int) (r_3 : Int) : Option (((Tr Tp11) × (List UInt8) × Int × Int × Int) ⊕ (Int × Int)) := LFix (zfH zaa ) (n, r, r_1, r_2, r_3)
def zaU (zaa : (List UInt8) -> Int -> Int -> Int -> Option (((Tr Tp11) × (List UInt8) × Int × Int × Int) ⊕ (Int × Int))) (c : (List UInt8)) (c_1 : Int) (c_2 : Int) (c_3 : Int) : Option (((Tr Tp11) × (List UInt8) × Int × Int × Int) ⊕ (Int × Int)) :=
  pbind (zbt zaa c c_1 c_2 c_3) (fun y'_5 =>
  za7 zaa y'_5.1 y'_5.2.1 y'_5.2.2.1 y'_5.2.2.2.1 y'_5.2.2.2.2) (fun p => some (.inr (p.1, p.2)))
def zaR (zaa : (List UInt8) -> Int -> Int -> Int -> Option (((Tr Tp11) × (List UInt8) × Int × Int × Int) ⊕ (Int × Int))) (all' : Bool) (y' : (List UInt8)) (y'_1 : Int) (y'_2 : Int) (y'_3 : Int) (y'_5 : Int) (t : Bool) : Option (((Tr Tp11) × (List UInt8) × Int × Int × Int) ⊕ (Int × Int)) :=
  if t = true then
  G (fits (y'_1 + (1 : Int))) (
  pbind (zaa y' (y'_1 + (1 : Int)) y'_2 y'_3) (fun y'_11 =>
  some (.inl (Tr.mk (y'_5, (all', ((0 : Int), ()))) ([y'_11.1]), y'_11.2.1, y'_11.2.2.1, y'_11.2.2.2.1, y'_11.2.2.2.2))) (fun p => some (.inr (p.1, p.2)))) else
  if (decide (y'_5 = (40 : Int))) = true then
  pbind (zc7 y' y'_1 y'_2 y'_3) (fun y'_16 =>
  pbind (zaU zaa y'_16.1 y'_16.2.1 y'_16.2.2.1 y'_16.2.2.2) (fun y'_22 =>
  pbind (zc9 (85 : Int) y'_22.2.1 y'_22.2.2.1 y'_22.2.2.2.1 y'_22.2.2.2.2) (fun y'_27 =>
  pbind (zaU zaa y'_27.1 y'_27.2.1 y'_27.2.2.1 y'_27.2.2.2) (fun y'_33 =>
  pbind (zc8 y'_33.2.1 y'_33.2.2.1 y'_33.2.2.2.1 y'_33.2.2.2.2) (fun y'_38 =>
  some (.inl (Tr.mk ((85 : Int), (all', ((0 : Int), ()))) ([y'_22.1, y'_33.1]), y'_38.1, y'_38.2.1, y'_38.2.2.1, y'_38.2.2.2))) (fun p => some (.inr (p.1, p.2)))) (fun p => some (.inr (p.1, p.2)))) (fun p => some (.inr (p.1, p.2)))) (fun p => some (.inr (p.1, p.2)))) (fun p => some (.inr (p.1, p.2))) else
  pbind (zbs (y', (y'_1, (y'_2, (y'_3, ())))) (4 : Int)) (fun _ =>
  some (.inl (Tr.nil, y', y'_1, y'_2, y'_3))) (fun p => some (.inr (p.1, p.2)))
def zbP (zaa : (List UInt8) -> Int -> Int -> Int -> Option (((Tr Tp11) × (List UInt8) × Int × Int × Int) ⊕ (Int × Int))) (all' : Bool) (c : (List UInt8)) (c_1 : Int) (c_2 : Int) (c_3 : Int) : Option (((Tr Tp11) × (List UInt8) × Int × Int × Int) ⊕ (Int × Int)) :=
  pbind (zaE c c_1 c_2 c_3) (fun y'_4 =>
  (zbL (y'_4.1, (y'_4.2.1, (y'_4.2.2.1, (y'_4.2.2.2, ()))))).bind (fun y'_5 =>
  if (decide (y'_5 = (88 : Int))) = true then
  zaR zaa all' y'_4.1 y'_4.2.1 y'_4.2.2.1 y'_4.2.2.2 y'_5 (decide (y'_5 = (88 : Int))) else
  if (decide (y'_5 = (70 : Int))) = true then
  zaR zaa all' y'_4.1 y'_4.2.1 y'_4.2.2.1 y'_4.2.2.2 y'_5 (decide (y'_5 = (70 : Int))) else
  zaR zaa all' y'_4.1 y'_4.2.1 y'_4.2.2.1 y'_4.2.2.2 y'_5 (decide (y'_5 = (71 : Int))))) (fun p => some (.inr (p.1, p.2)))
def zbw (zaa : (List UInt8) -> Int -> Int -> Int -> Option (((Tr Tp11) × (List UInt8) × Int × Int × Int) ⊕ (Int × Int))) (c : (List UInt8)) (c_1 : Int) (c_2 : Int) (c_3 : Int) : Option (((Tr Tp11) × (List UInt8) × Int × Int × Int) ⊕ (Int × Int)) :=
  pbind (zc7 c c_1 c_2 c_3) (fun y'_33 =>
  pbind (zaU zaa y'_33.1 y'_33.2.1 y'_33.2.2.1 y'_33.2.2.2) (fun y'_39 =>
  pbind (zc8 y'_39.2.1 y'_39.2.2.1 y'_39.2.2.2.1 y'_39.2.2.2.2) (fun y'_44 =>
  some (.inl (y'_39.1, y'_44.1, y'_44.2.1, y'_44.2.2.1, y'_44.2.2.2))) (fun p => some (.inr (p.1, p.2)))) (fun p => some (.inr (p.1, p.2)))) (fun p => some (.inr (p.1, p.2)))
def za6 (zaa : (List UInt8) -> Int -> Int -> Int -> Option (((Tr Tp11) × (List UInt8) × Int × Int × Int) ⊕ (Int × Int))) (c : (List UInt8)) (c_1 : Int) (c_2 : Int) (c_3 : Int) (y' : Int) (t_2 : Bool) : Option (((Tr Tp11) × (List UInt8) × Int × Int × Int) ⊕ (Int × Int)) :=
  if t_2 = true then
  pbind (zbP zaa (decide (y' = (65 : Int))) c c_1 c_2 c_3) (fun y'_27 =>
  some (.inl (y'_27.1, y'_27.2.1, y'_27.2.2.1, y'_27.2.2.2.1, y'_27.2.2.2.2))) (fun p => some (.inr (p.1, p.2))) else
  if (decide (¬ y' = (40 : Int))) = true then
  pbind (zbs (c, (c_1, (c_2, (c_3, ())))) (4 : Int)) (fun _ =>
  zbw zaa c c_1 c_2 c_3) (fun p => some (.inr (p.1, p.2))) else
  zbw zaa c c_1 c_2 c_3
def zbh (zaa : (List UInt8) -> Int -> Int -> Int -> Option (((Tr Tp11) × (List UInt8) × Int × Int × Int) ⊕ (Int × Int))) (c : (List UInt8)) (c_1 : Int) (c_2 : Int) (c_3 : Int) (y' : Int) (t_1 : Bool) : Option (((Tr Tp11) × (List UInt8) × Int × Int × Int) ⊕ (Int × Int)) :=
  if t_1 = true then
  pbind (zaE c c_1 c_2 c_3) (fun y'_10 =>
  some (.inl (Tr.mk ((97 : Int), (false, (IntKind.wrap .i64 (IntKind.wrap .u8 (y' - (97 : Int))), ()))) ([]), y'_10.1, y'_10.2.1, y'_10.2.2.1, y'_10.2.2.2))) (fun p => some (.inr (p.1, p.2))) else
  if (decide (y' = (33 : Int))) = true then
  pbind (zaE c c_1 c_2 c_3) (fun y'_15 =>
  pbind (zaa y'_15.1 y'_15.2.1 y'_15.2.2.1 y'_15.2.2.2) (fun y'_21 =>
  some (.inl (Tr.mk ((33 : Int), (false, ((0 : Int), ()))) ([y'_21.1]), y'_21.2.1, y'_21.2.2.1, y'_21.2.2.2.1, y'_21.2.2.2.2))) (fun p => some (.inr (p.1, p.2)))) (fun p => some (.inr (p.1, p.2))) else
  if (decide (y' = (69 : Int))) = true then
  za6 zaa c c_1 c_2 c_3 y' true else
  za6 zaa c c_1 c_2 c_3 y' (decide (y' = (65 : Int)))
def zbg (zaa : (List UInt8) -> Int -> Int -> Int -> Option (((Tr Tp11) × (List UInt8) × Int × Int × Int) ⊕ (Int × Int))) (c : (List UInt8)) (c_1 : Int) (c_2 : Int) (c_3 : Int) (y' : Int) (t : Bool) : Option (((Tr Tp11) × (List UInt8) × Int × Int × Int) ⊕ (Int × Int)) :=
  if t = true then
  pbind (zaE c c_1 c_2 c_3) (fun y'_5 =>
  some (.inl (Tr.mk (y', (false, ((0 : Int), ()))) ([]), y'_5.1, y'_5.2.1, y'_5.2.2.1, y'_5.2.2.2))) (fun p => some (.inr (p.1, p.2))) else
  if (decide ((97 : Int) <= y')) = true then
  zbh zaa c c_1 c_2 c_3 y' (decide (y' <= (100 : Int))) else
  zbh zaa c c_1 c_2 c_3 y' false
def zb9 (zaa : (List UInt8) -> Int -> Int -> Int -> Option (((Tr Tp11) × (List UInt8) × Int × Int × Int) ⊕ (Int × Int))) (c : (List UInt8)) (c_1 : Int) (c_2 : Int) (c_3 : Int) : Option (((Tr Tp11) × (List UInt8) × Int × Int × Int) ⊕ (Int × Int)) :=
  (zbL (c, (c_1, (c_2, (c_3, ()))))).bind (fun y' =>
  if (decide (y' = (48 : Int))) = true then
  zbg zaa c c_1 c_2 c_3 y' true else
  zbg zaa c c_1 c_2 c_3 y' (decide (y' = (49 : Int))))
theorem zeE (zaa : Nat -> (List UInt8) -> Int -> Int -> Int -> Option (((Tr Tp11) × (List UInt8) × Int × Int × Int) ⊕ (Int × Int))) (zad : (List UInt8) -> Int -> Int -> Int -> Option (((Tr Tp11) × (List UInt8) × Int × Int × Int) ⊕ (Int × Int))) (zae : ∀ a0 a1 a2 a3, ChO (fun κ => zaa κ a0 a1 a2 a3) (zad a0 a1 a2 a3)) (r2 : Nat -> (Tr Tp11) -> (List UInt8) -> Int -> Int -> Int -> Option (((Tr Tp11) × (List UInt8) × Int × Int × Int) ⊕ (Int × Int))) (r2' : (Tr Tp11) -> (List UInt8) -> Int -> Int -> Int -> Option (((Tr Tp11) × (List UInt8) × Int × Int × Int) ⊕ (Int × Int))) (h_r2 : ∀ a0 a1 a2 a3 a4, ChO (fun κ => r2 κ a0 a1 a2 a3 a4) (r2' a0 a1 a2 a3 a4)) (n : (Tr Tp11)) (r : (List UInt8)) (r_1 : Int) (r_2 : Int) (r_3 : Int) : ChO (fun κ => zbl (zaa κ) (r2 κ) n r r_1 r_2 r_3) (zbl zad r2' n r r_1 r_2 r_3) := by
  unfold zbl
  repeat' with_reducible first | exact ChO.const _ | exact zae _ _ _ _ | exact h_r2 _ _ _ _ _ | apply ChO.ite | apply ChO.G | apply ChO.both | apply ChO.bothS | (apply ChO.bind; intro _) | (apply ChO.bind2 (zae _ _ _ _); intro _) | (refine ChO.bind2 ?_ (fun _ => ?_)) | (refine ChO.pbind (fun _ => ?_) (fun _ => ?_)) | (refine ChO.pbind2 ?_ (fun _ => ?_) (fun _ => ?_))
theorem zdK (zaa : (List UInt8) -> Int -> Int -> Int -> Option (((Tr Tp11) × (List UInt8) × Int × Int × Int) ⊕ (Int × Int)))  : Cn (zgh zaa) := fun g h hg x => zeE (fun _ => zaa) zaa (fun _ _ _ _ => ChO.const _) (fun κ n r r_1 r_2 r_3 => g κ (n, r, r_1, r_2, r_3)) (fun n r r_1 r_2 r_3 => h (n, r, r_1, r_2, r_3)) (fun n r r_1 r_2 r_3 => hg (n, r, r_1, r_2, r_3))  x.1 x.2.1 x.2.2.1 x.2.2.2.1 x.2.2.2.2
theorem zkn (zaa : (List UInt8) -> Int -> Int -> Int -> Option (((Tr Tp11) × (List UInt8) × Int × Int × Int) ⊕ (Int × Int)))  (n : (Tr Tp11)) (r : (List UInt8)) (r_1 : Int) (r_2 : Int) (r_3 : Int) : zbi zaa n r r_1 r_2 r_3 = zbl zaa (zbi zaa) n r r_1 r_2 r_3 := zaK (zdK zaa) (n, r, r_1, r_2, r_3)
theorem zax (zaa : Nat -> (List UInt8) -> Int -> Int -> Int -> Option (((Tr Tp11) × (List UInt8) × Int × Int × Int) ⊕ (Int × Int))) (zad : (List UInt8) -> Int -> Int -> Int -> Option (((Tr Tp11) × (List UInt8) × Int × Int × Int) ⊕ (Int × Int))) (zae : ∀ a0 a1 a2 a3, ChO (fun κ => zaa κ a0 a1 a2 a3) (zad a0 a1 a2 a3))  (n : (Tr Tp11)) (r : (List UInt8)) (r_1 : Int) (r_2 : Int) (r_3 : Int) : ChO (fun κ => zbi (zaa κ) n r r_1 r_2 r_3) (zbi zad n r r_1 r_2 r_3) := by
  unfold zbi
  exact zpv (fun κ => (zdK (zaa κ) ).mono) (zdK zad ).mono (fun g h hg x => zeE zaa zad zae (fun κ n r r_1 r_2 r_3 => g κ (n, r, r_1, r_2, r_3)) (fun n r r_1 r_2 r_3 => h (n, r, r_1, r_2, r_3)) (fun n r r_1 r_2 r_3 => hg (n, r, r_1, r_2, r_3))  x.1 x.2.1 x.2.2.1 x.2.2.2.1 x.2.2.2.2) _
theorem zaQ (zaa : Nat -> (List UInt8) -> Int -> Int -> Int -> Option (((Tr Tp11) × (List UInt8) × Int × Int × Int) ⊕ (Int × Int))) (zad : (List UInt8) -> Int -> Int -> Int -> Option (((Tr Tp11) × (List UInt8) × Int × Int × Int) ⊕ (Int × Int))) (zae : ∀ a0 a1 a2 a3, ChO (fun κ => zaa κ a0 a1 a2 a3) (zad a0 a1 a2 a3)) (c : (List UInt8)) (c_1 : Int) (c_2 : Int) (c_3 : Int) : ChO (fun κ => zbt (zaa κ) c c_1 c_2 c_3) (zbt zad c c_1 c_2 c_3) := by
  unfold zbt
  repeat' with_reducible first | exact ChO.const _ | exact zae _ _ _ _ | (apply zax <;> assumption) | apply ChO.ite | apply ChO.G | apply ChO.both | apply ChO.bothS | (apply ChO.bind; intro _) | (apply ChO.bind2 (zae _ _ _ _); intro _) | (refine ChO.bind2 ?_ (fun _ => ?_)) | (refine ChO.pbind (fun _ => ?_) (fun _ => ?_)) | (refine ChO.pbind2 ?_ (fun _ => ?_) (fun _ => ?_))
theorem zeh (zaa : Nat -> (List UInt8) -> Int -> Int -> Int -> Option (((Tr Tp11) × (List UInt8) × Int × Int × Int) ⊕ (Int × Int))) (zad : (List UInt8) -> Int -> Int -> Int -> Option (((Tr Tp11) × (List UInt8) × Int × Int × Int) ⊕ (Int × Int))) (zae : ∀ a0 a1 a2 a3, ChO (fun κ => zaa κ a0 a1 a2 a3) (zad a0 a1 a2 a3)) (r2 : Nat -> (Tr Tp11) -> (List UInt8) -> Int -> Int -> Int -> Option (((Tr Tp11) × (List UInt8) × Int × Int × Int) ⊕ (Int × Int))) (r2' : (Tr Tp11) -> (List UInt8) -> Int -> Int -> Int -> Option (((Tr Tp11) × (List UInt8) × Int × Int × Int) ⊕ (Int × Int))) (h_r2 : ∀ a0 a1 a2 a3 a4, ChO (fun κ => r2 κ a0 a1 a2 a3 a4) (r2' a0 a1 a2 a3 a4)) (n : (Tr Tp11)) (r : (List UInt8)) (r_1 : Int) (r_2 : Int) (r_3 : Int) : ChO (fun κ => zbd (zaa κ) (r2 κ) n r r_1 r_2 r_3) (zbd zad r2' n r r_1 r_2 r_3) := by
  unfold zbd
  repeat' with_reducible first | exact ChO.const _ | exact zae _ _ _ _ | exact h_r2 _ _ _ _ _ | (apply zax <;> assumption) | (apply zaQ <;> assumption) | apply ChO.ite | apply ChO.G | apply ChO.both | apply ChO.bothS | (apply ChO.bind; intro _) | (apply ChO.bind2 (zae _ _ _ _); intro _) | (refine ChO.bind2 ?_ (fun _ => ?_)) | (refine ChO.pbind (fun _ => ?_) (fun _ => ?_)) | (refine ChO.pbind2 ?_ (fun _ => ?_) (fun _ => ?_))
theorem zdw (zaa : (List UInt8) -> Int -> Int -> Int -> Option (((Tr Tp11) × (List UInt8) × Int × Int × Int) ⊕ (Int × Int)))  : Cn (zfH zaa) := fun g h hg x => zeh (fun _ => zaa) zaa (fun _ _ _ _ => ChO.const _) (fun κ n r r_1 r_2 r_3 => g κ (n, r, r_1, r_2, r_3)) (fun n r r_1 r_2 r_3 => h (n, r, r_1, r_2, r_3)) (fun n r r_1 r_2 r_3 => hg (n, r, r_1, r_2, r_3))  x.1 x.2.1 x.2.2.1 x.2.2.2.1 x.2.2.2.2
theorem zj2 (zaa : (List UInt8) -> Int -> Int -> Int -> Option (((Tr Tp11) × (List UInt8) × Int × Int × Int) ⊕ (Int × Int)))  (n : (Tr Tp11)) (r : (List UInt8)) (r_1 : Int) (r_2 : Int) (r_3 : Int) : za7 zaa n r r_1 r_2 r_3 = zbd zaa (za7 zaa) n r r_1 r_2 r_3 := zaK (zdw zaa) (n, r, r_1, r_2, r_3)
theorem zaF (zaa : Nat -> (List UInt8) -> Int -> Int -> Int -> Option (((Tr Tp11) × (List UInt8) × Int × Int × Int) ⊕ (Int × Int))) (zad : (List UInt8) -> Int -> Int -> Int -> Option (((Tr Tp11) × (List UInt8) × Int × Int × Int) ⊕ (Int × Int))) (zae : ∀ a0 a1 a2 a3, ChO (fun κ => zaa κ a0 a1 a2 a3) (zad a0 a1 a2 a3))  (n : (Tr Tp11)) (r : (List UInt8)) (r_1 : Int) (r_2 : Int) (r_3 : Int) : ChO (fun κ => za7 (zaa κ) n r r_1 r_2 r_3) (za7 zad n r r_1 r_2 r_3) := by
  unfold za7
  exact zpv (fun κ => (zdw (zaa κ) ).mono) (zdw zad ).mono (fun g h hg x => zeh zaa zad zae (fun κ n r r_1 r_2 r_3 => g κ (n, r, r_1, r_2, r_3)) (fun n r r_1 r_2 r_3 => h (n, r, r_1, r_2, r_3)) (fun n r r_1 r_2 r_3 => hg (n, r, r_1, r_2, r_3))  x.1 x.2.1 x.2.2.1 x.2.2.2.1 x.2.2.2.2) _
theorem za8 (zaa : Nat -> (List UInt8) -> Int -> Int -> Int -> Option (((Tr Tp11) × (List UInt8) × Int × Int × Int) ⊕ (Int × Int))) (zad : (List UInt8) -> Int -> Int -> Int -> Option (((Tr Tp11) × (List UInt8) × Int × Int × Int) ⊕ (Int × Int))) (zae : ∀ a0 a1 a2 a3, ChO (fun κ => zaa κ a0 a1 a2 a3) (zad a0 a1 a2 a3)) (c : (List UInt8)) (c_1 : Int) (c_2 : Int) (c_3 : Int) : ChO (fun κ => zaU (zaa κ) c c_1 c_2 c_3) (zaU zad c c_1 c_2 c_3) := by
  unfold zaU
  repeat' with_reducible first | exact ChO.const _ | exact zae _ _ _ _ | (apply zax <;> assumption) | (apply zaQ <;> assumption) | (apply zaF <;> assumption) | apply ChO.ite | apply ChO.G | apply ChO.both | apply ChO.bothS | (apply ChO.bind; intro _) | (apply ChO.bind2 (zae _ _ _ _); intro _) | (refine ChO.bind2 ?_ (fun _ => ?_)) | (refine ChO.pbind (fun _ => ?_) (fun _ => ?_)) | (refine ChO.pbind2 ?_ (fun _ => ?_) (fun _ => ?_))
theorem zbc (zaa : Nat -> (List UInt8) -> Int -> Int -> Int -> Option (((Tr Tp11) × (List UInt8) × Int × Int × Int) ⊕ (Int × Int))) (zad : (List UInt8) -> Int -> Int -> Int -> Option (((Tr Tp11) × (List UInt8) × Int × Int × Int) ⊕ (Int × Int))) (zae : ∀ a0 a1 a2 a3, ChO (fun κ => zaa κ a0 a1 a2 a3) (zad a0 a1 a2 a3)) (all' : Bool) (y' : (List UInt8)) (y'_1 : Int) (y'_2 : Int) (y'_3 : Int) (y'_5 : Int) (t : Bool) : ChO (fun κ => zaR (zaa κ) all' y' y'_1 y'_2 y'_3 y'_5 t) (zaR zad all' y' y'_1 y'_2 y'_3 y'_5 t) := by
  unfold zaR
  repeat' with_reducible first | exact ChO.const _ | exact zae _ _ _ _ | (apply zax <;> assumption) | (apply zaQ <;> assumption) | (apply zaF <;> assumption) | (apply za8 <;> assumption) | apply ChO.ite | apply ChO.G | apply ChO.both | apply ChO.bothS | (apply ChO.bind; intro _) | (apply ChO.bind2 (zae _ _ _ _); intro _) | (refine ChO.bind2 ?_ (fun _ => ?_)) | (refine ChO.pbind (fun _ => ?_) (fun _ => ?_)) | (refine ChO.pbind2 ?_ (fun _ => ?_) (fun _ => ?_))
theorem zcl (zaa : Nat -> (List UInt8) -> Int -> Int -> Int -> Option (((Tr Tp11) × (List UInt8) × Int × Int × Int) ⊕ (Int × Int))) (zad : (List UInt8) -> Int -> Int -> Int -> Option (((Tr Tp11) × (List UInt8) × Int × Int × Int) ⊕ (Int × Int))) (zae : ∀ a0 a1 a2 a3, ChO (fun κ => zaa κ a0 a1 a2 a3) (zad a0 a1 a2 a3)) (all' : Bool) (c : (List UInt8)) (c_1 : Int) (c_2 : Int) (c_3 : Int) : ChO (fun κ => zbP (zaa κ) all' c c_1 c_2 c_3) (zbP zad all' c c_1 c_2 c_3) := by
  unfold zbP
  repeat' with_reducible first | exact ChO.const _ | exact zae _ _ _ _ | (apply zax <;> assumption) | (apply zaQ <;> assumption) | (apply zaF <;> assumption) | (apply za8 <;> assumption) | (apply zbc <;> assumption) | apply ChO.ite | apply ChO.G | apply ChO.both | apply ChO.bothS | (apply ChO.bind; intro _) | (apply ChO.bind2 (zae _ _ _ _); intro _) | (refine ChO.bind2 ?_ (fun _ => ?_)) | (refine ChO.pbind (fun _ => ?_) (fun _ => ?_)) | (refine ChO.pbind2 ?_ (fun _ => ?_) (fun _ => ?_))
theorem zci (zaa : Nat -> (List UInt8) -> Int -> Int -> Int -> Option (((Tr Tp11) × (List UInt8) × Int × Int × Int) ⊕ (Int × Int))) (zad : (List UInt8) -> Int -> Int -> Int -> Option (((Tr Tp11) × (List UInt8) × Int × Int × Int) ⊕ (Int × Int))) (zae : ∀ a0 a1 a2 a3, ChO (fun κ => zaa κ a0 a1 a2 a3) (zad a0 a1 a2 a3)) (c : (List UInt8)) (c_1 : Int) (c_2 : Int) (c_3 : Int) : ChO (fun κ => zbw (zaa κ) c c_1 c_2 c_3) (zbw zad c c_1 c_2 c_3) := by
  unfold zbw
  repeat' with_reducible first | exact ChO.const _ | exact zae _ _ _ _ | (apply zax <;> assumption) | (apply zaQ <;> assumption) | (apply zaF <;> assumption) | (apply za8 <;> assumption) | (apply zbc <;> assumption) | (apply zcl <;> assumption) | apply ChO.ite | apply ChO.G | apply ChO.both | apply ChO.bothS | (apply ChO.bind; intro _) | (apply ChO.bind2 (zae _ _ _ _); intro _) | (refine ChO.bind2 ?_ (fun _ => ?_)) | (refine ChO.pbind (fun _ => ?_) (fun _ => ?_)) | (refine ChO.pbind2 ?_ (fun _ => ?_) (fun _ => ?_))
theorem zdv (zaa : Nat -> (List UInt8) -> Int -> Int -> Int -> Option (((Tr Tp11) × (List UInt8) × Int × Int × Int) ⊕ (Int × Int))) (zad : (List UInt8) -> Int -> Int -> Int -> Option (((Tr Tp11) × (List UInt8) × Int × Int × Int) ⊕ (Int × Int))) (zae : ∀ a0 a1 a2 a3, ChO (fun κ => zaa κ a0 a1 a2 a3) (zad a0 a1 a2 a3)) (c : (List UInt8)) (c_1 : Int) (c_2 : Int) (c_3 : Int) (y' : Int) (t_2 : Bool) : ChO (fun κ => za6 (zaa κ) c c_1 c_2 c_3 y' t_2) (za6 zad c c_1 c_2 c_3 y' t_2) := by
  unfold za6
  repeat' with_reducible first | exact ChO.const _ | exact zae _ _ _ _ | (apply zax <;> assumption) | (apply zaQ <;> assumption) | (apply zaF <;> assumption) | (apply za8 <;> assumption) | (apply zbc <;> assumption) | (apply zcl <;> assumption) | (apply zci <;> assumption) | apply ChO.ite | apply ChO.G | apply ChO.both | apply ChO.bothS | (apply ChO.bind; intro _) | (apply ChO.bind2 (zae _ _ _ _); intro _) | (refine ChO.bind2 ?_ (fun _ => ?_)) | (refine ChO.pbind (fun _ => ?_) (fun _ => ?_)) | (refine ChO.pbind2 ?_ (fun _ => ?_) (fun _ => ?_))
theorem zfG (zaa : Nat -> (List UInt8) -> Int -> Int -> Int -> Option (((Tr Tp11) × (List UInt8) × Int × Int × Int) ⊕ (Int × Int))) (zad : (List UInt8) -> Int -> Int -> Int -> Option (((Tr Tp11) × (List UInt8) × Int × Int × Int) ⊕ (Int × Int))) (zae : ∀ a0 a1 a2 a3, ChO (fun κ => zaa κ a0 a1 a2 a3) (zad a0 a1 a2 a3)) (c : (List UInt8)) (c_1 : Int) (c_2 : Int) (c_3 : Int) (y' : Int) (t_1 : Bool) : ChO (fun κ => zbh (zaa κ) c c_1 c_2 c_3 y' t_1) (zbh zad c c_1 c_2 c_3 y' t_1) := by
  unfold zbh
  repeat' with_reducible first | exact ChO.const _ | exact zae _ _ _ _ | (apply zax <;> assumption) | (apply zaQ <;> assumption) | (apply zaF <;> assumption) | (apply za8 <;> assumption) | (apply zbc <;> assumption) | (apply zcl <;> assumption) | (apply zci <;> assumption) | (apply zdv <;> assumption) | apply ChO.ite | apply ChO.G | apply ChO.both | apply ChO.bothS | (apply ChO.bind; intro _) | (apply ChO.bind2 (zae _ _ _ _); intro _) | (refine ChO.bind2 ?_ (fun _ => ?_)) | (refine ChO.pbind (fun _ => ?_) (fun _ => ?_)) | (refine ChO.pbind2 ?_ (fun _ => ?_) (fun _ => ?_))
theorem zkm (zaa : Nat -> (List UInt8) -> Int -> Int -> Int -> Option (((Tr Tp11) × (List UInt8) × Int × Int × Int) ⊕ (Int × Int))) (zad : (List UInt8) -> Int -> Int -> Int -> Option (((Tr Tp11) × (List UInt8) × Int × Int × Int) ⊕ (Int × Int))) (zae : ∀ a0 a1 a2 a3, ChO (fun κ => zaa κ a0 a1 a2 a3) (zad a0 a1 a2 a3)) (c : (List UInt8)) (c_1 : Int) (c_2 : Int) (c_3 : Int) (y' : Int) (t : Bool) : ChO (fun κ => zbg (zaa κ) c c_1 c_2 c_3 y' t) (zbg zad c c_1 c_2 c_3 y' t) := by
  unfold zbg
  repeat' with_reducible first | exact ChO.const _ | exact zae _ _ _ _ | (apply zax <;> assumption) | (apply zaQ <;> assumption) | (apply zaF <;> assumption) | (apply za8 <;> assumption) | (apply zbc <;> assumption) | (apply zcl <;> assumption) | (apply zci <;> assumption) | (apply zdv <;> assumption) | (apply zfG <;> assumption) | apply ChO.ite | apply ChO.G | apply ChO.both | apply ChO.bothS | (apply ChO.bind; intro _) | (apply ChO.bind2 (zae _ _ _ _); intro _) | (refine ChO.bind2 ?_ (fun _ => ?_)) | (refine ChO.pbind (fun _ => ?_) (fun _ => ?_)) | (refine ChO.pbind2 ?_ (fun _ => ?_) (fun _ => ?_))
theorem zk5 (zaa : Nat -> (List UInt8) -> Int -> Int -> Int -> Option (((Tr Tp11) × (List UInt8) × Int × Int × Int) ⊕ (Int × Int))) (zad : (List UInt8) -> Int -> Int -> Int -> Option (((Tr Tp11) × (List UInt8) × Int × Int × Int) ⊕ (Int × Int))) (zae : ∀ a0 a1 a2 a3, ChO (fun κ => zaa κ a0 a1 a2 a3) (zad a0 a1 a2 a3)) (c : (List UInt8)) (c_1 : Int) (c_2 : Int) (c_3 : Int) : ChO (fun κ => zb9 (zaa κ) c c_1 c_2 c_3) (zb9 zad c c_1 c_2 c_3) := by
  unfold zb9
  repeat' with_reducible first | exact ChO.const _ | exact zae _ _ _ _ | (apply zax <;> assumption) | (apply zaQ <;> assumption) | (apply zaF <;> assumption) | (apply za8 <;> assumption) | (apply zbc <;> assumption) | (apply zcl <;> assumption) | (apply zci <;> assumption) | (apply zdv <;> assumption) | (apply zfG <;> assumption) | (apply zkm <;> assumption) | apply ChO.ite | apply ChO.G | apply ChO.both | apply ChO.bothS | (apply ChO.bind; intro _) | (apply ChO.bind2 (zae _ _ _ _); intro _) | (refine ChO.bind2 ?_ (fun _ => ?_)) | (refine ChO.pbind (fun _ => ?_) (fun _ => ?_)) | (refine ChO.pbind2 ?_ (fun _ => ?_) (fun _ => ?_))
def zcC : ((List UInt8) × Int × Int × Int -> Option (((Tr Tp11) × (List UInt8) × Int × Int × Int) ⊕ (Int × Int))) -> (List UInt8) × Int × Int × Int -> Option (((Tr Tp11) × (List UInt8) × Int × Int × Int) ⊕ (Int × Int)) :=
  fun rec X => zb9 (fun c c_1 c_2 c_3 => rec (c, c_1, c_2, c_3)) X.1 X.2.1 X.2.2.1 X.2.2.2
def zay (c : (List UInt8)) (c_1 : Int) (c_2 : Int) (c_3 : Int) : Option (((Tr Tp11) × (List UInt8) × Int × Int × Int) ⊕ (Int × Int)) := LFix zcC (c, c_1, c_2, c_3)
theorem zma : Cn zcC := fun g h hg X => zk5 _ _ (fun c c_1 c_2 c_3 => hg (c, c_1, c_2, c_3)) X.1 X.2.1 X.2.2.1 X.2.2.2
theorem zmb (c : (List UInt8)) (c_1 : Int) (c_2 : Int) (c_3 : Int) : zay c c_1 c_2 c_3 = zb9 zay c c_1 c_2 c_3 := zaK zma (c, c_1, c_2, c_3)
def zhJ (c : (List UInt8)) (c_1 : Int) (c_2 : Int) (c_3 : Int) : Option (((Tr Tp11) × (List UInt8) × Int × Int × Int) ⊕ (Int × Int)) := zaU zay c c_1 c_2 c_3
def zhB (text : (List UInt8)) : Option ((Tr Tp11) × Int × Int × Unit) :=
  if (decide ((4000 : Int) < (text.length : Int))) = true then
  some (Tr.nil, ((1 : Int), ((0 : Int), ()))) else
  pbind (zhJ text (0 : Int) (0 : Int) (0 : Int)) (fun y'_5 =>
  if (decide (y'_5.2.2.1 < (text.length : Int))) = true then
  pbind (zbs (y'_5.2.1, (y'_5.2.2.1, (y'_5.2.2.2.1, (y'_5.2.2.2.2, ())))) (4 : Int)) (fun _ =>
  some (y'_5.1, ((0 : Int), ((0 : Int), ())))) (fun p => some (Tr.nil, (p.1, (p.2, ())))) else
  some (y'_5.1, ((0 : Int), ((0 : Int), ())))) (fun p => some (Tr.nil, (p.1, (p.2, ()))))

def zdQ (s : Tp15) (v : Int) (r2 : Int -> Option (Int)) (t : Int) : Option (Int) :=
  if (decide (t < (s.length : Int))) = true then
  G (0 <= t /\ t < (s.length : Int)) (
  if (decide (v = (ix s t))) = true then
  some t else
  G (fits (t + (1 : Int))) (
  r2 (t + (1 : Int)))) else
  some (-1 : Int)
def zk3 (s : Tp15) (v : Int) : (Int -> Option (Int)) -> Int -> Option (Int) :=
  fun rec x => zdQ s v (fun t => rec t) x
def zje (s : Tp15) (v : Int) (t : Int) : Option (Int) := LFix (zk3 s v ) t
def zqp (s : Tp15) (v : Int) : Option (Int) :=
  zje s v (0 : Int)
theorem znv (r2 : Nat -> Int -> Option (Int)) (r2' : Int -> Option (Int)) (h_r2 : ∀ a0, ChO (fun κ => r2 κ a0) (r2' a0)) (s : Tp15) (v : Int) (t : Int) : ChO (fun κ => zdQ s v (r2 κ) t) (zdQ s v r2' t) := by
  unfold zdQ
  repeat' with_reducible first | exact ChO.const _ | exact h_r2 _ | apply ChO.ite | apply ChO.G | apply ChO.both | (apply ChO.bind; intro _)
theorem zpq  (s : Tp15) (v : Int) : Cn (zk3 s v) := fun g h hg x => znv  (fun κ t => g κ t) (fun t => h t) (fun t => hg t) s v x
theorem zpr  (s : Tp15) (v : Int) (t : Int) : zje s v t = zdQ s v (zje s v) t := zaK (zpq s v) t

def zi8 (s : Tp15) (v : Int) : Option (Bool) :=
  (zqp s v).bind (fun y' =>
  some (decide ((0 : Int) <= y')))

def za5 (t : Int) (r3 : (Int -> Int -> Int -> Tp10 -> Tp13 -> Option Tp5)) (w_6 : Int) (w_7 : Int) (w_8 : Tp10) (l_2 : Tp13) : Option Tp5 :=
  G (fits (t + (1 : Int))) (
  r3 (t + (1 : Int)) w_6 w_7 w_8 l_2)
def zbH (l_1 : Tp13) (r9 : Tf3) (t_1 : Int) (w_9 : Int) (w_10 : Int) (w_11 : Tp10) (t_2 : Tp13) : Option Tp5 :=
  if (decide (t_1 < (l_1.length : Int))) = true then
  G (0 <= t_1 /\ t_1 < (t_2.length : Int)) (
  G ((t_1).toNat < t_2.length) (
  G ((t_1).toNat < t_2.length) (
  if (decide (((ix t_2 t_1).length : Int) = (0 : Int))) = true then
  G (0 <= t_1 /\ t_1 < (t_2.length : Int)) (
  G (fits (t_1 + (1 : Int))) (
  r9 (t_1 + (1 : Int)) w_9 w_10 w_11 (t_2.set (t_1).toNat ([t_1])))) else
  G (fits (t_1 + (1 : Int))) (
  r9 (t_1 + (1 : Int)) w_9 w_10 w_11 t_2)))) else
  some ((w_9, (w_10, (w_11, ()))), (t_2, ()))
def ziD (l_1 : Tp13) : (Int × Int × Int × Tp10 × Tp13 -> Option Tp5) -> Int × Int × Int × Tp10 × Tp13 -> Option Tp5 :=
  fun rec x => zbH l_1 (fun t_1 w_9 w_10 w_11 t_2 => rec (t_1, w_9, w_10, w_11, t_2)) x.1 x.2.1 x.2.2.1 x.2.2.2.1 x.2.2.2.2
def zcf (l_1 : Tp13) (t_1 : Int) (w_9 : Int) (w_10 : Int) (w_11 : Tp10) (t_2 : Tp13) : Option Tp5 := LFix (ziD l_1 ) (t_1, w_9, w_10, w_11, t_2)
def zbG (g' : Tp7) (r3 : Tf3) (t : Int) (w_3 : Int) (w_4 : Int) (w_5 : Tp10) (l_1 : Tp13) : Option Tp5 :=
  if (decide (t < (g'.2.2.1.length : Int))) = true then
  G (0 <= t /\ t < (g'.2.2.1.length : Int)) (
  G (0 <= (ix g'.2.2.1 t).1 /\ (ix g'.2.2.1 t).1 < (l_1.length : Int)) (
  G (((ix g'.2.2.1 t).1).toNat < l_1.length) (
  G (((ix g'.2.2.1 t).1).toNat < l_1.length) (
  (zi8 (ix l_1 ((ix g'.2.2.1 t).1)) ((((ix g'.2.2.1 t).2).2).1)).bind (fun y' =>
  if (!y') = true then
  G (0 <= (ix g'.2.2.1 t).1 /\ (ix g'.2.2.1 t).1 < (l_1.length : Int)) (
  G (((ix g'.2.2.1 t).1).toNat < l_1.length) (
  both [Tc1] (
  both [Tc1] (
  G (((ix g'.2.2.1 t).1).toNat < l_1.length) (
  G (room (ix l_1 ((ix g'.2.2.1 t).1)) ([(((ix g'.2.2.1 t).2).2).1]) 8) (
  G (0 <= (ix g'.2.2.1 t).1 /\ (ix g'.2.2.1 t).1 < (l_1.length : Int)) (
  G (((ix g'.2.2.1 t).1).toNat = ((ix g'.2.2.1 t).1).toNat) (
  za5 t r3 w_3 w_4 w_5 (l_1.set ((ix g'.2.2.1 t).1).toNat ((ix l_1 ((ix g'.2.2.1 t).1)) ++ ([(((ix g'.2.2.1 t).2).2).1])))))))) (
  G (((ix g'.2.2.1 t).1).toNat < l_1.length) (
  G (room (ix l_1 ((ix g'.2.2.1 t).1)) ([(((ix g'.2.2.1 t).2).2).1]) 8) (
  G (0 <= (ix g'.2.2.1 t).1 /\ (ix g'.2.2.1 t).1 < (l_1.length : Int)) (
  G (((ix g'.2.2.1 t).1).toNat = ((ix g'.2.2.1 t).1).toNat) (
  za5 t r3 w_3 w_4 w_5 (l_1.set ((ix g'.2.2.1 t).1).toNat ((ix l_1 ((ix g'.2.2.1 t).1)) ++ ([(((ix g'.2.2.1 t).2).2).1]))))))))) (
  both [Tc1] (
  G (((ix g'.2.2.1 t).1).toNat < l_1.length) (
  G (room (ix l_1 ((ix g'.2.2.1 t).1)) ([(((ix g'.2.2.1 t).2).2).1]) 8) (
  G (0 <= (ix g'.2.2.1 t).1 /\ (ix g'.2.2.1 t).1 < (l_1.length : Int)) (
  G (((ix g'.2.2.1 t).1).toNat = ((ix g'.2.2.1 t).1).toNat) (
  za5 t r3 w_3 w_4 w_5 (l_1.set ((ix g'.2.2.1 t).1).toNat ((ix l_1 ((ix g'.2.2.1 t).1)) ++ ([(((ix g'.2.2.1 t).2).2).1])))))))) (
  G (((ix g'.2.2.1 t).1).toNat < l_1.length) (
  G (room (ix l_1 ((ix g'.2.2.1 t).1)) ([(((ix g'.2.2.1 t).2).2).1]) 8) (
  G (0 <= (ix g'.2.2.1 t).1 /\ (ix g'.2.2.1 t).1 < (l_1.length : Int)) (
  G (((ix g'.2.2.1 t).1).toNat = ((ix g'.2.2.1 t).1).toNat) (
  za5 t r3 w_3 w_4 w_5 (l_1.set ((ix g'.2.2.1 t).1).toNat ((ix l_1 ((ix g'.2.2.1 t).1)) ++ ([(((ix g'.2.2.1 t).2).2).1]))))))))))) else
  za5 t r3 w_3 w_4 w_5 l_1))))) else
  zcf l_1 (0 : Int) w_3 w_4 w_5 l_1
def ziC (g' : Tp7) : (Int × Int × Int × Tp10 × Tp13 -> Option Tp5) -> Int × Int × Int × Tp10 × Tp13 -> Option Tp5 :=
  fun rec x => zbG g' (fun t w_3 w_4 w_5 l_1 => rec (t, w_3, w_4, w_5, l_1)) x.1 x.2.1 x.2.2.1 x.2.2.2.1 x.2.2.2.2
def zce (g' : Tp7) (t : Int) (w_3 : Int) (w_4 : Int) (w_5 : Tp10) (l_1 : Tp13) : Option Tp5 := LFix (ziC g' ) (t, w_3, w_4, w_5, l_1)
def zey (g' : Tp7) (w : Int) (w_1 : Int) (w_2 : Tp10) (l : Tp13) : Option Tp5 :=
  zce g' (0 : Int) w w_1 w_2 l
def zhy (g' : Tp7) : Option Tp5 :=
  both [Tc1] (
  G (mkOK g'.2.1 g'.2.1 24) (
  zey g' g'.1 g'.2.1 g'.2.2.1 (List.replicate (g'.2.1).toNat ([] : List Int)))) (
  G (mkOK g'.2.1 g'.2.1 24) (
  zey g' g'.1 g'.2.1 g'.2.2.1 (List.replicate (g'.2.1).toNat ([] : List Int))))
theorem zib (r3 : Nat -> Tf3) (r3' : Tf3) (h_r3 : ∀ a0 a1 a2 a3 a4, ChO (fun κ => r3 κ a0 a1 a2 a3 a4) (r3' a0 a1 a2 a3 a4)) (t : Int) (w_6 : Int) (w_7 : Int) (w_8 : Tp10) (l_2 : Tp13) : ChO (fun κ => za5 t (r3 κ) w_6 w_7 w_8 l_2) (za5 t r3' w_6 w_7 w_8 l_2) := by
  unfold za5
  repeat' with_reducible first | exact ChO.const _ | exact h_r3 _ _ _ _ _ | apply ChO.ite | apply ChO.G | apply ChO.both | (apply ChO.bind; intro _)
theorem zl1 (r9 : Nat -> Tf3) (r9' : Tf3) (h_r9 : ∀ a0 a1 a2 a3 a4, ChO (fun κ => r9 κ a0 a1 a2 a3 a4) (r9' a0 a1 a2 a3 a4)) (l_1 : Tp13) (t_1 : Int) (w_9 : Int) (w_10 : Int) (w_11 : Tp10) (t_2 : Tp13) : ChO (fun κ => zbH l_1 (r9 κ) t_1 w_9 w_10 w_11 t_2) (zbH l_1 r9' t_1 w_9 w_10 w_11 t_2) := by
  unfold zbH
  repeat' with_reducible first | exact ChO.const _ | exact h_r9 _ _ _ _ _ | (apply zib <;> assumption) | apply ChO.ite | apply ChO.G | apply ChO.both | (apply ChO.bind; intro _)
theorem znq  (l_1 : Tp13) : Cn (ziD l_1) := fun g h hg x => zl1  (fun κ t_1 w_9 w_10 w_11 t_2 => g κ (t_1, w_9, w_10, w_11, t_2)) (fun t_1 w_9 w_10 w_11 t_2 => h (t_1, w_9, w_10, w_11, t_2)) (fun t_1 w_9 w_10 w_11 t_2 => hg (t_1, w_9, w_10, w_11, t_2)) l_1 x.1 x.2.1 x.2.2.1 x.2.2.2.1 x.2.2.2.2
theorem zid  (l_1 : Tp13) (t_1 : Int) (w_9 : Int) (w_10 : Int) (w_11 : Tp10) (t_2 : Tp13) : zcf l_1 t_1 w_9 w_10 w_11 t_2 = zbH l_1 (zcf l_1) t_1 w_9 w_10 w_11 t_2 := zaK (znq l_1) (t_1, w_9, w_10, w_11, t_2)
theorem zl0 (r3 : Nat -> Tf3) (r3' : Tf3) (h_r3 : ∀ a0 a1 a2 a3 a4, ChO (fun κ => r3 κ a0 a1 a2 a3 a4) (r3' a0 a1 a2 a3 a4)) (g' : Tp7) (t : Int) (w_3 : Int) (w_4 : Int) (w_5 : Tp10) (l_1 : Tp13) : ChO (fun κ => zbG g' (r3 κ) t w_3 w_4 w_5 l_1) (zbG g' r3' t w_3 w_4 w_5 l_1) := by
  unfold zbG
  repeat' with_reducible first | exact ChO.const _ | exact h_r3 _ _ _ _ _ | (apply zib <;> assumption) | apply ChO.ite | apply ChO.G | apply ChO.both | (apply ChO.bind; intro _)
theorem znp  (g' : Tp7) : Cn (ziC g') := fun g h hg x => zl0  (fun κ t w_3 w_4 w_5 l_1 => g κ (t, w_3, w_4, w_5, l_1)) (fun t w_3 w_4 w_5 l_1 => h (t, w_3, w_4, w_5, l_1)) (fun t w_3 w_4 w_5 l_1 => hg (t, w_3, w_4, w_5, l_1)) g' x.1 x.2.1 x.2.2.1 x.2.2.2.1 x.2.2.2.2
theorem zic  (g' : Tp7) (t : Int) (w_3 : Int) (w_4 : Int) (w_5 : Tp10) (l_1 : Tp13) : zce g' t w_3 w_4 w_5 l_1 = zbG g' (zce g') t w_3 w_4 w_5 l_1 := zaK (znp g') (t, w_3, w_4, w_5, l_1)

def zdf (t : Int) (t_1 : (Tr Tp11)) : Option (Bool) :=
  G (t_1.isMk = true) (
  some (decide (((t_1.val (0, (false, (0, ())))).1) = (49 : Int))))

def zbT (w : Tp5) (c : (Tr Tp11)) (r3 : Int -> Tp14 -> Option Tp14) (t : Int) (out : Tp14) : Option Tp14 :=
  if (decide (t < ((List.replicate (w.1.2.1).toNat (false : Bool)).length : Int))) = true then
  (zdf t c).bind (fun y' =>
  G (0 <= t /\ t < (out.length : Int)) (
  G ((t).toNat < out.length) (
  G (fits (t + (1 : Int))) (
  r3 (t + (1 : Int)) (out.set (t).toNat y'))))) else
  some out
def zgr (w : Tp5) (c : (Tr Tp11)) : (Int × Tp14 -> Option Tp14) -> Int × Tp14 -> Option Tp14 :=
  fun rec x => zbT w c (fun t out => rec (t, out)) x.1 x.2
def zdd (w : Tp5) (c : (Tr Tp11)) (t : Int) (out : Tp14) : Option Tp14 := LFix (zgr w c ) (t, out)
def zda (w : Tp5) (c : (Tr Tp11)) : Option Tp14 :=
  G (mkOK w.1.2.1 w.1.2.1 1) (
  zdd w c (0 : Int) (List.replicate (w.1.2.1).toNat (false : Bool)))
theorem zjr (r3 : Nat -> Int -> Tp14 -> Option Tp14) (r3' : Int -> Tp14 -> Option Tp14) (h_r3 : ∀ a0 a1, ChO (fun κ => r3 κ a0 a1) (r3' a0 a1)) (w : Tp5) (c : (Tr Tp11)) (t : Int) (out : Tp14) : ChO (fun κ => zbT w c (r3 κ) t out) (zbT w c r3' t out) := by
  unfold zbT
  repeat' with_reducible first | exact ChO.const _ | exact h_r3 _ _ | apply ChO.ite | apply ChO.G | apply ChO.both | (apply ChO.bind; intro _)
theorem zkr  (w : Tp5) (c : (Tr Tp11)) : Cn (zgr w c) := fun g h hg x => zjr  (fun κ t out => g κ (t, out)) (fun t out => h (t, out)) (fun t out => hg (t, out)) w c x.1 x.2
theorem zks  (w : Tp5) (c : (Tr Tp11)) (t : Int) (out : Tp14) : zdd w c t out = zbT w c (zdd w c) t out := zaK (zkr w c) (t, out)

def zbV (x' : Tp12) (t : Int) (t_1 : (Tr Tp11)) : Option (Bool) :=
  if (decide (x'.1 = t)) = true then
  G (t_1.isMk = true) (
  some (decide (x'.2.1 = ((t_1.val (0, (false, (0, ())))).2.2.1)))) else
  some false

def zb6 (s : Tp10) (c : Int) (c_1 : (Tr Tp11)) (r2 : Int -> Option (Int)) (t : Int) : Option (Int) :=
  if (decide (t < (s.length : Int))) = true then
  G (0 <= t /\ t < (s.length : Int)) (
  (zbV (ix s t) c c_1).bind (fun y' =>
  if y' = true then
  some t else
  G (fits (t + (1 : Int))) (
  r2 (t + (1 : Int))))) else
  some (-1 : Int)
def zgS (s : Tp10) (c : Int) (c_1 : (Tr Tp11)) : (Int -> Option (Int)) -> Int -> Option (Int) :=
  fun rec x => zb6 s c c_1 (fun t => rec t) x
def zds (s : Tp10) (c : Int) (c_1 : (Tr Tp11)) (t : Int) : Option (Int) := LFix (zgS s c c_1 ) t
def zgR (s : Tp10) (c : Int) (c_1 : (Tr Tp11)) : Option (Int) :=
  zds s c c_1 (0 : Int)
theorem zjw (r2 : Nat -> Int -> Option (Int)) (r2' : Int -> Option (Int)) (h_r2 : ∀ a0, ChO (fun κ => r2 κ a0) (r2' a0)) (s : Tp10) (c : Int) (c_1 : (Tr Tp11)) (t : Int) : ChO (fun κ => zb6 s c c_1 (r2 κ) t) (zb6 s c c_1 r2' t) := by
  unfold zb6
  repeat' with_reducible first | exact ChO.const _ | exact h_r2 _ | apply ChO.ite | apply ChO.G | apply ChO.both | (apply ChO.bind; intro _)
theorem zkY  (s : Tp10) (c : Int) (c_1 : (Tr Tp11)) : Cn (zgS s c c_1) := fun g h hg x => zjw  (fun κ t => g κ t) (fun t => h t) (fun t => hg t) s c c_1 x
theorem zkZ  (s : Tp10) (c : Int) (c_1 : (Tr Tp11)) (t : Int) : zds s c c_1 t = zb6 s c c_1 (zds s c c_1) t := zaK (zkY s c c_1) t

def zdq (s : Tp10) (c : Int) (c_1 : (Tr Tp11)) : Option (Bool) :=
  (zgR s c c_1).bind (fun y' =>
  some (decide ((0 : Int) <= y')))

def zdg (p : Int) (t : (Tr Tp11)) (c : Tp5) : Option Tp4 :=
  (zdq c.1.2.2.1 p t).bind (fun y' =>
  some (y', c))

def zaV (w : Tp5) (r3 : (Tr Tp11) -> Int -> Tp5 -> Tp14 -> Option Tp3) (rule : (Tr Tp11)) (t : Int) (l : Tp5) (out : Tp14) : Option Tp3 :=
  if (decide (t < ((List.replicate (w.1.2.1).toNat (false : Bool)).length : Int))) = true then
  (zdg t rule l).bind (fun y'_3 =>
  G (0 <= t /\ t < (out.length : Int)) (
  G ((t).toNat < out.length) (
  G (fits (t + (1 : Int))) (
  r3 rule (t + (1 : Int)) y'_3.2 (out.set (t).toNat y'_3.1))))) else
  some (out, l)
def zeV (w : Tp5) : ((Tr Tp11) × Int × Tp5 × Tp14 -> Option Tp3) -> (Tr Tp11) × Int × Tp5 × Tp14 -> Option Tp3 :=
  fun rec x => zaV w (fun rule t l out => rec (rule, t, l, out)) x.1 x.2.1 x.2.2.1 x.2.2.2
def zbQ (w : Tp5) (rule : (Tr Tp11)) (t : Int) (l : Tp5) (out : Tp14) : Option Tp3 := LFix (zeV w ) (rule, t, l, out)
def zdC (w : Tp5) (c : (Tr Tp11)) (c_1 : Tp5) : Option Tp3 :=
  G (mkOK w.1.2.1 w.1.2.1 1) (
  zbQ w c (0 : Int) c_1 (List.replicate (w.1.2.1).toNat (false : Bool)))
theorem zij (r3 : Nat -> (Tr Tp11) -> Int -> Tp5 -> Tp14 -> Option Tp3) (r3' : (Tr Tp11) -> Int -> Tp5 -> Tp14 -> Option Tp3) (h_r3 : ∀ a0 a1 a2 a3, ChO (fun κ => r3 κ a0 a1 a2 a3) (r3' a0 a1 a2 a3)) (w : Tp5) (rule : (Tr Tp11)) (t : Int) (l : Tp5) (out : Tp14) : ChO (fun κ => zaV w (r3 κ) rule t l out) (zaV w r3' rule t l out) := by
  unfold zaV
  repeat' with_reducible first | exact ChO.const _ | exact h_r3 _ _ _ _ | apply ChO.ite | apply ChO.G | apply ChO.both | (apply ChO.bind; intro _)
theorem zjg  (w : Tp5) : Cn (zeV w) := fun g h hg x => zij  (fun κ rule t l out => g κ (rule, t, l, out)) (fun rule t l out => h (rule, t, l, out)) (fun rule t l out => hg (rule, t, l, out)) w x.1 x.2.1 x.2.2.1 x.2.2.2
theorem zeH  (w : Tp5) (rule : (Tr Tp11)) (t : Int) (l : Tp5) (out : Tp14) : zbQ w rule t l out = zaV w (zbQ w) rule t l out := zaK (zjg w) (rule, t, l, out)

def zgd (s : Tp14) : Option Tp14 :=
  if s.length = 0 then both [(.list .bool)] (
  some ([])) (
  G (room ([] : List Bool) s 1) (
  some (([] : List Bool) ++ s))) else
  G (room ([] : List Bool) s 1) (
  some (([] : List Bool) ++ s))

def zcS (a : Tp14) (r3 : Int -> Tp14 -> Option Tp14) (t : Int) (out : Tp14) : Option Tp14 :=
  if (decide (t < (a.length : Int))) = true then
  G (0 <= t /\ t < (a.length : Int)) (
  G (0 <= t /\ t < (out.length : Int)) (
  G ((t).toNat < out.length) (
  G (fits (t + (1 : Int))) (
  r3 (t + (1 : Int)) (out.set (t).toNat (!(ix a t))))))) else
  some out
def zl7 (a : Tp14) : (Int × Tp14 -> Option Tp14) -> Int × Tp14 -> Option Tp14 :=
  fun rec x => zcS a (fun t out => rec (t, out)) x.1 x.2
def zew (a : Tp14) (t : Int) (out : Tp14) : Option Tp14 := LFix (zl7 a ) (t, out)
def zcs (a : Tp14) : Option Tp14 :=
  (zgd a).bind (fun y' =>
  zew a (0 : Int) y')
theorem zoe (r3 : Nat -> Int -> Tp14 -> Option Tp14) (r3' : Int -> Tp14 -> Option Tp14) (h_r3 : ∀ a0 a1, ChO (fun κ => r3 κ a0 a1) (r3' a0 a1)) (a : Tp14) (t : Int) (out : Tp14) : ChO (fun κ => zcS a (r3 κ) t out) (zcS a r3' t out) := by
  unfold zcS
  repeat' with_reducible first | exact ChO.const _ | exact h_r3 _ _ | apply ChO.ite | apply ChO.G | apply ChO.both | (apply ChO.bind; intro _)
theorem zqy  (a : Tp14) : Cn (zl7 a) := fun g h hg x => zoe  (fun κ t out => g κ (t, out)) (fun t out => h (t, out)) (fun t out => hg (t, out)) a x.1 x.2
theorem zlz  (a : Tp14) (t : Int) (out : Tp14) : zew a t out = zcS a (zew a) t out := zaK (zqy a) (t, out)

def zdh (p : Int) (t : Tp14) (t_1 : Tp14) : Option (Bool) :=
  G (0 <= p /\ p < (t.length : Int)) (
  if (ix t p) = true then
  G (0 <= p /\ p < (t_1.length : Int)) (
  some (ix t_1 p)) else
  some false)

def zbx (w : Tp5) (c : Tp14) (c_1 : Tp14) (r3 : Int -> Tp14 -> Option Tp14) (t : Int) (out : Tp14) : Option Tp14 :=
  if (decide (t < ((List.replicate (w.1.2.1).toNat (false : Bool)).length : Int))) = true then
  (zdh t c c_1).bind (fun y' =>
  G (0 <= t /\ t < (out.length : Int)) (
  G ((t).toNat < out.length) (
  G (fits (t + (1 : Int))) (
  r3 (t + (1 : Int)) (out.set (t).toNat y'))))) else
  some out
def zeW (w : Tp5) (c : Tp14) (c_1 : Tp14) : (Int × Tp14 -> Option Tp14) -> Int × Tp14 -> Option Tp14 :=
  fun rec x => zbx w c c_1 (fun t out => rec (t, out)) x.1 x.2
def zcF (w : Tp5) (c : Tp14) (c_1 : Tp14) (t : Int) (out : Tp14) : Option Tp14 := LFix (zeW w c c_1 ) (t, out)
def zdD (w : Tp5) (c : Tp14) (c_1 : Tp14) : Option Tp14 :=
  G (mkOK w.1.2.1 w.1.2.1 1) (
  zcF w c c_1 (0 : Int) (List.replicate (w.1.2.1).toNat (false : Bool)))
theorem zik (r3 : Nat -> Int -> Tp14 -> Option Tp14) (r3' : Int -> Tp14 -> Option Tp14) (h_r3 : ∀ a0 a1, ChO (fun κ => r3 κ a0 a1) (r3' a0 a1)) (w : Tp5) (c : Tp14) (c_1 : Tp14) (t : Int) (out : Tp14) : ChO (fun κ => zbx w c c_1 (r3 κ) t out) (zbx w c c_1 r3' t out) := by
  unfold zbx
  repeat' with_reducible first | exact ChO.const _ | exact h_r3 _ _ | apply ChO.ite | apply ChO.G | apply ChO.both | (apply ChO.bind; intro _)
theorem zjh  (w : Tp5) (c : Tp14) (c_1 : Tp14) : Cn (zeW w c c_1) := fun g h hg x => zik  (fun κ t out => g κ (t, out)) (fun t out => h (t, out)) (fun t out => hg (t, out)) w c c_1 x.1 x.2
theorem zji  (w : Tp5) (c : Tp14) (c_1 : Tp14) (t : Int) (out : Tp14) : zcF w c c_1 t out = zbx w c c_1 (zcF w c c_1) t out := zaK (zjh w c c_1) (t, out)

def zdi (p : Int) (t : Tp14) (t_1 : Tp14) : Option (Bool) :=
  G (0 <= p /\ p < (t.length : Int)) (
  if (ix t p) = true then
  some true else
  G (0 <= p /\ p < (t_1.length : Int)) (
  some (ix t_1 p)))

def zby (w : Tp5) (c : Tp14) (c_1 : Tp14) (r3 : Int -> Tp14 -> Option Tp14) (t : Int) (out : Tp14) : Option Tp14 :=
  if (decide (t < ((List.replicate (w.1.2.1).toNat (false : Bool)).length : Int))) = true then
  (zdi t c c_1).bind (fun y' =>
  G (0 <= t /\ t < (out.length : Int)) (
  G ((t).toNat < out.length) (
  G (fits (t + (1 : Int))) (
  r3 (t + (1 : Int)) (out.set (t).toNat y'))))) else
  some out
def zeX (w : Tp5) (c : Tp14) (c_1 : Tp14) : (Int × Tp14 -> Option Tp14) -> Int × Tp14 -> Option Tp14 :=
  fun rec x => zby w c c_1 (fun t out => rec (t, out)) x.1 x.2
def zcG (w : Tp5) (c : Tp14) (c_1 : Tp14) (t : Int) (out : Tp14) : Option Tp14 := LFix (zeX w c c_1 ) (t, out)
def zdE (w : Tp5) (c : Tp14) (c_1 : Tp14) : Option Tp14 :=
  G (mkOK w.1.2.1 w.1.2.1 1) (
  zcG w c c_1 (0 : Int) (List.replicate (w.1.2.1).toNat (false : Bool)))
theorem zil (r3 : Nat -> Int -> Tp14 -> Option Tp14) (r3' : Int -> Tp14 -> Option Tp14) (h_r3 : ∀ a0 a1, ChO (fun κ => r3 κ a0 a1) (r3' a0 a1)) (w : Tp5) (c : Tp14) (c_1 : Tp14) (t : Int) (out : Tp14) : ChO (fun κ => zby w c c_1 (r3 κ) t out) (zby w c c_1 r3' t out) := by
  unfold zby
  repeat' with_reducible first | exact ChO.const _ | exact h_r3 _ _ | apply ChO.ite | apply ChO.G | apply ChO.both | (apply ChO.bind; intro _)
theorem zjj  (w : Tp5) (c : Tp14) (c_1 : Tp14) : Cn (zeX w c c_1) := fun g h hg x => zil  (fun κ t out => g κ (t, out)) (fun t out => h (t, out)) (fun t out => hg (t, out)) w c c_1 x.1 x.2
theorem zjk  (w : Tp5) (c : Tp14) (c_1 : Tp14) (t : Int) (out : Tp14) : zcG w c c_1 t out = zby w c c_1 (zcG w c c_1) t out := zaK (zjj w c c_1) (t, out)

def zcm (q : Int) (t : Tp14) : Option (Bool) :=
  G (0 <= q /\ q < (t.length : Int)) (
  some (ix t q))

def zb7 (s : Tp15) (c : Tp14) (r2 : Int -> Option (Int)) (t : Int) : Option (Int) :=
  if (decide (t < (s.length : Int))) = true then
  G (0 <= t /\ t < (s.length : Int)) (
  (zcm (ix s t) c).bind (fun y' =>
  if y' = true then
  some t else
  G (fits (t + (1 : Int))) (
  r2 (t + (1 : Int))))) else
  some (-1 : Int)
def zgU (s : Tp15) (c : Tp14) : (Int -> Option (Int)) -> Int -> Option (Int) :=
  fun rec x => zb7 s c (fun t => rec t) x
def zdt (s : Tp15) (c : Tp14) (t : Int) : Option (Int) := LFix (zgU s c ) t
def zgT (s : Tp15) (c : Tp14) : Option (Int) :=
  zdt s c (0 : Int)
theorem zjx (r2 : Nat -> Int -> Option (Int)) (r2' : Int -> Option (Int)) (h_r2 : ∀ a0, ChO (fun κ => r2 κ a0) (r2' a0)) (s : Tp15) (c : Tp14) (t : Int) : ChO (fun κ => zb7 s c (r2 κ) t) (zb7 s c r2' t) := by
  unfold zb7
  repeat' with_reducible first | exact ChO.const _ | exact h_r2 _ | apply ChO.ite | apply ChO.G | apply ChO.both | (apply ChO.bind; intro _)
theorem zk0  (s : Tp15) (c : Tp14) : Cn (zgU s c) := fun g h hg x => zjx  (fun κ t => g κ t) (fun t => h t) (fun t => hg t) s c x
theorem zk1  (s : Tp15) (c : Tp14) (t : Int) : zdt s c t = zb7 s c (zdt s c) t := zaK (zk0 s c) t

def zdr (s : Tp15) (c : Tp14) : Option (Bool) :=
  (zgT s c).bind (fun y' =>
  some (decide ((0 : Int) <= y')))

def zcd (w : Tp5) (p : Int) (a : Tp14) : Option (Bool) :=
  G (0 <= p /\ p < (w.2.1.length : Int)) (
  (zdr (ix w.2.1 p) a).bind (fun y' =>
  some y'))

def zbN (s1 : Tp14) (s2 : Tp14) (r4 : Int -> Option (Bool)) (t : Int) : Option (Bool) :=
  if (decide (t < (s1.length : Int))) = true then
  G (0 <= t /\ t < (s1.length : Int)) (
  G (0 <= t /\ t < (s2.length : Int)) (
  if (decide (¬ (ix s1 t) = (ix s2 t))) = true then
  some false else
  G (fits (t + (1 : Int))) (
  r4 (t + (1 : Int))))) else
  some true
def zkX (s1 : Tp14) (s2 : Tp14) : (Int -> Option (Bool)) -> Int -> Option (Bool) :=
  fun rec x => zbN s1 s2 (fun t => rec t) x
def zjb (s1 : Tp14) (s2 : Tp14) (t : Int) : Option (Bool) := LFix (zkX s1 s2 ) t
def zhY (s1 : Tp14) (s2 : Tp14) : Option (Bool) :=
  if (decide (¬ (s1.length : Int) = (s2.length : Int))) = true then
  some false else
  zjb s1 s2 (0 : Int)
theorem znu (r4 : Nat -> Int -> Option (Bool)) (r4' : Int -> Option (Bool)) (h_r4 : ∀ a0, ChO (fun κ => r4 κ a0) (r4' a0)) (s1 : Tp14) (s2 : Tp14) (t : Int) : ChO (fun κ => zbN s1 s2 (r4 κ) t) (zbN s1 s2 r4' t) := by
  unfold zbN
  repeat' with_reducible first | exact ChO.const _ | exact h_r4 _ | apply ChO.ite | apply ChO.G | apply ChO.both | (apply ChO.bind; intro _)
theorem zpp  (s1 : Tp14) (s2 : Tp14) : Cn (zkX s1 s2) := fun g h hg x => znu  (fun κ t => g κ t) (fun t => h t) (fun t => hg t) s1 s2 x
theorem zgQ  (s1 : Tp14) (s2 : Tp14) (t : Int) : zjb s1 s2 t = zbN s1 s2 (zjb s1 s2) t := zaK (zpp s1 s2) t

def zcJ (p : Int) (c : Tp14) (c_1 : Tp5) (l : Tp14) : Option (Bool × Tp14 × Tp14 × Tp7 × Tp13 × Unit) :=
  G (0 <= p /\ p < (l.length : Int)) (
  G ((p).toNat < l.length) (
  if (ix l p) = true then
  some (true, l, c, c_1) else
  G (0 <= p /\ p < (c.length : Int)) (
  if (ix c p) = true then
  (zcd c_1 p l).bind (fun y' =>
  some (y', l, c, c_1)) else
  some (false, l, c, c_1))))

def zaW (w : Tp5) (r3 : Tf2) (t : Int) (l_1 : Tp14) (l_2 : Tp5) (out : Tp14) (l_3 : Tp14) : Option Tp1 :=
  if (decide (t < ((List.replicate (w.1.2.1).toNat (false : Bool)).length : Int))) = true then
  (zcJ t l_1 l_2 l_3).bind (fun y'_5 =>
  G (0 <= t /\ t < (out.length : Int)) (
  G ((t).toNat < out.length) (
  G (fits (t + (1 : Int))) (
  r3 (t + (1 : Int)) y'_5.2.2.1 y'_5.2.2.2 (out.set (t).toNat y'_5.1) y'_5.2.1)))) else
  some (out, l_3, l_1, l_2)
def zeY (w : Tp5) : (Int × Tp14 × Tp5 × Tp14 × Tp14 -> Option Tp1) -> Int × Tp14 × Tp5 × Tp14 × Tp14 -> Option Tp1 :=
  fun rec x => zaW w (fun t l_1 l_2 out l_3 => rec (t, l_1, l_2, out, l_3)) x.1 x.2.1 x.2.2.1 x.2.2.2.1 x.2.2.2.2
def zbR (w : Tp5) (t : Int) (l_1 : Tp14) (l_2 : Tp5) (out : Tp14) (l_3 : Tp14) : Option Tp1 := LFix (zeY w ) (t, l_1, l_2, out, l_3)
def zdF (w : Tp5) (c : Tp14) (c_1 : Tp5) (l : Tp14) : Option Tp1 :=
  G (mkOK w.1.2.1 w.1.2.1 1) (
  zbR w (0 : Int) c c_1 (List.replicate (w.1.2.1).toNat (false : Bool)) l)
theorem zim (r3 : Nat -> Tf2) (r3' : Tf2) (h_r3 : ∀ a0 a1 a2 a3 a4, ChO (fun κ => r3 κ a0 a1 a2 a3 a4) (r3' a0 a1 a2 a3 a4)) (w : Tp5) (t : Int) (l_1 : Tp14) (l_2 : Tp5) (out : Tp14) (l_3 : Tp14) : ChO (fun κ => zaW w (r3 κ) t l_1 l_2 out l_3) (zaW w r3' t l_1 l_2 out l_3) := by
  unfold zaW
  repeat' with_reducible first | exact ChO.const _ | exact h_r3 _ _ _ _ _ | apply ChO.ite | apply ChO.G | apply ChO.both | (apply ChO.bind; intro _)
theorem zjl  (w : Tp5) : Cn (zeY w) := fun g h hg x => zim  (fun κ t l_1 l_2 out l_3 => g κ (t, l_1, l_2, out, l_3)) (fun t l_1 l_2 out l_3 => h (t, l_1, l_2, out, l_3)) (fun t l_1 l_2 out l_3 => hg (t, l_1, l_2, out, l_3)) w x.1 x.2.1 x.2.2.1 x.2.2.2.1 x.2.2.2.2
theorem zeI  (w : Tp5) (t : Int) (l_1 : Tp14) (l_2 : Tp5) (out : Tp14) (l_3 : Tp14) : zbR w t l_1 l_2 out l_3 = zaW w (zbR w) t l_1 l_2 out l_3 := zaK (zjl w) (t, l_1, l_2, out, l_3)

def zbe  (r2 : Tf6) (w_1 : Tp5) (a_1 : Tp14) (l : Tp14) : Option Tp14 :=
  (zdF w_1 a_1 w_1 l).bind (fun y'_7 =>
  (zhY y'_7.1 y'_7.2.1).bind (fun y'_6 =>
  if y'_6 = true then
  some y'_7.2.1 else
  r2 y'_7.2.2.2 y'_7.2.2.1 y'_7.1))
def zf0  : (Tp5 × Tp14 × Tp14 -> Option Tp14) -> Tp5 × Tp14 × Tp14 -> Option Tp14 :=
  fun rec x => zbe (fun w_1 a_1 l => rec (w_1, a_1, l)) x.1 x.2.1 x.2.2
def zc2  (w_1 : Tp5) (a_1 : Tp14) (l : Tp14) : Option Tp14 := LFix (zf0 ) (w_1, a_1, l)
def zaI (w : Tp5) (a : Tp14) (b : Tp14) : Option Tp14 :=
  (zgd b).bind (fun y' =>
  zc2 w a y')
theorem ziB (r2 : Nat -> Tf6) (r2' : Tf6) (h_r2 : ∀ a0 a1 a2, ChO (fun κ => r2 κ a0 a1 a2) (r2' a0 a1 a2)) (w_1 : Tp5) (a_1 : Tp14) (l : Tp14) : ChO (fun κ => zbe (r2 κ) w_1 a_1 l) (zbe r2' w_1 a_1 l) := by
  unfold zbe
  repeat' with_reducible first | exact ChO.const _ | exact h_r2 _ _ _ | apply ChO.ite | apply ChO.G | apply ChO.both | (apply ChO.bind; intro _)
theorem zj4   : Cn (zf0) := fun g h hg x => ziB  (fun κ w_1 a_1 l => g κ (w_1, a_1, l)) (fun w_1 a_1 l => h (w_1, a_1, l)) (fun w_1 a_1 l => hg (w_1, a_1, l))  x.1 x.2.1 x.2.2
theorem zj5   (w_1 : Tp5) (a_1 : Tp14) (l : Tp14) : zc2 w_1 a_1 l = zbe (zc2) w_1 a_1 l := zaK (zj4 ) (w_1, a_1, l)

def zc0 (p : Int) (c : Tp5) (l : Tp14) : Option (Bool × Tp14 × Tp7 × Tp13 × Unit) :=
  G (0 <= p /\ p < (l.length : Int)) (
  G ((p).toNat < l.length) (
  if (ix l p) = true then
  (zcd c p l).bind (fun y' =>
  some (y', l, c)) else
  some (false, l, c)))

def zaX (w : Tp5) (r3 : Tf5) (t : Int) (l_1 : Tp5) (out : Tp14) (l_2 : Tp14) : Option Tp2 :=
  if (decide (t < ((List.replicate (w.1.2.1).toNat (false : Bool)).length : Int))) = true then
  (zc0 t l_1 l_2).bind (fun y'_4 =>
  G (0 <= t /\ t < (out.length : Int)) (
  G ((t).toNat < out.length) (
  G (fits (t + (1 : Int))) (
  r3 (t + (1 : Int)) y'_4.2.2 (out.set (t).toNat y'_4.1) y'_4.2.1)))) else
  some (out, l_2, l_1)
def zeZ (w : Tp5) : (Int × Tp5 × Tp14 × Tp14 -> Option Tp2) -> Int × Tp5 × Tp14 × Tp14 -> Option Tp2 :=
  fun rec x => zaX w (fun t l_1 out l_2 => rec (t, l_1, out, l_2)) x.1 x.2.1 x.2.2.1 x.2.2.2
def zbS (w : Tp5) (t : Int) (l_1 : Tp5) (out : Tp14) (l_2 : Tp14) : Option Tp2 := LFix (zeZ w ) (t, l_1, out, l_2)
def zdG (w : Tp5) (c : Tp5) (l : Tp14) : Option Tp2 :=
  G (mkOK w.1.2.1 w.1.2.1 1) (
  zbS w (0 : Int) c (List.replicate (w.1.2.1).toNat (false : Bool)) l)
theorem zin (r3 : Nat -> Tf5) (r3' : Tf5) (h_r3 : ∀ a0 a1 a2 a3, ChO (fun κ => r3 κ a0 a1 a2 a3) (r3' a0 a1 a2 a3)) (w : Tp5) (t : Int) (l_1 : Tp5) (out : Tp14) (l_2 : Tp14) : ChO (fun κ => zaX w (r3 κ) t l_1 out l_2) (zaX w r3' t l_1 out l_2) := by
  unfold zaX
  repeat' with_reducible first | exact ChO.const _ | exact h_r3 _ _ _ _ | apply ChO.ite | apply ChO.G | apply ChO.both | (apply ChO.bind; intro _)
theorem zjm  (w : Tp5) : Cn (zeZ w) := fun g h hg x => zin  (fun κ t l_1 out l_2 => g κ (t, l_1, out, l_2)) (fun t l_1 out l_2 => h (t, l_1, out, l_2)) (fun t l_1 out l_2 => hg (t, l_1, out, l_2)) w x.1 x.2.1 x.2.2.1 x.2.2.2
theorem zeJ  (w : Tp5) (t : Int) (l_1 : Tp5) (out : Tp14) (l_2 : Tp14) : zbS w t l_1 out l_2 = zaX w (zbS w) t l_1 out l_2 := zaK (zjm w) (t, l_1, out, l_2)

def zbm  (r2 : Tp5 -> Tp14 -> Option Tp14) (w_1 : Tp5) (l : Tp14) : Option Tp14 :=
  (zdG w_1 w_1 l).bind (fun y'_6 =>
  (zhY y'_6.1 y'_6.2.1).bind (fun y'_5 =>
  if y'_5 = true then
  some y'_6.2.1 else
  r2 y'_6.2.2 y'_6.1))
def zgs  : (Tp5 × Tp14 -> Option Tp14) -> Tp5 × Tp14 -> Option Tp14 :=
  fun rec x => zbm (fun w_1 l => rec (w_1, l)) x.1 x.2
def zde  (w_1 : Tp5) (l : Tp14) : Option Tp14 := LFix (zgs ) (w_1, l)
def zbU (w : Tp5) (a : Tp14) : Option Tp14 :=
  (zgd a).bind (fun y' =>
  zde w y')
theorem zjs (r2 : Nat -> Tp5 -> Tp14 -> Option Tp14) (r2' : Tp5 -> Tp14 -> Option Tp14) (h_r2 : ∀ a0 a1, ChO (fun κ => r2 κ a0 a1) (r2' a0 a1)) (w_1 : Tp5) (l : Tp14) : ChO (fun κ => zbm (r2 κ) w_1 l) (zbm r2' w_1 l) := by
  unfold zbm
  repeat' with_reducible first | exact ChO.const _ | exact h_r2 _ _ | apply ChO.ite | apply ChO.G | apply ChO.both | (apply ChO.bind; intro _)
theorem zkt   : Cn (zgs) := fun g h hg x => zjs  (fun κ w_1 l => g κ (w_1, l)) (fun w_1 l => h (w_1, l)) (fun w_1 l => hg (w_1, l))  x.1 x.2
theorem zku   (w_1 : Tp5) (l : Tp14) : zde w_1 l = zbm (zde) w_1 l := zaK (zkt ) (w_1, l)

def zdj (p : Int) (t : Tp14) (t_1 : Tp14) : Option (Bool) :=
  G (0 <= p /\ p < (t.length : Int)) (
  if (!(ix t p)) = true then
  G (0 <= p /\ p < (t_1.length : Int)) (
  some (!(ix t_1 p))) else
  some false)

def zbz (w : Tp5) (c : Tp14) (c_1 : Tp14) (r3 : Int -> Tp14 -> Option Tp14) (t : Int) (out : Tp14) : Option Tp14 :=
  if (decide (t < ((List.replicate (w.1.2.1).toNat (false : Bool)).length : Int))) = true then
  (zdj t c c_1).bind (fun y' =>
  G (0 <= t /\ t < (out.length : Int)) (
  G ((t).toNat < out.length) (
  G (fits (t + (1 : Int))) (
  r3 (t + (1 : Int)) (out.set (t).toNat y'))))) else
  some out
def ze0 (w : Tp5) (c : Tp14) (c_1 : Tp14) : (Int × Tp14 -> Option Tp14) -> Int × Tp14 -> Option Tp14 :=
  fun rec x => zbz w c c_1 (fun t out => rec (t, out)) x.1 x.2
def zcH (w : Tp5) (c : Tp14) (c_1 : Tp14) (t : Int) (out : Tp14) : Option Tp14 := LFix (ze0 w c c_1 ) (t, out)
def zca (w : Tp5) (c : Tp14) (c_1 : Tp14) : Option Tp14 :=
  G (mkOK w.1.2.1 w.1.2.1 1) (
  zcH w c c_1 (0 : Int) (List.replicate (w.1.2.1).toNat (false : Bool)))
theorem zio (r3 : Nat -> Int -> Tp14 -> Option Tp14) (r3' : Int -> Tp14 -> Option Tp14) (h_r3 : ∀ a0 a1, ChO (fun κ => r3 κ a0 a1) (r3' a0 a1)) (w : Tp5) (c : Tp14) (c_1 : Tp14) (t : Int) (out : Tp14) : ChO (fun κ => zbz w c c_1 (r3 κ) t out) (zbz w c c_1 r3' t out) := by
  unfold zbz
  repeat' with_reducible first | exact ChO.const _ | exact h_r3 _ _ | apply ChO.ite | apply ChO.G | apply ChO.both | (apply ChO.bind; intro _)
theorem zjn  (w : Tp5) (c : Tp14) (c_1 : Tp14) : Cn (ze0 w c c_1) := fun g h hg x => zio  (fun κ t out => g κ (t, out)) (fun t out => h (t, out)) (fun t out => hg (t, out)) w c c_1 x.1 x.2
theorem zjo  (w : Tp5) (c : Tp14) (c_1 : Tp14) (t : Int) (out : Tp14) : zcH w c c_1 t out = zbz w c c_1 (zcH w c c_1) t out := zaK (zjn w c c_1) (t, out)

def zdk (p : Int) (t : Tp14) (t_1 : Tp14) : Option (Bool) :=
  G (0 <= p /\ p < (t.length : Int)) (
  if (!(ix t p)) = true then
  G (0 <= p /\ p < (t_1.length : Int)) (
  some (!(ix t_1 p))) else
  some false)

def zbA (w : Tp5) (c : Tp14) (c_1 : Tp14) (r3 : Int -> Tp14 -> Option Tp14) (t : Int) (out : Tp14) : Option Tp14 :=
  if (decide (t < ((List.replicate (w.1.2.1).toNat (false : Bool)).length : Int))) = true then
  (zdk t c c_1).bind (fun y' =>
  G (0 <= t /\ t < (out.length : Int)) (
  G ((t).toNat < out.length) (
  G (fits (t + (1 : Int))) (
  r3 (t + (1 : Int)) (out.set (t).toNat y'))))) else
  some out
def ze1 (w : Tp5) (c : Tp14) (c_1 : Tp14) : (Int × Tp14 -> Option Tp14) -> Int × Tp14 -> Option Tp14 :=
  fun rec x => zbA w c c_1 (fun t out => rec (t, out)) x.1 x.2
def zcI (w : Tp5) (c : Tp14) (c_1 : Tp14) (t : Int) (out : Tp14) : Option Tp14 := LFix (ze1 w c c_1 ) (t, out)
def zdH (w : Tp5) (c : Tp14) (c_1 : Tp14) : Option Tp14 :=
  G (mkOK w.1.2.1 w.1.2.1 1) (
  zcI w c c_1 (0 : Int) (List.replicate (w.1.2.1).toNat (false : Bool)))
theorem ziq (r3 : Nat -> Int -> Tp14 -> Option Tp14) (r3' : Int -> Tp14 -> Option Tp14) (h_r3 : ∀ a0 a1, ChO (fun κ => r3 κ a0 a1) (r3' a0 a1)) (w : Tp5) (c : Tp14) (c_1 : Tp14) (t : Int) (out : Tp14) : ChO (fun κ => zbA w c c_1 (r3 κ) t out) (zbA w c c_1 r3' t out) := by
  unfold zbA
  repeat' with_reducible first | exact ChO.const _ | exact h_r3 _ _ | apply ChO.ite | apply ChO.G | apply ChO.both | (apply ChO.bind; intro _)
theorem zjp  (w : Tp5) (c : Tp14) (c_1 : Tp14) : Cn (ze1 w c c_1) := fun g h hg x => ziq  (fun κ t out => g κ (t, out)) (fun t out => h (t, out)) (fun t out => hg (t, out)) w c c_1 x.1 x.2
theorem zjq  (w : Tp5) (c : Tp14) (c_1 : Tp14) (t : Int) (out : Tp14) : zcI w c c_1 t out = zbA w c c_1 (zcI w c c_1) t out := zaK (zjp w c c_1) (t, out)

def zen (p : Int) (t : Tp14) (c : Tp5) : Option Tp4 :=
  (zcd c p t).bind (fun y' =>
  some (y', c))

def zaO (w : Tp5) (r3 : Tf4) (rule : Tp14) (t : Int) (l : Tp5) (out : Tp14) : Option Tp3 :=
  if (decide (t < ((List.replicate (w.1.2.1).toNat (false : Bool)).length : Int))) = true then
  (zen t rule l).bind (fun y'_3 =>
  G (0 <= t /\ t < (out.length : Int)) (
  G ((t).toNat < out.length) (
  G (fits (t + (1 : Int))) (
  r3 rule (t + (1 : Int)) y'_3.2 (out.set (t).toNat y'_3.1))))) else
  some (out, l)
def zeF (w : Tp5) : (Tp14 × Int × Tp5 × Tp14 -> Option Tp3) -> Tp14 × Int × Tp5 × Tp14 -> Option Tp3 :=
  fun rec x => zaO w (fun rule t l out => rec (rule, t, l, out)) x.1 x.2.1 x.2.2.1 x.2.2.2
def zbM (w : Tp5) (rule : Tp14) (t : Int) (l : Tp5) (out : Tp14) : Option Tp3 := LFix (zeF w ) (rule, t, l, out)
def zdb (w : Tp5) (c : Tp14) (c_1 : Tp5) : Option Tp3 :=
  G (mkOK w.1.2.1 w.1.2.1 1) (
  zbM w c (0 : Int) c_1 (List.replicate (w.1.2.1).toNat (false : Bool)))
theorem zh3 (r3 : Nat -> Tf4) (r3' : Tf4) (h_r3 : ∀ a0 a1 a2 a3, ChO (fun κ => r3 κ a0 a1 a2 a3) (r3' a0 a1 a2 a3)) (w : Tp5) (rule : Tp14) (t : Int) (l : Tp5) (out : Tp14) : ChO (fun κ => zaO w (r3 κ) rule t l out) (zaO w r3' rule t l out) := by
  unfold zaO
  repeat' with_reducible first | exact ChO.const _ | exact h_r3 _ _ _ _ | apply ChO.ite | apply ChO.G | apply ChO.both | (apply ChO.bind; intro _)
theorem ziy  (w : Tp5) : Cn (zeF w) := fun g h hg x => zh3  (fun κ rule t l out => g κ (rule, t, l, out)) (fun rule t l out => h (rule, t, l, out)) (fun rule t l out => hg (rule, t, l, out)) w x.1 x.2.1 x.2.2.1 x.2.2.2
theorem zei  (w : Tp5) (rule : Tp14) (t : Int) (l : Tp5) (out : Tp14) : zbM w rule t l out = zaO w (zbM w) rule t l out := zaK (ziy w) (rule, t, l, out)

def zfB (t : Int) : Option (Bool) :=
  some true

def zbo (w : Tp5) (r3 : Int -> Tp14 -> Option Tp14) (t : Int) (out : Tp14) : Option Tp14 :=
  if (decide (t < ((List.replicate (w.1.2.1).toNat (false : Bool)).length : Int))) = true then
  (zfB t).bind (fun y' =>
  G (0 <= t /\ t < (out.length : Int)) (
  G ((t).toNat < out.length) (
  G (fits (t + (1 : Int))) (
  r3 (t + (1 : Int)) (out.set (t).toNat y'))))) else
  some out
def zeG (w : Tp5) : (Int × Tp14 -> Option Tp14) -> Int × Tp14 -> Option Tp14 :=
  fun rec x => zbo w (fun t out => rec (t, out)) x.1 x.2
def zcu (w : Tp5) (t : Int) (out : Tp14) : Option Tp14 := LFix (zeG w ) (t, out)
def zdc (w : Tp5) : Option Tp14 :=
  G (mkOK w.1.2.1 w.1.2.1 1) (
  zcu w (0 : Int) (List.replicate (w.1.2.1).toNat (false : Bool)))
theorem zh4 (r3 : Nat -> Int -> Tp14 -> Option Tp14) (r3' : Int -> Tp14 -> Option Tp14) (h_r3 : ∀ a0 a1, ChO (fun κ => r3 κ a0 a1) (r3' a0 a1)) (w : Tp5) (t : Int) (out : Tp14) : ChO (fun κ => zbo w (r3 κ) t out) (zbo w r3' t out) := by
  unfold zbo
  repeat' with_reducible first | exact ChO.const _ | exact h_r3 _ _ | apply ChO.ite | apply ChO.G | apply ChO.both | (apply ChO.bind; intro _)
theorem ziz  (w : Tp5) : Cn (zeG w) := fun g h hg x => zh4  (fun κ t out => g κ (t, out)) (fun t out => h (t, out)) (fun t out => hg (t, out)) w x.1 x.2
theorem ziA  (w : Tp5) (t : Int) (out : Tp14) : zcu w t out = zbo w (zcu w) t out := zaK (ziz w) (t, out)

def zex (w : Tp5) : Option Tp14 :=
  (zdc w).bind (fun y' =>
  some y')

def zbX (w : Tp5) (never : Tp14) (bad : Tp14) : Option Tp14 :=
  (zdH w never bad).bind (fun y'_16 =>
  some y'_16)
def zbW (w : Tp5) (a : Tp14) (b : Tp14) (never : Tp14) : Option Tp14 :=
  both [(.list .bool)] (
  (zcs b).bind (fun y'_13 =>
  both [(.list .bool)] (
  (zca w a b).bind (fun y'_14 =>
  both [(.list .bool)] (
  (zaI w y'_13 y'_14).bind (fun y'_15 =>
  zbX w never y'_15)) (
  (zaI w y'_13 y'_14).bind (fun y'_17 =>
  zbX w never y'_17)))) (
  (zca w a b).bind (fun y'_18 =>
  (zaI w y'_13 y'_18).bind (fun y'_19 =>
  zbX w never y'_19))))) (
  (zcs b).bind (fun y'_20 =>
  (zca w a b).bind (fun y'_21 =>
  (zaI w y'_20 y'_21).bind (fun y'_22 =>
  zbX w never y'_22))))
def zao (w : Tp5) (n : (Tr Tp11)) (a : Tp14) (b : Tp14) : Option Tp14 :=
  G (n.isMk = true) (
  if (decide (((n.val (0, (false, (0, ())))).1) = (38 : Int))) = true then
  (zdD w a b).bind (fun y'_8 =>
  some y'_8) else
  G (n.isMk = true) (
  if (decide (((n.val (0, (false, (0, ())))).1) = (124 : Int))) = true then
  (zdE w a b).bind (fun y'_9 =>
  some y'_9) else
  G (n.isMk = true) (
  if (!((n.val (0, (false, (0, ())))).2.1)) = true then
  (zaI w a b).bind (fun y'_10 =>
  some y'_10) else
  both [(.list .bool)] (
  (zcs b).bind (fun y'_11 =>
  both [(.list .bool)] (
  (zbU w y'_11).bind (fun y'_12 =>
  zbW w a b y'_12)) (
  (zbU w y'_11).bind (fun y'_23 =>
  zbW w a b y'_23)))) (
  (zcs b).bind (fun y'_24 =>
  (zbU w y'_24).bind (fun y'_25 =>
  zbW w a b y'_25))))))
def zat (w : Tp5) (n : (Tr Tp11)) (a_1 : Tp14) : Option Tp14 :=
  G (n.isMk = true) (
  if (decide (((n.val (0, (false, (0, ())))).1) = (88 : Int))) = true then
  (zdb w a_1 w).bind (fun y'_32 =>
  G (n.isMk = true) (
  if ((n.val (0, (false, (0, ())))).2.1) = true then
  (zcs y'_32.1).bind (fun y'_31 =>
  some y'_31) else
  some y'_32.1)) else
  G (n.isMk = true) (
  G (n.isMk = true) (
  if (decide (¬ (decide (((n.val (0, (false, (0, ())))).1) = (70 : Int))) = ((n.val (0, (false, (0, ())))).2.1))) = true then
  (zex w).bind (fun y'_33 =>
  (zaI w y'_33 a_1).bind (fun y'_34 =>
  G (n.isMk = true) (
  if ((n.val (0, (false, (0, ())))).2.1) = true then
  (zcs y'_34).bind (fun y'_35 =>
  some y'_35) else
  some y'_34))) else
  (zbU w a_1).bind (fun y'_36 =>
  G (n.isMk = true) (
  if ((n.val (0, (false, (0, ())))).2.1) = true then
  (zcs y'_36).bind (fun y'_37 =>
  some y'_37) else
  some y'_36)))))
def zaB (zah : Tp5 -> (Tr Tp11) -> Option Tp14) (w : Tp5) (n : (Tr Tp11)) (a : Tp14) (t_1 : Bool) : Option Tp14 :=
  if t_1 = true then
  G (n.isMk = true) (
  G (0 <= (1 : Int) /\ (1 : Int) < (n.kids.length : Int)) (
  both [(.list .bool)] (
  (zah w (ix n.kids (1 : Int))).bind (fun y'_7 =>
  zao w n a y'_7)) (
  (zah w (ix n.kids (1 : Int))).bind (fun y'_26 =>
  zao w n a y'_26)))) else
  G (n.isMk = true) (
  if ((n.val (0, (false, (0, ())))).2.1) = true then
  (zcs a).bind (fun y'_27 =>
  zat w n y'_27) else
  zat w n a)
def zan (zah : Tp5 -> (Tr Tp11) -> Option Tp14) (w : Tp5) (n : (Tr Tp11)) (a : Tp14) : Option Tp14 :=
  G (n.isMk = true) (
  if (decide (((n.val (0, (false, (0, ())))).1) = (33 : Int))) = true then
  (zcs a).bind (fun y'_6 =>
  some y'_6) else
  if (decide (((n.val (0, (false, (0, ())))).1) = (38 : Int))) = true then
  zaB zah w n a (decide (((n.val (0, (false, (0, ())))).1) = (38 : Int))) else
  if (decide (((n.val (0, (false, (0, ())))).1) = (124 : Int))) = true then
  zaB zah w n a (decide (((n.val (0, (false, (0, ())))).1) = (124 : Int))) else
  zaB zah w n a (decide (((n.val (0, (false, (0, ())))).1) = (85 : Int))))
def zaZ (zah : Tp5 -> (Tr Tp11) -> Option Tp14) (w : Tp5) (n : (Tr Tp11)) (t : Bool) : Option Tp14 :=
  if t = true then
  (zda w n).bind (fun y' =>
  some y') else
  if (decide (((n.val (0, (false, (0, ())))).1) = (97 : Int))) = true then
  (zdC w n w).bind (fun y'_4 =>
  some y'_4.1) else
  G (n.isMk = true) (
  G (0 <= (0 : Int) /\ (0 : Int) < (n.kids.length : Int)) (
  both [(.list .bool)] (
  (zah w (ix n.kids (0 : Int))).bind (fun y'_5 =>
  zan zah w n y'_5)) (
  (zah w (ix n.kids (0 : Int))).bind (fun y'_38 =>
  zan zah w n y'_38))))
def za4 (zah : Tp5 -> (Tr Tp11) -> Option Tp14) (w : Tp5) (n : (Tr Tp11)) : Option Tp14 :=
  G (n.isMk = true) (
  if (decide (((n.val (0, (false, (0, ())))).1) = (48 : Int))) = true then
  zaZ zah w n (decide (((n.val (0, (false, (0, ())))).1) = (48 : Int))) else
  zaZ zah w n (decide (((n.val (0, (false, (0, ())))).1) = (49 : Int))))
theorem zc6 (zah : Nat -> Tp5 -> (Tr Tp11) -> Option Tp14) (zav : Tp5 -> (Tr Tp11) -> Option Tp14) (zau : ∀ a0 a1, ChO (fun κ => zah κ a0 a1) (zav a0 a1)) (w : Tp5) (n : (Tr Tp11)) (a : Tp14) (t_1 : Bool) : ChO (fun κ => zaB (zah κ) w n a t_1) (zaB zav w n a t_1) := by
  unfold zaB
  repeat' with_reducible first | exact ChO.const _ | exact zau _ _ | apply ChO.ite | apply ChO.G | apply ChO.both | (apply ChO.bind; intro _) | (apply ChO.bind2 (zau _ _); intro _)
theorem zfj (zah : Nat -> Tp5 -> (Tr Tp11) -> Option Tp14) (zav : Tp5 -> (Tr Tp11) -> Option Tp14) (zau : ∀ a0 a1, ChO (fun κ => zah κ a0 a1) (zav a0 a1)) (w : Tp5) (n : (Tr Tp11)) (a : Tp14) : ChO (fun κ => zan (zah κ) w n a) (zan zav w n a) := by
  unfold zan
  repeat' with_reducible first | exact ChO.const _ | exact zau _ _ | (apply zc6 <;> assumption) | apply ChO.ite | apply ChO.G | apply ChO.both | (apply ChO.bind; intro _) | (apply ChO.bind2 (zau _ _); intro _)
theorem zj6 (zah : Nat -> Tp5 -> (Tr Tp11) -> Option Tp14) (zav : Tp5 -> (Tr Tp11) -> Option Tp14) (zau : ∀ a0 a1, ChO (fun κ => zah κ a0 a1) (zav a0 a1)) (w : Tp5) (n : (Tr Tp11)) (t : Bool) : ChO (fun κ => zaZ (zah κ) w n t) (zaZ zav w n t) := by
  unfold zaZ
  repeat' with_reducible first | exact ChO.const _ | exact zau _ _ | (apply zc6 <;> assumption) | (apply zfj <;> assumption) | apply ChO.ite | apply ChO.G | apply ChO.both | (apply ChO.bind; intro _) | (apply ChO.bind2 (zau _ _); intro _)
theorem zkD (zah : Nat -> Tp5 -> (Tr Tp11) -> Option Tp14) (zav : Tp5 -> (Tr Tp11) -> Option Tp14) (zau : ∀ a0 a1, ChO (fun κ => zah κ a0 a1) (zav a0 a1)) (w : Tp5) (n : (Tr Tp11)) : ChO (fun κ => za4 (zah κ) w n) (za4 zav w n) := by
  unfold za4
  repeat' with_reducible first | exact ChO.const _ | exact zau _ _ | (apply zc6 <;> assumption) | (apply zfj <;> assumption) | (apply zj6 <;> assumption) | apply ChO.ite | apply ChO.G | apply ChO.both | (apply ChO.bind; intro _) | (apply ChO.bind2 (zau _ _); intro _)
def zdl : (Tp5 × (Tr Tp11) -> Option Tp14) -> Tp5 × (Tr Tp11) -> Option Tp14 :=
  fun rec X => za4 (fun w n => rec (w, n)) X.1 X.2
def zaj (w : Tp5) (n : (Tr Tp11)) : Option Tp14 := LFix zdl (w, n)
theorem zlY : Cn zdl := fun g h hg X => zkD _ _ (fun w n => hg (w, n)) X.1 X.2
theorem zd8 (w : Tp5) (n : (Tr Tp11)) : zaj w n = za4 zaj w n := zaK zlY (w, n)

def zl5 (g' : Tp7) (text : (List UInt8)) : Option (Tp14 × Int) :=
  (znk (g'.1, (g'.2.1, (g'.2.2.1, ())))).bind (fun y' =>
  if (decide (¬ y' = (0 : Int))) = true then
  some ([], y') else
  (zhB text).bind (fun y'_6 =>
  if (decide (¬ y'_6.2.1 = (0 : Int))) = true then
  some ([], (4 : Int)) else
  (zhy (g'.1, (g'.2.1, (g'.2.2.1, ())))).bind (fun y'_4 =>
  (zaj y'_4 y'_6.1).bind (fun y'_5 =>
  some (y'_5, (0 : Int))))))

def zoP (x' : Tp12) (y' : Tp12) : Option (Bool) :=
  if (decide (¬ x'.1 = y'.1)) = true then
  some (decide (x'.1 < y'.1)) else
  if (decide (¬ x'.2.1 = y'.2.1)) = true then
  some (decide (x'.2.1 < y'.2.1)) else
  some (decide (x'.2.2.1 < y'.2.2.1))

def zbZ (g' : Tp7) (r12 : Int -> Option (Int)) (i_1 : Int) : Option (Int) :=
  if (decide (i_1 < (g'.2.2.1.length : Int))) = true then
  G (fits (i_1 - (1 : Int))) (
  G (0 <= i_1 - (1 : Int) /\ i_1 - (1 : Int) < (g'.2.2.1.length : Int)) (
  G (0 <= i_1 /\ i_1 < (g'.2.2.1.length : Int)) (
  (zoP (ix g'.2.2.1 (i_1 - (1 : Int))) (ix g'.2.2.1 i_1)).bind (fun y' =>
  if (!y') = true then
  some (3 : Int) else
  G (fits (i_1 + (1 : Int))) (
  r12 (i_1 + (1 : Int))))))) else
  some (0 : Int)
def zmB (g' : Tp7) : (Int -> Option (Int)) -> Int -> Option (Int) :=
  fun rec x => zbZ g' (fun i_1 => rec i_1) x
def zln (g' : Tp7) (i_1 : Int) : Option (Int) := LFix (zmB g' ) i_1
def zcP (g' : Tp7) (r6 : Int -> Option (Int)) (i : Int) : Option (Int) :=
  if (decide (i < (g'.2.2.1.length : Int))) = true then
  G (0 <= i /\ i < (g'.2.2.1.length : Int)) (
  if (decide (((ix g'.2.2.1 i).1) < (0 : Int))) = true then
  some (2 : Int) else
  if (decide (g'.2.1 <= ((ix g'.2.2.1 i).1))) = true then
  some (2 : Int) else
  if (decide (((((ix g'.2.2.1 i).2).2).1) < (0 : Int))) = true then
  some (2 : Int) else
  if (decide (g'.2.1 <= ((((ix g'.2.2.1 i).2).2).1))) = true then
  some (2 : Int) else
  if (decide ((((ix g'.2.2.1 i).2).1) < (0 : Int))) = true then
  some (2 : Int) else
  if (decide (g'.1 <= (((ix g'.2.2.1 i).2).1))) = true then
  some (2 : Int) else
  G (fits (i + (1 : Int))) (
  r6 (i + (1 : Int)))) else
  zln g' (1 : Int)
def znF (g' : Tp7) : (Int -> Option (Int)) -> Int -> Option (Int) :=
  fun rec x => zcP g' (fun i => rec i) x
def zmC (g' : Tp7) (i : Int) : Option (Int) := LFix (znF g' ) i
def zoU (g' : Tp7) : Option (Int) :=
  if (decide (g'.1 < (1 : Int))) = true then
  some (2 : Int) else
  if (decide ((4 : Int) < g'.1)) = true then
  some (2 : Int) else
  if (decide (g'.2.1 < (1 : Int))) = true then
  some (1 : Int) else
  if (decide ((12 : Int) < g'.2.1)) = true then
  some (1 : Int) else
  if (decide ((60 : Int) < (g'.2.2.1.length : Int))) = true then
  some (1 : Int) else
  zmC g' (0 : Int)
theorem zoV (r12 : Nat -> Int -> Option (Int)) (r12' : Int -> Option (Int)) (h_r12 : ∀ a0, ChO (fun κ => r12 κ a0) (r12' a0)) (g' : Tp7) (i_1 : Int) : ChO (fun κ => zbZ g' (r12 κ) i_1) (zbZ g' r12' i_1) := by
  unfold zbZ
  repeat' with_reducible first | exact ChO.const _ | exact h_r12 _ | apply ChO.ite | apply ChO.G | apply ChO.both | (apply ChO.bind; intro _)
theorem zqC  (g' : Tp7) : Cn (zmB g') := fun g h hg x => zoV  (fun κ i_1 => g κ i_1) (fun i_1 => h i_1) (fun i_1 => hg i_1) g' x
theorem zfw  (g' : Tp7) (i_1 : Int) : zln g' i_1 = zbZ g' (zln g') i_1 := zaK (zqC g') i_1
theorem zpP (r6 : Nat -> Int -> Option (Int)) (r6' : Int -> Option (Int)) (h_r6 : ∀ a0, ChO (fun κ => r6 κ a0) (r6' a0)) (g' : Tp7) (i : Int) : ChO (fun κ => zcP g' (r6 κ) i) (zcP g' r6' i) := by
  unfold zcP
  repeat' with_reducible first | exact ChO.const _ | exact h_r6 _ | apply ChO.ite | apply ChO.G | apply ChO.both | (apply ChO.bind; intro _)
theorem zrP  (g' : Tp7) : Cn (znF g') := fun g h hg x => zpP  (fun κ i => g κ i) (fun i => h i) (fun i => hg i) g' x
theorem ziP  (g' : Tp7) (i : Int) : zmC g' i = zcP g' (zmC g') i := zaK (zrP g') i

def zgG (r : ((List UInt8) × Int × Int × Int × Tp8 × (Int × Int × Unit) × Unit)) : Option (Bool) :=
  some (decide (r.2.2.2.2.2.1.1 = (0 : Int)))

def zcQ (r : ((List UInt8) × Int × Int × Int × Tp8 × (Int × Int × Unit) × Unit)) : Option (Int) :=
  if (decide ((r.1.length : Int) <= r.2.1)) = true then
  some (0 : Int) else
  G (0 <= r.2.1 /\ r.2.1 < (r.1.length : Int)) (
  some (bAt r.1 r.2.1))

def zb0 (code : Int) (c : (List UInt8)) (c_1 : Int) (c_2 : Int) (c_3 : Int) (c_4 : Int) (c_5 : Int) (l : Tp8) : Option ((List UInt8) × Int × Int × Int × Tp8 × Int × Int) :=
  if (decide (c_4 = (0 : Int))) = true then
  some (c, c_1, c_2, c_3, l, code, c_1) else
  some (c, c_1, c_2, c_3, l, c_4, c_5)

def za2 (c : (List UInt8)) (c_1 : Int) (c_2 : Int) (c_3 : Int) (c_4 : Int) (c_5 : Int) (l : Tp8) : Option ((List UInt8) × Int × Int × Int × Tp8 × Int × Int) :=
  G (fits (c_3 + (1 : Int))) (
  if (decide ((30 : Int) < (c_3 + (1 : Int)))) = true then
  (zb0 (7 : Int) c c_1 c_2 (c_3 + (1 : Int)) c_4 c_5 l).bind (fun y'_8 =>
  G (fits (y'_8.2.1 + (1 : Int))) (
  some (y'_8.1, y'_8.2.1 + (1 : Int), y'_8.2.2.1, y'_8.2.2.2.1, y'_8.2.2.2.2.1, y'_8.2.2.2.2.2.1, y'_8.2.2.2.2.2.2))) else
  G (fits (c_1 + (1 : Int))) (
  some (c, c_1 + (1 : Int), c_2, c_3 + (1 : Int), l, c_4, c_5)))

def zbC (n : Tp9) (c : (List UInt8)) (c_1 : Int) (c_2 : Int) (c_3 : Int) (c_4 : Int) (c_5 : Int) (l : Tp8) : Option (Int × (List UInt8) × Int × Int × Int × Tp8 × Int × Int) :=
  G (room l ([(n.1, (n.2.1, (n.2.2.1, (n.2.2.2.1, (n.2.2.2.2.1, ())))))]) 32) (
  G (fits (((l ++ ([(n.1, (n.2.1, (n.2.2.1, (n.2.2.2.1, (n.2.2.2.2.1, ())))))])).length : Int) - (1 : Int))) (
  some (((l ++ ([(n.1, (n.2.1, (n.2.2.1, (n.2.2.2.1, (n.2.2.2.2.1, ())))))])).length : Int) - (1 : Int), c, c_1, c_2, c_3, l ++ ([(n.1, (n.2.1, (n.2.2.1, (n.2.2.2.1, (n.2.2.2.2.1, ())))))]), c_4, c_5)))

def zcT (c : (List UInt8)) (c_1 : Int) (c_2 : Int) (c_3 : Int) (c_4 : Int) (c_5 : Int) (l : Tp8) : Option ((List UInt8) × Int × Int × Int × Tp8 × Int × Int) :=
  if (decide (c_2 = (40 : Int))) = true then
  (zb0 (7 : Int) c c_1 c_2 c_3 c_4 c_5 l).bind (fun y'_8 =>
  G (fits (y'_8.2.2.1 + (1 : Int))) (
  G (fits (y'_8.2.1 + (1 : Int))) (
  some (y'_8.1, y'_8.2.1 + (1 : Int), y'_8.2.2.1 + (1 : Int), y'_8.2.2.2.1, y'_8.2.2.2.2.1, y'_8.2.2.2.2.2.1, y'_8.2.2.2.2.2.2)))) else
  G (fits (c_2 + (1 : Int))) (
  G (fits (c_1 + (1 : Int))) (
  some (c, c_1 + (1 : Int), c_2 + (1 : Int), c_3, l, c_4, c_5)))

def zco (c : Int) (c_1 : (List UInt8)) (c_2 : Int) (c_3 : Int) (c_4 : Int) (c_5 : Int) (c_6 : Int) (l : Tp8) : Option ((List UInt8) × Int × Int × Int × Tp8 × Int × Int) :=
  (zcQ (c_1, (c_2, (c_3, (c_4, (l, ((c_5, (c_6, ())), ()))))))).bind (fun y' =>
  if (decide (¬ y' = c)) = true then
  (zb0 (4 : Int) c_1 c_2 c_3 c_4 c_5 c_6 l).bind (fun y'_9 =>
  G (fits (y'_9.2.1 + (1 : Int))) (
  some (y'_9.1, y'_9.2.1 + (1 : Int), y'_9.2.2.1, y'_9.2.2.2.1, y'_9.2.2.2.2.1, y'_9.2.2.2.2.2.1, y'_9.2.2.2.2.2.2))) else
  G (fits (c_2 + (1 : Int))) (
  some (c_1, c_2 + (1 : Int), c_3, c_4, l, c_5, c_6)))

def zbq (zab : (List UInt8) -> Int -> Int -> Int -> Int -> Int -> Tp8 -> Option (Int × (List UInt8) × Int × Int × Int × Tp8 × Int × Int))  (r2 : Int -> (List UInt8) -> Int -> Int -> Int -> Int -> Int -> Tp8 -> Option (Int × (List UInt8) × Int × Int × Int × Tp8 × Int × Int)) (a : Int) (r : (List UInt8)) (r_1 : Int) (r_2 : Int) (r_3 : Int) (r_4 : Int) (r_5 : Int) (l_1 : Tp8) : Option (Int × (List UInt8) × Int × Int × Int × Tp8 × Int × Int) :=
  (zcQ (r, (r_1, (r_2, (r_3, (l_1, ((r_4, (r_5, ())), ()))))))).bind (fun y'_9 =>
  (zgG (r, (r_1, (r_2, (r_3, (l_1, ((r_4, (r_5, ())), ()))))))).bind (fun y'_10 =>
  if (!y'_10) = true then
  some (a, r, r_1, r_2, r_3, l_1, r_4, r_5) else
  if (decide (¬ y'_9 = (38 : Int))) = true then
  some (a, r, r_1, r_2, r_3, l_1, r_4, r_5) else
  (za2 r r_1 r_2 r_3 r_4 r_5 l_1).bind (fun y'_39 =>
  (zab y'_39.1 y'_39.2.1 y'_39.2.2.1 y'_39.2.2.2.1 y'_39.2.2.2.2.2.1 y'_39.2.2.2.2.2.2 y'_39.2.2.2.2.1).bind (fun y'_38 =>
  (zbC ((38 : Int), (false, ((0 : Int), (a, (y'_38.1, ()))))) y'_38.2.1 y'_38.2.2.1 y'_38.2.2.2.1 y'_38.2.2.2.2.1 y'_38.2.2.2.2.2.2.1 y'_38.2.2.2.2.2.2.2 y'_38.2.2.2.2.2.1).bind (fun y'_37 =>
  r2 y'_37.1 y'_37.2.1 y'_37.2.2.1 y'_37.2.2.2.1 y'_37.2.2.2.2.1 y'_37.2.2.2.2.2.2.1 y'_37.2.2.2.2.2.2.2 y'_37.2.2.2.2.2.1)))))
def zie (zab : (List UInt8) -> Int -> Int -> Int -> Int -> Int -> Tp8 -> Option (Int × (List UInt8) × Int × Int × Int × Tp8 × Int × Int))  : (Int × (List UInt8) × Int × Int × Int × Int × Int × Tp8 -> Option (Int × (List UInt8) × Int × Int × Int × Tp8 × Int × Int)) -> Int × (List UInt8) × Int × Int × Int × Int × Int × Tp8 -> Option (Int × (List UInt8) × Int × Int × Int × Tp8 × Int × Int) :=
  fun rec x => zbq zab (fun a r r_1 r_2 r_3 r_4 r_5 l_1 => rec (a, r, r_1, r_2, r_3, r_4, r_5, l_1)) x.1 x.2.1 x.2.2.1 x.2.2.2.1 x.2.2.2.2.1 x.2.2.2.2.2.1 x.2.2.2.2.2.2.1 x.2.2.2.2.2.2.2
def zbu (zab : (List UInt8) -> Int -> Int -> Int -> Int -> Int -> Tp8 -> Option (Int × (List UInt8) × Int × Int × Int × Tp8 × Int × Int))  (a : Int) (r : (List UInt8)) (r_1 : Int) (r_2 : Int) (r_3 : Int) (r_4 : Int) (r_5 : Int) (l_1 : Tp8) : Option (Int × (List UInt8) × Int × Int × Int × Tp8 × Int × Int) := LFix (zie zab ) (a, r, r_1, r_2, r_3, r_4, r_5, l_1)
def zbD (zab : (List UInt8) -> Int -> Int -> Int -> Int -> Int -> Tp8 -> Option (Int × (List UInt8) × Int × Int × Int × Tp8 × Int × Int)) (c : (List UInt8)) (c_1 : Int) (c_2 : Int) (c_3 : Int) (c_4 : Int) (c_5 : Int) (l : Tp8) : Option (Int × (List UInt8) × Int × Int × Int × Tp8 × Int × Int) :=
  (zab c c_1 c_2 c_3 c_4 c_5 l).bind (fun y'_40 =>
  zbu zab y'_40.1 y'_40.2.1 y'_40.2.2.1 y'_40.2.2.2.1 y'_40.2.2.2.2.1 y'_40.2.2.2.2.2.2.1 y'_40.2.2.2.2.2.2.2 y'_40.2.2.2.2.2.1)
def zbk (zab : (List UInt8) -> Int -> Int -> Int -> Int -> Int -> Tp8 -> Option (Int × (List UInt8) × Int × Int × Int × Tp8 × Int × Int))  (r2 : Int -> (List UInt8) -> Int -> Int -> Int -> Int -> Int -> Tp8 -> Option (Int × (List UInt8) × Int × Int × Int × Tp8 × Int × Int)) (a : Int) (r : (List UInt8)) (r_1 : Int) (r_2 : Int) (r_3 : Int) (r_4 : Int) (r_5 : Int) (l_1 : Tp8) : Option (Int × (List UInt8) × Int × Int × Int × Tp8 × Int × Int) :=
  (zcQ (r, (r_1, (r_2, (r_3, (l_1, ((r_4, (r_5, ())), ()))))))).bind (fun y'_9 =>
  (zgG (r, (r_1, (r_2, (r_3, (l_1, ((r_4, (r_5, ())), ()))))))).bind (fun y'_10 =>
  if (!y'_10) = true then
  some (a, r, r_1, r_2, r_3, l_1, r_4, r_5) else
  if (decide (¬ y'_9 = (124 : Int))) = true then
  some (a, r, r_1, r_2, r_3, l_1, r_4, r_5) else
  (za2 r r_1 r_2 r_3 r_4 r_5 l_1).bind (fun y'_39 =>
  (zbD zab y'_39.1 y'_39.2.1 y'_39.2.2.1 y'_39.2.2.2.1 y'_39.2.2.2.2.2.1 y'_39.2.2.2.2.2.2 y'_39.2.2.2.2.1).bind (fun y'_38 =>
  (zbC ((124 : Int), (false, ((0 : Int), (a, (y'_38.1, ()))))) y'_38.2.1 y'_38.2.2.1 y'_38.2.2.2.1 y'_38.2.2.2.2.1 y'_38.2.2.2.2.2.2.1 y'_38.2.2.2.2.2.2.2 y'_38.2.2.2.2.2.1).bind (fun y'_37 =>
  r2 y'_37.1 y'_37.2.1 y'_37.2.2.1 y'_37.2.2.2.1 y'_37.2.2.2.2.1 y'_37.2.2.2.2.2.2.1 y'_37.2.2.2.2.2.2.2 y'_37.2.2.2.2.2.1)))))
def zhS (zab : (List UInt8) -> Int -> Int -> Int -> Int -> Int -> Tp8 -> Option (Int × (List UInt8) × Int × Int × Int × Tp8 × Int × Int))  : (Int × (List UInt8) × Int × Int × Int × Int × Int × Tp8 -> Option (Int × (List UInt8) × Int × Int × Int × Tp8 × Int × Int)) -> Int × (List UInt8) × Int × Int × Int × Int × Int × Tp8 -> Option (Int × (List UInt8) × Int × Int × Int × Tp8 × Int × Int) :=
  fun rec x => zbk zab (fun a r r_1 r_2 r_3 r_4 r_5 l_1 => rec (a, r, r_1, r_2, r_3, r_4, r_5, l_1)) x.1 x.2.1 x.2.2.1 x.2.2.2.1 x.2.2.2.2.1 x.2.2.2.2.2.1 x.2.2.2.2.2.2.1 x.2.2.2.2.2.2.2
def zbj (zab : (List UInt8) -> Int -> Int -> Int -> Int -> Int -> Tp8 -> Option (Int × (List UInt8) × Int × Int × Int × Tp8 × Int × Int))  (a : Int) (r : (List UInt8)) (r_1 : Int) (r_2 : Int) (r_3 : Int) (r_4 : Int) (r_5 : Int) (l_1 : Tp8) : Option (Int × (List UInt8) × Int × Int × Int × Tp8 × Int × Int) := LFix (zhS zab ) (a, r, r_1, r_2, r_3, r_4, r_5, l_1)
def za1 (zab : (List UInt8) -> Int -> Int -> Int -> Int -> Int -> Tp8 -> Option (Int × (List UInt8) × Int × Int × Int × Tp8 × Int × Int)) (c : (List UInt8)) (c_1 : Int) (c_2 : Int) (c_3 : Int) (c_4 : Int) (c_5 : Int) (l : Tp8) : Option (Int × (List UInt8) × Int × Int × Int × Tp8 × Int × Int) :=
  (zbD zab c c_1 c_2 c_3 c_4 c_5 l).bind (fun y'_40 =>
  zbj zab y'_40.1 y'_40.2.1 y'_40.2.2.1 y'_40.2.2.2.1 y'_40.2.2.2.2.1 y'_40.2.2.2.2.2.2.1 y'_40.2.2.2.2.2.2.2 y'_40.2.2.2.2.2.1)
def zaH (zab : (List UInt8) -> Int -> Int -> Int -> Int -> Int -> Tp8 -> Option (Int × (List UInt8) × Int × Int × Int × Tp8 × Int × Int)) (all' : Bool) (y' : (List UInt8)) (y'_1 : Int) (y'_2 : Int) (y'_3 : Int) (y'_4 : Tp8) (y'_5 : Int) (y'_6 : Int) (y'_8 : Int) (t : Bool) : Option (Int × (List UInt8) × Int × Int × Int × Tp8 × Int × Int) :=
  if t = true then
  G (fits (y'_1 + (1 : Int))) (
  (zab y' (y'_1 + (1 : Int)) y'_2 y'_3 y'_5 y'_6 y'_4).bind (fun y'_28 =>
  (zbC (y'_8, (all', ((0 : Int), (y'_28.1, ((0 : Int), ()))))) y'_28.2.1 y'_28.2.2.1 y'_28.2.2.2.1 y'_28.2.2.2.2.1 y'_28.2.2.2.2.2.2.1 y'_28.2.2.2.2.2.2.2 y'_28.2.2.2.2.2.1).bind (fun y'_27 =>
  some (y'_27.1, y'_27.2.1, y'_27.2.2.1, y'_27.2.2.2.1, y'_27.2.2.2.2.1, y'_27.2.2.2.2.2.1, y'_27.2.2.2.2.2.2.1, y'_27.2.2.2.2.2.2.2)))) else
  if (decide (¬ y'_8 = (40 : Int))) = true then
  (zb0 (4 : Int) y' y'_1 y'_2 y'_3 y'_5 y'_6 y'_4).bind (fun y'_37 =>
  some ((0 : Int), y'_37.1, y'_37.2.1, y'_37.2.2.1, y'_37.2.2.2.1, y'_37.2.2.2.2.1, y'_37.2.2.2.2.2.1, y'_37.2.2.2.2.2.2)) else
  (zcT y' y'_1 y'_2 y'_3 y'_5 y'_6 y'_4).bind (fun y'_94 =>
  (za1 zab y'_94.1 y'_94.2.1 y'_94.2.2.1 y'_94.2.2.2.1 y'_94.2.2.2.2.2.1 y'_94.2.2.2.2.2.2 y'_94.2.2.2.2.1).bind (fun y'_93 =>
  (zco (85 : Int) y'_93.2.1 y'_93.2.2.1 y'_93.2.2.2.1 y'_93.2.2.2.2.1 y'_93.2.2.2.2.2.2.1 y'_93.2.2.2.2.2.2.2 y'_93.2.2.2.2.2.1).bind (fun y'_92 =>
  (za1 zab y'_92.1 y'_92.2.1 y'_92.2.2.1 y'_92.2.2.2.1 y'_92.2.2.2.2.2.1 y'_92.2.2.2.2.2.2 y'_92.2.2.2.2.1).bind (fun y'_91 =>
  (zco (41 : Int) y'_91.2.1 y'_91.2.2.1 y'_91.2.2.2.1 y'_91.2.2.2.2.1 y'_91.2.2.2.2.2.2.1 y'_91.2.2.2.2.2.2.2 y'_91.2.2.2.2.2.1).bind (fun y'_90 =>
  G (fits (y'_90.2.2.1 - (1 : Int))) (
  (zbC ((85 : Int), (all', ((0 : Int), (y'_93.1, (y'_91.1, ()))))) y'_90.1 y'_90.2.1 (y'_90.2.2.1 - (1 : Int)) y'_90.2.2.2.1 y'_90.2.2.2.2.2.1 y'_90.2.2.2.2.2.2 y'_90.2.2.2.2.1).bind (fun y'_89 =>
  some (y'_89.1, y'_89.2.1, y'_89.2.2.1, y'_89.2.2.2.1, y'_89.2.2.2.2.1, y'_89.2.2.2.2.2.1, y'_89.2.2.2.2.2.2.1, y'_89.2.2.2.2.2.2.2))))))))
def zcU (zab : (List UInt8) -> Int -> Int -> Int -> Int -> Int -> Tp8 -> Option (Int × (List UInt8) × Int × Int × Int × Tp8 × Int × Int)) (all' : Bool) (c : (List UInt8)) (c_1 : Int) (c_2 : Int) (c_3 : Int) (c_4 : Int) (c_5 : Int) (l : Tp8) : Option (Int × (List UInt8) × Int × Int × Int × Tp8 × Int × Int) :=
  (za2 c c_1 c_2 c_3 c_4 c_5 l).bind (fun y'_95 =>
  (zcQ (y'_95.1, (y'_95.2.1, (y'_95.2.2.1, (y'_95.2.2.2.1, (y'_95.2.2.2.2.1, ((y'_95.2.2.2.2.2.1, (y'_95.2.2.2.2.2.2, ())), ()))))))).bind (fun y'_8 =>
  if (decide (y'_8 = (88 : Int))) = true then
  zaH zab all' y'_95.1 y'_95.2.1 y'_95.2.2.1 y'_95.2.2.2.1 y'_95.2.2.2.2.1 y'_95.2.2.2.2.2.1 y'_95.2.2.2.2.2.2 y'_8 true else
  if (decide (y'_8 = (70 : Int))) = true then
  zaH zab all' y'_95.1 y'_95.2.1 y'_95.2.2.1 y'_95.2.2.2.1 y'_95.2.2.2.2.1 y'_95.2.2.2.2.2.1 y'_95.2.2.2.2.2.2 y'_8 true else
  zaH zab all' y'_95.1 y'_95.2.1 y'_95.2.2.1 y'_95.2.2.2.1 y'_95.2.2.2.2.1 y'_95.2.2.2.2.2.1 y'_95.2.2.2.2.2.2 y'_8 (decide (y'_8 = (71 : Int)))))
def zbI (zab : (List UInt8) -> Int -> Int -> Int -> Int -> Int -> Tp8 -> Option (Int × (List UInt8) × Int × Int × Int × Tp8 × Int × Int)) (c : (List UInt8)) (c_1 : Int) (c_2 : Int) (c_3 : Int) (c_4 : Int) (c_5 : Int) (l : Tp8) (y'_1 : Int) (t_2 : Bool) : Option (Int × (List UInt8) × Int × Int × Int × Tp8 × Int × Int) :=
  if t_2 = true then
  (zcU zab (decide (y'_1 = (65 : Int))) c c_1 c_2 c_3 c_4 c_5 l).bind (fun y'_78 =>
  some (y'_78.1, y'_78.2.1, y'_78.2.2.1, y'_78.2.2.2.1, y'_78.2.2.2.2.1, y'_78.2.2.2.2.2.1, y'_78.2.2.2.2.2.2.1, y'_78.2.2.2.2.2.2.2)) else
  if (decide (¬ y'_1 = (40 : Int))) = true then
  (zb0 (4 : Int) c c_1 c_2 c_3 c_4 c_5 l).bind (fun y'_87 =>
  some ((0 : Int), y'_87.1, y'_87.2.1, y'_87.2.2.1, y'_87.2.2.2.1, y'_87.2.2.2.2.1, y'_87.2.2.2.2.2.1, y'_87.2.2.2.2.2.2)) else
  (zcT c c_1 c_2 c_3 c_4 c_5 l).bind (fun y'_115 =>
  (za1 zab y'_115.1 y'_115.2.1 y'_115.2.2.1 y'_115.2.2.2.1 y'_115.2.2.2.2.2.1 y'_115.2.2.2.2.2.2 y'_115.2.2.2.2.1).bind (fun y'_114 =>
  (zco (41 : Int) y'_114.2.1 y'_114.2.2.1 y'_114.2.2.2.1 y'_114.2.2.2.2.1 y'_114.2.2.2.2.2.2.1 y'_114.2.2.2.2.2.2.2 y'_114.2.2.2.2.2.1).bind (fun y'_113 =>
  G (fits (y'_113.2.2.1 - (1 : Int))) (
  some (y'_114.1, y'_113.1, y'_113.2.1, y'_113.2.2.1 - (1 : Int), y'_113.2.2.2.1, y'_113.2.2.2.2.1, y'_113.2.2.2.2.2.1, y'_113.2.2.2.2.2.2)))))
def zb3 (zab : (List UInt8) -> Int -> Int -> Int -> Int -> Int -> Tp8 -> Option (Int × (List UInt8) × Int × Int × Int × Tp8 × Int × Int)) (c : (List UInt8)) (c_1 : Int) (c_2 : Int) (c_3 : Int) (c_4 : Int) (c_5 : Int) (l : Tp8) (y'_1 : Int) (t_1 : Bool) : Option (Int × (List UInt8) × Int × Int × Int × Tp8 × Int × Int) :=
  if t_1 = true then
  (za2 c c_1 c_2 c_3 c_4 c_5 l).bind (fun y'_39 =>
  G (fits ((IntKind.wrap .i64 y'_1) - (97 : Int))) (
  (zbC ((97 : Int), (false, ((IntKind.wrap .i64 y'_1) - (97 : Int), ((0 : Int), ((0 : Int), ()))))) y'_39.1 y'_39.2.1 y'_39.2.2.1 y'_39.2.2.2.1 y'_39.2.2.2.2.2.1 y'_39.2.2.2.2.2.2 y'_39.2.2.2.2.1).bind (fun y'_38 =>
  some (y'_38.1, y'_38.2.1, y'_38.2.2.1, y'_38.2.2.2.1, y'_38.2.2.2.2.1, y'_38.2.2.2.2.2.1, y'_38.2.2.2.2.2.2.1, y'_38.2.2.2.2.2.2.2)))) else
  if (decide (y'_1 = (33 : Int))) = true then
  (za2 c c_1 c_2 c_3 c_4 c_5 l).bind (fun y'_68 =>
  (zab y'_68.1 y'_68.2.1 y'_68.2.2.1 y'_68.2.2.2.1 y'_68.2.2.2.2.2.1 y'_68.2.2.2.2.2.2 y'_68.2.2.2.2.1).bind (fun y'_67 =>
  (zbC ((33 : Int), (false, ((0 : Int), (y'_67.1, ((0 : Int), ()))))) y'_67.2.1 y'_67.2.2.1 y'_67.2.2.2.1 y'_67.2.2.2.2.1 y'_67.2.2.2.2.2.2.1 y'_67.2.2.2.2.2.2.2 y'_67.2.2.2.2.2.1).bind (fun y'_66 =>
  some (y'_66.1, y'_66.2.1, y'_66.2.2.1, y'_66.2.2.2.1, y'_66.2.2.2.2.1, y'_66.2.2.2.2.2.1, y'_66.2.2.2.2.2.2.1, y'_66.2.2.2.2.2.2.2)))) else
  if (decide (y'_1 = (69 : Int))) = true then
  zbI zab c c_1 c_2 c_3 c_4 c_5 l y'_1 true else
  zbI zab c c_1 c_2 c_3 c_4 c_5 l y'_1 (decide (y'_1 = (65 : Int)))
def zb2 (zab : (List UInt8) -> Int -> Int -> Int -> Int -> Int -> Tp8 -> Option (Int × (List UInt8) × Int × Int × Int × Tp8 × Int × Int)) (c : (List UInt8)) (c_1 : Int) (c_2 : Int) (c_3 : Int) (c_4 : Int) (c_5 : Int) (l : Tp8) (y'_1 : Int) (t : Bool) : Option (Int × (List UInt8) × Int × Int × Int × Tp8 × Int × Int) :=
  if t = true then
  (za2 c c_1 c_2 c_3 c_4 c_5 l).bind (fun y'_20 =>
  (zbC (y'_1, (false, ((0 : Int), ((0 : Int), ((0 : Int), ()))))) y'_20.1 y'_20.2.1 y'_20.2.2.1 y'_20.2.2.2.1 y'_20.2.2.2.2.2.1 y'_20.2.2.2.2.2.2 y'_20.2.2.2.2.1).bind (fun y'_19 =>
  some (y'_19.1, y'_19.2.1, y'_19.2.2.1, y'_19.2.2.2.1, y'_19.2.2.2.2.1, y'_19.2.2.2.2.2.1, y'_19.2.2.2.2.2.2.1, y'_19.2.2.2.2.2.2.2))) else
  if (decide ((97 : Int) <= y'_1)) = true then
  zb3 zab c c_1 c_2 c_3 c_4 c_5 l y'_1 (decide (y'_1 <= (100 : Int))) else
  zb3 zab c c_1 c_2 c_3 c_4 c_5 l y'_1 false
def zcg (zab : (List UInt8) -> Int -> Int -> Int -> Int -> Int -> Tp8 -> Option (Int × (List UInt8) × Int × Int × Int × Tp8 × Int × Int)) (c : (List UInt8)) (c_1 : Int) (c_2 : Int) (c_3 : Int) (c_4 : Int) (c_5 : Int) (l : Tp8) : Option (Int × (List UInt8) × Int × Int × Int × Tp8 × Int × Int) :=
  (zgG (c, (c_1, (c_2, (c_3, (l, ((c_4, (c_5, ())), ()))))))).bind (fun y' =>
  if (!y') = true then
  some ((0 : Int), c, c_1, c_2, c_3, l, c_4, c_5) else
  (zcQ (c, (c_1, (c_2, (c_3, (l, ((c_4, (c_5, ())), ()))))))).bind (fun y'_1 =>
  if (decide (y'_1 = (48 : Int))) = true then
  zb2 zab c c_1 c_2 c_3 c_4 c_5 l y'_1 true else
  zb2 zab c c_1 c_2 c_3 c_4 c_5 l y'_1 (decide (y'_1 = (49 : Int)))))
theorem zgI (zab : Nat -> (List UInt8) -> Int -> Int -> Int -> Int -> Int -> Tp8 -> Option (Int × (List UInt8) × Int × Int × Int × Tp8 × Int × Int)) (zaf : (List UInt8) -> Int -> Int -> Int -> Int -> Int -> Tp8 -> Option (Int × (List UInt8) × Int × Int × Int × Tp8 × Int × Int)) (zag : ∀ a0 a1 a2 a3 a4 a5 a6, ChO (fun κ => zab κ a0 a1 a2 a3 a4 a5 a6) (zaf a0 a1 a2 a3 a4 a5 a6)) (r2 : Nat -> Int -> (List UInt8) -> Int -> Int -> Int -> Int -> Int -> Tp8 -> Option (Int × (List UInt8) × Int × Int × Int × Tp8 × Int × Int)) (r2' : Int -> (List UInt8) -> Int -> Int -> Int -> Int -> Int -> Tp8 -> Option (Int × (List UInt8) × Int × Int × Int × Tp8 × Int × Int)) (h_r2 : ∀ a0 a1 a2 a3 a4 a5 a6 a7, ChO (fun κ => r2 κ a0 a1 a2 a3 a4 a5 a6 a7) (r2' a0 a1 a2 a3 a4 a5 a6 a7)) (a : Int) (r : (List UInt8)) (r_1 : Int) (r_2 : Int) (r_3 : Int) (r_4 : Int) (r_5 : Int) (l_1 : Tp8) : ChO (fun κ => zbq (zab κ) (r2 κ) a r r_1 r_2 r_3 r_4 r_5 l_1) (zbq zaf r2' a r r_1 r_2 r_3 r_4 r_5 l_1) := by
  unfold zbq
  repeat' with_reducible first | exact ChO.const _ | exact zag _ _ _ _ _ _ _ | exact h_r2 _ _ _ _ _ _ _ _ | apply ChO.ite | apply ChO.G | apply ChO.both | (apply ChO.bind; intro _) | (apply ChO.bind2 (zag _ _ _ _ _ _ _); intro _) | (refine ChO.bind2 ?_ (fun _ => ?_))
theorem zer (zab : (List UInt8) -> Int -> Int -> Int -> Int -> Int -> Tp8 -> Option (Int × (List UInt8) × Int × Int × Int × Tp8 × Int × Int))  : Cn (zie zab) := fun g h hg x => zgI (fun _ => zab) zab (fun _ _ _ _ _ _ _ => ChO.const _) (fun κ a r r_1 r_2 r_3 r_4 r_5 l_1 => g κ (a, r, r_1, r_2, r_3, r_4, r_5, l_1)) (fun a r r_1 r_2 r_3 r_4 r_5 l_1 => h (a, r, r_1, r_2, r_3, r_4, r_5, l_1)) (fun a r r_1 r_2 r_3 r_4 r_5 l_1 => hg (a, r, r_1, r_2, r_3, r_4, r_5, l_1))  x.1 x.2.1 x.2.2.1 x.2.2.2.1 x.2.2.2.2.1 x.2.2.2.2.2.1 x.2.2.2.2.2.2.1 x.2.2.2.2.2.2.2
theorem zhR (zab : (List UInt8) -> Int -> Int -> Int -> Int -> Int -> Tp8 -> Option (Int × (List UInt8) × Int × Int × Int × Tp8 × Int × Int))  (a : Int) (r : (List UInt8)) (r_1 : Int) (r_2 : Int) (r_3 : Int) (r_4 : Int) (r_5 : Int) (l_1 : Tp8) : zbu zab a r r_1 r_2 r_3 r_4 r_5 l_1 = zbq zab (zbu zab) a r r_1 r_2 r_3 r_4 r_5 l_1 := zaK (zer zab) (a, r, r_1, r_2, r_3, r_4, r_5, l_1)
theorem zaT (zab : Nat -> (List UInt8) -> Int -> Int -> Int -> Int -> Int -> Tp8 -> Option (Int × (List UInt8) × Int × Int × Int × Tp8 × Int × Int)) (zaf : (List UInt8) -> Int -> Int -> Int -> Int -> Int -> Tp8 -> Option (Int × (List UInt8) × Int × Int × Int × Tp8 × Int × Int)) (zag : ∀ a0 a1 a2 a3 a4 a5 a6, ChO (fun κ => zab κ a0 a1 a2 a3 a4 a5 a6) (zaf a0 a1 a2 a3 a4 a5 a6))  (a : Int) (r : (List UInt8)) (r_1 : Int) (r_2 : Int) (r_3 : Int) (r_4 : Int) (r_5 : Int) (l_1 : Tp8) : ChO (fun κ => zbu (zab κ) a r r_1 r_2 r_3 r_4 r_5 l_1) (zbu zaf a r r_1 r_2 r_3 r_4 r_5 l_1) := by
  unfold zbu
  exact zpv (fun κ => (zer (zab κ) ).mono) (zer zaf ).mono (fun g h hg x => zgI zab zaf zag (fun κ a r r_1 r_2 r_3 r_4 r_5 l_1 => g κ (a, r, r_1, r_2, r_3, r_4, r_5, l_1)) (fun a r r_1 r_2 r_3 r_4 r_5 l_1 => h (a, r, r_1, r_2, r_3, r_4, r_5, l_1)) (fun a r r_1 r_2 r_3 r_4 r_5 l_1 => hg (a, r, r_1, r_2, r_3, r_4, r_5, l_1))  x.1 x.2.1 x.2.2.1 x.2.2.2.1 x.2.2.2.2.1 x.2.2.2.2.2.1 x.2.2.2.2.2.2.1 x.2.2.2.2.2.2.2) _
theorem zbv (zab : Nat -> (List UInt8) -> Int -> Int -> Int -> Int -> Int -> Tp8 -> Option (Int × (List UInt8) × Int × Int × Int × Tp8 × Int × Int)) (zaf : (List UInt8) -> Int -> Int -> Int -> Int -> Int -> Tp8 -> Option (Int × (List UInt8) × Int × Int × Int × Tp8 × Int × Int)) (zag : ∀ a0 a1 a2 a3 a4 a5 a6, ChO (fun κ => zab κ a0 a1 a2 a3 a4 a5 a6) (zaf a0 a1 a2 a3 a4 a5 a6)) (c : (List UInt8)) (c_1 : Int) (c_2 : Int) (c_3 : Int) (c_4 : Int) (c_5 : Int) (l : Tp8) : ChO (fun κ => zbD (zab κ) c c_1 c_2 c_3 c_4 c_5 l) (zbD zaf c c_1 c_2 c_3 c_4 c_5 l) := by
  unfold zbD
  repeat' with_reducible first | exact ChO.const _ | exact zag _ _ _ _ _ _ _ | (apply zaT <;> assumption) | apply ChO.ite | apply ChO.G | apply ChO.both | (apply ChO.bind; intro _) | (apply ChO.bind2 (zag _ _ _ _ _ _ _); intro _) | (refine ChO.bind2 ?_ (fun _ => ?_))
theorem zgb (zab : Nat -> (List UInt8) -> Int -> Int -> Int -> Int -> Int -> Tp8 -> Option (Int × (List UInt8) × Int × Int × Int × Tp8 × Int × Int)) (zaf : (List UInt8) -> Int -> Int -> Int -> Int -> Int -> Tp8 -> Option (Int × (List UInt8) × Int × Int × Int × Tp8 × Int × Int)) (zag : ∀ a0 a1 a2 a3 a4 a5 a6, ChO (fun κ => zab κ a0 a1 a2 a3 a4 a5 a6) (zaf a0 a1 a2 a3 a4 a5 a6)) (r2 : Nat -> Int -> (List UInt8) -> Int -> Int -> Int -> Int -> Int -> Tp8 -> Option (Int × (List UInt8) × Int × Int × Int × Tp8 × Int × Int)) (r2' : Int -> (List UInt8) -> Int -> Int -> Int -> Int -> Int -> Tp8 -> Option (Int × (List UInt8) × Int × Int × Int × Tp8 × Int × Int)) (h_r2 : ∀ a0 a1 a2 a3 a4 a5 a6 a7, ChO (fun κ => r2 κ a0 a1 a2 a3 a4 a5 a6 a7) (r2' a0 a1 a2 a3 a4 a5 a6 a7)) (a : Int) (r : (List UInt8)) (r_1 : Int) (r_2 : Int) (r_3 : Int) (r_4 : Int) (r_5 : Int) (l_1 : Tp8) : ChO (fun κ => zbk (zab κ) (r2 κ) a r r_1 r_2 r_3 r_4 r_5 l_1) (zbk zaf r2' a r r_1 r_2 r_3 r_4 r_5 l_1) := by
  unfold zbk
  repeat' with_reducible first | exact ChO.const _ | exact zag _ _ _ _ _ _ _ | exact h_r2 _ _ _ _ _ _ _ _ | (apply zaT <;> assumption) | (apply zbv <;> assumption) | apply ChO.ite | apply ChO.G | apply ChO.both | (apply ChO.bind; intro _) | (apply ChO.bind2 (zag _ _ _ _ _ _ _); intro _) | (refine ChO.bind2 ?_ (fun _ => ?_))
theorem zea (zab : (List UInt8) -> Int -> Int -> Int -> Int -> Int -> Tp8 -> Option (Int × (List UInt8) × Int × Int × Int × Tp8 × Int × Int))  : Cn (zhS zab) := fun g h hg x => zgb (fun _ => zab) zab (fun _ _ _ _ _ _ _ => ChO.const _) (fun κ a r r_1 r_2 r_3 r_4 r_5 l_1 => g κ (a, r, r_1, r_2, r_3, r_4, r_5, l_1)) (fun a r r_1 r_2 r_3 r_4 r_5 l_1 => h (a, r, r_1, r_2, r_3, r_4, r_5, l_1)) (fun a r r_1 r_2 r_3 r_4 r_5 l_1 => hg (a, r, r_1, r_2, r_3, r_4, r_5, l_1))  x.1 x.2.1 x.2.2.1 x.2.2.2.1 x.2.2.2.2.1 x.2.2.2.2.2.1 x.2.2.2.2.2.2.1 x.2.2.2.2.2.2.2
theorem zhg (zab : (List UInt8) -> Int -> Int -> Int -> Int -> Int -> Tp8 -> Option (Int × (List UInt8) × Int × Int × Int × Tp8 × Int × Int))  (a : Int) (r : (List UInt8)) (r_1 : Int) (r_2 : Int) (r_3 : Int) (r_4 : Int) (r_5 : Int) (l_1 : Tp8) : zbj zab a r r_1 r_2 r_3 r_4 r_5 l_1 = zbk zab (zbj zab) a r r_1 r_2 r_3 r_4 r_5 l_1 := zaK (zea zab) (a, r, r_1, r_2, r_3, r_4, r_5, l_1)
theorem za9 (zab : Nat -> (List UInt8) -> Int -> Int -> Int -> Int -> Int -> Tp8 -> Option (Int × (List UInt8) × Int × Int × Int × Tp8 × Int × Int)) (zaf : (List UInt8) -> Int -> Int -> Int -> Int -> Int -> Tp8 -> Option (Int × (List UInt8) × Int × Int × Int × Tp8 × Int × Int)) (zag : ∀ a0 a1 a2 a3 a4 a5 a6, ChO (fun κ => zab κ a0 a1 a2 a3 a4 a5 a6) (zaf a0 a1 a2 a3 a4 a5 a6))  (a : Int) (r : (List UInt8)) (r_1 : Int) (r_2 : Int) (r_3 : Int) (r_4 : Int) (r_5 : Int) (l_1 : Tp8) : ChO (fun κ => zbj (zab κ) a r r_1 r_2 r_3 r_4 r_5 l_1) (zbj zaf a r r_1 r_2 r_3 r_4 r_5 l_1) := by
  unfold zbj
  exact zpv (fun κ => (zea (zab κ) ).mono) (zea zaf ).mono (fun g h hg x => zgb zab zaf zag (fun κ a r r_1 r_2 r_3 r_4 r_5 l_1 => g κ (a, r, r_1, r_2, r_3, r_4, r_5, l_1)) (fun a r r_1 r_2 r_3 r_4 r_5 l_1 => h (a, r, r_1, r_2, r_3, r_4, r_5, l_1)) (fun a r r_1 r_2 r_3 r_4 r_5 l_1 => hg (a, r, r_1, r_2, r_3, r_4, r_5, l_1))  x.1 x.2.1 x.2.2.1 x.2.2.2.1 x.2.2.2.2.1 x.2.2.2.2.2.1 x.2.2.2.2.2.2.1 x.2.2.2.2.2.2.2) _
theorem zch (zab : Nat -> (List UInt8) -> Int -> Int -> Int -> Int -> Int -> Tp8 -> Option (Int × (List UInt8) × Int × Int × Int × Tp8 × Int × Int)) (zaf : (List UInt8) -> Int -> Int -> Int -> Int -> Int -> Tp8 -> Option (Int × (List UInt8) × Int × Int × Int × Tp8 × Int × Int)) (zag : ∀ a0 a1 a2 a3 a4 a5 a6, ChO (fun κ => zab κ a0 a1 a2 a3 a4 a5 a6) (zaf a0 a1 a2 a3 a4 a5 a6)) (c : (List UInt8)) (c_1 : Int) (c_2 : Int) (c_3 : Int) (c_4 : Int) (c_5 : Int) (l : Tp8) : ChO (fun κ => za1 (zab κ) c c_1 c_2 c_3 c_4 c_5 l) (za1 zaf c c_1 c_2 c_3 c_4 c_5 l) := by
  unfold za1
  repeat' with_reducible first | exact ChO.const _ | exact zag _ _ _ _ _ _ _ | (apply zaT <;> assumption) | (apply zbv <;> assumption) | (apply za9 <;> assumption) | apply ChO.ite | apply ChO.G | apply ChO.both | (apply ChO.bind; intro _) | (apply ChO.bind2 (zag _ _ _ _ _ _ _); intro _) | (refine ChO.bind2 ?_ (fun _ => ?_))
theorem zcp (zab : Nat -> (List UInt8) -> Int -> Int -> Int -> Int -> Int -> Tp8 -> Option (Int × (List UInt8) × Int × Int × Int × Tp8 × Int × Int)) (zaf : (List UInt8) -> Int -> Int -> Int -> Int -> Int -> Tp8 -> Option (Int × (List UInt8) × Int × Int × Int × Tp8 × Int × Int)) (zag : ∀ a0 a1 a2 a3 a4 a5 a6, ChO (fun κ => zab κ a0 a1 a2 a3 a4 a5 a6) (zaf a0 a1 a2 a3 a4 a5 a6)) (all' : Bool) (y' : (List UInt8)) (y'_1 : Int) (y'_2 : Int) (y'_3 : Int) (y'_4 : Tp8) (y'_5 : Int) (y'_6 : Int) (y'_8 : Int) (t : Bool) : ChO (fun κ => zaH (zab κ) all' y' y'_1 y'_2 y'_3 y'_4 y'_5 y'_6 y'_8 t) (zaH zaf all' y' y'_1 y'_2 y'_3 y'_4 y'_5 y'_6 y'_8 t) := by
  unfold zaH
  repeat' with_reducible first | exact ChO.const _ | exact zag _ _ _ _ _ _ _ | (apply zaT <;> assumption) | (apply zbv <;> assumption) | (apply za9 <;> assumption) | (apply zch <;> assumption) | apply ChO.ite | apply ChO.G | apply ChO.both | (apply ChO.bind; intro _) | (apply ChO.bind2 (zag _ _ _ _ _ _ _); intro _) | (refine ChO.bind2 ?_ (fun _ => ?_))
theorem zec (zab : Nat -> (List UInt8) -> Int -> Int -> Int -> Int -> Int -> Tp8 -> Option (Int × (List UInt8) × Int × Int × Int × Tp8 × Int × Int)) (zaf : (List UInt8) -> Int -> Int -> Int -> Int -> Int -> Tp8 -> Option (Int × (List UInt8) × Int × Int × Int × Tp8 × Int × Int)) (zag : ∀ a0 a1 a2 a3 a4 a5 a6, ChO (fun κ => zab κ a0 a1 a2 a3 a4 a5 a6) (zaf a0 a1 a2 a3 a4 a5 a6)) (all' : Bool) (c : (List UInt8)) (c_1 : Int) (c_2 : Int) (c_3 : Int) (c_4 : Int) (c_5 : Int) (l : Tp8) : ChO (fun κ => zcU (zab κ) all' c c_1 c_2 c_3 c_4 c_5 l) (zcU zaf all' c c_1 c_2 c_3 c_4 c_5 l) := by
  unfold zcU
  repeat' with_reducible first | exact ChO.const _ | exact zag _ _ _ _ _ _ _ | (apply zaT <;> assumption) | (apply zbv <;> assumption) | (apply za9 <;> assumption) | (apply zch <;> assumption) | (apply zcp <;> assumption) | apply ChO.ite | apply ChO.G | apply ChO.both | (apply ChO.bind; intro _) | (apply ChO.bind2 (zag _ _ _ _ _ _ _); intro _) | (refine ChO.bind2 ?_ (fun _ => ?_))
theorem zd9 (zab : Nat -> (List UInt8) -> Int -> Int -> Int -> Int -> Int -> Tp8 -> Option (Int × (List UInt8) × Int × Int × Int × Tp8 × Int × Int)) (zaf : (List UInt8) -> Int -> Int -> Int -> Int -> Int -> Tp8 -> Option (Int × (List UInt8) × Int × Int × Int × Tp8 × Int × Int)) (zag : ∀ a0 a1 a2 a3 a4 a5 a6, ChO (fun κ => zab κ a0 a1 a2 a3 a4 a5 a6) (zaf a0 a1 a2 a3 a4 a5 a6)) (c : (List UInt8)) (c_1 : Int) (c_2 : Int) (c_3 : Int) (c_4 : Int) (c_5 : Int) (l : Tp8) (y'_1 : Int) (t_2 : Bool) : ChO (fun κ => zbI (zab κ) c c_1 c_2 c_3 c_4 c_5 l y'_1 t_2) (zbI zaf c c_1 c_2 c_3 c_4 c_5 l y'_1 t_2) := by
  unfold zbI
  repeat' with_reducible first | exact ChO.const _ | exact zag _ _ _ _ _ _ _ | (apply zaT <;> assumption) | (apply zbv <;> assumption) | (apply za9 <;> assumption) | (apply zch <;> assumption) | (apply zcp <;> assumption) | (apply zec <;> assumption) | apply ChO.ite | apply ChO.G | apply ChO.both | (apply ChO.bind; intro _) | (apply ChO.bind2 (zag _ _ _ _ _ _ _); intro _) | (refine ChO.bind2 ?_ (fun _ => ?_))
theorem zhQ (zab : Nat -> (List UInt8) -> Int -> Int -> Int -> Int -> Int -> Tp8 -> Option (Int × (List UInt8) × Int × Int × Int × Tp8 × Int × Int)) (zaf : (List UInt8) -> Int -> Int -> Int -> Int -> Int -> Tp8 -> Option (Int × (List UInt8) × Int × Int × Int × Tp8 × Int × Int)) (zag : ∀ a0 a1 a2 a3 a4 a5 a6, ChO (fun κ => zab κ a0 a1 a2 a3 a4 a5 a6) (zaf a0 a1 a2 a3 a4 a5 a6)) (c : (List UInt8)) (c_1 : Int) (c_2 : Int) (c_3 : Int) (c_4 : Int) (c_5 : Int) (l : Tp8) (y'_1 : Int) (t_1 : Bool) : ChO (fun κ => zb3 (zab κ) c c_1 c_2 c_3 c_4 c_5 l y'_1 t_1) (zb3 zaf c c_1 c_2 c_3 c_4 c_5 l y'_1 t_1) := by
  unfold zb3
  repeat' with_reducible first | exact ChO.const _ | exact zag _ _ _ _ _ _ _ | (apply zaT <;> assumption) | (apply zbv <;> assumption) | (apply za9 <;> assumption) | (apply zch <;> assumption) | (apply zcp <;> assumption) | (apply zec <;> assumption) | (apply zd9 <;> assumption) | apply ChO.ite | apply ChO.G | apply ChO.both | (apply ChO.bind; intro _) | (apply ChO.bind2 (zag _ _ _ _ _ _ _); intro _) | (refine ChO.bind2 ?_ (fun _ => ?_))
theorem zmG (zab : Nat -> (List UInt8) -> Int -> Int -> Int -> Int -> Int -> Tp8 -> Option (Int × (List UInt8) × Int × Int × Int × Tp8 × Int × Int)) (zaf : (List UInt8) -> Int -> Int -> Int -> Int -> Int -> Tp8 -> Option (Int × (List UInt8) × Int × Int × Int × Tp8 × Int × Int)) (zag : ∀ a0 a1 a2 a3 a4 a5 a6, ChO (fun κ => zab κ a0 a1 a2 a3 a4 a5 a6) (zaf a0 a1 a2 a3 a4 a5 a6)) (c : (List UInt8)) (c_1 : Int) (c_2 : Int) (c_3 : Int) (c_4 : Int) (c_5 : Int) (l : Tp8) (y'_1 : Int) (t : Bool) : ChO (fun κ => zb2 (zab κ) c c_1 c_2 c_3 c_4 c_5 l y'_1 t) (zb2 zaf c c_1 c_2 c_3 c_4 c_5 l y'_1 t) := by
  unfold zb2
  repeat' with_reducible first | exact ChO.const _ | exact zag _ _ _ _ _ _ _ | (apply zaT <;> assumption) | (apply zbv <;> assumption) | (apply za9 <;> assumption) | (apply zch <;> assumption) | (apply zcp <;> assumption) | (apply zec <;> assumption) | (apply zd9 <;> assumption) | (apply zhQ <;> assumption) | apply ChO.ite | apply ChO.G | apply ChO.both | (apply ChO.bind; intro _) | (apply ChO.bind2 (zag _ _ _ _ _ _ _); intro _) | (refine ChO.bind2 ?_ (fun _ => ?_))
theorem zns (zab : Nat -> (List UInt8) -> Int -> Int -> Int -> Int -> Int -> Tp8 -> Option (Int × (List UInt8) × Int × Int × Int × Tp8 × Int × Int)) (zaf : (List UInt8) -> Int -> Int -> Int -> Int -> Int -> Tp8 -> Option (Int × (List UInt8) × Int × Int × Int × Tp8 × Int × Int)) (zag : ∀ a0 a1 a2 a3 a4 a5 a6, ChO (fun κ => zab κ a0 a1 a2 a3 a4 a5 a6) (zaf a0 a1 a2 a3 a4 a5 a6)) (c : (List UInt8)) (c_1 : Int) (c_2 : Int) (c_3 : Int) (c_4 : Int) (c_5 : Int) (l : Tp8) : ChO (fun κ => zcg (zab κ) c c_1 c_2 c_3 c_4 c_5 l) (zcg zaf c c_1 c_2 c_3 c_4 c_5 l) := by
  unfold zcg
  repeat' with_reducible first | exact ChO.const _ | exact zag _ _ _ _ _ _ _ | (apply zaT <;> assumption) | (apply zbv <;> assumption) | (apply za9 <;> assumption) | (apply zch <;> assumption) | (apply zcp <;> assumption) | (apply zec <;> assumption) | (apply zd9 <;> assumption) | (apply zhQ <;> assumption) | (apply zmG <;> assumption) | apply ChO.ite | apply ChO.G | apply ChO.both | (apply ChO.bind; intro _) | (apply ChO.bind2 (zag _ _ _ _ _ _ _); intro _) | (refine ChO.bind2 ?_ (fun _ => ?_))
def zdN : ((List UInt8) × Int × Int × Int × Int × Int × Tp8 -> Option (Int × (List UInt8) × Int × Int × Int × Tp8 × Int × Int)) -> (List UInt8) × Int × Int × Int × Int × Int × Tp8 -> Option (Int × (List UInt8) × Int × Int × Int × Tp8 × Int × Int) :=
  fun rec X => zcg (fun c c_1 c_2 c_3 c_4 c_5 l => rec (c, c_1, c_2, c_3, c_4, c_5, l)) X.1 X.2.1 X.2.2.1 X.2.2.2.1 X.2.2.2.2.1 X.2.2.2.2.2.1 X.2.2.2.2.2.2
def zas (c : (List UInt8)) (c_1 : Int) (c_2 : Int) (c_3 : Int) (c_4 : Int) (c_5 : Int) (l : Tp8) : Option (Int × (List UInt8) × Int × Int × Int × Tp8 × Int × Int) := LFix zdN (c, c_1, c_2, c_3, c_4, c_5, l)
theorem zo4 : Cn zdN := fun g h hg X => zns _ _ (fun c c_1 c_2 c_3 c_4 c_5 l => hg (c, c_1, c_2, c_3, c_4, c_5, l)) X.1 X.2.1 X.2.2.1 X.2.2.2.1 X.2.2.2.2.1 X.2.2.2.2.2.1 X.2.2.2.2.2.2
theorem zjO (c : (List UInt8)) (c_1 : Int) (c_2 : Int) (c_3 : Int) (c_4 : Int) (c_5 : Int) (l : Tp8) : zas c c_1 c_2 c_3 c_4 c_5 l = zcg zas c c_1 c_2 c_3 c_4 c_5 l := zaK zo4 (c, c_1, c_2, c_3, c_4, c_5, l)
def zjU (c : (List UInt8)) (c_1 : Int) (c_2 : Int) (c_3 : Int) (c_4 : Int) (c_5 : Int) (l : Tp8) : Option (Int × (List UInt8) × Int × Int × Int × Tp8 × Int × Int) := za1 zas c c_1 c_2 c_3 c_4 c_5 l
def zmF (text : (List UInt8)) : Option (Int × (Int × Int × Unit) × Tp8) :=
  if (decide ((4000 : Int) < (text.length : Int))) = true then
  some ((0 : Int), ((1 : Int), ((0 : Int), ())), []) else
  (zjU text (0 : Int) (0 : Int) (0 : Int) (0 : Int) (0 : Int) ([] : List Tp9)).bind (fun y'_18 =>
  if (decide (y'_18.2.2.1 < (text.length : Int))) = true then
  (zb0 (4 : Int) y'_18.2.1 y'_18.2.2.1 y'_18.2.2.2.1 y'_18.2.2.2.2.1 y'_18.2.2.2.2.2.2.1 y'_18.2.2.2.2.2.2.2 y'_18.2.2.2.2.2.1).bind (fun y'_17 =>
  if (decide (¬ y'_17.2.2.2.2.2.1 = (0 : Int))) = true then
  some ((0 : Int), (y'_17.2.2.2.2.2.1, (y'_17.2.2.2.2.2.2, ())), []) else
  some (y'_18.1, ((0 : Int), ((0 : Int), ())), y'_17.2.2.2.2.1)) else
  if (decide (¬ y'_18.2.2.2.2.2.2.1 = (0 : Int))) = true then
  some ((0 : Int), (y'_18.2.2.2.2.2.2.1, (y'_18.2.2.2.2.2.2.2, ())), []) else
  some (y'_18.1, ((0 : Int), ((0 : Int), ())), y'_18.2.2.2.2.2.1))

def zdV (g' : Tp7) (p : Int) (q : Int) (r3 : Bool -> Int -> Option (Bool)) (any : Bool) (i : Int) : Option (Bool) :=
  if (decide (i < (g'.2.2.1.length : Int))) = true then
  G (0 <= i /\ i < (g'.2.2.1.length : Int)) (
  if (decide (((ix g'.2.2.1 i).1) = p)) = true then
  G (0 <= i /\ i < (g'.2.2.1.length : Int)) (
  if (decide (((((ix g'.2.2.1 i).2).2).1) = q)) = true then
  some true else
  G (fits (i + (1 : Int))) (
  r3 true (i + (1 : Int)))) else
  G (fits (i + (1 : Int))) (
  r3 any (i + (1 : Int)))) else
  if (!any) = true then
  some (decide (p = q)) else
  some false
def zo0 (g' : Tp7) (p : Int) (q : Int) : (Bool × Int -> Option (Bool)) -> Bool × Int -> Option (Bool) :=
  fun rec x => zdV g' p q (fun any i => rec (any, i)) x.1 x.2
def zlo (g' : Tp7) (p : Int) (q : Int) (any : Bool) (i : Int) : Option (Bool) := LFix (zo0 g' p q ) (any, i)
def zq0 (g' : Tp7) (p : Int) (q : Int) : Option (Bool) :=
  zlo g' p q false (0 : Int)
theorem zqD (r3 : Nat -> Bool -> Int -> Option (Bool)) (r3' : Bool -> Int -> Option (Bool)) (h_r3 : ∀ a0 a1, ChO (fun κ => r3 κ a0 a1) (r3' a0 a1)) (g' : Tp7) (p : Int) (q : Int) (any : Bool) (i : Int) : ChO (fun κ => zdV g' p q (r3 κ) any i) (zdV g' p q r3' any i) := by
  unfold zdV
  repeat' with_reducible first | exact ChO.const _ | exact h_r3 _ _ | apply ChO.ite | apply ChO.G | apply ChO.both | (apply ChO.bind; intro _)
theorem zsi  (g' : Tp7) (p : Int) (q : Int) : Cn (zo0 g' p q) := fun g h hg x => zqD  (fun κ any i => g κ (any, i)) (fun any i => h (any, i)) (fun any i => hg (any, i)) g' p q x.1 x.2
theorem znH  (g' : Tp7) (p : Int) (q : Int) (any : Bool) (i : Int) : zlo g' p q any i = zdV g' p q (zlo g' p q) any i := zaK (zsi g' p q) (any, i)

def zcK (g' : Tp7) (p : Int) (in' : Tp14) (r2 : Int -> Option (Bool)) (q : Int) : Option (Bool) :=
  if (decide (q < g'.2.1)) = true then
  (zq0 (g'.1, (g'.2.1, (g'.2.2.1, ()))) p q).bind (fun y' =>
  if y' = true then
  G (0 <= q /\ q < (in'.length : Int)) (
  if (ix in' q) = true then
  some true else
  G (fits (q + (1 : Int))) (
  r2 (q + (1 : Int)))) else
  G (fits (q + (1 : Int))) (
  r2 (q + (1 : Int)))) else
  some false
def zo8 (g' : Tp7) (p : Int) (in' : Tp14) : (Int -> Option (Bool)) -> Int -> Option (Bool) :=
  fun rec x => zcK g' p in' (fun q => rec q) x
def zn8 (g' : Tp7) (p : Int) (in' : Tp14) (q : Int) : Option (Bool) := LFix (zo8 g' p in' ) q
def zlp (g' : Tp7) (p : Int) (in' : Tp14) : Option (Bool) :=
  zn8 g' p in' (0 : Int)
theorem zqE (r2 : Nat -> Int -> Option (Bool)) (r2' : Int -> Option (Bool)) (h_r2 : ∀ a0, ChO (fun κ => r2 κ a0) (r2' a0)) (g' : Tp7) (p : Int) (in' : Tp14) (q : Int) : ChO (fun κ => zcK g' p in' (r2 κ) q) (zcK g' p in' r2' q) := by
  unfold zcK
  repeat' with_reducible first | exact ChO.const _ | exact h_r2 _ | apply ChO.ite | apply ChO.G | apply ChO.both | (apply ChO.bind; intro _)
theorem zsj  (g' : Tp7) (p : Int) (in' : Tp14) : Cn (zo8 g' p in') := fun g h hg x => zqE  (fun κ q => g κ q) (fun q => h q) (fun q => hg q) g' p in' x
theorem zhA  (g' : Tp7) (p : Int) (in' : Tp14) (q : Int) : zn8 g' p in' q = zcK g' p in' (zn8 g' p in') q := zaK (zsj g' p in') q

def zcj (g' : Tp7) (p : Int) (in' : Tp14) (r2 : Int -> Option (Bool)) (q : Int) : Option (Bool) :=
  if (decide (q < g'.2.1)) = true then
  (zq0 (g'.1, (g'.2.1, (g'.2.2.1, ()))) p q).bind (fun y' =>
  if y' = true then
  G (0 <= q /\ q < (in'.length : Int)) (
  if (!(ix in' q)) = true then
  some false else
  G (fits (q + (1 : Int))) (
  r2 (q + (1 : Int)))) else
  G (fits (q + (1 : Int))) (
  r2 (q + (1 : Int)))) else
  some true
def znG (g' : Tp7) (p : Int) (in' : Tp14) : (Int -> Option (Bool)) -> Int -> Option (Bool) :=
  fun rec x => zcj g' p in' (fun q => rec q) x
def zmD (g' : Tp7) (p : Int) (in' : Tp14) (q : Int) : Option (Bool) := LFix (znG g' p in' ) q
def ziQ (g' : Tp7) (p : Int) (in' : Tp14) : Option (Bool) :=
  zmD g' p in' (0 : Int)
theorem zpQ (r2 : Nat -> Int -> Option (Bool)) (r2' : Int -> Option (Bool)) (h_r2 : ∀ a0, ChO (fun κ => r2 κ a0) (r2' a0)) (g' : Tp7) (p : Int) (in' : Tp14) (q : Int) : ChO (fun κ => zcj g' p in' (r2 κ) q) (zcj g' p in' r2' q) := by
  unfold zcj
  repeat' with_reducible first | exact ChO.const _ | exact h_r2 _ | apply ChO.ite | apply ChO.G | apply ChO.both | (apply ChO.bind; intro _)
theorem zrQ  (g' : Tp7) (p : Int) (in' : Tp14) : Cn (znG g' p in') := fun g h hg x => zpQ  (fun κ q => g κ q) (fun q => h q) (fun q => hg q) g' p in' x
theorem zgF  (g' : Tp7) (p : Int) (in' : Tp14) (q : Int) : zmD g' p in' q = zcj g' p in' (zmD g' p in') q := zaK (zrQ g' p in') q

def zcO (a : Tp14) (b : Tp14) (r4 : Int -> Option (Bool)) (i : Int) : Option (Bool) :=
  if (decide (i < (a.length : Int))) = true then
  G (0 <= i /\ i < (a.length : Int)) (
  G (0 <= i /\ i < (b.length : Int)) (
  if (decide (¬ (ix a i) = (ix b i))) = true then
  some false else
  G (fits (i + (1 : Int))) (
  r4 (i + (1 : Int))))) else
  some true
def znE (a : Tp14) (b : Tp14) : (Int -> Option (Bool)) -> Int -> Option (Bool) :=
  fun rec x => zcO a b (fun i => rec i) x
def zmz (a : Tp14) (b : Tp14) (i : Int) : Option (Bool) := LFix (znE a b ) i
def zd4 (a : Tp14) (b : Tp14) : Option (Bool) :=
  if (decide (¬ (a.length : Int) = (b.length : Int))) = true then
  some false else
  zmz a b (0 : Int)
theorem zpO (r4 : Nat -> Int -> Option (Bool)) (r4' : Int -> Option (Bool)) (h_r4 : ∀ a0, ChO (fun κ => r4 κ a0) (r4' a0)) (a : Tp14) (b : Tp14) (i : Int) : ChO (fun κ => zcO a b (r4 κ) i) (zcO a b r4' i) := by
  unfold zcO
  repeat' with_reducible first | exact ChO.const _ | exact h_r4 _ | apply ChO.ite | apply ChO.G | apply ChO.both | (apply ChO.bind; intro _)
theorem zrO  (a : Tp14) (b : Tp14) : Cn (znE a b) := fun g h hg x => zpO  (fun κ i => g κ i) (fun i => h i) (fun i => hg i) a b x
theorem ziO  (a : Tp14) (b : Tp14) (i : Int) : zmz a b i = zcO a b (zmz a b) i := zaK (zrO a b) i

def zeu (b : Tp14) (p_1 : Int) (r8 : (Int -> Tp14 -> Option Tp14)) (next'_1 : Tp14) (t : Bool) : Option Tp14 :=
  if t = true then
  G (0 <= p_1 /\ p_1 < (b.length : Int)) (
  if (ix b p_1) = true then
  G (0 <= p_1 /\ p_1 < (next'_1.length : Int)) (
  G ((p_1).toNat < next'_1.length) (
  G (fits (p_1 + (1 : Int))) (
  r8 (p_1 + (1 : Int)) (next'_1.set (p_1).toNat true)))) else
  G (0 <= p_1 /\ p_1 < (next'_1.length : Int)) (
  G ((p_1).toNat < next'_1.length) (
  G (0 <= p_1 /\ p_1 < (next'_1.length : Int)) (
  G ((p_1).toNat < next'_1.length) (
  G (fits (p_1 + (1 : Int))) (
  r8 (p_1 + (1 : Int)) (next'_1.set (p_1).toNat (ix next'_1 p_1)))))))) else
  G (fits (p_1 + (1 : Int))) (
  r8 (p_1 + (1 : Int)) next'_1)
def zet (b : Tp14) (p_1 : Int) (r8 : (Int -> Tp14 -> Option Tp14)) (next'_1 : Tp14) : Option Tp14 :=
  if b.length = 0 then both [(.list .bool)] (
  zeu b p_1 r8 next'_1 true) (
  zeu b p_1 r8 next'_1 false) else
  zeu b p_1 r8 next'_1 true
def zes (a : Tp14) (b : Tp14) (p_1 : Int) (next' : Tp14) (r8 : (Int -> Tp14 -> Option Tp14)) (goes : Bool) : Option Tp14 :=
  G (0 <= p_1 /\ p_1 < (a.length : Int)) (
  if (ix a p_1) = true then
  G (0 <= p_1 /\ p_1 < (next'.length : Int)) (
  G ((p_1).toNat < next'.length) (
  zet b p_1 r8 (next'.set (p_1).toNat goes))) else
  G (0 <= p_1 /\ p_1 < (next'.length : Int)) (
  G ((p_1).toNat < next'.length) (
  zet b p_1 r8 (next'.set (p_1).toNat false))))
def zdY (g' : Tp7) (all' : Bool) (a : Tp14) (b : Tp14) (out_1 : Tp14) (r6 : (Tp14 -> Option Tp14)) (r8 : Int -> Tp14 -> Option Tp14) (p_1 : Int) (next' : Tp14) : Option Tp14 :=
  if (decide (p_1 < g'.2.1)) = true then
  (zlp (g'.1, (g'.2.1, (g'.2.2.1, ()))) p_1 out_1).bind (fun y' =>
  if all' = true then
  (ziQ (g'.1, (g'.2.1, (g'.2.2.1, ()))) p_1 out_1).bind (fun y'_1 =>
  zes a b p_1 next' r8 y'_1) else
  zes a b p_1 next' r8 y') else
  (zd4 next' out_1).bind (fun y'_2 =>
  if y'_2 = true then
  some out_1 else
  r6 next')
def zpe (g' : Tp7) (all' : Bool) (a : Tp14) (b : Tp14) (out_1 : Tp14) (r6 : (Tp14 -> Option Tp14)) : (Int × Tp14 -> Option Tp14) -> Int × Tp14 -> Option Tp14 :=
  fun rec x => zdY g' all' a b out_1 r6 (fun p_1 next' => rec (p_1, next')) x.1 x.2
def zcy (g' : Tp7) (all' : Bool) (a : Tp14) (b : Tp14) (out_1 : Tp14) (r6 : (Tp14 -> Option Tp14)) (p_1 : Int) (next' : Tp14) : Option Tp14 := LFix (zpe g' all' a b out_1 r6 ) (p_1, next')
def zeC (g' : Tp7) (all' : Bool) (a : Tp14) (b : Tp14) (r6 : Tp14 -> Option Tp14) (out_1 : Tp14) : Option Tp14 :=
  G (mkOK g'.2.1 g'.2.1 1) (
  zcy g' all' a b out_1 r6 (0 : Int) (List.replicate (g'.2.1).toNat (false : Bool)))
def zpd (g' : Tp7) (all' : Bool) (a : Tp14) (b : Tp14) : (List Bool -> Option Tp14) -> List Bool -> Option Tp14 :=
  fun rec x => zeC g' all' a b (fun out_1 => rec out_1) x
def zbr (g' : Tp7) (all' : Bool) (a : Tp14) (b : Tp14) (out_1 : Tp14) : Option Tp14 := LFix (zpd g' all' a b ) out_1
def zdX (g' : Tp7) (all' : Bool) (a : Tp14) (b : Tp14) (r3 : Int -> Tp14 -> Option Tp14) (p : Int) (out : Tp14) : Option Tp14 :=
  if (decide (p < g'.2.1)) = true then
  if b.length = 0 then both [(.list .bool)] (
  G (0 <= p /\ p < (out.length : Int)) (
  G ((p).toNat < out.length) (
  G (fits (p + (1 : Int))) (
  r3 (p + (1 : Int)) (out.set (p).toNat true))))) (
  G (0 <= p /\ p < (out.length : Int)) (
  G ((p).toNat < out.length) (
  G (fits (p + (1 : Int))) (
  r3 (p + (1 : Int)) (out.set (p).toNat false))))) else
  G (0 <= p /\ p < (out.length : Int)) (
  G ((p).toNat < out.length) (
  G (fits (p + (1 : Int))) (
  r3 (p + (1 : Int)) (out.set (p).toNat false)))) else
  zbr g' all' a b out
def zpc (g' : Tp7) (all' : Bool) (a : Tp14) (b : Tp14) : (Int × Tp14 -> Option Tp14) -> Int × Tp14 -> Option Tp14 :=
  fun rec x => zdX g' all' a b (fun p out => rec (p, out)) x.1 x.2
def zi2 (g' : Tp7) (all' : Bool) (a : Tp14) (b : Tp14) (p : Int) (out : Tp14) : Option Tp14 := LFix (zpc g' all' a b ) (p, out)
def zjV (g' : Tp7) (all' : Bool) (a : Tp14) (b : Tp14) : Option Tp14 :=
  G (mkOK g'.2.1 g'.2.1 1) (
  zi2 g' all' a b (0 : Int) (List.replicate (g'.2.1).toNat (false : Bool)))
theorem zev (r8 : Nat -> Int -> Tp14 -> Option Tp14) (r8' : Int -> Tp14 -> Option Tp14) (h_r8 : ∀ a0 a1, ChO (fun κ => r8 κ a0 a1) (r8' a0 a1)) (b : Tp14) (p_1 : Int) (next'_1 : Tp14) (t : Bool) : ChO (fun κ => zeu b p_1 (r8 κ) next'_1 t) (zeu b p_1 r8' next'_1 t) := by
  unfold zeu
  repeat' with_reducible first | exact ChO.const _ | exact h_r8 _ _ | apply ChO.ite | apply ChO.G | apply ChO.both | (apply ChO.bind; intro _)
theorem zgL (r8 : Nat -> Int -> Tp14 -> Option Tp14) (r8' : Int -> Tp14 -> Option Tp14) (h_r8 : ∀ a0 a1, ChO (fun κ => r8 κ a0 a1) (r8' a0 a1)) (b : Tp14) (p_1 : Int) (next'_1 : Tp14) : ChO (fun κ => zet b p_1 (r8 κ) next'_1) (zet b p_1 r8' next'_1) := by
  unfold zet
  repeat' with_reducible first | exact ChO.const _ | exact h_r8 _ _ | (apply zev <;> assumption) | apply ChO.ite | apply ChO.G | apply ChO.both | (apply ChO.bind; intro _)
theorem zi1 (r8 : Nat -> Int -> Tp14 -> Option Tp14) (r8' : Int -> Tp14 -> Option Tp14) (h_r8 : ∀ a0 a1, ChO (fun κ => r8 κ a0 a1) (r8' a0 a1)) (a : Tp14) (b : Tp14) (p_1 : Int) (next' : Tp14) (goes : Bool) : ChO (fun κ => zes a b p_1 next' (r8 κ) goes) (zes a b p_1 next' r8' goes) := by
  unfold zes
  repeat' with_reducible first | exact ChO.const _ | exact h_r8 _ _ | (apply zev <;> assumption) | (apply zgL <;> assumption) | apply ChO.ite | apply ChO.G | apply ChO.both | (apply ChO.bind; intro _)
theorem zlF (r6 : Nat -> Tp14 -> Option Tp14) (r6' : Tp14 -> Option Tp14) (h_r6 : ∀ a0, ChO (fun κ => r6 κ a0) (r6' a0)) (r8 : Nat -> Int -> Tp14 -> Option Tp14) (r8' : Int -> Tp14 -> Option Tp14) (h_r8 : ∀ a0 a1, ChO (fun κ => r8 κ a0 a1) (r8' a0 a1)) (g' : Tp7) (all' : Bool) (a : Tp14) (b : Tp14) (out_1 : Tp14) (p_1 : Int) (next' : Tp14) : ChO (fun κ => zdY g' all' a b out_1 (r6 κ) (r8 κ) p_1 next') (zdY g' all' a b out_1 r6' r8' p_1 next') := by
  unfold zdY
  repeat' with_reducible first | exact ChO.const _ | exact h_r6 _ | exact h_r8 _ _ | (apply zev <;> assumption) | (apply zgL <;> assumption) | (apply zi1 <;> assumption) | apply ChO.ite | apply ChO.G | apply ChO.both | (apply ChO.bind; intro _)
theorem zke (r6 : Tp14 -> Option Tp14) (g' : Tp7) (all' : Bool) (a : Tp14) (b : Tp14) (out_1 : Tp14) : Cn (zpe g' all' a b out_1 r6) := fun g h hg x => zlF (fun _ => r6) r6 (fun _ => ChO.const _) (fun κ p_1 next' => g κ (p_1, next')) (fun p_1 next' => h (p_1, next')) (fun p_1 next' => hg (p_1, next')) g' all' a b out_1 x.1 x.2
theorem znM (r6 : Tp14 -> Option Tp14) (g' : Tp7) (all' : Bool) (a : Tp14) (b : Tp14) (out_1 : Tp14) (p_1 : Int) (next' : Tp14) : zcy g' all' a b out_1 r6 p_1 next' = zdY g' all' a b out_1 r6 (zcy g' all' a b out_1 r6) p_1 next' := zaK (zke r6 g' all' a b out_1) (p_1, next')
theorem znL (r6 : Nat -> Tp14 -> Option Tp14) (r6' : Tp14 -> Option Tp14) (h_r6 : ∀ a0, ChO (fun κ => r6 κ a0) (r6' a0)) (g' : Tp7) (all' : Bool) (a : Tp14) (b : Tp14) (out_1 : Tp14) (p_1 : Int) (next' : Tp14) : ChO (fun κ => zcy g' all' a b out_1 (r6 κ) p_1 next') (zcy g' all' a b out_1 r6' p_1 next') := by
  unfold zcy
  exact zpv (fun κ => (zke (r6 κ) g' all' a b out_1).mono) (zke r6' g' all' a b out_1).mono (fun g h hg x => zlF r6 r6' h_r6 (fun κ p_1 next' => g κ (p_1, next')) (fun p_1 next' => h (p_1, next')) (fun p_1 next' => hg (p_1, next')) g' all' a b out_1 x.1 x.2) _
theorem zqJ (r6 : Nat -> Tp14 -> Option Tp14) (r6' : Tp14 -> Option Tp14) (h_r6 : ∀ a0, ChO (fun κ => r6 κ a0) (r6' a0)) (g' : Tp7) (all' : Bool) (a : Tp14) (b : Tp14) (out_1 : Tp14) : ChO (fun κ => zeC g' all' a b (r6 κ) out_1) (zeC g' all' a b r6' out_1) := by
  unfold zeC
  repeat' with_reducible first | exact ChO.const _ | exact h_r6 _ | (apply zev <;> assumption) | (apply zgL <;> assumption) | (apply zi1 <;> assumption) | (apply znL <;> assumption) | apply ChO.ite | apply ChO.G | apply ChO.both | (apply ChO.bind; intro _)
theorem zsl  (g' : Tp7) (all' : Bool) (a : Tp14) (b : Tp14) : Cn (zpd g' all' a b) := fun g h hg x => zqJ  (fun κ out_1 => g κ out_1) (fun out_1 => h out_1) (fun out_1 => hg out_1) g' all' a b x
theorem zsm  (g' : Tp7) (all' : Bool) (a : Tp14) (b : Tp14) (out_1 : Tp14) : zbr g' all' a b out_1 = zeC g' all' a b (zbr g' all' a b) out_1 := zaK (zsl g' all' a b) out_1
theorem zqI (r3 : Nat -> Int -> Tp14 -> Option Tp14) (r3' : Int -> Tp14 -> Option Tp14) (h_r3 : ∀ a0 a1, ChO (fun κ => r3 κ a0 a1) (r3' a0 a1)) (g' : Tp7) (all' : Bool) (a : Tp14) (b : Tp14) (p : Int) (out : Tp14) : ChO (fun κ => zdX g' all' a b (r3 κ) p out) (zdX g' all' a b r3' p out) := by
  unfold zdX
  repeat' with_reducible first | exact ChO.const _ | exact h_r3 _ _ | (apply zev <;> assumption) | (apply zgL <;> assumption) | (apply zi1 <;> assumption) | (apply znL <;> assumption) | apply ChO.ite | apply ChO.G | apply ChO.both | (apply ChO.bind; intro _)
theorem zsk  (g' : Tp7) (all' : Bool) (a : Tp14) (b : Tp14) : Cn (zpc g' all' a b) := fun g h hg x => zqI  (fun κ p out => g κ (p, out)) (fun p out => h (p, out)) (fun p out => hg (p, out)) g' all' a b x.1 x.2
theorem znK  (g' : Tp7) (all' : Bool) (a : Tp14) (b : Tp14) (p : Int) (out : Tp14) : zi2 g' all' a b p out = zdX g' all' a b (zi2 g' all' a b) p out := zaK (zsk g' all' a b) (p, out)

def zdx (a : Tp14) (p_1 : Int) (next' : Tp14) (r8 : (Int -> Tp14 -> Option Tp14)) (goes : Bool) : Option Tp14 :=
  G (0 <= p_1 /\ p_1 < (a.length : Int)) (
  if (ix a p_1) = true then
  G (0 <= p_1 /\ p_1 < (next'.length : Int)) (
  G ((p_1).toNat < next'.length) (
  G (fits (p_1 + (1 : Int))) (
  r8 (p_1 + (1 : Int)) (next'.set (p_1).toNat goes)))) else
  G (0 <= p_1 /\ p_1 < (next'.length : Int)) (
  G ((p_1).toNat < next'.length) (
  G (fits (p_1 + (1 : Int))) (
  r8 (p_1 + (1 : Int)) (next'.set (p_1).toNat false)))))
def zcW (g' : Tp7) (all' : Bool) (a : Tp14) (out_1 : Tp14) (r6 : (Tp14 -> Option Tp14)) (r8 : Int -> Tp14 -> Option Tp14) (p_1 : Int) (next' : Tp14) : Option Tp14 :=
  if (decide (p_1 < g'.2.1)) = true then
  (zlp (g'.1, (g'.2.1, (g'.2.2.1, ()))) p_1 out_1).bind (fun y' =>
  if all' = true then
  (ziQ (g'.1, (g'.2.1, (g'.2.2.1, ()))) p_1 out_1).bind (fun y'_1 =>
  zdx a p_1 next' r8 y'_1) else
  zdx a p_1 next' r8 y') else
  (zd4 next' out_1).bind (fun y'_2 =>
  if y'_2 = true then
  some out_1 else
  r6 next')
def zmK (g' : Tp7) (all' : Bool) (a : Tp14) (out_1 : Tp14) (r6 : (Tp14 -> Option Tp14)) : (Int × Tp14 -> Option Tp14) -> Int × Tp14 -> Option Tp14 :=
  fun rec x => zcW g' all' a out_1 r6 (fun p_1 next' => rec (p_1, next')) x.1 x.2
def zck (g' : Tp7) (all' : Bool) (a : Tp14) (out_1 : Tp14) (r6 : (Tp14 -> Option Tp14)) (p_1 : Int) (next' : Tp14) : Option Tp14 := LFix (zmK g' all' a out_1 r6 ) (p_1, next')
def zdP (g' : Tp7) (all' : Bool) (a : Tp14) (r6 : Tp14 -> Option Tp14) (out_1 : Tp14) : Option Tp14 :=
  G (mkOK g'.2.1 g'.2.1 1) (
  zck g' all' a out_1 r6 (0 : Int) (List.replicate (g'.2.1).toNat (false : Bool)))
def zmJ (g' : Tp7) (all' : Bool) (a : Tp14) : (List Bool -> Option Tp14) -> List Bool -> Option Tp14 :=
  fun rec x => zdP g' all' a (fun out_1 => rec out_1) x
def zba (g' : Tp7) (all' : Bool) (a : Tp14) (out_1 : Tp14) : Option Tp14 := LFix (zmJ g' all' a ) out_1
def zcV (g' : Tp7) (all' : Bool) (a : Tp14) (r3 : Int -> Tp14 -> Option Tp14) (p : Int) (out : Tp14) : Option Tp14 :=
  if (decide (p < g'.2.1)) = true then
  G (0 <= p /\ p < (out.length : Int)) (
  G ((p).toNat < out.length) (
  G (fits (p + (1 : Int))) (
  r3 (p + (1 : Int)) (out.set (p).toNat true)))) else
  zba g' all' a out
def zmI (g' : Tp7) (all' : Bool) (a : Tp14) : (Int × Tp14 -> Option Tp14) -> Int × Tp14 -> Option Tp14 :=
  fun rec x => zcV g' all' a (fun p out => rec (p, out)) x.1 x.2
def zgK (g' : Tp7) (all' : Bool) (a : Tp14) (p : Int) (out : Tp14) : Option Tp14 := LFix (zmI g' all' a ) (p, out)
def zkR (g' : Tp7) (all' : Bool) (a : Tp14) : Option Tp14 :=
  G (mkOK g'.2.1 g'.2.1 1) (
  zgK g' all' a (0 : Int) (List.replicate (g'.2.1).toNat (false : Bool)))
theorem zhv (r8 : Nat -> Int -> Tp14 -> Option Tp14) (r8' : Int -> Tp14 -> Option Tp14) (h_r8 : ∀ a0 a1, ChO (fun κ => r8 κ a0 a1) (r8' a0 a1)) (a : Tp14) (p_1 : Int) (next' : Tp14) (goes : Bool) : ChO (fun κ => zdx a p_1 next' (r8 κ) goes) (zdx a p_1 next' r8' goes) := by
  unfold zdx
  repeat' with_reducible first | exact ChO.const _ | exact h_r8 _ _ | apply ChO.ite | apply ChO.G | apply ChO.both | (apply ChO.bind; intro _)
theorem zjW (r6 : Nat -> Tp14 -> Option Tp14) (r6' : Tp14 -> Option Tp14) (h_r6 : ∀ a0, ChO (fun κ => r6 κ a0) (r6' a0)) (r8 : Nat -> Int -> Tp14 -> Option Tp14) (r8' : Int -> Tp14 -> Option Tp14) (h_r8 : ∀ a0 a1, ChO (fun κ => r8 κ a0 a1) (r8' a0 a1)) (g' : Tp7) (all' : Bool) (a : Tp14) (out_1 : Tp14) (p_1 : Int) (next' : Tp14) : ChO (fun κ => zcW g' all' a out_1 (r6 κ) (r8 κ) p_1 next') (zcW g' all' a out_1 r6' r8' p_1 next') := by
  unfold zcW
  repeat' with_reducible first | exact ChO.const _ | exact h_r6 _ | exact h_r8 _ _ | (apply zhv <;> assumption) | apply ChO.ite | apply ChO.G | apply ChO.both | (apply ChO.bind; intro _)
theorem zh7 (r6 : Tp14 -> Option Tp14) (g' : Tp7) (all' : Bool) (a : Tp14) (out_1 : Tp14) : Cn (zmK g' all' a out_1 r6) := fun g h hg x => zjW (fun _ => r6) r6 (fun _ => ChO.const _) (fun κ p_1 next' => g κ (p_1, next')) (fun p_1 next' => h (p_1, next')) (fun p_1 next' => hg (p_1, next')) g' all' a out_1 x.1 x.2
theorem zlE (r6 : Tp14 -> Option Tp14) (g' : Tp7) (all' : Bool) (a : Tp14) (out_1 : Tp14) (p_1 : Int) (next' : Tp14) : zck g' all' a out_1 r6 p_1 next' = zcW g' all' a out_1 r6 (zck g' all' a out_1 r6) p_1 next' := zaK (zh7 r6 g' all' a out_1) (p_1, next')
theorem zlD (r6 : Nat -> Tp14 -> Option Tp14) (r6' : Tp14 -> Option Tp14) (h_r6 : ∀ a0, ChO (fun κ => r6 κ a0) (r6' a0)) (g' : Tp7) (all' : Bool) (a : Tp14) (out_1 : Tp14) (p_1 : Int) (next' : Tp14) : ChO (fun κ => zck g' all' a out_1 (r6 κ) p_1 next') (zck g' all' a out_1 r6' p_1 next') := by
  unfold zck
  exact zpv (fun κ => (zh7 (r6 κ) g' all' a out_1).mono) (zh7 r6' g' all' a out_1).mono (fun g h hg x => zjW r6 r6' h_r6 (fun κ p_1 next' => g κ (p_1, next')) (fun p_1 next' => h (p_1, next')) (fun p_1 next' => hg (p_1, next')) g' all' a out_1 x.1 x.2) _
theorem zpa (r6 : Nat -> Tp14 -> Option Tp14) (r6' : Tp14 -> Option Tp14) (h_r6 : ∀ a0, ChO (fun κ => r6 κ a0) (r6' a0)) (g' : Tp7) (all' : Bool) (a : Tp14) (out_1 : Tp14) : ChO (fun κ => zdP g' all' a (r6 κ) out_1) (zdP g' all' a r6' out_1) := by
  unfold zdP
  repeat' with_reducible first | exact ChO.const _ | exact h_r6 _ | (apply zhv <;> assumption) | (apply zlD <;> assumption) | apply ChO.ite | apply ChO.G | apply ChO.both | (apply ChO.bind; intro _)
theorem zqG  (g' : Tp7) (all' : Bool) (a : Tp14) : Cn (zmJ g' all' a) := fun g h hg x => zpa  (fun κ out_1 => g κ out_1) (fun out_1 => h out_1) (fun out_1 => hg out_1) g' all' a x
theorem zqH  (g' : Tp7) (all' : Bool) (a : Tp14) (out_1 : Tp14) : zba g' all' a out_1 = zdP g' all' a (zba g' all' a) out_1 := zaK (zqG g' all' a) out_1
theorem zo9 (r3 : Nat -> Int -> Tp14 -> Option Tp14) (r3' : Int -> Tp14 -> Option Tp14) (h_r3 : ∀ a0 a1, ChO (fun κ => r3 κ a0 a1) (r3' a0 a1)) (g' : Tp7) (all' : Bool) (a : Tp14) (p : Int) (out : Tp14) : ChO (fun κ => zcV g' all' a (r3 κ) p out) (zcV g' all' a r3' p out) := by
  unfold zcV
  repeat' with_reducible first | exact ChO.const _ | exact h_r3 _ _ | (apply zhv <;> assumption) | (apply zlD <;> assumption) | apply ChO.ite | apply ChO.G | apply ChO.both | (apply ChO.bind; intro _)
theorem zqF  (g' : Tp7) (all' : Bool) (a : Tp14) : Cn (zmI g' all' a) := fun g h hg x => zo9  (fun κ p out => g κ (p, out)) (fun p out => h (p, out)) (fun p out => hg (p, out)) g' all' a x.1 x.2
theorem zlC  (g' : Tp7) (all' : Bool) (a : Tp14) (p : Int) (out : Tp14) : zgK g' all' a p out = zcV g' all' a (zgK g' all' a) p out := zaK (zqF g' all' a) (p, out)

def zdZ (g' : Tp7) (i : Int) (out_1 : Tp14) (r11 : (Int -> Tp14 -> Option Tp14)) (t_1 : Bool) : Option Tp14 :=
  if t_1 = true then
  G (0 <= i /\ i < (g'.2.2.1.length : Int)) (
  G (0 <= (ix g'.2.2.1 i).1 /\ (ix g'.2.2.1 i).1 < (out_1.length : Int)) (
  G (((ix g'.2.2.1 i).1).toNat < out_1.length) (
  G (fits (i + (1 : Int))) (
  r11 (i + (1 : Int)) (out_1.set ((ix g'.2.2.1 i).1).toNat true))))) else
  G (fits (i + (1 : Int))) (
  r11 (i + (1 : Int)) out_1)
def zb5 (g' : Tp7) (l : Tp8) (k : Int) (r11 : Int -> Tp14 -> Option Tp14) (i : Int) (out_1 : Tp14) : Option Tp14 :=
  if (decide (i < (g'.2.2.1.length : Int))) = true then
  if (decide (((ix l k).1) = (97 : Int))) = true then
  G (0 <= i /\ i < (g'.2.2.1.length : Int)) (
  zdZ g' i out_1 r11 (decide ((((ix g'.2.2.1 i).2).1) = ((((ix l k).2).2).1)))) else
  zdZ g' i out_1 r11 false else
  some out_1
def zmL (g' : Tp7) (l : Tp8) (k : Int) : (Int × Tp14 -> Option Tp14) -> Int × Tp14 -> Option Tp14 :=
  fun rec x => zb5 g' l k (fun i out_1 => rec (i, out_1)) x.1 x.2
def zbE (g' : Tp7) (l : Tp8) (k : Int) (i : Int) (out_1 : Tp14) : Option Tp14 := LFix (zmL g' l k ) (i, out_1)
def zdz (g' : Tp7) (l : Tp8) (k : Int) (r7 : Int -> Tp14 -> Option Tp14) (p : Int) (out : Tp14) : Option Tp14 :=
  if (decide (p < g'.2.1)) = true then
  G (0 <= p /\ p < (out.length : Int)) (
  G ((p).toNat < out.length) (
  G (fits (p + (1 : Int))) (
  r7 (p + (1 : Int)) (out.set (p).toNat (decide (((ix l k).1) = (49 : Int))))))) else
  zbE g' l k (0 : Int) out
def znN (g' : Tp7) (l : Tp8) (k : Int) : (Int × Tp14 -> Option Tp14) -> Int × Tp14 -> Option Tp14 :=
  fun rec x => zdz g' l k (fun p out => rec (p, out)) x.1 x.2
def zgc (g' : Tp7) (l : Tp8) (k : Int) (p : Int) (out : Tp14) : Option Tp14 := LFix (znN g' l k ) (p, out)
def zcX (g' : Tp7) (l : Tp8) (k : Int) (y' : Tp14) (r27 : Int -> Tp14 -> Option Tp14) (p_1 : Int) (b_1 : Tp14) : Option Tp14 :=
  if (decide (p_1 < g'.2.1)) = true then
  G (0 <= p_1 /\ p_1 < (b_1.length : Int)) (
  G ((p_1).toNat < b_1.length) (
  G (fits (p_1 + (1 : Int))) (
  r27 (p_1 + (1 : Int)) (b_1.set (p_1).toNat true)))) else
  (zjV (g'.1, (g'.2.1, (g'.2.2.1, ()))) (((ix l k).2).1) b_1 y').bind (fun y'_4 =>
  some y'_4)
def zmM (g' : Tp7) (l : Tp8) (k : Int) (y' : Tp14) : (Int × Tp14 -> Option Tp14) -> Int × Tp14 -> Option Tp14 :=
  fun rec x => zcX g' l k y' (fun p_1 b_1 => rec (p_1, b_1)) x.1 x.2
def zeD (g' : Tp7) (l : Tp8) (k : Int) (y' : Tp14) (p_1 : Int) (b_1 : Tp14) : Option Tp14 := LFix (zmM g' l k y' ) (p_1, b_1)
def zcY (g' : Tp7) (l : Tp8) (k : Int) (y' : Tp14) (b : Tp14) (r32 : Int -> Tp14 -> Option Tp14) (p_2 : Int) (out_2 : Tp14) : Option Tp14 :=
  if (decide (p_2 < g'.2.1)) = true then
  if (decide (((ix l k).1) = (33 : Int))) = true then
  G (0 <= p_2 /\ p_2 < (y'.length : Int)) (
  G ((p_2).toNat < y'.length) (
  G (0 <= p_2 /\ p_2 < (out_2.length : Int)) (
  G ((p_2).toNat < out_2.length) (
  G (fits (p_2 + (1 : Int))) (
  r32 (p_2 + (1 : Int)) (out_2.set (p_2).toNat (!(ix y' p_2)))))))) else
  if (decide (((ix l k).1) = (38 : Int))) = true then
  G (0 <= p_2 /\ p_2 < (y'.length : Int)) (
  G ((p_2).toNat < y'.length) (
  if (ix y' p_2) = true then
  G (0 <= p_2 /\ p_2 < (b.length : Int)) (
  G ((p_2).toNat < b.length) (
  G (0 <= p_2 /\ p_2 < (out_2.length : Int)) (
  G ((p_2).toNat < out_2.length) (
  G (fits (p_2 + (1 : Int))) (
  r32 (p_2 + (1 : Int)) (out_2.set (p_2).toNat (ix b p_2))))))) else
  G (0 <= p_2 /\ p_2 < (out_2.length : Int)) (
  G ((p_2).toNat < out_2.length) (
  G (fits (p_2 + (1 : Int))) (
  r32 (p_2 + (1 : Int)) (out_2.set (p_2).toNat false)))))) else
  if (decide (((ix l k).1) = (124 : Int))) = true then
  G (0 <= p_2 /\ p_2 < (y'.length : Int)) (
  G ((p_2).toNat < y'.length) (
  if (ix y' p_2) = true then
  G (0 <= p_2 /\ p_2 < (out_2.length : Int)) (
  G ((p_2).toNat < out_2.length) (
  G (fits (p_2 + (1 : Int))) (
  r32 (p_2 + (1 : Int)) (out_2.set (p_2).toNat true)))) else
  G (0 <= p_2 /\ p_2 < (b.length : Int)) (
  G ((p_2).toNat < b.length) (
  G (0 <= p_2 /\ p_2 < (out_2.length : Int)) (
  G ((p_2).toNat < out_2.length) (
  G (fits (p_2 + (1 : Int))) (
  r32 (p_2 + (1 : Int)) (out_2.set (p_2).toNat (ix b p_2))))))))) else
  if (decide (((ix l k).1) = (88 : Int))) = true then
  (zlp (g'.1, (g'.2.1, (g'.2.2.1, ()))) p_2 y').bind (fun y'_5 =>
  G (0 <= p_2 /\ p_2 < (out_2.length : Int)) (
  G ((p_2).toNat < out_2.length) (
  if (((ix l k).2).1) = true then
  (ziQ (g'.1, (g'.2.1, (g'.2.2.1, ()))) p_2 y').bind (fun y'_6 =>
  G (0 <= p_2 /\ p_2 < ((out_2.set (p_2).toNat y'_5).length : Int)) (
  G ((p_2).toNat < (out_2.set (p_2).toNat y'_5).length) (
  G (fits (p_2 + (1 : Int))) (
  r32 (p_2 + (1 : Int)) ((out_2.set (p_2).toNat y'_5).set (p_2).toNat y'_6))))) else
  G (fits (p_2 + (1 : Int))) (
  r32 (p_2 + (1 : Int)) (out_2.set (p_2).toNat y'_5))))) else
  G (fits (p_2 + (1 : Int))) (
  r32 (p_2 + (1 : Int)) out_2) else
  some out_2
def zmN (g' : Tp7) (l : Tp8) (k : Int) (y' : Tp14) (b : Tp14) : (Int × Tp14 -> Option Tp14) -> Int × Tp14 -> Option Tp14 :=
  fun rec x => zcY g' l k y' b (fun p_2 out_2 => rec (p_2, out_2)) x.1 x.2
def zd0 (g' : Tp7) (l : Tp8) (k : Int) (y' : Tp14) (b : Tp14) (p_2 : Int) (out_2 : Tp14) : Option Tp14 := LFix (zmN g' l k y' b ) (p_2, out_2)
def zbn (g' : Tp7) (l : Tp8) (k : Int) (y' : Tp14) (b : Tp14) : Option Tp14 :=
  if (decide (((ix l k).1) = (85 : Int))) = true then
  (zjV (g'.1, (g'.2.1, (g'.2.2.1, ()))) (((ix l k).2).1) y' b).bind (fun y'_2 =>
  some y'_2) else
  if (decide (((ix l k).1) = (71 : Int))) = true then
  (zkR (g'.1, (g'.2.1, (g'.2.2.1, ()))) (((ix l k).2).1) y').bind (fun y'_3 =>
  some y'_3) else
  if (decide (((ix l k).1) = (70 : Int))) = true then
  zeD g' l k y' (0 : Int) b else
  zd0 g' l k y' b (0 : Int) (List.replicate (g'.2.1).toNat (false : Bool))
def zcL (za0 : Tp7 -> Tp8 -> Int -> Option Tp14) (g' : Tp7) (l : Tp8) (k : Int) (y' : Tp14) (t_2 : Bool) : Option Tp14 :=
  if t_2 = true then
  (za0 (g'.1, (g'.2.1, (g'.2.2.1, ()))) l ((((((ix l k).2).2).2).2).1)).bind (fun y'_1 =>
  zbn g' l k y' y'_1) else
  zbn g' l k y' (List.replicate (g'.2.1).toNat (false : Bool))
def zdo (za0 : Tp7 -> Tp8 -> Int -> Option Tp14) (g' : Tp7) (l : Tp8) (k : Int) (t : Bool) : Option Tp14 :=
  if t = true then
  zgc g' l k (0 : Int) (List.replicate (g'.2.1).toNat (false : Bool)) else
  (za0 (g'.1, (g'.2.1, (g'.2.2.1, ()))) l (((((ix l k).2).2).2).1)).bind (fun y' =>
  G (mkOK g'.2.1 g'.2.1 1) (
  if (decide (((ix l k).1) = (38 : Int))) = true then
  zcL za0 g' l k y' true else
  if (decide (((ix l k).1) = (124 : Int))) = true then
  zcL za0 g' l k y' true else
  zcL za0 g' l k y' (decide (((ix l k).1) = (85 : Int)))))
def zdy (za0 : Tp7 -> Tp8 -> Int -> Option Tp14) (g' : Tp7) (l : Tp8) (k : Int) : Option Tp14 :=
  G (0 <= k /\ k < (l.length : Int)) (
  G (mkOK g'.2.1 g'.2.1 1) (
  if (decide (((ix l k).1) = (48 : Int))) = true then
  some (List.replicate (g'.2.1).toNat (false : Bool)) else
  if (decide (((ix l k).1) = (49 : Int))) = true then
  zdo za0 g' l k true else
  zdo za0 g' l k (decide (((ix l k).1) = (97 : Int)))))
theorem zcz (r11 : Nat -> Int -> Tp14 -> Option Tp14) (r11' : Int -> Tp14 -> Option Tp14) (h_r11 : ∀ a0 a1, ChO (fun κ => r11 κ a0 a1) (r11' a0 a1)) (g' : Tp7) (i : Int) (out_1 : Tp14) (t_1 : Bool) : ChO (fun κ => zdZ g' i out_1 (r11 κ) t_1) (zdZ g' i out_1 r11' t_1) := by
  unfold zdZ
  repeat' with_reducible first | exact ChO.const _ | exact h_r11 _ _ | apply ChO.ite | apply ChO.G | apply ChO.both | (apply ChO.bind; intro _)
theorem zpf (r11 : Nat -> Int -> Tp14 -> Option Tp14) (r11' : Int -> Tp14 -> Option Tp14) (h_r11 : ∀ a0 a1, ChO (fun κ => r11 κ a0 a1) (r11' a0 a1)) (g' : Tp7) (l : Tp8) (k : Int) (i : Int) (out_1 : Tp14) : ChO (fun κ => zb5 g' l k (r11 κ) i out_1) (zb5 g' l k r11' i out_1) := by
  unfold zb5
  repeat' with_reducible first | exact ChO.const _ | exact h_r11 _ _ | (apply zcz <;> assumption) | apply ChO.ite | apply ChO.G | apply ChO.both | (apply ChO.bind; intro _)
theorem zqK  (g' : Tp7) (l : Tp8) (k : Int) : Cn (zmL g' l k) := fun g h hg x => zpf  (fun κ i out_1 => g κ (i, out_1)) (fun i out_1 => h (i, out_1)) (fun i out_1 => hg (i, out_1)) g' l k x.1 x.2
theorem zfy  (g' : Tp7) (l : Tp8) (k : Int) (i : Int) (out_1 : Tp14) : zbE g' l k i out_1 = zb5 g' l k (zbE g' l k) i out_1 := zaK (zqK g' l k) (i, out_1)
theorem zpR (r7 : Nat -> Int -> Tp14 -> Option Tp14) (r7' : Int -> Tp14 -> Option Tp14) (h_r7 : ∀ a0 a1, ChO (fun κ => r7 κ a0 a1) (r7' a0 a1)) (g' : Tp7) (l : Tp8) (k : Int) (p : Int) (out : Tp14) : ChO (fun κ => zdz g' l k (r7 κ) p out) (zdz g' l k r7' p out) := by
  unfold zdz
  repeat' with_reducible first | exact ChO.const _ | exact h_r7 _ _ | (apply zcz <;> assumption) | apply ChO.ite | apply ChO.G | apply ChO.both | (apply ChO.bind; intro _)
theorem zrU  (g' : Tp7) (l : Tp8) (k : Int) : Cn (znN g' l k) := fun g h hg x => zpR  (fun κ p out => g κ (p, out)) (fun p out => h (p, out)) (fun p out => hg (p, out)) g' l k x.1 x.2
theorem zmO  (g' : Tp7) (l : Tp8) (k : Int) (p : Int) (out : Tp14) : zgc g' l k p out = zdz g' l k (zgc g' l k) p out := zaK (zrU g' l k) (p, out)
theorem zpg (r27 : Nat -> Int -> Tp14 -> Option Tp14) (r27' : Int -> Tp14 -> Option Tp14) (h_r27 : ∀ a0 a1, ChO (fun κ => r27 κ a0 a1) (r27' a0 a1)) (g' : Tp7) (l : Tp8) (k : Int) (y' : Tp14) (p_1 : Int) (b_1 : Tp14) : ChO (fun κ => zcX g' l k y' (r27 κ) p_1 b_1) (zcX g' l k y' r27' p_1 b_1) := by
  unfold zcX
  repeat' with_reducible first | exact ChO.const _ | exact h_r27 _ _ | (apply zcz <;> assumption) | apply ChO.ite | apply ChO.G | apply ChO.both | (apply ChO.bind; intro _)
theorem zqL  (g' : Tp7) (l : Tp8) (k : Int) (y' : Tp14) : Cn (zmM g' l k y') := fun g h hg x => zpg  (fun κ p_1 b_1 => g κ (p_1, b_1)) (fun p_1 b_1 => h (p_1, b_1)) (fun p_1 b_1 => hg (p_1, b_1)) g' l k y' x.1 x.2
theorem zlH  (g' : Tp7) (l : Tp8) (k : Int) (y' : Tp14) (p_1 : Int) (b_1 : Tp14) : zeD g' l k y' p_1 b_1 = zcX g' l k y' (zeD g' l k y') p_1 b_1 := zaK (zqL g' l k y') (p_1, b_1)
theorem zph (r32 : Nat -> Int -> Tp14 -> Option Tp14) (r32' : Int -> Tp14 -> Option Tp14) (h_r32 : ∀ a0 a1, ChO (fun κ => r32 κ a0 a1) (r32' a0 a1)) (g' : Tp7) (l : Tp8) (k : Int) (y' : Tp14) (b : Tp14) (p_2 : Int) (out_2 : Tp14) : ChO (fun κ => zcY g' l k y' b (r32 κ) p_2 out_2) (zcY g' l k y' b r32' p_2 out_2) := by
  unfold zcY
  repeat' with_reducible first | exact ChO.const _ | exact h_r32 _ _ | (apply zcz <;> assumption) | apply ChO.ite | apply ChO.G | apply ChO.both | (apply ChO.bind; intro _)
theorem zqM  (g' : Tp7) (l : Tp8) (k : Int) (y' : Tp14) (b : Tp14) : Cn (zmN g' l k y' b) := fun g h hg x => zph  (fun κ p_2 out_2 => g κ (p_2, out_2)) (fun p_2 out_2 => h (p_2, out_2)) (fun p_2 out_2 => hg (p_2, out_2)) g' l k y' b x.1 x.2
theorem zlI  (g' : Tp7) (l : Tp8) (k : Int) (y' : Tp14) (b : Tp14) (p_2 : Int) (out_2 : Tp14) : zd0 g' l k y' b p_2 out_2 = zcY g' l k y' b (zd0 g' l k y' b) p_2 out_2 := zaK (zqM g' l k y' b) (p_2, out_2)
theorem zlG (za0 : Nat -> Tp7 -> Tp8 -> Int -> Option Tp14) (zdp : Tp7 -> Tp8 -> Int -> Option Tp14) (zcM : ∀ a0 a1 a2, ChO (fun κ => za0 κ a0 a1 a2) (zdp a0 a1 a2)) (g' : Tp7) (l : Tp8) (k : Int) (y' : Tp14) (t_2 : Bool) : ChO (fun κ => zcL (za0 κ) g' l k y' t_2) (zcL zdp g' l k y' t_2) := by
  unfold zcL
  repeat' with_reducible first | exact ChO.const _ | exact zcM _ _ _ | (apply zcz <;> assumption) | apply ChO.ite | apply ChO.G | apply ChO.both | (apply ChO.bind; intro _) | (apply ChO.bind2 (zcM _ _ _); intro _)
theorem zrT (za0 : Nat -> Tp7 -> Tp8 -> Int -> Option Tp14) (zdp : Tp7 -> Tp8 -> Int -> Option Tp14) (zcM : ∀ a0 a1 a2, ChO (fun κ => za0 κ a0 a1 a2) (zdp a0 a1 a2)) (g' : Tp7) (l : Tp8) (k : Int) (t : Bool) : ChO (fun κ => zdo (za0 κ) g' l k t) (zdo zdp g' l k t) := by
  unfold zdo
  repeat' with_reducible first | exact ChO.const _ | exact zcM _ _ _ | (apply zcz <;> assumption) | (apply zlG <;> assumption) | apply ChO.ite | apply ChO.G | apply ChO.both | (apply ChO.bind; intro _) | (apply ChO.bind2 (zcM _ _ _); intro _)
theorem zsn (za0 : Nat -> Tp7 -> Tp8 -> Int -> Option Tp14) (zdp : Tp7 -> Tp8 -> Int -> Option Tp14) (zcM : ∀ a0 a1 a2, ChO (fun κ => za0 κ a0 a1 a2) (zdp a0 a1 a2)) (g' : Tp7) (l : Tp8) (k : Int) : ChO (fun κ => zdy (za0 κ) g' l k) (zdy zdp g' l k) := by
  unfold zdy
  repeat' with_reducible first | exact ChO.const _ | exact zcM _ _ _ | (apply zcz <;> assumption) | (apply zlG <;> assumption) | (apply zrT <;> assumption) | apply ChO.ite | apply ChO.G | apply ChO.both | (apply ChO.bind; intro _) | (apply ChO.bind2 (zcM _ _ _); intro _)
def zlr : (Tp7 × Tp8 × Int -> Option Tp14) -> Tp7 × Tp8 × Int -> Option Tp14 :=
  fun rec X => zdy (fun g' l k => rec (g', l, k)) X.1 X.2.1 X.2.2
def zb4 (g' : Tp7) (l : Tp8) (k : Int) : Option Tp14 := LFix zlr (g', l, k)
theorem zuF : Cn zlr := fun g h hg X => zsn _ _ (fun g' l k => hg (g', l, k)) X.1 X.2.1 X.2.2
theorem zhU (g' : Tp7) (l : Tp8) (k : Int) : zb4 g' l k = zdy zb4 g' l k := zaK zuF (g', l, k)

def zcw (g' : Tp7) (y' : Tp14) (y'_1 : Int) (y'_4 : Int) (y'_6 : Tp8) (no : Int) : Option (Bool) :=
  if (decide (¬ no = (0 : Int))) = true then
  if (decide (y'_1 = no)) = true then
  some (decide ((y'.length : Int) = (0 : Int))) else
  some false else
  (zb4 (g'.1, (g'.2.1, (g'.2.2.1, ()))) y'_6 y'_4).bind (fun y'_8 =>
  (zd4 y' y'_8).bind (fun y'_9 =>
  if (decide (y'_1 = (0 : Int))) = true then
  some y'_9 else
  some false))
def zcv (g' : Tp7) (y' : Tp14) (y'_1 : Int) (y'_3 : Int) (y'_4 : Int) (y'_6 : Tp8) (t : Bool) : Option (Bool) :=
  if t = true then
  zcw g' y' y'_1 y'_4 y'_6 (4 : Int) else
  zcw g' y' y'_1 y'_4 y'_6 y'_3
def ziI (g' : Tp7) (text : (List UInt8)) : Option (Bool) :=
  (zl5 (g'.1, (g'.2.1, (g'.2.2.1, ()))) text).bind (fun y'_11 =>
  (zoU (g'.1, (g'.2.1, (g'.2.2.1, ())))).bind (fun y'_3 =>
  (zmF text).bind (fun y'_10 =>
  if (decide (y'_3 = (0 : Int))) = true then
  zcv g' y'_11.1 y'_11.2 y'_3 y'_10.1 y'_10.2.2 (decide (¬ y'_10.2.1.1 = (0 : Int))) else
  zcv g' y'_11.1 y'_11.2 y'_3 y'_10.1 y'_10.2.2 false)))

end
end Go.Proofs.Ythgegjfmniafiaa.branchHoldsW
