/- The law 'BranchHolds' of the plain functions. -/
import Derived.Test.YthgegjfmniafiaaBranchHoldsD
set_option maxHeartbeats 1000000
set_option maxRecDepth 20000
set_option linter.unusedSimpArgs false
set_option linter.unusedVariables false
set_option linter.unusedSectionVars false
namespace Go.Proofs.Ythgegjfmniafiaa.branchHoldsW
open Go Go.Ab
abbrev ND := Int × Bool × Int × Unit
abbrev L5 := List (Int × Bool × Int × Int × Int × Unit)
def nowT (c : List UInt8) (i : Int) : Int := if i < c.length then bAt c i else 0
theorem zmu {c : List UInt8} {i : Int} (h : nowT c i ≠ 0) : i < c.length := by
 unfold nowT at h
 by_cases h1 : i < c.length
 ·exact h1
 ·rw [if_neg h1] at h; exact absurd rfl h
section
variable {c : List UInt8} {i n s f a : Int} {l : L5}
theorem zx8 (h0 : 0 <= i) : zbL (c, (i, (s, (n, ())))) = some (nowT c i) := by
 unfold zbL nowT
 by_cases h : i < (c.length : Int)
 ·rw [if_pos (by simp [h]), zai ⟨h0, h⟩, if_pos h]
 ·simp [h]
theorem zsF {k : Int} : zbs (c, (i, (s, (n, ())))) k = some (.inr (k, i)) := rfl
theorem ztQ (h0 : 0 <= i) : zcQ (c, (i, (s, (n, (l, ((f, (a, ())), ())))))) = some (nowT c i) := by
 unfold zcQ nowT
 by_cases h : (c.length : Int) <= i
 ·have : ¬ i < (c.length : Int) := by omega
  simp [h, this]
 ·have h2 : i < c.length := by omega
  simp only [h, decide_false, Bool.false_eq_true, if_false, if_pos h2]
  exact zai ⟨h0, h2⟩
theorem r_ok : zgG (c, (i, (s, (n, (l, ((f, (a, ())), ())))))) = some (decide (f = 0)) := rfl
theorem znO {k : Int} : zb0 k c i s n f a l = if f = 0 then some (c, i, s, n, l, k, i) else some (c, i, s, n, l, f, a) := by
 unfold zb0
 by_cases h : f = 0 <;> simp [h]
theorem zmw (h0 : 0 <= i) (h1 : i <= c.length) (hc : c.length <= 4000) (hn : 0 <= n /\ n <= 30) :
  zaE c i s n = if 30 < n + 1 then some (.inr (7, i)) else some (.inl (c, i + 1, s, n + 1)) := by
 unfold zaE
 rw [zai (zaL (by omega) (by omega))]
 by_cases h : (30 : Int) < n + 1
 ·simp [h, zsF, zaY]
 ·simp only [h, decide_false, Bool.false_eq_true, if_false]
  exact zai (zaL (by omega) (by omega))
theorem zmP (h0 : 0 <= i) (h1 : i <= c.length) (hc : c.length <= 4000) (hn : 0 <= n /\ n <= 30) :
  za2 c i s n 0 0 l = if 30 < n + 1 then some (c, i + 1, s, n + 1, l, 7, i) else some (c, i + 1, s, n + 1, l, 0, 0) := by
 have f3 : fits (i + 1) := zaL (by omega) (by omega)
 unfold za2
 rw [zai (zaL (by omega) (by omega))]
 by_cases h : (30 : Int) < n + 1
 ·simp [h, znO, zai f3]
 ·simp [h, zai f3]
theorem zkf (h : l.length <= 1000) {k v x y : Int} {b : Bool} : zbC (k, (b, (v, (x, (y, ()))))) c i s n f a l = some ((l.length : Int), c, i, s, n, l ++ [(k, b, v, x, y, ())], f, a) := by
 unfold zbC
 have e : (((l ++ [(k, (b, (v, (x, (y, ())))))]).length : Int) - 1) = (l.length : Int) := by simp
 rw [zai (zvC (by simp; omega))]
 simp only [e]
 rw [zai (zaL (by omega) (by omega))]
theorem zzg (h0 : 0 <= i /\ i <= 5000) (hs : 0 <= s /\ s <= 40) : zc7 c i s n = if s = 40 then some (.inr (7, i)) else some (.inl (c, i + 1, s + 1, n)) := by
 unfold zc7
 by_cases h : s = 40
 ·simp [h, zsF, zaY]
 ·simp only [h, decide_false, Bool.false_eq_true, if_false]
  rw [zai (zaL (by omega) (by omega)), zai (zaL (by omega) (by omega))]
theorem zzj (h0 : 0 <= i /\ i <= 5000) (hs : 0 <= s /\ s <= 40) : zcT c i s n 0 0 l = if s = 40 then some (c, i + 1, s + 1, n, l, 7, i) else some (c, i + 1, s + 1, n, l, 0, 0) := by
 have f1 : fits (s + 1) := zaL (by omega) (by omega)
 have f2 : fits (i + 1) := zaL (by omega) (by omega)
 unfold zcT
 by_cases h : s = 40
 ·have f4 : fits (41 : Int) := zaL (by omega) (by omega)
  subst h; simp [znO, zai f4, zai f2]
 ·simp [h, zai f1, zai f2]
theorem zzi {k : Int} (h0 : 0 <= i /\ i <= 5000) : zc9 k c i s n = if nowT c i = k then some (.inl (c, i + 1, s, n)) else some (.inr (4, i)) := by
 have f2 : fits (i + 1) := zaL (by omega) (by omega)
 unfold zc9
 rw [zx8 h0.1]
 by_cases h : nowT c i = k
 ·simp [h, zai f2]
 ·simp [h, zsF, zaY]
theorem zyd {k : Int} (h0 : 0 <= i /\ i <= 5000) : zco k c i s n 0 0 l = if nowT c i = k then some (c, i + 1, s, n, l, 0, 0) else some (c, i + 1, s, n, l, 4, i) := by
 have f2 : fits (i + 1) := zaL (by omega) (by omega)
 unfold zco
 rw [ztQ h0.1]
 by_cases h : nowT c i = k
 ·simp [h, zai f2]
 ·simp [h, znO, zai f2]
theorem znA {k : Int} (hf : f ≠ 0) (h0 : 0 <= i /\ i <= 5000) : zco k c i s n f a l = some (c, i + 1, s, n, l, f, a) := by
 have f2 : fits (i + 1) := zaL (by omega) (by omega)
 unfold zco
 rw [ztQ h0.1]
 by_cases h : nowT c i = k
 ·simp [h, zai f2]
 ·simp [h, znO, hf, zai f2]
theorem zvY (hf : f ≠ 0) : zas c i s n f a l = some (0, c, i, s, n, l, f, a) := by
 rw [zjO]
 unfold zcg
 rw [r_ok]
 simp [hf]
theorem ztq (hf : f ≠ 0) (h0 : 0 <= i) (x : Int) : zbu zas x c i s n f a l = some (x, c, i, s, n, l, f, a) := by
 rw [zhR]
 unfold zbq
 rw [ztQ h0]
 simp only [Option.bind_some]
 rw [r_ok]
 simp [hf]
theorem zza (hf : f ≠ 0) (h0 : 0 <= i) : zbD zas c i s n f a l = some (0, c, i, s, n, l, f, a) := by
 unfold zbD
 rw [zvY hf]
 simp only [Option.bind_some]
 exact ztq hf h0 0
theorem zqU (hf : f ≠ 0) (h0 : 0 <= i) (x : Int) : zbj zas x c i s n f a l = some (x, c, i, s, n, l, f, a) := by
 rw [zhg]
 unfold zbk
 rw [ztQ h0]
 simp only [Option.bind_some]
 rw [r_ok]
 simp [hf]
theorem zn3 (hf : f ≠ 0) (h0 : 0 <= i) : za1 zas c i s n f a l = some (0, c, i, s, n, l, f, a) := by
 unfold za1
 rw [zza hf h0]
 simp only [Option.bind_some]
 exact zqU hf h0 0
end
def vT (x : Int × Bool × Int × Int × Int × Unit) : ND := (x.1, x.2.1, x.2.2.1, ())
def xA (x : Int × Bool × Int × Int × Int × Unit) : Int := x.2.2.2.1
def xB (x : Int × Bool × Int × Int × Int × Unit) : Int := x.2.2.2.2.1
inductive Stn (l : L5) : Tr ND -> Int -> Prop
 | leaf (k : Int) (h0 : 0 <= k) (h1 : k < l.length) (hs : (ix l k).1 = 48 \/ (ix l k).1 = 49 \/ (ix l k).1 = 97) : Stn l (Tr.mk (vT (ix l k)) []) k
 | one (k : Int) (a : Tr ND) (h0 : 0 <= k) (h1 : k < l.length) (hs : (ix l k).1 = 33 \/ (ix l k).1 = 88 \/ (ix l k).1 = 70 \/ (ix l k).1 = 71) (ha : Stn l a (xA (ix l k))) : Stn l (Tr.mk (vT (ix l k)) [a]) k
 | two (k : Int) (a b : Tr ND) (h0 : 0 <= k) (h1 : k < l.length) (hs : (ix l k).1 = 38 \/ (ix l k).1 = 124 \/ (ix l k).1 = 85) (ha : Stn l a (xA (ix l k))) (hb : Stn l b (xB (ix l k))) : Stn l (Tr.mk (vT (ix l k)) [a, b]) k
theorem Stn.mono {l m : L5} {t : Tr ND} {k : Int} (h : Stn l t k) : Stn (l ++ m) t k := by
 induction h with
 | leaf k h0 h1 hs =>
  have e : ix (l ++ m) k = ix l k := zkd h0 h1
  rw [<- e] at hs ⊢
  exact .leaf k h0 (by simp; omega) hs
 | one k a h0 h1 hs ha iha =>
  have e : ix (l ++ m) k = ix l k := zkd h0 h1
  rw [<- e] at hs iha ⊢
  exact .one k a h0 (by simp; omega) hs iha
 | two k a b h0 h1 hs ha hb iha ihb =>
  have e : ix (l ++ m) k = ix l k := zkd h0 h1
  rw [<- e] at hs iha ihb ⊢
  exact .two k a b h0 (by simp; omega) hs iha ihb
abbrev NR := Int × Bool × Int × Int × Int × Unit
theorem Stn.put_leaf {l : L5} {x : NR} (hs : x.1 = 48 \/ x.1 = 49 \/ x.1 = 97) : Stn (l ++ [x]) (Tr.mk (vT x) []) l.length := by
 have e : ix (l ++ [x]) (l.length : Int) = x := zkc
 have := Stn.leaf (l := l ++ [x]) l.length (by omega) (by simp; omega) (by rw [e]; exact hs)
 rw [e] at this; exact this
theorem Stn.put_one {l : L5} {x : NR} {a : Tr ND} (hs : x.1 = 33 \/ x.1 = 88 \/ x.1 = 70 \/ x.1 = 71) (ha : Stn l a (xA x)) : Stn (l ++ [x]) (Tr.mk (vT x) [a]) l.length := by
 have e : ix (l ++ [x]) (l.length : Int) = x := zkc
 have := Stn.one (l := l ++ [x]) l.length a (by omega) (by simp; omega) (by rw [e]; exact hs) (by rw [e]; exact ha.mono)
 rw [e] at this; exact this
theorem Stn.put_two {l : L5} {x : NR} {a b : Tr ND} (hs : x.1 = 38 \/ x.1 = 124 \/ x.1 = 85) (ha : Stn l a (xA x)) (hb : Stn l b (xB x)) : Stn (l ++ [x]) (Tr.mk (vT x) [a, b]) l.length := by
 have e : ix (l ++ [x]) (l.length : Int) = x := zkc
 have := Stn.two (l := l ++ [x]) l.length a b (by omega) (by simp; omega) (by rw [e]; exact hs) (by rw [e]; exact ha.mono) (by rw [e]; exact hb.mono)
 rw [e] at this; exact this
def Ext (l l' : L5) : Prop := ∃ m, l' = l ++ m
theorem Ext.refl (l : L5) : Ext l l := ⟨[], by simp⟩
theorem Ext.trans {l l' l2 : L5} (h : Ext l l') (h2 : Ext l' l2) : Ext l l2 := by
 obtain ⟨m, rfl⟩ := h; obtain ⟨m', rfl⟩ := h2; exact ⟨m ++ m', by simp⟩
theorem Ext.snoc (l : L5) (x : NR) : Ext l (l ++ [x]) := ⟨[x], rfl⟩
theorem Ext.put {l l' : L5} (h : Ext l l') (x : NR) : Ext l (l' ++ [x]) := h.trans (Ext.snoc l' x)
theorem Ext.stn {l l' : L5} (h : Ext l l') {t : Tr ND} {k : Int} (h2 : Stn l t k) : Stn l' t k := by
 obtain ⟨m, rfl⟩ := h; exact h2.mono
structure Pre (c : List UInt8) (i n s : Int) (l : L5) : Prop where
 i0 : 0 <= i
 i1 : i <= c.length
 c1 : c.length <= 4000
 n0 : 0 <= n
 n1 : n <= 30
 s0 : 0 <= s
 s1 : s <= 40
 l1 : (l.length : Int) <= n
def Sm (c : List UInt8) (i n s : Int) (l : L5) (o : Option ((Tr ND × List UInt8 × Int × Int × Int) ⊕ (Int × Int))) (r : Option (Int × List UInt8 × Int × Int × Int × L5 × Int × Int)) : Prop :=
 (∃ a b i' n' l', o = some (.inl (a, c, i', s, n')) /\ r = some (b, c, i', s, n', l', 0, 0) /\ i <= i' /\ i' <= c.length /\ n <= n' /\ n' <= 30 /\ (l'.length : Int) + n <= l.length + n' /\ Ext l l' /\ Stn l' a b)
 \/ (∃ cd pl b i' n' l', o = some (.inr (cd, pl)) /\ r = some (b, c, i', s, n', l', cd, pl) /\ cd ≠ 0 /\ 0 <= i' /\ i' <= c.length + 4 * (41 - s) /\ n' <= 31 /\ (l'.length : Int) + n <= l.length + n')
def Part (c : List UInt8) (m : Nat) : Prop := ∀ i n s l, Pre c i n s l -> ((c.length : Int) - i).toNat <= m -> Sm c i n s l (zay c i s n) (zas c i s n 0 0 l)
def Term (c : List UInt8) (m : Nat) : Prop := ∀ i n s l, Pre c i n s l -> ((c.length : Int) - i).toNat <= m -> Sm c i n s l (zbt zay c i s n) (zbD zas c i s n 0 0 l)
def zw1 (c : List UInt8) (m : Nat) : Prop := ∀ i n s l, Pre c i n s l -> ((c.length : Int) - i).toNat <= m -> Sm c i n s l (zaU zay c i s n) (za1 zas c i s n 0 0 l)
theorem zyn {c : List UInt8} : ∀ m : Nat, (∀ m' < m, Part c m') -> ∀ a b i n s l, Pre c i n s l -> Stn l a b -> ((c.length : Int) - i).toNat <= m ->
  Sm c i n s l (zbi zay a c i s n) (zbu zas b c i s n 0 0 l) := by
 intro m
 induction m using Nat.strongRecOn with
 | ind m ih =>
  intro hP a b i n s l hp hab hm
  obtain ⟨i0, i1, c1, n0, n1, s0, s1, q1⟩ := hp
  rw [zkn, zhR]
  unfold zbl zbq
  rw [zx8 i0, ztQ i0]
  simp only [Option.bind_some]
  rw [r_ok]
  by_cases hb : nowT c i = 38
  ·have hlt : i < c.length := zmu (by rw [hb]; decide)
   simp only [hb, Option.bind_some, decide_true, not_true_eq_false, decide_false, Bool.not_true, Bool.false_eq_true, if_true, if_false]
   rw [zmw i0 i1 c1 ⟨n0, n1⟩, zmP i0 i1 c1 ⟨n0, n1⟩]
   by_cases hbad : 30 < n + 1
   ·simp only [hbad, if_true, zaY, Option.bind_some]
    rw [zvY (by decide)]
    simp only [Option.bind_some]
    rw [zkf (by omega)]
    simp only [Option.bind_some]
    rw [ztq (by decide) (by omega)]
    exact .inr ⟨7, i, _, _, _, _, rfl, rfl, by decide, by omega, by omega, by omega, by (first | omega | (simp only [List.length_append, List.length_cons, List.length_nil] at *; omega) | (simp; done) | (simp; omega))⟩
   ·simp only [hbad, if_false, zbp, Option.bind_some]
    rcases hP (((c.length : Int) - (i + 1)).toNat) (by omega) (i + 1) (n + 1) s l ⟨by omega, by omega, c1, by omega, by omega, s0, s1, by omega⟩ (Nat.le_refl _) with
     ⟨a1, b1, i', n', l', e1, e2, g1, g2, g3, g4, g5, g6, g7⟩ | ⟨cd, pl, b1, i', n', l', e1, e2, g1, g2, g3, g4, g5⟩
    ·simp only [e1, e2, zbp, Option.bind_some]
     rw [zkf (by omega)]
     simp only [Option.bind_some]
     rcases ih (((c.length : Int) - i').toNat) (by omega) (fun m' hm' => hP m' (by omega)) (Tr.mk (38, (false, (0, ()))) [a, a1]) (l'.length : Int) i' n' s (l' ++ [(38, false, 0, b, b1, ())])
      ⟨by omega, g2, c1, by omega, g4, s0, s1, by (first | omega | (simp only [List.length_append, List.length_cons, List.length_nil] at *; omega) | (simp; done) | (simp; omega))⟩ (Stn.put_two (x := (38, false, 0, b, b1, ())) (.inl rfl) (g6.stn hab) g7) (Nat.le_refl _) with
      ⟨a2, b2, i2, n2, l3, w1, w2, w3, w4, w5, w6, w7, w8, w9⟩ | ⟨cd, pl, b2, i2, n2, l3, w1, w2, w3, w4, w5, w6, w7⟩
     ·exact .inl ⟨a2, b2, i2, n2, l3, w1, w2, by omega, w4, by omega, w6, by (first | omega | (simp only [List.length_append, List.length_cons, List.length_nil] at *; omega) | (simp; done) | (simp; omega)), Ext.trans (g6.put _) w8, w9⟩
     ·exact .inr ⟨cd, pl, b2, i2, n2, l3, w1, w2, w3, w4, w5, w6, by (first | omega | (simp only [List.length_append, List.length_cons, List.length_nil] at *; omega) | (simp; done) | (simp; omega))⟩
    ·simp only [e1, e2, zaY, Option.bind_some]
     rw [zkf (by omega)]
     simp only [Option.bind_some]
     rw [ztq g1 g2]
     exact .inr ⟨cd, pl, _, _, _, _, rfl, rfl, g1, g2, g3, g4, by (first | omega | (simp only [List.length_append, List.length_cons, List.length_nil] at *; omega) | (simp; done) | (simp; omega))⟩
  ·simp only [hb, Option.bind_some, decide_true, not_false_eq_true, decide_false, Bool.not_true, Bool.false_eq_true, if_true, if_false]
   exact .inl ⟨a, b, i, n, l, rfl, rfl, by omega, i1, by omega, n1, by omega, Ext.refl _, hab⟩
theorem zAA {c : List UInt8} {m : Nat} (hP : ∀ m' ≤ m, Part c m') : Term c m := by
 intro i n s l hp hm
 have hp' := hp
 obtain ⟨i0, i1, c1, n0, n1, s0, s1, q1⟩ := hp
 unfold zbt zbD
 rcases hP m (Nat.le_refl _) i n s l hp' hm with
  ⟨a1, b1, i', n', l', e1, e2, g1, g2, g3, g4, g5, g6, g7⟩ | ⟨cd, pl, b1, i', n', l', e1, e2, g1, g2, g3, g4, g5⟩
 ·simp only [e1, e2, zbp, Option.bind_some]
  rcases zyn m (fun m' hm' => hP m' (by omega)) a1 b1 i' n' s l' ⟨by omega, g2, c1, by omega, g4, s0, s1, by omega⟩ g7 (by omega) with
   ⟨a2, b2, i2, n2, l3, w1, w2, w3, w4, w5, w6, w7, w8, w9⟩ | ⟨cd, pl, b2, i2, n2, l3, w1, w2, w3, w4, w5, w6, w7⟩
  ·exact .inl ⟨a2, b2, i2, n2, l3, w1, w2, by omega, w4, by omega, w6, by omega, g6.trans w8, w9⟩
  ·exact .inr ⟨cd, pl, b2, i2, n2, l3, w1, w2, w3, w4, w5, w6, by omega⟩
 ·simp only [e1, e2, zaY, Option.bind_some]
  rw [ztq g1 g2]
  exact .inr ⟨cd, pl, _, _, _, _, rfl, rfl, g1, g2, g3, g4, g5⟩
theorem zwW {c : List UInt8} : ∀ m : Nat, (∀ m' < m, Term c m') -> ∀ a b i n s l, Pre c i n s l -> Stn l a b -> ((c.length : Int) - i).toNat <= m ->
  Sm c i n s l (za7 zay a c i s n) (zbj zas b c i s n 0 0 l) := by
 intro m
 induction m using Nat.strongRecOn with
 | ind m ih =>
  intro hP a b i n s l hp hab hm
  obtain ⟨i0, i1, c1, n0, n1, s0, s1, q1⟩ := hp
  rw [zj2, zhg]
  unfold zbd zbk
  rw [zx8 i0, ztQ i0]
  simp only [Option.bind_some]
  rw [r_ok]
  by_cases hb : nowT c i = 124
  ·have hlt : i < c.length := zmu (by rw [hb]; decide)
   simp only [hb, Option.bind_some, decide_true, not_true_eq_false, decide_false, Bool.not_true, Bool.false_eq_true, if_true, if_false]
   rw [zmw i0 i1 c1 ⟨n0, n1⟩, zmP i0 i1 c1 ⟨n0, n1⟩]
   by_cases hbad : 30 < n + 1
   ·simp only [hbad, if_true, zaY, Option.bind_some]
    rw [zza (by decide) (by omega)]
    simp only [Option.bind_some]
    rw [zkf (by omega)]
    simp only [Option.bind_some]
    rw [zqU (by decide) (by omega)]
    exact .inr ⟨7, i, _, _, _, _, rfl, rfl, by decide, by omega, by omega, by omega, by (first | omega | (simp only [List.length_append, List.length_cons, List.length_nil] at *; omega) | (simp; done) | (simp; omega))⟩
   ·simp only [hbad, if_false, zbp, Option.bind_some]
    rcases hP (((c.length : Int) - (i + 1)).toNat) (by omega) (i + 1) (n + 1) s l ⟨by omega, by omega, c1, by omega, by omega, s0, s1, by omega⟩ (Nat.le_refl _) with
     ⟨a1, b1, i', n', l', e1, e2, g1, g2, g3, g4, g5, g6, g7⟩ | ⟨cd, pl, b1, i', n', l', e1, e2, g1, g2, g3, g4, g5⟩
    ·simp only [e1, e2, zbp, Option.bind_some]
     rw [zkf (by omega)]
     simp only [Option.bind_some]
     rcases ih (((c.length : Int) - i').toNat) (by omega) (fun m' hm' => hP m' (by omega)) (Tr.mk (124, (false, (0, ()))) [a, a1]) (l'.length : Int) i' n' s (l' ++ [(124, false, 0, b, b1, ())])
      ⟨by omega, g2, c1, by omega, g4, s0, s1, by (first | omega | (simp only [List.length_append, List.length_cons, List.length_nil] at *; omega) | (simp; done) | (simp; omega))⟩ (Stn.put_two (x := (124, false, 0, b, b1, ())) (.inr (.inl rfl)) (g6.stn hab) g7) (Nat.le_refl _) with
      ⟨a2, b2, i2, n2, l3, w1, w2, w3, w4, w5, w6, w7, w8, w9⟩ | ⟨cd, pl, b2, i2, n2, l3, w1, w2, w3, w4, w5, w6, w7⟩
     ·exact .inl ⟨a2, b2, i2, n2, l3, w1, w2, by omega, w4, by omega, w6, by (first | omega | (simp only [List.length_append, List.length_cons, List.length_nil] at *; omega) | (simp; done) | (simp; omega)), Ext.trans (g6.put _) w8, w9⟩
     ·exact .inr ⟨cd, pl, b2, i2, n2, l3, w1, w2, w3, w4, w5, w6, by (first | omega | (simp only [List.length_append, List.length_cons, List.length_nil] at *; omega) | (simp; done) | (simp; omega))⟩
    ·simp only [e1, e2, zaY, Option.bind_some]
     rw [zkf (by omega)]
     simp only [Option.bind_some]
     rw [zqU g1 g2]
     exact .inr ⟨cd, pl, _, _, _, _, rfl, rfl, g1, g2, g3, g4, by (first | omega | (simp only [List.length_append, List.length_cons, List.length_nil] at *; omega) | (simp; done) | (simp; omega))⟩
  ·simp only [hb, Option.bind_some, decide_true, not_false_eq_true, decide_false, Bool.not_true, Bool.false_eq_true, if_true, if_false]
   exact .inl ⟨a, b, i, n, l, rfl, rfl, by omega, i1, by omega, n1, by omega, Ext.refl _, hab⟩
theorem zy1 {c : List UInt8} {m : Nat} (hP : ∀ m' ≤ m, Term c m') : zw1 c m := by
 intro i n s l hp hm
 have hp' := hp
 obtain ⟨i0, i1, c1, n0, n1, s0, s1, q1⟩ := hp
 unfold zaU za1
 rcases hP m (Nat.le_refl _) i n s l hp' hm with
  ⟨a1, b1, i', n', l', e1, e2, g1, g2, g3, g4, g5, g6, g7⟩ | ⟨cd, pl, b1, i', n', l', e1, e2, g1, g2, g3, g4, g5⟩
 ·simp only [e1, e2, zbp, Option.bind_some]
  rcases zwW m (fun m' hm' => hP m' (by omega)) a1 b1 i' n' s l' ⟨by omega, g2, c1, by omega, g4, s0, s1, by omega⟩ g7 (by omega) with
   ⟨a2, b2, i2, n2, l3, w1, w2, w3, w4, w5, w6, w7, w8, w9⟩ | ⟨cd, pl, b2, i2, n2, l3, w1, w2, w3, w4, w5, w6, w7⟩
  ·exact .inl ⟨a2, b2, i2, n2, l3, w1, w2, by omega, w4, by omega, w6, by omega, g6.trans w8, w9⟩
  ·exact .inr ⟨cd, pl, b2, i2, n2, l3, w1, w2, w3, w4, w5, w6, by omega⟩
 ·simp only [e1, e2, zaY, Option.bind_some]
  rw [zqU g1 g2]
  exact .inr ⟨cd, pl, _, _, _, _, rfl, rfl, g1, g2, g3, g4, g5⟩
theorem zAR {c : List UInt8} {i n s f a : Int} {l : L5} (hf : f ≠ 0) (h0 : 0 <= i /\ i <= 5000) (hs : 0 <= s /\ s <= 40) : zcT c i s n f a l = some (c, i + 1, s + 1, n, l, f, a) := by
 have f1 : fits (s + 1) := zaL (by omega) (by omega)
 have f2 : fits (i + 1) := zaL (by omega) (by omega)
 have f4 : fits (41 : Int) := zaL (by omega) (by omega)
 unfold zcT
 by_cases h : s = 40
 ·subst h; simp [znO, hf, zai f4, zai f2]
 ·simp [h, zai f1, zai f2]
theorem zzI {c : List UInt8} {i n s f a ch : Int} {l : L5} {al t : Bool} (hf : f ≠ 0) (h0 : 0 <= i /\ i <= 4900) (hs : 0 <= s /\ s <= 40) (hl : l.length <= 900) :
  ∃ b i' l', zaH zas al c i s n l f a ch t = some (b, c, i', s, n, l', f, a) /\ i <= i' /\ i' <= i + 3 /\ l'.length <= l.length + 1 := by
 unfold zaH
 cases t with
 | true =>
  simp only [if_true]
  rw [zai (zaL (by omega) (by omega)), zvY hf]
  simp only [Option.bind_some]
  rw [zkf (by omega)]
  simp only [Option.bind_some]
  exact ⟨_, _, _, rfl, by omega, by omega, by simp⟩
 | false =>
  by_cases h : ch = 40
  ·simp only [h, Bool.false_eq_true, if_false, not_true_eq_false, decide_false]
   rw [zAR hf (by omega) hs]
   simp only [Option.bind_some]
   rw [zn3 hf (by omega)]
   simp only [Option.bind_some]
   rw [znA hf (by omega)]
   simp only [Option.bind_some]
   rw [zn3 hf (by omega)]
   simp only [Option.bind_some]
   rw [znA hf (by omega)]
   simp only [Option.bind_some]
   rw [zai (zaL (by omega) (by omega)), zkf (by omega)]
   have es : s + 1 - 1 = s := by omega
   simp only [es, Option.bind_some]
   exact ⟨_, _, _, rfl, by omega, by omega, by simp⟩
  ·simp only [h, Bool.false_eq_true, if_false, not_false_eq_true, decide_true, if_true]
   rw [znO, if_neg hf]
   exact ⟨_, _, _, rfl, by simp, by simp; omega, by simp⟩
theorem zzh {c : List UInt8} {i n s : Int} (h0 : 0 <= i /\ i <= 5000) (hs : 0 <= s /\ s <= 40) : zc8 c i (s + 1) n = if nowT c i = 41 then some (.inl (c, i + 1, s, n)) else some (.inr (4, i)) := by
 unfold zc8
 rw [zzi h0]
 have es : s + 1 - 1 = s := by omega
 have fs : fits s := zaL (by omega) (by omega)
 by_cases h : nowT c i = 41
 ·simp only [h, if_true, zbp, es]; exact zai fs
 ·simp only [h, if_false, zaY]
theorem waysJ {c : List UInt8} {m : Nat} (hP : ∀ m' < m, Part c m') (hW : ∀ m' < m, zw1 c m') {al t : Bool} {i n s : Int} {l : L5} (hn : 0 <= n) (hp : Pre c i (n + 1) s l) (hl : (l.length : Int) <= n) (hm : ((c.length : Int) - i).toNat < m) (ht : t = true -> nowT c i = 88 \/ nowT c i = 70 \/ nowT c i = 71) :
  Sm c i n s l (zaR zay al c i s (n + 1) (nowT c i) t) (zaH zas al c i s (n + 1) l 0 0 (nowT c i) t) := by
 obtain ⟨i0, i1, c1, n0, n1, s0, s1, q1⟩ := hp
 unfold zaR zaH
 have es : s + 1 - 1 = s := by omega
 have fs : fits s := zaL (by omega) (by omega)
 cases t with
 | true =>
  have hlt : i < c.length := zmu (by have := ht rfl; omega)
  have fi : fits (i + 1) := zaL (by omega) (by omega)
  simp only [if_true, zai fi]
  rcases hP (((c.length : Int) - (i + 1)).toNat) (by omega) (i + 1) (n + 1) s l ⟨by omega, by omega, c1, by omega, by omega, s0, s1, by omega⟩ (Nat.le_refl _) with
   ⟨a1, b1, i', n', l', e1, e2, g1, g2, g3, g4, g5, g6, g7⟩ | ⟨cd, pl, b1, i', n', l', e1, e2, g1, g2, g3, g4, g5⟩
  ·simp only [e1, e2, zbp, Option.bind_some]
   rw [zkf (by omega)]
   simp only [Option.bind_some]
   exact .inl ⟨_, _, _, _, _, rfl, rfl, by omega, g2, by omega, g4, by (first | omega | (simp only [List.length_append, List.length_cons, List.length_nil] at *; omega) | (simp; done) | (simp; omega)), g6.put _, Stn.put_one (x := (nowT c i, al, 0, b1, 0, ())) (.inr (ht rfl)) g7⟩
  ·simp only [e1, e2, zaY, Option.bind_some]
   rw [zkf (by omega)]
   simp only [Option.bind_some]
   exact .inr ⟨cd, pl, _, _, _, _, rfl, rfl, g1, g2, g3, g4, by (first | omega | (simp only [List.length_append, List.length_cons, List.length_nil] at *; omega) | (simp; done) | (simp; omega))⟩
 | false =>
  by_cases h40 : nowT c i = 40
  ·have hlt : i < c.length := zmu (by rw [h40]; decide)
   simp only [h40, Bool.false_eq_true, if_false, decide_true, if_true, not_true_eq_false, decide_false]
   rw [zzg (by omega) ⟨s0, s1⟩, zzj (by omega) ⟨s0, s1⟩]
   by_cases hs : s = 40
   ·simp only [hs, if_true, zaY, Option.bind_some]
    rw [zn3 (by decide) (by omega)]
    simp only [Option.bind_some]
    rw [znA (by decide) (by omega)]
    simp only [Option.bind_some]
    rw [zn3 (by decide) (by omega)]
    simp only [Option.bind_some]
    rw [znA (by decide) (by omega)]
    simp only [Option.bind_some]
    rw [zai (zaL (by omega) (by omega)), zkf (by omega)]
    simp only [Option.bind_some]
    exact .inr ⟨7, i, _, _, _, _, rfl, rfl, by decide, by omega, by omega, by omega, by (first | omega | (simp only [List.length_append, List.length_cons, List.length_nil] at *; omega) | (simp; done) | (simp; omega))⟩
   ·simp only [hs, if_false, zbp, Option.bind_some]
    rcases hW (((c.length : Int) - (i + 1)).toNat) (by omega) (i + 1) (n + 1) (s + 1) l ⟨by omega, by omega, c1, by omega, by omega, by omega, by omega, by omega⟩ (Nat.le_refl _) with
     ⟨a1, b1, i', n', l', e1, e2, g1, g2, g3, g4, g5, g6, g7⟩ | ⟨cd, pl, b1, i', n', l', e1, e2, g1, g2, g3, g4, g5⟩
    ·simp only [e1, e2, zbp, Option.bind_some]
     rw [zzi (by omega), zyd (by omega)]
     by_cases h85 : nowT c i' = 85
     ·have hlt2 : i' < c.length := zmu (by rw [h85]; decide)
      simp only [h85, if_true, zbp, Option.bind_some]
      rcases hW (((c.length : Int) - (i' + 1)).toNat) (by omega) (i' + 1) n' (s + 1) l' ⟨by omega, by omega, c1, by omega, by omega, by omega, by omega, by omega⟩ (Nat.le_refl _) with
       ⟨a2, b2, i2, n2, l2, w1, w2, v1, v2, v3, v4, v5, v6, v7⟩ | ⟨cd, pl, b2, i2, n2, l2, w1, w2, v1, v2, v3, v4, v5⟩
      ·simp only [w1, w2, zbp, Option.bind_some]
       rw [zzh (by omega) ⟨s0, s1⟩, zyd (by omega)]
       by_cases h41 : nowT c i2 = 41
       ·have hlt3 : i2 < c.length := zmu (by rw [h41]; decide)
        simp only [h41, if_true, zbp, Option.bind_some, es, zai fs]
        rw [zkf (by omega)]
        simp only [Option.bind_some]
        exact .inl ⟨_, _, _, _, _, rfl, rfl, by omega, by omega, by omega, v4, by (first | omega | (simp only [List.length_append, List.length_cons, List.length_nil] at *; omega) | (simp; done) | (simp; omega)), (g6.trans v6).put _, Stn.put_two (x := (85, al, 0, b1, b2, ())) (.inr (.inr rfl)) (v6.stn g7) v7⟩
       ·simp only [h41, if_false, zaY, Option.bind_some, es, zai fs]
        rw [zkf (by omega)]
        simp only [Option.bind_some]
        exact .inr ⟨4, i2, _, _, _, _, rfl, rfl, by decide, by omega, by omega, by omega, by (first | omega | (simp only [List.length_append, List.length_cons, List.length_nil] at *; omega) | (simp; done) | (simp; omega))⟩
      ·simp only [w1, w2, zaY, Option.bind_some]
       rw [znA v1 (by omega)]
       simp only [Option.bind_some, es, zai fs]
       rw [zkf (by omega)]
       simp only [Option.bind_some]
       exact .inr ⟨cd, pl, _, _, _, _, rfl, rfl, v1, by omega, by omega, v4, by (first | omega | (simp only [List.length_append, List.length_cons, List.length_nil] at *; omega) | (simp; done) | (simp; omega))⟩
     ·simp only [h85, if_false, zaY, Option.bind_some]
      rw [zn3 (by decide) (by omega)]
      simp only [Option.bind_some]
      rw [znA (by decide) (by omega)]
      simp only [Option.bind_some, es, zai fs]
      rw [zkf (by omega)]
      simp only [Option.bind_some]
      exact .inr ⟨4, i', _, _, _, _, rfl, rfl, by decide, by omega, by omega, by omega, by (first | omega | (simp only [List.length_append, List.length_cons, List.length_nil] at *; omega) | (simp; done) | (simp; omega))⟩
    ·simp only [e1, e2, zaY, Option.bind_some]
     rw [znA g1 (by omega)]
     simp only [Option.bind_some]
     rw [zn3 g1 (by omega)]
     simp only [Option.bind_some]
     rw [znA g1 (by omega)]
     simp only [Option.bind_some, es, zai fs]
     rw [zkf (by omega)]
     simp only [Option.bind_some]
     exact .inr ⟨cd, pl, _, _, _, _, rfl, rfl, g1, by omega, by omega, g4, by (first | omega | (simp only [List.length_append, List.length_cons, List.length_nil] at *; omega) | (simp; done) | (simp; omega))⟩
  ·simp only [h40, Bool.false_eq_true, if_false, not_false_eq_true, decide_true, decide_false, if_true, zsF, zaY, znO, Option.bind_some]
   exact .inr ⟨4, i, _, _, _, _, rfl, rfl, by decide, by omega, by omega, by omega, by omega⟩
theorem zAE {c : List UInt8} {m : Nat} (hP : ∀ m' < m, Part c m') (hW : ∀ m' < m, zw1 c m') {al : Bool} {i n s : Int} {l : L5} (hp : Pre c i n s l) (hlt : i < c.length) (hm : ((c.length : Int) - i).toNat <= m) :
  Sm c i n s l (zbP zay al c i s n) (zcU zas al c i s n 0 0 l) := by
 obtain ⟨i0, i1, c1, n0, n1, s0, s1, q1⟩ := hp
 unfold zbP zcU
 rw [zmw i0 i1 c1 ⟨n0, n1⟩, zmP i0 i1 c1 ⟨n0, n1⟩]
 by_cases hbad : 30 < n + 1
 ·simp only [hbad, if_true, zaY, Option.bind_some]
  rw [ztQ (by omega)]
  simp only [Option.bind_some]
  have key : ∀ t, Sm c i n s l (some (.inr (7, i))) (zaH zas al c (i + 1) s (n + 1) l 7 i (nowT c (i + 1)) t) := by
   intro t
   obtain ⟨b, i', l', e, g1, g2, g3⟩ := zzI (c := c) (i := i + 1) (n := n + 1) (s := s) (f := 7) (a := i) (ch := nowT c (i + 1)) (l := l) (al := al) (t := t) (by decide) (by omega) ⟨s0, s1⟩ (by omega)
   rw [e]
   exact .inr ⟨7, i, b, i', n + 1, l', rfl, rfl, by decide, by omega, by omega, by omega, by omega⟩
  split
  ·exact key _
  ·split
   ·exact key _
   ·exact key _
 ·simp only [hbad, if_false, zbp, Option.bind_some]
  rw [zx8 (by omega), ztQ (by omega)]
  simp only [Option.bind_some]
  have key : ∀ t, (t = true -> nowT c (i + 1) = 88 \/ nowT c (i + 1) = 70 \/ nowT c (i + 1) = 71) -> Sm c i n s l (zaR zay al c (i + 1) s (n + 1) (nowT c (i + 1)) t) (zaH zas al c (i + 1) s (n + 1) l 0 0 (nowT c (i + 1)) t) := by
   intro t ht
   rcases waysJ hP hW (al := al) (t := t) (i := i + 1) (n := n) (s := s) (l := l) n0 ⟨by omega, by omega, c1, by omega, by omega, s0, s1, by omega⟩ q1 (by omega) ht with
    ⟨a1, b1, i', n', l', e1, e2, g1, g2, g3, g4, g5, g6, g7⟩ | ⟨cd, pl, b1, i', n', l', e1, e2, g1, g2, g3, g4, g5⟩
   ·exact .inl ⟨a1, b1, i', n', l', e1, e2, by omega, g2, by omega, g4, by omega, g6, g7⟩
   ·exact .inr ⟨cd, pl, b1, i', n', l', e1, e2, g1, g2, g3, g4, g5⟩
  by_cases h88 : nowT c (i + 1) = 88
  ·have := key true (fun _ => .inl h88)
   simpa [h88] using this
  ·by_cases h70 : nowT c (i + 1) = 70
   ·have := key true (fun _ => .inr (.inl h70))
    simpa [h70] using this
   ·have := key (decide (nowT c (i + 1) = 71)) (fun h => .inr (.inr (of_decide_eq_true h)))
    simpa [h88, h70] using this
theorem zys {n : Nat} (h : n < 9223372036854775808) : IntKind.wrap .i64 (n : Int) = n := by
 unfold IntKind.wrap
 simp [IntKind.bits, IntKind.signed]
 omega
theorem wr64 {x : Int} (h0 : 0 <= x) (h1 : x <= 1000) : IntKind.wrap .i64 x = x := by
 obtain ⟨n, rfl⟩ := Int.eq_ofNat_of_zero_le h0
 exact zys (by omega)
theorem wru8 {x : Int} (h0 : 0 <= x) (h1 : x <= 100) : IntKind.wrap .i64 (IntKind.wrap .u8 x) = x := by
 have e : IntKind.wrap .u8 x = x := by
  unfold IntKind.wrap
  simp [IntKind.bits, IntKind.signed]
  omega
 rw [e]; exact wr64 h0 (by omega)
theorem zzW {c : List UInt8} {m : Nat} (hP : ∀ m' < m, Part c m') (hW : ∀ m' < m, zw1 c m') : Part c m := by
 intro i n s l hp hm
 have hp' := hp
 obtain ⟨i0, i1, c1, n0, n1, s0, s1, q1⟩ := hp
 rw [zmb, zjO]
 unfold zb9 zcg
 rw [zx8 i0, r_ok, ztQ i0]
 simp only [Option.bind_some, decide_true, Bool.not_true, Bool.false_eq_true, if_false]
 have es : s + 1 - 1 = s := by omega
 have fs : fits s := zaL (by omega) (by omega)
 have leaf : ∀ (k v : Int), nowT c i ≠ 0 -> (k = 48 \/ k = 49 \/ k = 97) -> Sm c i n s l (pbind (zaE c i s n) (fun y => some (.inl (Tr.mk (k, (false, (v, ()))) [], y.1, y.2.1, y.2.2.1, y.2.2.2))) (fun p => some (.inr (p.1, p.2))))
   ((za2 c i s n 0 0 l).bind fun y => (zbC (k, (false, (v, (0, (0, ()))))) y.1 y.2.1 y.2.2.1 y.2.2.2.1 y.2.2.2.2.2.1 y.2.2.2.2.2.2 y.2.2.2.2.1).bind fun y => some (y.1, y.2.1, y.2.2.1, y.2.2.2.1, y.2.2.2.2.1, y.2.2.2.2.2.1, y.2.2.2.2.2.2.1, y.2.2.2.2.2.2.2)) := by
  intro k v h hk
  have hlt := zmu h
  rw [zmw i0 i1 c1 ⟨n0, n1⟩, zmP i0 i1 c1 ⟨n0, n1⟩]
  by_cases hbad : 30 < n + 1
  ·simp only [hbad, if_true, zaY, Option.bind_some]
   rw [zkf (by omega)]
   simp only [Option.bind_some]
   exact .inr ⟨7, i, _, _, _, _, rfl, rfl, by decide, by omega, by omega, by omega, by (first | omega | (simp only [List.length_append, List.length_cons, List.length_nil] at *; omega) | (simp; done) | (simp; omega))⟩
  ·simp only [hbad, if_false, zbp, Option.bind_some]
   rw [zkf (by omega)]
   simp only [Option.bind_some]
   exact .inl ⟨_, _, _, _, _, rfl, rfl, by omega, by omega, by omega, by omega, by (first | omega | (simp only [List.length_append, List.length_cons, List.length_nil] at *; omega) | (simp; done) | (simp; omega)), Ext.snoc _ _, Stn.put_leaf (x := (k, false, v, 0, 0, ())) hk⟩
 have j2 : ∀ t, (t = true -> nowT c i = 48 \/ nowT c i = 49) -> Sm c i n s l (zbg zay c i s n (nowT c i) t) (zb2 zas c i s n 0 0 l (nowT c i) t) := by
  intro t ht
  unfold zbg zb2
  cases t with
  | true => simp only [if_true]; exact leaf _ _ (by have := ht rfl; omega) (by have := ht rfl; omega)
  | false =>
   simp only [Bool.false_eq_true, if_false]
   have j5 : ∀ t, (t = true -> 97 <= nowT c i /\ nowT c i <= 100) -> Sm c i n s l (zbh zay c i s n (nowT c i) t) (zb3 zas c i s n 0 0 l (nowT c i) t) := by
    intro t ht
    unfold zbh zb3
    cases t with
    | true =>
     obtain ⟨h1, h2⟩ := ht rfl
     have fw : fits (IntKind.wrap .i64 (nowT c i) - 97) := by rw [wr64 (by omega) (by omega)]; exact zaL (by omega) (by omega)
     simp only [if_true, zai fw]
     rw [wr64 (x := nowT c i) (by omega) (by omega), wru8 (x := nowT c i - 97) (by omega) (by omega)]; exact leaf _ _ (by omega) (.inr (.inr rfl))
    | false =>
     simp only [Bool.false_eq_true, if_false]
     by_cases h33 : nowT c i = 33
     ·have hlt : i < c.length := zmu (by rw [h33]; decide)
      simp only [h33, decide_true, if_true]
      rw [zmw i0 i1 c1 ⟨n0, n1⟩, zmP i0 i1 c1 ⟨n0, n1⟩]
      by_cases hbad : 30 < n + 1
      ·simp only [hbad, if_true, zaY, Option.bind_some]
       rw [zvY (by decide)]
       simp only [Option.bind_some]
       rw [zkf (by omega)]
       simp only [Option.bind_some]
       exact .inr ⟨7, i, _, _, _, _, rfl, rfl, by decide, by omega, by omega, by omega, by (first | omega | (simp only [List.length_append, List.length_cons, List.length_nil] at *; omega) | (simp; done) | (simp; omega))⟩
      ·simp only [hbad, if_false, zbp, Option.bind_some]
       rcases hP (((c.length : Int) - (i + 1)).toNat) (by omega) (i + 1) (n + 1) s l ⟨by omega, by omega, c1, by omega, by omega, s0, s1, by omega⟩ (Nat.le_refl _) with
        ⟨a1, b1, i', n', l', e1, e2, g1, g2, g3, g4, g5, g6, g7⟩ | ⟨cd, pl, b1, i', n', l', e1, e2, g1, g2, g3, g4, g5⟩
       ·simp only [e1, e2, zbp, Option.bind_some]
        rw [zkf (by omega)]
        simp only [Option.bind_some]
        exact .inl ⟨_, _, _, _, _, rfl, rfl, by omega, g2, by omega, g4, by (first | omega | (simp only [List.length_append, List.length_cons, List.length_nil] at *; omega) | (simp; done) | (simp; omega)), g6.put _, Stn.put_one (x := (33, false, 0, b1, 0, ())) (.inl rfl) g7⟩
       ·simp only [e1, e2, zaY, Option.bind_some]
        rw [zkf (by omega)]
        simp only [Option.bind_some]
        exact .inr ⟨cd, pl, _, _, _, _, rfl, rfl, g1, g2, g3, g4, by (first | omega | (simp only [List.length_append, List.length_cons, List.length_nil] at *; omega) | (simp; done) | (simp; omega))⟩
     ·simp only [h33, decide_false, Bool.false_eq_true, if_false]
      have j11 : ∀ t, (t = true -> nowT c i ≠ 0) -> Sm c i n s l (za6 zay c i s n (nowT c i) t) (zbI zas c i s n 0 0 l (nowT c i) t) := by
       intro t ht
       unfold za6 zbI
       cases t with
       | true =>
        simp only [if_true]
        rcases zAE hP hW (al := decide (nowT c i = 65)) hp' (zmu (ht rfl)) hm with
         ⟨a1, b1, i', n', l', e1, e2, g1, g2, g3, g4, g5, g6, g7⟩ | ⟨cd, pl, b1, i', n', l', e1, e2, g1, g2, g3, g4, g5⟩
        ·simp only [e1, e2, zbp, Option.bind_some]
         exact .inl ⟨_, _, _, _, _, rfl, rfl, g1, g2, g3, g4, g5, g6, g7⟩
        ·simp only [e1, e2, zaY, Option.bind_some]
         exact .inr ⟨cd, pl, _, _, _, _, rfl, rfl, g1, g2, g3, g4, g5⟩
       | false =>
        simp only [Bool.false_eq_true, if_false]
        by_cases h40 : nowT c i = 40
        ·have hlt : i < c.length := zmu (by rw [h40]; decide)
         simp only [h40, not_true_eq_false, decide_false, Bool.false_eq_true, if_false]
         unfold zbw
         rw [zzg (by omega) ⟨s0, s1⟩, zzj (by omega) ⟨s0, s1⟩]
         by_cases hs : s = 40
         ·simp only [hs, if_true, zaY, Option.bind_some]
          rw [zn3 (by decide) (by omega)]
          simp only [Option.bind_some]
          rw [znA (by decide) (by omega)]
          simp only [Option.bind_some]
          rw [zai (zaL (by omega) (by omega))]
          exact .inr ⟨7, i, _, _, _, _, rfl, rfl, by decide, by omega, by omega, by omega, by omega⟩
         ·simp only [hs, if_false, zbp, Option.bind_some]
          rcases hW (((c.length : Int) - (i + 1)).toNat) (by omega) (i + 1) n (s + 1) l ⟨by omega, by omega, c1, by omega, by omega, by omega, by omega, by omega⟩ (Nat.le_refl _) with
           ⟨a1, b1, i', n', l', e1, e2, g1, g2, g3, g4, g5, g6, g7⟩ | ⟨cd, pl, b1, i', n', l', e1, e2, g1, g2, g3, g4, g5⟩
          ·simp only [e1, e2, zbp, Option.bind_some]
           rw [zzh (by omega) ⟨s0, s1⟩, zyd (by omega)]
           by_cases h41 : nowT c i' = 41
           ·have hlt3 : i' < c.length := zmu (by rw [h41]; decide)
            simp only [h41, if_true, zbp, Option.bind_some, es, zai fs]
            exact .inl ⟨_, _, _, _, _, rfl, rfl, by omega, by omega, by omega, g4, by omega, g6, g7⟩
           ·simp only [h41, if_false, zaY, Option.bind_some, es, zai fs]
            exact .inr ⟨4, i', _, _, _, _, rfl, rfl, by decide, by omega, by omega, by omega, by omega⟩
          ·simp only [e1, e2, zaY, Option.bind_some]
           rw [znA g1 (by omega)]
           simp only [Option.bind_some, es, zai fs]
           exact .inr ⟨cd, pl, _, _, _, _, rfl, rfl, g1, by omega, by omega, g4, by omega⟩
        ·simp only [h40, not_false_eq_true, decide_true, if_true, zsF, zaY, znO, Option.bind_some]
         exact .inr ⟨4, i, _, _, _, _, rfl, rfl, by decide, by omega, by omega, by omega, by omega⟩
      by_cases h69 : nowT c i = 69
      ·have := j11 true (fun _ => by rw [h69]; decide)
       simpa [h69] using this
      ·have := j11 (decide (nowT c i = 65)) (fun h => by rw [of_decide_eq_true h]; decide)
       simpa [h69] using this
   by_cases h97 : 97 <= nowT c i
   ·have := j5 (decide (nowT c i <= 100)) (fun h => ⟨h97, of_decide_eq_true h⟩)
    simpa [h97] using this
   ·have := j5 false (fun h => by cases h)
    simpa [h97] using this
 by_cases h48 : nowT c i = 48
 ·have := j2 true (fun _ => .inl h48)
  simpa [h48] using this
 ·have := j2 (decide (nowT c i = 49)) (fun h => .inr (of_decide_eq_true h))
  simpa [h48] using this
theorem zAH {c : List UInt8} : ∀ m : Nat, Part c m /\ zw1 c m := by
 intro m
 induction m using Nat.strongRecOn with
 | ind m ih =>
  have hP : Part c m := zzW (fun m' h => (ih m' h).1) (fun m' h => (ih m' h).2)
  have hP' : ∀ m' ≤ m, Part c m' := fun m' h => by
   rcases Nat.lt_or_eq_of_le h with h | rfl
   ·exact (ih m' h).1
   ·exact hP
  have hT : ∀ m' ≤ m, Term c m' := fun m' h => zAA fun m'' h' => hP' m'' (Nat.le_trans h' h)
  exact ⟨hP, zy1 hT⟩
theorem zsI (c : List UInt8) : (∃ a b l, zhB c = some (a, (0, (0, ()))) /\ zmF c = some (b, (0, (0, ())), l) /\ (l.length : Int) <= 30 /\ Stn l a b)
  \/ (∃ a cd pl, zhB c = some (a, (cd, (pl, ()))) /\ zmF c = some (0, (cd, (pl, ())), []) /\ cd ≠ 0) := by
 unfold zhB zmF
 by_cases hc : (4000 : Int) < c.length
 ·simp only [hc, decide_true, if_true, Option.bind_some]
  exact .inr ⟨_, 1, 0, rfl, rfl, by decide⟩
 ·simp only [hc, decide_false, Bool.false_eq_true, if_false]
  unfold zhJ zjU
  rcases (zAH (c := c) (((c.length : Int) - 0).toNat)).2 0 0 0 [] ⟨by omega, by omega, by omega, by omega, by omega, by omega, by omega, by simp⟩ (Nat.le_refl _) with
   ⟨a1, b1, i', n', l', e1, e2, g1, g2, g3, g4, g5, g6, g7⟩ | ⟨cd, pl, b1, i', n', l', e1, e2, g1, g2, g3, g4, g5⟩
  ·simp only [e1, e2, zbp, Option.bind_some]
   by_cases hi : i' < (c.length : Int)
   ·simp only [hi, decide_true, if_true, zsF, zaY, znO, Option.bind_some, Int.reduceEq, not_false_eq_true]
    exact .inr ⟨_, 4, i', rfl, rfl, by decide⟩
   ·simp only [hi, decide_false, Bool.false_eq_true, if_false, not_true_eq_false, Option.bind_some]
    exact .inl ⟨_, _, _, rfl, rfl, by simp at g5; omega, g7⟩
  ·simp only [e1, e2, zaY, Option.bind_some]
   by_cases hi : i' < (c.length : Int)
   ·simp only [hi, decide_true, if_true, znO, g1, if_false, not_false_eq_true, Option.bind_some]
    exact .inr ⟨_, cd, pl, rfl, rfl, g1⟩
   ·simp only [hi, decide_false, Bool.false_eq_true, if_false, g1, not_false_eq_true, decide_true, if_true, Option.bind_some]
    exact .inr ⟨_, cd, pl, rfl, rfl, g1⟩
def zdB (o : Option Bool) (P : Prop) : Prop := ∃ b, o = some b /\ (b = true ↔ P)
theorem zdB.of {b : Bool} {P : Prop} (h : b = true ↔ P) : zdB (some b) P := ⟨b, rfl, h⟩
theorem zdB.dec {P Q : Prop} [Decidable P] (h : P ↔ Q) : zdB (some (decide P)) Q := ⟨_, rfl, by simpa using h⟩
theorem zdB.iff {o : Option Bool} {P Q : Prop} (h : zdB o P) (k : P ↔ Q) : zdB o Q := let ⟨b, h1, h2⟩ := h; ⟨b, h1, h2.trans k⟩
theorem zdB.eq {o : Option Bool} {P : Prop} [Decidable P] (h : zdB o P) : o = some (decide P) := by
 obtain ⟨b, rfl, hb⟩ := h
 by_cases hp : P
 ·simp [hp, hb.2 hp]
 ·have : b = false := by cases b; rfl; exact absurd (hb.1 rfl) hp
  simp [hp, this]
theorem zdB.to {R : Type} {o : Option Bool} {P : Prop} {k1 k2 x : Option R} (h : zdB o P) (h1 : P -> k1 = x) (h2 : ¬ P -> k2 = x) : (o.bind fun y => if y = true then k1 else k2) = x := by
 obtain ⟨b, rfl, hb⟩ := h
 refine zpx rfl ?_
 cases b
 ·exact h2 fun hp => by simpa using hb.2 hp
 ·exact h1 (hb.1 rfl)
theorem zdB.bind {R : Type} {o : Option Bool} {P : Prop} {k : Bool -> Option R} {x : Option R} (h : zdB o P) (h1 : ∀ b, (b = true ↔ P) -> k b = x) : o.bind k = x := by
 obtain ⟨b, rfl, hb⟩ := h
 exact h1 b hb
section
variable {α C : Type} [Inhabited α]
theorem ztp {l : List α} {P : α -> Prop} : (∃ x ∈ l, P x) ↔ ∃ i : Int, 0 <= i /\ i < l.length /\ P (ix l i) := by
 constructor
 ·rintro ⟨x, hx, hp⟩
  obtain ⟨i, hi, rfl⟩ := List.mem_iff_getElem.1 hx
  refine ⟨i, by omega, by omega, ?_⟩
  rwa [ztD (by omega) (by omega)]
 ·rintro ⟨i, h0, h1, hp⟩
  exact ⟨_, znC h0 h1, hp⟩
theorem zwE {s : List α} {f : α -> Option Bool} {L : Int -> Option Int} {P : α -> Prop} (hs : s.length <= 4611686018427387904)
  (hL : ∀ t, L t = if decide (t < (s.length : Int)) = true then G (0 <= t /\ t < (s.length : Int)) ((f (ix s t)).bind fun y => if y = true then some t else G (fits (t + 1)) (L (t + 1))) else some (-1))
  (hf : ∀ x ∈ s, zdB (f x) (P x)) : ∀ (n : Nat) (t : Int), 0 <= t -> t <= s.length -> (s.length - t).toNat = n ->
   ∃ i, L t = some i /\ ((i = -1 /\ ∀ j : Int, t <= j -> j < s.length -> ¬ P (ix s j)) \/ (t <= i /\ i < s.length /\ P (ix s i) /\ ∀ j : Int, t <= j -> j < i -> ¬ P (ix s j))) := by
 intro n
 induction n with
 | zero =>
  intro t h0 h1 hn
  refine ⟨-1, ?_, .inl ⟨rfl, fun j a b => by omega⟩⟩
  rw [hL, if_neg (by simp; omega)]
 | succ n ih =>
  intro t h0 h1 hn
  rw [hL, if_pos (by simp; omega), zai (by omega)]
  obtain ⟨b, hb, hbp⟩ := hf _ (znC h0 (by omega : t < s.length))
  rw [hb]
  cases b with
  | true => exact ⟨t, rfl, .inr ⟨by omega, by omega, hbp.1 rfl, fun j a b => by omega⟩⟩
  | false =>
   have hnp : ¬ P (ix s t) := fun hp => by simpa using hbp.2 hp
   obtain ⟨i, hi, hc⟩ := ih (t + 1) (by omega) (by omega) (by omega)
   refine ⟨i, ?_, ?_⟩
   ·refine (if_neg (by simp) : (if false = true then some t else G (fits (t + 1)) (L (t + 1))) = _).trans ?_
    rw [zai (by unfold fits; omega), hi]
   ·rcases hc with ⟨h2, h3⟩ | ⟨h2, h3, h4, h5⟩
    ·refine .inl ⟨h2, fun j a b => ?_⟩
     by_cases e : j = t
     ·rw [e]; exact hnp
     ·exact h3 j (by omega) b
    ·refine .inr ⟨by omega, h3, h4, fun j a b => ?_⟩
     by_cases e : j = t
     ·rw [e]; exact hnp
     ·exact h5 j (by omega) b
theorem zj7 {s : List α} {f : α -> Option Bool} {L : Int -> Option Int} {P : α -> Prop}
  (hL : ∀ t, L t = if decide (t < (s.length : Int)) = true then G (0 <= t /\ t < (s.length : Int)) ((f (ix s t)).bind fun y => if y = true then some t else G (fits (t + 1)) (L (t + 1))) else some (-1))
  (hs : s.length <= 4611686018427387904) (hf : ∀ x ∈ s, zdB (f x) (P x)) : zdB ((L 0).bind fun y => some (decide ((0 : Int) <= y))) (∃ x ∈ s, P x) := by
 obtain ⟨i, hi, hc⟩ := zwE hs hL hf _ 0 (by omega) (by omega) rfl
 rw [hi]
 refine ⟨decide (0 <= i), rfl, ?_⟩
 rw [decide_eq_true_iff, ztp]
 rcases hc with ⟨h2, h3⟩ | ⟨h2, h3, h4, h5⟩
 ·constructor
  ·intro h; omega
  ·rintro ⟨j, h0, h1, hp⟩; exact absurd hp (h3 j h0 h1)
 ·exact ⟨fun _ => ⟨i, by omega, h3, h4⟩, fun _ => by omega⟩
theorem zrl {s : List α} {c : C} {f : α -> C -> Option (Bool × C)} {L : Int -> C -> Option (Int × C)} {P : α -> Prop}
  (hL : ∀ t c, L t c = if decide (t < (s.length : Int)) = true then G (0 <= t /\ t < (s.length : Int)) ((f (ix s t) c).bind fun y => if y.1 = true then some (t, y.2) else G (fits (t + 1)) (L (t + 1) y.2)) else some (-1, c))
  (hs : s.length <= 4611686018427387904) (hf : ∀ x ∈ s, ∃ b, f x c = some (b, c) /\ (b = true ↔ P x)) : ∃ b, ((L 0 c).bind fun y => some (decide ((0 : Int) <= y.1), y.2)) = some (b, c) /\ (b = true ↔ ∃ x ∈ s, P x) := by
 have key : ∀ (n : Nat) (t : Int), 0 <= t -> t <= s.length -> (s.length - t).toNat = n ->
   ∃ i, L t c = some (i, c) /\ ((i = -1 /\ ∀ j : Int, t <= j -> j < s.length -> ¬ P (ix s j)) \/ (t <= i /\ i < s.length /\ P (ix s i))) := by
  intro n
  induction n with
  | zero =>
   intro t h0 h1 hn
   refine ⟨-1, ?_, .inl ⟨rfl, fun j a b => by omega⟩⟩
   rw [hL, if_neg (by simp; omega)]
  | succ n ih =>
   intro t h0 h1 hn
   rw [hL, if_pos (by simp; omega), zai (by omega)]
   obtain ⟨b, hb, hbp⟩ := hf _ (znC h0 (by omega : t < s.length))
   rw [hb]
   cases b with
   | true => exact ⟨t, rfl, .inr ⟨by omega, by omega, hbp.1 rfl⟩⟩
   | false =>
    have hnp : ¬ P (ix s t) := fun hp => by simpa using hbp.2 hp
    obtain ⟨i, hi, hc⟩ := ih (t + 1) (by omega) (by omega) (by omega)
    refine ⟨i, ?_, ?_⟩
    ·refine (if_neg (by simp) : (if false = true then some (t, c) else G (fits (t + 1)) (L (t + 1) c)) = _).trans ?_
     rw [zai (by unfold fits; omega), hi]
    ·rcases hc with ⟨h2, h3⟩ | ⟨h2, h3, h4⟩
     ·refine .inl ⟨h2, fun j a b => ?_⟩
      by_cases e : j = t
      ·rw [e]; exact hnp
      ·exact h3 j (by omega) b
     ·exact .inr ⟨by omega, h3, h4⟩
 obtain ⟨i, hi, hc⟩ := key _ 0 (by omega) (by omega) rfl
 rw [hi]
 refine ⟨decide (0 <= i), rfl, ?_⟩
 rw [decide_eq_true_iff, ztp]
 rcases hc with ⟨h2, h3⟩ | ⟨h2, h3, h4⟩
 ·constructor
  ·intro h; omega
  ·rintro ⟨j, h0, h1, hp⟩; exact absurd hp (h3 j h0 h1)
 ·exact ⟨fun _ => ⟨i, by omega, h3, h4⟩, fun _ => by omega⟩
end
theorem zh9 {R : Type} {len : Int} {L : Int -> Option R} {bad : Int -> Prop} {x : Option R} {lo : Int} (h0 : lo <= len)
  (hs : ∀ t, lo <= t -> t < len -> (bad t -> L t = x) /\ (¬ bad t -> L t = L (t + 1))) (hf : (∀ t, lo <= t -> t < len -> ¬ bad t) -> L len = x) : L lo = x := by
 have key : ∀ (n : Nat) (t : Int), lo <= t -> t <= len -> (len - t).toNat = n -> (∀ j, lo <= j -> j < t -> ¬ bad j) -> L t = x := by
  intro n
  induction n with
  | zero =>
   intro t h1 h2 hn h
   obtain rfl : t = len := by omega
   exact hf h
  | succ n ih =>
   intro t h1 h2 hn h
   by_cases hb : bad t
   ·exact (hs t h1 (by omega)).1 hb
   ·rw [(hs t h1 (by omega)).2 hb]
    refine ih (t + 1) (by omega) (by omega) (by omega) fun j a b => ?_
    by_cases e : j = t
    ·rw [e]; exact hb
    ·exact h j a (by omega)
 exact key _ lo (Int.le_refl _) h0 rfl (fun j a b => by omega)
theorem ztv {R S : Type} {len : Int} {L : Int -> S -> Option R} {f : Int -> S -> S} {lo : Int} {I : Int -> S -> Prop} {s : S} (h0 : lo <= len) (hI : I lo s)
  (hs : ∀ t s, lo <= t -> t < len -> I t s -> L t s = L (t + 1) (f t s) /\ I (t + 1) (f t s)) : ∃ s', I len s' /\ L lo s = L len s' := by
 have key : ∀ (n : Nat) (t : Int) (s : S), lo <= t -> t <= len -> (len - t).toNat = n -> I t s -> ∃ s', I len s' /\ L t s = L len s' := by
  intro n
  induction n with
  | zero =>
   intro t s h1 h2 hn h
   obtain rfl : t = len := by omega
   exact ⟨s, h, rfl⟩
  | succ n ih =>
   intro t s h1 h2 hn h
   obtain ⟨e, h3⟩ := hs t s h1 (by omega) h
   obtain ⟨s', h4, h5⟩ := ih (t + 1) _ (by omega) (by omega) (by omega) h3
   exact ⟨s', h4, e.trans h5⟩
 exact key _ lo s (Int.le_refl _) h0 rfl hI
theorem zmV {s : List Int} {v : Int} (hs : s.length <= 4611686018427387904) : zdB (zi8 s v) (v ∈ s) :=
 zdB.iff (zj7 (f := fun x => some (decide (v = x))) (P := fun x => v = x) (zpr s v) hs (fun x _ => zdB.dec Iff.rfl)) ⟨fun ⟨x, hx, e⟩ => e ▸ hx, fun h => ⟨v, h, rfl⟩⟩
abbrev Arc := Int × Int × Int × Unit
abbrev Gr := Int × Int × (List Arc) × Unit
def SLt (x y : Arc) : Prop := x.1 < y.1 \/ x.1 = y.1 /\ (x.2.1 < y.2.1 \/ x.2.1 = y.2.1 /\ x.2.2.1 < y.2.2.1)
def GLet (g : Gr) : Prop := g.1 < 1 \/ 4 < g.1
def ztZ (g : Gr) : Prop := g.2.1 < 1 \/ 12 < g.2.1 \/ 60 < g.2.2.1.length
def ABad (g : Gr) (x : Arc) : Prop := x.1 < 0 \/ g.2.1 <= x.1 \/ x.2.2.1 < 0 \/ g.2.1 <= x.2.2.1 \/ x.2.1 < 0 \/ g.1 <= x.2.1
def GBad (g : Gr) : Prop := ∃ x ∈ g.2.2.1, ABad g x
def GOrd (g : Gr) : Prop := ∃ i : Int, 1 <= i /\ i < g.2.2.1.length /\ ¬ SLt (ix g.2.2.1 (i - 1)) (ix g.2.2.1 i)
open Classical in
noncomputable def grE (g : Gr) : Int := if GLet g then 2 else if ztZ g then 1 else if GBad g then 2 else if GOrd g then 3 else 0
theorem chk1 (p : Int) (g : Gr) : zdB (zhW p g) (p < 0 \/ g.2.1 <= p) := by
 unfold zhW
 by_cases h : p < 0
 ·rw [if_pos (decide_eq_true h)]; exact zdB.of (by simp [h])
 ·rw [if_neg (by simpa using h)]; exact zdB.dec (by omega)
theorem chk2 (x : Arc) (g : Gr) : ∃ b, zhX x g g = some (b, g) /\ (b = true ↔ ABad g x) := by
 unfold zhX ABad
 obtain ⟨b, e, hb⟩ := chk1 x.1 g
 obtain ⟨c, e2, hc⟩ := chk1 x.2.2.1 g
 rw [e, e2]
 simp only [Option.bind_some]
 cases b with
 | true => exact ⟨true, rfl, by have := hb.1 rfl; simp; omega⟩
 | false =>
  have hb : ¬ (x.1 < 0 \/ g.2.1 <= x.1) := fun h => by cases hb.2 h
  cases c with
  | true => exact ⟨true, rfl, by have := hc.1 rfl; simp; omega⟩
  | false =>
   have hc : ¬ (x.2.2.1 < 0 \/ g.2.1 <= x.2.2.1) := fun h => by cases hc.2 h
   by_cases h : x.2.1 < 0
   ·exact ⟨true, by simp [h], by simp; omega⟩
   ·exact ⟨decide (g.1 <= x.2.1), by simp [h], by rw [decide_eq_true_iff]; omega⟩
theorem zs2 (x y : Int) : zhq x y = some (if x < y then -1 else if y < x then 1 else 0) := by
 unfold zhq zoi
 simp only [Option.bind_some, not_true, decide_false, Bool.false_eq_true, if_false, decide_eq_true_eq]
 by_cases h : x < y
 ·simp [h]
 ·by_cases h2 : y < x <;> simp [h, h2]
theorem zzV (a b c : Int) : zvS [a, b, c] = some (if a ≠ 0 then a else if b ≠ 0 then b else c) := by
 unfold zvS
 rw [zjE]; unfold zdS
 have e0 : ix [a, b, c] 0 = a := rfl
 have e1 : ix [a, b, c] (0 + 1) = b := rfl
 have e2 : ix [a, b, c] (0 + 1 + 1) = c := rfl
 rw [if_pos (by simp), zai (by simp), e0]
 by_cases h : a = 0
 ·rw [if_neg (by simp [h]), zai (by decide), zjE]; unfold zdS
  rw [if_pos (by simp), zai (by simp), e1]
  by_cases h2 : b = 0
  ·rw [if_neg (by simp [h2]), zai (by decide), zjE]; unfold zdS
   rw [if_pos (by simp), zai (by simp), e2]
   by_cases h3 : c = 0
   ·rw [if_neg (by simp [h3]), zai (by decide), zjE]; unfold zdS
    rw [if_neg (by simp)]
    simp [h, h2, h3]
   ·rw [if_pos (by simp [h3])]; simp [h, h2]
  ·rw [if_pos (by simp [h2])]; simp [h, h2]
 ·rw [if_pos (by simp [h])]; simp [h]
theorem zsC (x y : Arc) : ∃ o, znl x y = some o /\ (0 <= o ↔ ¬ SLt x y) := by
 unfold znl SLt
 rw [zs2, zs2, zs2]
 simp only [Option.bind_some]
 rw [zzV]
 refine ⟨_, rfl, ?_⟩
 repeat' split
 all_goals omega
theorem zq5 (x y : Arc) : zdB (zoP x y) (SLt x y) := by
 unfold zoP SLt
 by_cases h : x.1 = y.1
 ·rw [if_neg (by simp [h])]
  by_cases h2 : x.2.1 = y.2.1
  ·rw [if_neg (by simp [h2])]; exact zdB.dec (by omega)
  ·rw [if_pos (by simp [h2])]; exact zdB.dec (by omega)
 ·rw [if_pos (by simp [h])]; exact zdB.dec (by omega)
section
variable {g : Gr}
theorem zr0 : znk g = some (grE g) := by
 unfold znk grE
 by_cases c1 : GLet g
 ·rw [if_pos c1]; unfold GLet at c1
  (try dsimp only); (repeat' first | (with_reducible refine G_to ?_ ?_; focus (first | omega | (unfold fits; omega) | (unfold room; (try simp only [List.length_append, List.length_cons, List.length_nil]); omega))) | (with_reducible refine zc5 ?_ ?_) | (with_reducible refine zht ?_) | (with_reducible refine zhs ?_) | (with_reducible refine zkN (fun _ => ?_) (fun _ => ?_))) <;> try (exfalso; omega)
  all_goals rfl
 rw [if_neg c1]; unfold GLet at c1
 by_cases c2 : ztZ g
 ·rw [if_pos c2]; unfold ztZ at c2
  (try dsimp only); (repeat' first | (with_reducible refine G_to ?_ ?_; focus (first | omega | (unfold fits; omega) | (unfold room; (try simp only [List.length_append, List.length_cons, List.length_nil]); omega))) | (with_reducible refine zc5 ?_ ?_) | (with_reducible refine zht ?_) | (with_reducible refine zhs ?_) | (with_reducible refine zkN (fun _ => ?_) (fun _ => ?_))) <;> try (exfalso; omega)
  all_goals rfl
 rw [if_neg c2]; unfold ztZ at c2
 (try dsimp only); (repeat' first | (with_reducible refine G_to ?_ ?_; focus (first | omega | (unfold fits; omega) | (unfold room; (try simp only [List.length_append, List.length_cons, List.length_nil]); omega))) | (with_reducible refine zc5 ?_ ?_) | (with_reducible refine zht ?_) | (with_reducible refine zhs ?_) | (with_reducible refine zkN (fun _ => ?_) (fun _ => ?_))) <;> try (exfalso; omega)
 obtain ⟨b, hb, hb2⟩ : ∃ b, zfD g.2.2.1 g g = some (b, g) /\ (b = true ↔ GBad g) :=
  zrl (f := fun x c => zhX x g c) (zl4 g.2.2.1 g) (by omega) (fun x _ => chk2 x g)
 refine zpx hb ?_
 refine zzN (fun h => by rw [if_pos (hb2.1 h)]) (fun h2 => ?_)
 have c3 : ¬ GBad g := fun h => by rw [hb2.2 h] at h2; cases h2
 rw [if_neg c3]
 refine zh9 (len := (g.2.2.1.length : Int)) (bad := fun i => 1 <= i /\ ¬ SLt (ix g.2.2.1 (i - 1)) (ix g.2.2.1 i)) (by omega) (fun i h0 h1 => ⟨fun hb => ?_, fun hb => ?_⟩) (fun hh => ?_)
 ·rw [if_pos (show GOrd g from ⟨i, hb.1, h1, hb.2⟩)]
  rw [zh8]; unfold zcq
  (try dsimp only); (repeat' first | (with_reducible refine G_to ?_ ?_; focus (first | omega | (unfold fits; omega) | (unfold room; (try simp only [List.length_append, List.length_cons, List.length_nil]); omega))) | (with_reducible refine zc5 ?_ ?_) | (with_reducible refine zht ?_) | (with_reducible refine zhs ?_) | (with_reducible refine zkN (fun _ => ?_) (fun _ => ?_))) <;> try (exfalso; omega)
  obtain ⟨o, e, ho⟩ := zsC (ix g.2.2.1 (i - 1)) (ix g.2.2.1 i)
  refine zpx e ?_
  rw [if_pos (decide_eq_true (ho.2 hb.2))]
 ·conv => lhs; rw [zh8]; unfold zcq
  by_cases h : 0 < i
  ·(try dsimp only); (repeat' first | (with_reducible refine G_to ?_ ?_; focus (first | omega | (unfold fits; omega) | (unfold room; (try simp only [List.length_append, List.length_cons, List.length_nil]); omega))) | (with_reducible refine zc5 ?_ ?_) | (with_reducible refine zht ?_) | (with_reducible refine zhs ?_) | (with_reducible refine zkN (fun _ => ?_) (fun _ => ?_))) <;> try (exfalso; omega)
   obtain ⟨o, e, ho⟩ := zsC (ix g.2.2.1 (i - 1)) (ix g.2.2.1 i)
   refine zpx e ?_
   rw [if_neg (by rw [decide_eq_true_iff, ho]; exact fun h => hb ⟨by omega, h⟩), zai (by unfold fits; omega)]
  ·(try dsimp only); (repeat' first | (with_reducible refine G_to ?_ ?_; focus (first | omega | (unfold fits; omega) | (unfold room; (try simp only [List.length_append, List.length_cons, List.length_nil]); omega))) | (with_reducible refine zc5 ?_ ?_) | (with_reducible refine zht ?_) | (with_reducible refine zhs ?_) | (with_reducible refine zkN (fun _ => ?_) (fun _ => ?_))) <;> try (exfalso; omega)
   all_goals rfl
 ·rw [if_neg (show ¬ GOrd g from fun ⟨i, i0, i1, i2⟩ => hh i (by omega) i1 ⟨i0, i2⟩)]
  rw [zh8]; unfold zcq
  rw [if_neg (by simp)]
theorem zsh : zoU g = some (grE g) := by
 unfold zoU grE
 by_cases c1 : GLet g
 ·rw [if_pos c1]; unfold GLet at c1
  (try dsimp only); (repeat' first | (with_reducible refine G_to ?_ ?_; focus (first | omega | (unfold fits; omega) | (unfold room; (try simp only [List.length_append, List.length_cons, List.length_nil]); omega))) | (with_reducible refine zc5 ?_ ?_) | (with_reducible refine zht ?_) | (with_reducible refine zhs ?_) | (with_reducible refine zkN (fun _ => ?_) (fun _ => ?_))) <;> try (exfalso; omega)
  all_goals rfl
 rw [if_neg c1]; unfold GLet at c1
 by_cases c2 : ztZ g
 ·rw [if_pos c2]; unfold ztZ at c2
  (try dsimp only); (repeat' first | (with_reducible refine G_to ?_ ?_; focus (first | omega | (unfold fits; omega) | (unfold room; (try simp only [List.length_append, List.length_cons, List.length_nil]); omega))) | (with_reducible refine zc5 ?_ ?_) | (with_reducible refine zht ?_) | (with_reducible refine zhs ?_) | (with_reducible refine zkN (fun _ => ?_) (fun _ => ?_))) <;> try (exfalso; omega)
  all_goals rfl
 rw [if_neg c2]; unfold ztZ at c2
 (try dsimp only); (repeat' first | (with_reducible refine G_to ?_ ?_; focus (first | omega | (unfold fits; omega) | (unfold room; (try simp only [List.length_append, List.length_cons, List.length_nil]); omega))) | (with_reducible refine zc5 ?_ ?_) | (with_reducible refine zht ?_) | (with_reducible refine zhs ?_) | (with_reducible refine zkN (fun _ => ?_) (fun _ => ?_))) <;> try (exfalso; omega)
 refine zh9 (len := (g.2.2.1.length : Int)) (bad := fun i => ABad g (ix g.2.2.1 i)) (by omega) (fun i h0 h1 => ⟨fun hb => ?_, fun hb => ?_⟩) (fun hh => ?_)
 ·rw [if_pos (show GBad g from ztp.2 ⟨i, h0, h1, hb⟩)]
  rw [ziP]; unfold zcP
  unfold ABad at hb
  (try dsimp only); (repeat' first | (with_reducible refine G_to ?_ ?_; focus (first | omega | (unfold fits; omega) | (unfold room; (try simp only [List.length_append, List.length_cons, List.length_nil]); omega))) | (with_reducible refine zc5 ?_ ?_) | (with_reducible refine zht ?_) | (with_reducible refine zhs ?_) | (with_reducible refine zkN (fun _ => ?_) (fun _ => ?_))) <;> try (exfalso; omega)
  all_goals rfl
 ·conv => lhs; rw [ziP]; unfold zcP
  unfold ABad at hb
  (try dsimp only); (repeat' first | (with_reducible refine G_to ?_ ?_; focus (first | omega | (unfold fits; omega) | (unfold room; (try simp only [List.length_append, List.length_cons, List.length_nil]); omega))) | (with_reducible refine zc5 ?_ ?_) | (with_reducible refine zht ?_) | (with_reducible refine zhs ?_) | (with_reducible refine zkN (fun _ => ?_) (fun _ => ?_))) <;> try (exfalso; omega)
  all_goals rfl
 rw [if_neg (show ¬ GBad g from fun h => by obtain ⟨i, i0, i1, i2⟩ := ztp.1 h; exact hh i i0 i1 i2)]
 rw [ziP]; unfold zcP
 rw [if_neg (by simp)]
 by_cases c4 : g.2.2.1.length = 0
 ·rw [if_neg (show ¬ GOrd g from fun ⟨i, i0, i1, i2⟩ => by omega)]
  rw [zfw]; unfold zbZ
  rw [if_neg (by simp; omega)]
 refine zh9 (len := (g.2.2.1.length : Int)) (bad := fun i => ¬ SLt (ix g.2.2.1 (i - 1)) (ix g.2.2.1 i)) (by omega) (fun i h0 h1 => ⟨fun hb => ?_, fun hb => ?_⟩) (fun hh => ?_)
 ·rw [if_pos (show GOrd g from ⟨i, h0, h1, hb⟩)]
  rw [zfw]; unfold zbZ
  (try dsimp only); (repeat' first | (with_reducible refine G_to ?_ ?_; focus (first | omega | (unfold fits; omega) | (unfold room; (try simp only [List.length_append, List.length_cons, List.length_nil]); omega))) | (with_reducible refine zc5 ?_ ?_) | (with_reducible refine zht ?_) | (with_reducible refine zhs ?_) | (with_reducible refine zkN (fun _ => ?_) (fun _ => ?_))) <;> try (exfalso; omega)
  obtain ⟨o, e, ho⟩ := zq5 (ix g.2.2.1 (i - 1)) (ix g.2.2.1 i)
  refine zpx e ?_
  rw [if_pos (by cases o; rfl; exact absurd (ho.1 rfl) hb)]
 ·conv => lhs; rw [zfw]; unfold zbZ
  (try dsimp only); (repeat' first | (with_reducible refine G_to ?_ ?_; focus (first | omega | (unfold fits; omega) | (unfold room; (try simp only [List.length_append, List.length_cons, List.length_nil]); omega))) | (with_reducible refine zc5 ?_ ?_) | (with_reducible refine zht ?_) | (with_reducible refine zhs ?_) | (with_reducible refine zkN (fun _ => ?_) (fun _ => ?_))) <;> try (exfalso; omega)
  obtain ⟨o, e, ho⟩ := zq5 (ix g.2.2.1 (i - 1)) (ix g.2.2.1 i)
  refine zpx e ?_
  rw [if_neg (by rw [ho.2 (Classical.not_not.1 hb)]; decide), zai (by unfold fits; omega)]
 ·rw [if_neg (show ¬ GOrd g from fun ⟨i, i0, i1, i2⟩ => hh i (by omega) i1 i2)]
  rw [zfw]; unfold zbZ
  rw [if_neg (by simp)]
end
structure GrOk (g : Gr) : Prop where
 l : 1 <= g.1 /\ g.1 <= 4
 n : 1 <= g.2.1 /\ g.2.1 <= 12
 a : g.2.2.1.length <= 60
 x : ∀ x ∈ g.2.2.1, 0 <= x.1 /\ x.1 < g.2.1 /\ 0 <= x.2.2.1 /\ x.2.2.1 < g.2.1 /\ 0 <= x.2.1 /\ x.2.1 < g.1
theorem zyE {g : Gr} (h : grE g = 0) : GrOk g := by
 unfold grE at h
 split at h
 ·cases h
 split at h
 ·cases h
 split at h
 ·cases h
 rename_i c1 c2 c3
 unfold GLet at c1; unfold ztZ at c2
 refine ⟨by omega, by omega, by omega, fun x hx => ?_⟩
 have : ¬ ABad g x := fun h => c3 ⟨x, hx, h⟩
 unfold ABad at this
 omega
def Ans (g : Gr) (R : Int -> Int -> Prop) (p q : Int) : Prop := ∀ x ∈ g.2.2.1, x.1 = p -> ∃ y ∈ g.2.2.1, y.1 = q /\ y.2.1 = x.2.1 /\ R x.2.2.1 y.2.2.1
def cE (c : List Int) (p q : Int) : Prop := ix c p = ix c q
def tE (t : List (List Bool)) (p q : Int) : Prop := ix (ix t p) q = true
section
variable {g : Gr}
theorem Ans.mono {R S : Int -> Int -> Prop} {n : Int} (hx : ∀ x ∈ g.2.2.1, 0 <= x.2.2.1 /\ x.2.2.1 < n) (h : ∀ a b : Int, 0 <= a -> a < n -> 0 <= b -> b < n -> R a b -> S a b) {p q : Int} (k : Ans g R p q) : Ans g S p q := by
 intro x hx' hp
 obtain ⟨y, hy, h1, h2, h3⟩ := k x hx' hp
 exact ⟨y, hy, h1, h2, h _ _ (hx x hx').1 (hx x hx').2 (hx y hy).1 (hx y hy).2 h3⟩
theorem zzs {C : Type} {c : C} {R : Int -> Int -> Prop} {A : Int -> Option Bool} {F : Arc -> C -> Option (Bool × C)} {p q : Int} (ha : g.2.2.1.length <= 60)
  (hF : ∀ x ∈ g.2.2.1, ∃ b, F x c = some (b, c) /\ (b = true ↔ ∃ y ∈ g.2.2.1, y.1 = q /\ y.2.1 = x.2.1 /\ R x.2.2.1 y.2.2.1))
  (hA : ∀ t : Int, 0 <= t -> t < g.2.2.1.length -> A t = if (ix g.2.2.1 t).1 = p then (F (ix g.2.2.1 t) c).bind (fun y => if (!y.1) = true then some false else A (t + 1)) else A (t + 1)) (hE : A g.2.2.1.length = some true) : zdB (A 0) (Ans g R p q) := by
 by_cases h : Ans g R p q
 ·refine ⟨true, ?_, fun _ => h, fun _ => rfl⟩
  refine zh9 (len := g.2.2.1.length) (bad := fun _ => False) (by omega) (fun t t0 t1 => ⟨fun h => h.elim, fun _ => ?_⟩) (fun _ => hE)
  rw [hA t t0 t1]
  by_cases c1 : (ix g.2.2.1 t).1 = p
  ·rw [if_pos c1]
   obtain ⟨b, e, hb⟩ := hF _ (znC t0 t1)
   have : b = true := hb.2 (h _ (znC t0 t1) c1)
   rw [e, this]; rfl
  ·rw [if_neg c1]
 ·refine ⟨false, ?_, fun e => (by cases e), fun k => absurd k h⟩
  refine zh9 (len := g.2.2.1.length) (bad := fun t => (ix g.2.2.1 t).1 = p /\ ¬ ∃ y ∈ g.2.2.1, y.1 = q /\ y.2.1 = (ix g.2.2.1 t).2.1 /\ R (ix g.2.2.1 t).2.2.1 y.2.2.1) (by omega) (fun t t0 t1 => ?_) (fun hh => ?_)
  ·obtain ⟨b, e, hb⟩ := hF _ (znC t0 t1)
   constructor
   ·rintro ⟨h1, h2⟩
    rw [hA t t0 t1, if_pos h1, e]
    have : b = false := by cases b; rfl; exact absurd (hb.1 rfl) h2
    rw [this]; rfl
   ·intro hn
    rw [hA t t0 t1]
    by_cases c1 : (ix g.2.2.1 t).1 = p
    ·rw [if_pos c1, e]
     have : b = true := by
      cases b with
      | true => rfl
      | false => exact absurd ⟨c1, fun h => by cases hb.2 h⟩ hn
     rw [this]; rfl
    ·rw [if_neg c1]
  ·refine absurd (fun x hx hp => ?_) h
   obtain ⟨t, t0, t1, rfl⟩ := ztp (P := fun y => y = x).1 ⟨x, hx, rfl⟩
   exact Classical.byContradiction fun hn => hh t t0 t1 ⟨hp, hn⟩
end
def tb (N : Int) (f : Int -> Bool) : List Bool := (List.range N.toNat).map fun p : Nat => f (p : Int)
theorem zdA {N : Int} {f : Int -> Bool} (h : 0 <= N) : ((tb N f).length : Int) = N := by unfold tb; simp; omega
theorem zep {N : Int} {f : Int -> Bool} {p : Int} (h0 : 0 <= p) (h1 : p < N) : ix (tb N f) p = f p := by
 unfold tb
 rw [ztD h0 (by simp; omega), List.getElem_map, List.getElem_range]
 congr 1; omega
theorem zwk {N : Int} {l : List Bool} {f : Int -> Bool} (hN : 0 <= N) (hl : (l.length : Int) = N) (h : ∀ p, 0 <= p -> p < N -> ix l p = f p) : l = tb N f := by
 have := zdA (f := f) hN
 exact zv8 (by omega) fun j j0 j1 => by rw [zep j0 (by omega)]; exact h j j0 (by omega)
theorem fill {β : Type} {N : Int} (hN : 0 <= N) {loop : Int -> List Bool -> Option β} {fin : List Bool -> Option β} {f : Int -> Bool}
  (hs : ∀ t out, 0 <= t -> t < N -> (out.length : Int) = N -> loop t out = loop (t + 1) (out.set t.toNat (f t)))
  (hf : ∀ out, (out.length : Int) = N -> loop N out = fin out) {out : List Bool} (ho : (out.length : Int) = N) : loop 0 out = fin (tb N f) := by
 obtain ⟨s', ⟨h1, h2⟩, h3⟩ := ztv (len := N) (L := loop) (f := fun t s => s.set t.toNat (f t)) (lo := 0) (I := fun t s => (s.length : Int) = N /\ ∀ j, 0 <= j -> j < t -> ix s j = f j) (s := out) hN ⟨ho, fun j a b => by omega⟩
  (fun t s t0 t1 hI => ⟨hs t s t0 t1 hI.1, by simp [hI.1], fun j j0 j1 => by
   by_cases e : j = t
   ·subst e; rw [ziH j0 (by omega)]
   ·rw [zoB t0 j0 (fun h => e h.symm)]; exact hI.2 j j0 (by omega)⟩)
 rw [h3, hf s' h1, zwk hN h1 h2]
theorem zkg {N : Int} (h : 0 <= N) : ((List.replicate N.toNat false).length : Int) = N := by simp; omega
theorem zsY {a b : List Bool} (ha : a.length <= 1000) : zd4 a b = some (decide (a = b)) := by
 unfold zd4
 by_cases hl : (a.length : Int) = b.length
 ·rw [if_neg (by simpa using hl)]
  refine zh9 (len := (a.length : Int)) (bad := fun t => ix a t ≠ ix b t) (lo := 0) (by omega) (fun t t0 t1 => ⟨fun hb => ?_, fun hb => ?_⟩) (fun hh => ?_)
  ·rw [ziO]; unfold zcO
   rw [if_pos (by simp; omega)]
   refine G_to (by omega) (G_to (by omega) ?_)
   rw [if_pos (by simpa using hb), decide_eq_false (fun e => hb (by rw [e]))]
  ·conv => lhs; rw [ziO]; unfold zcO
   rw [if_pos (by simp; omega)]
   refine G_to (by omega) (G_to (by omega) ?_)
   rw [if_neg (by simpa using hb)]
   exact G_to (by unfold fits; omega) rfl
  ·rw [ziO]; unfold zcO
   rw [if_neg (by simp), decide_eq_true (zv8 (by omega) fun t t0 t1 => Decidable.not_not.1 (hh t t0 t1))]
 ·rw [if_pos (by simpa using hl), decide_eq_false (fun e => hl (by rw [e]))]
theorem zvV {a b : List Bool} (ha : a.length <= 1000) : zhY a b = some (decide (a = b)) := by
 unfold zhY
 by_cases hl : (a.length : Int) = b.length
 ·rw [if_neg (by simpa using hl)]
  refine zh9 (len := (a.length : Int)) (bad := fun t => ix a t ≠ ix b t) (lo := 0) (by omega) (fun t t0 t1 => ⟨fun hb => ?_, fun hb => ?_⟩) (fun hh => ?_)
  ·rw [zgQ]; unfold zbN
   rw [if_pos (by simp; omega)]
   refine G_to (by omega) (G_to (by omega) ?_)
   rw [if_pos (by simpa using hb), decide_eq_false (fun e => hb (by rw [e]))]
  ·conv => lhs; rw [zgQ]; unfold zbN
   rw [if_pos (by simp; omega)]
   refine G_to (by omega) (G_to (by omega) ?_)
   rw [if_neg (by simpa using hb)]
   exact G_to (by unfold fits; omega) rfl
  ·rw [zgQ]; unfold zbN
   rw [if_neg (by simp), decide_eq_true (zv8 (by omega) fun t t0 t1 => Decidable.not_not.1 (hh t t0 t1))]
 ·rw [if_pos (by simpa using hl), decide_eq_false (fun e => hl (by rw [e]))]
theorem zs1 {s : List Bool} (hs : s.length <= 1000) : zgd s = some s := by
 have hr : G (room ([] : List Bool) s 1) (some (([] : List Bool) ++ s)) = some s := by
  rw [zai (zvC (by simp; omega))]; rfl
 unfold zgd
 refine zzO (fun h => ?_) (fun h => hr)
 obtain rfl : s = [] := List.length_eq_zero_iff.1 h
 rw [hr]; exact zra (ts := [(.list .bool)]) (some ([] : List Bool))
def cnt (X : List Bool) : Nat := (X.filter id).length
theorem zAJ (X : List Bool) : cnt X <= X.length := List.length_filter_le _ _
theorem zvT : ∀ (X Y : List Bool), X.length = Y.length -> (∀ j : Nat, X[j]? = some true -> Y[j]? = some true) -> cnt X <= cnt Y /\ (X ≠ Y -> cnt X < cnt Y)
 | [], [], _, _ => ⟨Nat.le_refl _, fun h => absurd rfl h⟩
 | [], _ :: _, h, _ => by simp at h
 | _ :: _, [], h, _ => by simp at h
 | x :: X, y :: Y, h, hj => by
  obtain ⟨h1, h2⟩ := zvT X Y (by simpa using h) (fun j => by simpa using hj (j + 1))
  have h0 := hj 0
  unfold cnt at h1 h2 ⊢
  cases x <;> cases y
  ·simp only [List.filter_cons, id_eq, Bool.false_eq_true, if_false]
   exact ⟨h1, fun hne => h2 (fun e => hne (by rw [e]))⟩
  ·simp only [List.filter_cons, id_eq, Bool.false_eq_true, if_false, if_true, List.length_cons]
   exact ⟨by omega, fun _ => by omega⟩
  ·simp at h0
  ·simp only [List.filter_cons, id_eq, if_true, List.length_cons]
   exact ⟨by omega, fun hne => by have := h2 (fun e => hne (by rw [e])); omega⟩
theorem zy7 {X Y : List Bool} {N : Int} (hx : (X.length : Int) = N) (hy : (Y.length : Int) = N) (h : ∀ p, 0 <= p -> p < N -> ix X p = true -> ix Y p = true) (hne : X ≠ Y) : cnt X < cnt Y := by
 refine (zvT X Y (by omega) fun j hj => ?_).2 hne
 obtain ⟨h1, h2⟩ := List.getElem?_eq_some_iff.1 hj
 have e := h j (by omega) (by omega) (by rw [ztD (by omega) (by omega)]; simpa using h2)
 rw [ztD (by omega) (by omega)] at e
 rw [List.getElem?_eq_getElem (by omega)]
 simpa using e
theorem zzn {N : Int} {F : List Bool -> List Bool} {loop : List Bool -> Option (List Bool)} {P : List Bool -> Prop} {μ : List Bool -> Nat}
  (hl : ∀ X, (X.length : Int) = N -> loop X = if F X = X then some X else loop (F X))
  (hF : ∀ X, (X.length : Int) = N -> ((F X).length : Int) = N) (hP : ∀ X, (X.length : Int) = N -> P X -> P (F X) /\ (F X ≠ X -> μ (F X) < μ X)) :
  ∀ (m : Nat) X, μ X = m -> (X.length : Int) = N -> P X -> ∃ R, loop X = some R /\ (R.length : Int) = N /\ P R /\ F R = R := by
 intro m
 induction m using Nat.strongRecOn with
 | ind m ih =>
  intro X hm hX hp
  rw [hl X hX]
  by_cases e : F X = X
  ·exact ⟨X, by rw [if_pos e], hX, hp, e⟩
  ·rw [if_neg e]
   obtain ⟨h1, h2⟩ := hP X hX hp
   exact ih _ (by have := h2 e; omega) _ rfl (hF X hX) h1
theorem zuJ {N : Int} {F : List Bool -> List Bool} {loop : List Bool -> Option (List Bool)} {P : List Bool -> Prop}
  (hl : ∀ X, (X.length : Int) = N -> loop X = if F X = X then some X else loop (F X))
  (hF : ∀ X, (X.length : Int) = N -> ((F X).length : Int) = N) (hP : ∀ X, (X.length : Int) = N -> P X -> P (F X) /\ ∀ p, 0 <= p -> p < N -> ix X p = true -> ix (F X) p = true)
  {X : List Bool} (hX : (X.length : Int) = N) (hp : P X) : ∃ R, loop X = some R /\ (R.length : Int) = N /\ P R /\ F R = R :=
 zzn (μ := fun X => N.toNat - cnt X) hl hF (fun X hX hp => ⟨(hP X hX hp).1, fun hne => by
  have h1 := zy7 hX (hF X hX) (hP X hX hp).2 (fun e => hne e.symm)
  have h2 := zAJ (F X)
  have h3 := hF X hX
  show N.toNat - cnt (F X) < N.toNat - cnt X
  omega⟩) _ X rfl hX hp
theorem zrW {N : Int} {F : List Bool -> List Bool} {loop : List Bool -> Option (List Bool)} {P : List Bool -> Prop}
  (hl : ∀ X, (X.length : Int) = N -> loop X = if F X = X then some X else loop (F X))
  (hF : ∀ X, (X.length : Int) = N -> ((F X).length : Int) = N) (hP : ∀ X, (X.length : Int) = N -> P X -> P (F X) /\ ∀ p, 0 <= p -> p < N -> ix (F X) p = true -> ix X p = true)
  {X : List Bool} (hX : (X.length : Int) = N) (hp : P X) : ∃ R, loop X = some R /\ (R.length : Int) = N /\ P R /\ F R = R :=
 zzn (μ := cnt) hl hF (fun X hX hp => ⟨(hP X hX hp).1, fun hne => zy7 (hF X hX) hX (hP X hX hp).2 hne⟩) _ X rfl hX hp
def Go (g : Gr) (p q : Int) : Prop := (∃ x ∈ g.2.2.1, x.1 = p /\ x.2.2.1 = q) \/ ((∀ x ∈ g.2.2.1, x.1 ≠ p) /\ p = q)
theorem Go.rng {g : Gr} (ok : GrOk g) {p q : Int} (h : Go g p q) (h0 : 0 <= p) (h1 : p < g.2.1) : 0 <= q /\ q < g.2.1 := by
 rcases h with ⟨x, hx, _, rfl⟩ | ⟨_, rfl⟩
 ·have := ok.x x hx; omega
 ·exact ⟨h0, h1⟩
open Classical in
noncomputable def St (g : Gr) (all : Bool) (X : List Bool) (p : Int) : Bool := if all then decide (∀ q, Go g p q -> ix X q = true) else decide (∃ q, Go g p q /\ ix X q = true)
theorem zj1 {g : Gr} {X : List Bool} {p : Int} : St g false X p = true ↔ ∃ q, Go g p q /\ ix X q = true := by unfold St; simp
theorem zjy {g : Gr} {X : List Bool} {p : Int} : St g true X p = true ↔ ∀ q, Go g p q -> ix X q = true := by unfold St; simp
theorem znX {g : Gr} (ok : GrOk g) {all : Bool} {X Y : List Bool} (h : ∀ p, 0 <= p -> p < g.2.1 -> ix X p = true -> ix Y p = true) {p : Int} (h0 : 0 <= p) (h1 : p < g.2.1) (hs : St g all X p = true) : St g all Y p = true := by
 cases all
 ·obtain ⟨q, hq, hx⟩ := zj1.1 hs
  obtain ⟨a, b⟩ := hq.rng ok h0 h1
  exact zj1.2 ⟨q, hq, h q a b hx⟩
 ·exact zjy.2 fun q hq => by
   obtain ⟨a, b⟩ := hq.rng ok h0 h1
   exact h q a b (zjy.1 hs q hq)
section
variable {g : Gr}
theorem zsL (ok : GrOk g) (p q : Int) : zdB (zq0 g p q) (Go g p q) := by
 have hn := ok.a
 have key : ∀ (n : Nat) (any : Bool) (i : Int), 0 <= i -> i <= g.2.2.1.length -> ((g.2.2.1.length : Int) - i).toNat = n -> (any = true ↔ ∃ j : Int, 0 <= j /\ j < i /\ (ix g.2.2.1 j).1 = p) -> (∀ j : Int, 0 <= j -> j < i -> ¬ ((ix g.2.2.1 j).1 = p /\ (ix g.2.2.1 j).2.2.1 = q)) ->
   zdB (zlo g p q any i) (Go g p q) := by
  intro n
  induction n with
  | zero =>
   intro any i h0 h1 hn ha hb
   rw [znH]; unfold zdV
   rw [if_neg (by simp; omega)]
   have hno : ¬ ∃ x ∈ g.2.2.1, x.1 = p /\ x.2.2.1 = q := by
    rw [ztp]; rintro ⟨j, j0, j1, h⟩; exact hb j j0 (by omega) h
   cases any with
   | true =>
    rw [if_neg (by simp)]
    obtain ⟨j, j0, j1, hj⟩ := ha.1 rfl
    refine zdB.of ⟨fun h => (by cases h), fun h => ?_⟩
    rcases h with h | ⟨h, _⟩
    ·exact absurd h hno
    ·exact absurd hj (h _ (znC j0 (by omega)))
   | false =>
    rw [if_pos (by simp)]
    have hall : ∀ x ∈ g.2.2.1, x.1 ≠ p := fun x hx e => by
     have : ∃ x ∈ g.2.2.1, x.1 = p := ⟨x, hx, e⟩
     rw [ztp] at this
     obtain ⟨j, j0, j1, hj⟩ := this
     have := ha.2 ⟨j, j0, by omega, hj⟩
     cases this
    exact zdB.dec ⟨fun h => .inr ⟨hall, h⟩, fun h => by
     rcases h with h | ⟨_, h⟩
     ·exact absurd h hno
     ·exact h⟩
  | succ n ih =>
   intro any i h0 h1 hn ha hb
   rw [znH]; unfold zdV
   have i1 : 0 <= i + 1 /\ i + 1 <= g.2.2.1.length /\ ((g.2.2.1.length : Int) - (i + 1)).toNat = n /\ i < g.2.2.1.length := by clear ha hb; omega
   obtain ⟨i1, i2, i3, i4⟩ := i1
   rw [if_pos (decide_eq_true i4), zai ⟨h0, i4⟩]
   by_cases e1 : (ix g.2.2.1 i).1 = p
   ·rw [if_pos (decide_eq_true e1), zai ⟨h0, i4⟩]
    by_cases e2 : (ix g.2.2.1 i).2.2.1 = q
    ·rw [if_pos (decide_eq_true e2)]
     exact zdB.of ⟨fun _ => .inl ⟨_, znC h0 i4, e1, e2⟩, fun _ => rfl⟩
    ·rw [if_neg (by simpa using e2), zai (zaL (by clear ha hb; omega) (by clear ha hb; omega))]
     refine ih true (i + 1) i1 i2 i3 ⟨fun _ => ⟨i, h0, by omega, e1⟩, fun _ => rfl⟩ fun j j0 j1 h => ?_
     by_cases ej : j = i
     ·subst ej; exact e2 h.2
     ·exact hb j j0 (by omega) h
   ·rw [if_neg (by simpa using e1), zai (zaL (by clear ha hb; omega) (by clear ha hb; omega))]
    refine ih any (i + 1) i1 i2 i3 (ha.trans ⟨fun ⟨j, a, b, c⟩ => ⟨j, a, by omega, c⟩, fun ⟨j, a, b, c⟩ => ⟨j, a, ?_, c⟩⟩) fun j j0 j1 h => ?_
    ·by_cases ej : j = i
     ·subst ej; exact absurd c e1
     ·omega
    ·by_cases ej : j = i
     ·subst ej; exact e1 h.1
     ·exact hb j j0 (by omega) h
 exact key _ false 0 (by omega) (by omega) rfl ⟨fun h => (by cases h), fun ⟨j, a, b, _⟩ => by omega⟩ (fun j a b => by omega)
theorem zyc (ok : GrOk g) {X : List Bool} (hX : (X.length : Int) = g.2.1) {p : Int} (h0 : 0 <= p) (h1 : p < g.2.1) : zlp g p X = some (St g false X p) := by
 have hn := ok.n
 have t : zdB (zlp g p X) (∃ q, Go g p q /\ ix X q = true) := by
  unfold zlp
  by_cases hh : ∃ q, Go g p q /\ ix X q = true
  ·refine zdB.iff (P := True) ⟨true, ?_, by simp⟩ (by simp [hh])
   refine zh9 (len := g.2.1) (bad := fun q => Go g p q /\ ix X q = true) (lo := 0) (by omega) (fun q q0 q1 => ⟨fun hb => ?_, fun hb => ?_⟩) (fun hx => ?_)
   ·rw [zhA]; unfold zcK
    rw [if_pos (decide_eq_true q1)]
    refine (zsL ok p q).to (fun _ => ?_) (fun h => absurd hb.1 h)
    rw [zai (by omega), if_pos hb.2]
   ·conv => lhs; rw [zhA]; unfold zcK
    rw [if_pos (decide_eq_true q1)]
    refine (zsL ok p q).to (fun h => ?_) (fun h => ?_)
    ·rw [zai (by omega), if_neg (fun e => hb ⟨h, e⟩), zai (by unfold fits; omega)]
    ·rw [zai (by unfold fits; omega)]
   ·obtain ⟨q, hq, e⟩ := hh
    obtain ⟨a, b⟩ := hq.rng ok h0 h1
    exact absurd ⟨hq, e⟩ (hx q a b)
  ·refine zdB.iff (P := False) ⟨false, ?_, by simp⟩ (by simp [hh])
   refine zh9 (len := g.2.1) (bad := fun q => Go g p q /\ ix X q = true) (lo := 0) (by omega) (fun q q0 q1 => ⟨fun hb => absurd ⟨q, hb⟩ hh, fun hb => ?_⟩) (fun hx => ?_)
   ·conv => lhs; rw [zhA]; unfold zcK
    rw [if_pos (decide_eq_true q1)]
    refine (zsL ok p q).to (fun h => ?_) (fun h => ?_)
    ·rw [zai (by omega), if_neg (fun e => hb ⟨h, e⟩), zai (by unfold fits; omega)]
    ·rw [zai (by unfold fits; omega)]
   ·rw [zhA]; unfold zcK
    rw [if_neg (by simp)]
 obtain ⟨b, e, hb⟩ := t
 rw [e]
 have : b = true ↔ St g false X p = true := hb.trans zj1.symm
 congr 1
 exact Bool.eq_iff_iff.2 this
theorem zvy (ok : GrOk g) {X : List Bool} (hX : (X.length : Int) = g.2.1) {p : Int} (h0 : 0 <= p) (h1 : p < g.2.1) : ziQ g p X = some (St g true X p) := by
 have hn := ok.n
 have t : zdB (ziQ g p X) (∀ q, Go g p q -> ix X q = true) := by
  unfold ziQ
  by_cases hh : ∃ q, Go g p q /\ ix X q ≠ true
  ·refine zdB.iff (P := False) ⟨false, ?_, by simp⟩ ⟨fun h => h.elim, fun h => ?_⟩
   ·refine zh9 (len := g.2.1) (bad := fun q => Go g p q /\ ix X q ≠ true) (lo := 0) (by omega) (fun q q0 q1 => ⟨fun hb => ?_, fun hb => ?_⟩) (fun hx => ?_)
    ·rw [zgF]; unfold zcj
     rw [if_pos (decide_eq_true q1)]
     refine (zsL ok p q).to (fun _ => ?_) (fun h => absurd hb.1 h)
     rw [zai (by omega), if_pos (by simpa using hb.2)]
    ·conv => lhs; rw [zgF]; unfold zcj
     rw [if_pos (decide_eq_true q1)]
     refine (zsL ok p q).to (fun h => ?_) (fun h => ?_)
     ·rw [zai (by omega), if_neg (fun e => hb ⟨h, by simpa using e⟩), zai (by unfold fits; omega)]
     ·rw [zai (by unfold fits; omega)]
    ·obtain ⟨q, hq, e⟩ := hh
     obtain ⟨a, b⟩ := hq.rng ok h0 h1
     exact absurd ⟨hq, e⟩ (hx q a b)
   ·obtain ⟨q, hq, e⟩ := hh
    exact e (h q hq)
  ·have hall : ∀ q, Go g p q -> ix X q = true := fun q hq => Classical.byContradiction fun e => hh ⟨q, hq, e⟩
   refine zdB.iff (P := True) ⟨true, ?_, by simp⟩ ⟨fun _ => hall, fun _ => trivial⟩
   refine zh9 (len := g.2.1) (bad := fun q => Go g p q /\ ix X q ≠ true) (lo := 0) (by omega) (fun q q0 q1 => ⟨fun hb => absurd ⟨q, hb⟩ hh, fun hb => ?_⟩) (fun hx => ?_)
   ·conv => lhs; rw [zgF]; unfold zcj
    rw [if_pos (decide_eq_true q1)]
    refine (zsL ok p q).to (fun h => ?_) (fun h => ?_)
    ·rw [zai (by omega), if_neg (fun e => hb ⟨h, by simpa using e⟩), zai (by unfold fits; omega)]
    ·rw [zai (by unfold fits; omega)]
   ·rw [zgF]; unfold zcj
    rw [if_neg (by simp)]
 obtain ⟨b, e, hb⟩ := t
 rw [e]
 have : b = true ↔ St g true X p = true := hb.trans zjy.symm
 congr 1
 exact Bool.eq_iff_iff.2 this
end
abbrev Wlk := Gr × List (List Int) × Unit
structure WOk (g : Gr) (w : Wlk) : Prop where
 e : w.1 = g
 l : (w.2.1.length : Int) = g.2.1
 r : ∀ p, 0 <= p -> p < g.2.1 -> (ix w.2.1 p).length <= 61 /\ ∀ q, q ∈ ix w.2.1 p ↔ Go g p q
theorem zpK {N : Int} {b : Nat} (h0 : 0 <= N) (h1 : N <= 12) (hb : b <= 24) : mkOK N N b := ⟨h0, by omega, by
 have : N * b <= 12 * 24 := Int.mul_le_mul h1 (by omega) (by omega) (by omega)
 omega⟩
structure Lf (g : Gr) (all : Bool) (a b R : List Bool) : Prop where
 l : (R.length : Int) = g.2.1
 t : ∀ p, 0 <= p -> p < g.2.1 -> ix b p = true -> ix R p = true
 s : ∀ p, 0 <= p -> p < g.2.1 -> ix a p = true -> St g all R p = true -> ix R p = true
 m : ∀ S : List Bool, (S.length : Int) = g.2.1 -> (∀ p, 0 <= p -> p < g.2.1 -> ix b p = true -> ix S p = true) -> (∀ p, 0 <= p -> p < g.2.1 -> ix a p = true -> St g all S p = true -> ix S p = true) -> ∀ p, 0 <= p -> p < g.2.1 -> ix R p = true -> ix S p = true
structure Gf (g : Gr) (all : Bool) (a R : List Bool) : Prop where
 l : (R.length : Int) = g.2.1
 s : ∀ p, 0 <= p -> p < g.2.1 -> ix R p = true -> ix a p = true /\ St g all R p = true
 m : ∀ S : List Bool, (S.length : Int) = g.2.1 -> (∀ p, 0 <= p -> p < g.2.1 -> ix S p = true -> ix a p = true /\ St g all S p = true) -> ∀ p, 0 <= p -> p < g.2.1 -> ix S p = true -> ix R p = true
theorem zzo {N : Int} {X Y : List Bool} (hx : (X.length : Int) = N) (hy : (Y.length : Int) = N) (h : ∀ p, 0 <= p -> p < N -> (ix X p = true ↔ ix Y p = true)) : X = Y :=
 zv8 (by omega) fun p p0 p1 => Bool.eq_iff_iff.2 (h p p0 (by omega))
theorem Lf.uniq {g : Gr} {all : Bool} {a b R S : List Bool} (h : Lf g all a b R) (k : Lf g all a b S) : R = S :=
 zzo h.l k.l fun p p0 p1 => ⟨h.m S k.l k.t k.s p p0 p1, k.m R h.l h.t h.s p p0 p1⟩
theorem Gf.uniq {g : Gr} {all : Bool} {a R S : List Bool} (h : Gf g all a R) (k : Gf g all a S) : R = S :=
 zzo h.l k.l fun p p0 p1 => ⟨k.m R h.l h.s p p0 p1, h.m S k.l k.s p p0 p1⟩
section
variable {g : Gr} {w : Wlk}
theorem ztE (ok : GrOk g) (hw : WOk g w) {X : List Bool} (hX : (X.length : Int) = g.2.1) {p : Int} (h0 : 0 <= p) (h1 : p < g.2.1) : zcd w p X = some (St g false X p) := by
 have hr := hw.r p h0 h1
 unfold zcd
 rw [zai ⟨h0, by have := hw.l; omega⟩]
 have t : zdB (zdr (ix w.2.1 p) X) (∃ q ∈ ix w.2.1 p, ix X q = true) := by
  unfold zdr zgT
  refine zj7 (s := ix w.2.1 p) (f := fun q => zcm q X) (L := fun t => zdt (ix w.2.1 p) X t) (P := fun q => ix X q = true) (fun t => ?_) (by omega) (fun q hq => ?_)
  ·exact zk1 _ _ _
  ·obtain ⟨a, b⟩ := ((hr.2 q).1 hq).rng ok h0 h1
   show zdB (zcm q X) _
   unfold zcm
   rw [zai ⟨a, by omega⟩]
   exact ⟨_, rfl, Iff.rfl⟩
 obtain ⟨b, e, hb⟩ := t
 rw [e]
 have : b = true ↔ St g false X p = true := hb.trans ((Iff.intro (fun ⟨q, a, c⟩ => ⟨q, (hr.2 q).1 a, c⟩) (fun ⟨q, a, c⟩ => ⟨q, (hr.2 q).2 a, c⟩)).trans zj1.symm)
 exact congrArg some (Bool.eq_iff_iff.2 this)
theorem zsB {N : Int} {a : List Bool} (ha : (a.length : Int) = N) (h1 : N <= 12) : zcs a = some (tb N fun p => !ix a p) := by
 unfold zcs
 rw [zs1 (by omega)]
 show zew a 0 a = _
 refine fill (N := N) (by omega) (loop := fun t out => zew a t out) (fin := fun out => some out) (fun t out t0 t1 ho => ?_) (fun out ho => ?_) ha
 ·conv => lhs; rw [zlz]; unfold zcS
  rw [if_pos (decide_eq_true (by omega)), zai ⟨t0, by omega⟩, zai ⟨t0, by omega⟩, zai (by omega), zai (zaL (by omega) (by omega))]
 ·show zew a N out = some out
  rw [zlz]; unfold zcS
  rw [if_neg (by simp; omega)]
theorem wlen (ok : GrOk g) (hw : WOk g w) : ((List.replicate (w.1.2.1).toNat (false : Bool)).length : Int) = g.2.1 := by
 have := ok.n; rw [hw.e]; simp; omega
theorem zkJ (ok : GrOk g) (hw : WOk g w) {f : Int -> Bool} {loop : Int -> List Bool -> Option (List Bool)} {rule : Int -> Option Bool}
  (hl : ∀ t out, loop t out = if (decide (t < ((List.replicate (w.1.2.1).toNat (false : Bool)).length : Int))) = true then (rule t).bind (fun y' => G (0 <= t /\ t < (out.length : Int)) (G ((t).toNat < out.length) (G (fits (t + (1 : Int))) (loop (t + (1 : Int)) (out.set (t).toNat y'))))) else some out)
  (hr : ∀ t, 0 <= t -> t < g.2.1 -> rule t = some (f t)) : G (mkOK w.1.2.1 w.1.2.1 1) (loop 0 (List.replicate (w.1.2.1).toNat (false : Bool))) = some (tb g.2.1 f) := by
 have hn := ok.n
 have hwl := wlen ok hw
 rw [zai (by rw [hw.e]; exact zpK (by omega) (by omega) (by omega))]
 refine fill (N := g.2.1) (by omega) (loop := loop) (fin := fun out => some out) (f := f) (fun t out t0 t1 ho => ?_) (fun out ho => ?_) hwl
 ·rw [hl, if_pos (decide_eq_true (by omega)), hr t t0 t1]
  show G _ _ = _
  rw [zai ⟨t0, by omega⟩, zai (by omega), zai (zaL (by omega) (by omega))]
 ·rw [hl, if_neg (by simp only [decide_eq_true_eq]; omega)]
theorem zxn (ok : GrOk g) (hw : WOk g w) {a b : List Bool} (ha : (a.length : Int) = g.2.1) (hb : (b.length : Int) = g.2.1) : zdD w a b = some (tb g.2.1 fun p => ix a p && ix b p) := by
 unfold zdD
 refine zkJ ok hw (loop := fun t out => zcF w a b t out) (rule := fun t => zdh t a b) (fun t out => zji _ _ _ _ _) (fun t t0 t1 => ?_)
 unfold zdh
 rw [zai ⟨t0, by omega⟩]
 cases ix a t <;> simp [zai (show 0 <= t /\ t < (b.length : Int) from ⟨t0, by omega⟩)]
theorem zxo (ok : GrOk g) (hw : WOk g w) {a b : List Bool} (ha : (a.length : Int) = g.2.1) (hb : (b.length : Int) = g.2.1) : zdE w a b = some (tb g.2.1 fun p => ix a p || ix b p) := by
 unfold zdE
 refine zkJ ok hw (loop := fun t out => zcG w a b t out) (rule := fun t => zdi t a b) (fun t out => zjk _ _ _ _ _) (fun t t0 t1 => ?_)
 unfold zdi
 rw [zai ⟨t0, by omega⟩]
 cases ix a t <;> simp [zai (show 0 <= t /\ t < (b.length : Int) from ⟨t0, by omega⟩)]
theorem zxr (ok : GrOk g) (hw : WOk g w) {a b : List Bool} (ha : (a.length : Int) = g.2.1) (hb : (b.length : Int) = g.2.1) : zca w a b = some (tb g.2.1 fun p => !ix a p && !ix b p) := by
 unfold zca
 refine zkJ ok hw (loop := fun t out => zcH w a b t out) (rule := fun t => zdj t a b) (fun t out => zjo _ _ _ _ _) (fun t t0 t1 => ?_)
 unfold zdj
 rw [zai ⟨t0, by omega⟩]
 cases ix a t <;> simp [zai (show 0 <= t /\ t < (b.length : Int) from ⟨t0, by omega⟩)]
theorem zxs (ok : GrOk g) (hw : WOk g w) {a b : List Bool} (ha : (a.length : Int) = g.2.1) (hb : (b.length : Int) = g.2.1) : zdH w a b = some (tb g.2.1 fun p => !ix a p && !ix b p) := by
 unfold zdH
 refine zkJ ok hw (loop := fun t out => zcI w a b t out) (rule := fun t => zdk t a b) (fun t out => zjq _ _ _ _ _) (fun t t0 t1 => ?_)
 unfold zdk
 rw [zai ⟨t0, by omega⟩]
 cases ix a t <;> simp [zai (show 0 <= t /\ t < (b.length : Int) from ⟨t0, by omega⟩)]
theorem zzf (ok : GrOk g) (hw : WOk g w) : zex w = some (tb g.2.1 fun _ => true) := by
 have : zdc w = some (tb g.2.1 fun _ => true) := by
  unfold zdc
  exact zkJ ok hw (loop := fun t out => zcu w t out) (rule := fun t => zfB t) (fun t out => ziA _ _ _) (fun t t0 t1 => rfl)
 unfold zex
 rw [this]; rfl
theorem zst (ok : GrOk g) (hw : WOk g w) {a : List Bool} (ha : (a.length : Int) = g.2.1) : zdb w a w = some (tb g.2.1 fun p => St g false a p, w) := by
 have hn := ok.n
 have hwl := wlen ok hw
 unfold zdb
 rw [zai (by rw [hw.e]; exact zpK (by omega) (by omega) (by omega))]
 refine fill (N := g.2.1) (by omega) (loop := fun t out => zbM w a t w out) (fin := fun out => some (out, w)) (f := fun p => St g false a p) (fun t out t0 t1 ho => ?_) (fun out ho => ?_) hwl
 ·conv => lhs; rw [zei]; unfold zaO zen
  rw [if_pos (decide_eq_true (by omega)), ztE ok hw ha t0 t1]
  show G _ _ = _
  rw [zai ⟨t0, by omega⟩, zai (by omega), zai (zaL (by omega) (by omega))]
 ·show zbM w a g.2.1 w out = _
  rw [zei]; unfold zaO
  rw [if_neg (by simp only [decide_eq_true_eq]; omega)]
theorem zxp (ok : GrOk g) (hw : WOk g w) {a X : List Bool} (ha : (a.length : Int) = g.2.1) (hX : (X.length : Int) = g.2.1) : zdF w a w X = some (tb g.2.1 fun p => ix X p || (ix a p && St g false X p), X, a, w) := by
 have hn := ok.n
 have hwl := wlen ok hw
 unfold zdF
 rw [zai (by rw [hw.e]; exact zpK (by omega) (by omega) (by omega))]
 refine fill (N := g.2.1) (by omega) (loop := fun t out => zbR w t a w out X) (fin := fun out => some (out, X, a, w)) (f := fun p => ix X p || (ix a p && St g false X p)) (fun t out t0 t1 ho => ?_) (fun out ho => ?_) hwl
 ·have hu : zcJ t a w X = some (ix X t || (ix a t && St g false X t), X, a, w) := by
   unfold zcJ
   rw [zai ⟨t0, by omega⟩, zai (by omega)]
   cases hx : ix X t
   ·rw [if_neg (by simp), zai ⟨t0, by omega⟩]
    cases hy : ix a t
    ·rfl
    ·rw [if_pos rfl, ztE ok hw hX t0 t1]; rfl
   ·rfl
  conv => lhs; rw [zeI]; unfold zaW
  rw [if_pos (decide_eq_true (by omega)), hu]
  show G _ _ = _
  rw [zai ⟨t0, by omega⟩, zai (by omega), zai (zaL (by omega) (by omega))]
 ·show zbR w g.2.1 a w out X = _
  rw [zeI]; unfold zaW
  rw [if_neg (by simp only [decide_eq_true_eq]; omega)]
theorem zxq (ok : GrOk g) (hw : WOk g w) {X : List Bool} (hX : (X.length : Int) = g.2.1) : zdG w w X = some (tb g.2.1 fun p => ix X p && St g false X p, X, w) := by
 have hn := ok.n
 have hwl := wlen ok hw
 unfold zdG
 rw [zai (by rw [hw.e]; exact zpK (by omega) (by omega) (by omega))]
 refine fill (N := g.2.1) (by omega) (loop := fun t out => zbS w t w out X) (fin := fun out => some (out, X, w)) (f := fun p => ix X p && St g false X p) (fun t out t0 t1 ho => ?_) (fun out ho => ?_) hwl
 ·have hu : zc0 t w X = some (ix X t && St g false X t, X, w) := by
   unfold zc0
   rw [zai ⟨t0, by omega⟩, zai (by omega)]
   cases hx : ix X t
   ·rfl
   ·rw [if_pos rfl, ztE ok hw hX t0 t1]; rfl
  conv => lhs; rw [zeJ]; unfold zaX
  rw [if_pos (decide_eq_true (by omega)), hu]
  show G _ _ = _
  rw [zai ⟨t0, by omega⟩, zai (by omega), zai (zaL (by omega) (by omega))]
 ·show zbS w g.2.1 w out X = _
  rw [zeJ]; unfold zaX
  rw [if_neg (by simp only [decide_eq_true_eq]; omega)]
theorem zq2 (ok : GrOk g) (hw : WOk g w) {a b : List Bool} (ha : (a.length : Int) = g.2.1) (hb : (b.length : Int) = g.2.1) : ∃ R, zaI w a b = some R /\ Lf g false a b R := by
 have hn := ok.n
 unfold zaI
 rw [zs1 (by omega)]
 obtain ⟨R, e, hl, ⟨p1, p2⟩, hf⟩ := zuJ (N := g.2.1) (F := fun X => tb g.2.1 fun p => ix X p || (ix a p && St g false X p)) (loop := fun X => zc2 w a X)
  (P := fun X => (∀ p, 0 <= p -> p < g.2.1 -> ix b p = true -> ix X p = true) /\ ∀ S : List Bool, (S.length : Int) = g.2.1 -> (∀ p, 0 <= p -> p < g.2.1 -> ix b p = true -> ix S p = true) -> (∀ p, 0 <= p -> p < g.2.1 -> ix a p = true -> St g false S p = true -> ix S p = true) -> ∀ p, 0 <= p -> p < g.2.1 -> ix X p = true -> ix S p = true)
  (fun X hX => by
   conv => lhs; rw [zj5]; unfold zbe
   rw [zxp ok hw ha hX]
   simp only [Option.bind_some]
   rw [zvV (by have := zdA (N := g.2.1) (f := fun p => ix X p || (ix a p && St g false X p)) (by omega); omega)]
   simp only [Option.bind_some, decide_eq_true_eq])
  (fun X _ => zdA (by omega))
  (fun X hX hp => ⟨⟨fun p p0 p1 h => by rw [zep p0 p1, hp.1 p p0 p1 h]; rfl, fun S hS s1 s2 p p0 p1 h => by
   rw [zep p0 p1] at h
   rcases (Bool.or_eq_true _ _).mp h with h | h
   ·exact hp.2 S hS s1 s2 p p0 p1 h
   ·obtain ⟨h1, h2⟩ := (Bool.and_eq_true _ _).mp h
    exact s2 p p0 p1 h1 (znX ok (hp.2 S hS s1 s2) p0 p1 h2)⟩, fun p p0 p1 h => by rw [zep p0 p1, h]; rfl⟩)
  hb ⟨fun p _ _ h => h, fun S hS s1 s2 => s1⟩
 refine ⟨R, e, hl, p1, fun p q0 q1 h1 h2 => ?_, p2⟩
 rw [<- hf, zep q0 q1, h1, h2]
 simp
theorem zvq (ok : GrOk g) (hw : WOk g w) {a : List Bool} (ha : (a.length : Int) = g.2.1) : ∃ R, zbU w a = some R /\ Gf g false a R := by
 have hn := ok.n
 unfold zbU
 rw [zs1 (by omega)]
 obtain ⟨R, e, hl, ⟨p1, p2⟩, hf⟩ := zrW (N := g.2.1) (F := fun X => tb g.2.1 fun p => ix X p && St g false X p) (loop := fun X => zde w X)
  (P := fun X => (∀ p, 0 <= p -> p < g.2.1 -> ix X p = true -> ix a p = true) /\ ∀ S : List Bool, (S.length : Int) = g.2.1 -> (∀ p, 0 <= p -> p < g.2.1 -> ix S p = true -> ix a p = true /\ St g false S p = true) -> ∀ p, 0 <= p -> p < g.2.1 -> ix S p = true -> ix X p = true)
  (fun X hX => by
   conv => lhs; rw [zku]; unfold zbm
   rw [zxq ok hw hX]
   simp only [Option.bind_some]
   rw [zvV (by have := zdA (N := g.2.1) (f := fun p => ix X p && St g false X p) (by omega); omega)]
   simp only [Option.bind_some, decide_eq_true_eq])
  (fun X _ => zdA (by omega))
  (fun X hX hp => ⟨⟨fun p p0 p1 h => by
    rw [zep p0 p1] at h
    exact hp.1 p p0 p1 ((Bool.and_eq_true _ _).mp h).1, fun S hS s1 p p0 p1 h => by
    rw [zep p0 p1, hp.2 S hS s1 p p0 p1 h, znX ok (hp.2 S hS s1) p0 p1 (s1 p p0 p1 h).2]; rfl⟩, fun p p0 p1 h => by
    rw [zep p0 p1] at h
    exact ((Bool.and_eq_true _ _).mp h).1⟩)
  ha ⟨fun p _ _ h => h, fun S hS s1 p p0 p1 h => (s1 p p0 p1 h).1⟩
 refine ⟨R, e, hl, fun p q0 q1 h => ⟨p1 p q0 q1 h, ?_⟩, p2⟩
 rw [<- hf, zep q0 q1] at h
 exact ((Bool.and_eq_true _ _).mp h).2
theorem zyq (ok : GrOk g) {all : Bool} {a b : List Bool} (ha : (a.length : Int) = g.2.1) (hb : (b.length : Int) = g.2.1) : ∃ R, zjV g all a b = some R /\ Lf g all a b R := by
 have hn := ok.n
 have eg : (g.1, g.2.1, g.2.2.1, ()) = g := rfl
 have hb0 : ¬ b.length = 0 := by omega
 have mk := zpK (N := g.2.1) (b := 1) (by omega) (by omega) (by omega)
 have st : zjV g all a b = zbr g all a b (tb g.2.1 fun _ => false) := by
  unfold zjV
  rw [zai mk]
  refine fill (N := g.2.1) (by omega) (loop := fun t out => zi2 g all a b t out) (fin := fun out => zbr g all a b out) (f := fun _ => false) (fun t out t0 t1 ho => ?_) (fun out ho => ?_) (zkg (by omega))
  ·conv => lhs; rw [znK]; unfold zdX
   rw [if_pos (decide_eq_true t1), if_neg hb0, zai ⟨t0, by omega⟩, zai (by omega), zai (zaL (by omega) (by omega))]
  ·show zi2 g all a b g.2.1 out = _
   rw [znK]; unfold zdX
   rw [if_neg (by simp)]
 rw [st]
 obtain ⟨R, e, hl, ⟨p1, p2⟩, hf⟩ := zuJ (N := g.2.1) (F := fun X => tb g.2.1 fun p => ix b p || (ix a p && St g all X p)) (loop := fun X => zbr g all a b X)
  (P := fun X => (∀ p, 0 <= p -> p < g.2.1 -> ix X p = true -> ix (tb g.2.1 fun p => ix b p || (ix a p && St g all X p)) p = true) /\ ∀ S : List Bool, (S.length : Int) = g.2.1 -> (∀ p, 0 <= p -> p < g.2.1 -> ix b p = true -> ix S p = true) -> (∀ p, 0 <= p -> p < g.2.1 -> ix a p = true -> St g all S p = true -> ix S p = true) -> ∀ p, 0 <= p -> p < g.2.1 -> ix X p = true -> ix S p = true)
  (fun X hX => by
   have h1 : zbr g all a b X = (fun out => (zd4 out X).bind fun y => if y = true then some X else zbr g all a b out) (tb g.2.1 fun p => ix b p || (ix a p && St g all X p)) := by
    conv => lhs; rw [zsm]; unfold zeC
    rw [zai mk]
    refine fill (N := g.2.1) (by omega) (loop := fun t out => zcy g all a b X (zbr g all a b) t out) (fin := fun out => (zd4 out X).bind fun y => if y = true then some X else zbr g all a b out) (f := fun p => ix b p || (ix a p && St g all X p)) (fun t out t0 t1 ho => ?_) (fun out ho => ?_) (zkg (by omega))
    ·have j12 : ∀ goes, zes a b t out (zcy g all a b X (zbr g all a b)) goes = zcy g all a b X (zbr g all a b) (t + 1) (out.set t.toNat (ix b t || (ix a t && goes))) := by
      intro goes
      have j14 : ∀ v, zet b t (zcy g all a b X (zbr g all a b)) (out.set t.toNat v) = zcy g all a b X (zbr g all a b) (t + 1) (out.set t.toNat (ix b t || v)) := by
       intro v
       have hl2 : ((out.set t.toNat v).length : Int) = g.2.1 := by simp; omega
       unfold zet zeu
       rw [if_neg hb0, if_pos rfl, zai ⟨t0, by omega⟩]
       cases ix b t
       ·rw [if_neg (by simp), zai ⟨t0, by omega⟩, zai (by omega), zai ⟨t0, by omega⟩, zai (by omega), zai (zaL (by omega) (by omega)), ziH t0 (by omega), List.set_set]; rfl
       ·rw [if_pos rfl, zai ⟨t0, by omega⟩, zai (by omega), zai (zaL (by omega) (by omega)), List.set_set]; rfl
      unfold zes
      rw [zai ⟨t0, by omega⟩]
      cases ix a t
      ·rw [if_neg (by simp), zai ⟨t0, by omega⟩, zai (by omega), j14]; rfl
      ·rw [if_pos rfl, zai ⟨t0, by omega⟩, zai (by omega), j14]; rfl
     conv => lhs; rw [znM]; unfold zdY
     rw [if_pos (decide_eq_true t1), eg, zyc ok hX t0 t1]
     show (if all = true then _ else _) = _
     cases all
     ·rw [if_neg (by simp)]; exact j12 _
     ·rw [if_pos rfl, zvy ok hX t0 t1]; exact j12 _
    ·show zcy g all a b X (zbr g all a b) g.2.1 out = _
     rw [znM]; unfold zdY
     rw [if_neg (by simp)]
   show zbr g all a b X = _
   rw [h1]
   show (zd4 _ X).bind _ = _
   rw [zsY (by have := zdA (N := g.2.1) (f := fun p => ix b p || (ix a p && St g all X p)) (by omega); omega)]
   simp only [Option.bind_some, decide_eq_true_eq])
  (fun X _ => zdA (by omega))
  (fun X hX hp => ⟨⟨fun p p0 p1 h => by
    have h' := h
    rw [zep p0 p1] at h
    rw [zep p0 p1]
    rcases (Bool.or_eq_true _ _).mp h with h | h
    ·rw [h]; rfl
    ·obtain ⟨h1, h2⟩ := (Bool.and_eq_true _ _).mp h
     rw [h1, znX ok hp.1 p0 p1 h2]; simp, fun S hS s1 s2 p p0 p1 h => by
    rw [zep p0 p1] at h
    rcases (Bool.or_eq_true _ _).mp h with h | h
    ·exact s1 p p0 p1 h
    ·obtain ⟨h1, h2⟩ := (Bool.and_eq_true _ _).mp h
     exact s2 p p0 p1 h1 (znX ok (hp.2 S hS s1 s2) p0 p1 h2)⟩, hp.1⟩)
  (X := tb g.2.1 fun _ => false) (zdA (by omega)) ⟨fun p p0 p1 h => (by rw [zep p0 p1] at h; cases h), fun S hS s1 s2 p p0 p1 h => (by rw [zep p0 p1] at h; cases h)⟩
 refine ⟨R, e, hl, fun p q0 q1 h => ?_, fun p q0 q1 h1 h2 => ?_, p2⟩
 ·rw [<- hf, zep q0 q1, h]; rfl
 ·rw [<- hf, zep q0 q1, h1, h2]; simp
theorem zy0 (ok : GrOk g) {all : Bool} {a : List Bool} (ha : (a.length : Int) = g.2.1) : ∃ R, zkR g all a = some R /\ Gf g all a R := by
 have hn := ok.n
 have eg : (g.1, g.2.1, g.2.2.1, ()) = g := rfl
 have mk := zpK (N := g.2.1) (b := 1) (by omega) (by omega) (by omega)
 have st : zkR g all a = zba g all a (tb g.2.1 fun _ => true) := by
  unfold zkR
  rw [zai mk]
  refine fill (N := g.2.1) (by omega) (loop := fun t out => zgK g all a t out) (fin := fun out => zba g all a out) (f := fun _ => true) (fun t out t0 t1 ho => ?_) (fun out ho => ?_) (zkg (by omega))
  ·conv => lhs; rw [zlC]; unfold zcV
   rw [if_pos (decide_eq_true t1), zai ⟨t0, by omega⟩, zai (by omega), zai (zaL (by omega) (by omega))]
  ·show zgK g all a g.2.1 out = _
   rw [zlC]; unfold zcV
   rw [if_neg (by simp)]
 rw [st]
 obtain ⟨R, e, hl, ⟨p1, p2⟩, hf⟩ := zrW (N := g.2.1) (F := fun X => tb g.2.1 fun p => ix a p && St g all X p) (loop := fun X => zba g all a X)
  (P := fun X => (∀ p, 0 <= p -> p < g.2.1 -> ix (tb g.2.1 fun p => ix a p && St g all X p) p = true -> ix X p = true) /\ ∀ S : List Bool, (S.length : Int) = g.2.1 -> (∀ p, 0 <= p -> p < g.2.1 -> ix S p = true -> ix a p = true /\ St g all S p = true) -> ∀ p, 0 <= p -> p < g.2.1 -> ix S p = true -> ix X p = true)
  (fun X hX => by
   have h1 : zba g all a X = (fun out => (zd4 out X).bind fun y => if y = true then some X else zba g all a out) (tb g.2.1 fun p => ix a p && St g all X p) := by
    conv => lhs; rw [zqH]; unfold zdP
    rw [zai mk]
    refine fill (N := g.2.1) (by omega) (loop := fun t out => zck g all a X (zba g all a) t out) (fin := fun out => (zd4 out X).bind fun y => if y = true then some X else zba g all a out) (f := fun p => ix a p && St g all X p) (fun t out t0 t1 ho => ?_) (fun out ho => ?_) (zkg (by omega))
    ·have j12 : ∀ goes, zdx a t out (zck g all a X (zba g all a)) goes = zck g all a X (zba g all a) (t + 1) (out.set t.toNat (ix a t && goes)) := by
      intro goes
      unfold zdx
      rw [zai ⟨t0, by omega⟩]
      cases ix a t
      ·rw [if_neg (by simp), zai ⟨t0, by omega⟩, zai (by omega), zai (zaL (by omega) (by omega))]; rfl
      ·rw [if_pos rfl, zai ⟨t0, by omega⟩, zai (by omega), zai (zaL (by omega) (by omega))]; rfl
     conv => lhs; rw [zlE]; unfold zcW
     rw [if_pos (decide_eq_true t1), eg, zyc ok hX t0 t1]
     show (if all = true then _ else _) = _
     cases all
     ·rw [if_neg (by simp)]; exact j12 _
     ·rw [if_pos rfl, zvy ok hX t0 t1]; exact j12 _
    ·show zck g all a X (zba g all a) g.2.1 out = _
     rw [zlE]; unfold zcW
     rw [if_neg (by simp)]
   show zba g all a X = _
   rw [h1]
   show (zd4 _ X).bind _ = _
   rw [zsY (by have := zdA (N := g.2.1) (f := fun p => ix a p && St g all X p) (by omega); omega)]
   simp only [Option.bind_some, decide_eq_true_eq])
  (fun X _ => zdA (by omega))
  (fun X hX hp => ⟨⟨fun p p0 p1 h => by
    rw [zep p0 p1] at h
    rw [zep p0 p1]
    obtain ⟨h1, h2⟩ := (Bool.and_eq_true _ _).mp h
    rw [h1, znX ok hp.1 p0 p1 h2]; rfl, fun S hS s1 p p0 p1 h => by
    rw [zep p0 p1, (s1 p p0 p1 h).1, znX ok (hp.2 S hS s1) p0 p1 (s1 p p0 p1 h).2]; rfl⟩, hp.1⟩)
  (X := tb g.2.1 fun _ => true) (zdA (by omega)) ⟨fun p p0 p1 h => by rw [zep p0 p1], fun S hS s1 p p0 p1 h => by rw [zep p0 p1]⟩
 refine ⟨R, e, hl, fun p q0 q1 h => ?_, p2⟩
 rw [<- hf, zep q0 q1] at h
 exact (Bool.and_eq_true _ _).mp h
end
section
variable {g : Gr}
def ng (N : Int) (X : List Bool) : List Bool := tb N fun p => !ix X p
theorem ziM {N : Int} {X : List Bool} {p : Int} (p0 : 0 <= p) (p1 : p < N) : ix (ng N X) p = true ↔ ¬ ix X p = true := by
 unfold ng; rw [zep p0 p1]; cases ix X p <;> simp
theorem znD {N : Int} {X : List Bool} (h : 0 <= N) : ((ng N X).length : Int) = N := zdA h
theorem zAG (ok : GrOk g) {X : List Bool} {p : Int} (p0 : 0 <= p) (p1 : p < g.2.1) : St g true (ng g.2.1 X) p = true ↔ ¬ St g false X p = true := by
 rw [zjy, zj1]
 constructor
 ·rintro h ⟨q, hq, hx⟩
  obtain ⟨a, b⟩ := hq.rng ok p0 p1
  exact (ziM a b).1 (h q hq) hx
 ·intro h q hq
  obtain ⟨a, b⟩ := hq.rng ok p0 p1
  exact (ziM a b).2 fun hx => h ⟨q, hq, hx⟩
theorem zw0 (ok : GrOk g) {X : List Bool} {p : Int} (p0 : 0 <= p) (p1 : p < g.2.1) : St g false (ng g.2.1 X) p = true ↔ ¬ St g true X p = true := by
 rw [zjy, zj1]
 constructor
 ·rintro ⟨q, hq, hx⟩ h
  obtain ⟨a, b⟩ := hq.rng ok p0 p1
  exact (ziM a b).1 hx (h q hq)
 ·intro h
  refine Classical.byContradiction fun hn => h fun q hq => Classical.byContradiction fun hx => hn ⟨q, hq, ?_⟩
  obtain ⟨a, b⟩ := hq.rng ok p0 p1
  exact (ziM a b).2 hx
theorem zAK (ok : GrOk g) {o a G : List Bool} (ho : ∀ p, 0 <= p -> p < g.2.1 -> ix o p = true) (h : Gf g false (ng g.2.1 a) G) : Lf g true o a (ng g.2.1 G) := by
 have hn := ok.n
 refine ⟨znD (by omega), fun p p0 p1 ha => (ziM p0 p1).2 fun hg => (ziM p0 p1).1 (h.s p p0 p1 hg).1 ha, fun p p0 p1 _ hs => (ziM p0 p1).2 fun hg => (zAG ok p0 p1).1 hs (h.s p p0 p1 hg).2, fun S hS s1 s2 p p0 p1 hx => ?_⟩
 refine Classical.byContradiction fun hns => (ziM p0 p1).1 hx (h.m (ng g.2.1 S) (znD (by omega)) (fun q q0 q1 hq => ?_) p p0 p1 ((ziM p0 p1).2 hns))
 have hq := (ziM q0 q1).1 hq
 refine ⟨(ziM q0 q1).2 fun ha => hq (s1 q q0 q1 ha), (zw0 ok q0 q1).2 fun hs => hq (s2 q q0 q1 (ho q q0 q1) hs)⟩
theorem zAL (ok : GrOk g) {o a U : List Bool} (ho : ∀ p, 0 <= p -> p < g.2.1 -> ix o p = true) (h : Lf g false o (ng g.2.1 a) U) : Gf g true a (ng g.2.1 U) := by
 have hn := ok.n
 refine ⟨znD (by omega), fun p p0 p1 hx => ?_, fun S hS s1 p p0 p1 hx => (ziM p0 p1).2 fun hu => ?_⟩
 ·have hu := (ziM p0 p1).1 hx
  exact ⟨Classical.byContradiction fun ha => hu (h.t p p0 p1 ((ziM p0 p1).2 ha)), (zAG ok p0 p1).2 fun hs => hu (h.s p p0 p1 (ho p p0 p1) hs)⟩
 ·refine (ziM p0 p1).1 (h.m (ng g.2.1 S) (znD (by omega)) (fun q q0 q1 hq => (ziM q0 q1).2 fun hs => (ziM q0 q1).1 hq (s1 q q0 q1 hs).1) (fun q q0 q1 _ hq => (ziM q0 q1).2 fun hs => (zw0 ok q0 q1).1 hq (s1 q q0 q1 hs).2) p p0 p1 hu) hx
theorem zAM (ok : GrOk g) {a b G U : List Bool} (hG : Gf g false (ng g.2.1 b) G) (hU : Lf g false (ng g.2.1 b) (tb g.2.1 fun p => !ix a p && !ix b p) U) : Lf g true a b (tb g.2.1 fun p => !ix G p && !ix U p) := by
 have hn := ok.n
 have hr : ∀ p, 0 <= p -> p < g.2.1 -> (ix (tb g.2.1 fun p => !ix G p && !ix U p) p = true ↔ ¬ ix G p = true /\ ¬ ix U p = true) := fun p p0 p1 => by
  rw [zep p0 p1]; cases ix G p <;> cases ix U p <;> simp
 have hab : ∀ p, 0 <= p -> p < g.2.1 -> (ix (tb g.2.1 fun p => !ix a p && !ix b p) p = true ↔ ¬ ix a p = true /\ ¬ ix b p = true) := fun p p0 p1 => by
  rw [zep p0 p1]; cases ix a p <;> cases ix b p <;> simp
 have hin : ∀ p, 0 <= p -> p < g.2.1 -> ix U p = true -> ¬ ix b p = true /\ (¬ ix a p = true \/ St g false U p = true) := by
  intro p p0 p1 hp
  have := hU.m (tb g.2.1 fun p => !ix b p && (!ix a p || St g false U p)) (zdA (by omega)) (fun q q0 q1 hq => by
    obtain ⟨h1, h2⟩ := (hab q q0 q1).1 hq
    rw [zep q0 q1]; simp [h1, h2])
   (fun q q0 q1 hq hs => by
    have h1 := (ziM q0 q1).1 hq
    rw [zep q0 q1]
    have h2 : St g false U q = true := znX ok (fun r r0 r1 hr => by
     rw [zep r0 r1] at hr
     obtain ⟨h3, h4⟩ := (Bool.and_eq_true _ _).mp hr
     have h3 : ¬ ix b r = true := by simpa using h3
     rcases (Bool.or_eq_true _ _).mp h4 with h4 | h4
     ·exact hU.t r r0 r1 ((hab r r0 r1).2 ⟨by simpa using h4, h3⟩)
     ·exact hU.s r r0 r1 ((ziM r0 r1).2 h3) h4) q0 q1 hs
    simp [h1, h2]) p p0 p1 hp
  rw [zep p0 p1] at this
  obtain ⟨h3, h4⟩ := (Bool.and_eq_true _ _).mp this
  refine ⟨by simpa using h3, ?_⟩
  rcases (Bool.or_eq_true _ _).mp h4 with h4 | h4
  ·exact .inl (by simpa using h4)
  ·exact .inr h4
 refine ⟨zdA (by omega), fun p p0 p1 hb => (hr p p0 p1).2 ⟨fun hg => (ziM p0 p1).1 (hG.s p p0 p1 hg).1 hb, fun hu => (hin p p0 p1 hu).1 hb⟩, fun p p0 p1 ha hs => (hr p p0 p1).2 ⟨fun hg => ?_, fun hu => ?_⟩, fun S hS s1 s2 p p0 p1 hx => ?_⟩
 ·obtain ⟨q, hq, hx⟩ := zj1.1 (hG.s p p0 p1 hg).2
  obtain ⟨q0, q1⟩ := hq.rng ok p0 p1
  exact ((hr q q0 q1).1 (zjy.1 hs q hq)).1 hx
 ·rcases (hin p p0 p1 hu).2 with h | h
  ·exact h ha
  ·obtain ⟨q, hq, hx⟩ := zj1.1 h
   obtain ⟨q0, q1⟩ := hq.rng ok p0 p1
   exact ((hr q q0 q1).1 (zjy.1 hs q hq)).2 hx
 ·-- what is neither in S nor in U is for ever so
  refine Classical.byContradiction fun hns => ?_
  obtain ⟨h1, h2⟩ := (hr p p0 p1).1 hx
  have hT : ∀ q, 0 <= q -> q < g.2.1 -> (ix (tb g.2.1 fun p => !ix S p && !ix U p) q = true ↔ ¬ ix S q = true /\ ¬ ix U q = true) := fun q q0 q1 => by
   rw [zep q0 q1]; cases ix S q <;> cases ix U q <;> simp
  refine h1 (hG.m (tb g.2.1 fun p => !ix S p && !ix U p) (zdA (by omega)) (fun q q0 q1 hq => ?_) p p0 p1 ((hT p p0 p1).2 ⟨hns, h2⟩))
  obtain ⟨k1, k2⟩ := (hT q q0 q1).1 hq
  have kb : ¬ ix b q = true := fun h => k1 (s1 q q0 q1 h)
  have ka : ix a q = true := Classical.byContradiction fun h => k2 (hU.t q q0 q1 ((hab q q0 q1).2 ⟨h, kb⟩))
  have ks : ¬ St g true S q = true := fun h => k1 (s2 q q0 q1 ka h)
  have ku : ¬ St g false U q = true := fun h => k2 (hU.s q q0 q1 ((ziM q0 q1).2 kb) h)
  refine ⟨(ziM q0 q1).2 kb, zj1.2 ?_⟩
  refine Classical.byContradiction fun hno => ks (zjy.2 fun r hr => ?_)
  obtain ⟨r0, r1⟩ := hr.rng ok q0 q1
  refine Classical.byContradiction fun hrs => hno ⟨r, hr, (hT r r0 r1).2 ⟨hrs, fun hru => ku (zj1.2 ⟨r, hr, hru⟩)⟩⟩
end
section
variable {g : Gr} {w : Wlk}
theorem zwU (ok : GrOk g) : ∃ w, zhy g = some w /\ WOk g w := by
 have hn := ok.n
 have ha := ok.a
 have mk := zpK (N := g.2.1) (b := 24) (by omega) (by omega) (by omega)
 have hmain : ∃ w, zey g g.1 g.2.1 g.2.2.1 (List.replicate (g.2.1).toNat ([] : List Int)) = some w /\ WOk g w := by
  unfold zey
  obtain ⟨s1, ⟨i1, i2⟩, e1⟩ := ztv (len := (g.2.2.1.length : Int)) (lo := 0) (L := fun t (s : List (List Int)) => zce g t g.1 g.2.1 g.2.2.1 s)
   (f := fun t s => if (ix g.2.2.1 t).2.2.1 ∈ ix s (ix g.2.2.1 t).1 then s else s.set (ix g.2.2.1 t).1.toNat (ix s (ix g.2.2.1 t).1 ++ [(ix g.2.2.1 t).2.2.1]))
   (I := fun t (s : List (List Int)) => (s.length : Int) = g.2.1 /\ ∀ p, 0 <= p -> p < g.2.1 -> ((ix s p).length : Int) <= t /\ ∀ q, q ∈ ix s p ↔ ∃ j : Int, 0 <= j /\ j < t /\ (ix g.2.2.1 j).1 = p /\ (ix g.2.2.1 j).2.2.1 = q)
   (s := List.replicate (g.2.1).toNat ([] : List Int)) (by omega)
   ⟨by simp; omega, fun p p0 p1 => by
    rw [zqa p0 (by omega)]
    exact ⟨by simp, fun q => ⟨fun h => by simp at h, fun ⟨j, j0, j1, _⟩ => by omega⟩⟩⟩
   (fun t s t0 t1 hI => by
    obtain ⟨hl, hr⟩ := hI
    obtain ⟨x0, x1, x2, x3, _⟩ := ok.x _ (znC t0 t1)
    obtain ⟨r1, r2⟩ := hr _ x0 x1
    generalize hx : ix g.2.2.1 t = x at *
    have hc := zmV (s := ix s x.1) (v := x.2.2.1) (by omega)
    have fT : fits (t + 1) := zaL (by omega) (by omega)
    constructor
    ·show zce g t g.1 g.2.1 g.2.2.1 s = zce g (t + 1) g.1 g.2.1 g.2.2.1 _
     conv => lhs; rw [zic]; unfold zbG
     rw [if_pos (decide_eq_true t1), zai ⟨t0, t1⟩, hx, zai ⟨x0, by omega⟩, zai (by omega), zai (by omega)]
     obtain ⟨b, e, hb⟩ := hc
     rw [e]
     simp only [Option.bind_some]
     cases b with
     | true =>
      rw [if_neg (by simp), if_pos (hb.1 rfl)]
      unfold za5
      rw [zai fT]
     | false =>
      rw [if_pos (by simp), if_neg (fun h => by have := hb.2 h; cases this)]
      unfold za5
      have hro : room (ix s x.1) [x.2.2.1] 8 := zvC (by simp; omega)
      (repeat' first | with_reducible refine zc5 ?_ ?_ | with_reducible refine G_to ?_ ?_) <;> first | rfl | omega | exact hro | exact fT | trivial | exact ⟨x0, by omega⟩
    ·skip
     have stp : ∀ p q : Int, (∃ j : Int, 0 <= j /\ j < t + 1 /\ (ix g.2.2.1 j).1 = p /\ (ix g.2.2.1 j).2.2.1 = q) ↔ ((∃ j : Int, 0 <= j /\ j < t /\ (ix g.2.2.1 j).1 = p /\ (ix g.2.2.1 j).2.2.1 = q) \/ (x.1 = p /\ x.2.2.1 = q)) := by
      intro p q
      constructor
      ·rintro ⟨j, j0, j1, h⟩
       by_cases e : j = t
       ·subst e; rw [hx] at h; exact .inr h
       ·exact .inl ⟨j, j0, by omega, h⟩
      ·rintro (⟨j, j0, j1, h⟩ | h)
       ·exact ⟨j, j0, by omega, h⟩
       ·exact ⟨t, t0, by omega, by rw [hx]; exact h⟩
     split
     ·rename_i hin
      refine ⟨hl, fun p p0 p1 => ⟨by have := (hr p p0 p1).1; omega, fun q => ?_⟩⟩
      rw [stp, (hr p p0 p1).2 q]
      constructor
      ·exact fun h => .inl h
      ·rintro (h | ⟨rfl, rfl⟩)
       ·exact h
       ·exact (r2 _).1 hin
     ·refine ⟨by simp; omega, fun p p0 p1 => ?_⟩
      by_cases e : p = x.1
      ·subst e
       rw [ziH p0 (by omega)]
       refine ⟨by simp; omega, fun q => ?_⟩
       rw [stp, List.mem_append, r2 q, List.mem_singleton]
       exact ⟨fun h => h.elim .inl fun h => .inr ⟨rfl, h.symm⟩, fun h => h.elim .inl fun h => .inr h.2.symm⟩
      ·rw [zoB x0 p0 (fun h => e h.symm)]
       refine ⟨by have := (hr p p0 p1).1; omega, fun q => ?_⟩
       rw [stp, (hr p p0 p1).2 q]
       exact ⟨fun h => .inl h, fun h => h.elim id fun h => absurd h.1.symm e⟩)
  rw [show zce g 0 g.1 g.2.1 g.2.2.1 (List.replicate (g.2.1).toNat ([] : List Int)) = _ from e1]
  rw [zic]; unfold zbG
  rw [if_neg (by simp)]
  obtain ⟨s2, ⟨k1, k2⟩, e2⟩ := ztv (len := (s1.length : Int)) (lo := 0) (L := fun t (s : List (List Int)) => zcf s1 t g.1 g.2.1 g.2.2.1 s)
   (f := fun t s => if (ix s t).length = 0 then s.set t.toNat [t] else s)
   (I := fun t (s : List (List Int)) => (s.length : Int) = g.2.1 /\ ∀ p, 0 <= p -> p < g.2.1 -> ix s p = if p < t /\ (ix s1 p).length = 0 then [p] else ix s1 p)
   (s := s1) (by omega) ⟨i1, fun p p0 p1 => by rw [if_neg (by omega)]⟩
   (fun t s t0 t1 hI => by
    obtain ⟨hl, hr⟩ := hI
    have fT : fits (t + 1) := zaL (by omega) (by omega)
    have ht : ix s t = ix s1 t := by rw [hr t t0 (by omega), if_neg (by omega)]
    constructor
    ·show zcf s1 t g.1 g.2.1 g.2.2.1 s = zcf s1 (t + 1) g.1 g.2.1 g.2.2.1 _
     conv => lhs; rw [zid]; unfold zbH
     rw [if_pos (decide_eq_true t1), zai ⟨t0, by omega⟩, zai (by omega), zai (by omega)]
     by_cases e : (ix s t).length = 0
     ·rw [if_pos (by simp [e]), if_pos e, zai ⟨t0, by omega⟩, zai fT]
     ·rw [if_neg (by simpa using e), if_neg e, zai fT]
    ·skip
     split
     ·rename_i e
      refine ⟨by simp; omega, fun p p0 p1 => ?_⟩
      by_cases ep : p = t
      ·subst ep; rw [ziH p0 (by omega), if_pos ⟨by omega, by rw [<- ht]; exact e⟩]
      ·rw [zoB t0 p0 (fun h => ep h.symm), hr p p0 p1]
       by_cases c : p < t /\ (ix s1 p).length = 0
       ·rw [if_pos c, if_pos ⟨by omega, c.2⟩]
       ·rw [if_neg c, if_neg (fun h => c ⟨by omega, h.2⟩)]
     ·rename_i e
      refine ⟨hl, fun p p0 p1 => ?_⟩
      rw [hr p p0 p1]
      by_cases c : p < t /\ (ix s1 p).length = 0
      ·rw [if_pos c, if_pos ⟨by omega, c.2⟩]
      ·rw [if_neg c, if_neg (fun h => ?_)]
       by_cases ep : p = t
       ·subst ep; exact e (by rw [ht]; exact h.2)
       ·exact c ⟨by omega, h.2⟩)
  rw [show zcf s1 0 g.1 g.2.1 g.2.2.1 s1 = _ from e2]
  rw [zid]; unfold zbH
  rw [if_neg (by simp)]
  refine ⟨_, rfl, ⟨rfl, k1, fun p p0 p1 => ?_⟩⟩
  show (ix s2 p).length <= 61 /\ ∀ q, q ∈ ix s2 p ↔ Go g p q
  obtain ⟨m1, m2⟩ := i2 p p0 p1
  have hgo : ∀ q, (∃ j : Int, 0 <= j /\ j < (g.2.2.1.length : Int) /\ (ix g.2.2.1 j).1 = p /\ (ix g.2.2.1 j).2.2.1 = q) ↔ ∃ x ∈ g.2.2.1, x.1 = p /\ x.2.2.1 = q := fun q => (ztp (l := g.2.2.1) (P := fun x : Arc => x.1 = p /\ x.2.2.1 = q)).symm
  rw [k2 p p0 p1]
  by_cases e : (ix s1 p).length = 0
  ·rw [if_pos ⟨by omega, e⟩]
   have hnil : ix s1 p = [] := List.length_eq_zero_iff.1 e
   have hno : ∀ x ∈ g.2.2.1, x.1 ≠ p := fun x hx h => by
    have := (m2 x.2.2.1).2 ((hgo _).2 ⟨x, hx, h, rfl⟩)
    rw [hnil] at this; simp at this
   refine ⟨by simp, fun q => ?_⟩
   rw [List.mem_singleton]
   exact ⟨fun h => .inr ⟨hno, h.symm⟩, fun h => h.elim (fun ⟨x, hx, h1, _⟩ => absurd h1 (hno x hx)) fun h => h.2.symm⟩
  ·rw [if_neg (fun h => e h.2)]
   refine ⟨by omega, fun q => ?_⟩
   rw [m2 q, hgo q]
   refine ⟨fun h => .inl h, fun h => h.elim id fun h => ?_⟩
   exfalso
   cases hc : ix s1 p with
   | nil => rw [hc] at e; simp at e
   | cons y ys =>
    obtain ⟨x, hx, h1, _⟩ := (hgo y).1 ((m2 y).1 (by rw [hc]; exact List.mem_cons_self ..))
    exact h.1 x hx h1
 obtain ⟨w, e, hw⟩ := hmain
 refine ⟨w, ?_, hw⟩
 unfold zhy
 exact zc5 (G_to mk e) (G_to mk e)
theorem zaS {α : Type} {x : α} {K : List (Tr α)} : (Tr.mk x K).isMk = true := rfl
theorem zuB (ok : GrOk g) (hw : WOk g w) {s v : Int} {al : Bool} (hs : s = 48 \/ s = 49) : zaj w (Tr.mk (s, al, v, ()) []) = some (tb g.2.1 fun _ => decide (s = 49)) := by
 have e : zda w (Tr.mk (s, al, v, ()) []) = some (tb g.2.1 fun _ => decide (s = 49)) := by
  unfold zda
  refine zkJ ok hw (loop := fun t out => zdd w (Tr.mk (s, al, v, ()) []) t out) (rule := fun t => zdf t (Tr.mk (s, al, v, ()) [])) (fun t out => zks _ _ _ _) (fun t t0 t1 => ?_)
  unfold zdf
  exact zai zaS
 have e' : ((zda w (Tr.mk (s, al, v, ()) [])).bind fun y => some y) = some (tb g.2.1 fun _ => decide (s = 49)) := by rw [e]; rfl
 rw [zd8]; unfold za4 zaZ
 rcases hs with rfl | rfl
 ·exact (zai zaS).trans ((if_pos rfl).trans ((if_pos rfl).trans e'))
 ·exact (zai zaS).trans ((if_neg (by exact Bool.false_ne_true)).trans ((if_pos rfl).trans e'))
theorem zxP (ok : GrOk g) {v p : Int} {al : Bool} : zdB (zdq g.2.2.1 p (Tr.mk (97, al, v, ()) [])) (∃ x ∈ g.2.2.1, x.1 = p /\ x.2.1 = v) := by
 have ha := ok.a
 unfold zdq zgR
 refine zj7 (s := g.2.2.1) (f := fun x => zbV x p (Tr.mk (97, al, v, ()) [])) (L := fun t => zds g.2.2.1 p (Tr.mk (97, al, v, ()) []) t) (P := fun x => x.1 = p /\ x.2.1 = v) (fun t => zkZ _ _ _ _) (by omega) (fun x hx => ?_)
 show zdB (zbV x p _) _
 unfold zbV
 by_cases e : x.1 = p
 ·refine ⟨decide (x.2.1 = v), (if_pos (decide_eq_true e)).trans (zai zaS), by simp [e]⟩
 ·exact ⟨false, if_neg (by simpa using e), by simp [e]⟩
open Classical in
theorem zz4 (ok : GrOk g) (hw : WOk g w) {v : Int} {al : Bool} : zaj w (Tr.mk (97, al, v, ()) []) = some (tb g.2.1 fun p => decide (∃ x ∈ g.2.2.1, x.1 = p /\ x.2.1 = v)) := by
 have hn := ok.n
 have hwl := wlen ok hw
 have e : zdC w (Tr.mk (97, al, v, ()) []) w = some (tb g.2.1 fun p => decide (∃ x ∈ g.2.2.1, x.1 = p /\ x.2.1 = v), w) := by
  unfold zdC
  rw [zai (by rw [hw.e]; exact zpK (by omega) (by omega) (by omega))]
  refine fill (N := g.2.1) (by omega) (loop := fun t out => zbQ w (Tr.mk (97, al, v, ()) []) t w out) (fin := fun out => some (out, w)) (f := fun p => decide (∃ x ∈ g.2.2.1, x.1 = p /\ x.2.1 = v)) (fun t out t0 t1 ho => ?_) (fun out ho => ?_) hwl
  ·have hu : zdg t (Tr.mk (97, al, v, ()) []) w = some (decide (∃ x ∈ g.2.2.1, x.1 = t /\ x.2.1 = v), w) := by
    unfold zdg
    rw [hw.e, (zxP ok (p := t)).eq]; rfl
   conv => lhs; rw [zeH]; unfold zaV
   rw [if_pos (decide_eq_true (by omega)), hu]
   show G _ _ = _
   rw [zai ⟨t0, by omega⟩, zai (by omega), zai (zaL (by omega) (by omega))]
  ·show zbQ w _ g.2.1 w out = _
   rw [zeH]; unfold zaV
   rw [if_neg (by simp only [decide_eq_true_eq]; omega)]
 rw [zd8]; unfold za4 zaZ
 exact (zai zaS).trans ((if_neg (by exact Bool.false_ne_true)).trans ((if_neg (by exact Bool.false_ne_true)).trans ((if_pos rfl).trans (by rw [e]; rfl))))
theorem zwe {s v : Int} {al : Bool} {a : Tr ND} {K : List (Tr ND)} {R : List Bool} (hs : s = 33 \/ s = 88 \/ s = 70 \/ s = 71 \/ s = 38 \/ s = 124 \/ s = 85) (ha : zaj w a = some R) :
  zaj w (Tr.mk (s, al, v, ()) (a :: K)) = zan zaj w (Tr.mk (s, al, v, ()) (a :: K)) R := by
 have e : ((zaj w (ix (a :: K) 0)).bind fun y => zan zaj w (Tr.mk (s, al, v, ()) (a :: K)) y) = zan zaj w (Tr.mk (s, al, v, ()) (a :: K)) R := by
  show ((zaj w a).bind fun y => _) = _
  rw [ha]; rfl
 have hk : 0 <= (0 : Int) /\ (0 : Int) < ((a :: K).length : Int) := ⟨by omega, by simp only [List.length_cons]; omega⟩
 rw [zd8]; unfold za4 zaZ
 refine (zai zaS).trans ?_
 have d48 : ¬ decide (s = 48) = true := by simp; omega
 have d49 : ¬ decide (s = 49) = true := by simp; omega
 have d97 : ¬ decide (s = 97) = true := by simp; omega
 exact (if_neg d48).trans ((if_neg d49).trans ((if_neg d97).trans ((zai zaS).trans ((zai hk).trans (zc5 e e)))))
theorem zzY {N : Int} {v : Int} {al : Bool} {K : List (Tr ND)} {R : List Bool} (hR : (R.length : Int) = N) (h1 : N <= 12) : zan zaj w (Tr.mk (33, al, v, ()) K) R = some (ng N R) := by
 unfold zan
 exact (zai zaS).trans ((if_pos rfl).trans (by rw [zsB hR h1]; rfl))
theorem zyR {s v : Int} {al : Bool} {a b : Tr ND} {R S : List Bool} (hs : s = 38 \/ s = 124 \/ s = 85) (hb : zaj w b = some S) :
  zan zaj w (Tr.mk (s, al, v, ()) [a, b]) R = zao w (Tr.mk (s, al, v, ()) [a, b]) R S := by
 have e : ((zaj w (ix [a, b] 1)).bind fun y => zao w (Tr.mk (s, al, v, ()) [a, b]) R y) = zao w (Tr.mk (s, al, v, ()) [a, b]) R S := by
  show ((zaj w b).bind fun y => _) = _
  rw [hb]; rfl
 have j13 : zaB zaj w (Tr.mk (s, al, v, ()) [a, b]) R true = zao w (Tr.mk (s, al, v, ()) [a, b]) R S := by
  unfold zaB
  have hk : 0 <= (1 : Int) /\ (1 : Int) < (([a, b] : List (Tr ND)).length : Int) := ⟨by omega, by simp⟩
  exact (if_pos rfl).trans ((zai zaS).trans ((zai hk).trans (zc5 e e)))
 unfold zan
 rcases hs with rfl | rfl | rfl
 ·exact (zai zaS).trans ((if_neg (by exact Bool.false_ne_true)).trans ((if_pos rfl).trans j13))
 ·exact (zai zaS).trans ((if_neg (by exact Bool.false_ne_true)).trans ((if_neg (by exact Bool.false_ne_true)).trans ((if_pos rfl).trans j13)))
 ·exact (zai zaS).trans ((if_neg (by exact Bool.false_ne_true)).trans ((if_neg (by exact Bool.false_ne_true)).trans ((if_neg (by exact Bool.false_ne_true)).trans j13)))
theorem zzZ (ok : GrOk g) (hw : WOk g w) {v : Int} {al : Bool} {K : List (Tr ND)} {R S : List Bool} (hR : (R.length : Int) = g.2.1) (hS : (S.length : Int) = g.2.1) : zao w (Tr.mk (38, al, v, ()) K) R S = some (tb g.2.1 fun p => ix R p && ix S p) := by
 unfold zao
 exact (zai zaS).trans ((if_pos rfl).trans (by rw [zxn ok hw hR hS]; rfl))
theorem zyQ (ok : GrOk g) (hw : WOk g w) {v : Int} {al : Bool} {K : List (Tr ND)} {R S : List Bool} (hR : (R.length : Int) = g.2.1) (hS : (S.length : Int) = g.2.1) : zao w (Tr.mk (124, al, v, ()) K) R S = some (tb g.2.1 fun p => ix R p || ix S p) := by
 unfold zao
 exact (zai zaS).trans ((if_neg (by exact Bool.false_ne_true)).trans ((zai zaS).trans ((if_pos rfl).trans (by rw [zxo ok hw hR hS]; rfl))))
theorem zz2 (ok : GrOk g) (hw : WOk g w) {v : Int} {al : Bool} {K : List (Tr ND)} {a b : List Bool} (ha : (a.length : Int) = g.2.1) (hb : (b.length : Int) = g.2.1) : ∃ R, zao w (Tr.mk (85, al, v, ()) K) a b = some R /\ Lf g al a b R := by
 have hn := ok.n
 cases al with
 | false =>
  obtain ⟨R, e, h⟩ := zq2 ok hw ha hb
  refine ⟨R, ?_, h⟩
  unfold zao
  exact (zai zaS).trans ((if_neg (by exact Bool.false_ne_true)).trans ((zai zaS).trans ((if_neg (by exact Bool.false_ne_true)).trans ((zai zaS).trans ((if_pos rfl).trans (by rw [e]; rfl))))))
 | true =>
  obtain ⟨G', e1, hG⟩ := zvq ok hw (znD (N := g.2.1) (X := b) (by omega))
  obtain ⟨U, e2, hU⟩ := zq2 ok hw (znD (N := g.2.1) (X := b) (by omega)) (zdA (N := g.2.1) (f := fun p => !ix a p && !ix b p) (by omega))
  refine ⟨_, ?_, zAM ok hG hU⟩
  have en : zcs b = some (ng g.2.1 b) := zsB hb (by omega)
  have j21 : zbW w a b G' = some (tb g.2.1 fun p => !ix G' p && !ix U p) := by
   unfold zbW zbX
   simp only [en, zxr ok hw ha hb, e2, zxs ok hw hG.l hU.l, Option.bind_some]
   exact zc5 (zc5 (zc5 rfl rfl) rfl) rfl
  unfold zao
  refine (zai zaS).trans ((if_neg (by exact Bool.false_ne_true)).trans ((zai zaS).trans ((if_neg (by exact Bool.false_ne_true)).trans ((zai zaS).trans ((if_neg (by exact Bool.false_ne_true)).trans ?_)))))
  simp only [en, e1, j21, Option.bind_some]
  exact zc5 (zc5 rfl rfl) rfl
theorem zrN {s v : Int} {al : Bool} {K : List (Tr ND)} {R : List Bool} {N : Int} (hs : s = 88 \/ s = 70 \/ s = 71) (hR : (R.length : Int) = N) (h1 : N <= 12) :
  zan zaj w (Tr.mk (s, al, v, ()) K) R = zat w (Tr.mk (s, al, v, ()) K) (if al = true then ng N R else R) := by
 have j13 : zaB zaj w (Tr.mk (s, al, v, ()) K) R false = zat w (Tr.mk (s, al, v, ()) K) (if al = true then ng N R else R) := by
  unfold zaB
  refine (if_neg (by exact Bool.false_ne_true)).trans ((zai zaS).trans ?_)
  cases al
  ·exact if_neg (by exact Bool.false_ne_true)
  ·refine (if_pos rfl).trans ?_
   rw [zsB hR h1]; rfl
 unfold zan
 rcases hs with rfl | rfl | rfl
 ·exact (zai zaS).trans ((if_neg (by exact Bool.false_ne_true)).trans ((if_neg (by exact Bool.false_ne_true)).trans ((if_neg (by exact Bool.false_ne_true)).trans j13)))
 ·exact (zai zaS).trans ((if_neg (by exact Bool.false_ne_true)).trans ((if_neg (by exact Bool.false_ne_true)).trans ((if_neg (by exact Bool.false_ne_true)).trans j13)))
 ·exact (zai zaS).trans ((if_neg (by exact Bool.false_ne_true)).trans ((if_neg (by exact Bool.false_ne_true)).trans ((if_neg (by exact Bool.false_ne_true)).trans j13)))
theorem zz3 (ok : GrOk g) (hw : WOk g w) {v : Int} {al : Bool} {K : List (Tr ND)} {a : List Bool} (ha : (a.length : Int) = g.2.1) : zat w (Tr.mk (88, al, v, ()) K) (if al = true then ng g.2.1 a else a) = some (tb g.2.1 fun p => St g al a p) := by
 have hn := ok.n
 unfold zat
 refine (zai zaS).trans ((if_pos rfl).trans ?_)
 cases al with
 | false =>
  rw [if_neg (by simp), zst ok hw ha]
  exact (zai zaS).trans (if_neg (by exact Bool.false_ne_true))
 | true =>
  rw [if_pos rfl, zst ok hw (znD (by omega))]
  refine (zai zaS).trans ((if_pos rfl).trans ?_)
  show (zcs (tb g.2.1 fun p => St g false (ng g.2.1 a) p)).bind _ = _
  rw [zsB (zdA (by omega)) (by omega)]
  show some _ = some _
  congr 1
  refine zwk (by omega) (zdA (by omega)) fun p p0 p1 => ?_
  rw [zep p0 p1, zep p0 p1]
  have := zw0 (g := g) ok (X := a) p0 p1
  cases h1 : St g false (ng g.2.1 a) p <;> cases h2 : St g true a p <;> simp_all
theorem zz0 (ok : GrOk g) (hw : WOk g w) {v : Int} {al : Bool} {K : List (Tr ND)} {a : List Bool} (ha : (a.length : Int) = g.2.1) : ∃ R, zat w (Tr.mk (70, al, v, ()) K) (if al = true then ng g.2.1 a else a) = some R /\ Lf g al (tb g.2.1 fun _ => true) a R := by
 have hn := ok.n
 cases al with
 | false =>
  obtain ⟨R, e, h⟩ := zq2 ok hw (zdA (N := g.2.1) (f := fun _ => true) (by omega)) ha
  refine ⟨R, ?_, h⟩
  rw [show (if (false : Bool) = true then ng g.2.1 a else a) = a from if_neg (by simp)]
  unfold zat
  refine (zai zaS).trans ((if_neg (by exact Bool.false_ne_true)).trans ((zai zaS).trans ((zai zaS).trans ((if_pos rfl).trans ?_))))
  rw [zzf ok hw]
  show (zaI w _ a).bind _ = _
  rw [e]
  exact (zai zaS).trans (if_neg (by exact Bool.false_ne_true))
 | true =>
  obtain ⟨R, e, h⟩ := zvq ok hw (znD (N := g.2.1) (X := a) (by omega))
  refine ⟨ng g.2.1 R, ?_, zAK ok (fun p p0 p1 => by rw [zep p0 p1]) h⟩
  rw [show (if (true : Bool) = true then ng g.2.1 a else a) = ng g.2.1 a from if_pos rfl]
  unfold zat
  refine (zai zaS).trans ((if_neg (by exact Bool.false_ne_true)).trans ((zai zaS).trans ((zai zaS).trans ((if_neg (by exact Bool.false_ne_true)).trans ?_))))
  rw [e]
  refine (zai zaS).trans ((if_pos rfl).trans ?_)
  rw [zsB h.l (by omega)]; rfl
theorem zz1 (ok : GrOk g) (hw : WOk g w) {v : Int} {al : Bool} {K : List (Tr ND)} {a : List Bool} (ha : (a.length : Int) = g.2.1) : ∃ R, zat w (Tr.mk (71, al, v, ()) K) (if al = true then ng g.2.1 a else a) = some R /\ Gf g al a R := by
 have hn := ok.n
 cases al with
 | false =>
  obtain ⟨R, e, h⟩ := zvq ok hw ha
  refine ⟨R, ?_, h⟩
  rw [show (if (false : Bool) = true then ng g.2.1 a else a) = a from if_neg (by simp)]
  unfold zat
  refine (zai zaS).trans ((if_neg (by exact Bool.false_ne_true)).trans ((zai zaS).trans ((zai zaS).trans ((if_neg (by exact Bool.false_ne_true)).trans ?_))))
  rw [e]
  exact (zai zaS).trans (if_neg (by exact Bool.false_ne_true))
 | true =>
  obtain ⟨R, e, h⟩ := zq2 ok hw (zdA (N := g.2.1) (f := fun _ => true) (by omega)) (znD (N := g.2.1) (X := a) (by omega))
  refine ⟨ng g.2.1 R, ?_, zAL ok (fun p p0 p1 => by rw [zep p0 p1]) h⟩
  rw [show (if (true : Bool) = true then ng g.2.1 a else a) = ng g.2.1 a from if_pos rfl]
  unfold zat
  refine (zai zaS).trans ((if_neg (by exact Bool.false_ne_true)).trans ((zai zaS).trans ((zai zaS).trans ((if_pos rfl).trans ?_))))
  rw [zzf ok hw]
  show (zaI w _ _).bind _ = _
  rw [e]
  refine (zai zaS).trans ((if_pos rfl).trans ?_)
  rw [zsB h.l (by omega)]; rfl
end
section
variable {g : Gr} {w : Wlk} {l : L5} {k s v A B : Int} {al : Bool} {u : Unit}
theorem zA0 (ok : GrOk g) (k0 : 0 <= k) (k1 : k < l.length) (hx : ix l k = (48, al, v, A, B, u)) : zb4 g l k = some (tb g.2.1 fun _ => false) := by
 have hn := ok.n
 rw [zhU]; unfold zdy
 rw [zai ⟨k0, k1⟩, zai (zpK (by omega) (by omega) (by omega)), hx]
 refine (if_pos rfl).trans (congrArg some (zwk (by omega) (zkg (by omega)) fun p p0 p1 => ?_))
 rw [zqa p0 (by omega)]
theorem zzl (ok : GrOk g) (hx : ix l k = (s, al, v, A, B, u)) : zgc g l k 0 (List.replicate (g.2.1).toNat false) = zbE g l k 0 (tb g.2.1 fun _ => decide (s = 49)) := by
 have hn := ok.n
 refine fill (N := g.2.1) (by omega) (loop := fun t out => zgc g l k t out) (fin := fun out => zbE g l k 0 out) (f := fun _ => decide (s = 49)) (fun t out t0 t1 ho => ?_) (fun out ho => ?_) (zkg (by omega))
 ·conv => lhs; rw [zmO]; unfold zdz
  rw [if_pos (decide_eq_true t1), zai ⟨t0, by omega⟩, zai (by omega), zai (zaL (by omega) (by omega)), hx]
 ·show zgc g l k g.2.1 out = _
  rw [zmO]; unfold zdz
  rw [if_neg (by simp)]
theorem zA1 (ok : GrOk g) (k0 : 0 <= k) (k1 : k < l.length) (hx : ix l k = (49, al, v, A, B, u)) : zb4 g l k = some (tb g.2.1 fun _ => true) := by
 have hn := ok.n
 have ha := ok.a
 rw [zhU]; unfold zdy zdo
 rw [zai ⟨k0, k1⟩, zai (zpK (by omega) (by omega) (by omega)), zzl ok hx, hx]
 refine (if_neg (by exact Bool.false_ne_true)).trans ((if_pos rfl).trans ((if_pos rfl).trans ?_))
 have : ∀ i : Int, (ix l k).1 = 49 -> True := fun _ _ => trivial
 refine zh9 (len := (g.2.2.1.length : Int)) (L := fun i => zbE g l k i (tb g.2.1 fun _ => decide ((49 : Int) = 49))) (bad := fun _ => False) (lo := 0) (by omega) (fun i i0 i1 => ⟨fun h => h.elim, fun _ => ?_⟩) (fun _ => ?_)
 ·show zbE g l k i _ = _
  conv => lhs; rw [zfy]; unfold zb5 zdZ
  rw [if_pos (decide_eq_true i1), hx]
  refine (if_neg (by exact Bool.false_ne_true)).trans ((if_neg (by exact Bool.false_ne_true)).trans ?_)
  rw [zai (zaL (by omega) (by omega))]
 ·show zbE g l k _ _ = _
  rw [zfy]; unfold zb5
  rw [if_neg (by simp)]
  simp
open Classical in
theorem zA5 (ok : GrOk g) (k0 : 0 <= k) (k1 : k < l.length) (hx : ix l k = (97, al, v, A, B, u)) : zb4 g l k = some (tb g.2.1 fun p => decide (∃ x ∈ g.2.2.1, x.1 = p /\ x.2.1 = v)) := by
 have hn := ok.n
 have ha := ok.a
 rw [zhU]; unfold zdy zdo
 rw [zai ⟨k0, k1⟩, zai (zpK (by omega) (by omega) (by omega)), zzl ok hx, hx]
 refine (if_neg (by exact Bool.false_ne_true)).trans ((if_neg (by exact Bool.false_ne_true)).trans ((if_pos rfl).trans ?_))
 obtain ⟨s', ⟨i1, i2⟩, e1⟩ := ztv (len := (g.2.2.1.length : Int)) (lo := 0) (L := fun t (s : List Bool) => zbE g l k t s)
  (f := fun t s => if (ix g.2.2.1 t).2.1 = v then s.set (ix g.2.2.1 t).1.toNat true else s)
  (I := fun t (s : List Bool) => (s.length : Int) = g.2.1 /\ ∀ p, 0 <= p -> p < g.2.1 -> (ix s p = true ↔ ∃ j : Int, 0 <= j /\ j < t /\ (ix g.2.2.1 j).1 = p /\ (ix g.2.2.1 j).2.1 = v))
  (s := tb g.2.1 fun _ => decide ((97 : Int) = 49)) (by omega)
  ⟨zdA (by omega), fun p p0 p1 => by
   rw [zep p0 p1]
   exact ⟨fun h => (by simp at h), fun ⟨j, j0, j1, _⟩ => by omega⟩⟩
  (fun t s t0 t1 hI => by
   obtain ⟨hl, hr⟩ := hI
   obtain ⟨x0, x1, _⟩ := ok.x _ (znC t0 t1)
   have fT : fits (t + 1) := zaL (by omega) (by omega)
   constructor
   ·show zbE g l k t s = zbE g l k (t + 1) _
    conv => lhs; rw [zfy]; unfold zb5 zdZ
    rw [if_pos (decide_eq_true t1), hx]
    refine (if_pos rfl).trans ((zai ⟨t0, t1⟩).trans ?_)
    by_cases e : (ix g.2.2.1 t).2.1 = v
    ·rw [if_pos e]
     refine (if_pos (decide_eq_true e)).trans ?_
     rw [zai ⟨t0, t1⟩, zai ⟨x0, by omega⟩, zai (by omega), zai fT]
    ·rw [if_neg e]
     refine (if_neg (by simpa using e)).trans ?_
     rw [zai fT]
   ·have stp : ∀ p : Int, (∃ j : Int, 0 <= j /\ j < t + 1 /\ (ix g.2.2.1 j).1 = p /\ (ix g.2.2.1 j).2.1 = v) ↔ ((∃ j : Int, 0 <= j /\ j < t /\ (ix g.2.2.1 j).1 = p /\ (ix g.2.2.1 j).2.1 = v) \/ ((ix g.2.2.1 t).1 = p /\ (ix g.2.2.1 t).2.1 = v)) := by
     intro p
     constructor
     ·rintro ⟨j, j0, j1, h⟩
      by_cases e : j = t
      ·subst e; exact .inr h
      ·exact .inl ⟨j, j0, by omega, h⟩
     ·rintro (⟨j, j0, j1, h⟩ | h)
      ·exact ⟨j, j0, by omega, h⟩
      ·exact ⟨t, t0, by omega, h⟩
    split
    ·rename_i e
     refine ⟨by simp; omega, fun p p0 p1 => ?_⟩
     rw [stp]
     by_cases ep : p = (ix g.2.2.1 t).1
     ·subst ep; rw [ziH p0 (by omega)]; exact ⟨fun _ => .inr ⟨rfl, e⟩, fun _ => rfl⟩
     ·rw [zoB x0 p0 (fun h => ep h.symm), hr p p0 p1]
      exact ⟨fun h => .inl h, fun h => h.elim id fun h => absurd h.1.symm ep⟩
    ·rename_i e
     refine ⟨hl, fun p p0 p1 => ?_⟩
     rw [stp, hr p p0 p1]
     exact ⟨fun h => .inl h, fun h => h.elim id fun h => absurd h.2 e⟩)
 rw [show zbE g l k 0 (tb g.2.1 fun _ => decide ((97 : Int) = 49)) = _ from e1]
 rw [zfy]; unfold zb5
 rw [if_neg (by simp)]
 refine congrArg some (zwk (by omega) i1 fun p p0 p1 => ?_)
 refine Bool.eq_iff_iff.2 ((i2 p p0 p1).trans ?_)
 rw [decide_eq_true_iff]
 exact (ztp (l := g.2.2.1) (P := fun x : Arc => x.1 = p /\ x.2.1 = v)).symm
theorem zz8 (ok : GrOk g) (k0 : 0 <= k) (k1 : k < l.length) (hx : ix l k = (s, al, v, A, B, u)) (hs : s = 33 \/ s = 88 \/ s = 70 \/ s = 71) {R : List Bool} (hA : zb4 g l A = some R) : zb4 g l k = zbn g l k R (List.replicate (g.2.1).toNat false) := by
 have hn := ok.n
 have mk := zpK (N := g.2.1) (b := 1) (by omega) (by omega) (by omega)
 have hA' : zb4 (g.1, g.2.1, g.2.2.1, ()) l (ix l k).2.2.2.1 = some R := by rw [hx]; exact hA
 have d : ∀ c : Int, c ≠ 33 -> c ≠ 88 -> c ≠ 70 -> c ≠ 71 -> ¬ decide ((ix l k).1 = c) = true := fun c _ _ _ _ => by rw [hx]; simp; omega
 rw [zhU]; unfold zdy zdo
 rw [zai ⟨k0, k1⟩, zai mk, if_neg (d 48 (by decide) (by decide) (by decide) (by decide)), if_neg (d 49 (by decide) (by decide) (by decide) (by decide)), if_neg (d 97 (by decide) (by decide) (by decide) (by decide)), hA']
 show G _ _ = _
 unfold zcL
 rw [zai mk, if_neg (d 38 (by decide) (by decide) (by decide) (by decide)), if_neg (d 124 (by decide) (by decide) (by decide) (by decide)), if_neg (d 85 (by decide) (by decide) (by decide) (by decide))]
theorem zz9 (ok : GrOk g) (k0 : 0 <= k) (k1 : k < l.length) (hx : ix l k = (s, al, v, A, B, u)) (hs : s = 38 \/ s = 124 \/ s = 85) {R S : List Bool} (hA : zb4 g l A = some R) (hB : zb4 g l B = some S) : zb4 g l k = zbn g l k R S := by
 have hn := ok.n
 have mk := zpK (N := g.2.1) (b := 1) (by omega) (by omega) (by omega)
 have hA' : zb4 (g.1, g.2.1, g.2.2.1, ()) l (ix l k).2.2.2.1 = some R := by rw [hx]; exact hA
 have hB' : zb4 (g.1, g.2.1, g.2.2.1, ()) l (ix l k).2.2.2.2.1 = some S := by rw [hx]; exact hB
 have d : ∀ c : Int, c ≠ s -> ¬ decide ((ix l k).1 = c) = true := fun c _ => by rw [hx]; simp; omega
 have j18 : zcL zb4 g l k R true = zbn g l k R S := by
  unfold zcL
  rw [if_pos rfl, hB']; rfl
 rw [zhU]; unfold zdy zdo
 rw [zai ⟨k0, k1⟩, zai mk, if_neg (d 48 (by omega)), if_neg (d 49 (by omega)), if_neg (d 97 (by omega)), hA']
 show G _ _ = _
 rw [zai mk]
 rcases hs with rfl | rfl | rfl
 ·rw [if_pos (by rw [hx]; rfl)]; exact j18
 ·rw [if_neg (d 38 (by omega)), if_pos (by rw [hx]; rfl)]; exact j18
 ·rw [if_neg (d 38 (by omega)), if_neg (d 124 (by omega)), show decide ((ix l k).1 = 85) = true from by rw [hx]; rfl]; exact j18
theorem zwg (ok : GrOk g) (hx : ix l k = (s, al, v, A, B, u)) (hs : s = 33 \/ s = 38 \/ s = 124 \/ s = 88) {R S : List Bool} (hR : (R.length : Int) = g.2.1) (hS : (S.length : Int) = g.2.1) {f : Int -> Bool}
  (hf : ∀ p, 0 <= p -> p < g.2.1 -> f p = if s = 33 then !ix R p else if s = 38 then ix R p && ix S p else if s = 124 then ix R p || ix S p else St g al R p) : zbn g l k R S = some (tb g.2.1 f) := by
 have hn := ok.n
 have eg : (g.1, g.2.1, g.2.2.1, ()) = g := rfl
 have d : ∀ c : Int, c ≠ s -> ¬ decide ((ix l k).1 = c) = true := fun c _ => by rw [hx]; simp; omega
 unfold zbn
 rw [if_neg (d 85 (by omega)), if_neg (d 71 (by omega)), if_neg (d 70 (by omega))]
 refine fill (N := g.2.1) (by omega) (loop := fun t out => zd0 g l k R S t out) (fin := fun out => some out) (f := f) (fun t out t0 t1 ho => ?_) (fun out ho => ?_) (zkg (by omega))
 ·have fT : fits (t + 1) := zaL (by omega) (by omega)
  show zd0 g l k R S t out = zd0 g l k R S (t + 1) _
  have hft := hf t t0 t1
  conv => lhs; rw [zlI]; unfold zcY
  rw [if_pos (decide_eq_true t1)]
  rcases hs with rfl | rfl | rfl | rfl
  ·rw [if_pos (by rw [hx]; rfl), zai ⟨t0, by omega⟩, zai (by omega), zai ⟨t0, by omega⟩, zai (by omega), zai fT, show f t = !ix R t by rw [hft]; simp]
  ·rw [if_neg (d 33 (by omega)), if_pos (by rw [hx]; rfl), zai ⟨t0, by omega⟩, zai (by omega), show f t = (ix R t && ix S t) by rw [hft]; simp]
   cases ix R t
   ·rw [if_neg (by simp), zai ⟨t0, by omega⟩, zai (by omega), zai fT]; rfl
   ·rw [if_pos rfl, zai ⟨t0, by omega⟩, zai (by omega), zai ⟨t0, by omega⟩, zai (by omega), zai fT]; rfl
  ·rw [if_neg (d 33 (by omega)), if_neg (d 38 (by omega)), if_pos (by rw [hx]; rfl), zai ⟨t0, by omega⟩, zai (by omega), show f t = (ix R t || ix S t) by rw [hft]; simp]
   cases ix R t
   ·rw [if_neg (by simp), zai ⟨t0, by omega⟩, zai (by omega), zai ⟨t0, by omega⟩, zai (by omega), zai fT]; rfl
   ·rw [if_pos rfl, zai ⟨t0, by omega⟩, zai (by omega), zai fT]; rfl
  ·rw [if_neg (d 33 (by omega)), if_neg (d 38 (by omega)), if_neg (d 124 (by omega)), if_pos (by rw [hx]; rfl), eg, zyc ok hR t0 t1, show f t = St g al R t by rw [hft]; simp]
   show G _ _ = _
   rw [zai ⟨t0, by omega⟩, zai (by omega)]
   have hal : (ix l k).2.1 = al := by rw [hx]
   cases al with
   | false =>
    rw [if_neg (by rw [hal]; simp), zai fT]
   | true =>
    rw [if_pos hal, zvy ok hR t0 t1]
    have hl2 : ((out.set t.toNat (St g false R t)).length : Int) = g.2.1 := by simp; omega
    show G _ _ = _
    rw [zai ⟨t0, by omega⟩, zai (by omega), zai fT, List.set_set]
 ·show zd0 g l k R S g.2.1 out = _
  rw [zlI]; unfold zcY
  rw [if_neg (by simp)]
theorem zA4 (ok : GrOk g) (hx : ix l k = (85, al, v, A, B, u)) {R S : List Bool} (hR : (R.length : Int) = g.2.1) (hS : (S.length : Int) = g.2.1) : ∃ T, zbn g l k R S = some T /\ Lf g al R S T := by
 have eg : (g.1, g.2.1, g.2.2.1, ()) = g := rfl
 obtain ⟨T, e, h⟩ := zyq ok (all := al) hR hS
 refine ⟨T, ?_, h⟩
 unfold zbn
 rw [if_pos (by rw [hx]; rfl), eg, show (ix l k).2.1 = al by rw [hx], e]; rfl
theorem zA3 (ok : GrOk g) (hx : ix l k = (71, al, v, A, B, u)) {R S : List Bool} (hR : (R.length : Int) = g.2.1) : ∃ T, zbn g l k R S = some T /\ Gf g al R T := by
 have eg : (g.1, g.2.1, g.2.2.1, ()) = g := rfl
 obtain ⟨T, e, h⟩ := zy0 ok (all := al) hR
 refine ⟨T, ?_, h⟩
 unfold zbn
 rw [if_neg (by rw [hx]; exact Bool.false_ne_true), if_pos (by rw [hx]; rfl), eg, show (ix l k).2.1 = al by rw [hx], e]; rfl
theorem zA2 (ok : GrOk g) (hx : ix l k = (70, al, v, A, B, u)) {R : List Bool} (hR : (R.length : Int) = g.2.1) : ∃ T, zbn g l k R (List.replicate (g.2.1).toNat false) = some T /\ Lf g al (tb g.2.1 fun _ => true) R T := by
 have hn := ok.n
 have eg : (g.1, g.2.1, g.2.2.1, ()) = g := rfl
 obtain ⟨T, e, h⟩ := zyq ok (all := al) (zdA (N := g.2.1) (f := fun _ => true) (by omega)) hR
 refine ⟨T, ?_, h⟩
 unfold zbn
 rw [if_neg (by rw [hx]; exact Bool.false_ne_true), if_neg (by rw [hx]; exact Bool.false_ne_true), if_pos (by rw [hx]; rfl)]
 have h1 : zeD g l k R 0 (List.replicate (g.2.1).toNat false) = (zjV g al (tb g.2.1 fun _ => true) R).bind fun y => some y := by
  refine fill (N := g.2.1) (by omega) (loop := fun t out => zeD g l k R t out) (fin := fun out => (zjV g al out R).bind fun y => some y) (f := fun _ => true) (fun t out t0 t1 ho => ?_) (fun out ho => ?_) (zkg (by omega))
  ·conv => lhs; rw [zlH]; unfold zcX
   rw [if_pos (decide_eq_true t1), zai ⟨t0, by omega⟩, zai (by omega), zai (zaL (by omega) (by omega))]
  ·show zeD g l k R g.2.1 out = _
   rw [zlH]; unfold zcX
   rw [if_neg (by simp), eg, show (ix l k).2.1 = al by rw [hx]]
 rw [h1, e]; rfl
theorem zwV (ok : GrOk g) (hw : WOk g w) {t : Tr ND} {k : Int} (h : Stn l t k) : ∃ R, zaj w t = some R /\ zb4 g l k = some R /\ (R.length : Int) = g.2.1 := by
 have hn := ok.n
 induction h with
 | leaf k k0 k1 hs =>
  generalize hx : ix l k = x at hs
  obtain ⟨s, al, v, A, B, u⟩ := x
  rcases (hs : s = 48 \/ s = 49 \/ s = 97) with rfl | rfl | rfl
  ·exact ⟨_, zuB ok hw (.inl rfl), zA0 ok k0 k1 hx, zdA (by omega)⟩
  ·exact ⟨_, zuB ok hw (.inr rfl), zA1 ok k0 k1 hx, zdA (by omega)⟩
  ·exact ⟨_, zz4 ok hw, zA5 ok k0 k1 hx, zdA (by omega)⟩
 | one k a k0 k1 hs ha iha =>
  obtain ⟨Ra, e1, e2, hl⟩ := iha
  generalize hx : ix l k = x at hs e2
  obtain ⟨s, al, v, A, B, u⟩ := x
  have e2 : zb4 g l A = some Ra := e2
  have hs : s = 33 \/ s = 88 \/ s = 70 \/ s = 71 := hs
  have p1 : zaj w (Tr.mk (s, al, v, ()) [a]) = _ := zwe (by omega) e1
  have r1 := zz8 ok k0 k1 hx hs e2
  rcases hs with rfl | rfl | rfl | rfl
  ·exact ⟨_, p1.trans (zzY hl (by omega)), r1.trans (zwg ok hx (by omega) hl (zkg (by omega)) fun p _ _ => by simp), znD (by omega)⟩
  ·exact ⟨_, p1.trans ((zrN (.inl rfl) hl (by omega)).trans (zz3 ok hw hl)), r1.trans (zwg ok hx (by omega) hl (zkg (by omega)) fun p _ _ => by simp), zdA (by omega)⟩
  ·obtain ⟨R, q1, q2⟩ := zz0 ok hw (v := v) (al := al) (K := [a]) hl
   obtain ⟨T, q3, q4⟩ := zA2 ok hx hl
   rw [<- q2.uniq q4] at q3
   exact ⟨R, p1.trans ((zrN (.inr (.inl rfl)) hl (by omega)).trans q1), r1.trans q3, q2.l⟩
  ·obtain ⟨R, q1, q2⟩ := zz1 ok hw (v := v) (al := al) (K := [a]) hl
   obtain ⟨T, q3, q4⟩ := zA3 ok hx (S := List.replicate (g.2.1).toNat false) hl
   rw [<- q2.uniq q4] at q3
   exact ⟨R, p1.trans ((zrN (.inr (.inr rfl)) hl (by omega)).trans q1), r1.trans q3, q2.l⟩
 | two k a b k0 k1 hs ha hb iha ihb =>
  obtain ⟨Ra, e1, e2, hl⟩ := iha
  obtain ⟨Rb, e3, e4, hl2⟩ := ihb
  generalize hx : ix l k = x at hs e2 e4
  obtain ⟨s, al, v, A, B, u⟩ := x
  have e2 : zb4 g l A = some Ra := e2
  have e4 : zb4 g l B = some Rb := e4
  have hs : s = 38 \/ s = 124 \/ s = 85 := hs
  have p1 : zaj w (Tr.mk (s, al, v, ()) [a, b]) = _ := (zwe (by omega) e1).trans (zyR hs e3)
  have r1 := zz9 ok k0 k1 hx hs e2 e4
  rcases hs with rfl | rfl | rfl
  ·exact ⟨_, p1.trans (zzZ ok hw hl hl2), r1.trans (zwg ok hx (by omega) hl hl2 fun p _ _ => by simp), zdA (by omega)⟩
  ·exact ⟨_, p1.trans (zyQ ok hw hl hl2), r1.trans (zwg ok hx (by omega) hl hl2 fun p _ _ => by simp), zdA (by omega)⟩
  ·obtain ⟨R, q1, q2⟩ := zz2 ok hw (v := v) (al := al) (K := [a, b]) hl hl2
   obtain ⟨T, q3, q4⟩ := zA4 ok hx hl hl2
   rw [<- q2.uniq q4] at q3
   exact ⟨R, p1.trans q1, r1.trans q3, q2.l⟩
end
theorem law_true (g : Gr) (c : List UInt8) : ziI g c = some true := by
 have eg : (g.1, g.2.1, g.2.2.1, ()) = g := rfl
 unfold ziI zl5
 rw [eg, zr0, zsh]
 simp only [Option.bind_some]
 by_cases h0 : grE g = 0
 ·have ok := zyE h0
  have hn := ok.n
  obtain ⟨w, ew, hw⟩ := zwU ok
  rw [h0]
  rcases zsI c with ⟨a, b, l, e1, e2, hl, hs⟩ | ⟨a, cd, pl, e1, e2, hcd⟩
  ·obtain ⟨R, e3, e4, hR⟩ := zwV ok hw hs
   simp only [e1, e2, ew, e3, Option.bind_some, not_true_eq_false, decide_false, decide_true, Bool.false_eq_true, if_false, if_true]
   unfold zcv zcw
   simp only [not_true_eq_false, decide_false, decide_true, Bool.false_eq_true, if_false, if_true]
   rw [eg, e4]
   simp only [Option.bind_some]
   rw [zsY (by omega)]
   simp
  ·simp only [e1, e2, hcd, Option.bind_some, not_true_eq_false, not_false_eq_true, decide_false, decide_true, Bool.false_eq_true, if_false, if_true]
   unfold zcv zcw
   simp
 ·simp only [h0, Option.bind_some, not_false_eq_true, decide_false, decide_true, Bool.false_eq_true, if_false, if_true]
  rcases zsI c with ⟨a, b, l, e1, e2, hl, hs⟩ | ⟨a, cd, pl, e1, e2, hcd⟩
  ·simp only [e2, Option.bind_some]
   unfold zcv zcw
   simp [h0]
  ·simp only [e2, Option.bind_some]
   unfold zcv zcw
   simp [h0]
end Go.Proofs.Ythgegjfmniafiaa.branchHoldsW
