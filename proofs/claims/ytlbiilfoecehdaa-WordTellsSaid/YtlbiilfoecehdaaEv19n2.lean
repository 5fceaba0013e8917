/- States that a program can compute with: slots and owned things by typed data. -/
import Derived.Test.YtlbiilfoecehdaaEv19n1
set_option linter.unusedVariables false
set_option linter.unusedSimpArgs false
set_option linter.unusedSectionVars false
namespace Go.Ab
open Enc (enc)

inductive EV where
  | any
  | undef
  | d (t : Ty) (x : t.den)
  | nil
  | own (id : Nat)
  | ptr (id off : Nat)
  | eptr (id : Nat) (t : Ty) (i k : Nat)
  | vptr (id off n : Nat) (t : Ty) (j : Nat)
  | view (id : Nat) (t : Ty) (i n : Nat)
  | raw (a : AV)
  | addr (t : Ty) (x : t.den)
  | agg (l : List EV)
  | tup (l : List EV)
  | fn (f : Nat) (c : List EV)
  | lit (v : Value)

instance : Inhabited EV := ⟨.any⟩

mutual
def EV.av : EV → AV
  | .any => .any
  | .undef => .tup []
  | .d t x => .d (encD t x)
  | .nil => .nil
  | .own id => .own id
  | .ptr id off => .ptr id off
  | .eptr id t i k => .eptr id t.sz i k
  | .vptr id off _ _ j => .ptr id (off + j)
  | .view id t i n => .view id t.sz i n
  | .raw a => a
  | .addr t x => .addr (encD t x)
  | .agg l => .agg (EV.avL l)
  | .tup l => .tup (EV.avL l)
  | .fn f c => .fn f (EV.avL c)
  | .lit v => .d (.lit v)
def EV.avL : List EV → List AV
  | [] => []
  | x :: r => x.av :: EV.avL r
end

theorem avL_map : ∀ l : List EV, EV.avL l = l.map EV.av
  | [] => rfl
  | x :: r => by rw [EV.avL, List.map_cons, avL_map r]

inductive EEnt where
  | arr (E : Nat) (t : Ty) (l : List t.den)
  | box (T : Nat) (c : List EV)

def EEnt.ent : EEnt → Ent
  | .arr E _ l => Ent.arrOf E l
  | .box T c => .box T (EV.avL c)

structure ESt where
  n : Nat
  slots : List (Nat × EV)
  heap : List (Nat × Option EEnt)
  nxt : Nat

def ESt.st (s : ESt) : St := ⟨s.n, s.nxt, s.slots.map fun p => (p.1, p.2.av), s.heap.map fun p => (p.1, p.2.map EEnt.ent)⟩
def ESt.get (s : ESt) (k : Nat) : Option EV := look s.slots k
def ESt.ent (s : ESt) (id : Nat) : Option EEnt := match look s.heap id with
  | some (some e) => some e
  | _ => none
def ESt.set (s : ESt) (k : Nat) (x : EV) : ESt := { s with slots := (k, x) :: s.slots }
def ESt.put (s : ESt) (id : Nat) (e : Option EEnt) : ESt := { s with heap := (id, e) :: s.heap }
def ESt.new (s : ESt) (e : EEnt) : ESt := { s with heap := (s.nxt, some e) :: s.heap, nxt := s.nxt + 1 }

theorem look_map {β γ : Type} (f : β → γ) : ∀ (l : List (Nat × β)) (k : Nat), look (l.map fun p => (p.1, f p.2)) k = (look l k).map f
  | [], k => rfl
  | (j, v) :: r, k => by
    rw [List.map_cons, look_cons, look_cons, look_map f r k]
    by_cases h : j = k
    · rw [if_pos h, if_pos h]; rfl
    · rw [if_neg h, if_neg h]

theorem st_get (s : ESt) (k : Nat) : s.st.get k = (s.get k).map EV.av := look_map _ _ _
theorem st_ent (s : ESt) (id : Nat) : s.st.ent id = (s.ent id).map EEnt.ent := by
  unfold St.ent ESt.ent ESt.st
  simp only [look_map]
  cases look s.heap id with
  | none => rfl
  | some o => cases o <;> rfl
theorem get_st {s : ESt} {k : Nat} {x : EV} (h : s.get k = some x) : s.st.get k = some x.av := by rw [st_get, h]; rfl
theorem ent_st {s : ESt} {id : Nat} {e : EEnt} (h : s.ent id = some e) : s.st.ent id = some e.ent := by rw [st_ent, h]; rfl
theorem set_st (s : ESt) (k : Nat) (x : EV) : (s.set k x).st = s.st.set k x.av := rfl
theorem put_st (s : ESt) (id : Nat) (e : Option EEnt) : (s.put id e).st = s.st.put id (e.map EEnt.ent) := rfl
theorem new_st (s : ESt) (e : EEnt) : (s.new e).st = s.st.new e.ent := rfl

/-! ### constants -/
def EV.con1 : Value → EV
  | .bool b => .d .bool b
  | .int k n => .d (.int k) n
  | .string s => .d .str s.data.toList
  | .slice none 0 0 => .nil
  | .slice _ _ _ => .any
  | .agg _ => .any
  | .tuple _ => .any
  | v => .lit v
def EV.con : Value → EV
  | .agg cs => .agg (cs.toList.map EV.con1)
  | v => EV.con1 v

theorem con1_av (v : Value) : (EV.con1 v).av = avc1 v := by
  cases v with
  | slice a n c => rcases a with _ | a <;> rcases n with _ | n <;> rcases c with _ | c <;> rfl
  | _ => rfl
theorem con_av (v : Value) : (EV.con v).av = avc v := by
  cases v with
  | agg cs =>
    show AV.agg (EV.avL _) = AV.agg _
    rw [avL_map, List.map_map]; congr 1; exact List.map_congr_left fun v _ => con1_av v
  | slice a n c => exact con1_av (.slice a n c)
  | _ => rfl

def ESt.ev (s : ESt) : Operand → Option EV
  | .tmp t => s.get t
  | .const v => some (EV.con v)
  | .func f => some (.fn f [])
  | .global _ => none

theorem ev_st {s : ESt} {x : Operand} {y : EV} (h : s.ev x = some y) : s.st.ev x = some y.av := by
  cases x with
  | tmp t => exact get_st h
  | const v => cases h; show some (avc v) = _; rw [con_av]
  | func f => cases h; rfl
  | global g => cases h

/-! ### rows of typed terms -/
abbrev Tup : List Ty → Type
  | [] => Unit
  | [t] => t.den
  | t :: u :: r => t.den × Tup (u :: r)

def Tup.get : (ts : List Ty) → Tup ts → Nat → EV
  | [], _, _ => .any
  | [t], x, 0 => .d t x
  | [_], _, _ + 1 => .any
  | t :: _ :: _, x, 0 => .d t x.1
  | _ :: u :: r, x, j + 1 => Tup.get (u :: r) x.2 j

def EV.exact (t : Ty) : EV → Option t.den
  | .d t' x => castTy t' t x
  | _ => none

theorem exact_spec {t : Ty} {v : EV} {x : t.den} (h : v.exact t = some x) : v = .d t x := by
  cases v with
  | d t' y =>
    obtain ⟨rfl, rfl⟩ := castTy_spec (show castTy t' t y = some x from h)
    rfl
  | _ => cases h

def Tup.mk? : (ts : List Ty) → (Nat → Option EV) → Nat → Option (Tup ts)
  | [], _, _ => some ()
  | [t], f, j => match f j with
    | some v => v.exact t
    | none => none
  | t :: u :: r, f, j => match f j with
    | some v => match v.exact t with
      | some x => match Tup.mk? (u :: r) f (j + 1) with
        | some y => some (x, y)
        | none => none
      | none => none
    | none => none

theorem mk?_spec {f : Nat → Option EV} : ∀ {ts : List Ty} {j : Nat} {X : Tup ts}, Tup.mk? ts f j = some X → ∀ i, i < ts.length → f (j + i) = some (Tup.get ts X i)
  | [], _, _, _, i, hi => by simp at hi
  | [t], j, X, h, i, hi => by
    simp only [Tup.mk?] at h
    have : i = 0 := by simpa using hi
    subst this
    rw [Nat.add_zero]
    cases hf : f j with
    | none => rw [hf] at h; cases h
    | some v =>
      rw [hf] at h
      simp only [exact_spec h, Tup.get]
  | t :: u :: r, j, X, h, i, hi => by
    simp only [Tup.mk?] at h
    cases hf : f j with
    | none => rw [hf] at h; cases h
    | some v =>
      rw [hf] at h
      simp only at h
      cases hx : v.exact t with
      | none => rw [hx] at h; cases h
      | some x =>
        rw [hx] at h
        simp only at h
        cases hy : Tup.mk? (u :: r) f (j + 1) with
        | none => rw [hy] at h; cases h
        | some y =>
          rw [hy] at h
          cases h
          cases i with
          | zero => simp only [Nat.add_zero, hf, exact_spec hx, Tup.get]
          | succ i =>
            have := mk?_spec hy i (by simpa using hi)
            rw [show j + (i + 1) = j + 1 + i by omega, this]; rfl
end Go.Ab
