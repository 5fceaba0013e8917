/- Types of data by codes, so that walks can be computed. -/
import Derived.Test.YtdobpnnpfehjnaaAb19n22
set_option linter.unusedVariables false
set_option linter.unusedSimpArgs false
set_option linter.unusedSectionVars false
namespace Go.Ab
open Enc (enc)
inductive Ty where
  | int (k : IntKind)
  | bool
  | str
  | list (t : Ty)
  | unit
  | pair (a b : Ty)
def Ty.beq : Ty → Ty → Bool
  | .int j, .int k => decide (j = k)
  | .bool, .bool => true
  | .str, .str => true
  | .list a, .list b => Ty.beq a b
  | .unit, .unit => true
  | .pair a b, .pair c d => Ty.beq a c && Ty.beq b d
  | _, _ => false
theorem Ty.eq_of_beq : ∀ {a b : Ty}, Ty.beq a b = true → a = b
  | .int j, b, h => by cases b <;> simp [Ty.beq] at h; rw [h]
  | .bool, b, h => by cases b <;> simp [Ty.beq] at h; rfl
  | .str, b, h => by cases b <;> simp [Ty.beq] at h; rfl
  | .list a, b, h => by cases b <;> simp [Ty.beq] at h; rw [Ty.eq_of_beq h]
  | .unit, b, h => by cases b <;> simp [Ty.beq] at h; rfl
  | .pair a c, b, h => by cases b <;> simp [Ty.beq] at h; rw [Ty.eq_of_beq h.1, Ty.eq_of_beq h.2]
abbrev Ty.den : Ty → Type
  | .int _ => Int
  | .bool => Bool
  | .str => List UInt8
  | .list t => List t.den
  | .unit => Unit
  | .pair a b => a.den × b.den
def castTy (a b : Ty) (x : a.den) : Option b.den := if h : Ty.beq a b = true then some (Ty.eq_of_beq h ▸ x) else none
theorem castTy_spec {a b : Ty} {x : a.den} {y : b.den} (h : castTy a b x = some y) : ∃ e : a = b, e ▸ x = y := by
  unfold castTy at h
  split at h
  · rename_i hb; cases h; exact ⟨Ty.eq_of_beq hb, rfl⟩
  · cases h
def Ty.sz : Ty → Nat
  | .unit => 0
  | .pair a b => a.sz + b.sz
  | _ => 1
def Ty.al : Ty → Nat
  | .int k => k.bits / 8
  | .bool => 1
  | .str => 8
  | .list _ => 8
  | .unit => 1
  | .pair a b => max a.al b.al
def up (n a : Nat) : Nat := (n + a - 1) / a * a
def Ty.lay : Ty → Nat × (Nat → Nat)
  | .int k => (k.bits / 8, id)
  | .bool => (1, id)
  | .str => (16, id)
  | .list _ => (24, id)
  | .unit => (0, id)
  | .pair a b => (up (b.lay.2 (up 0 a.al + a.lay.1)) (max a.al b.al), fun off => b.lay.2 (up off a.al + a.lay.1))
def Ty.bts (t : Ty) : Nat := t.lay.1
def Ty.agg : Ty → Bool
  | .unit => true
  | .pair _ _ => true
  | _ => false
def encD : (t : Ty) → t.den → D
  | .int k, n => .lit (.int k n)
  | .bool, b => .lit (.bool b)
  | .str, s => .lit (.string ⟨⟨s⟩⟩)
  | .list t, l => .sl t.bts (l.map (encD t))
  | .unit, _ => .agg []
  | .pair a b, x => .agg ((encD a x.1).cells ++ (encD b x.2).cells)
theorem encD_len : ∀ (t : Ty) (x : t.den), (encD t x).cells.length = t.sz
  | .int _, _ => rfl
  | .bool, _ => rfl
  | .str, _ => rfl
  | .list _, _ => rfl
  | .unit, _ => rfl
  | .pair a b, x => by
    show ((encD a x.1).cells ++ (encD b x.2).cells).length = a.sz + b.sz
    rw [List.length_append, encD_len a, encD_len b]
theorem encD_flat : ∀ (t : Ty) (x : t.den), (encD t x).cells.all D.one = true
  | .int _, _ => rfl
  | .bool, _ => rfl
  | .str, _ => rfl
  | .list _, _ => rfl
  | .unit, _ => rfl
  | .pair a b, x => by
    show ((encD a x.1).cells ++ (encD b x.2).cells).all D.one = true
    rw [List.all_append, encD_flat a, encD_flat b]; rfl
instance encI (t : Ty) : Enc t.den := ⟨encD t, t.sz, t.bts, encD_len t, encD_flat t⟩
theorem enc_eq (t : Ty) (x : t.den) : (enc x : D) = encD t x := rfl
theorem enc_list (t : Ty) (l : List t.den) : (enc l : D) = encD (.list t) l := rfl
theorem enc_sz (t : Ty) : Enc.sz t.den = t.sz := rfl
theorem enc_bts (t : Ty) : Enc.bts t.den = t.bts := rfl
theorem encD_agg {t : Ty} (h : t.agg = true) (x : t.den) : encD t x = .agg (encD t x).cells := by
  cases t <;> first | rfl | (simp [Ty.agg] at h)
theorem encD_one {t : Ty} (h : t.agg = false) (x : t.den) : (encD t x).cells = [encD t x] := by
  cases t <;> first | rfl | (simp [Ty.agg] at h)
theorem sz_one {t : Ty} (h : t.agg = false) : t.sz = 1 := by
  cases t <;> first | rfl | (simp [Ty.agg] at h)
def Ty.dflt : (t : Ty) → t.den
  | .int _ => (0 : Int)
  | .bool => false
  | .str => []
  | .list _ => []
  | .unit => ()
  | .pair a b => (a.dflt, b.dflt)
instance inhI (t : Ty) : Inhabited t.den := ⟨t.dflt⟩
def Ty.zc : Ty → List Value
  | .int k => [.int k 0]
  | .bool => [.bool false]
  | .str => [.string ⟨⟨[]⟩⟩]
  | .list _ => [.slice none 0 0]
  | .unit => []
  | .pair a b => a.zc ++ b.zc
def Ty.zero (t : Ty) : Value := match t with
  | .unit => .agg #[]
  | .pair a b => .agg ⟨a.zc ++ b.zc⟩
  | .int k => .int k 0
  | .bool => .bool false
  | .str => .string ⟨⟨[]⟩⟩
  | .list _ => .slice none 0 0
theorem zero_cells (t : Ty) : t.zero.cells.toList = t.zc := by cases t <;> rfl
theorem ZRs.append : ∀ {as : List D} {vs : List Value} {bs : List D} {us : List Value}, ZRs as vs → ZRs bs us → ZRs (as ++ bs) (vs ++ us)
  | [], [], _, _, _, h => h
  | a :: as, v :: vs, _, _, h, k => ⟨h.1, ZRs.append h.2 k⟩
  | [], _ :: _, _, _, h, _ => by simp [ZRs] at h
  | _ :: _, [], _, _, h, _ => by simp [ZRs] at h
theorem zrs (t : Ty) : ZRs (encD t t.dflt).cells t.zc := by
  induction t with
  | int k => exact ⟨.lit _ rfl, trivial⟩
  | bool => exact ⟨.lit _ rfl, trivial⟩
  | str => exact ⟨.lit _ rfl, trivial⟩
  | list t _ => exact ⟨.nil _, trivial⟩
  | unit => trivial
  | pair a b iha ihb => exact ZRs.append iha ihb
end Go.Ab
