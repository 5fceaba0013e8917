/- Laws of what the library's functions answer. -/
import Derived.Test.YtbkokgohnmjdeaaAb24n13
set_option linter.unusedVariables false
set_option linter.unusedSimpArgs false
set_option linter.unusedSectionVars false
namespace Go.Ab
def findI {α : Type} (p : α → Bool) : List α → Int
 | [] => -1
 | x :: l => if p x then 0 else if findI p l < 0 then -1 else findI p l + 1
theorem findI_none {α : Type} [Inhabited α] {p : α → Bool} : ∀ {l : List α}, (∀ j : Int, 0 ≤ j → j < l.length → p (ix l j) = false) → findI p l = -1
 | [], _ => rfl
 | x :: l, h => by
  have h0 : p x = false := h 0 (by omega) (by simp)
  have ih : findI p l = -1 := findI_none (l := l) (fun j h1 h2 => by
   have := h (j + 1) (by omega) (by simp; omega)
   rwa [ix_cons_succ (by omega), show j + 1 - 1 = j by omega] at this)
  simp [findI, h0, ih]
theorem findI_hit {α : Type} [Inhabited α] {p : α → Bool} : ∀ {l : List α} {i : Int}, 0 ≤ i → i < l.length → (∀ j : Int, 0 ≤ j → j < i → p (ix l j) = false) → p (ix l i) = true → findI p l = i
 | [], i, h0, hl, _, _ => by simp at hl; omega
 | x :: l, i, h0, hl, h, hp => by
  by_cases hi : i = 0
  ·subst hi
   have : p x = true := hp
   simp [findI, this]
  ·have h1 : p x = false := h 0 (by omega) (by omega)
   rw [ix_cons_succ (by omega)] at hp
   have ih : findI p l = i - 1 := findI_hit (l := l) (by omega) (by simp at hl; omega) (fun j a b => by
    have := h (j + 1) (by omega) (by omega)
    rwa [ix_cons_succ (by omega), show j + 1 - 1 = j by omega] at this) hp
   simp only [findI, h1, ih]
   simp only [Bool.false_eq_true, if_false]
   rw [if_neg (by omega)]; omega
theorem findI_any {α : Type} {p : α → Bool} : ∀ {l : List α}, decide (findI p l ≥ 0) = l.any p
 | [] => rfl
 | x :: l => by
  have ih := findI_any (p := p) (l := l)
  have e : findI p (x :: l) = if p x then 0 else if findI p l < 0 then -1 else findI p l + 1 := rfl
  rw [List.any_cons, ← ih, e]
  cases h : p x
  ·by_cases h2 : findI p l < 0
   ·simp [h2]
   ·simp [h2]; omega
  ·simp
end Go.Ab
