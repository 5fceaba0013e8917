/- Lists by places that are whole numbers. -/
import Derived.Test.YtfboagjnknollaaAb22n11
set_option linter.unusedVariables false
set_option linter.unusedSimpArgs false
set_option linter.unusedSectionVars false
namespace Go.Ab
section
variable {α:Type} [Inhabited α] {l m:List α} {i j:Int} {x:α}
theorem zod (h0:0<=i) (h:i < l.length):ix l i=l[i.toNat]'(by omega):=by
 unfold ix;rw [List.getD_eq_getElem?_getD,List.getElem?_eq_getElem (by omega)];rfl
theorem znp (h0:0<=i) (h:i < l.length):l.drop i.toNat=ix l i::l.drop (i+1).toNat:=by
 have e:(i+1).toNat=i.toNat+1:=by omega
 rw [e,zod h0 h,<- List.drop_eq_getElem_cons]
theorem zs6 (h0:0<=i) (h:i < l.length):l.take (i+1).toNat=l.take i.toNat++[ix l i]:=by
 have e:(i+1).toNat=i.toNat+1:=by omega
 rw [e,zod h0 h,List.take_add_one,List.getElem?_eq_getElem (by omega)];rfl
theorem ztZ (hl:l.length=m.length) (h:∀ j:Int,0<=j->j < l.length->ix l j=ix m j):l=m:=by
 apply List.ext_getElem hl
 intro k h1 h2;have:=h k (by omega) (by omega)
 rw [zod (by omega) (by omega),zod (by omega) (by omega)] at this
 simpa using this
theorem zjm (h0:0<=i) (h:i < l.length):ix l i∈l:=by rw [zod h0 h];exact List.getElem_mem _
theorem zbR (h0:0<=i) (h:i < l.length):ix (l.set i.toNat x) i=x:=by
 unfold ix;simp only [List.getD_eq_getElem?_getD];rw [List.getElem?_set_self (by omega)];rfl
theorem zhk (h0:0<=i) (hj:0<=j) (h:i≠j):ix (l.set i.toNat x) j=ix l j:=by
 unfold ix;simp only [List.getD_eq_getElem?_getD];rw [List.getElem?_set_ne (by omega)]
theorem zoe {n:Nat} (h0:0<=i) (h:i < n):ix (List.replicate n x) i=x:=by
 rw [zod h0 (by simpa using h)];simp
end
theorem zpW {p:Int->Prop} {n:Int} (h:∀ j,0<=j->j < n->p j) (hn:p n):∀ j,0<=j->j < n+1->p j:=fun j h0 h1=>by
 rcases Int.lt_or_eq_of_le (show j<=n by omega) with h2 | rfl
 ·exact h j h0 h2
 ·exact hn
end Go.Ab
