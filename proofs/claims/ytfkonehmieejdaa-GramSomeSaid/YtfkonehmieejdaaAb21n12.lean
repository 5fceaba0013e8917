/- Lists by places that are whole numbers. -/
import Derived.Test.YtfkonehmieejdaaAb21n11
set_option linter.unusedVariables false
set_option linter.unusedSimpArgs false
set_option linter.unusedSectionVars false
namespace Go.Ab
section
variable {α:Type} [Inhabited α] {l m:List α} {i j:Int} {x:α}
theorem zl8 (h0:0<=i) (h:i < l.length):ix l i=l[i.toNat]'(by omega):=by
 unfold ix;rw [List.getD_eq_getElem?_getD,List.getElem?_eq_getElem (by omega)];rfl
theorem zln (h0:0<=i) (h:i < l.length):l.drop i.toNat=ix l i::l.drop (i+1).toNat:=by
 have e:(i+1).toNat=i.toNat+1:=by omega
 rw [e,zl8 h0 h,<- List.drop_eq_getElem_cons]
theorem zqZ (h0:0<=i) (h:i < l.length):l.take (i+1).toNat=l.take i.toNat++[ix l i]:=by
 have e:(i+1).toNat=i.toNat+1:=by omega
 rw [e,zl8 h0 h,List.take_add_one,List.getElem?_eq_getElem (by omega)];rfl
theorem zrT (hl:l.length=m.length) (h:∀ j:Int,0<=j->j < l.length->ix l j=ix m j):l=m:=by
 apply List.ext_getElem hl
 intro k h1 h2;have:=h k (by omega) (by omega)
 rw [zl8 (by omega) (by omega),zl8 (by omega) (by omega)] at this
 simpa using this
theorem znB (h0:0<=i) (h:i < l.length):ix l i∈l:=by rw [zl8 h0 h];exact List.getElem_mem _
theorem zbE (h0:0<=i) (h:i < l.length):ix (l.set i.toNat x) i=x:=by
 unfold ix;simp only [List.getD_eq_getElem?_getD];rw [List.getElem?_set_self (by omega)];rfl
theorem zfU (h0:0<=i) (hj:0<=j) (h:i≠j):ix (l.set i.toNat x) j=ix l j:=by
 unfold ix;simp only [List.getD_eq_getElem?_getD];rw [List.getElem?_set_ne (by omega)]
theorem ziK {n:Nat} (h0:0<=i) (h:i < n):ix (List.replicate n x) i=x:=by
 rw [zl8 h0 (by simpa using h)];simp
end
theorem znR {p:Int->Prop} {n:Int} (h:∀ j,0<=j->j < n->p j) (hn:p n):∀ j,0<=j->j < n+1->p j:=fun j h0 h1=>by
 rcases Int.lt_or_eq_of_le (show j<=n by omega) with h2 | rfl
 ·exact h j h0 h2
 ·exact hn
end Go.Ab
