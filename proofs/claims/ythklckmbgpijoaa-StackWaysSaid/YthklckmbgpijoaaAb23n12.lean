/- Lists by places that are whole numbers. -/
import Derived.Test.YthklckmbgpijoaaAb23n11
set_option linter.unusedVariables false
set_option linter.unusedSimpArgs false
set_option linter.unusedSectionVars false
namespace Go.Ab
section
variable {α:Type} [Inhabited α] {l m:List α} {i j:Int} {x:α}
theorem zhG (h0:0<=i) (h:i < l.length):ix l i=l[i.toNat]'(by omega):=by
 unfold ix;rw [List.getD_eq_getElem?_getD,List.getElem?_eq_getElem (by omega)];rfl
theorem zvV (h0:0<=i) (h:i < l.length):l[i.toNat]? =some (ix l i):=by
 rw [zhG h0 h,List.getElem?_eq_getElem]
theorem zx1 (h0:0<=i) (h:i < l.length):l.drop i.toNat=ix l i::l.drop (i+1).toNat:=by
 have e:(i+1).toNat=i.toNat+1:=by omega
 rw [e,zhG h0 h,<- List.drop_eq_getElem_cons]
theorem zoY (h0:0<=i) (h:i < l.length):l.take (i+1).toNat=l.take i.toNat++[ix l i]:=by
 have e:(i+1).toNat=i.toNat+1:=by omega
 rw [e,zhG h0 h,List.take_add_one,List.getElem?_eq_getElem (by omega)];rfl
theorem zoX (hl:l.length=m.length) (h:∀ j:Int,0<=j->j < l.length->ix l j=ix m j):l=m:=by
 apply List.ext_getElem hl
 intro k h1 h2;have:=h k (by omega) (by omega)
 rw [zhG (by omega) (by omega),zhG (by omega) (by omega)] at this
 simpa using this
theorem za7 (h0:0<=i) (h:i < l.length):ix l i∈l:=by rw [zhG h0 h];exact List.getElem_mem _
theorem zas (h0:0<=i) (h:i < l.length):ix (l++m) i=ix l i:=by
 unfold ix;simp only [List.getD_eq_getElem?_getD];rw [List.getElem?_append_left (by omega)]
theorem zoW (h:(l.length:Int)<=i):ix (l++m) i=ix m (i - l.length):=by
 unfold ix;simp only [List.getD_eq_getElem?_getD];rw [List.getElem?_append_right (by omega)];congr 2;omega
theorem zaN:ix (l++[x]) l.length=x:=by rw [zoW (by omega)];simp [ix]
theorem zcu (h0:0<=i) (h:i < l.length):ix (l.set i.toNat x) i=x:=by
 unfold ix;simp only [List.getD_eq_getElem?_getD];rw [List.getElem?_set_self (by omega)];rfl
theorem zem (h0:0<=i) (hj:0<=j) (h:i≠j):ix (l.set i.toNat x) j=ix l j:=by
 unfold ix;simp only [List.getD_eq_getElem?_getD];rw [List.getElem?_set_ne (by omega)]
theorem znq {n:Nat} (h0:0<=i) (h:i < n):ix (List.replicate n x) i=x:=by
 rw [zhG h0 (by simpa using h)];simp
theorem zse {β:Type} [Inhabited β] (f:α->β) (h0:0<=i) (h:i < l.length):ix (l.map f) i=f (ix l i):=by
 rw [zhG h0 (by simpa using h),zhG h0 h];simp
end
end Go.Ab
