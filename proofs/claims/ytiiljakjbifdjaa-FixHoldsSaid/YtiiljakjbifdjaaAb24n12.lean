import Derived.Test.YtiiljakjbifdjaaAb24n11
set_option linter.unusedVariables false
set_option linter.unusedSimpArgs false
set_option linter.unusedSectionVars false
namespace Go.Ab
section
variable {α:Type} [Inhabited α] {l m:List α} {i j:Int} {x:α}
theorem zmV (h0:0<=i) (h:i < l.length):ix l i=l[i.toNat]'(by omega):=by
 unfold ix;rw [List.getD_eq_getElem?_getD,List.getElem?_eq_getElem (by omega)];rfl
theorem ix_drop (h0:0<=i) (h:i < l.length):l.drop i.toNat=ix l i::l.drop (i+1).toNat:=by
 have e:(i+1).toNat=i.toNat+1:=by omega
 rw [e,zmV h0 h,<- List.drop_eq_getElem_cons]
theorem zsw (hl:l.length=m.length) (h:∀ j:Int,0<=j->j < l.length->ix l j=ix m j):l=m:=by
 apply List.ext_getElem hl
 intro k h1 h2;have:=h k (by omega) (by omega)
 rw [zmV (by omega) (by omega),zmV (by omega) (by omega)] at this
 simpa using this
theorem zqP (h0:0<=i) (h:i < l.length):ix l i∈l:=by rw [zmV h0 h];exact List.getElem_mem _
theorem zc1 (h0:0<=i) (h:i < l.length):ix (l++m) i=ix l i:=by
 unfold ix;simp only [List.getD_eq_getElem?_getD];rw [List.getElem?_append_left (by omega)]
theorem zn4 (h:(l.length:Int)<=i):ix (l++m) i=ix m (i - l.length):=by
 unfold ix;simp only [List.getD_eq_getElem?_getD];rw [List.getElem?_append_right (by omega)];congr 2;omega
theorem zc0:ix (l++[x]) l.length=x:=by rw [zn4 (by omega)];simp [ix]
theorem zfN (h0:0<=i) (h:i < l.length):ix (l.set i.toNat x) i=x:=by
 unfold ix;simp only [List.getD_eq_getElem?_getD];rw [List.getElem?_set_self (by omega)];rfl
theorem zi1 (h0:0<=i) (hj:0<=j) (h:i≠j):ix (l.set i.toNat x) j=ix l j:=by
 unfold ix;simp only [List.getD_eq_getElem?_getD];rw [List.getElem?_set_ne (by omega)]
omit [Inhabited α] in
theorem znf:cut l 0 j=l.take j.toNat:=by simp [cut]
end
end Go.Ab
