/- Lists by places that are whole numbers. -/
import Derived.Test.YtecclpahhnajfaaAb21n11
set_option linter.unusedVariables false
set_option linter.unusedSimpArgs false
set_option linter.unusedSectionVars false
namespace Go.Ab
section
variable {α:Type} [Inhabited α] {l m:List α} {i j:Int} {x:α}
theorem ztS (h0:0<=i) (h:i < l.length):ix l i=l[i.toNat]'(by omega):=by
 unfold ix;rw [List.getD_eq_getElem?_getD,List.getElem?_eq_getElem (by omega)];rfl
theorem ix_drop (h0:0<=i) (h:i < l.length):l.drop i.toNat=ix l i::l.drop (i+1).toNat:=by
 have e:(i+1).toNat=i.toNat+1:=by omega
 rw [e,ztS h0 h,<- List.drop_eq_getElem_cons]
theorem zhu (h0:0<=i) (h:i < l.length):ix l i∈l:=by rw [ztS h0 h];exact List.getElem_mem _
theorem zdH (h0:0<=i) (h:i < l.length):ix (l++m) i=ix l i:=by
 unfold ix;simp only [List.getD_eq_getElem?_getD];rw [List.getElem?_append_left (by omega)]
theorem zpB (h:(l.length:Int)<=i):ix (l++m) i=ix m (i - l.length):=by
 unfold ix;simp only [List.getD_eq_getElem?_getD];rw [List.getElem?_append_right (by omega)];congr 2;omega
theorem zgU:ix (l++[x]) l.length=x:=by rw [zpB (by omega)];simp [ix]
theorem zda (h0:0<=i) (h:i < l.length):ix (l.set i.toNat x) i=x:=by
 unfold ix;simp only [List.getD_eq_getElem?_getD];rw [List.getElem?_set_self (by omega)];rfl
theorem zeY (h0:0<=i) (hj:0<=j) (h:i≠j):ix (l.set i.toNat x) j=ix l j:=by
 unfold ix;simp only [List.getD_eq_getElem?_getD];rw [List.getElem?_set_ne (by omega)]
theorem zim {n:Nat} (h0:0<=i) (h:i < n):ix (List.replicate n x) i=x:=by
 rw [ztS h0 (by simpa using h)];simp
end
end Go.Ab
