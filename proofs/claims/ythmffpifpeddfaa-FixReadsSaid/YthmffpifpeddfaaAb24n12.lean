import Derived.Test.YthmffpifpeddfaaAb24n11
set_option linter.unusedVariables false
set_option linter.unusedSimpArgs false
set_option linter.unusedSectionVars false
namespace Go.Ab
section
variable {α:Type} [Inhabited α] {l m:List α} {i j:Int} {x:α}
theorem zqa (h0:0<=i) (h:i < l.length):ix l i=l[i.toNat]'(by omega):=by
 unfold ix;rw [List.getD_eq_getElem?_getD,List.getElem?_eq_getElem (by omega)];rfl
theorem ix_drop (h0:0<=i) (h:i < l.length):l.drop i.toNat=ix l i::l.drop (i+1).toNat:=by
 have e:(i+1).toNat=i.toNat+1:=by omega
 rw [e,zqa h0 h,<- List.drop_eq_getElem_cons]
theorem zce (h0:0<=i) (h:i < l.length):ix (l++m) i=ix l i:=by
 unfold ix;simp only [List.getD_eq_getElem?_getD];rw [List.getElem?_append_left (by omega)]
theorem zjD (h:(l.length:Int)<=i):ix (l++m) i=ix m (i - l.length):=by
 unfold ix;simp only [List.getD_eq_getElem?_getD];rw [List.getElem?_append_right (by omega)];congr 2;omega
theorem zcd:ix (l++[x]) l.length=x:=by rw [zjD (by omega)];simp [ix]
omit [Inhabited α] in
theorem ziZ:cut l 0 j=l.take j.toNat:=by simp [cut]
end
end Go.Ab
