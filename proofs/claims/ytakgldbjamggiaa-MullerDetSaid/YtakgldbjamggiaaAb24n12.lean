import Derived.Test.YtakgldbjamggiaaAb24n11
set_option linter.unusedVariables false
set_option linter.unusedSimpArgs false
set_option linter.unusedSectionVars false
namespace Go.Ab
section
variable {α:Type} [Inhabited α] {l m:List α} {i j:Int} {x:α}
theorem zio (h0:0<=i) (h:i < l.length):ix l i=l[i.toNat]'(by omega):=by
 unfold ix;rw [List.getD_eq_getElem?_getD,List.getElem?_eq_getElem (by omega)];rfl
theorem zl3 (h0:0<=i) (h:i < l.length):l.drop i.toNat=ix l i::l.drop (i+1).toNat:=by
 have e:(i+1).toNat=i.toNat+1:=by omega
 rw [e,zio h0 h,<- List.drop_eq_getElem_cons]
theorem zth (hl:l.length=m.length) (h:∀ j:Int,0<=j->j < l.length->ix l j=ix m j):l=m:=by
 apply List.ext_getElem hl
 intro k h1 h2;have:=h k (by omega) (by omega)
 rw [zio (by omega) (by omega),zio (by omega) (by omega)] at this
 simpa using this
theorem zcw (h0:0<=i) (h:i < l.length):ix l i∈l:=by rw [zio h0 h];exact List.getElem_mem _
theorem ztl (h:x∈l):∃ i:Int,0<=i/\i < l.length/\ix l i=x:=by
 obtain ⟨k,hk,rfl⟩:=List.mem_iff_getElem.1 h;exact ⟨k,by omega,by omega,by rw [zio (by omega) (by omega)];simp⟩
theorem zaX (h0:0<=i) (h:i < l.length):ix (l++m) i=ix l i:=by
 unfold ix;simp only [List.getD_eq_getElem?_getD];rw [List.getElem?_append_left (by omega)]
theorem zkf (h:(l.length:Int)<=i):ix (l++m) i=ix m (i - l.length):=by
 unfold ix;simp only [List.getD_eq_getElem?_getD];rw [List.getElem?_append_right (by omega)];congr 2;omega
theorem zba:ix (l++[x]) l.length=x:=by rw [zkf (by omega)];simp [ix]
theorem zkg (h0:0<=i) (h:i < l.length):ix (l.set i.toNat x) i=x:=by
 unfold ix;simp only [List.getD_eq_getElem?_getD];rw [List.getElem?_set_self (by omega)];rfl
theorem zmR (h0:0<=i) (hj:0<=j) (h:i≠j):ix (l.set i.toNat x) j=ix l j:=by
 unfold ix;simp only [List.getD_eq_getElem?_getD];rw [List.getElem?_set_ne (by omega)]
theorem zrj {n:Nat} (h0:0<=i) (h:i < n):ix (l.take n) i=ix l i:=by
 unfold ix;simp only [List.getD_eq_getElem?_getD];rw [List.getElem?_take,if_pos (by omega)]
theorem zti {β:Type} [Inhabited β] (f:α->β) (h0:0<=i) (h:i < l.length):ix (l.map f) i=f (ix l i):=by
 rw [zio h0 (by simpa using h),zio h0 h];simp
theorem zqb {p:α->Prop}:(∀ x∈l,p x)↔∀ i:Int,0<=i->i < l.length->p (ix l i):=
 ⟨fun h _ h0 h1=>h _ (zcw h0 h1),fun h x hx=>by obtain ⟨i,h0,h1,rfl⟩:=ztl hx;exact h i h0 h1⟩
end
theorem zoS {p:Int->Prop} {n:Int} (h:∀ j,0<=j->j < n->p j) (hn:p n):∀ j,0<=j->j < n+1->p j:=fun j h0 h1=>by
 rcases Int.lt_or_eq_of_le (show j<=n by omega) with h2 | rfl
 ·exact h j h0 h2
 ·exact hn
end Go.Ab
