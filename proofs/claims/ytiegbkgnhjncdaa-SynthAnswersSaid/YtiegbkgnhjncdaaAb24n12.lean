import Derived.Test.YtiegbkgnhjncdaaAb24n11
set_option linter.unusedVariables false
set_option linter.unusedSimpArgs false
set_option linter.unusedSectionVars false
namespace Go.Ab
section
variable {α:Type} [Inhabited α] {l m:List α} {i j:Int} {x:α}
theorem zhF (a:0<=i) (h:i < l.length):ix l i=l[i.toNat]'(by omega):=by
 unfold ix;rw [List.getD_eq_getElem?_getD,List.getElem?_eq_getElem (by omega)];rfl
theorem ix_drop (a:0<=i) (h:i < l.length):l.drop i.toNat=ix l i::l.drop (i+1).toNat:=by
 have e:(i+1).toNat=i.toNat+1:=by omega
 rw [e,zhF a h,<- List.drop_eq_getElem_cons]
theorem zDa (a:0<=i) (h:i < l.length):l.take (i+1).toNat=l.take i.toNat++[ix l i]:=by
 have e:(i+1).toNat=i.toNat+1:=by omega
 rw [e,zhF a h,List.take_add_one,List.getElem?_eq_getElem (by omega)];rfl
theorem zxN (a:l.length=m.length) (h:∀ j:Int,0<=j->j < l.length->ix l j=ix m j):l=m:=by
 apply List.ext_getElem a;intro k b c;have:=h k (by omega) (by omega);rw [zhF (by omega) (by omega),zhF (by omega) (by omega)] at this;simpa using this
theorem zbc (a:0<=i) (h:i < l.length):ix l i∈l:=by rw [zhF a h];exact List.getElem_mem _
theorem zEp (h:x∈l):∃ i:Int,0<=i/\i < l.length/\ix l i=x:=by
 obtain ⟨k,a,rfl⟩:=List.mem_iff_getElem.1 h;exact ⟨k,by omega,by omega,by rw [zhF (by omega) (by omega)];simp⟩
theorem zan (a:0<=i) (h:i < l.length):ix (l++m) i=ix l i:=by
 unfold ix;simp only [List.getD_eq_getElem?_getD];rw [List.getElem?_append_left (by omega)]
theorem zcJ (h:(l.length:Int)<=i):ix (l++m) i=ix m (i - l.length):=by
 unfold ix;simp only [List.getD_eq_getElem?_getD];rw [List.getElem?_append_right (by omega)];congr 2;omega
theorem zaB:ix (l++[x]) l.length=x:=by rw [zcJ (by omega)];simp [ix]
theorem zak (a:0<=i) (h:i < l.length):ix (l.set i.toNat x) i=x:=by
 unfold ix;simp only [List.getD_eq_getElem?_getD];rw [List.getElem?_set_self (by omega)];rfl
theorem zam (a:0<=i) (b:0<=j) (h:i≠j):ix (l.set i.toNat x) j=ix l j:=by
 unfold ix;simp only [List.getD_eq_getElem?_getD];rw [List.getElem?_set_ne (by omega)]
theorem ze2 {n:Nat} (a:0<=i) (h:i < n):ix (List.replicate n x) i=x:=by
 rw [zhF a (by simpa using h)];simp
theorem zCm {β:Type} [Inhabited β] (f:α->β) (a:0<=i) (h:i < l.length):ix (l.map f) i=f (ix l i):=by
 rw [zhF a (by simpa using h),zhF a h];simp
theorem zzW {p:α->Prop}:(∀ x∈l,p x)↔∀ i:Int,0<=i->i < l.length->p (ix l i):=
 ⟨fun h _ a b=>h _ (zbc a b),fun h x c=>by obtain ⟨i,a,b,rfl⟩:=zEp c;exact h i a b⟩
end
theorem zyj {p:Int->Prop} {n:Int} (h:∀ j,0<=j->j < n->p j) (a:p n):∀ j,0<=j->j < n+1->p j:=fun j b c=>by
 rcases Int.lt_or_eq_of_le (show j<=n by omega) with h2 | rfl
 ·exact h j b h2
 ·exact a
end Go.Ab
