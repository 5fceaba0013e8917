import Derived.Test.YtmogekkikaelhaaAb24n11
set_option linter.unusedVariables false
set_option linter.unusedSimpArgs false
set_option linter.unusedSectionVars false
namespace Go.Ab
section
variable {α:Type} [Inhabited α] {l m:List α} {i j:Int} {x:α}
theorem zds (h0:0<=i) (h:i < l.length):ix l i=l[i.toNat]'(by omega):=by
 unfold ix;rw [List.getD_eq_getElem?_getD,List.getElem?_eq_getElem (by omega)];rfl
theorem zhP (k:Nat):ix l (k:Int)=l.getD k default:=by simp [ix]
theorem ix_some (h0:0<=i) (h:i < l.length):l[i.toNat]? =some (ix l i):=by
 rw [zds h0 h,List.getElem?_eq_getElem]
theorem ix_drop (h0:0<=i) (h:i < l.length):l.drop i.toNat=ix l i::l.drop (i+1).toNat:=by
 have e:(i+1).toNat=i.toNat+1:=by omega
 rw [e,zds h0 h,<- List.drop_eq_getElem_cons]
theorem ix_take (h0:0<=i) (h:i < l.length):l.take (i+1).toNat=l.take i.toNat++[ix l i]:=by
 have e:(i+1).toNat=i.toNat+1:=by omega
 rw [e,zds h0 h,List.take_add_one,List.getElem?_eq_getElem (by omega)];rfl
theorem zrJ (hl:l.length=m.length) (h:∀ j:Int,0<=j->j < l.length->ix l j=ix m j):l=m:=by
 apply List.ext_getElem hl;intro k h1 h2;have:=h k (by omega) (by omega);rw [zds (by omega) (by omega),zds (by omega) (by omega)] at this;simpa using this
theorem zgI (h0:0<=i) (h:i < l.length):ix l i∈l:=by rw [zds h0 h];exact List.getElem_mem _
theorem zu4 (h:x∈l):∃ i:Int,0<=i/\i < l.length/\ix l i=x:=by
 obtain ⟨k,hk,rfl⟩:=List.mem_iff_getElem.1 h;exact ⟨k,by omega,by omega,by rw [zds (by omega) (by omega)];simp⟩
theorem zsk (h0:0<=i) (h:i < l.length):ix (l++m) i=ix l i:=by
 unfold ix;simp only [List.getD_eq_getElem?_getD];rw [List.getElem?_append_left (by omega)]
theorem zle (h:(l.length:Int)<=i):ix (l++m) i=ix m (i - l.length):=by
 unfold ix;simp only [List.getD_eq_getElem?_getD];rw [List.getElem?_append_right (by omega)];congr 2;omega
theorem zsj:ix (l++[x]) l.length=x:=by rw [zle (by omega)];simp [ix]
theorem zeb (h0:0<=i) (h:i < l.length):ix (l.set i.toNat x) i=x:=by
 unfold ix;simp only [List.getD_eq_getElem?_getD];rw [List.getElem?_set_self (by omega)];rfl
theorem zlf (h0:0<=i) (hj:0<=j) (h:i≠j):ix (l.set i.toNat x) j=ix l j:=by
 unfold ix;simp only [List.getD_eq_getElem?_getD];rw [List.getElem?_set_ne (by omega)]
theorem zth {n:Nat} (h0:0<=i) (h:i < n):ix (List.replicate n x) i=x:=by
 rw [zds h0 (by simpa using h)];simp
theorem ix_take' {n:Nat} (h0:0<=i) (h:i < n):ix (l.take n) i=ix l i:=by
 unfold ix;simp only [List.getD_eq_getElem?_getD];rw [List.getElem?_take,if_pos (by omega)]
theorem ix_map {β:Type} [Inhabited β] (f:α->β) (h0:0<=i) (h:i < l.length):ix (l.map f) i=f (ix l i):=by
 rw [zds h0 (by simpa using h),zds h0 h];simp
omit [Inhabited α] in
theorem zuF (h0:0<=i) (h1:i<=j) (h2:j<=l.length):((cut l i j).length:Int)=j - i:=by
 unfold cut;simp;omega
theorem zrI {k:Int} (h0:0<=i) (hk:0<=k) (h:i+k < j):ix (cut l i j) k=ix l (i+k):=by
 unfold ix cut;simp only [List.getD_eq_getElem?_getD,List.getElem?_drop];rw [List.getElem?_take,if_pos (by omega)];congr 2;omega
theorem ztg:ix (x::l) 0=x:=rfl
theorem zgH (h0:0 < i):ix (x::l) i=ix l (i - 1):=by
 have:i.toNat=(i - 1).toNat+1:=by omega
 unfold ix;rw [this];simp
omit [Inhabited α] in
theorem cut_zero:cut l 0 j=l.take j.toNat:=by simp [cut]
omit [Inhabited α] in
theorem cut_full (h:(l.length:Int)<=j):cut l i j=l.drop i.toNat:=by
 unfold cut;rw [List.take_of_length_le (by omega)]
omit [Inhabited α] in
theorem drop_all (h:(l.length:Int)<=i):l.drop i.toNat=[]:=List.drop_of_length_le (by omega)
theorem zrx {p:α->Prop}:(∀ x∈l,p x)↔∀ i:Int,0<=i->i < l.length->p (ix l i):=
 ⟨fun h _ h0 h1=>h _ (zgI h0 h1),fun h x hx=>by obtain ⟨i,h0,h1,rfl⟩:=zu4 hx;exact h i h0 h1⟩
end
theorem zlX {p:Int->Prop} {n:Int} (h:∀ j,0<=j->j < n->p j) (hn:p n):∀ j,0<=j->j < n+1->p j:=fun j h0 h1=>by
 rcases Int.lt_or_eq_of_le (show j<=n by omega) with h2 | rfl
 ·exact h j h0 h2
 ·exact hn
end Go.Ab
