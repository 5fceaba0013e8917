import Derived.Test.YtajabcfngklacaaAb24n11
set_option linter.unusedVariables false
set_option linter.unusedSimpArgs false
set_option linter.unusedSectionVars false
namespace Go.Ab
section
variable {α:Type} [Inhabited α] {l m:List α} {i j:Int} {x:α}
theorem zoo (a:0<=i) (h:i < l.length):ix l i=l[i.toNat]'(by omega):=by
 unfold ix;rw [List.getD_eq_getElem?_getD,List.getElem?_eq_getElem (by omega)];rfl
theorem zy8 (k:Nat):ix l (k:Int)=l.getD k default:=by simp [ix]
theorem ix_drop (a:0<=i) (h:i < l.length):l.drop i.toNat=ix l i::l.drop (i+1).toNat:=by
 have e:(i+1).toNat=i.toNat+1:=by omega
 rw [e,zoo a h,<- List.drop_eq_getElem_cons]
theorem zlH (a:0<=i) (h:i < l.length):ix l i∈l:=by rw [zoo a h];exact List.getElem_mem _
theorem zE5 (h:x∈l):∃ i:Int,0<=i/\i < l.length/\ix l i=x:=by
 obtain ⟨k,a,rfl⟩:=List.mem_iff_getElem.1 h;exact ⟨k,by omega,by omega,by rw [zoo (by omega) (by omega)];simp⟩
theorem zaq (a:0<=i) (h:i < l.length):ix (l++m) i=ix l i:=by
 unfold ix;simp only [List.getD_eq_getElem?_getD];rw [List.getElem?_append_left (by omega)]
theorem zit (h:(l.length:Int)<=i):ix (l++m) i=ix m (i - l.length):=by
 unfold ix;simp only [List.getD_eq_getElem?_getD];rw [List.getElem?_append_right (by omega)];congr 2;omega
theorem zas:ix (l++[x]) l.length=x:=by rw [zit (by omega)];simp [ix]
theorem zfM (a:0<=i) (h:i < l.length):ix (l.set i.toNat x) i=x:=by
 unfold ix;simp only [List.getD_eq_getElem?_getD];rw [List.getElem?_set_self (by omega)];rfl
theorem zel (a:0<=i) (b:0<=j) (h:i≠j):ix (l.set i.toNat x) j=ix l j:=by
 unfold ix;simp only [List.getD_eq_getElem?_getD];rw [List.getElem?_set_ne (by omega)]
theorem zjv {n:Nat} (a:0<=i) (h:i < n):ix (List.replicate n x) i=x:=by
 rw [zoo a (by simpa using h)];simp
theorem zA3 {p:α->Prop}:(∀ x∈l,p x)↔∀ i:Int,0<=i->i < l.length->p (ix l i):=
 ⟨fun h _ a b=>h _ (zlH a b),fun h x c=>by obtain ⟨i,a,b,rfl⟩:=zE5 c;exact h i a b⟩
end
theorem zzD {p:Int->Prop} {n:Int} (h:∀ j,0<=j->j < n->p j) (a:p n):∀ j,0<=j->j < n+1->p j:=fun j b c=>by
 rcases Int.lt_or_eq_of_le (show j<=n by omega) with h2 | rfl
 ·exact h j b h2
 ·exact a
end Go.Ab
