import Derived.Test.YtfjfjemoehnpbaaAb24n13
set_option linter.unusedVariables false
set_option linter.unusedSimpArgs false
namespace Go.Ab
def zhn {α:Type} (p:α->Bool):List α->Int
 | [] => -1
 | x::l=>if p x then 0 else if zhn p l < 0 then -1 else zhn p l+1
theorem zoS {α:Type} [Inhabited α] {p:α->Bool}:∀ {l:List α},(∀ j:Int,0<=j->j < l.length->p (ix l j)=false)->zhn p l = -1
 | [],_=>rfl
 | x::l,h=>by
  have h0:p x=false:=h 0 (by omega) (by simp);have ih:zhn p l = -1:=zoS (l:=l) (fun j h1 h2=>by
   have:=h (j+1) (by omega) (by simp;omega)
   rwa [zfK (by omega),show j+1 - 1=j by omega] at this)
  simp [zhn,h0,ih]
theorem zpY {α:Type} [Inhabited α] {p:α->Bool}:∀ {l:List α} {i:Int},0<=i->i < l.length->(∀ j:Int,0<=j->j < i->p (ix l j)=false)->p (ix l i)=true->zhn p l=i
 | [],i,h0,hl,_,_=>by simp at hl;omega
 | x::l,i,h0,hl,h,hp=>by
  by_cases hi:i=0
  ·subst hi;have:p x=true:=hp;simp [zhn,this]
  ·have h1:p x=false:=h 0 (by omega) (by omega);rw [zfK (by omega)] at hp;have ih:zhn p l=i - 1:=zpY (l:=l) (by omega) (by simp at hl;omega) (fun j a b=>by
    have:=h (j+1) (by omega) (by omega)
    rwa [zfK (by omega),show j+1 - 1=j by omega] at this) hp
   simp only [zhn,h1,ih];simp only [Bool.false_eq_true,if_false];rw [if_neg (by omega)];omega
theorem zpX {α:Type} {p:α->Bool}:∀ {l:List α},decide (zhn p l ≥ 0)=l.any p
 | []=>rfl
 | x::l=>by
  have ih:=zpX (p:=p) (l:=l);have e:zhn p (x::l)=if p x then 0 else if zhn p l < 0 then -1 else zhn p l+1:=rfl
  rw [List.any_cons,<- ih,e];cases h:p x
  ·by_cases h2:zhn p l < 0
   ·simp [h2]
   ·simp [h2];omega
  ·simp
end Go.Ab
