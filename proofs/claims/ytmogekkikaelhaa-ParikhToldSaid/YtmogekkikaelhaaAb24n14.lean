import Derived.Test.YtmogekkikaelhaaAb24n13
set_option linter.unusedVariables false
set_option linter.unusedSimpArgs false
namespace Go.Ab
def ziA {α:Type} (p:α->Bool):List α->Int
 | [] => -1
 | x::l=>if p x then 0 else if ziA p l < 0 then -1 else ziA p l+1
theorem zqk {α:Type} [Inhabited α] {p:α->Bool}:∀ {l:List α},(∀ j:Int,0<=j->j < l.length->p (ix l j)=false)->ziA p l = -1
 | [],_=>rfl
 | x::l,h=>by
  have h0:p x=false:=h 0 (by omega) (by simp);have ih:ziA p l = -1:=zqk (l:=l) (fun j h1 h2=>by
   have:=h (j+1) (by omega) (by simp;omega)
   rwa [zgH (by omega),show j+1 - 1=j by omega] at this)
  simp [ziA,h0,ih]
theorem zrt {α:Type} [Inhabited α] {p:α->Bool}:∀ {l:List α} {i:Int},0<=i->i < l.length->(∀ j:Int,0<=j->j < i->p (ix l j)=false)->p (ix l i)=true->ziA p l=i
 | [],i,h0,hl,_,_=>by simp at hl;omega
 | x::l,i,h0,hl,h,hp=>by
  by_cases hi:i=0
  ·subst hi;have:p x=true:=hp;simp [ziA,this]
  ·have h1:p x=false:=h 0 (by omega) (by omega);rw [zgH (by omega)] at hp;have ih:ziA p l=i - 1:=zrt (l:=l) (by omega) (by simp at hl;omega) (fun j a b=>by
    have:=h (j+1) (by omega) (by omega)
    rwa [zgH (by omega),show j+1 - 1=j by omega] at this) hp
   simp only [ziA,h1,ih];simp only [Bool.false_eq_true,if_false];rw [if_neg (by omega)];omega
theorem zrr {α:Type} {p:α->Bool}:∀ {l:List α},decide (ziA p l ≥ 0)=l.any p
 | []=>rfl
 | x::l=>by
  have ih:=zrr (p:=p) (l:=l);have e:ziA p (x::l)=if p x then 0 else if ziA p l < 0 then -1 else ziA p l+1:=rfl
  rw [List.any_cons,<- ih,e];cases h:p x
  ·by_cases h2:ziA p l < 0
   ·simp [h2]
   ·simp [h2];omega
  ·simp
end Go.Ab
