import Derived.Test.YtajabcfngklacaaAb24n13
set_option linter.unusedVariables false
set_option linter.unusedSimpArgs false
namespace Go.Ab
open Enc (enc)
theorem zp1 {H:Type} {P:Program} {e:TypeId}:∀ {ds:List (DataW H)} {i:Nat} {d:DataW H},ds[i]? =some d->zhV (DataW.weightsAll P e ds)->zhV (d.weights P e)
 | [],_,_,h,_=>by cases h
 | d'::ds,0,d,h2,hs=>by
  cases h2;simp only [DataW.weightsAll,zhV,List.all_append,Bool.and_eq_true] at hs;exact hs.1
 | d'::ds,i+1,d,h2,hs=>by
  simp only [DataW.weightsAll,zhV,List.all_append,Bool.and_eq_true] at hs;exact zp1 (ds:=ds) (i:=i) (by simpa using h2) hs.2
theorem zAa {P:Program} {t n e:Nat} (b:P.underlying t=some (.array n e)) {H:Type} {c:TypeId×Value->H} {w:World} {a:Nat} {cs:List Value} {d:DataW H} {f:List MemPlace} (g:DataW.trod c P w 0 (fun _=>true) true a t cs=some (d,f)):cs.length=P.cellsOf t:=by
 obtain ⟨_,_,_,_,h,_⟩:=DataW.trod_array b g;exact h
end Go.Ab
