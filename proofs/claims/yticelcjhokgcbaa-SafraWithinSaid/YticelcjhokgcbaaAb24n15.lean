import Derived.Test.YticelcjhokgcbaaAb24n13
set_option linter.unusedVariables false
set_option linter.unusedSimpArgs false
namespace Go.Ab
open Enc (enc)
theorem zm8 {H:Type} {P:Program} {e:TypeId}:∀ {ds:List (DataW H)} {i:Nat} {d:DataW H},ds[i]? =some d->zeq (DataW.weightsAll P e ds)->zeq (d.weights P e)
 | [],_,_,h,_=>by cases h
 | d'::ds,0,d,h2,hs=>by
  cases h2;simp only [DataW.weightsAll,zeq,List.all_append,Bool.and_eq_true] at hs;exact hs.1
 | d'::ds,i+1,d,h2,hs=>by
  simp only [DataW.weightsAll,zeq,List.all_append,Bool.and_eq_true] at hs;exact zm8 (ds:=ds) (i:=i) (by simpa using h2) hs.2
theorem zxM {P:Program} {t n e:Nat} (ht:P.underlying t=some (.array n e)) {H:Type} {en:TypeId×Value->H} {w:World} {fuel:Nat} {cs:List Value} {d:DataW H} {ps:List MemPlace} (hd:DataW.trod en P w 0 (fun _=>true) true fuel t cs=some (d,ps)):cs.length=P.cellsOf t:=by
 obtain ⟨_,_,_,_,hl,_⟩:=DataW.trod_array ht hd;exact hl
end Go.Ab
