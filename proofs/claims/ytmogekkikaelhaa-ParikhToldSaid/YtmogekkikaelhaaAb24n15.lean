import Derived.Test.YtmogekkikaelhaaAb24n14
set_option linter.unusedVariables false
set_option linter.unusedSimpArgs false
namespace Go.Ab
open Enc (enc)
theorem ze0 {H:Type} {P:Program} {e:TypeId}:∀ {ds:List (DataW H)} {i:Nat} {d:DataW H},ds[i]? =some d->zce (DataW.weightsAll P e ds)->zce (d.weights P e)
 | [],_,_,h,_=>by cases h
 | d'::ds,0,d,h2,hs=>by
  cases h2;simp only [DataW.weightsAll,zce,List.all_append,Bool.and_eq_true] at hs;exact hs.1
 | d'::ds,i+1,d,h2,hs=>by
  simp only [DataW.weightsAll,zce,List.all_append,Bool.and_eq_true] at hs;exact ze0 (ds:=ds) (i:=i) (by simpa using h2) hs.2
theorem zuJ {P:Program} {t:TypeId} (h:P.underlying t=some (.int .i64)):RD P t 1 (fun d=>∃ x:Int,d=enc x /\ -9223372036854775808<=x/\x<=9223372036854775807):=by
 intro H en w fuel cs d ps hd _;obtain ⟨n,rfl,hx,hw⟩:=DataW.trod_int h hd;have hw : -9223372036854775808<=n/\n<=9223372036854775807:=by
  have h2:=hw;simp [Lit.wf,IntKind.min,IntKind.max,IntKind.signed,IntKind.bits] at h2;exact h2
 exact ⟨rfl,_,⟨n,rfl,hw⟩,rfl,fun j hj=>by
  have:j=0:=by omega
  subst this;exact .lit _ rfl⟩
theorem zcd {P:Program} {t e n:Nat} {α:Type} [Enc α] (i:Nat) (ht:P.underlying t=some (.array n e)) (hi:i < n) (hr:zjd P e α) (hc:P.cellsOf e=Enc.sz α)
  {H:Type} {en:TypeId×Value->H} {w:World} {fuel:Nat} {cs:List Value} {d:DataW H} {ps:List MemPlace} (hd:DataW.trod en P w 0 (fun _=>true) true fuel t cs=some (d,ps)) (hs:zce (d.weights P t)):
  ∃ x:α,∀ j,j < Enc.sz α->DRel w (fun b=>b < w.heap.size) ((enc x).cells.getD j default) (cs.getD (i * Enc.sz α+j) undef):=by
 obtain ⟨xs,m,rfl,hx,hl,hxl,hget⟩:=DataW.trod_array ht hd;have hd1:d = .agg (xs.map (·.1)):=congrArg Prod.fst hx;subst hd1;have h1:=hget i hi;have hi':i < xs.length:=by omega
 rw [List.getElem?_eq_getElem hi'] at h1;have hw:zce ((xs[i]).1.weights P e):=by
  unfold zce DataW.weights at hs;rw [ht] at hs;refine ze0 (ds:=xs.map (·.1)) (i:=i) ?_ hs;simp [hi']
 obtain ⟨_,_,⟨x,rfl⟩,_,hrel⟩:=hr H en w m _ xs[i].1 xs[i].2 h1 hw;refine ⟨x,fun j hj => ?_⟩;have:=hrel j hj;have e:((cs.drop (i * P.cellsOf e)).take (P.cellsOf e)).getD j undef=cs.getD (i * Enc.sz α+j) undef:=by
  simp only [List.getD_eq_getElem?_getD,List.getElem?_take,List.getElem?_drop,hc];rw [if_pos (by omega)]
 rwa [e] at this
theorem zhv {P:Program} {t n e:Nat} (ht:P.underlying t=some (.array n e)) {H:Type} {en:TypeId×Value->H} {w:World} {fuel:Nat} {cs:List Value} {d:DataW H} {ps:List MemPlace} (hd:DataW.trod en P w 0 (fun _=>true) true fuel t cs=some (d,ps)):cs.length=P.cellsOf t:=by
 obtain ⟨_,_,_,_,hl,_⟩:=DataW.trod_array ht hd;exact hl
theorem reads_a2 {P:Program} {t e:Nat} {α:Type} [Enc α] [One α] (ht:P.underlying t=some (.array 2 e)) (hr:zjd P e α) (hc:P.cellsOf e=1) (h1:Enc.sz α=1) (hct:P.cellsOf t=2):zjd P t (A2 α):=by
 intro H en w fuel cs d ps hd hs;obtain ⟨x0,h0⟩:=zcd (α:=α) 0 ht (by omega) hr (by omega) hd hs;obtain ⟨x1,h1'⟩:=zcd (α:=α) 1 ht (by omega) hr (by omega) hd hs;refine ⟨by rw [zhv ht hd,hct];rfl,_,⟨⟨x0,x1⟩,rfl⟩,rfl,fun j hj => ?_⟩;have hj:j < 2:=hj;rcases (by omega:j=0\/j=1) with rfl | rfl
 ·have:=h0 0 (by omega);rw [One.one] at this;exact (by simpa [h1] using this:DRel w (fun b=>b < w.heap.size) (enc x0) (cs.getD 0 undef))
 ·have:=h1' 0 (by omega);rw [One.one] at this;exact (by simpa [h1] using this:DRel w (fun b=>b < w.heap.size) (enc x1) (cs.getD 1 undef))
theorem reads_a3 {P:Program} {t e:Nat} {α:Type} [Enc α] [One α] (ht:P.underlying t=some (.array 3 e)) (hr:zjd P e α) (hc:P.cellsOf e=1) (h1:Enc.sz α=1) (hct:P.cellsOf t=3):zjd P t (A3 α):=by
 intro H en w fuel cs d ps hd hs;obtain ⟨x0,h0⟩:=zcd (α:=α) 0 ht (by omega) hr (by omega) hd hs;obtain ⟨x1,h1'⟩:=zcd (α:=α) 1 ht (by omega) hr (by omega) hd hs;obtain ⟨x2,h2'⟩:=zcd (α:=α) 2 ht (by omega) hr (by omega) hd hs;refine ⟨by rw [zhv ht hd,hct];rfl,_,⟨⟨x0,x1,x2⟩,rfl⟩,rfl,fun j hj => ?_⟩;have hj:j < 3:=hj;rcases (by omega:j=0\/j=1\/j=2) with rfl | rfl | rfl
 ·have:=h0 0 (by omega);rw [One.one] at this;exact (by simpa [h1] using this:DRel w (fun b=>b < w.heap.size) (enc x0) (cs.getD 0 undef))
 ·have:=h1' 0 (by omega);rw [One.one] at this;exact (by simpa [h1] using this:DRel w (fun b=>b < w.heap.size) (enc x1) (cs.getD 1 undef))
 ·have:=h2' 0 (by omega);rw [One.one] at this;exact (by simpa [h1] using this:DRel w (fun b=>b < w.heap.size) (enc x2) (cs.getD 2 undef))
theorem reads_a4 {P:Program} {t e:Nat} {α:Type} [Enc α] [One α] (ht:P.underlying t=some (.array 4 e)) (hr:zjd P e α) (hc:P.cellsOf e=1) (h1:Enc.sz α=1) (hct:P.cellsOf t=4):zjd P t (A4 α):=by
 intro H en w fuel cs d ps hd hs;obtain ⟨x0,h0⟩:=zcd (α:=α) 0 ht (by omega) hr (by omega) hd hs;obtain ⟨x1,h1'⟩:=zcd (α:=α) 1 ht (by omega) hr (by omega) hd hs;obtain ⟨x2,h2'⟩:=zcd (α:=α) 2 ht (by omega) hr (by omega) hd hs;obtain ⟨x3,h3'⟩:=zcd (α:=α) 3 ht (by omega) hr (by omega) hd hs;refine ⟨by rw [zhv ht hd,hct];rfl,_,⟨⟨x0,x1,x2,x3⟩,rfl⟩,rfl,fun j hj => ?_⟩;have hj:j < 4:=hj;rcases (by omega:j=0\/j=1\/j=2\/j=3) with rfl | rfl | rfl | rfl
 ·have:=h0 0 (by omega);rw [One.one] at this;exact (by simpa [h1] using this:DRel w (fun b=>b < w.heap.size) (enc x0) (cs.getD 0 undef))
 ·have:=h1' 0 (by omega);rw [One.one] at this;exact (by simpa [h1] using this:DRel w (fun b=>b < w.heap.size) (enc x1) (cs.getD 1 undef))
 ·have:=h2' 0 (by omega);rw [One.one] at this;exact (by simpa [h1] using this:DRel w (fun b=>b < w.heap.size) (enc x2) (cs.getD 2 undef))
 ·have:=h3' 0 (by omega);rw [One.one] at this;exact (by simpa [h1] using this:DRel w (fun b=>b < w.heap.size) (enc x3) (cs.getD 3 undef))
end Go.Ab
