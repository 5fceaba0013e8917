/- The walks of the functions that 'HigmanStands' reaches: what each of them computes. No condition. -/
import Derived.Test.YtgjpkfbaobanlaaAb1n12
import Derived.Test.YtgjpkfbaobanlaaProg
import Derived.KernelRfl
set_option maxHeartbeats 1000000
set_option maxRecDepth 20000
set_option linter.unusedSimpArgs false
set_option linter.unusedVariables false
namespace Go.Proofs
open Go Go.Ab
open Enc (enc)
theorem ti3 : TI Try.prog 3 false 1 8 (.int .i64 0) := TI.of Try.underlying3 rfl (by kernel_rfl)
theorem ti26 : TI Try.prog 26 false 1 24 (.slice none 0 0) := TI.of Try.underlying26 rfl (by kernel_rfl)
theorem zr3 : ZRs (enc (default : Int)).cells (Value.cells (.int .i64 0)).toList := ⟨.lit _ rfl, trivial⟩

/-- May these be a word's letters? (the number of the error) -/
def mayE (letters : Int) (w : List Int) : Int :=
  if letters < 1 ∨ 4 < letters then 2 else if (60 : Int) < w.length then 1 else if ∀ x ∈ w, 0 ≤ x ∧ x < letters then 0 else 2
theorem mayE_range {letters : Int} {w : List Int} (h : letters < 1 ∨ 4 < letters) : mayE letters w = 2 := by unfold mayE; rw [if_pos h]
theorem mayE_size {letters : Int} {w : List Int} (h : 1 ≤ letters ∧ letters ≤ 4) (h2 : (60 : Int) < w.length) : mayE letters w = 1 := by unfold mayE; rw [if_neg (by omega), if_pos h2]
theorem mayE_bad {letters i : Int} {w : List Int} (h : 1 ≤ letters ∧ letters ≤ 4) (h2 : w.length ≤ (60 : Int)) (h0 : 0 ≤ i ∧ i < w.length) (hx : ¬ (0 ≤ ix w i ∧ ix w i < letters)) : mayE letters w = 2 := by
  unfold mayE; rw [if_neg (by omega), if_neg (by omega), if_neg]; intro hh; exact hx (hh _ (ix_mem h0.1 h0.2))
theorem mayE_ok {letters : Int} {w : List Int} (h : 1 ≤ letters ∧ letters ≤ 4) (h2 : w.length ≤ (60 : Int)) (hx : ∀ j : Int, 0 ≤ j → j < w.length → 0 ≤ ix w j ∧ ix w j < letters) : mayE letters w = 0 := by
  unfold mayE; rw [if_neg (by omega), if_neg (by omega), if_pos]; exact forall_ix.2 hx
theorem mayE_zero {letters : Int} {w : List Int} (h : mayE letters w = 0) : (1 ≤ letters ∧ letters ≤ 4) ∧ w.length ≤ (60 : Int) ∧ ∀ x ∈ w, 0 ≤ x ∧ x < letters := by
  unfold mayE at h
  split at h
  · omega
  · split at h
    · omega
    · split at h
      · rename_i h3; exact ⟨by omega, by omega, h3⟩
      · omega
theorem words_ok  (u : (List Int)) (v : (List Int)) : Fc Try.prog 16 [.d (enc (u : (List Int))), .d (enc (v : (List Int)))] [] (fun r h => ∃ (y : Bool), r = .d (.lit (.bool y)) ∧ h = [] ∧ (y = decide (u = v))) := by
  refine Fc.of_body Try.func16 rfl Try.ntmps16 (by simp) (fun F => ?_)
  refine (show AW _ _ _ (⟨26, 0, [(0, .d (enc (u : (List Int)))), (1, .d (enc (v : (List Int))))], []⟩ : St) _ from ?_)
  refine AW.fact 0 rfl (fun ln_u => ?_)
  replace ln_u : u.length * 8 ≤ 140737488355328 := ln_u
  refine AW.fact 1 rfl (fun ln_v => ?_)
  replace ln_v : v.length * 8 ≤ 140737488355328 := ln_v
  refine AW.seq ?_
  refine AW.region [0] rfl ?_
  refine AO.ro rfl rfl (gOn_none rfl) (RO.assign rfl rfl) ?_
  refine AO.nil ?_
  refine AW.seq ?_
  refine AW.seq ?_
  refine AW.region [0, 0, 0, 0, 0] rfl ?_
  refine AO.ro rfl rfl (gOn_none rfl) (RO.move rfl rfl) ?_
  refine AO.ro rfl rfl (gOn_none rfl) (RO.len rfl Try.underlying26 rfl) ?_
  refine AO.ro rfl rfl (gOn_none rfl) (RO.move rfl rfl) ?_
  refine AO.ro rfl rfl (gOn_none rfl) (RO.len rfl Try.underlying26 rfl) ?_
  refine AO.splitn rfl rfl (gOn_none rfl) (RO.neq rfl rfl rfl) (fun t1 => ?_) (fun t1 => ?_)
  · skip
    refine AO.nil ?_
    refine AW.cond_t rfl ?_
    refine AW.seq ?_
    refine AW.region [0] rfl ?_
    refine AO.ro rfl rfl (gOn_none rfl) (RO.assign rfl rfl) ?_
    refine AO.nil ?_
    refine AW.ret ?_
    refine ⟨[], [.d (.lit (.bool false))], [], rfl, ⟨⟨_, rfl, .inl rfl⟩, rfl⟩, trivial, ?_⟩
    refine ⟨false, rfl, rfl, ?_⟩
    rw [eq_comm, decide_eq_false_iff_not]; rintro rfl; contradiction
  · skip
    refine AO.nil ?_
    refine AW.cond_f rfl ?_
    refine AW.skip ?_
    refine AW.seq ?_
    refine AW.seq ?_
    refine AW.region [0] rfl ?_
    refine AO.ro rfl rfl (gOn_none rfl) (RO.assign rfl rfl) ?_
    refine AO.nil ?_
    refine AW.block ?_
    refine AW.loop (mp := []) (X := Int) (fun x => ⟨26, 0, [(0, .d (enc (u : (List Int)))), (1, .d (enc (v : (List Int)))), (4, .d (.lit (.bool false))), (5, .d (.lit (.int .i64 x)))], []⟩) (fun x => (0 ≤ x ∧ x ≤ u.length) ∧ (u.length = v.length) ∧ (∀ j : Int, 0 ≤ j → j < x → ix u j = ix v j)) (fun x => (u.length - x).toNat) 0 ?_ ⟨rfl, rfl, ⟨⟨_, rfl, .inl rfl⟩, ⟨⟨_, rfl, .inl rfl⟩, ⟨⟨_, rfl, .inl rfl⟩, ⟨⟨_, rfl, .inl rfl⟩, trivial⟩⟩⟩⟩, trivial⟩ ?_
    · try dsimp only
      exact ⟨by omega, by omega, fun j a b => by omega⟩
    · skip
      intro i hx
      replace hx : (0 ≤ i ∧ i ≤ u.length) ∧ (u.length = v.length) ∧ (∀ j : Int, 0 ≤ j → j < i → ix u j = ix v j) := hx
      obtain ⟨h1, h2, h3⟩ := hx
      refine (show AW _ _ _ (⟨26, 0, [(0, .d (enc (u : (List Int)))), (1, .d (enc (v : (List Int)))), (4, .d (.lit (.bool false))), (5, .d (.lit (.int .i64 i)))], []⟩ : St) _ from ?_)
      refine AW.seq ?_
      refine AW.seq ?_
      refine AW.region [0, 0, 0, 0] rfl ?_
      refine AO.ro rfl rfl (gOn_none rfl) (RO.move rfl rfl) ?_
      refine AO.ro rfl rfl (gOn_none rfl) (RO.move rfl rfl) ?_
      refine AO.ro rfl rfl (gOn_none rfl) (RO.len rfl Try.underlying26 rfl) ?_
      refine AO.split rfl rfl (gOn_none rfl) (RO.lss rfl rfl rfl) (fun t2 => ?_) (fun t2 => ?_)
      · skip
        refine AO.nil ?_
        refine AW.cond_t rfl ?_
        refine AW.skip ?_
        refine AW.seq ?_
        refine AW.block ?_
        refine AW.seq ?_
        refine AW.drawn [(0, 0), (0, 1), (0, 2), (0, 3), (0, 4), (0, 5), (0, 6), (0, 7), (0, 8)] (by kernel_rfl) (by kernel_rfl) ?_
        refine AO.ro rfl rfl (gOn_none rfl) (RO.move rfl rfl) ?_
        refine AO.ro rfl rfl (gOn_none rfl) (RO.move rfl rfl) ?_
        refine AO.ro rfl rfl (gOn_none rfl) (RO.idx rfl Try.underlying26 ti3 rfl rfl (by omega)) ?_
        refine AO.ro rfl rfl (gOn_none rfl) (RO.ld_addr rfl Try.underlying3 rfl rfl rfl) ?_
        refine AO.ro rfl rfl (gOn_none rfl) (RO.move rfl rfl) ?_
        refine AO.ro rfl rfl (gOn_none rfl) (RO.move rfl rfl) ?_
        refine AO.ro rfl rfl (gOn_none rfl) (RO.idx rfl Try.underlying26 ti3 rfl rfl (by omega)) ?_
        refine AO.ro rfl rfl (gOn_none rfl) (RO.ld_addr rfl Try.underlying3 rfl rfl rfl) ?_
        refine AO.splitn rfl rfl (gOn_none rfl) (RO.neq rfl rfl rfl) (fun t3 => ?_) (fun t3 => ?_)
        · skip
          refine AO.nil ?_
          refine AW.cond_t rfl ?_
          refine AW.seq ?_
          refine AW.region [0] rfl ?_
          refine AO.ro rfl rfl (gOn_none rfl) (RO.assign rfl rfl) ?_
          refine AO.nil ?_
          refine AW.ret ?_
          refine ⟨[], [.d (.lit (.bool false))], [], rfl, ⟨⟨_, rfl, .inl rfl⟩, rfl⟩, trivial, ?_⟩
          refine ⟨false, rfl, rfl, ?_⟩
          rw [eq_comm, decide_eq_false_iff_not]; rintro rfl; contradiction
        · skip
          refine AO.nil ?_
          refine AW.cond_f rfl ?_
          refine AW.skip ?_
          refine AW.region [0, 0, 0] rfl ?_
          refine AO.ro rfl rfl (gOn_none rfl) (RO.move rfl rfl) ?_
          refine AO.ro rfl rfl (gOn_none rfl) (RO.add rfl rfl rfl (by omega)) ?_
          refine AO.ro rfl rfl (gOn_none rfl) (RO.assign rfl rfl) ?_
          refine AO.nil ?_
          refine ⟨i + 1, [], ?_, ?_, ⟨rfl, rfl, ⟨⟨_, rfl, .inl rfl⟩, ⟨⟨_, rfl, .inl rfl⟩, ⟨⟨_, rfl, .inl rfl⟩, ⟨⟨_, rfl, .inl rfl⟩, trivial⟩⟩⟩⟩, trivial⟩⟩
          · try dsimp only
            exact ⟨by omega, h2, below_succ h3 (by assumption)⟩
          · try dsimp only
            first | omega | (simp; done) | (simp_all; done) | (simp_all; omega)
      · skip
        refine AO.nil ?_
        refine AW.cond_f rfl ?_
        refine AW.exit ?_
        refine AW.seq ?_
        refine AW.region [0] rfl ?_
        refine AO.ro rfl rfl (gOn_none rfl) (RO.assign rfl rfl) ?_
        refine AO.nil ?_
        refine AW.ret ?_
        refine ⟨[], [.d (.lit (.bool true))], [], rfl, ⟨⟨_, rfl, .inl rfl⟩, rfl⟩, trivial, ?_⟩
        refine ⟨true, rfl, rfl, ?_⟩
        rw [eq_comm, decide_eq_true_iff]; exact ix_ext h2 (fun j a b => h3 j a (by omega))

theorem may1_ok  (letters : Int) (w : (List Int)) : Fc Try.prog 18 [.d (.lit (.int .i64 letters)), .d (enc (w : (List Int)))] [] (fun r h => ∃ (y : Int), r = .d (.lit (.int .i64 y)) ∧ h = [] ∧ (y = mayE letters w)) := by
  refine Fc.of_body Try.func18 rfl Try.ntmps18 (by simp) (fun F => ?_)
  refine (show AW _ _ _ (⟨34, 0, [(0, .d (.lit (.int .i64 letters))), (1, .d (enc (w : (List Int))))], []⟩ : St) _ from ?_)
  refine AW.fact 1 rfl (fun ln_w => ?_)
  replace ln_w : w.length * 8 ≤ 140737488355328 := ln_w
  refine AW.seq ?_
  refine AW.region [0] rfl ?_
  refine AO.ro rfl rfl (gOn_none rfl) (RO.assign rfl rfl) ?_
  refine AO.nil ?_
  refine AW.seq ?_
  refine AW.seq ?_
  refine AW.region [0, 0, 0, 0, 0, 0] rfl ?_
  refine AO.ro rfl rfl (gOn_none rfl) (RO.move rfl rfl) ?_
  refine AO.split rfl rfl (gOn_none rfl) (RO.lss rfl rfl rfl) (fun t1 => ?_) (fun t1 => ?_)
  · skip
    refine AO.ro rfl rfl (gOn_none rfl) (RO.move rfl rfl) ?_
    refine AO.skip rfl rfl ⟨8, true, rfl, rfl, rfl⟩ ?_
    refine AO.skip rfl rfl ⟨8, true, rfl, rfl, rfl⟩ ?_
    refine AO.ro rfl rfl (gOn_none rfl) (RO.pick_t rfl rfl rfl) ?_
    refine AO.nil ?_
    refine AW.cond_t rfl ?_
    refine AW.seq ?_
    refine AW.region [0] rfl ?_
    refine AO.ro rfl rfl (gOn_none rfl) (RO.assign rfl rfl) ?_
    refine AO.nil ?_
    refine AW.ret ?_
    refine ⟨[], [.d (.lit (.int .i64 2))], [], rfl, ⟨⟨_, rfl, .inl rfl⟩, rfl⟩, trivial, ?_⟩
    refine ⟨2, rfl, rfl, ?_⟩
    exact (mayE_range (by omega)).symm
  · skip
    refine AO.ro rfl rfl (gOn_none rfl) (RO.move rfl rfl) ?_
    refine AO.ro rfl rfl ⟨8, false, rfl, rfl, rfl⟩ (RO.move rfl rfl) ?_
    refine AO.split rfl rfl ⟨8, false, rfl, rfl, rfl⟩ (RO.gtr rfl rfl rfl) (fun t2 => ?_) (fun t2 => ?_)
    · skip
      refine AO.ro rfl rfl (gOn_none rfl) (RO.pick_f rfl rfl rfl) ?_
      refine AO.nil ?_
      refine AW.cond_t rfl ?_
      refine AW.seq ?_
      refine AW.region [0] rfl ?_
      refine AO.ro rfl rfl (gOn_none rfl) (RO.assign rfl rfl) ?_
      refine AO.nil ?_
      refine AW.ret ?_
      refine ⟨[], [.d (.lit (.int .i64 2))], [], rfl, ⟨⟨_, rfl, .inl rfl⟩, rfl⟩, trivial, ?_⟩
      refine ⟨2, rfl, rfl, ?_⟩
      exact (mayE_range (by omega)).symm
    · skip
      refine AO.ro rfl rfl (gOn_none rfl) (RO.pick_f rfl rfl rfl) ?_
      refine AO.nil ?_
      refine AW.cond_f rfl ?_
      refine AW.skip ?_
      refine AW.seq ?_
      refine AW.seq ?_
      refine AW.region [0, 0, 0] rfl ?_
      refine AO.ro rfl rfl (gOn_none rfl) (RO.move rfl rfl) ?_
      refine AO.ro rfl rfl (gOn_none rfl) (RO.len rfl Try.underlying26 rfl) ?_
      refine AO.split rfl rfl (gOn_none rfl) (RO.gtr rfl rfl rfl) (fun t3 => ?_) (fun t3 => ?_)
      · skip
        refine AO.nil ?_
        refine AW.cond_t rfl ?_
        refine AW.seq ?_
        refine AW.region [0] rfl ?_
        refine AO.ro rfl rfl (gOn_none rfl) (RO.assign rfl rfl) ?_
        refine AO.nil ?_
        refine AW.ret ?_
        refine ⟨[], [.d (.lit (.int .i64 1))], [], rfl, ⟨⟨_, rfl, .inl rfl⟩, rfl⟩, trivial, ?_⟩
        refine ⟨1, rfl, rfl, ?_⟩
        exact (mayE_size (by omega) (by omega)).symm
      · skip
        refine AO.nil ?_
        refine AW.cond_f rfl ?_
        refine AW.skip ?_
        refine AW.seq ?_
        refine AW.seq ?_
        refine AW.region [0] rfl ?_
        refine AO.ro rfl rfl (gOn_none rfl) (RO.assign rfl rfl) ?_
        refine AO.nil ?_
        refine AW.block ?_
        refine AW.loop (mp := []) (X := Int) (fun x => ⟨34, 0, [(0, .d (.lit (.int .i64 letters))), (1, .d (enc (w : (List Int)))), (4, .d (.lit (.int .i64 0))), (5, .d (.lit (.int .i64 x)))], []⟩) (fun x => (0 ≤ x ∧ x ≤ w.length) ∧ (∀ j : Int, 0 ≤ j → j < x → 0 ≤ ix w j ∧ ix w j < letters)) (fun x => (w.length - x).toNat) 0 ?_ ⟨rfl, rfl, ⟨⟨_, rfl, .inl rfl⟩, ⟨⟨_, rfl, .inl rfl⟩, ⟨⟨_, rfl, .inl rfl⟩, ⟨⟨_, rfl, .inl rfl⟩, trivial⟩⟩⟩⟩, trivial⟩ ?_
        · try dsimp only
          exact ⟨by omega, fun j a b => by omega⟩
        · skip
          intro i hx
          replace hx : (0 ≤ i ∧ i ≤ w.length) ∧ (∀ j : Int, 0 ≤ j → j < i → 0 ≤ ix w j ∧ ix w j < letters) := hx
          obtain ⟨h1, h2⟩ := hx
          refine (show AW _ _ _ (⟨34, 0, [(0, .d (.lit (.int .i64 letters))), (1, .d (enc (w : (List Int)))), (4, .d (.lit (.int .i64 0))), (5, .d (.lit (.int .i64 i)))], []⟩ : St) _ from ?_)
          refine AW.seq ?_
          refine AW.seq ?_
          refine AW.region [0, 0, 0, 0] rfl ?_
          refine AO.ro rfl rfl (gOn_none rfl) (RO.move rfl rfl) ?_
          refine AO.ro rfl rfl (gOn_none rfl) (RO.move rfl rfl) ?_
          refine AO.ro rfl rfl (gOn_none rfl) (RO.len rfl Try.underlying26 rfl) ?_
          refine AO.split rfl rfl (gOn_none rfl) (RO.lss rfl rfl rfl) (fun t4 => ?_) (fun t4 => ?_)
          · skip
            refine AO.nil ?_
            refine AW.cond_t rfl ?_
            refine AW.skip ?_
            refine AW.seq ?_
            refine AW.block ?_
            refine AW.seq ?_
            refine AW.region [0, 0, 0, 0, 0, 0, 0, 0, 0, 0, 0, 0, 0] rfl ?_
            refine AO.ro rfl rfl (gOn_none rfl) (RO.move rfl rfl) ?_
            refine AO.ro rfl rfl (gOn_none rfl) (RO.move rfl rfl) ?_
            refine AO.ro rfl rfl (gOn_none rfl) (RO.idx rfl Try.underlying26 ti3 rfl rfl (by omega)) ?_
            refine AO.ro rfl rfl (gOn_none rfl) (RO.ld_addr rfl Try.underlying3 rfl rfl rfl) ?_
            refine AO.split rfl rfl (gOn_none rfl) (RO.lss rfl rfl rfl) (fun t5 => ?_) (fun t5 => ?_)
            · skip
              refine AO.ro rfl rfl (gOn_none rfl) (RO.move rfl rfl) ?_
              refine AO.skip rfl rfl ⟨26, true, rfl, rfl, rfl⟩ ?_
              refine AO.skip rfl rfl ⟨26, true, rfl, rfl, rfl⟩ ?_
              refine AO.skip rfl rfl ⟨26, true, rfl, rfl, rfl⟩ ?_
              refine AO.skip rfl rfl ⟨26, true, rfl, rfl, rfl⟩ ?_
              refine AO.skip rfl rfl ⟨26, true, rfl, rfl, rfl⟩ ?_
              refine AO.skip rfl rfl ⟨26, true, rfl, rfl, rfl⟩ ?_
              refine AO.ro rfl rfl (gOn_none rfl) (RO.pick_t rfl rfl rfl) ?_
              refine AO.nil ?_
              refine AW.cond_t rfl ?_
              refine AW.seq ?_
              refine AW.region [0] rfl ?_
              refine AO.ro rfl rfl (gOn_none rfl) (RO.assign rfl rfl) ?_
              refine AO.nil ?_
              refine AW.ret ?_
              refine ⟨[], [.d (.lit (.int .i64 2))], [], rfl, ⟨⟨_, rfl, .inl rfl⟩, rfl⟩, trivial, ?_⟩
              refine ⟨2, rfl, rfl, ?_⟩
              exact (mayE_bad (by omega) (by omega) (i := i) (by omega) (by omega)).symm
            · skip
              refine AO.ro rfl rfl (gOn_none rfl) (RO.move rfl rfl) ?_
              refine AO.ro rfl rfl ⟨26, false, rfl, rfl, rfl⟩ (RO.move rfl rfl) ?_
              refine AO.ro rfl rfl ⟨26, false, rfl, rfl, rfl⟩ (RO.move rfl rfl) ?_
              refine AO.ro rfl rfl ⟨26, false, rfl, rfl, rfl⟩ (RO.idx rfl Try.underlying26 ti3 rfl rfl (by omega)) ?_
              refine AO.ro rfl rfl ⟨26, false, rfl, rfl, rfl⟩ (RO.ld_addr rfl Try.underlying3 rfl rfl rfl) ?_
              refine AO.ro rfl rfl ⟨26, false, rfl, rfl, rfl⟩ (RO.move rfl rfl) ?_
              refine AO.split rfl rfl ⟨26, false, rfl, rfl, rfl⟩ (RO.geq rfl rfl rfl) (fun t6 => ?_) (fun t6 => ?_)
              · skip
                refine AO.ro rfl rfl (gOn_none rfl) (RO.pick_f rfl rfl rfl) ?_
                refine AO.nil ?_
                refine AW.cond_t rfl ?_
                refine AW.seq ?_
                refine AW.region [0] rfl ?_
                refine AO.ro rfl rfl (gOn_none rfl) (RO.assign rfl rfl) ?_
                refine AO.nil ?_
                refine AW.ret ?_
                refine ⟨[], [.d (.lit (.int .i64 2))], [], rfl, ⟨⟨_, rfl, .inl rfl⟩, rfl⟩, trivial, ?_⟩
                refine ⟨2, rfl, rfl, ?_⟩
                exact (mayE_bad (by omega) (by omega) (i := i) (by omega) (by omega)).symm
              · skip
                refine AO.ro rfl rfl (gOn_none rfl) (RO.pick_f rfl rfl rfl) ?_
                refine AO.nil ?_
                refine AW.cond_f rfl ?_
                refine AW.skip ?_
                refine AW.region [0, 0, 0] rfl ?_
                refine AO.ro rfl rfl (gOn_none rfl) (RO.move rfl rfl) ?_
                refine AO.ro rfl rfl (gOn_none rfl) (RO.add rfl rfl rfl (by omega)) ?_
                refine AO.ro rfl rfl (gOn_none rfl) (RO.assign rfl rfl) ?_
                refine AO.nil ?_
                refine ⟨i + 1, [], ?_, ?_, ⟨rfl, rfl, ⟨⟨_, rfl, .inl rfl⟩, ⟨⟨_, rfl, .inl rfl⟩, ⟨⟨_, rfl, .inl rfl⟩, ⟨⟨_, rfl, .inl rfl⟩, trivial⟩⟩⟩⟩, trivial⟩⟩
                · try dsimp only
                  exact ⟨by omega, below_succ h2 (by omega)⟩
                · try dsimp only
                  first | omega | (simp; done) | (simp_all; done) | (simp_all; omega)
          · skip
            refine AO.nil ?_
            refine AW.cond_f rfl ?_
            refine AW.exit ?_
            refine AW.seq ?_
            refine AW.region [0] rfl ?_
            refine AO.ro rfl rfl (gOn_none rfl) (RO.assign rfl rfl) ?_
            refine AO.nil ?_
            refine AW.ret ?_
            refine ⟨[], [.d (.lit (.int .i64 0))], [], rfl, ⟨⟨_, rfl, .inl rfl⟩, rfl⟩, trivial, ?_⟩
            refine ⟨0, rfl, rfl, ?_⟩
            exact (mayE_ok (by omega) (by omega) (fun j a b => h2 j a (by omega))).symm

theorem may_ok  (letters : Int) (w : (List Int)) : Fc Try.prog 52 [.d (.lit (.int .i64 letters)), .d (enc (w : (List Int)))] [] (fun r h => ∃ (y : Int), r = .d (.lit (.int .i64 y)) ∧ h = [] ∧ (y = mayE letters w)) := by
  refine Fc.of_body Try.func52 rfl Try.ntmps52 (by simp) (fun F => ?_)
  refine (show AW _ _ _ (⟨30, 0, [(0, .d (.lit (.int .i64 letters))), (1, .d (enc (w : (List Int))))], []⟩ : St) _ from ?_)
  refine AW.fact 1 rfl (fun ln_w => ?_)
  replace ln_w : w.length * 8 ≤ 140737488355328 := ln_w
  refine AW.seq ?_
  refine AW.region [0] rfl ?_
  refine AO.ro rfl rfl (gOn_none rfl) (RO.assign rfl rfl) ?_
  refine AO.nil ?_
  refine AW.seq ?_
  refine AW.seq ?_
  refine AW.region [0, 0, 0, 0, 0, 0] rfl ?_
  refine AO.ro rfl rfl (gOn_none rfl) (RO.move rfl rfl) ?_
  refine AO.split rfl rfl (gOn_none rfl) (RO.lss rfl rfl rfl) (fun t1 => ?_) (fun t1 => ?_)
  · skip
    refine AO.ro rfl rfl (gOn_none rfl) (RO.move rfl rfl) ?_
    refine AO.skip rfl rfl ⟨9, true, rfl, rfl, rfl⟩ ?_
    refine AO.skip rfl rfl ⟨9, true, rfl, rfl, rfl⟩ ?_
    refine AO.ro rfl rfl (gOn_none rfl) (RO.pick_t rfl rfl rfl) ?_
    refine AO.nil ?_
    refine AW.cond_t rfl ?_
    refine AW.seq ?_
    refine AW.region [0] rfl ?_
    refine AO.ro rfl rfl (gOn_none rfl) (RO.assign rfl rfl) ?_
    refine AO.nil ?_
    refine AW.ret ?_
    refine ⟨[], [.d (.lit (.int .i64 2))], [], rfl, ⟨⟨_, rfl, .inl rfl⟩, rfl⟩, trivial, ?_⟩
    refine ⟨2, rfl, rfl, ?_⟩
    exact (mayE_range (by omega)).symm
  · skip
    refine AO.ro rfl rfl (gOn_none rfl) (RO.move rfl rfl) ?_
    refine AO.ro rfl rfl ⟨9, false, rfl, rfl, rfl⟩ (RO.move rfl rfl) ?_
    refine AO.split rfl rfl ⟨9, false, rfl, rfl, rfl⟩ (RO.gtr rfl rfl rfl) (fun t2 => ?_) (fun t2 => ?_)
    · skip
      refine AO.ro rfl rfl (gOn_none rfl) (RO.pick_f rfl rfl rfl) ?_
      refine AO.nil ?_
      refine AW.cond_t rfl ?_
      refine AW.seq ?_
      refine AW.region [0] rfl ?_
      refine AO.ro rfl rfl (gOn_none rfl) (RO.assign rfl rfl) ?_
      refine AO.nil ?_
      refine AW.ret ?_
      refine ⟨[], [.d (.lit (.int .i64 2))], [], rfl, ⟨⟨_, rfl, .inl rfl⟩, rfl⟩, trivial, ?_⟩
      refine ⟨2, rfl, rfl, ?_⟩
      exact (mayE_range (by omega)).symm
    · skip
      refine AO.ro rfl rfl (gOn_none rfl) (RO.pick_f rfl rfl rfl) ?_
      refine AO.nil ?_
      refine AW.cond_f rfl ?_
      refine AW.skip ?_
      refine AW.seq ?_
      refine AW.seq ?_
      refine AW.region [0, 0, 0] rfl ?_
      refine AO.ro rfl rfl (gOn_none rfl) (RO.move rfl rfl) ?_
      refine AO.ro rfl rfl (gOn_none rfl) (RO.len rfl Try.underlying26 rfl) ?_
      refine AO.split rfl rfl (gOn_none rfl) (RO.gtr rfl rfl rfl) (fun t3 => ?_) (fun t3 => ?_)
      · skip
        refine AO.nil ?_
        refine AW.cond_t rfl ?_
        refine AW.seq ?_
        refine AW.region [0] rfl ?_
        refine AO.ro rfl rfl (gOn_none rfl) (RO.assign rfl rfl) ?_
        refine AO.nil ?_
        refine AW.ret ?_
        refine ⟨[], [.d (.lit (.int .i64 1))], [], rfl, ⟨⟨_, rfl, .inl rfl⟩, rfl⟩, trivial, ?_⟩
        refine ⟨1, rfl, rfl, ?_⟩
        exact (mayE_size (by omega) (by omega)).symm
      · skip
        refine AO.nil ?_
        refine AW.cond_f rfl ?_
        refine AW.skip ?_
        refine AW.seq ?_
        refine AW.seq ?_
        refine AW.region [0, 0, 0] rfl ?_
        refine AO.ro rfl rfl (gOn_none rfl) (RO.move rfl rfl) ?_
        refine AO.ro rfl rfl (gOn_none rfl) (RO.len rfl Try.underlying26 rfl) ?_
        refine AO.ro rfl rfl (gOn_none rfl) (RO.move rfl rfl) ?_
        refine AO.nil ?_
        refine AW.block ?_
        refine AW.loop (mp := []) (X := Int) (fun x => ⟨30, 0, [(0, .d (.lit (.int .i64 letters))), (4, .d (.lit (.int .i64 0))), (16, .d (enc (w : (List Int)))), (17, .d (.lit (.int .i64 ((w.length : Int))))), (18, .d (.lit (.int .i64 x)))], []⟩) (fun x => (0 ≤ x ∧ x ≤ w.length) ∧ (∀ j : Int, 0 ≤ j → j < x → 0 ≤ ix w j ∧ ix w j < letters)) (fun x => (w.length - x).toNat) 0 ?_ ⟨rfl, rfl, ⟨⟨_, rfl, .inl rfl⟩, ⟨⟨_, rfl, .inl rfl⟩, ⟨⟨_, rfl, .inl rfl⟩, ⟨⟨_, rfl, .inl rfl⟩, ⟨⟨_, rfl, .inl rfl⟩, trivial⟩⟩⟩⟩⟩, trivial⟩ ?_
        · try dsimp only
          exact ⟨by omega, fun j a b => by omega⟩
        · skip
          intro i hx
          replace hx : (0 ≤ i ∧ i ≤ w.length) ∧ (∀ j : Int, 0 ≤ j → j < i → 0 ≤ ix w j ∧ ix w j < letters) := hx
          obtain ⟨h1, h2⟩ := hx
          refine (show AW _ _ _ (⟨30, 0, [(0, .d (.lit (.int .i64 letters))), (4, .d (.lit (.int .i64 0))), (16, .d (enc (w : (List Int)))), (17, .d (.lit (.int .i64 ((w.length : Int))))), (18, .d (.lit (.int .i64 i)))], []⟩ : St) _ from ?_)
          refine AW.seq ?_
          refine AW.region [0] rfl ?_
          refine AO.split rfl rfl (gOn_none rfl) (RO.lss rfl rfl rfl) (fun t4 => ?_) (fun t4 => ?_)
          · skip
            refine AO.nil ?_
            refine AW.seq ?_
            refine AW.cond_t rfl ?_
            refine AW.skip ?_
            refine AW.seq ?_
            refine AW.block ?_
            refine AW.seq ?_
            refine AW.region [0, 0, 0] rfl ?_
            refine AO.ro rfl rfl (gOn_none rfl) (RO.idx rfl Try.underlying26 ti3 rfl rfl (by omega)) ?_
            refine AO.ro rfl rfl (gOn_none rfl) (RO.ld_addr rfl Try.underlying3 rfl rfl rfl) ?_
            refine AO.ro rfl rfl (gOn_none rfl) (RO.assign rfl rfl) ?_
            refine AO.nil ?_
            refine AW.seq ?_
            refine AW.region [0, 0, 0, 0, 0, 0, 0] rfl ?_
            refine AO.ro rfl rfl (gOn_none rfl) (RO.move rfl rfl) ?_
            refine AO.split rfl rfl (gOn_none rfl) (RO.lss rfl rfl rfl) (fun t5 => ?_) (fun t5 => ?_)
            · skip
              refine AO.ro rfl rfl (gOn_none rfl) (RO.move rfl rfl) ?_
              refine AO.skip rfl rfl ⟨24, true, rfl, rfl, rfl⟩ ?_
              refine AO.skip rfl rfl ⟨24, true, rfl, rfl, rfl⟩ ?_
              refine AO.skip rfl rfl ⟨24, true, rfl, rfl, rfl⟩ ?_
              refine AO.ro rfl rfl (gOn_none rfl) (RO.pick_t rfl rfl rfl) ?_
              refine AO.nil ?_
              refine AW.cond_t rfl ?_
              refine AW.seq ?_
              refine AW.region [0] rfl ?_
              refine AO.ro rfl rfl (gOn_none rfl) (RO.assign rfl rfl) ?_
              refine AO.nil ?_
              refine AW.ret ?_
              refine ⟨[], [.d (.lit (.int .i64 2))], [], rfl, ⟨⟨_, rfl, .inl rfl⟩, rfl⟩, trivial, ?_⟩
              refine ⟨2, rfl, rfl, ?_⟩
              exact (mayE_bad (by omega) (by omega) (i := i) (by omega) (by omega)).symm
            · skip
              refine AO.ro rfl rfl (gOn_none rfl) (RO.move rfl rfl) ?_
              refine AO.ro rfl rfl ⟨24, false, rfl, rfl, rfl⟩ (RO.move rfl rfl) ?_
              refine AO.ro rfl rfl ⟨24, false, rfl, rfl, rfl⟩ (RO.move rfl rfl) ?_
              refine AO.split rfl rfl ⟨24, false, rfl, rfl, rfl⟩ (RO.geq rfl rfl rfl) (fun t6 => ?_) (fun t6 => ?_)
              · skip
                refine AO.ro rfl rfl (gOn_none rfl) (RO.pick_f rfl rfl rfl) ?_
                refine AO.nil ?_
                refine AW.cond_t rfl ?_
                refine AW.seq ?_
                refine AW.region [0] rfl ?_
                refine AO.ro rfl rfl (gOn_none rfl) (RO.assign rfl rfl) ?_
                refine AO.nil ?_
                refine AW.ret ?_
                refine ⟨[], [.d (.lit (.int .i64 2))], [], rfl, ⟨⟨_, rfl, .inl rfl⟩, rfl⟩, trivial, ?_⟩
                refine ⟨2, rfl, rfl, ?_⟩
                exact (mayE_bad (by omega) (by omega) (i := i) (by omega) (by omega)).symm
              · skip
                refine AO.ro rfl rfl (gOn_none rfl) (RO.pick_f rfl rfl rfl) ?_
                refine AO.nil ?_
                refine AW.cond_f rfl ?_
                refine AW.skip ?_
                refine AW.region [0, 0] rfl ?_
                refine AO.ro rfl rfl (gOn_none rfl) (RO.add rfl rfl rfl (by omega)) ?_
                refine AO.ro rfl rfl (gOn_none rfl) (RO.move rfl rfl) ?_
                refine AO.nil ?_
                refine ⟨i + 1, [], ?_, ?_, ⟨rfl, rfl, ⟨⟨_, rfl, .inl rfl⟩, ⟨⟨_, rfl, .inl rfl⟩, ⟨⟨_, rfl, .inl rfl⟩, ⟨⟨_, rfl, .inl rfl⟩, ⟨⟨_, rfl, .inl rfl⟩, trivial⟩⟩⟩⟩⟩, trivial⟩⟩
                · try dsimp only
                  exact ⟨by omega, below_succ h2 (by omega)⟩
                · try dsimp only
                  first | omega | (simp; done) | (simp_all; done) | (simp_all; omega)
          · skip
            refine AO.nil ?_
            refine AW.seq ?_
            refine AW.cond_f rfl ?_
            refine AW.exit ?_
            refine AW.seq ?_
            refine AW.region [0] rfl ?_
            refine AO.ro rfl rfl (gOn_none rfl) (RO.assign rfl rfl) ?_
            refine AO.nil ?_
            refine AW.ret ?_
            refine ⟨[], [.d (.lit (.int .i64 0))], [], rfl, ⟨⟨_, rfl, .inl rfl⟩, rfl⟩, trivial, ?_⟩
            refine ⟨0, rfl, rfl, ?_⟩
            exact (mayE_ok (by omega) (by omega) (fun j a b => h2 j a (by omega))).symm

/-- The first places at which the letters of the one stand in the other. -/
def emb : List Int → List Int → Int → Option (List Int)
  | [], _, _ => some []
  | _ :: _, [], _ => none
  | a :: u, b :: v, k => if a = b then (emb u v (k + 1)).map (k :: ·) else emb (a :: u) v (k + 1)
theorem emb_all {u v : List Int} {i k : Int} (h : (u.length : Int) ≤ i) : emb (u.drop i.toNat) v k = some [] := by
  rw [drop_all h]; cases v <;> rfl
theorem emb_none {u v : List Int} {i j k : Int} (h0 : 0 ≤ i) (h : i < u.length) (hj : (v.length : Int) ≤ j) : emb (u.drop i.toNat) (v.drop j.toNat) k = none := by
  rw [drop_all hj, ix_drop h0 h]; rfl
theorem emb_hit {u v : List Int} {i j : Int} (h0 : 0 ≤ i) (h : i < u.length) (hj0 : 0 ≤ j) (hj : j < v.length) (he : ix u i = ix v j) :
    emb (u.drop i.toNat) (v.drop j.toNat) j = (emb (u.drop (i + 1).toNat) (v.drop (j + 1).toNat) (j + 1)).map (j :: ·) := by
  rw [ix_drop h0 h, ix_drop hj0 hj]; exact if_pos he
theorem emb_miss {u v : List Int} {i j : Int} (h0 : 0 ≤ i) (h : i < u.length) (hj0 : 0 ≤ j) (hj : j < v.length) (he : ¬ ix u i = ix v j) :
    emb (u.drop i.toNat) (v.drop j.toNat) j = emb (u.drop i.toNat) (v.drop (j + 1).toNat) (j + 1) := by
  rw [ix_drop hj0 hj, ix_drop h0 h]; exact if_neg he
theorem emb_add {p : List Int} {k : Int} {o : Option (List Int)} : (o.map (k :: ·)).map (p ++ ·) = o.map ((p ++ [k]) ++ ·) := by
  cases o <;> simp
theorem emb_start {u v : List Int} : emb u v 0 = (emb (u.drop (0 : Int).toNat) (v.drop (0 : Int).toNat) 0).map (([] : List Int) ++ ·) := by
  cases h : emb u v 0 <;> simp [h]
theorem within_ok  (u : (List Int)) (v : (List Int)) : Fc Try.prog 19 [.d (enc (u : (List Int))), .d (enc (v : (List Int)))] [] (fun r h => ∃ (l : (List Int)) (b : Bool), r = .tup [.d (enc (l : (List Int))), .d (.lit (.bool b))] ∧ h = [] ∧ (l = (emb u v 0).getD [] ∧ b = (emb u v 0).isSome)) := by
  refine Fc.of_body Try.func19 rfl Try.ntmps19 (by simp) (fun F => ?_)
  refine (show AW _ _ _ (⟨43, 0, [(0, .d (enc (u : (List Int)))), (1, .d (enc (v : (List Int))))], []⟩ : St) _ from ?_)
  refine AW.fact 0 rfl (fun ln_u => ?_)
  replace ln_u : u.length * 8 ≤ 140737488355328 := ln_u
  refine AW.fact 1 rfl (fun ln_v => ?_)
  replace ln_v : v.length * 8 ≤ 140737488355328 := ln_v
  refine AW.seq ?_
  refine AW.region [0, 0] rfl ?_
  refine AO.ro rfl rfl (gOn_none rfl) (RO.assign rfl rfl) ?_
  refine AO.ro rfl rfl (gOn_none rfl) (RO.assign rfl rfl) ?_
  refine AO.nil ?_
  refine AW.seq ?_
  refine AW.region [0] rfl ?_
  refine AO.ro rfl rfl (gOn_none rfl) (RO.assign rfl rfl) ?_
  refine AO.nil ?_
  refine AW.seq ?_
  refine AW.region [0] rfl ?_
  refine AO.ro rfl rfl (gOn_none rfl) (RO.assign rfl rfl) ?_
  refine AO.nil ?_
  refine AW.seq ?_
  refine AW.seq ?_
  refine AW.region [0] rfl ?_
  refine AO.ro rfl rfl (gOn_none rfl) (RO.assign rfl rfl) ?_
  refine AO.nil ?_
  refine AW.block ?_
  refine AW.loop (mp := [(0, none)]) (X := Int × Int × List Int) (fun x => ⟨43, 1, [(0, .d (enc (u : (List Int)))), (1, .d (enc (v : (List Int)))), (4, .nil), (5, .d (.lit (.bool false))), (6, .own 0), (7, .d (.lit (.int .i64 x.2.1))), (8, .d (.lit (.int .i64 x.1)))], [(0, some (Ent.arrOf 3 (x.2.2 : List Int)))]⟩) (fun x => (0 ≤ x.1 ∧ x.1 ≤ u.length) ∧ (0 ≤ x.2.1 ∧ x.2.1 ≤ v.length) ∧ (x.2.2.length * 8 ≤ x.1.toNat * 8) ∧ (emb u v 0 = (emb (u.drop x.1.toNat) (v.drop x.2.1.toNat) x.2.1).map (x.2.2 ++ ·))) (fun x => (u.length - x.1).toNat) ((0, 0, [])) ?_ ⟨rfl, rfl, ⟨⟨_, rfl, .inl rfl⟩, ⟨⟨_, rfl, .inl rfl⟩, ⟨⟨_, rfl, .inl rfl⟩, ⟨⟨_, rfl, .inl rfl⟩, ⟨⟨_, rfl, .inl rfl⟩, ⟨⟨_, rfl, .inl rfl⟩, ⟨⟨_, rfl, .inl rfl⟩, trivial⟩⟩⟩⟩⟩⟩⟩, ⟨⟨_, _, _, rfl, by decide⟩, trivial⟩⟩ ?_
  · try dsimp only
    exact ⟨by omega, by omega, by simp, emb_start⟩
  · skip
    intro x hx
    obtain ⟨i, q, p⟩ := x
    replace hx : (0 ≤ i ∧ i ≤ u.length) ∧ (0 ≤ q ∧ q ≤ v.length) ∧ (p.length * 8 ≤ i.toNat * 8) ∧ (emb u v 0 = (emb (u.drop i.toNat) (v.drop q.toNat) q).map (p ++ ·)) := hx
    obtain ⟨h1, h2, h3, h4⟩ := hx
    refine (show AW _ _ _ (⟨43, 1, [(0, .d (enc (u : (List Int)))), (1, .d (enc (v : (List Int)))), (4, .nil), (5, .d (.lit (.bool false))), (6, .own 0), (7, .d (.lit (.int .i64 q))), (8, .d (.lit (.int .i64 i)))], [(0, some (Ent.arrOf 3 (p : List Int)))]⟩ : St) _ from ?_)
    refine AW.seq ?_
    refine AW.seq ?_
    refine AW.region [0, 0, 0, 0] rfl ?_
    refine AO.ro rfl rfl (gOn_none rfl) (RO.move rfl rfl) ?_
    refine AO.ro rfl rfl (gOn_none rfl) (RO.move rfl rfl) ?_
    refine AO.ro rfl rfl (gOn_none rfl) (RO.len rfl Try.underlying26 rfl) ?_
    refine AO.split rfl rfl (gOn_none rfl) (RO.lss rfl rfl rfl) (fun t1 => ?_) (fun t1 => ?_)
    · skip
      refine AO.nil ?_
      refine AW.cond_t rfl ?_
      refine AW.skip ?_
      refine AW.seq ?_
      refine AW.block ?_
      refine AW.seq ?_
      refine AW.block ?_
      refine AW.loop (mp := [(0, some 0)]) (X := Int) (fun x => ⟨43, 1, [(0, .d (enc (u : (List Int)))), (1, .d (enc (v : (List Int)))), (4, .nil), (5, .d (.lit (.bool false))), (6, .own 0), (7, .d (.lit (.int .i64 x))), (8, .d (.lit (.int .i64 i)))], [(0, some (Ent.arrOf 3 (p : List Int)))]⟩) (fun x => (0 ≤ x ∧ x ≤ v.length) ∧ (emb u v 0 = (emb (u.drop i.toNat) (v.drop x.toNat) x).map (p ++ ·))) (fun x => (v.length - x).toNat) q ?_ ⟨rfl, rfl, ⟨⟨_, rfl, .inl rfl⟩, ⟨⟨_, rfl, .inl rfl⟩, ⟨⟨_, rfl, .inl rfl⟩, ⟨⟨_, rfl, .inl rfl⟩, ⟨⟨_, rfl, .inl rfl⟩, ⟨⟨_, rfl, .inl rfl⟩, ⟨⟨_, rfl, .inl rfl⟩, trivial⟩⟩⟩⟩⟩⟩⟩, ⟨⟨_, rfl, rfl⟩, trivial⟩⟩ ?_
      · try dsimp only
        exact ⟨by omega, h4⟩
      · skip
        intro q2 hx
        replace hx : (0 ≤ q2 ∧ q2 ≤ v.length) ∧ (emb u v 0 = (emb (u.drop i.toNat) (v.drop q2.toNat) q2).map (p ++ ·)) := hx
        obtain ⟨g1, g2⟩ := hx
        refine (show AW _ _ _ (⟨43, 1, [(0, .d (enc (u : (List Int)))), (1, .d (enc (v : (List Int)))), (4, .nil), (5, .d (.lit (.bool false))), (6, .own 0), (7, .d (.lit (.int .i64 q2))), (8, .d (.lit (.int .i64 i)))], [(0, some (Ent.arrOf 3 (p : List Int)))]⟩ : St) _ from ?_)
        refine AW.seq ?_
        refine AW.seq ?_
        refine AW.drawn [(0, 0), (0, 1), (0, 2), (0, 3), (0, 4), (0, 5), (0, 6), (0, 7), (0, 8), (0, 9), (0, 10), (0, 11), (0, 12), (0, 13), (0, 14)] (by kernel_rfl) (by kernel_rfl) ?_
        refine AO.ro rfl rfl (gOn_none rfl) (RO.move rfl rfl) ?_
        refine AO.ro rfl rfl (gOn_none rfl) (RO.move rfl rfl) ?_
        refine AO.ro rfl rfl (gOn_none rfl) (RO.len rfl Try.underlying26 rfl) ?_
        refine AO.split rfl rfl (gOn_none rfl) (RO.lss rfl rfl rfl) (fun t2 => ?_) (fun t2 => ?_)
        · skip
          refine AO.ro rfl rfl (gOn_none rfl) (RO.move rfl rfl) ?_
          refine AO.ro rfl rfl ⟨19, true, rfl, rfl, rfl⟩ (RO.move rfl rfl) ?_
          refine AO.ro rfl rfl ⟨19, true, rfl, rfl, rfl⟩ (RO.move rfl rfl) ?_
          refine AO.ro rfl rfl ⟨19, true, rfl, rfl, rfl⟩ (RO.idx rfl Try.underlying26 ti3 rfl rfl (by omega)) ?_
          refine AO.ro rfl rfl ⟨19, true, rfl, rfl, rfl⟩ (RO.ld_addr rfl Try.underlying3 rfl rfl rfl) ?_
          refine AO.ro rfl rfl ⟨19, true, rfl, rfl, rfl⟩ (RO.move rfl rfl) ?_
          refine AO.ro rfl rfl ⟨19, true, rfl, rfl, rfl⟩ (RO.move rfl rfl) ?_
          refine AO.ro rfl rfl ⟨19, true, rfl, rfl, rfl⟩ (RO.idx rfl Try.underlying26 ti3 rfl rfl (by omega)) ?_
          refine AO.ro rfl rfl ⟨19, true, rfl, rfl, rfl⟩ (RO.ld_addr rfl Try.underlying3 rfl rfl rfl) ?_
          refine AO.splitn rfl rfl ⟨19, true, rfl, rfl, rfl⟩ (RO.neq rfl rfl rfl) (fun t3 => ?_) (fun t3 => ?_)
          · skip
            refine AO.ro rfl rfl (gOn_none rfl) (RO.pick_t rfl rfl rfl) ?_
            refine AO.nil ?_
            refine AW.cond_t rfl ?_
            refine AW.skip ?_
            refine AW.block ?_
            refine AW.region [0, 0, 0] rfl ?_
            refine AO.ro rfl rfl (gOn_none rfl) (RO.move rfl rfl) ?_
            refine AO.ro rfl rfl (gOn_none rfl) (RO.add rfl rfl rfl (by omega)) ?_
            refine AO.ro rfl rfl (gOn_none rfl) (RO.assign rfl rfl) ?_
            refine AO.nil ?_
            refine ⟨q2 + 1, [(0, some 0)], ?_, ?_, ⟨rfl, rfl, ⟨⟨_, rfl, .inl rfl⟩, ⟨⟨_, rfl, .inl rfl⟩, ⟨⟨_, rfl, .inl rfl⟩, ⟨⟨_, rfl, .inl rfl⟩, ⟨⟨_, rfl, .inl rfl⟩, ⟨⟨_, rfl, .inl rfl⟩, ⟨⟨_, rfl, .inl rfl⟩, trivial⟩⟩⟩⟩⟩⟩⟩, ⟨⟨_, rfl, rfl⟩, trivial⟩⟩⟩
            · try dsimp only
              exact ⟨by omega, by rw [g2, emb_miss (by omega) (by omega) (by omega) (by omega) (by omega)]⟩
            · try dsimp only
              first | omega | (simp; done) | (simp_all; done) | (simp_all; omega)
          · skip
            refine AO.ro rfl rfl (gOn_none rfl) (RO.pick_t rfl rfl rfl) ?_
            refine AO.nil ?_
            refine AW.cond_f rfl ?_
            refine AW.exit ?_
            refine AW.seq ?_
            refine AW.seq ?_
            refine AW.region [0, 0, 0, 0] rfl ?_
            refine AO.ro rfl rfl (gOn_none rfl) (RO.move rfl rfl) ?_
            refine AO.ro rfl rfl (gOn_none rfl) (RO.move rfl rfl) ?_
            refine AO.ro rfl rfl (gOn_none rfl) (RO.len rfl Try.underlying26 rfl) ?_
            refine AO.split rfl rfl (gOn_none rfl) (RO.eql rfl rfl rfl) (fun t4 => ?_) (fun t4 => ?_)
            · skip
              refine AO.nil ?_
              refine AW.cond_t rfl ?_
              refine AW.seq ?_
              refine AW.region [0, 0] rfl ?_
              refine AO.ro rfl rfl (gOn_none rfl) (RO.assign rfl rfl) ?_
              refine AO.ro rfl rfl (gOn_none rfl) (RO.assign rfl rfl) ?_
              refine AO.nil ?_
              refine AW.ret ?_
              refine ⟨[], [.d (enc ([] : (List Int))), .d (.lit (.bool false))], [], rfl, ⟨⟨_, rfl, .inr ⟨rfl, _, rfl⟩⟩, ⟨⟨_, rfl, .inl rfl⟩, rfl⟩⟩, trivial, ?_⟩
              refine ⟨([]), false, rfl, rfl, ?_⟩
              first | omega | (rw [emb_none (by omega) (by omega) (by omega)] at g2; rw [g2]; exact ⟨rfl, rfl⟩)
            · skip
              refine AO.nil ?_
              refine AW.cond_f rfl ?_
              refine AW.skip ?_
              refine AW.seq ?_
              refine AW.region [0, 0, 1, 2, 0] rfl ?_
              refine AO.ro rfl rfl (gOn_none rfl) (RO.move rfl rfl) ?_
              refine AO.ro rfl rfl (gOn_none rfl) (RO.move rfl rfl) ?_
              refine AO.al1 (gOn_none rfl) (AL.lits (α := Int) (ys := [q2]) 1 rfl (by kernel_rfl) rfl rfl rfl Try.underlying26 ti3 rfl ⟨rfl, rfl, rfl⟩ rfl (fun _ => rfl) rfl (by kernel_rfl) (by kernel_rfl)) ?_
              refine AO.ef1 (gOn_none rfl) (EF.append (α := Int) (ys := ([q2] : List Int)) default 2 rfl (by kernel_rfl) rfl rfl rfl Try.underlying26 ti3 rfl rfl rfl (by decide) zr3 rfl rfl (.inr (.inl ⟨_, _, rfl, rfl⟩)) (by simp only [List.length_append, List.length_cons, List.length_nil]; omega) (by simp only [List.length_append, List.length_cons, List.length_nil]; omega)) ?_
              refine AO.ro rfl rfl (gOn_none rfl) (RO.assign rfl rfl) ?_
              refine AO.nil ?_
              refine AW.region [0, 0, 0] rfl ?_
              refine AO.ro rfl rfl (gOn_none rfl) (RO.move rfl rfl) ?_
              refine AO.ro rfl rfl (gOn_none rfl) (RO.add rfl rfl rfl (by omega)) ?_
              refine AO.ro rfl rfl (gOn_none rfl) (RO.assign rfl rfl) ?_
              refine AO.nil ?_
              refine AW.region [0, 0, 0] rfl ?_
              refine AO.ro rfl rfl (gOn_none rfl) (RO.move rfl rfl) ?_
              refine AO.ro rfl rfl (gOn_none rfl) (RO.add rfl rfl rfl (by omega)) ?_
              refine AO.ro rfl rfl (gOn_none rfl) (RO.assign rfl rfl) ?_
              refine AO.nil ?_
              refine ⟨(i + 1, q2 + 1, p ++ ([q2])), [(0, some 2)], ?_, ?_, ⟨rfl, rfl, ⟨⟨_, rfl, .inl rfl⟩, ⟨⟨_, rfl, .inl rfl⟩, ⟨⟨_, rfl, .inl rfl⟩, ⟨⟨_, rfl, .inl rfl⟩, ⟨⟨_, rfl, .inl rfl⟩, ⟨⟨_, rfl, .inl rfl⟩, ⟨⟨_, rfl, .inl rfl⟩, trivial⟩⟩⟩⟩⟩⟩⟩, ⟨⟨_, rfl, rfl⟩, trivial⟩⟩⟩
              · try dsimp only
                exact ⟨by omega, by omega, by simp; omega, by rw [g2, emb_hit (by omega) (by omega) (by omega) (by omega) (by omega), emb_add]⟩
              · try dsimp only
                first | omega | (simp; done) | (simp_all; done) | (simp_all; omega)
        · skip
          refine AO.ro rfl rfl (gOn_none rfl) (RO.move rfl rfl) ?_
          refine AO.skip rfl rfl ⟨19, false, rfl, rfl, rfl⟩ ?_
          refine AO.skip rfl rfl ⟨19, false, rfl, rfl, rfl⟩ ?_
          refine AO.skip rfl rfl ⟨19, false, rfl, rfl, rfl⟩ ?_
          refine AO.skip rfl rfl ⟨19, false, rfl, rfl, rfl⟩ ?_
          refine AO.skip rfl rfl ⟨19, false, rfl, rfl, rfl⟩ ?_
          refine AO.skip rfl rfl ⟨19, false, rfl, rfl, rfl⟩ ?_
          refine AO.skip rfl rfl ⟨19, false, rfl, rfl, rfl⟩ ?_
          refine AO.skip rfl rfl ⟨19, false, rfl, rfl, rfl⟩ ?_
          refine AO.skip rfl rfl ⟨19, false, rfl, rfl, rfl⟩ ?_
          refine AO.ro rfl rfl (gOn_none rfl) (RO.pick_f rfl rfl rfl) ?_
          refine AO.nil ?_
          refine AW.cond_f rfl ?_
          refine AW.exit ?_
          refine AW.seq ?_
          refine AW.seq ?_
          refine AW.region [0, 0, 0, 0] rfl ?_
          refine AO.ro rfl rfl (gOn_none rfl) (RO.move rfl rfl) ?_
          refine AO.ro rfl rfl (gOn_none rfl) (RO.move rfl rfl) ?_
          refine AO.ro rfl rfl (gOn_none rfl) (RO.len rfl Try.underlying26 rfl) ?_
          refine AO.split rfl rfl (gOn_none rfl) (RO.eql rfl rfl rfl) (fun t5 => ?_) (fun t5 => ?_)
          · skip
            refine AO.nil ?_
            refine AW.cond_t rfl ?_
            refine AW.seq ?_
            refine AW.region [0, 0] rfl ?_
            refine AO.ro rfl rfl (gOn_none rfl) (RO.assign rfl rfl) ?_
            refine AO.ro rfl rfl (gOn_none rfl) (RO.assign rfl rfl) ?_
            refine AO.nil ?_
            refine AW.ret ?_
            refine ⟨[], [.d (enc ([] : (List Int))), .d (.lit (.bool false))], [], rfl, ⟨⟨_, rfl, .inr ⟨rfl, _, rfl⟩⟩, ⟨⟨_, rfl, .inl rfl⟩, rfl⟩⟩, trivial, ?_⟩
            refine ⟨([]), false, rfl, rfl, ?_⟩
            first | omega | (rw [emb_none (by omega) (by omega) (by omega)] at g2; rw [g2]; exact ⟨rfl, rfl⟩)
          · skip
            refine AO.nil ?_
            refine AW.cond_f rfl ?_
            refine AW.skip ?_
            refine AW.seq ?_
            refine AW.region [0, 0, 1, 2, 0] rfl ?_
            refine AO.ro rfl rfl (gOn_none rfl) (RO.move rfl rfl) ?_
            refine AO.ro rfl rfl (gOn_none rfl) (RO.move rfl rfl) ?_
            refine AO.al1 (gOn_none rfl) (AL.lits (α := Int) (ys := [q2]) 1 rfl (by kernel_rfl) rfl rfl rfl Try.underlying26 ti3 rfl ⟨rfl, rfl, rfl⟩ rfl (fun _ => rfl) rfl (by kernel_rfl) (by kernel_rfl)) ?_
            refine AO.ef1 (gOn_none rfl) (EF.append (α := Int) (ys := ([q2] : List Int)) default 2 rfl (by kernel_rfl) rfl rfl rfl Try.underlying26 ti3 rfl rfl rfl (by decide) zr3 rfl rfl (.inr (.inl ⟨_, _, rfl, rfl⟩)) (by simp only [List.length_append, List.length_cons, List.length_nil]; omega) (by simp only [List.length_append, List.length_cons, List.length_nil]; omega)) ?_
            refine AO.ro rfl rfl (gOn_none rfl) (RO.assign rfl rfl) ?_
            refine AO.nil ?_
            refine AW.region [0, 0, 0] rfl ?_
            refine AO.ro rfl rfl (gOn_none rfl) (RO.move rfl rfl) ?_
            refine AO.ro rfl rfl (gOn_none rfl) (RO.add rfl rfl rfl (by omega)) ?_
            refine AO.ro rfl rfl (gOn_none rfl) (RO.assign rfl rfl) ?_
            refine AO.nil ?_
            refine AW.region [0, 0, 0] rfl ?_
            refine AO.ro rfl rfl (gOn_none rfl) (RO.move rfl rfl) ?_
            refine AO.ro rfl rfl (gOn_none rfl) (RO.add rfl rfl rfl (by omega)) ?_
            refine AO.ro rfl rfl (gOn_none rfl) (RO.assign rfl rfl) ?_
            refine AO.nil ?_
            refine ⟨(i + 1, q2 + 1, p ++ ([q2])), [(0, some 2)], ?_, ?_, ⟨rfl, rfl, ⟨⟨_, rfl, .inl rfl⟩, ⟨⟨_, rfl, .inl rfl⟩, ⟨⟨_, rfl, .inl rfl⟩, ⟨⟨_, rfl, .inl rfl⟩, ⟨⟨_, rfl, .inl rfl⟩, ⟨⟨_, rfl, .inl rfl⟩, ⟨⟨_, rfl, .inl rfl⟩, trivial⟩⟩⟩⟩⟩⟩⟩, ⟨⟨_, rfl, rfl⟩, trivial⟩⟩⟩
            · try dsimp only
              omega
            · try dsimp only
              first | omega | (simp; done) | (simp_all; done) | (simp_all; omega)
    · skip
      refine AO.nil ?_
      refine AW.cond_f rfl ?_
      refine AW.exit ?_
      refine AW.seq ?_
      refine AW.region [0, 0, 0] rfl ?_
      refine AO.ro rfl rfl (gOn_none rfl) (RO.move rfl rfl) ?_
      refine AO.ro rfl rfl (gOn_none rfl) (RO.assign rfl rfl) ?_
      refine AO.ro rfl rfl (gOn_none rfl) (RO.assign rfl rfl) ?_
      refine AO.nil ?_
      refine AW.freeze 4 0 rfl rfl ?_
      refine AW.ret ?_
      refine ⟨[], [.d (enc (p : (List Int))), .d (.lit (.bool true))], [], rfl, ⟨⟨_, rfl, .inl rfl⟩, ⟨⟨_, rfl, .inl rfl⟩, rfl⟩⟩, trivial, ?_⟩
      refine ⟨p, true, rfl, rfl, ?_⟩
      rw [emb_all (by omega)] at h4; rw [h4]; simp

theorem stands_ok  (u : (List Int)) (v : (List Int)) : Fc Try.prog 17 [.d (enc (u : (List Int))), .d (enc (v : (List Int)))] [] (fun r h => ∃ (l : (List Int)) (b : Bool) (e : Int), r = .tup [.d (enc (l : (List Int))), .d (.lit (.bool b)), .d (.lit (.int .i64 e))] ∧ h = [] ∧ (e = (if mayE 4 u ≠ 0 then mayE 4 u else mayE 4 v) ∧ (e ≠ 0 → l = [] ∧ b = false) ∧ (e = 0 → l = (emb u v 0).getD [] ∧ b = (emb u v 0).isSome))) := by
  refine Fc.of_body Try.func17 rfl Try.ntmps17 (by simp) (fun F => ?_)
  refine (show AW _ _ _ (⟨58, 0, [(0, .d (enc (u : (List Int)))), (1, .d (enc (v : (List Int))))], []⟩ : St) _ from ?_)
  refine AW.fact 0 rfl (fun ln_u => ?_)
  replace ln_u : u.length * 8 ≤ 140737488355328 := ln_u
  refine AW.fact 1 rfl (fun ln_v => ?_)
  replace ln_v : v.length * 8 ≤ 140737488355328 := ln_v
  have hl : ([u, v] : List (List Int)).length = 2 := rfl
  have hix0 : ix [u, v] 0 = u := rfl
  have hix1 : ix [u, v] 1 = v := rfl
  refine AW.seq ?_
  refine AW.region [0, 0, 0] rfl ?_
  refine AO.ro rfl rfl (gOn_none rfl) (RO.assign rfl rfl) ?_
  refine AO.ro rfl rfl (gOn_none rfl) (RO.assign rfl rfl) ?_
  refine AO.ro rfl rfl (gOn_none rfl) (RO.assign rfl rfl) ?_
  refine AO.nil ?_
  refine AW.seq ?_
  refine AW.seq ?_
  refine AW.region [0, 0, 1, 0, 0] rfl ?_
  refine AO.ro rfl rfl (gOn_none rfl) (RO.move rfl rfl) ?_
  refine AO.ro rfl rfl (gOn_none rfl) (RO.move rfl rfl) ?_
  refine AO.al1 (gOn_none rfl) (AL.lits (α := (List Int)) (ys := [u, v]) 0 rfl (by kernel_rfl) rfl rfl rfl Try.underlying45 ti26 rfl ⟨rfl, rfl, rfl, rfl, rfl⟩ rfl (fun _ => rfl) rfl (by kernel_rfl) (by kernel_rfl)) ?_
  refine AO.ro rfl rfl (gOn_none rfl) (RO.len_own rfl Try.underlying45 rfl rfl) ?_
  refine AO.ro rfl rfl (gOn_none rfl) (RO.move rfl rfl) ?_
  refine AO.nil ?_
  refine AW.block ?_
  refine AW.loop (mp := [(0, some 0)]) (X := Int) (fun x => ⟨58, 1, [(0, .d (enc (u : (List Int)))), (1, .d (enc (v : (List Int)))), (4, .nil), (5, .d (.lit (.bool false))), (6, .d (.lit (.int .i64 0))), (14, .own 0), (15, .d (.lit (.int .i64 ((([u, v]).length : Int))))), (16, .d (.lit (.int .i64 x)))], [(0, some (Ent.arrOf 26 ([u, v] : List (List Int))))]⟩) (fun x => (0 ≤ x ∧ x ≤ 2) ∧ (0 < x → mayE 4 u = 0) ∧ (1 < x → mayE 4 v = 0)) (fun x => (2 - x).toNat) 0 ?_ ⟨rfl, rfl, ⟨⟨_, rfl, .inl rfl⟩, ⟨⟨_, rfl, .inl rfl⟩, ⟨⟨_, rfl, .inl rfl⟩, ⟨⟨_, rfl, .inl rfl⟩, ⟨⟨_, rfl, .inl rfl⟩, ⟨⟨_, rfl, .inl rfl⟩, ⟨⟨_, rfl, .inl rfl⟩, ⟨⟨_, rfl, .inl rfl⟩, trivial⟩⟩⟩⟩⟩⟩⟩⟩, ⟨⟨_, rfl, rfl⟩, trivial⟩⟩ ?_
  · try dsimp only
    first | omega | (simp; done) | (simp_all; done) | (simp_all; omega)
  · skip
    intro i hx
    replace hx : (0 ≤ i ∧ i ≤ 2) ∧ (0 < i → mayE 4 u = 0) ∧ (1 < i → mayE 4 v = 0) := hx
    obtain ⟨h1, h2, h3⟩ := hx
    refine (show AW _ _ _ (⟨58, 1, [(0, .d (enc (u : (List Int)))), (1, .d (enc (v : (List Int)))), (4, .nil), (5, .d (.lit (.bool false))), (6, .d (.lit (.int .i64 0))), (14, .own 0), (15, .d (.lit (.int .i64 ((([u, v]).length : Int))))), (16, .d (.lit (.int .i64 i)))], [(0, some (Ent.arrOf 26 ([u, v] : List (List Int))))]⟩ : St) _ from ?_)
    refine AW.seq ?_
    refine AW.region [0] rfl ?_
    refine AO.split rfl rfl (gOn_none rfl) (RO.lss rfl rfl rfl) (fun t1 => ?_) (fun t1 => ?_)
    · skip
      refine AO.nil ?_
      refine AW.seq ?_
      refine AW.cond_t rfl ?_
      refine AW.skip ?_
      refine AW.seq ?_
      refine AW.block ?_
      refine AW.seq ?_
      refine AW.region [0, 0, 0] rfl ?_
      refine AO.ro rfl rfl (gOn_none rfl) (RO.idx_own rfl Try.underlying45 ti26 rfl rfl rfl (by omega)) ?_
      refine AO.ro rfl rfl (gOn_none rfl) (RO.ld_eptr rfl Try.underlying26 rfl rfl rfl rfl (by omega) (fun _ => rfl)) ?_
      refine AO.ro rfl rfl (gOn_none rfl) (RO.assign rfl rfl) ?_
      refine AO.nil ?_
      refine AW.seq ?_
      refine AW.region [0, 2, 0] rfl ?_
      refine AO.ro rfl rfl (gOn_none rfl) (RO.move rfl rfl) ?_
      refine AO.call0 («as» := [.d (.lit (.int .i64 4)), .d (enc (ix ([u, v]) i : (List Int)))]) (gOn_none rfl) rfl rfl rfl rfl Try.call52 ⟨⟨_, rfl, rfl⟩, ⟨_, rfl, rfl⟩, rfl⟩ (may_ok 4 (ix ([u, v]) i)) ?_
      rintro _ _ ⟨y2, rfl, rfl, c2⟩
      refine ⟨[], 1, .d (.lit (.int .i64 y2)), [], rfl, trivial, rfl, ?_⟩
      refine AO.ro rfl rfl (gOn_none rfl) (RO.assign rfl rfl) ?_
      refine AO.nil ?_
      refine AW.seq ?_
      refine AW.region [0, 0] rfl ?_
      refine AO.ro rfl rfl (gOn_none rfl) (RO.move rfl rfl) ?_
      refine AO.splitn rfl rfl (gOn_none rfl) (RO.neq rfl rfl rfl) (fun t3 => ?_) (fun t3 => ?_)
      · skip
        refine AO.nil ?_
        refine AW.cond_t rfl ?_
        refine AW.seq ?_
        refine AW.region [0, 0, 0, 0] rfl ?_
        refine AO.ro rfl rfl (gOn_none rfl) (RO.move rfl rfl) ?_
        refine AO.ro rfl rfl (gOn_none rfl) (RO.assign rfl rfl) ?_
        refine AO.ro rfl rfl (gOn_none rfl) (RO.assign rfl rfl) ?_
        refine AO.ro rfl rfl (gOn_none rfl) (RO.assign rfl rfl) ?_
        refine AO.nil ?_
        refine AW.ret ?_
        refine ⟨[], [.d (enc ([] : (List Int))), .d (.lit (.bool false)), .d (.lit (.int .i64 y2))], [], rfl, ⟨⟨_, rfl, .inr ⟨rfl, _, rfl⟩⟩, ⟨⟨_, rfl, .inl rfl⟩, ⟨⟨_, rfl, .inl rfl⟩, rfl⟩⟩⟩, trivial, ?_⟩
        refine ⟨([]), false, y2, rfl, rfl, ?_⟩
        refine ⟨?_, fun _ => ⟨rfl, rfl⟩, by omega⟩
        rcases (by omega : i = 0 ∨ i = 1) with rfl | rfl
        · split <;> simp_all
        · have := h2 (by omega); split <;> simp_all
      · skip
        refine AO.nil ?_
        refine AW.cond_f rfl ?_
        refine AW.skip ?_
        refine AW.region [0, 0] rfl ?_
        refine AO.ro rfl rfl (gOn_none rfl) (RO.add rfl rfl rfl (by omega)) ?_
        refine AO.ro rfl rfl (gOn_none rfl) (RO.move rfl rfl) ?_
        refine AO.nil ?_
        refine ⟨i + 1, [(0, some 0)], ?_, ?_, ⟨rfl, rfl, ⟨⟨_, rfl, .inl rfl⟩, ⟨⟨_, rfl, .inl rfl⟩, ⟨⟨_, rfl, .inl rfl⟩, ⟨⟨_, rfl, .inl rfl⟩, ⟨⟨_, rfl, .inl rfl⟩, ⟨⟨_, rfl, .inl rfl⟩, ⟨⟨_, rfl, .inl rfl⟩, ⟨⟨_, rfl, .inl rfl⟩, trivial⟩⟩⟩⟩⟩⟩⟩⟩, ⟨⟨_, rfl, rfl⟩, trivial⟩⟩⟩
        · try dsimp only
          have e : mayE 4 (ix [u, v] i) = 0 := by omega
          rcases (by omega : i = 0 ∨ i = 1) with rfl | rfl
          · exact ⟨by omega, fun _ => e, by omega⟩
          · exact ⟨by omega, fun _ => h2 (by omega), fun _ => e⟩
        · try dsimp only
          first | omega | (simp; done) | (simp_all; done) | (simp_all; omega)
    · skip
      refine AO.nil ?_
      refine AW.seq ?_
      refine AW.cond_f rfl ?_
      refine AW.exit ?_
      refine AW.seq ?_
      refine AW.seq ?_
      refine AW.region [0, 0, 0] rfl ?_
      refine AO.ro rfl rfl (gOn_none rfl) (RO.move rfl rfl) ?_
      refine AO.ro rfl rfl (gOn_none rfl) (RO.len rfl Try.underlying26 rfl) ?_
      refine AO.ro rfl rfl (gOn_none rfl) (RO.move rfl rfl) ?_
      refine AO.nil ?_
      refine AW.block ?_
      refine AW.loop (mp := [(1, none)]) (X := Int × List Int) (fun x => ⟨58, 2, [(0, .d (enc (u : (List Int)))), (4, .own 1), (5, .d (.lit (.bool false))), (6, .d (.lit (.int .i64 0))), (26, .d (enc (v : (List Int)))), (27, .d (.lit (.int .i64 ((v.length : Int))))), (28, .d (.lit (.int .i64 x.1)))], [(1, some (Ent.arrOf 3 (x.2 : List Int)))]⟩) (fun x => (0 ≤ x.1 ∧ x.1 ≤ v.length) ∧ (x.2.length ≤ u.length ∧ x.2.length ≤ x.1) ∧ (emb u v 0 = (emb (u.drop (x.2.length : Int).toNat) (v.drop x.1.toNat) x.1).map (x.2 ++ ·))) (fun x => (v.length - x.1).toNat) ((0, [])) ?_ ⟨rfl, rfl, ⟨⟨_, rfl, .inl rfl⟩, ⟨⟨_, rfl, .inl rfl⟩, ⟨⟨_, rfl, .inl rfl⟩, ⟨⟨_, rfl, .inl rfl⟩, ⟨⟨_, rfl, .inl rfl⟩, ⟨⟨_, rfl, .inl rfl⟩, ⟨⟨_, rfl, .inl rfl⟩, trivial⟩⟩⟩⟩⟩⟩⟩, ⟨⟨_, _, _, rfl, by decide⟩, trivial⟩⟩ ?_
      · try dsimp only
        exact ⟨by omega, by simp, emb_start⟩
      · skip
        intro x hx
        obtain ⟨k, p⟩ := x
        replace hx : (0 ≤ k ∧ k ≤ v.length) ∧ (p.length ≤ u.length ∧ p.length ≤ k) ∧ (emb u v 0 = (emb (u.drop (p.length : Int).toNat) (v.drop k.toNat) k).map (p ++ ·)) := hx
        obtain ⟨g1, g2, g3⟩ := hx
        refine (show AW _ _ _ (⟨58, 2, [(0, .d (enc (u : (List Int)))), (4, .own 1), (5, .d (.lit (.bool false))), (6, .d (.lit (.int .i64 0))), (26, .d (enc (v : (List Int)))), (27, .d (.lit (.int .i64 ((v.length : Int))))), (28, .d (.lit (.int .i64 k)))], [(1, some (Ent.arrOf 3 (p : List Int)))]⟩ : St) _ from ?_)
        refine AW.seq ?_
        refine AW.region [0] rfl ?_
        refine AO.split rfl rfl (gOn_none rfl) (RO.lss rfl rfl rfl) (fun t4 => ?_) (fun t4 => ?_)
        · skip
          refine AO.nil ?_
          refine AW.seq ?_
          refine AW.cond_t rfl ?_
          refine AW.skip ?_
          refine AW.seq ?_
          refine AW.block ?_
          refine AW.seq ?_
          refine AW.region [0, 0, 0, 0, 0] rfl ?_
          refine AO.ro rfl rfl (gOn_none rfl) (RO.move rfl rfl) ?_
          refine AO.ro rfl rfl (gOn_none rfl) (RO.idx rfl Try.underlying26 ti3 rfl rfl (by omega)) ?_
          refine AO.ro rfl rfl (gOn_none rfl) (RO.ld_addr rfl Try.underlying3 rfl rfl rfl) ?_
          refine AO.ro rfl rfl (gOn_none rfl) (RO.assign rfl rfl) ?_
          refine AO.ro rfl rfl (gOn_none rfl) (RO.assign rfl rfl) ?_
          refine AO.nil ?_
          refine AW.seq ?_
          refine AW.region [0, 0, 0, 0, 0, 0, 0, 0, 0, 0, 0, 0, 0, 0] rfl ?_
          refine AO.ro rfl rfl (gOn_none rfl) (RO.move rfl rfl) ?_
          refine AO.ro rfl rfl (gOn_none rfl) (RO.len_own rfl Try.underlying26 rfl rfl) ?_
          refine AO.ro rfl rfl (gOn_none rfl) (RO.move rfl rfl) ?_
          refine AO.ro rfl rfl (gOn_none rfl) (RO.len rfl Try.underlying26 rfl) ?_
          refine AO.split rfl rfl (gOn_none rfl) (RO.lss rfl rfl rfl) (fun t5 => ?_) (fun t5 => ?_)
          · skip
            refine AO.ro rfl rfl (gOn_none rfl) (RO.move rfl rfl) ?_
            refine AO.ro rfl rfl ⟨38, true, rfl, rfl, rfl⟩ (RO.move rfl rfl) ?_
            refine AO.ro rfl rfl ⟨38, true, rfl, rfl, rfl⟩ (RO.move rfl rfl) ?_
            refine AO.ro rfl rfl ⟨38, true, rfl, rfl, rfl⟩ (RO.len_own rfl Try.underlying26 rfl rfl) ?_
            refine AO.ro rfl rfl ⟨38, true, rfl, rfl, rfl⟩ (RO.idx rfl Try.underlying26 ti3 rfl rfl (by omega)) ?_
            refine AO.ro rfl rfl ⟨38, true, rfl, rfl, rfl⟩ (RO.ld_addr rfl Try.underlying3 rfl rfl rfl) ?_
            refine AO.ro rfl rfl ⟨38, true, rfl, rfl, rfl⟩ (RO.move rfl rfl) ?_
            refine AO.split rfl rfl ⟨38, true, rfl, rfl, rfl⟩ (RO.eql rfl rfl rfl) (fun t6 => ?_) (fun t6 => ?_)
            · skip
              refine AO.ro rfl rfl (gOn_none rfl) (RO.pick_t rfl rfl rfl) ?_
              refine AO.nil ?_
              refine AW.cond_t rfl ?_
              refine AW.region [0, 0, 1, 2, 0] rfl ?_
              refine AO.ro rfl rfl (gOn_none rfl) (RO.move rfl rfl) ?_
              refine AO.ro rfl rfl (gOn_none rfl) (RO.move rfl rfl) ?_
              refine AO.al1 (gOn_none rfl) (AL.lits (α := Int) (ys := [k]) 2 rfl (by kernel_rfl) rfl rfl rfl Try.underlying26 ti3 rfl ⟨rfl, rfl, rfl⟩ rfl (fun _ => rfl) rfl (by kernel_rfl) (by kernel_rfl)) ?_
              refine AO.ef1 (gOn_none rfl) (EF.append (α := Int) (ys := ([k] : List Int)) default 3 rfl (by kernel_rfl) rfl rfl rfl Try.underlying26 ti3 rfl rfl rfl (by decide) zr3 rfl rfl (.inr (.inl ⟨_, _, rfl, rfl⟩)) (by simp only [List.length_append, List.length_cons, List.length_nil]; omega) (by simp only [List.length_append, List.length_cons, List.length_nil]; omega)) ?_
              refine AO.ro rfl rfl (gOn_none rfl) (RO.assign rfl rfl) ?_
              refine AO.nil ?_
              refine AW.region [0, 0] rfl ?_
              refine AO.ro rfl rfl (gOn_none rfl) (RO.add rfl rfl rfl (by omega)) ?_
              refine AO.ro rfl rfl (gOn_none rfl) (RO.move rfl rfl) ?_
              refine AO.nil ?_
              refine ⟨(k + 1, p ++ ([k])), [(1, some 3)], ?_, ?_, ⟨rfl, rfl, ⟨⟨_, rfl, .inl rfl⟩, ⟨⟨_, rfl, .inl rfl⟩, ⟨⟨_, rfl, .inl rfl⟩, ⟨⟨_, rfl, .inl rfl⟩, ⟨⟨_, rfl, .inl rfl⟩, ⟨⟨_, rfl, .inl rfl⟩, ⟨⟨_, rfl, .inl rfl⟩, trivial⟩⟩⟩⟩⟩⟩⟩, ⟨⟨_, rfl, rfl⟩, trivial⟩⟩⟩
              · try dsimp only
                have hp : ((p ++ [k]).length : Int) = p.length + 1 := by simp
                first
                | exact ⟨by omega, by omega, by rw [g3, emb_hit (by omega) (by omega) (by omega) (by omega) (by omega), emb_add, hp]⟩
                | exact ⟨by omega, by omega, by rw [g3, emb_miss (by omega) (by omega) (by omega) (by omega) (by omega)]⟩
                | exact ⟨by omega, by omega, by rw [g3, emb_all (by omega), emb_all (by omega)]⟩
              · try dsimp only
                first | omega | (simp; done) | (simp_all; done) | (simp_all; omega)
            · skip
              refine AO.ro rfl rfl (gOn_none rfl) (RO.pick_t rfl rfl rfl) ?_
              refine AO.nil ?_
              refine AW.cond_f rfl ?_
              refine AW.skip ?_
              refine AW.region [0, 0] rfl ?_
              refine AO.ro rfl rfl (gOn_none rfl) (RO.add rfl rfl rfl (by omega)) ?_
              refine AO.ro rfl rfl (gOn_none rfl) (RO.move rfl rfl) ?_
              refine AO.nil ?_
              refine ⟨(k + 1, p), [(1, some 1)], ?_, ?_, ⟨rfl, rfl, ⟨⟨_, rfl, .inl rfl⟩, ⟨⟨_, rfl, .inl rfl⟩, ⟨⟨_, rfl, .inl rfl⟩, ⟨⟨_, rfl, .inl rfl⟩, ⟨⟨_, rfl, .inl rfl⟩, ⟨⟨_, rfl, .inl rfl⟩, ⟨⟨_, rfl, .inl rfl⟩, trivial⟩⟩⟩⟩⟩⟩⟩, ⟨⟨_, rfl, rfl⟩, trivial⟩⟩⟩
              · try dsimp only
                have hp : ((p ++ [k]).length : Int) = p.length + 1 := by simp
                first
                | exact ⟨by omega, by omega, by rw [g3, emb_hit (by omega) (by omega) (by omega) (by omega) (by omega), emb_add, hp]⟩
                | exact ⟨by omega, by omega, by rw [g3, emb_miss (by omega) (by omega) (by omega) (by omega) (by omega)]⟩
                | exact ⟨by omega, by omega, by rw [g3, emb_all (by omega), emb_all (by omega)]⟩
              · try dsimp only
                first | omega | (simp; done) | (simp_all; done) | (simp_all; omega)
          · skip
            refine AO.ro rfl rfl (gOn_none rfl) (RO.move rfl rfl) ?_
            refine AO.skip rfl rfl ⟨38, false, rfl, rfl, rfl⟩ ?_
            refine AO.skip rfl rfl ⟨38, false, rfl, rfl, rfl⟩ ?_
            refine AO.skip rfl rfl ⟨38, false, rfl, rfl, rfl⟩ ?_
            refine AO.skip rfl rfl ⟨38, false, rfl, rfl, rfl⟩ ?_
            refine AO.skip rfl rfl ⟨38, false, rfl, rfl, rfl⟩ ?_
            refine AO.skip rfl rfl ⟨38, false, rfl, rfl, rfl⟩ ?_
            refine AO.skip rfl rfl ⟨38, false, rfl, rfl, rfl⟩ ?_
            refine AO.ro rfl rfl (gOn_none rfl) (RO.pick_f rfl rfl rfl) ?_
            refine AO.nil ?_
            refine AW.cond_f rfl ?_
            refine AW.skip ?_
            refine AW.region [0, 0] rfl ?_
            refine AO.ro rfl rfl (gOn_none rfl) (RO.add rfl rfl rfl (by omega)) ?_
            refine AO.ro rfl rfl (gOn_none rfl) (RO.move rfl rfl) ?_
            refine AO.nil ?_
            refine ⟨(k + 1, p), [(1, some 1)], ?_, ?_, ⟨rfl, rfl, ⟨⟨_, rfl, .inl rfl⟩, ⟨⟨_, rfl, .inl rfl⟩, ⟨⟨_, rfl, .inl rfl⟩, ⟨⟨_, rfl, .inl rfl⟩, ⟨⟨_, rfl, .inl rfl⟩, ⟨⟨_, rfl, .inl rfl⟩, ⟨⟨_, rfl, .inl rfl⟩, trivial⟩⟩⟩⟩⟩⟩⟩, ⟨⟨_, rfl, rfl⟩, trivial⟩⟩⟩
            · try dsimp only
              have hp : ((p ++ [k]).length : Int) = p.length + 1 := by simp
              first
              | exact ⟨by omega, by omega, by rw [g3, emb_hit (by omega) (by omega) (by omega) (by omega) (by omega), emb_add, hp]⟩
              | exact ⟨by omega, by omega, by rw [g3, emb_miss (by omega) (by omega) (by omega) (by omega) (by omega)]⟩
              | exact ⟨by omega, by omega, by rw [g3, emb_all (by omega), emb_all (by omega)]⟩
            · try dsimp only
              first | omega | (simp; done) | (simp_all; done) | (simp_all; omega)
        · skip
          refine AO.nil ?_
          refine AW.seq ?_
          refine AW.cond_f rfl ?_
          refine AW.exit ?_
          refine AW.seq ?_
          refine AW.seq ?_
          refine AW.region [0, 0, 0, 0, 0] rfl ?_
          refine AO.ro rfl rfl (gOn_none rfl) (RO.move rfl rfl) ?_
          refine AO.ro rfl rfl (gOn_none rfl) (RO.len_own rfl Try.underlying26 rfl rfl) ?_
          refine AO.ro rfl rfl (gOn_none rfl) (RO.move rfl rfl) ?_
          refine AO.ro rfl rfl (gOn_none rfl) (RO.len rfl Try.underlying26 rfl) ?_
          refine AO.split rfl rfl (gOn_none rfl) (RO.lss rfl rfl rfl) (fun t7 => ?_) (fun t7 => ?_)
          · skip
            refine AO.nil ?_
            refine AW.cond_t rfl ?_
            refine AW.seq ?_
            refine AW.region [0, 0, 0] rfl ?_
            refine AO.ro rfl rfl (gOn_none rfl) (RO.assign rfl rfl) ?_
            refine AO.ro rfl rfl (gOn_none rfl) (RO.assign rfl rfl) ?_
            refine AO.ro rfl rfl (gOn_none rfl) (RO.assign rfl rfl) ?_
            refine AO.nil ?_
            refine AW.ret ?_
            refine ⟨[], [.d (enc ([] : (List Int))), .d (.lit (.bool false)), .d (.lit (.int .i64 0))], [], rfl, ⟨⟨_, rfl, .inr ⟨rfl, _, rfl⟩⟩, ⟨⟨_, rfl, .inl rfl⟩, ⟨⟨_, rfl, .inl rfl⟩, rfl⟩⟩⟩, trivial, ?_⟩
            refine ⟨([]), false, 0, rfl, rfl, ?_⟩
            rw [emb_none (by omega) (by omega) (by omega)] at g3
            rw [g3, h2 (by omega), h3 (by omega)]; simp
          · skip
            refine AO.nil ?_
            refine AW.cond_f rfl ?_
            refine AW.skip ?_
            refine AW.seq ?_
            refine AW.region [0, 0, 0, 0] rfl ?_
            refine AO.ro rfl rfl (gOn_none rfl) (RO.move rfl rfl) ?_
            refine AO.ro rfl rfl (gOn_none rfl) (RO.assign rfl rfl) ?_
            refine AO.ro rfl rfl (gOn_none rfl) (RO.assign rfl rfl) ?_
            refine AO.ro rfl rfl (gOn_none rfl) (RO.assign rfl rfl) ?_
            refine AO.nil ?_
            refine AW.freeze 4 1 rfl rfl ?_
            refine AW.ret ?_
            refine ⟨[], [.d (enc (p : (List Int))), .d (.lit (.bool true)), .d (.lit (.int .i64 0))], [], rfl, ⟨⟨_, rfl, .inl rfl⟩, ⟨⟨_, rfl, .inl rfl⟩, ⟨⟨_, rfl, .inl rfl⟩, rfl⟩⟩⟩, trivial, ?_⟩
            refine ⟨p, true, 0, rfl, rfl, ?_⟩
            rw [emb_all (by omega)] at g3
            rw [g3, h2 (by omega), h3 (by omega)]; simp

theorem law_ok  (u : (List Int)) (v : (List Int)) : Fc Try.prog 4 [.d (enc (u : (List Int))), .d (enc (v : (List Int)))] [] (fun r h => ∃ (y : Bool), r = .d (.lit (.bool y)) ∧ h = [] ∧ (y = true)) := by
  refine Fc.of_body Try.func4 rfl Try.ntmps4 (by simp) (fun F => ?_)
  refine (show AW _ _ _ (⟨58, 0, [(0, .d (enc (u : (List Int)))), (1, .d (enc (v : (List Int))))], []⟩ : St) _ from ?_)
  refine AW.fact 0 rfl (fun ln_u => ?_)
  replace ln_u : u.length * 8 ≤ 140737488355328 := ln_u
  refine AW.fact 1 rfl (fun ln_v => ?_)
  replace ln_v : v.length * 8 ≤ 140737488355328 := ln_v
  refine AW.seq ?_
  refine AW.region [0] rfl ?_
  refine AO.ro rfl rfl (gOn_none rfl) (RO.assign rfl rfl) ?_
  refine AO.nil ?_
  refine AW.seq ?_
  refine AW.region [0, 0, 2, 0, 0, 0, 0, 0, 0, 0] rfl ?_
  refine AO.ro rfl rfl (gOn_none rfl) (RO.move rfl rfl) ?_
  refine AO.ro rfl rfl (gOn_none rfl) (RO.move rfl rfl) ?_
  refine AO.call0 («as» := [.d (enc (u : (List Int))), .d (enc (v : (List Int)))]) (gOn_none rfl) rfl rfl rfl rfl Try.call17 ⟨⟨_, rfl, rfl⟩, ⟨_, rfl, rfl⟩, rfl⟩ (stands_ok u v) ?_
  rintro _ _ ⟨l1, b1, e1, rfl, rfl, c1⟩
  refine ⟨[], 0, .tup [.d (enc (l1 : (List Int))), .d (.lit (.bool b1)), .d (.lit (.int .i64 e1))], [], rfl, trivial, rfl, ?_⟩
  refine AO.ro rfl rfl (gOn_none rfl) (RO.move rfl rfl) ?_
  refine AO.ro rfl rfl (gOn_none rfl) (RO.extract rfl rfl rfl) ?_
  refine AO.ro rfl rfl (gOn_none rfl) (RO.extract rfl rfl rfl) ?_
  refine AO.ro rfl rfl (gOn_none rfl) (RO.extract rfl rfl rfl) ?_
  refine AO.ro rfl rfl (gOn_none rfl) (RO.assign rfl rfl) ?_
  refine AO.ro rfl rfl (gOn_none rfl) (RO.assign rfl rfl) ?_
  refine AO.ro rfl rfl (gOn_none rfl) (RO.assign rfl rfl) ?_
  refine AO.nil ?_
  refine AW.seq ?_
  refine AW.region [0, 2, 0] rfl ?_
  refine AO.ro rfl rfl (gOn_none rfl) (RO.move rfl rfl) ?_
  refine AO.call0 («as» := [.d (.lit (.int .i64 4)), .d (enc (u : (List Int)))]) (gOn_none rfl) rfl rfl rfl rfl Try.call18 ⟨⟨_, rfl, rfl⟩, ⟨_, rfl, rfl⟩, rfl⟩ (may1_ok 4 u) ?_
  rintro _ _ ⟨y2, rfl, rfl, c2⟩
  refine ⟨[], 0, .d (.lit (.int .i64 y2)), [], rfl, trivial, rfl, ?_⟩
  refine AO.ro rfl rfl (gOn_none rfl) (RO.assign rfl rfl) ?_
  refine AO.nil ?_
  refine AW.seq ?_
  refine AW.seq ?_
  refine AW.region [0, 0] rfl ?_
  refine AO.ro rfl rfl (gOn_none rfl) (RO.move rfl rfl) ?_
  refine AO.split rfl rfl (gOn_none rfl) (RO.eql rfl rfl rfl) (fun t3 => ?_) (fun t3 => ?_)
  · skip
    refine AO.nil ?_
    refine AW.cond_t rfl ?_
    refine AW.region [0, 2, 0] rfl ?_
    refine AO.ro rfl rfl (gOn_none rfl) (RO.move rfl rfl) ?_
    refine AO.call0 («as» := [.d (.lit (.int .i64 4)), .d (enc (v : (List Int)))]) (gOn_none rfl) rfl rfl rfl rfl Try.call18 ⟨⟨_, rfl, rfl⟩, ⟨_, rfl, rfl⟩, rfl⟩ (may1_ok 4 v) ?_
    rintro _ _ ⟨y4, rfl, rfl, c4⟩
    refine ⟨[], 0, .d (.lit (.int .i64 y4)), [], rfl, trivial, rfl, ?_⟩
    refine AO.ro rfl rfl (gOn_none rfl) (RO.assign rfl rfl) ?_
    refine AO.nil ?_
    refine AW.seq ?_
    refine AW.seq ?_
    refine AW.region [0, 0] rfl ?_
    refine AO.ro rfl rfl (gOn_none rfl) (RO.move rfl rfl) ?_
    refine AO.splitn rfl rfl (gOn_none rfl) (RO.neq rfl rfl rfl) (fun t5 => ?_) (fun t5 => ?_)
    · skip
      refine AO.nil ?_
      refine AW.cond_t rfl ?_
      refine AW.seq ?_
      refine AW.region [0, 0, 0, 0, 0, 0, 0, 0, 0, 0, 0, 0, 0] rfl ?_
      refine AO.ro rfl rfl (gOn_none rfl) (RO.move rfl rfl) ?_
      refine AO.ro rfl rfl (gOn_none rfl) (RO.move rfl rfl) ?_
      refine AO.split rfl rfl (gOn_none rfl) (RO.eql rfl rfl rfl) (fun t6 => ?_) (fun t6 => ?_)
      · skip
        refine AO.ro rfl rfl (gOn_none rfl) (RO.move rfl rfl) ?_
        refine AO.ro rfl rfl ⟨30, true, rfl, rfl, rfl⟩ (RO.move rfl rfl) ?_
        refine AO.caseb 31 rfl (fun b7 => ?_) (fun b7 => ?_)
        · skip
          refine AO.ro rfl rfl ⟨30, true, rfl, rfl, rfl⟩ (RO.not rfl rfl) ?_
          refine AO.ro rfl rfl (gOn_none rfl) (RO.pick_t rfl rfl rfl) ?_
          refine AO.ro rfl rfl (gOn_none rfl) (RO.move rfl rfl) ?_
          refine AO.skip rfl rfl ⟨34, false, rfl, rfl, rfl⟩ ?_
          refine AO.skip rfl rfl ⟨34, false, rfl, rfl, rfl⟩ ?_
          refine AO.skip rfl rfl ⟨34, false, rfl, rfl, rfl⟩ ?_
          refine AO.ro rfl rfl (gOn_none rfl) (RO.pick_f rfl rfl rfl) ?_
          refine AO.ro rfl rfl (gOn_none rfl) (RO.assign rfl rfl) ?_
          refine AO.nil ?_
          refine AW.ret ?_
          refine ⟨[], [.d (.lit (.bool false))], [], rfl, ⟨⟨_, rfl, .inl rfl⟩, rfl⟩, trivial, ?_⟩
          refine ⟨false, rfl, rfl, ?_⟩
          have e0 : ∀ {l : List Int}, (l.length : Int) = 0 ↔ l = [] := by intro l; cases l <;> simp; omega
          simp only [e0] at *
          repeat' split at *
          all_goals simp_all
        · skip
          refine AO.ro rfl rfl ⟨30, true, rfl, rfl, rfl⟩ (RO.not rfl rfl) ?_
          refine AO.ro rfl rfl (gOn_none rfl) (RO.pick_t rfl rfl rfl) ?_
          refine AO.ro rfl rfl (gOn_none rfl) (RO.move rfl rfl) ?_
          refine AO.ro rfl rfl ⟨34, true, rfl, rfl, rfl⟩ (RO.move rfl rfl) ?_
          refine AO.fact 35 rfl (fun ln8 => ?_)
          replace ln8 : l1.length * 8 ≤ 140737488355328 := ln8
          refine AO.ro rfl rfl ⟨34, true, rfl, rfl, rfl⟩ (RO.len rfl Try.underlying26 rfl) ?_
          refine AO.split rfl rfl ⟨34, true, rfl, rfl, rfl⟩ (RO.eql rfl rfl rfl) (fun t9 => ?_) (fun t9 => ?_)
          · skip
            refine AO.ro rfl rfl (gOn_none rfl) (RO.pick_t rfl rfl rfl) ?_
            refine AO.ro rfl rfl (gOn_none rfl) (RO.assign rfl rfl) ?_
            refine AO.nil ?_
            refine AW.ret ?_
            refine ⟨[], [.d (.lit (.bool true))], [], rfl, ⟨⟨_, rfl, .inl rfl⟩, rfl⟩, trivial, ?_⟩
            refine ⟨true, rfl, rfl, ?_⟩
            have e0 : ∀ {l : List Int}, (l.length : Int) = 0 ↔ l = [] := by intro l; cases l <;> simp; omega
            simp only [e0] at *
            repeat' split at *
            all_goals simp_all
          · skip
            refine AO.ro rfl rfl (gOn_none rfl) (RO.pick_t rfl rfl rfl) ?_
            refine AO.ro rfl rfl (gOn_none rfl) (RO.assign rfl rfl) ?_
            refine AO.nil ?_
            refine AW.ret ?_
            refine ⟨[], [.d (.lit (.bool false))], [], rfl, ⟨⟨_, rfl, .inl rfl⟩, rfl⟩, trivial, ?_⟩
            refine ⟨false, rfl, rfl, ?_⟩
            have e0 : ∀ {l : List Int}, (l.length : Int) = 0 ↔ l = [] := by intro l; cases l <;> simp; omega
            simp only [e0] at *
            repeat' split at *
            all_goals simp_all
      · skip
        refine AO.ro rfl rfl (gOn_none rfl) (RO.move rfl rfl) ?_
        refine AO.skip rfl rfl ⟨30, false, rfl, rfl, rfl⟩ ?_
        refine AO.skip rfl rfl ⟨30, false, rfl, rfl, rfl⟩ ?_
        refine AO.ro rfl rfl (gOn_none rfl) (RO.pick_f rfl rfl rfl) ?_
        refine AO.ro rfl rfl (gOn_none rfl) (RO.move rfl rfl) ?_
        refine AO.skip rfl rfl ⟨34, false, rfl, rfl, rfl⟩ ?_
        refine AO.skip rfl rfl ⟨34, false, rfl, rfl, rfl⟩ ?_
        refine AO.skip rfl rfl ⟨34, false, rfl, rfl, rfl⟩ ?_
        refine AO.ro rfl rfl (gOn_none rfl) (RO.pick_f rfl rfl rfl) ?_
        refine AO.ro rfl rfl (gOn_none rfl) (RO.assign rfl rfl) ?_
        refine AO.nil ?_
        refine AW.ret ?_
        refine ⟨[], [.d (.lit (.bool false))], [], rfl, ⟨⟨_, rfl, .inl rfl⟩, rfl⟩, trivial, ?_⟩
        refine ⟨false, rfl, rfl, ?_⟩
        have e0 : ∀ {l : List Int}, (l.length : Int) = 0 ↔ l = [] := by intro l; cases l <;> simp; omega
        simp only [e0] at *
        repeat' split at *
        all_goals simp_all
    · skip
      refine AO.nil ?_
      refine AW.cond_f rfl ?_
      refine AW.skip ?_
      refine AW.seq ?_
      refine AW.region [0, 0, 2, 0, 0, 0, 0, 0] rfl ?_
      refine AO.ro rfl rfl (gOn_none rfl) (RO.move rfl rfl) ?_
      refine AO.ro rfl rfl (gOn_none rfl) (RO.move rfl rfl) ?_
      refine AO.call0 («as» := [.d (enc (u : (List Int))), .d (enc (v : (List Int)))]) (gOn_none rfl) rfl rfl rfl rfl Try.call19 ⟨⟨_, rfl, rfl⟩, ⟨_, rfl, rfl⟩, rfl⟩ (within_ok u v) ?_
      rintro _ _ ⟨l10, b10, rfl, rfl, c10⟩
      refine ⟨[], 0, .tup [.d (enc (l10 : (List Int))), .d (.lit (.bool b10))], [], rfl, trivial, rfl, ?_⟩
      refine AO.ro rfl rfl (gOn_none rfl) (RO.move rfl rfl) ?_
      refine AO.ro rfl rfl (gOn_none rfl) (RO.extract rfl rfl rfl) ?_
      refine AO.ro rfl rfl (gOn_none rfl) (RO.extract rfl rfl rfl) ?_
      refine AO.ro rfl rfl (gOn_none rfl) (RO.assign rfl rfl) ?_
      refine AO.ro rfl rfl (gOn_none rfl) (RO.assign rfl rfl) ?_
      refine AO.nil ?_
      refine AW.seq ?_
      refine AW.region [0, 0, 2, 0] rfl ?_
      refine AO.ro rfl rfl (gOn_none rfl) (RO.move rfl rfl) ?_
      refine AO.ro rfl rfl (gOn_none rfl) (RO.move rfl rfl) ?_
      refine AO.call0 («as» := [.d (enc (l1 : (List Int))), .d (enc (l10 : (List Int)))]) (gOn_none rfl) rfl rfl rfl rfl Try.call16 ⟨⟨_, rfl, rfl⟩, ⟨_, rfl, rfl⟩, rfl⟩ (words_ok l1 l10) ?_
      rintro _ _ ⟨y11, rfl, rfl, c11⟩
      refine ⟨[], 0, .d (.lit (.bool y11)), [], rfl, trivial, rfl, ?_⟩
      refine AO.ro rfl rfl (gOn_none rfl) (RO.assign rfl rfl) ?_
      refine AO.nil ?_
      refine AW.seq ?_
      refine AW.region [0, 0, 0, 0, 0, 0, 0, 0, 0, 0, 0] rfl ?_
      refine AO.ro rfl rfl (gOn_none rfl) (RO.move rfl rfl) ?_
      refine AO.split rfl rfl (gOn_none rfl) (RO.eql rfl rfl rfl) (fun t12 => ?_) (fun t12 => ?_)
      · skip
        refine AO.ro rfl rfl (gOn_none rfl) (RO.move rfl rfl) ?_
        refine AO.ro rfl rfl ⟨50, true, rfl, rfl, rfl⟩ (RO.move rfl rfl) ?_
        refine AO.ro rfl rfl ⟨50, true, rfl, rfl, rfl⟩ (RO.move rfl rfl) ?_
        refine AO.split rfl rfl ⟨50, true, rfl, rfl, rfl⟩ (RO.eqlb rfl Try.underlying4 rfl rfl) (fun t13 => ?_) (fun t13 => ?_)
        · skip
          refine AO.ro rfl rfl (gOn_none rfl) (RO.pick_t rfl rfl rfl) ?_
          refine AO.ro rfl rfl (gOn_none rfl) (RO.move rfl rfl) ?_
          refine AO.ro rfl rfl ⟨55, true, rfl, rfl, rfl⟩ (RO.move rfl rfl) ?_
          refine AO.ro rfl rfl (gOn_none rfl) (RO.pick_t rfl rfl rfl) ?_
          refine AO.ro rfl rfl (gOn_none rfl) (RO.assign rfl rfl) ?_
          refine AO.nil ?_
          refine AW.ret ?_
          refine ⟨[], [.d (.lit (.bool y11))], [], rfl, ⟨⟨_, rfl, .inl rfl⟩, rfl⟩, trivial, ?_⟩
          refine ⟨y11, rfl, rfl, ?_⟩
          have e0 : ∀ {l : List Int}, (l.length : Int) = 0 ↔ l = [] := by intro l; cases l <;> simp; omega
          simp only [e0] at *
          repeat' split at *
          all_goals simp_all
        · skip
          refine AO.ro rfl rfl (gOn_none rfl) (RO.pick_t rfl rfl rfl) ?_
          refine AO.ro rfl rfl (gOn_none rfl) (RO.move rfl rfl) ?_
          refine AO.skip rfl rfl ⟨55, false, rfl, rfl, rfl⟩ ?_
          refine AO.ro rfl rfl (gOn_none rfl) (RO.pick_f rfl rfl rfl) ?_
          refine AO.ro rfl rfl (gOn_none rfl) (RO.assign rfl rfl) ?_
          refine AO.nil ?_
          refine AW.ret ?_
          refine ⟨[], [.d (.lit (.bool false))], [], rfl, ⟨⟨_, rfl, .inl rfl⟩, rfl⟩, trivial, ?_⟩
          refine ⟨false, rfl, rfl, ?_⟩
          have e0 : ∀ {l : List Int}, (l.length : Int) = 0 ↔ l = [] := by intro l; cases l <;> simp; omega
          simp only [e0] at *
          repeat' split at *
          all_goals simp_all
      · skip
        refine AO.ro rfl rfl (gOn_none rfl) (RO.move rfl rfl) ?_
        refine AO.skip rfl rfl ⟨50, false, rfl, rfl, rfl⟩ ?_
        refine AO.skip rfl rfl ⟨50, false, rfl, rfl, rfl⟩ ?_
        refine AO.skip rfl rfl ⟨50, false, rfl, rfl, rfl⟩ ?_
        refine AO.ro rfl rfl (gOn_none rfl) (RO.pick_f rfl rfl rfl) ?_
        refine AO.ro rfl rfl (gOn_none rfl) (RO.move rfl rfl) ?_
        refine AO.skip rfl rfl ⟨55, false, rfl, rfl, rfl⟩ ?_
        refine AO.ro rfl rfl (gOn_none rfl) (RO.pick_f rfl rfl rfl) ?_
        refine AO.ro rfl rfl (gOn_none rfl) (RO.assign rfl rfl) ?_
        refine AO.nil ?_
        refine AW.ret ?_
        refine ⟨[], [.d (.lit (.bool false))], [], rfl, ⟨⟨_, rfl, .inl rfl⟩, rfl⟩, trivial, ?_⟩
        refine ⟨false, rfl, rfl, ?_⟩
        have e0 : ∀ {l : List Int}, (l.length : Int) = 0 ↔ l = [] := by intro l; cases l <;> simp; omega
        simp only [e0] at *
        repeat' split at *
        all_goals simp_all
  · skip
    refine AO.nil ?_
    refine AW.cond_f rfl ?_
    refine AW.skip ?_
    refine AW.seq ?_
    refine AW.seq ?_
    refine AW.region [0, 0] rfl ?_
    refine AO.ro rfl rfl (gOn_none rfl) (RO.move rfl rfl) ?_
    refine AO.splitn rfl rfl (gOn_none rfl) (RO.neq rfl rfl rfl) (fun t14 => ?_) (fun t14 => ?_)
    · skip
      refine AO.nil ?_
      refine AW.cond_t rfl ?_
      refine AW.seq ?_
      refine AW.region [0, 0, 0, 0, 0, 0, 0, 0, 0, 0, 0, 0, 0] rfl ?_
      refine AO.ro rfl rfl (gOn_none rfl) (RO.move rfl rfl) ?_
      refine AO.ro rfl rfl (gOn_none rfl) (RO.move rfl rfl) ?_
      refine AO.split rfl rfl (gOn_none rfl) (RO.eql rfl rfl rfl) (fun t15 => ?_) (fun t15 => ?_)
      · skip
        refine AO.ro rfl rfl (gOn_none rfl) (RO.move rfl rfl) ?_
        refine AO.ro rfl rfl ⟨30, true, rfl, rfl, rfl⟩ (RO.move rfl rfl) ?_
        refine AO.caseb 31 rfl (fun b16 => ?_) (fun b16 => ?_)
        · skip
          refine AO.ro rfl rfl ⟨30, true, rfl, rfl, rfl⟩ (RO.not rfl rfl) ?_
          refine AO.ro rfl rfl (gOn_none rfl) (RO.pick_t rfl rfl rfl) ?_
          refine AO.ro rfl rfl (gOn_none rfl) (RO.move rfl rfl) ?_
          refine AO.skip rfl rfl ⟨34, false, rfl, rfl, rfl⟩ ?_
          refine AO.skip rfl rfl ⟨34, false, rfl, rfl, rfl⟩ ?_
          refine AO.skip rfl rfl ⟨34, false, rfl, rfl, rfl⟩ ?_
          refine AO.ro rfl rfl (gOn_none rfl) (RO.pick_f rfl rfl rfl) ?_
          refine AO.ro rfl rfl (gOn_none rfl) (RO.assign rfl rfl) ?_
          refine AO.nil ?_
          refine AW.ret ?_
          refine ⟨[], [.d (.lit (.bool false))], [], rfl, ⟨⟨_, rfl, .inl rfl⟩, rfl⟩, trivial, ?_⟩
          refine ⟨false, rfl, rfl, ?_⟩
          have e0 : ∀ {l : List Int}, (l.length : Int) = 0 ↔ l = [] := by intro l; cases l <;> simp; omega
          simp only [e0] at *
          repeat' split at *
          all_goals simp_all
        · skip
          refine AO.ro rfl rfl ⟨30, true, rfl, rfl, rfl⟩ (RO.not rfl rfl) ?_
          refine AO.ro rfl rfl (gOn_none rfl) (RO.pick_t rfl rfl rfl) ?_
          refine AO.ro rfl rfl (gOn_none rfl) (RO.move rfl rfl) ?_
          refine AO.ro rfl rfl ⟨34, true, rfl, rfl, rfl⟩ (RO.move rfl rfl) ?_
          refine AO.fact 35 rfl (fun ln17 => ?_)
          replace ln17 : l1.length * 8 ≤ 140737488355328 := ln17
          refine AO.ro rfl rfl ⟨34, true, rfl, rfl, rfl⟩ (RO.len rfl Try.underlying26 rfl) ?_
          refine AO.split rfl rfl ⟨34, true, rfl, rfl, rfl⟩ (RO.eql rfl rfl rfl) (fun t18 => ?_) (fun t18 => ?_)
          · skip
            refine AO.ro rfl rfl (gOn_none rfl) (RO.pick_t rfl rfl rfl) ?_
            refine AO.ro rfl rfl (gOn_none rfl) (RO.assign rfl rfl) ?_
            refine AO.nil ?_
            refine AW.ret ?_
            refine ⟨[], [.d (.lit (.bool true))], [], rfl, ⟨⟨_, rfl, .inl rfl⟩, rfl⟩, trivial, ?_⟩
            refine ⟨true, rfl, rfl, ?_⟩
            have e0 : ∀ {l : List Int}, (l.length : Int) = 0 ↔ l = [] := by intro l; cases l <;> simp; omega
            simp only [e0] at *
            repeat' split at *
            all_goals simp_all
          · skip
            refine AO.ro rfl rfl (gOn_none rfl) (RO.pick_t rfl rfl rfl) ?_
            refine AO.ro rfl rfl (gOn_none rfl) (RO.assign rfl rfl) ?_
            refine AO.nil ?_
            refine AW.ret ?_
            refine ⟨[], [.d (.lit (.bool false))], [], rfl, ⟨⟨_, rfl, .inl rfl⟩, rfl⟩, trivial, ?_⟩
            refine ⟨false, rfl, rfl, ?_⟩
            have e0 : ∀ {l : List Int}, (l.length : Int) = 0 ↔ l = [] := by intro l; cases l <;> simp; omega
            simp only [e0] at *
            repeat' split at *
            all_goals simp_all
      · skip
        refine AO.ro rfl rfl (gOn_none rfl) (RO.move rfl rfl) ?_
        refine AO.skip rfl rfl ⟨30, false, rfl, rfl, rfl⟩ ?_
        refine AO.skip rfl rfl ⟨30, false, rfl, rfl, rfl⟩ ?_
        refine AO.ro rfl rfl (gOn_none rfl) (RO.pick_f rfl rfl rfl) ?_
        refine AO.ro rfl rfl (gOn_none rfl) (RO.move rfl rfl) ?_
        refine AO.skip rfl rfl ⟨34, false, rfl, rfl, rfl⟩ ?_
        refine AO.skip rfl rfl ⟨34, false, rfl, rfl, rfl⟩ ?_
        refine AO.skip rfl rfl ⟨34, false, rfl, rfl, rfl⟩ ?_
        refine AO.ro rfl rfl (gOn_none rfl) (RO.pick_f rfl rfl rfl) ?_
        refine AO.ro rfl rfl (gOn_none rfl) (RO.assign rfl rfl) ?_
        refine AO.nil ?_
        refine AW.ret ?_
        refine ⟨[], [.d (.lit (.bool false))], [], rfl, ⟨⟨_, rfl, .inl rfl⟩, rfl⟩, trivial, ?_⟩
        refine ⟨false, rfl, rfl, ?_⟩
        have e0 : ∀ {l : List Int}, (l.length : Int) = 0 ↔ l = [] := by intro l; cases l <;> simp; omega
        simp only [e0] at *
        repeat' split at *
        all_goals simp_all
    · skip
      refine AO.nil ?_
      refine AW.cond_f rfl ?_
      refine AW.skip ?_
      refine AW.seq ?_
      refine AW.region [0, 0, 2, 0, 0, 0, 0, 0] rfl ?_
      refine AO.ro rfl rfl (gOn_none rfl) (RO.move rfl rfl) ?_
      refine AO.ro rfl rfl (gOn_none rfl) (RO.move rfl rfl) ?_
      refine AO.call0 («as» := [.d (enc (u : (List Int))), .d (enc (v : (List Int)))]) (gOn_none rfl) rfl rfl rfl rfl Try.call19 ⟨⟨_, rfl, rfl⟩, ⟨_, rfl, rfl⟩, rfl⟩ (within_ok u v) ?_
      rintro _ _ ⟨l19, b19, rfl, rfl, c19⟩
      refine ⟨[], 0, .tup [.d (enc (l19 : (List Int))), .d (.lit (.bool b19))], [], rfl, trivial, rfl, ?_⟩
      refine AO.ro rfl rfl (gOn_none rfl) (RO.move rfl rfl) ?_
      refine AO.ro rfl rfl (gOn_none rfl) (RO.extract rfl rfl rfl) ?_
      refine AO.ro rfl rfl (gOn_none rfl) (RO.extract rfl rfl rfl) ?_
      refine AO.ro rfl rfl (gOn_none rfl) (RO.assign rfl rfl) ?_
      refine AO.ro rfl rfl (gOn_none rfl) (RO.assign rfl rfl) ?_
      refine AO.nil ?_
      refine AW.seq ?_
      refine AW.region [0, 0, 2, 0] rfl ?_
      refine AO.ro rfl rfl (gOn_none rfl) (RO.move rfl rfl) ?_
      refine AO.ro rfl rfl (gOn_none rfl) (RO.move rfl rfl) ?_
      refine AO.call0 («as» := [.d (enc (l1 : (List Int))), .d (enc (l19 : (List Int)))]) (gOn_none rfl) rfl rfl rfl rfl Try.call16 ⟨⟨_, rfl, rfl⟩, ⟨_, rfl, rfl⟩, rfl⟩ (words_ok l1 l19) ?_
      rintro _ _ ⟨y20, rfl, rfl, c20⟩
      refine ⟨[], 0, .d (.lit (.bool y20)), [], rfl, trivial, rfl, ?_⟩
      refine AO.ro rfl rfl (gOn_none rfl) (RO.assign rfl rfl) ?_
      refine AO.nil ?_
      refine AW.seq ?_
      refine AW.region [0, 0, 0, 0, 0, 0, 0, 0, 0, 0, 0] rfl ?_
      refine AO.ro rfl rfl (gOn_none rfl) (RO.move rfl rfl) ?_
      refine AO.split rfl rfl (gOn_none rfl) (RO.eql rfl rfl rfl) (fun t21 => ?_) (fun t21 => ?_)
      · skip
        refine AO.ro rfl rfl (gOn_none rfl) (RO.move rfl rfl) ?_
        refine AO.ro rfl rfl ⟨50, true, rfl, rfl, rfl⟩ (RO.move rfl rfl) ?_
        refine AO.ro rfl rfl ⟨50, true, rfl, rfl, rfl⟩ (RO.move rfl rfl) ?_
        refine AO.split rfl rfl ⟨50, true, rfl, rfl, rfl⟩ (RO.eqlb rfl Try.underlying4 rfl rfl) (fun t22 => ?_) (fun t22 => ?_)
        · skip
          refine AO.ro rfl rfl (gOn_none rfl) (RO.pick_t rfl rfl rfl) ?_
          refine AO.ro rfl rfl (gOn_none rfl) (RO.move rfl rfl) ?_
          refine AO.ro rfl rfl ⟨55, true, rfl, rfl, rfl⟩ (RO.move rfl rfl) ?_
          refine AO.ro rfl rfl (gOn_none rfl) (RO.pick_t rfl rfl rfl) ?_
          refine AO.ro rfl rfl (gOn_none rfl) (RO.assign rfl rfl) ?_
          refine AO.nil ?_
          refine AW.ret ?_
          refine ⟨[], [.d (.lit (.bool y20))], [], rfl, ⟨⟨_, rfl, .inl rfl⟩, rfl⟩, trivial, ?_⟩
          refine ⟨y20, rfl, rfl, ?_⟩
          have e0 : ∀ {l : List Int}, (l.length : Int) = 0 ↔ l = [] := by intro l; cases l <;> simp; omega
          simp only [e0] at *
          repeat' split at *
          all_goals simp_all
        · skip
          refine AO.ro rfl rfl (gOn_none rfl) (RO.pick_t rfl rfl rfl) ?_
          refine AO.ro rfl rfl (gOn_none rfl) (RO.move rfl rfl) ?_
          refine AO.skip rfl rfl ⟨55, false, rfl, rfl, rfl⟩ ?_
          refine AO.ro rfl rfl (gOn_none rfl) (RO.pick_f rfl rfl rfl) ?_
          refine AO.ro rfl rfl (gOn_none rfl) (RO.assign rfl rfl) ?_
          refine AO.nil ?_
          refine AW.ret ?_
          refine ⟨[], [.d (.lit (.bool false))], [], rfl, ⟨⟨_, rfl, .inl rfl⟩, rfl⟩, trivial, ?_⟩
          refine ⟨false, rfl, rfl, ?_⟩
          have e0 : ∀ {l : List Int}, (l.length : Int) = 0 ↔ l = [] := by intro l; cases l <;> simp; omega
          simp only [e0] at *
          repeat' split at *
          all_goals simp_all
      · skip
        refine AO.ro rfl rfl (gOn_none rfl) (RO.move rfl rfl) ?_
        refine AO.skip rfl rfl ⟨50, false, rfl, rfl, rfl⟩ ?_
        refine AO.skip rfl rfl ⟨50, false, rfl, rfl, rfl⟩ ?_
        refine AO.skip rfl rfl ⟨50, false, rfl, rfl, rfl⟩ ?_
        refine AO.ro rfl rfl (gOn_none rfl) (RO.pick_f rfl rfl rfl) ?_
        refine AO.ro rfl rfl (gOn_none rfl) (RO.move rfl rfl) ?_
        refine AO.skip rfl rfl ⟨55, false, rfl, rfl, rfl⟩ ?_
        refine AO.ro rfl rfl (gOn_none rfl) (RO.pick_f rfl rfl rfl) ?_
        refine AO.ro rfl rfl (gOn_none rfl) (RO.assign rfl rfl) ?_
        refine AO.nil ?_
        refine AW.ret ?_
        refine ⟨[], [.d (.lit (.bool false))], [], rfl, ⟨⟨_, rfl, .inl rfl⟩, rfl⟩, trivial, ?_⟩
        refine ⟨false, rfl, rfl, ?_⟩
        have e0 : ∀ {l : List Int}, (l.length : Int) = 0 ↔ l = [] := by intro l; cases l <;> simp; omega
        simp only [e0] at *
        repeat' split at *
        all_goals simp_all

end Go.Proofs
