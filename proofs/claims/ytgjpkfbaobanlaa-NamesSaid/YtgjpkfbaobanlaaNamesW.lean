/- The walks of the functions that 'Names' reaches: what each of them computes. No condition. -/
import Derived.Test.YtgjpkfbaobanlaaAb3n15
import Derived.Test.YtgjpkfbaobanlaaProg
import Derived.KernelRfl
set_option maxHeartbeats 1000000
set_option maxRecDepth 20000
set_option linter.unusedSimpArgs false
set_option linter.unusedVariables false
namespace Go.Proofs.Ytgjpkfbaobanlaa
open Go Go.Ab
open Enc (enc)
theorem ti3 : TI Try.prog 3 false 1 8 (.int .i64 0) := TI.of Try.underlying3 rfl (by kernel_rfl)
theorem ti9 : TI Try.prog 9 false 1 16 (.string ⟨#[]⟩) := TI.of Try.underlying9 rfl (by kernel_rfl)
theorem ti22 : TI Try.prog 22 false 1 8 (.int .i64 0) := TI.of Try.underlying22 rfl (by kernel_rfl)

/-- May these be a word's letters? (the number of the error) -/
def mayE (letters : Int) (w : List Int) : Int :=
  if letters < 1 ∨ 4 < letters then 2 else if (60 : Int) < w.length then 1 else if ∀ x ∈ w, 0 ≤ x ∧ x < letters then 0 else 2
theorem mayE_range {letters : Int} {w : List Int} (h : letters < 1 ∨ 4 < letters) : mayE letters w = 2 := by unfold mayE; rw [if_pos h]
theorem mayE_size {letters : Int} {w : List Int} (h : 1 ≤ letters ∧ letters ≤ 4) (h2 : (60 : Int) < w.length) : mayE letters w = 1 := by unfold mayE; rw [if_neg (by omega), if_pos h2]
theorem mayE_bad {letters i : Int} {w : List Int} (h : 1 ≤ letters ∧ letters ≤ 4) (h2 : w.length ≤ (60 : Int)) (h0 : 0 ≤ i ∧ i < w.length) (hx : ¬ (0 ≤ ix w i ∧ ix w i < letters)) : mayE letters w = 2 := by
  unfold mayE; rw [if_neg (by omega), if_neg (by omega), if_neg]; intro hh; exact hx (hh _ (ix_mem h0.1 h0.2))
theorem mayE_ok {letters : Int} {w : List Int} (h : 1 ≤ letters ∧ letters ≤ 4) (h2 : w.length ≤ (60 : Int)) (hx : ∀ j : Int, 0 ≤ j → j < w.length → 0 ≤ ix w j ∧ ix w j < letters) : mayE letters w = 0 := by
  unfold mayE; rw [if_neg (by omega), if_neg (by omega), if_pos]; exact forall_ix.2 hx
theorem mayE_zero {letters : Int} {w : List Int} (h : mayE letters w = 0) : (1 ≤ letters ∧ letters ≤ 4) ∧ w.length ≤ (60 : Int) ∧ ∀ x ∈ w, 0 ≤ x ∧ x < letters := by
  unfold mayE at h
  split at h
  · omega
  · split at h
    · omega
    · split at h
      · rename_i h3; exact ⟨by omega, by omega, h3⟩
      · omega
theorem words_ok (u : (List Int)) (v : (List Int)) : Fc Try.prog 16 [.d (enc (u : (List Int))), .d (enc (v : (List Int)))] [] (fun r h => ∃ (y : Bool), r = .d (.lit (.bool y)) ∧ h = [] ∧ (y = decide (u = v))) := by
  refine Fc.of_body Try.func16 rfl Try.ntmps16 (by simp) (fun F => ?_)
  refine (show AW _ _ _ (⟨26, 0, [(0, .d (enc (u : (List Int)))), (1, .d (enc (v : (List Int))))], []⟩ : St) _ from ?_)
  refine AW.fact 0 rfl (fun ln_u => ?_)
  replace ln_u : u.length * 8 ≤ 140737488355328 := ln_u
  refine AW.fact 1 rfl (fun ln_v => ?_)
  replace ln_v : v.length * 8 ≤ 140737488355328 := ln_v
  refine AW.seq ?_
  refine AW.region [0] rfl ?_
  refine AO.ro rfl rfl (gOn_none rfl) (RO.assign rfl rfl) ?_
  refine AO.nil ?_
  refine AW.seq ?_
  refine AW.seq ?_
  refine AW.region [0, 0, 0, 0, 0] rfl ?_
  refine AO.ro rfl rfl (gOn_none rfl) (RO.move rfl rfl) ?_
  refine AO.ro rfl rfl (gOn_none rfl) (RO.len rfl Try.underlying26 rfl) ?_
  refine AO.ro rfl rfl (gOn_none rfl) (RO.move rfl rfl) ?_
  refine AO.ro rfl rfl (gOn_none rfl) (RO.len rfl Try.underlying26 rfl) ?_
  refine AO.splitn rfl rfl (gOn_none rfl) (RO.neq rfl rfl rfl) (fun t1 => ?_) (fun t1 => ?_)
  · skip
    refine AO.nil ?_
    refine AW.cond_t rfl ?_
    refine AW.seq ?_
    refine AW.region [0] rfl ?_
    refine AO.ro rfl rfl (gOn_none rfl) (RO.assign rfl rfl) ?_
    refine AO.nil ?_
    refine AW.ret ?_
    refine ⟨[], [.d (.lit (.bool false))], [], rfl, ⟨⟨_, rfl, .inl rfl⟩, rfl⟩, trivial, ?_⟩
    refine ⟨false, rfl, rfl, ?_⟩
    rw [eq_comm, decide_eq_false_iff_not]; rintro rfl; contradiction
  · skip
    refine AO.nil ?_
    refine AW.cond_f rfl ?_
    refine AW.skip ?_
    refine AW.seq ?_
    refine AW.seq ?_
    refine AW.region [0] rfl ?_
    refine AO.ro rfl rfl (gOn_none rfl) (RO.assign rfl rfl) ?_
    refine AO.nil ?_
    refine AW.block ?_
    refine AW.loop (mp := []) (X := Int) (fun xv => ⟨26, 0, [(0, .d (enc (u : (List Int)))), (1, .d (enc (v : (List Int)))), (4, .d (.lit (.bool false))), (5, .d (.lit (.int .i64 xv)))], []⟩) (fun xv => (0 ≤ xv ∧ xv ≤ u.length) ∧ (u.length = v.length) ∧ (∀ j : Int, 0 ≤ j → j < xv → ix u j = ix v j)) (fun xv => (u.length - xv).toNat) 0 ?_ ⟨rfl, rfl, ⟨⟨_, rfl, .inl rfl⟩, ⟨⟨_, rfl, .inl rfl⟩, ⟨⟨_, rfl, .inl rfl⟩, ⟨⟨_, rfl, .inl rfl⟩, trivial⟩⟩⟩⟩, trivial⟩ ?_
    · try dsimp only
      exact ⟨by omega, by omega, fun j a b => by omega⟩
    · skip
      intro i hx
      replace hx : (0 ≤ i ∧ i ≤ u.length) ∧ (u.length = v.length) ∧ (∀ j : Int, 0 ≤ j → j < i → ix u j = ix v j) := hx
      obtain ⟨h1, h2, h3⟩ := hx
      refine (show AW _ _ _ (⟨26, 0, [(0, .d (enc (u : (List Int)))), (1, .d (enc (v : (List Int)))), (4, .d (.lit (.bool false))), (5, .d (.lit (.int .i64 i)))], []⟩ : St) _ from ?_)
      refine AW.seq ?_
      refine AW.seq ?_
      refine AW.region [0, 0, 0, 0] rfl ?_
      refine AO.ro rfl rfl (gOn_none rfl) (RO.move rfl rfl) ?_
      refine AO.ro rfl rfl (gOn_none rfl) (RO.move rfl rfl) ?_
      refine AO.ro rfl rfl (gOn_none rfl) (RO.len rfl Try.underlying26 rfl) ?_
      refine AO.split rfl rfl (gOn_none rfl) (RO.lss rfl rfl rfl) (fun t2 => ?_) (fun t2 => ?_)
      · skip
        refine AO.nil ?_
        refine AW.cond_t rfl ?_
        refine AW.skip ?_
        refine AW.seq ?_
        refine AW.block ?_
        refine AW.seq ?_
        refine AW.drawn [(0, 0), (0, 1), (0, 2), (0, 3), (0, 4), (0, 5), (0, 6), (0, 7), (0, 8)] (by kernel_rfl) (by kernel_rfl) ?_
        refine AO.ro rfl rfl (gOn_none rfl) (RO.move rfl rfl) ?_
        refine AO.ro rfl rfl (gOn_none rfl) (RO.move rfl rfl) ?_
        refine AO.ro rfl rfl (gOn_none rfl) (RO.idx rfl Try.underlying26 ti3 rfl rfl (by omega)) ?_
        refine AO.ro rfl rfl (gOn_none rfl) (RO.ld_addr rfl Try.underlying3 rfl rfl rfl) ?_
        refine AO.ro rfl rfl (gOn_none rfl) (RO.move rfl rfl) ?_
        refine AO.ro rfl rfl (gOn_none rfl) (RO.move rfl rfl) ?_
        refine AO.ro rfl rfl (gOn_none rfl) (RO.idx rfl Try.underlying26 ti3 rfl rfl (by omega)) ?_
        refine AO.ro rfl rfl (gOn_none rfl) (RO.ld_addr rfl Try.underlying3 rfl rfl rfl) ?_
        refine AO.splitn rfl rfl (gOn_none rfl) (RO.neq rfl rfl rfl) (fun t3 => ?_) (fun t3 => ?_)
        · skip
          refine AO.nil ?_
          refine AW.cond_t rfl ?_
          refine AW.seq ?_
          refine AW.region [0] rfl ?_
          refine AO.ro rfl rfl (gOn_none rfl) (RO.assign rfl rfl) ?_
          refine AO.nil ?_
          refine AW.ret ?_
          refine ⟨[], [.d (.lit (.bool false))], [], rfl, ⟨⟨_, rfl, .inl rfl⟩, rfl⟩, trivial, ?_⟩
          refine ⟨false, rfl, rfl, ?_⟩
          rw [eq_comm, decide_eq_false_iff_not]; rintro rfl; contradiction
        · skip
          refine AO.nil ?_
          refine AW.cond_f rfl ?_
          refine AW.skip ?_
          refine AW.region [0, 0, 0] rfl ?_
          refine AO.ro rfl rfl (gOn_none rfl) (RO.move rfl rfl) ?_
          refine AO.ro rfl rfl (gOn_none rfl) (RO.add rfl rfl rfl (by omega)) ?_
          refine AO.ro rfl rfl (gOn_none rfl) (RO.assign rfl rfl) ?_
          refine AO.nil ?_
          refine ⟨i + 1, [], ?_, ?_, ⟨rfl, rfl, ⟨⟨_, rfl, .inl rfl⟩, ⟨⟨_, rfl, .inl rfl⟩, ⟨⟨_, rfl, .inl rfl⟩, ⟨⟨_, rfl, .inl rfl⟩, trivial⟩⟩⟩⟩, trivial⟩⟩
          · try dsimp only
            exact ⟨by omega, h2, below_succ h3 (by assumption)⟩
          · try dsimp only
            first | omega | (simp; done) | (simp_all; done) | (simp_all; omega)
      · skip
        refine AO.nil ?_
        refine AW.cond_f rfl ?_
        refine AW.exit ?_
        refine AW.seq ?_
        refine AW.region [0] rfl ?_
        refine AO.ro rfl rfl (gOn_none rfl) (RO.assign rfl rfl) ?_
        refine AO.nil ?_
        refine AW.ret ?_
        refine ⟨[], [.d (.lit (.bool true))], [], rfl, ⟨⟨_, rfl, .inl rfl⟩, rfl⟩, trivial, ?_⟩
        refine ⟨true, rfl, rfl, ?_⟩
        rw [eq_comm, decide_eq_true_iff]; exact ix_ext h2 (fun j a b => h3 j a (by omega))

theorem may1_ok (letters : Int) (w : (List Int)) : Fc Try.prog 18 [.d (.lit (.int .i64 letters)), .d (enc (w : (List Int)))] [] (fun r h => ∃ (y : Int), r = .d (.lit (.int .i64 y)) ∧ h = [] ∧ (y = mayE letters w)) := by
  refine Fc.of_body Try.func18 rfl Try.ntmps18 (by simp) (fun F => ?_)
  refine (show AW _ _ _ (⟨34, 0, [(0, .d (.lit (.int .i64 letters))), (1, .d (enc (w : (List Int))))], []⟩ : St) _ from ?_)
  refine AW.fact 1 rfl (fun ln_w => ?_)
  replace ln_w : w.length * 8 ≤ 140737488355328 := ln_w
  refine AW.seq ?_
  refine AW.region [0] rfl ?_
  refine AO.ro rfl rfl (gOn_none rfl) (RO.assign rfl rfl) ?_
  refine AO.nil ?_
  refine AW.seq ?_
  refine AW.seq ?_
  refine AW.region [0, 0, 0, 0, 0, 0] rfl ?_
  refine AO.ro rfl rfl (gOn_none rfl) (RO.move rfl rfl) ?_
  refine AO.split rfl rfl (gOn_none rfl) (RO.lss rfl rfl rfl) (fun t1 => ?_) (fun t1 => ?_)
  · skip
    refine AO.ro rfl rfl (gOn_none rfl) (RO.move rfl rfl) ?_
    refine AO.skip rfl rfl ⟨8, true, rfl, rfl, rfl⟩ ?_
    refine AO.skip rfl rfl ⟨8, true, rfl, rfl, rfl⟩ ?_
    refine AO.ro rfl rfl (gOn_none rfl) (RO.pick_t rfl rfl rfl) ?_
    refine AO.nil ?_
    refine AW.cond_t rfl ?_
    refine AW.seq ?_
    refine AW.region [0] rfl ?_
    refine AO.ro rfl rfl (gOn_none rfl) (RO.assign rfl rfl) ?_
    refine AO.nil ?_
    refine AW.ret ?_
    refine ⟨[], [.d (.lit (.int .i64 2))], [], rfl, ⟨⟨_, rfl, .inl rfl⟩, rfl⟩, trivial, ?_⟩
    refine ⟨2, rfl, rfl, ?_⟩
    exact (mayE_range (by omega)).symm
  · skip
    refine AO.ro rfl rfl (gOn_none rfl) (RO.move rfl rfl) ?_
    refine AO.ro rfl rfl ⟨8, false, rfl, rfl, rfl⟩ (RO.move rfl rfl) ?_
    refine AO.split rfl rfl ⟨8, false, rfl, rfl, rfl⟩ (RO.gtr rfl rfl rfl) (fun t2 => ?_) (fun t2 => ?_)
    · skip
      refine AO.ro rfl rfl (gOn_none rfl) (RO.pick_f rfl rfl rfl) ?_
      refine AO.nil ?_
      refine AW.cond_t rfl ?_
      refine AW.seq ?_
      refine AW.region [0] rfl ?_
      refine AO.ro rfl rfl (gOn_none rfl) (RO.assign rfl rfl) ?_
      refine AO.nil ?_
      refine AW.ret ?_
      refine ⟨[], [.d (.lit (.int .i64 2))], [], rfl, ⟨⟨_, rfl, .inl rfl⟩, rfl⟩, trivial, ?_⟩
      refine ⟨2, rfl, rfl, ?_⟩
      exact (mayE_range (by omega)).symm
    · skip
      refine AO.ro rfl rfl (gOn_none rfl) (RO.pick_f rfl rfl rfl) ?_
      refine AO.nil ?_
      refine AW.cond_f rfl ?_
      refine AW.skip ?_
      refine AW.seq ?_
      refine AW.seq ?_
      refine AW.region [0, 0, 0] rfl ?_
      refine AO.ro rfl rfl (gOn_none rfl) (RO.move rfl rfl) ?_
      refine AO.ro rfl rfl (gOn_none rfl) (RO.len rfl Try.underlying26 rfl) ?_
      refine AO.split rfl rfl (gOn_none rfl) (RO.gtr rfl rfl rfl) (fun t3 => ?_) (fun t3 => ?_)
      · skip
        refine AO.nil ?_
        refine AW.cond_t rfl ?_
        refine AW.seq ?_
        refine AW.region [0] rfl ?_
        refine AO.ro rfl rfl (gOn_none rfl) (RO.assign rfl rfl) ?_
        refine AO.nil ?_
        refine AW.ret ?_
        refine ⟨[], [.d (.lit (.int .i64 1))], [], rfl, ⟨⟨_, rfl, .inl rfl⟩, rfl⟩, trivial, ?_⟩
        refine ⟨1, rfl, rfl, ?_⟩
        exact (mayE_size (by omega) (by omega)).symm
      · skip
        refine AO.nil ?_
        refine AW.cond_f rfl ?_
        refine AW.skip ?_
        refine AW.seq ?_
        refine AW.seq ?_
        refine AW.region [0] rfl ?_
        refine AO.ro rfl rfl (gOn_none rfl) (RO.assign rfl rfl) ?_
        refine AO.nil ?_
        refine AW.block ?_
        refine AW.loop (mp := []) (X := Int) (fun xv => ⟨34, 0, [(0, .d (.lit (.int .i64 letters))), (1, .d (enc (w : (List Int)))), (4, .d (.lit (.int .i64 0))), (5, .d (.lit (.int .i64 xv)))], []⟩) (fun xv => (0 ≤ xv ∧ xv ≤ w.length) ∧ (∀ j : Int, 0 ≤ j → j < xv → 0 ≤ ix w j ∧ ix w j < letters)) (fun xv => (w.length - xv).toNat) 0 ?_ ⟨rfl, rfl, ⟨⟨_, rfl, .inl rfl⟩, ⟨⟨_, rfl, .inl rfl⟩, ⟨⟨_, rfl, .inl rfl⟩, ⟨⟨_, rfl, .inl rfl⟩, trivial⟩⟩⟩⟩, trivial⟩ ?_
        · try dsimp only
          exact ⟨by omega, fun j a b => by omega⟩
        · skip
          intro i hx
          replace hx : (0 ≤ i ∧ i ≤ w.length) ∧ (∀ j : Int, 0 ≤ j → j < i → 0 ≤ ix w j ∧ ix w j < letters) := hx
          obtain ⟨h1, h2⟩ := hx
          refine (show AW _ _ _ (⟨34, 0, [(0, .d (.lit (.int .i64 letters))), (1, .d (enc (w : (List Int)))), (4, .d (.lit (.int .i64 0))), (5, .d (.lit (.int .i64 i)))], []⟩ : St) _ from ?_)
          refine AW.seq ?_
          refine AW.seq ?_
          refine AW.region [0, 0, 0, 0] rfl ?_
          refine AO.ro rfl rfl (gOn_none rfl) (RO.move rfl rfl) ?_
          refine AO.ro rfl rfl (gOn_none rfl) (RO.move rfl rfl) ?_
          refine AO.ro rfl rfl (gOn_none rfl) (RO.len rfl Try.underlying26 rfl) ?_
          refine AO.split rfl rfl (gOn_none rfl) (RO.lss rfl rfl rfl) (fun t4 => ?_) (fun t4 => ?_)
          · skip
            refine AO.nil ?_
            refine AW.cond_t rfl ?_
            refine AW.skip ?_
            refine AW.seq ?_
            refine AW.block ?_
            refine AW.seq ?_
            refine AW.region [0, 0, 0, 0, 0, 0, 0, 0, 0, 0, 0, 0, 0] rfl ?_
            refine AO.ro rfl rfl (gOn_none rfl) (RO.move rfl rfl) ?_
            refine AO.ro rfl rfl (gOn_none rfl) (RO.move rfl rfl) ?_
            refine AO.ro rfl rfl (gOn_none rfl) (RO.idx rfl Try.underlying26 ti3 rfl rfl (by omega)) ?_
            refine AO.ro rfl rfl (gOn_none rfl) (RO.ld_addr rfl Try.underlying3 rfl rfl rfl) ?_
            refine AO.split rfl rfl (gOn_none rfl) (RO.lss rfl rfl rfl) (fun t5 => ?_) (fun t5 => ?_)
            · skip
              refine AO.ro rfl rfl (gOn_none rfl) (RO.move rfl rfl) ?_
              refine AO.skip rfl rfl ⟨26, true, rfl, rfl, rfl⟩ ?_
              refine AO.skip rfl rfl ⟨26, true, rfl, rfl, rfl⟩ ?_
              refine AO.skip rfl rfl ⟨26, true, rfl, rfl, rfl⟩ ?_
              refine AO.skip rfl rfl ⟨26, true, rfl, rfl, rfl⟩ ?_
              refine AO.skip rfl rfl ⟨26, true, rfl, rfl, rfl⟩ ?_
              refine AO.skip rfl rfl ⟨26, true, rfl, rfl, rfl⟩ ?_
              refine AO.ro rfl rfl (gOn_none rfl) (RO.pick_t rfl rfl rfl) ?_
              refine AO.nil ?_
              refine AW.cond_t rfl ?_
              refine AW.seq ?_
              refine AW.region [0] rfl ?_
              refine AO.ro rfl rfl (gOn_none rfl) (RO.assign rfl rfl) ?_
              refine AO.nil ?_
              refine AW.ret ?_
              refine ⟨[], [.d (.lit (.int .i64 2))], [], rfl, ⟨⟨_, rfl, .inl rfl⟩, rfl⟩, trivial, ?_⟩
              refine ⟨2, rfl, rfl, ?_⟩
              exact (mayE_bad (by omega) (by omega) (i := i) (by omega) (by omega)).symm
            · skip
              refine AO.ro rfl rfl (gOn_none rfl) (RO.move rfl rfl) ?_
              refine AO.ro rfl rfl ⟨26, false, rfl, rfl, rfl⟩ (RO.move rfl rfl) ?_
              refine AO.ro rfl rfl ⟨26, false, rfl, rfl, rfl⟩ (RO.move rfl rfl) ?_
              refine AO.ro rfl rfl ⟨26, false, rfl, rfl, rfl⟩ (RO.idx rfl Try.underlying26 ti3 rfl rfl (by omega)) ?_
              refine AO.ro rfl rfl ⟨26, false, rfl, rfl, rfl⟩ (RO.ld_addr rfl Try.underlying3 rfl rfl rfl) ?_
              refine AO.ro rfl rfl ⟨26, false, rfl, rfl, rfl⟩ (RO.move rfl rfl) ?_
              refine AO.split rfl rfl ⟨26, false, rfl, rfl, rfl⟩ (RO.geq rfl rfl rfl) (fun t6 => ?_) (fun t6 => ?_)
              · skip
                refine AO.ro rfl rfl (gOn_none rfl) (RO.pick_f rfl rfl rfl) ?_
                refine AO.nil ?_
                refine AW.cond_t rfl ?_
                refine AW.seq ?_
                refine AW.region [0] rfl ?_
                refine AO.ro rfl rfl (gOn_none rfl) (RO.assign rfl rfl) ?_
                refine AO.nil ?_
                refine AW.ret ?_
                refine ⟨[], [.d (.lit (.int .i64 2))], [], rfl, ⟨⟨_, rfl, .inl rfl⟩, rfl⟩, trivial, ?_⟩
                refine ⟨2, rfl, rfl, ?_⟩
                exact (mayE_bad (by omega) (by omega) (i := i) (by omega) (by omega)).symm
              · skip
                refine AO.ro rfl rfl (gOn_none rfl) (RO.pick_f rfl rfl rfl) ?_
                refine AO.nil ?_
                refine AW.cond_f rfl ?_
                refine AW.skip ?_
                refine AW.region [0, 0, 0] rfl ?_
                refine AO.ro rfl rfl (gOn_none rfl) (RO.move rfl rfl) ?_
                refine AO.ro rfl rfl (gOn_none rfl) (RO.add rfl rfl rfl (by omega)) ?_
                refine AO.ro rfl rfl (gOn_none rfl) (RO.assign rfl rfl) ?_
                refine AO.nil ?_
                refine ⟨i + 1, [], ?_, ?_, ⟨rfl, rfl, ⟨⟨_, rfl, .inl rfl⟩, ⟨⟨_, rfl, .inl rfl⟩, ⟨⟨_, rfl, .inl rfl⟩, ⟨⟨_, rfl, .inl rfl⟩, trivial⟩⟩⟩⟩, trivial⟩⟩
                · try dsimp only
                  exact ⟨by omega, below_succ h2 (by omega)⟩
                · try dsimp only
                  first | omega | (simp; done) | (simp_all; done) | (simp_all; omega)
          · skip
            refine AO.nil ?_
            refine AW.cond_f rfl ?_
            refine AW.exit ?_
            refine AW.seq ?_
            refine AW.region [0] rfl ?_
            refine AO.ro rfl rfl (gOn_none rfl) (RO.assign rfl rfl) ?_
            refine AO.nil ?_
            refine AW.ret ?_
            refine ⟨[], [.d (.lit (.int .i64 0))], [], rfl, ⟨⟨_, rfl, .inl rfl⟩, rfl⟩, trivial, ?_⟩
            refine ⟨0, rfl, rfl, ?_⟩
            exact (mayE_ok (by omega) (by omega) (fun j a b => h2 j a (by omega))).symm

theorem may_ok (letters : Int) (w : (List Int)) : Fc Try.prog 52 [.d (.lit (.int .i64 letters)), .d (enc (w : (List Int)))] [] (fun r h => ∃ (y : Int), r = .d (.lit (.int .i64 y)) ∧ h = [] ∧ (y = mayE letters w)) := by
  refine Fc.of_body Try.func52 rfl Try.ntmps52 (by simp) (fun F => ?_)
  refine (show AW _ _ _ (⟨30, 0, [(0, .d (.lit (.int .i64 letters))), (1, .d (enc (w : (List Int))))], []⟩ : St) _ from ?_)
  refine AW.fact 1 rfl (fun ln_w => ?_)
  replace ln_w : w.length * 8 ≤ 140737488355328 := ln_w
  refine AW.seq ?_
  refine AW.region [0] rfl ?_
  refine AO.ro rfl rfl (gOn_none rfl) (RO.assign rfl rfl) ?_
  refine AO.nil ?_
  refine AW.seq ?_
  refine AW.seq ?_
  refine AW.region [0, 0, 0, 0, 0, 0] rfl ?_
  refine AO.ro rfl rfl (gOn_none rfl) (RO.move rfl rfl) ?_
  refine AO.split rfl rfl (gOn_none rfl) (RO.lss rfl rfl rfl) (fun t1 => ?_) (fun t1 => ?_)
  · skip
    refine AO.ro rfl rfl (gOn_none rfl) (RO.move rfl rfl) ?_
    refine AO.skip rfl rfl ⟨9, true, rfl, rfl, rfl⟩ ?_
    refine AO.skip rfl rfl ⟨9, true, rfl, rfl, rfl⟩ ?_
    refine AO.ro rfl rfl (gOn_none rfl) (RO.pick_t rfl rfl rfl) ?_
    refine AO.nil ?_
    refine AW.cond_t rfl ?_
    refine AW.seq ?_
    refine AW.region [0] rfl ?_
    refine AO.ro rfl rfl (gOn_none rfl) (RO.assign rfl rfl) ?_
    refine AO.nil ?_
    refine AW.ret ?_
    refine ⟨[], [.d (.lit (.int .i64 2))], [], rfl, ⟨⟨_, rfl, .inl rfl⟩, rfl⟩, trivial, ?_⟩
    refine ⟨2, rfl, rfl, ?_⟩
    exact (mayE_range (by omega)).symm
  · skip
    refine AO.ro rfl rfl (gOn_none rfl) (RO.move rfl rfl) ?_
    refine AO.ro rfl rfl ⟨9, false, rfl, rfl, rfl⟩ (RO.move rfl rfl) ?_
    refine AO.split rfl rfl ⟨9, false, rfl, rfl, rfl⟩ (RO.gtr rfl rfl rfl) (fun t2 => ?_) (fun t2 => ?_)
    · skip
      refine AO.ro rfl rfl (gOn_none rfl) (RO.pick_f rfl rfl rfl) ?_
      refine AO.nil ?_
      refine AW.cond_t rfl ?_
      refine AW.seq ?_
      refine AW.region [0] rfl ?_
      refine AO.ro rfl rfl (gOn_none rfl) (RO.assign rfl rfl) ?_
      refine AO.nil ?_
      refine AW.ret ?_
      refine ⟨[], [.d (.lit (.int .i64 2))], [], rfl, ⟨⟨_, rfl, .inl rfl⟩, rfl⟩, trivial, ?_⟩
      refine ⟨2, rfl, rfl, ?_⟩
      exact (mayE_range (by omega)).symm
    · skip
      refine AO.ro rfl rfl (gOn_none rfl) (RO.pick_f rfl rfl rfl) ?_
      refine AO.nil ?_
      refine AW.cond_f rfl ?_
      refine AW.skip ?_
      refine AW.seq ?_
      refine AW.seq ?_
      refine AW.region [0, 0, 0] rfl ?_
      refine AO.ro rfl rfl (gOn_none rfl) (RO.move rfl rfl) ?_
      refine AO.ro rfl rfl (gOn_none rfl) (RO.len rfl Try.underlying26 rfl) ?_
      refine AO.split rfl rfl (gOn_none rfl) (RO.gtr rfl rfl rfl) (fun t3 => ?_) (fun t3 => ?_)
      · skip
        refine AO.nil ?_
        refine AW.cond_t rfl ?_
        refine AW.seq ?_
        refine AW.region [0] rfl ?_
        refine AO.ro rfl rfl (gOn_none rfl) (RO.assign rfl rfl) ?_
        refine AO.nil ?_
        refine AW.ret ?_
        refine ⟨[], [.d (.lit (.int .i64 1))], [], rfl, ⟨⟨_, rfl, .inl rfl⟩, rfl⟩, trivial, ?_⟩
        refine ⟨1, rfl, rfl, ?_⟩
        exact (mayE_size (by omega) (by omega)).symm
      · skip
        refine AO.nil ?_
        refine AW.cond_f rfl ?_
        refine AW.skip ?_
        refine AW.seq ?_
        refine AW.seq ?_
        refine AW.region [0, 0, 0] rfl ?_
        refine AO.ro rfl rfl (gOn_none rfl) (RO.move rfl rfl) ?_
        refine AO.ro rfl rfl (gOn_none rfl) (RO.len rfl Try.underlying26 rfl) ?_
        refine AO.ro rfl rfl (gOn_none rfl) (RO.move rfl rfl) ?_
        refine AO.nil ?_
        refine AW.block ?_
        refine AW.loop (mp := []) (X := Int) (fun xv => ⟨30, 0, [(0, .d (.lit (.int .i64 letters))), (4, .d (.lit (.int .i64 0))), (16, .d (enc (w : (List Int)))), (17, .d (.lit (.int .i64 ((w.length : Int))))), (18, .d (.lit (.int .i64 xv)))], []⟩) (fun xv => (0 ≤ xv ∧ xv ≤ w.length) ∧ (∀ j : Int, 0 ≤ j → j < xv → 0 ≤ ix w j ∧ ix w j < letters)) (fun xv => (w.length - xv).toNat) 0 ?_ ⟨rfl, rfl, ⟨⟨_, rfl, .inl rfl⟩, ⟨⟨_, rfl, .inl rfl⟩, ⟨⟨_, rfl, .inl rfl⟩, ⟨⟨_, rfl, .inl rfl⟩, ⟨⟨_, rfl, .inl rfl⟩, trivial⟩⟩⟩⟩⟩, trivial⟩ ?_
        · try dsimp only
          exact ⟨by omega, fun j a b => by omega⟩
        · skip
          intro i hx
          replace hx : (0 ≤ i ∧ i ≤ w.length) ∧ (∀ j : Int, 0 ≤ j → j < i → 0 ≤ ix w j ∧ ix w j < letters) := hx
          obtain ⟨h1, h2⟩ := hx
          refine (show AW _ _ _ (⟨30, 0, [(0, .d (.lit (.int .i64 letters))), (4, .d (.lit (.int .i64 0))), (16, .d (enc (w : (List Int)))), (17, .d (.lit (.int .i64 ((w.length : Int))))), (18, .d (.lit (.int .i64 i)))], []⟩ : St) _ from ?_)
          refine AW.seq ?_
          refine AW.region [0] rfl ?_
          refine AO.split rfl rfl (gOn_none rfl) (RO.lss rfl rfl rfl) (fun t4 => ?_) (fun t4 => ?_)
          · skip
            refine AO.nil ?_
            refine AW.seq ?_
            refine AW.cond_t rfl ?_
            refine AW.skip ?_
            refine AW.seq ?_
            refine AW.block ?_
            refine AW.seq ?_
            refine AW.region [0, 0, 0] rfl ?_
            refine AO.ro rfl rfl (gOn_none rfl) (RO.idx rfl Try.underlying26 ti3 rfl rfl (by omega)) ?_
            refine AO.ro rfl rfl (gOn_none rfl) (RO.ld_addr rfl Try.underlying3 rfl rfl rfl) ?_
            refine AO.ro rfl rfl (gOn_none rfl) (RO.assign rfl rfl) ?_
            refine AO.nil ?_
            refine AW.seq ?_
            refine AW.region [0, 0, 0, 0, 0, 0, 0] rfl ?_
            refine AO.ro rfl rfl (gOn_none rfl) (RO.move rfl rfl) ?_
            refine AO.split rfl rfl (gOn_none rfl) (RO.lss rfl rfl rfl) (fun t5 => ?_) (fun t5 => ?_)
            · skip
              refine AO.ro rfl rfl (gOn_none rfl) (RO.move rfl rfl) ?_
              refine AO.skip rfl rfl ⟨24, true, rfl, rfl, rfl⟩ ?_
              refine AO.skip rfl rfl ⟨24, true, rfl, rfl, rfl⟩ ?_
              refine AO.skip rfl rfl ⟨24, true, rfl, rfl, rfl⟩ ?_
              refine AO.ro rfl rfl (gOn_none rfl) (RO.pick_t rfl rfl rfl) ?_
              refine AO.nil ?_
              refine AW.cond_t rfl ?_
              refine AW.seq ?_
              refine AW.region [0] rfl ?_
              refine AO.ro rfl rfl (gOn_none rfl) (RO.assign rfl rfl) ?_
              refine AO.nil ?_
              refine AW.ret ?_
              refine ⟨[], [.d (.lit (.int .i64 2))], [], rfl, ⟨⟨_, rfl, .inl rfl⟩, rfl⟩, trivial, ?_⟩
              refine ⟨2, rfl, rfl, ?_⟩
              exact (mayE_bad (by omega) (by omega) (i := i) (by omega) (by omega)).symm
            · skip
              refine AO.ro rfl rfl (gOn_none rfl) (RO.move rfl rfl) ?_
              refine AO.ro rfl rfl ⟨24, false, rfl, rfl, rfl⟩ (RO.move rfl rfl) ?_
              refine AO.ro rfl rfl ⟨24, false, rfl, rfl, rfl⟩ (RO.move rfl rfl) ?_
              refine AO.split rfl rfl ⟨24, false, rfl, rfl, rfl⟩ (RO.geq rfl rfl rfl) (fun t6 => ?_) (fun t6 => ?_)
              · skip
                refine AO.ro rfl rfl (gOn_none rfl) (RO.pick_f rfl rfl rfl) ?_
                refine AO.nil ?_
                refine AW.cond_t rfl ?_
                refine AW.seq ?_
                refine AW.region [0] rfl ?_
                refine AO.ro rfl rfl (gOn_none rfl) (RO.assign rfl rfl) ?_
                refine AO.nil ?_
                refine AW.ret ?_
                refine ⟨[], [.d (.lit (.int .i64 2))], [], rfl, ⟨⟨_, rfl, .inl rfl⟩, rfl⟩, trivial, ?_⟩
                refine ⟨2, rfl, rfl, ?_⟩
                exact (mayE_bad (by omega) (by omega) (i := i) (by omega) (by omega)).symm
              · skip
                refine AO.ro rfl rfl (gOn_none rfl) (RO.pick_f rfl rfl rfl) ?_
                refine AO.nil ?_
                refine AW.cond_f rfl ?_
                refine AW.skip ?_
                refine AW.region [0, 0] rfl ?_
                refine AO.ro rfl rfl (gOn_none rfl) (RO.add rfl rfl rfl (by omega)) ?_
                refine AO.ro rfl rfl (gOn_none rfl) (RO.move rfl rfl) ?_
                refine AO.nil ?_
                refine ⟨i + 1, [], ?_, ?_, ⟨rfl, rfl, ⟨⟨_, rfl, .inl rfl⟩, ⟨⟨_, rfl, .inl rfl⟩, ⟨⟨_, rfl, .inl rfl⟩, ⟨⟨_, rfl, .inl rfl⟩, ⟨⟨_, rfl, .inl rfl⟩, trivial⟩⟩⟩⟩⟩, trivial⟩⟩
                · try dsimp only
                  exact ⟨by omega, below_succ h2 (by omega)⟩
                · try dsimp only
                  first | omega | (simp; done) | (simp_all; done) | (simp_all; omega)
          · skip
            refine AO.nil ?_
            refine AW.seq ?_
            refine AW.cond_f rfl ?_
            refine AW.exit ?_
            refine AW.seq ?_
            refine AW.region [0] rfl ?_
            refine AO.ro rfl rfl (gOn_none rfl) (RO.assign rfl rfl) ?_
            refine AO.nil ?_
            refine AW.ret ?_
            refine ⟨[], [.d (.lit (.int .i64 0))], [], rfl, ⟨⟨_, rfl, .inl rfl⟩, rfl⟩, trivial, ?_⟩
            refine ⟨0, rfl, rfl, ?_⟩
            exact (mayE_ok (by omega) (by omega) (fun j a b => h2 j a (by omega))).symm

def errWord (e : Int) : ByteArray :=
  if e = 0 then ⟨#[111, 107]⟩ else if e = 1 then ⟨#[115, 105, 122, 101]⟩ else if e = 2 then ⟨#[114, 97, 110, 103, 101]⟩ else if e = 3 then ⟨#[115, 104, 97, 112, 101]⟩
  else if e = 4 then ⟨#[115, 121, 110, 116, 97, 120]⟩ else if e = 5 then ⟨#[110, 97, 109, 101]⟩ else if e = 6 then ⟨#[110, 111, 110, 101]⟩ else if e = 7 then ⟨#[102, 117, 108, 108]⟩ else ⟨#[63]⟩
theorem errno_ok (e : Int) : Fc Try.prog 15 [.d (.lit (.int .i64 e))] [] (fun r h => ∃ (y : ByteArray), r = .d (.lit (.string y)) ∧ h = [] ∧ (y = errWord e)) := by
  refine Fc.of_body Try.func15 rfl Try.ntmps15 (by simp) (fun F => ?_)
  refine (show AW _ _ _ (⟨20, 0, [(0, .d (.lit (.int .i64 e)))], []⟩ : St) _ from ?_)
  refine AW.seq ?_
  refine AW.region [0] rfl ?_
  refine AO.ro rfl rfl (gOn_none rfl) (RO.assign rfl rfl) ?_
  refine AO.nil ?_
  refine AW.seq ?_
  refine AW.seq ?_
  refine AW.region [0] rfl ?_
  refine AO.ro rfl rfl (gOn_none rfl) (RO.move rfl rfl) ?_
  refine AO.nil ?_
  refine AW.block ?_
  refine AW.seq ?_
  refine AW.region [0, 0] rfl ?_
  refine AO.split rfl rfl (gOn_none rfl) (RO.eql rfl rfl rfl) (fun t1 => ?_) (fun t1 => ?_)
  · skip
    refine AO.ro rfl rfl (gOn_none rfl) (RO.assign rfl rfl) ?_
    refine AO.nil ?_
    refine AW.cond_t rfl ?_
    refine AW.seq ?_
    refine AW.region [0] rfl ?_
    refine AO.ro rfl rfl (gOn_none rfl) (RO.assign rfl rfl) ?_
    refine AO.nil ?_
    refine AW.ret ?_
    refine ⟨[], [.d (.lit (.string (⟨#[111, 107]⟩)))], [], rfl, ⟨⟨_, rfl, .inl rfl⟩, rfl⟩, trivial, ?_⟩
    refine ⟨(⟨#[111, 107]⟩), rfl, rfl, ?_⟩
    unfold errWord; simp_all
  · skip
    refine AO.ro rfl rfl (gOn_none rfl) (RO.assign rfl rfl) ?_
    refine AO.nil ?_
    refine AW.cond_f rfl ?_
    refine AW.seq ?_
    refine AW.region [0, 0] rfl ?_
    refine AO.split rfl rfl (gOn_none rfl) (RO.eql rfl rfl rfl) (fun t2 => ?_) (fun t2 => ?_)
    · skip
      refine AO.ro rfl rfl (gOn_none rfl) (RO.assign rfl rfl) ?_
      refine AO.nil ?_
      refine AW.cond_t rfl ?_
      refine AW.seq ?_
      refine AW.region [0] rfl ?_
      refine AO.ro rfl rfl (gOn_none rfl) (RO.assign rfl rfl) ?_
      refine AO.nil ?_
      refine AW.ret ?_
      refine ⟨[], [.d (.lit (.string (⟨#[115, 105, 122, 101]⟩)))], [], rfl, ⟨⟨_, rfl, .inl rfl⟩, rfl⟩, trivial, ?_⟩
      refine ⟨(⟨#[115, 105, 122, 101]⟩), rfl, rfl, ?_⟩
      unfold errWord; simp_all
    · skip
      refine AO.ro rfl rfl (gOn_none rfl) (RO.assign rfl rfl) ?_
      refine AO.nil ?_
      refine AW.cond_f rfl ?_
      refine AW.seq ?_
      refine AW.region [0, 0] rfl ?_
      refine AO.split rfl rfl (gOn_none rfl) (RO.eql rfl rfl rfl) (fun t3 => ?_) (fun t3 => ?_)
      · skip
        refine AO.ro rfl rfl (gOn_none rfl) (RO.assign rfl rfl) ?_
        refine AO.nil ?_
        refine AW.cond_t rfl ?_
        refine AW.seq ?_
        refine AW.region [0] rfl ?_
        refine AO.ro rfl rfl (gOn_none rfl) (RO.assign rfl rfl) ?_
        refine AO.nil ?_
        refine AW.ret ?_
        refine ⟨[], [.d (.lit (.string (⟨#[114, 97, 110, 103, 101]⟩)))], [], rfl, ⟨⟨_, rfl, .inl rfl⟩, rfl⟩, trivial, ?_⟩
        refine ⟨(⟨#[114, 97, 110, 103, 101]⟩), rfl, rfl, ?_⟩
        unfold errWord; simp_all
      · skip
        refine AO.ro rfl rfl (gOn_none rfl) (RO.assign rfl rfl) ?_
        refine AO.nil ?_
        refine AW.cond_f rfl ?_
        refine AW.seq ?_
        refine AW.region [0, 0] rfl ?_
        refine AO.split rfl rfl (gOn_none rfl) (RO.eql rfl rfl rfl) (fun t4 => ?_) (fun t4 => ?_)
        · skip
          refine AO.ro rfl rfl (gOn_none rfl) (RO.assign rfl rfl) ?_
          refine AO.nil ?_
          refine AW.cond_t rfl ?_
          refine AW.seq ?_
          refine AW.region [0] rfl ?_
          refine AO.ro rfl rfl (gOn_none rfl) (RO.assign rfl rfl) ?_
          refine AO.nil ?_
          refine AW.ret ?_
          refine ⟨[], [.d (.lit (.string (⟨#[115, 104, 97, 112, 101]⟩)))], [], rfl, ⟨⟨_, rfl, .inl rfl⟩, rfl⟩, trivial, ?_⟩
          refine ⟨(⟨#[115, 104, 97, 112, 101]⟩), rfl, rfl, ?_⟩
          unfold errWord; simp_all
        · skip
          refine AO.ro rfl rfl (gOn_none rfl) (RO.assign rfl rfl) ?_
          refine AO.nil ?_
          refine AW.cond_f rfl ?_
          refine AW.seq ?_
          refine AW.region [0, 0] rfl ?_
          refine AO.split rfl rfl (gOn_none rfl) (RO.eql rfl rfl rfl) (fun t5 => ?_) (fun t5 => ?_)
          · skip
            refine AO.ro rfl rfl (gOn_none rfl) (RO.assign rfl rfl) ?_
            refine AO.nil ?_
            refine AW.cond_t rfl ?_
            refine AW.seq ?_
            refine AW.region [0] rfl ?_
            refine AO.ro rfl rfl (gOn_none rfl) (RO.assign rfl rfl) ?_
            refine AO.nil ?_
            refine AW.ret ?_
            refine ⟨[], [.d (.lit (.string (⟨#[115, 121, 110, 116, 97, 120]⟩)))], [], rfl, ⟨⟨_, rfl, .inl rfl⟩, rfl⟩, trivial, ?_⟩
            refine ⟨(⟨#[115, 121, 110, 116, 97, 120]⟩), rfl, rfl, ?_⟩
            unfold errWord; simp_all
          · skip
            refine AO.ro rfl rfl (gOn_none rfl) (RO.assign rfl rfl) ?_
            refine AO.nil ?_
            refine AW.cond_f rfl ?_
            refine AW.seq ?_
            refine AW.region [0, 0] rfl ?_
            refine AO.split rfl rfl (gOn_none rfl) (RO.eql rfl rfl rfl) (fun t6 => ?_) (fun t6 => ?_)
            · skip
              refine AO.ro rfl rfl (gOn_none rfl) (RO.assign rfl rfl) ?_
              refine AO.nil ?_
              refine AW.cond_t rfl ?_
              refine AW.seq ?_
              refine AW.region [0] rfl ?_
              refine AO.ro rfl rfl (gOn_none rfl) (RO.assign rfl rfl) ?_
              refine AO.nil ?_
              refine AW.ret ?_
              refine ⟨[], [.d (.lit (.string (⟨#[110, 97, 109, 101]⟩)))], [], rfl, ⟨⟨_, rfl, .inl rfl⟩, rfl⟩, trivial, ?_⟩
              refine ⟨(⟨#[110, 97, 109, 101]⟩), rfl, rfl, ?_⟩
              unfold errWord; simp_all
            · skip
              refine AO.ro rfl rfl (gOn_none rfl) (RO.assign rfl rfl) ?_
              refine AO.nil ?_
              refine AW.cond_f rfl ?_
              refine AW.seq ?_
              refine AW.region [0, 0] rfl ?_
              refine AO.split rfl rfl (gOn_none rfl) (RO.eql rfl rfl rfl) (fun t7 => ?_) (fun t7 => ?_)
              · skip
                refine AO.ro rfl rfl (gOn_none rfl) (RO.assign rfl rfl) ?_
                refine AO.nil ?_
                refine AW.cond_t rfl ?_
                refine AW.seq ?_
                refine AW.region [0] rfl ?_
                refine AO.ro rfl rfl (gOn_none rfl) (RO.assign rfl rfl) ?_
                refine AO.nil ?_
                refine AW.ret ?_
                refine ⟨[], [.d (.lit (.string (⟨#[110, 111, 110, 101]⟩)))], [], rfl, ⟨⟨_, rfl, .inl rfl⟩, rfl⟩, trivial, ?_⟩
                refine ⟨(⟨#[110, 111, 110, 101]⟩), rfl, rfl, ?_⟩
                unfold errWord; simp_all
              · skip
                refine AO.ro rfl rfl (gOn_none rfl) (RO.assign rfl rfl) ?_
                refine AO.nil ?_
                refine AW.cond_f rfl ?_
                refine AW.seq ?_
                refine AW.region [0, 0] rfl ?_
                refine AO.split rfl rfl (gOn_none rfl) (RO.eql rfl rfl rfl) (fun t8 => ?_) (fun t8 => ?_)
                · skip
                  refine AO.ro rfl rfl (gOn_none rfl) (RO.assign rfl rfl) ?_
                  refine AO.nil ?_
                  refine AW.cond_t rfl ?_
                  refine AW.seq ?_
                  refine AW.region [0] rfl ?_
                  refine AO.ro rfl rfl (gOn_none rfl) (RO.assign rfl rfl) ?_
                  refine AO.nil ?_
                  refine AW.ret ?_
                  refine ⟨[], [.d (.lit (.string (⟨#[102, 117, 108, 108]⟩)))], [], rfl, ⟨⟨_, rfl, .inl rfl⟩, rfl⟩, trivial, ?_⟩
                  refine ⟨(⟨#[102, 117, 108, 108]⟩), rfl, rfl, ?_⟩
                  unfold errWord; simp_all
                · skip
                  refine AO.ro rfl rfl (gOn_none rfl) (RO.assign rfl rfl) ?_
                  refine AO.nil ?_
                  refine AW.cond_f rfl ?_
                  refine AW.skip ?_
                  refine AW.seq ?_
                  refine AW.region [0] rfl ?_
                  refine AO.ro rfl rfl (gOn_none rfl) (RO.assign rfl rfl) ?_
                  refine AO.nil ?_
                  refine AW.ret ?_
                  refine ⟨[], [.d (.lit (.string (⟨#[63]⟩)))], [], rfl, ⟨⟨_, rfl, .inl rfl⟩, rfl⟩, trivial, ?_⟩
                  refine ⟨(⟨#[63]⟩), rfl, rfl, ?_⟩
                  unfold errWord; simp_all

theorem law_ok  : Fc Try.prog 3 [] [] (fun r h => ∃ (y : Bool), r = .d (.lit (.bool y)) ∧ h = [] ∧ (y = true)) := by
  refine Fc.of_body Try.func3 rfl Try.ntmps3 (by simp) (fun F => ?_)
  refine (show AW _ _ _ (⟨63, 0, [], []⟩ : St) _ from ?_)
  have la : ([0, 1, 2, 3, 4, 5, 6, 7] : List Int).length = 8 := rfl
  have lb : ([⟨#[111, 107]⟩, ⟨#[115, 105, 122, 101]⟩, ⟨#[114, 97, 110, 103, 101]⟩, ⟨#[115, 104, 97, 112, 101]⟩, ⟨#[115, 121, 110, 116, 97, 120]⟩, ⟨#[110, 97, 109, 101]⟩, ⟨#[110, 111, 110, 101]⟩, ⟨#[102, 117, 108, 108]⟩] : List ByteArray).length = 8 := rfl
  refine AW.seq ?_
  refine AW.region [0] rfl ?_
  refine AO.ro rfl rfl (gOn_none rfl) (RO.assign rfl rfl) ?_
  refine AO.nil ?_
  refine AW.seq ?_
  refine AW.region [1, 0] rfl ?_
  refine AO.al1 (gOn_none rfl) (AL.lits (α := Int) (ys := [0, 1, 2, 3, 4, 5, 6, 7]) 0 rfl (by kernel_rfl) rfl rfl rfl Try.underlying23 ti22 rfl ⟨rfl, rfl, rfl, rfl, rfl, rfl, rfl, rfl, rfl, rfl, rfl, rfl, rfl, rfl, rfl, rfl, rfl⟩ rfl (fun _ => rfl) rfl (by kernel_rfl) (by kernel_rfl)) ?_
  refine AO.ro rfl rfl (gOn_none rfl) (RO.assign rfl rfl) ?_
  refine AO.nil ?_
  refine AW.seq ?_
  refine AW.region [1, 0] rfl ?_
  refine AO.al1 (gOn_none rfl) (AL.lits (α := ByteArray) (ys := [⟨#[111, 107]⟩, ⟨#[115, 105, 122, 101]⟩, ⟨#[114, 97, 110, 103, 101]⟩, ⟨#[115, 104, 97, 112, 101]⟩, ⟨#[115, 121, 110, 116, 97, 120]⟩, ⟨#[110, 97, 109, 101]⟩, ⟨#[110, 111, 110, 101]⟩, ⟨#[102, 117, 108, 108]⟩]) 1 rfl (by kernel_rfl) rfl rfl rfl Try.underlying24 ti9 rfl ⟨rfl, rfl, rfl, rfl, rfl, rfl, rfl, rfl, rfl, rfl, rfl, rfl, rfl, rfl, rfl, rfl, rfl⟩ rfl (fun _ => rfl) rfl (by kernel_rfl) (by kernel_rfl)) ?_
  refine AO.ro rfl rfl (gOn_none rfl) (RO.assign rfl rfl) ?_
  refine AO.nil ?_
  refine AW.seq ?_
  refine AW.seq ?_
  refine AW.region [0] rfl ?_
  refine AO.ro rfl rfl (gOn_none rfl) (RO.assign rfl rfl) ?_
  refine AO.nil ?_
  refine AW.block ?_
  refine AW.loop (mp := [(0, some 0), (1, some 1)]) (X := Int) (fun xv => ⟨63, 2, [(0, .d (.lit (.bool false))), (1, .own 0), (2, .own 1), (3, .d (.lit (.int .i64 xv)))], [(0, some (Ent.arrOf 22 ([0, 1, 2, 3, 4, 5, 6, 7] : List Int))), (1, some (Ent.arrOf 9 ([⟨#[111, 107]⟩, ⟨#[115, 105, 122, 101]⟩, ⟨#[114, 97, 110, 103, 101]⟩, ⟨#[115, 104, 97, 112, 101]⟩, ⟨#[115, 121, 110, 116, 97, 120]⟩, ⟨#[110, 97, 109, 101]⟩, ⟨#[110, 111, 110, 101]⟩, ⟨#[102, 117, 108, 108]⟩] : List ByteArray)))]⟩) (fun xv => (0 ≤ xv ∧ xv ≤ 8)) (fun xv => (8 - xv).toNat) 0 ?_ ⟨rfl, rfl, ⟨⟨_, rfl, .inl rfl⟩, ⟨⟨_, rfl, .inl rfl⟩, ⟨⟨_, rfl, .inl rfl⟩, ⟨⟨_, rfl, .inl rfl⟩, trivial⟩⟩⟩⟩, ⟨⟨_, rfl, rfl⟩, ⟨⟨_, rfl, rfl⟩, trivial⟩⟩⟩ ?_
  · try dsimp only
    first | omega | (simp; done) | (simp_all; done) | (simp_all; omega)
  · skip
    intro i hx
    replace hx : (0 ≤ i ∧ i ≤ 8) := hx
    have h1 := hx
    refine (show AW _ _ _ (⟨63, 2, [(0, .d (.lit (.bool false))), (1, .own 0), (2, .own 1), (3, .d (.lit (.int .i64 i)))], [(0, some (Ent.arrOf 22 ([0, 1, 2, 3, 4, 5, 6, 7] : List Int))), (1, some (Ent.arrOf 9 ([⟨#[111, 107]⟩, ⟨#[115, 105, 122, 101]⟩, ⟨#[114, 97, 110, 103, 101]⟩, ⟨#[115, 104, 97, 112, 101]⟩, ⟨#[115, 121, 110, 116, 97, 120]⟩, ⟨#[110, 97, 109, 101]⟩, ⟨#[110, 111, 110, 101]⟩, ⟨#[102, 117, 108, 108]⟩] : List ByteArray)))]⟩ : St) _ from ?_)
    have h2 : i < 8 → i = 0 ∨ i = 1 ∨ i = 2 ∨ i = 3 ∨ i = 4 ∨ i = 5 ∨ i = 6 ∨ i = 7 := by omega
    refine AW.seq ?_
    refine AW.seq ?_
    refine AW.region [0, 0, 0, 0] rfl ?_
    refine AO.ro rfl rfl (gOn_none rfl) (RO.move rfl rfl) ?_
    refine AO.ro rfl rfl (gOn_none rfl) (RO.move rfl rfl) ?_
    refine AO.ro rfl rfl (gOn_none rfl) (RO.len_own rfl Try.underlying23 rfl rfl) ?_
    refine AO.split rfl rfl (gOn_none rfl) (RO.lss rfl rfl rfl) (fun t1 => ?_) (fun t1 => ?_)
    · skip
      refine AO.nil ?_
      refine AW.cond_t rfl ?_
      refine AW.skip ?_
      refine AW.seq ?_
      refine AW.block ?_
      refine AW.seq ?_
      refine AW.region [0, 0, 0, 0, 1, 0] rfl ?_
      refine AO.ro rfl rfl (gOn_none rfl) (RO.move rfl rfl) ?_
      refine AO.ro rfl rfl (gOn_none rfl) (RO.move rfl rfl) ?_
      refine AO.ro rfl rfl (gOn_none rfl) (RO.idx_own rfl Try.underlying23 ti22 rfl rfl rfl (by omega)) ?_
      refine AO.ro (x := .d (.lit (.int .i64 (ix ([0, 1, 2, 3, 4, 5, 6, 7]) i)))) rfl rfl (gOn_none rfl) (RO.ld_eptr (j := (i).toNat) (l := ([0, 1, 2, 3, 4, 5, 6, 7] : List Int)) rfl Try.underlying22 rfl rfl rfl rfl (by omega) (fun _ => rfl)) ?_
      refine AO.callA («as» := [.d (.lit (.int .i64 (ix ([0, 1, 2, 3, 4, 5, 6, 7]) i)))]) (gOn_none rfl) rfl rfl rfl rfl Try.call15 ⟨⟨_, rfl, rfl⟩, rfl⟩ (errno_ok (ix ([0, 1, 2, 3, 4, 5, 6, 7]) i)) ?_
      rintro _ _ ⟨y2, rfl, rfl, c2⟩
      refine ⟨[], 2, .d (.lit (.string y2)), [], rfl, trivial, rfl, ?_⟩
      refine AO.ro rfl rfl (gOn_none rfl) (RO.assign rfl rfl) ?_
      refine AO.nil ?_
      refine AW.seq ?_
      refine AW.region [0, 0, 0, 0, 0, 0, 0, 0, 0, 0, 0, 0, 0, 0] rfl ?_
      refine AO.ro rfl rfl (gOn_none rfl) (RO.move rfl rfl) ?_
      refine AO.ro rfl rfl (gOn_none rfl) (RO.move rfl rfl) ?_
      refine AO.ro rfl rfl (gOn_none rfl) (RO.idx_own rfl Try.underlying23 ti22 rfl rfl rfl (by omega)) ?_
      refine AO.ro (x := .d (.lit (.int .i64 (ix ([0, 1, 2, 3, 4, 5, 6, 7]) i)))) rfl rfl (gOn_none rfl) (RO.ld_eptr (j := (i).toNat) (l := ([0, 1, 2, 3, 4, 5, 6, 7] : List Int)) rfl Try.underlying22 rfl rfl rfl rfl (by omega) (fun _ => rfl)) ?_
      refine AO.ro rfl rfl (gOn_none rfl) (RO.move rfl rfl) ?_
      refine AO.splitn rfl rfl (gOn_none rfl) (RO.neq rfl rfl rfl) (fun t3 => ?_) (fun t3 => ?_)
      · skip
        refine AO.ro rfl rfl (gOn_none rfl) (RO.move rfl rfl) ?_
        refine AO.skip rfl rfl ⟨33, true, rfl, rfl, rfl⟩ ?_
        refine AO.skip rfl rfl ⟨33, true, rfl, rfl, rfl⟩ ?_
        refine AO.skip rfl rfl ⟨33, true, rfl, rfl, rfl⟩ ?_
        refine AO.skip rfl rfl ⟨33, true, rfl, rfl, rfl⟩ ?_
        refine AO.skip rfl rfl ⟨33, true, rfl, rfl, rfl⟩ ?_
        refine AO.skip rfl rfl ⟨33, true, rfl, rfl, rfl⟩ ?_
        refine AO.ro rfl rfl (gOn_none rfl) (RO.pick_t rfl rfl rfl) ?_
        refine AO.nil ?_
        refine AW.cond_t rfl ?_
        refine AW.seq ?_
        refine AW.region [0] rfl ?_
        refine AO.ro rfl rfl (gOn_none rfl) (RO.assign rfl rfl) ?_
        refine AO.nil ?_
        refine AW.ret ?_
        refine ⟨[], [.d (.lit (.bool false))], [], rfl, ⟨⟨_, rfl, .inl rfl⟩, rfl⟩, trivial, ?_⟩
        refine ⟨false, rfl, rfl, ?_⟩
        exfalso
        rcases h2 (by omega) with rfl | rfl | rfl | rfl | rfl | rfl | rfl | rfl
        all_goals first | exact t3 rfl | exact t4 (c2.trans rfl)
      · skip
        refine AO.ro rfl rfl (gOn_none rfl) (RO.move rfl rfl) ?_
        refine AO.ro rfl rfl ⟨33, false, rfl, rfl, rfl⟩ (RO.move rfl rfl) ?_
        refine AO.ro rfl rfl ⟨33, false, rfl, rfl, rfl⟩ (RO.move rfl rfl) ?_
        refine AO.ro rfl rfl ⟨33, false, rfl, rfl, rfl⟩ (RO.move rfl rfl) ?_
        refine AO.ro rfl rfl ⟨33, false, rfl, rfl, rfl⟩ (RO.idx_own rfl Try.underlying24 ti9 rfl rfl rfl (by omega)) ?_
        refine AO.ro (x := .d (.lit (.string (ix ([⟨#[111, 107]⟩, ⟨#[115, 105, 122, 101]⟩, ⟨#[114, 97, 110, 103, 101]⟩, ⟨#[115, 104, 97, 112, 101]⟩, ⟨#[115, 121, 110, 116, 97, 120]⟩, ⟨#[110, 97, 109, 101]⟩, ⟨#[110, 111, 110, 101]⟩, ⟨#[102, 117, 108, 108]⟩]) i)))) rfl rfl ⟨33, false, rfl, rfl, rfl⟩ (RO.ld_eptr (j := (i).toNat) (l := ([⟨#[111, 107]⟩, ⟨#[115, 105, 122, 101]⟩, ⟨#[114, 97, 110, 103, 101]⟩, ⟨#[115, 104, 97, 112, 101]⟩, ⟨#[115, 121, 110, 116, 97, 120]⟩, ⟨#[110, 97, 109, 101]⟩, ⟨#[110, 111, 110, 101]⟩, ⟨#[102, 117, 108, 108]⟩] : List ByteArray)) rfl Try.underlying9 rfl rfl rfl rfl (by omega) (fun _ => rfl)) ?_
        refine AO.splitn rfl rfl ⟨33, false, rfl, rfl, rfl⟩ (RO.neqs rfl rfl rfl) (fun t4 => ?_) (fun t4 => ?_)
        · skip
          refine AO.ro rfl rfl (gOn_none rfl) (RO.pick_f rfl rfl rfl) ?_
          refine AO.nil ?_
          refine AW.cond_t rfl ?_
          refine AW.seq ?_
          refine AW.region [0] rfl ?_
          refine AO.ro rfl rfl (gOn_none rfl) (RO.assign rfl rfl) ?_
          refine AO.nil ?_
          refine AW.ret ?_
          refine ⟨[], [.d (.lit (.bool false))], [], rfl, ⟨⟨_, rfl, .inl rfl⟩, rfl⟩, trivial, ?_⟩
          refine ⟨false, rfl, rfl, ?_⟩
          exfalso
          rcases h2 (by omega) with rfl | rfl | rfl | rfl | rfl | rfl | rfl | rfl
          all_goals first | exact t3 rfl | exact t4 (c2.trans rfl)
        · skip
          refine AO.ro rfl rfl (gOn_none rfl) (RO.pick_f rfl rfl rfl) ?_
          refine AO.nil ?_
          refine AW.cond_f rfl ?_
          refine AW.skip ?_
          refine AW.region [0, 0, 0] rfl ?_
          refine AO.ro rfl rfl (gOn_none rfl) (RO.move rfl rfl) ?_
          refine AO.ro rfl rfl (gOn_none rfl) (RO.add rfl rfl rfl (by omega)) ?_
          refine AO.ro rfl rfl (gOn_none rfl) (RO.assign rfl rfl) ?_
          refine AO.nil ?_
          refine ⟨i + 1, [(0, some 0), (1, some 1)], ?_, ?_, ⟨rfl, rfl, ⟨⟨_, rfl, .inl rfl⟩, ⟨⟨_, rfl, .inl rfl⟩, ⟨⟨_, rfl, .inl rfl⟩, ⟨⟨_, rfl, .inl rfl⟩, trivial⟩⟩⟩⟩, ⟨⟨_, rfl, rfl⟩, ⟨⟨_, rfl, rfl⟩, trivial⟩⟩⟩⟩
          · try dsimp only
            exact ⟨by omega, by omega⟩
          · try dsimp only
            first | omega | (simp; done) | (simp_all; done) | (simp_all; omega)
    · skip
      refine AO.nil ?_
      refine AW.cond_f rfl ?_
      refine AW.exit ?_
      refine AW.seq ?_
      refine AW.region [1, 0] rfl ?_
      refine AO.al1 (gOn_none rfl) (AL.lits (α := Int) (ys := [4, 60, 4000, 40, 10, 3000, 3200, 300, 40000, 4, 8, 20000]) 2 rfl (by kernel_rfl) rfl rfl rfl Try.underlying26 ti3 rfl ⟨rfl, rfl, rfl, rfl, rfl, rfl, rfl, rfl, rfl, rfl, rfl, rfl, rfl, rfl, rfl, rfl, rfl, rfl, rfl, rfl, rfl, rfl, rfl, rfl, rfl⟩ rfl (fun _ => rfl) rfl (by kernel_rfl) (by kernel_rfl)) ?_
      refine AO.ro rfl rfl (gOn_none rfl) (RO.assign rfl rfl) ?_
      refine AO.nil ?_
      refine AW.seq ?_
      refine AW.region [1, 0] rfl ?_
      refine AO.al1 (gOn_none rfl) (AL.lits (α := Int) (ys := [4, 60, 4000, 40, 10, 3000, 3200, 300, 40000, 4, 8, 20000]) 3 rfl (by kernel_rfl) rfl rfl rfl Try.underlying26 ti3 rfl ⟨rfl, rfl, rfl, rfl, rfl, rfl, rfl, rfl, rfl, rfl, rfl, rfl, rfl, rfl, rfl, rfl, rfl, rfl, rfl, rfl, rfl, rfl, rfl, rfl, rfl⟩ rfl (fun _ => rfl) rfl (by kernel_rfl) (by kernel_rfl)) ?_
      refine AO.ro rfl rfl (gOn_none rfl) (RO.assign rfl rfl) ?_
      refine AO.nil ?_
      refine AW.seq ?_
      refine AW.region [1, 0] rfl ?_
      refine AO.al1 (gOn_none rfl) (AL.lits (α := Int) (ys := [30, 3, 5, 16, 60, 9, 60, 6, 60, 3, 20]) 4 rfl (by kernel_rfl) rfl rfl rfl Try.underlying26 ti3 rfl ⟨rfl, rfl, rfl, rfl, rfl, rfl, rfl, rfl, rfl, rfl, rfl, rfl, rfl, rfl, rfl, rfl, rfl, rfl, rfl, rfl, rfl, rfl, rfl⟩ rfl (fun _ => rfl) rfl (by kernel_rfl) (by kernel_rfl)) ?_
      refine AO.ro rfl rfl (gOn_none rfl) (RO.assign rfl rfl) ?_
      refine AO.nil ?_
      refine AW.seq ?_
      refine AW.region [1, 0] rfl ?_
      refine AO.al1 (gOn_none rfl) (AL.lits (α := Int) (ys := [30, 3, 5, 16, 60, 9, 60, 6, 60, 3, 20]) 5 rfl (by kernel_rfl) rfl rfl rfl Try.underlying26 ti3 rfl ⟨rfl, rfl, rfl, rfl, rfl, rfl, rfl, rfl, rfl, rfl, rfl, rfl, rfl, rfl, rfl, rfl, rfl, rfl, rfl, rfl, rfl, rfl, rfl⟩ rfl (fun _ => rfl) rfl (by kernel_rfl) (by kernel_rfl)) ?_
      refine AO.ro rfl rfl (gOn_none rfl) (RO.assign rfl rfl) ?_
      refine AO.nil ?_
      refine AW.seq ?_
      refine AW.region [1, 0] rfl ?_
      refine AO.al1 (gOn_none rfl) (AL.lits (α := Int) (ys := [6, 8, 6, 20, 8, 9, 4, 12, 60, 3000]) 6 rfl (by kernel_rfl) rfl rfl rfl Try.underlying26 ti3 rfl ⟨rfl, rfl, rfl, rfl, rfl, rfl, rfl, rfl, rfl, rfl, rfl, rfl, rfl, rfl, rfl, rfl, rfl, rfl, rfl, rfl, rfl⟩ rfl (fun _ => rfl) rfl (by kernel_rfl) (by kernel_rfl)) ?_
      refine AO.ro rfl rfl (gOn_none rfl) (RO.assign rfl rfl) ?_
      refine AO.nil ?_
      refine AW.seq ?_
      refine AW.region [1, 0] rfl ?_
      refine AO.al1 (gOn_none rfl) (AL.lits (α := Int) (ys := [6, 8, 6, 20, 8, 9, 4, 12, 60, 3000]) 7 rfl (by kernel_rfl) rfl rfl rfl Try.underlying26 ti3 rfl ⟨rfl, rfl, rfl, rfl, rfl, rfl, rfl, rfl, rfl, rfl, rfl, rfl, rfl, rfl, rfl, rfl, rfl, rfl, rfl, rfl, rfl⟩ rfl (fun _ => rfl) rfl (by kernel_rfl) (by kernel_rfl)) ?_
      refine AO.ro rfl rfl (gOn_none rfl) (RO.assign rfl rfl) ?_
      refine AO.nil ?_
      refine AW.seq ?_
      refine AW.region [0, 0, 1, 0] rfl ?_
      refine AO.ro rfl rfl (gOn_none rfl) (RO.move rfl rfl) ?_
      refine AO.ro rfl rfl (gOn_none rfl) (RO.move rfl rfl) ?_
      refine AO.freeze 47 2 rfl rfl ?_
      refine AO.freeze 48 3 rfl rfl ?_
      refine AO.callA («as» := [.d (enc ([4, 60, 4000, 40, 10, 3000, 3200, 300, 40000, 4, 8, 20000] : (List Int))), .d (enc ([4, 60, 4000, 40, 10, 3000, 3200, 300, 40000, 4, 8, 20000] : (List Int)))]) (gOn_none rfl) rfl rfl rfl rfl Try.call16 ⟨⟨_, rfl, rfl⟩, ⟨_, rfl, rfl⟩, rfl⟩ (words_ok ([4, 60, 4000, 40, 10, 3000, 3200, 300, 40000, 4, 8, 20000]) ([4, 60, 4000, 40, 10, 3000, 3200, 300, 40000, 4, 8, 20000])) ?_
      rintro _ _ ⟨y5, rfl, rfl, c5⟩
      refine ⟨[], 8, .d (.lit (.bool y5)), [], rfl, trivial, rfl, ?_⟩
      refine AO.ro rfl rfl (gOn_none rfl) (RO.assign rfl rfl) ?_
      refine AO.nil ?_
      refine AW.seq ?_
      refine AW.region [0, 0, 1, 0] rfl ?_
      refine AO.ro rfl rfl (gOn_none rfl) (RO.move rfl rfl) ?_
      refine AO.ro rfl rfl (gOn_none rfl) (RO.move rfl rfl) ?_
      refine AO.freeze 50 4 rfl rfl ?_
      refine AO.freeze 51 5 rfl rfl ?_
      refine AO.callA («as» := [.d (enc ([30, 3, 5, 16, 60, 9, 60, 6, 60, 3, 20] : (List Int))), .d (enc ([30, 3, 5, 16, 60, 9, 60, 6, 60, 3, 20] : (List Int)))]) (gOn_none rfl) rfl rfl rfl rfl Try.call16 ⟨⟨_, rfl, rfl⟩, ⟨_, rfl, rfl⟩, rfl⟩ (words_ok ([30, 3, 5, 16, 60, 9, 60, 6, 60, 3, 20]) ([30, 3, 5, 16, 60, 9, 60, 6, 60, 3, 20])) ?_
      rintro _ _ ⟨y6, rfl, rfl, c6⟩
      refine ⟨[], 8, .d (.lit (.bool y6)), [], rfl, trivial, rfl, ?_⟩
      refine AO.ro rfl rfl (gOn_none rfl) (RO.assign rfl rfl) ?_
      refine AO.nil ?_
      refine AW.seq ?_
      refine AW.region [0, 0, 1, 0] rfl ?_
      refine AO.ro rfl rfl (gOn_none rfl) (RO.move rfl rfl) ?_
      refine AO.ro rfl rfl (gOn_none rfl) (RO.move rfl rfl) ?_
      refine AO.freeze 53 6 rfl rfl ?_
      refine AO.freeze 54 7 rfl rfl ?_
      refine AO.callA («as» := [.d (enc ([6, 8, 6, 20, 8, 9, 4, 12, 60, 3000] : (List Int))), .d (enc ([6, 8, 6, 20, 8, 9, 4, 12, 60, 3000] : (List Int)))]) (gOn_none rfl) rfl rfl rfl rfl Try.call16 ⟨⟨_, rfl, rfl⟩, ⟨_, rfl, rfl⟩, rfl⟩ (words_ok ([6, 8, 6, 20, 8, 9, 4, 12, 60, 3000]) ([6, 8, 6, 20, 8, 9, 4, 12, 60, 3000])) ?_
      rintro _ _ ⟨y7, rfl, rfl, c7⟩
      refine ⟨[], 8, .d (.lit (.bool y7)), [], rfl, trivial, rfl, ?_⟩
      refine AO.ro rfl rfl (gOn_none rfl) (RO.assign rfl rfl) ?_
      refine AO.nil ?_
      refine AW.seq ?_
      refine AW.region [0, 0, 0, 0, 0, 0, 0, 0] rfl ?_
      refine AO.ro rfl rfl (gOn_none rfl) (RO.move rfl rfl) ?_
      refine AO.ro rfl rfl (gOn_none rfl) (RO.move rfl rfl) ?_
      refine AO.caseb 57 rfl (fun b8 => ?_) (fun b8 => ?_)
      · skip
        first | replace b8 := of_decide_eq_true (c5.symm.trans b8) | (replace b8 := List.any_eq_true.1 (c5.symm.trans b8); simp only [decide_eq_true_eq] at b8) | skip
        refine AO.ro rfl rfl ⟨57, true, rfl, rfl, rfl⟩ (RO.move rfl rfl) ?_
        refine AO.ro rfl rfl (gOn_none rfl) (RO.pick_t rfl rfl rfl) ?_
        refine AO.ro rfl rfl (gOn_none rfl) (RO.move rfl rfl) ?_
        refine AO.caseb 60 rfl (fun b9 => ?_) (fun b9 => ?_)
        · skip
          first | replace b9 := of_decide_eq_true (c6.symm.trans b9) | (replace b9 := List.any_eq_true.1 (c6.symm.trans b9); simp only [decide_eq_true_eq] at b9) | skip
          refine AO.ro rfl rfl ⟨60, true, rfl, rfl, rfl⟩ (RO.move rfl rfl) ?_
          refine AO.ro rfl rfl (gOn_none rfl) (RO.pick_t rfl rfl rfl) ?_
          refine AO.ro rfl rfl (gOn_none rfl) (RO.assign rfl rfl) ?_
          refine AO.nil ?_
          refine AW.ret ?_
          refine ⟨[], [.d (.lit (.bool y7))], [], rfl, ⟨⟨_, rfl, .inl rfl⟩, rfl⟩, trivial, ?_⟩
          refine ⟨y7, rfl, rfl, ?_⟩
          subst_vars; simp_all
        · skip
          first | replace b9 := of_decide_eq_false (c6.symm.trans b9) | (replace b9 := List.any_eq_false.1 (c6.symm.trans b9); simp only [decide_eq_true_eq] at b9) | skip
          refine AO.skip rfl rfl ⟨60, false, rfl, rfl, rfl⟩ ?_
          refine AO.ro rfl rfl (gOn_none rfl) (RO.pick_f rfl rfl rfl) ?_
          refine AO.ro rfl rfl (gOn_none rfl) (RO.assign rfl rfl) ?_
          refine AO.nil ?_
          refine AW.ret ?_
          refine ⟨[], [.d (.lit (.bool false))], [], rfl, ⟨⟨_, rfl, .inl rfl⟩, rfl⟩, trivial, ?_⟩
          refine ⟨false, rfl, rfl, ?_⟩
          subst_vars; simp_all
      · skip
        first | replace b8 := of_decide_eq_false (c5.symm.trans b8) | (replace b8 := List.any_eq_false.1 (c5.symm.trans b8); simp only [decide_eq_true_eq] at b8) | skip
        refine AO.skip rfl rfl ⟨57, false, rfl, rfl, rfl⟩ ?_
        refine AO.ro rfl rfl (gOn_none rfl) (RO.pick_f rfl rfl rfl) ?_
        refine AO.ro rfl rfl (gOn_none rfl) (RO.move rfl rfl) ?_
        refine AO.skip rfl rfl ⟨60, false, rfl, rfl, rfl⟩ ?_
        refine AO.ro rfl rfl (gOn_none rfl) (RO.pick_f rfl rfl rfl) ?_
        refine AO.ro rfl rfl (gOn_none rfl) (RO.assign rfl rfl) ?_
        refine AO.nil ?_
        refine AW.ret ?_
        refine ⟨[], [.d (.lit (.bool false))], [], rfl, ⟨⟨_, rfl, .inl rfl⟩, rfl⟩, trivial, ?_⟩
        refine ⟨false, rfl, rfl, ?_⟩
        subst_vars; simp_all

end Go.Proofs.Ytgjpkfbaobanlaa
