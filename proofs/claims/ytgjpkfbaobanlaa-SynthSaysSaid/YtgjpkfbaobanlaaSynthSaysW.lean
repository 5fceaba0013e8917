/- The walks of the functions that 'SynthSays' reaches: what each of them computes. No condition. -/
import Derived.Test.YtgjpkfbaobanlaaAb2n15
import Derived.Test.YtgjpkfbaobanlaaProg
import Derived.KernelRfl
set_option maxHeartbeats 1000000
set_option maxRecDepth 20000
set_option linter.unusedSimpArgs false
set_option linter.unusedVariables false
namespace Go.Proofs.Ytgjpkfbaobanlaa
open Go Go.Ab
open Enc (enc)
structure Machine where
  First : Bool
  Start : Int
  Says : (List (A2 Int))
  Next : (List (A2 Int))
instance : Inhabited Machine := ⟨⟨default, default, default, default⟩⟩
instance : Enc Machine := ⟨fun m => .agg ([enc m.First, enc m.Start, enc m.Says, enc m.Next]), 4, 64, fun _ => rfl, fun _ => rfl⟩
theorem ti3 : TI Try.prog 3 false 1 8 (.int .i64 0) := TI.of Try.underlying3 rfl (by kernel_rfl)
theorem ti42 : TI Try.prog 42 true 4 64 (.agg #[.bool false, .int .i64 0, .slice none 0 0, .slice none 0 0]) := TI.of Try.underlying42 rfl (by kernel_rfl)
theorem ti87 : TI Try.prog 87 true 2 16 (.agg #[.int .i64 0, .int .i64 0]) := TI.of Try.underlying87 rfl (by kernel_rfl)
theorem fa42_0 : FA Try.prog 42 0 0 4 1 := FA.of Try.underlying42 (by kernel_rfl) (by kernel_rfl) (by decide)
theorem fa42_1 : FA Try.prog 42 1 1 3 1 := FA.of Try.underlying42 (by kernel_rfl) (by kernel_rfl) (by decide)
theorem fa42_2 : FA Try.prog 42 2 2 40 1 := FA.of Try.underlying42 (by kernel_rfl) (by kernel_rfl) (by decide)
theorem fa42_3 : FA Try.prog 42 3 3 40 1 := FA.of Try.underlying42 (by kernel_rfl) (by kernel_rfl) (by decide)
theorem zr3 : ZRs (enc (default : Int)).cells (Value.cells (.int .i64 0)).toList := ⟨.lit _ rfl, trivial⟩

theorem IndexFunc75_ok (s : (List (A2 Int))) (g_f : Nat) (c_f : List AV) (p_f : (A2 Int) → Bool) (h_f : pureL c_f = true ∧ ∀ (xs : Array Value) (w : World), (callFunc g_f xs).run Try.prog w = .ok (.enter g_f xs) w) (f_f : ∀ (x0 : (A2 Int)), Fc Try.prog g_f ([.d (enc (x0 : (A2 Int)))] ++ c_f) [] (fun r h => r = .d (.lit (.bool (p_f x0))) ∧ h = [])) : Fc Try.prog 75 [.d (enc (s : (List (A2 Int)))), .fn g_f c_f] [] (fun r h => ∃ (y : Int), r = .d (.lit (.int .i64 y)) ∧ h = [] ∧ (y = findI p_f s)) := by
  refine Fc.of_body Try.func75 rfl Try.ntmps75 (by simp) (fun F => ?_)
  refine (show AW _ _ _ (⟨19, 0, [(0, .d (enc (s : (List (A2 Int))))), (1, .fn g_f c_f)], []⟩ : St) _ from ?_)
  refine AW.fact 0 rfl (fun ln_s => ?_)
  replace ln_s : s.length * 16 ≤ 140737488355328 := ln_s
  refine AW.seq ?_
  refine AW.region [0] rfl ?_
  refine AO.ro rfl rfl (gOn_none rfl) (RO.assign rfl rfl) ?_
  refine AO.nil ?_
  refine AW.seq ?_
  refine AW.seq ?_
  refine AW.region [0, 0, 0] rfl ?_
  refine AO.ro rfl rfl (gOn_none rfl) (RO.move rfl rfl) ?_
  refine AO.ro rfl rfl (gOn_none rfl) (RO.len rfl Try.underlying40 rfl) ?_
  refine AO.ro rfl rfl (gOn_none rfl) (RO.move rfl rfl) ?_
  refine AO.nil ?_
  refine AW.block ?_
  refine AW.loop (mp := []) (X := Int) (fun x => ⟨19, 0, [(0, .d (enc (s : (List (A2 Int))))), (1, .fn g_f c_f), (4, .d (.lit (.int .i64 0))), (7, .d (.lit (.int .i64 ((s.length : Int))))), (8, .d (.lit (.int .i64 x)))], []⟩) (fun x => (0 ≤ x ∧ x ≤ s.length) ∧ (∀ j : Int, 0 ≤ j → j < x → p_f (ix s j) = false)) (fun x => (s.length - x).toNat) 0 ?_ ⟨rfl, rfl, ⟨⟨_, rfl, .inl rfl⟩, ⟨⟨_, rfl, .inl (ren_fn h_f.1)⟩, ⟨⟨_, rfl, .inl rfl⟩, ⟨⟨_, rfl, .inl rfl⟩, ⟨⟨_, rfl, .inl rfl⟩, trivial⟩⟩⟩⟩⟩, trivial⟩ ?_
  · try dsimp only
    exact ⟨by omega, fun j a b => by omega⟩
  · skip
    intro i hx
    replace hx : (0 ≤ i ∧ i ≤ s.length) ∧ (∀ j : Int, 0 ≤ j → j < i → p_f (ix s j) = false) := hx
    obtain ⟨h1, h2⟩ := hx
    refine (show AW _ _ _ (⟨19, 0, [(0, .d (enc (s : (List (A2 Int))))), (1, .fn g_f c_f), (4, .d (.lit (.int .i64 0))), (7, .d (.lit (.int .i64 ((s.length : Int))))), (8, .d (.lit (.int .i64 i)))], []⟩ : St) _ from ?_)
    refine AW.seq ?_
    refine AW.region [0] rfl ?_
    refine AO.split rfl rfl (gOn_none rfl) (RO.lss rfl rfl rfl) (fun t1 => ?_) (fun t1 => ?_)
    · skip
      refine AO.nil ?_
      refine AW.seq ?_
      refine AW.cond_t rfl ?_
      refine AW.skip ?_
      refine AW.seq ?_
      refine AW.block ?_
      refine AW.seq ?_
      refine AW.region [0, 0] rfl ?_
      refine AO.ro rfl rfl (gOn_none rfl) (RO.move rfl rfl) ?_
      refine AO.ro rfl rfl (gOn_none rfl) (RO.assign rfl rfl) ?_
      refine AO.nil ?_
      refine AW.seq ?_
      refine AW.region [0, 0, 0, 0, 0, 2] rfl ?_
      refine AO.ro rfl rfl (gOn_none rfl) (RO.move rfl rfl) ?_
      refine AO.ro rfl rfl (gOn_none rfl) (RO.move rfl rfl) ?_
      refine AO.ro rfl rfl (gOn_none rfl) (RO.move rfl rfl) ?_
      refine AO.ro rfl rfl (gOn_none rfl) (RO.idx rfl Try.underlying40 ti87 rfl rfl (by omega)) ?_
      refine AO.ro rfl rfl (gOn_none rfl) (RO.ld_addr_agg rfl ti87 rfl rfl rfl) ?_
      refine AO.callP («as» := [.d (enc (ix s i : (A2 Int)))]) (gOn_none rfl) rfl rfl rfl rfl h_f.1 h_f.2 ⟨⟨_, rfl, rfl⟩, rfl⟩ (f_f (ix s i)) ?_
      rintro _ _ ⟨rfl, rfl⟩
      refine ⟨[], 0, .d (.lit (.bool (p_f (ix s i)))), [], rfl, trivial, rfl, ?_⟩
      refine AO.nil ?_
      refine AW.caseb 16 rfl (fun b2 => ?_) (fun b2 => ?_)
      · skip
        refine AW.cond_t rfl ?_
        refine AW.seq ?_
        refine AW.region [0, 0] rfl ?_
        refine AO.ro rfl rfl (gOn_none rfl) (RO.move rfl rfl) ?_
        refine AO.ro rfl rfl (gOn_none rfl) (RO.assign rfl rfl) ?_
        refine AO.nil ?_
        refine AW.ret ?_
        refine ⟨[], [.d (.lit (.int .i64 i))], [], rfl, ⟨⟨_, rfl, .inl rfl⟩, rfl⟩, trivial, ?_⟩
        refine ⟨i, rfl, rfl, ?_⟩
        exact (findI_hit h1.1 (by omega) h2 (by assumption)).symm
      · skip
        refine AW.cond_f rfl ?_
        refine AW.skip ?_
        refine AW.region [0, 0] rfl ?_
        refine AO.ro rfl rfl (gOn_none rfl) (RO.add rfl rfl rfl (by omega)) ?_
        refine AO.ro rfl rfl (gOn_none rfl) (RO.move rfl rfl) ?_
        refine AO.nil ?_
        refine ⟨i + 1, [], ?_, ?_, ⟨rfl, rfl, ⟨⟨_, rfl, .inl rfl⟩, ⟨⟨_, rfl, .inl (ren_fn h_f.1)⟩, ⟨⟨_, rfl, .inl rfl⟩, ⟨⟨_, rfl, .inl rfl⟩, ⟨⟨_, rfl, .inl rfl⟩, trivial⟩⟩⟩⟩⟩, trivial⟩⟩
        · try dsimp only
          exact ⟨by omega, below_succ h2 (by assumption)⟩
        · try dsimp only
          first | omega | (simp; done) | (simp_all; done) | (simp_all; omega)
    · skip
      refine AO.nil ?_
      refine AW.seq ?_
      refine AW.cond_f rfl ?_
      refine AW.exit ?_
      refine AW.seq ?_
      refine AW.region [0] rfl ?_
      refine AO.ro rfl rfl (gOn_none rfl) (RO.assign rfl rfl) ?_
      refine AO.nil ?_
      refine AW.ret ?_
      refine ⟨[], [.d (.lit (.int .i64 ((-1))))], [], rfl, ⟨⟨_, rfl, .inl rfl⟩, rfl⟩, trivial, ?_⟩
      refine ⟨((-1)), rfl, rfl, ?_⟩
      exact (findI_none (fun j a b => h2 j a (by omega))).symm

theorem IndexFunc76_ok (s : (List Int)) (g_f : Nat) (c_f : List AV) (p_f : Int → Bool) (h_f : pureL c_f = true ∧ ∀ (xs : Array Value) (w : World), (callFunc g_f xs).run Try.prog w = .ok (.enter g_f xs) w) (f_f : ∀ (x0 : Int), Fc Try.prog g_f ([.d (.lit (.int .i64 x0))] ++ c_f) [] (fun r h => r = .d (.lit (.bool (p_f x0))) ∧ h = [])) : Fc Try.prog 76 [.d (enc (s : (List Int))), .fn g_f c_f] [] (fun r h => ∃ (y : Int), r = .d (.lit (.int .i64 y)) ∧ h = [] ∧ (y = findI p_f s)) := by
  refine Fc.of_body Try.func76 rfl Try.ntmps76 (by simp) (fun F => ?_)
  refine (show AW _ _ _ (⟨19, 0, [(0, .d (enc (s : (List Int)))), (1, .fn g_f c_f)], []⟩ : St) _ from ?_)
  refine AW.fact 0 rfl (fun ln_s => ?_)
  replace ln_s : s.length * 8 ≤ 140737488355328 := ln_s
  refine AW.seq ?_
  refine AW.region [0] rfl ?_
  refine AO.ro rfl rfl (gOn_none rfl) (RO.assign rfl rfl) ?_
  refine AO.nil ?_
  refine AW.seq ?_
  refine AW.seq ?_
  refine AW.region [0, 0, 0] rfl ?_
  refine AO.ro rfl rfl (gOn_none rfl) (RO.move rfl rfl) ?_
  refine AO.ro rfl rfl (gOn_none rfl) (RO.len rfl Try.underlying26 rfl) ?_
  refine AO.ro rfl rfl (gOn_none rfl) (RO.move rfl rfl) ?_
  refine AO.nil ?_
  refine AW.block ?_
  refine AW.loop (mp := []) (X := Int) (fun x => ⟨19, 0, [(0, .d (enc (s : (List Int)))), (1, .fn g_f c_f), (4, .d (.lit (.int .i64 0))), (7, .d (.lit (.int .i64 ((s.length : Int))))), (8, .d (.lit (.int .i64 x)))], []⟩) (fun x => (0 ≤ x ∧ x ≤ s.length) ∧ (∀ j : Int, 0 ≤ j → j < x → p_f (ix s j) = false)) (fun x => (s.length - x).toNat) 0 ?_ ⟨rfl, rfl, ⟨⟨_, rfl, .inl rfl⟩, ⟨⟨_, rfl, .inl (ren_fn h_f.1)⟩, ⟨⟨_, rfl, .inl rfl⟩, ⟨⟨_, rfl, .inl rfl⟩, ⟨⟨_, rfl, .inl rfl⟩, trivial⟩⟩⟩⟩⟩, trivial⟩ ?_
  · try dsimp only
    exact ⟨by omega, fun j a b => by omega⟩
  · skip
    intro i hx
    replace hx : (0 ≤ i ∧ i ≤ s.length) ∧ (∀ j : Int, 0 ≤ j → j < i → p_f (ix s j) = false) := hx
    obtain ⟨h1, h2⟩ := hx
    refine (show AW _ _ _ (⟨19, 0, [(0, .d (enc (s : (List Int)))), (1, .fn g_f c_f), (4, .d (.lit (.int .i64 0))), (7, .d (.lit (.int .i64 ((s.length : Int))))), (8, .d (.lit (.int .i64 i)))], []⟩ : St) _ from ?_)
    refine AW.seq ?_
    refine AW.region [0] rfl ?_
    refine AO.split rfl rfl (gOn_none rfl) (RO.lss rfl rfl rfl) (fun t1 => ?_) (fun t1 => ?_)
    · skip
      refine AO.nil ?_
      refine AW.seq ?_
      refine AW.cond_t rfl ?_
      refine AW.skip ?_
      refine AW.seq ?_
      refine AW.block ?_
      refine AW.seq ?_
      refine AW.region [0, 0] rfl ?_
      refine AO.ro rfl rfl (gOn_none rfl) (RO.move rfl rfl) ?_
      refine AO.ro rfl rfl (gOn_none rfl) (RO.assign rfl rfl) ?_
      refine AO.nil ?_
      refine AW.seq ?_
      refine AW.region [0, 0, 0, 0, 0, 2] rfl ?_
      refine AO.ro rfl rfl (gOn_none rfl) (RO.move rfl rfl) ?_
      refine AO.ro rfl rfl (gOn_none rfl) (RO.move rfl rfl) ?_
      refine AO.ro rfl rfl (gOn_none rfl) (RO.move rfl rfl) ?_
      refine AO.ro rfl rfl (gOn_none rfl) (RO.idx rfl Try.underlying26 ti3 rfl rfl (by omega)) ?_
      refine AO.ro rfl rfl (gOn_none rfl) (RO.ld_addr rfl Try.underlying3 rfl rfl rfl) ?_
      refine AO.callP («as» := [.d (.lit (.int .i64 (ix s i)))]) (gOn_none rfl) rfl rfl rfl rfl h_f.1 h_f.2 ⟨⟨_, rfl, rfl⟩, rfl⟩ (f_f (ix s i)) ?_
      rintro _ _ ⟨rfl, rfl⟩
      refine ⟨[], 0, .d (.lit (.bool (p_f (ix s i)))), [], rfl, trivial, rfl, ?_⟩
      refine AO.nil ?_
      refine AW.caseb 16 rfl (fun b2 => ?_) (fun b2 => ?_)
      · skip
        refine AW.cond_t rfl ?_
        refine AW.seq ?_
        refine AW.region [0, 0] rfl ?_
        refine AO.ro rfl rfl (gOn_none rfl) (RO.move rfl rfl) ?_
        refine AO.ro rfl rfl (gOn_none rfl) (RO.assign rfl rfl) ?_
        refine AO.nil ?_
        refine AW.ret ?_
        refine ⟨[], [.d (.lit (.int .i64 i))], [], rfl, ⟨⟨_, rfl, .inl rfl⟩, rfl⟩, trivial, ?_⟩
        refine ⟨i, rfl, rfl, ?_⟩
        exact (findI_hit h1.1 (by omega) h2 (by assumption)).symm
      · skip
        refine AW.cond_f rfl ?_
        refine AW.skip ?_
        refine AW.region [0, 0] rfl ?_
        refine AO.ro rfl rfl (gOn_none rfl) (RO.add rfl rfl rfl (by omega)) ?_
        refine AO.ro rfl rfl (gOn_none rfl) (RO.move rfl rfl) ?_
        refine AO.nil ?_
        refine ⟨i + 1, [], ?_, ?_, ⟨rfl, rfl, ⟨⟨_, rfl, .inl rfl⟩, ⟨⟨_, rfl, .inl (ren_fn h_f.1)⟩, ⟨⟨_, rfl, .inl rfl⟩, ⟨⟨_, rfl, .inl rfl⟩, ⟨⟨_, rfl, .inl rfl⟩, trivial⟩⟩⟩⟩⟩, trivial⟩⟩
        · try dsimp only
          exact ⟨by omega, below_succ h2 (by assumption)⟩
        · try dsimp only
          first | omega | (simp; done) | (simp_all; done) | (simp_all; omega)
    · skip
      refine AO.nil ?_
      refine AW.seq ?_
      refine AW.cond_f rfl ?_
      refine AW.exit ?_
      refine AW.seq ?_
      refine AW.region [0] rfl ?_
      refine AO.ro rfl rfl (gOn_none rfl) (RO.assign rfl rfl) ?_
      refine AO.nil ?_
      refine AW.ret ?_
      refine ⟨[], [.d (.lit (.int .i64 ((-1))))], [], rfl, ⟨⟨_, rfl, .inl rfl⟩, rfl⟩, trivial, ?_⟩
      refine ⟨((-1)), rfl, rfl, ?_⟩
      exact (findI_none (fun j a b => h2 j a (by omega))).symm

theorem ContainsFunc56_ok (s : (List (A2 Int))) (g_f : Nat) (c_f : List AV) (p_f : (A2 Int) → Bool) (h_f : pureL c_f = true ∧ ∀ (xs : Array Value) (w : World), (callFunc g_f xs).run Try.prog w = .ok (.enter g_f xs) w) (f_f : ∀ (x0 : (A2 Int)), Fc Try.prog g_f ([.d (enc (x0 : (A2 Int)))] ++ c_f) [] (fun r h => r = .d (.lit (.bool (p_f x0))) ∧ h = [])) : Fc Try.prog 56 [.d (enc (s : (List (A2 Int)))), .fn g_f c_f] [] (fun r h => ∃ (y : Bool), r = .d (.lit (.bool y)) ∧ h = [] ∧ (y = s.any p_f)) := by
  refine Fc.of_body Try.func56 rfl Try.ntmps56 (by simp) (fun F => ?_)
  refine (show AW _ _ _ (⟨9, 0, [(0, .d (enc (s : (List (A2 Int))))), (1, .fn g_f c_f)], []⟩ : St) _ from ?_)
  refine AW.fact 0 rfl (fun ln_s => ?_)
  replace ln_s : s.length * 16 ≤ 140737488355328 := ln_s
  refine AW.seq ?_
  refine AW.region [0] rfl ?_
  refine AO.ro rfl rfl (gOn_none rfl) (RO.assign rfl rfl) ?_
  refine AO.nil ?_
  refine AW.seq ?_
  refine AW.region [0, 0, 2, 0, 0] rfl ?_
  refine AO.ro rfl rfl (gOn_none rfl) (RO.move rfl rfl) ?_
  refine AO.ro rfl rfl (gOn_none rfl) (RO.move rfl rfl) ?_
  refine AO.call0 («as» := [.d (enc (s : (List (A2 Int)))), .fn g_f c_f]) (gOn_none rfl) rfl rfl rfl rfl Try.call75 ⟨⟨_, rfl, rfl⟩, ⟨_, rfl, ren_fn h_f.1⟩, rfl⟩ (IndexFunc75_ok s g_f c_f p_f h_f f_f) ?_
  rintro _ _ ⟨y1, rfl, rfl, c1⟩
  refine ⟨[], 0, .d (.lit (.int .i64 y1)), [], rfl, trivial, rfl, ?_⟩
  refine AO.split rfl rfl (gOn_none rfl) (RO.geq rfl rfl rfl) (fun t2 => ?_) (fun t2 => ?_)
  · skip
    refine AO.ro rfl rfl (gOn_none rfl) (RO.assign rfl rfl) ?_
    refine AO.nil ?_
    refine AW.ret ?_
    refine ⟨[], [.d (.lit (.bool true))], [], rfl, ⟨⟨_, rfl, .inl rfl⟩, rfl⟩, trivial, ?_⟩
    refine ⟨true, rfl, rfl, ?_⟩
    rw [← findI_any]; subst_vars; simp; omega
  · skip
    refine AO.ro rfl rfl (gOn_none rfl) (RO.assign rfl rfl) ?_
    refine AO.nil ?_
    refine AW.ret ?_
    refine ⟨[], [.d (.lit (.bool false))], [], rfl, ⟨⟨_, rfl, .inl rfl⟩, rfl⟩, trivial, ?_⟩
    refine ⟨false, rfl, rfl, ?_⟩
    rw [← findI_any]; subst_vars; simp; omega

theorem ContainsFunc58_ok (s : (List Int)) (g_f : Nat) (c_f : List AV) (p_f : Int → Bool) (h_f : pureL c_f = true ∧ ∀ (xs : Array Value) (w : World), (callFunc g_f xs).run Try.prog w = .ok (.enter g_f xs) w) (f_f : ∀ (x0 : Int), Fc Try.prog g_f ([.d (.lit (.int .i64 x0))] ++ c_f) [] (fun r h => r = .d (.lit (.bool (p_f x0))) ∧ h = [])) : Fc Try.prog 58 [.d (enc (s : (List Int))), .fn g_f c_f] [] (fun r h => ∃ (y : Bool), r = .d (.lit (.bool y)) ∧ h = [] ∧ (y = s.any p_f)) := by
  refine Fc.of_body Try.func58 rfl Try.ntmps58 (by simp) (fun F => ?_)
  refine (show AW _ _ _ (⟨9, 0, [(0, .d (enc (s : (List Int)))), (1, .fn g_f c_f)], []⟩ : St) _ from ?_)
  refine AW.fact 0 rfl (fun ln_s => ?_)
  replace ln_s : s.length * 8 ≤ 140737488355328 := ln_s
  refine AW.seq ?_
  refine AW.region [0] rfl ?_
  refine AO.ro rfl rfl (gOn_none rfl) (RO.assign rfl rfl) ?_
  refine AO.nil ?_
  refine AW.seq ?_
  refine AW.region [0, 0, 2, 0, 0] rfl ?_
  refine AO.ro rfl rfl (gOn_none rfl) (RO.move rfl rfl) ?_
  refine AO.ro rfl rfl (gOn_none rfl) (RO.move rfl rfl) ?_
  refine AO.call0 («as» := [.d (enc (s : (List Int))), .fn g_f c_f]) (gOn_none rfl) rfl rfl rfl rfl Try.call76 ⟨⟨_, rfl, rfl⟩, ⟨_, rfl, ren_fn h_f.1⟩, rfl⟩ (IndexFunc76_ok s g_f c_f p_f h_f f_f) ?_
  rintro _ _ ⟨y1, rfl, rfl, c1⟩
  refine ⟨[], 0, .d (.lit (.int .i64 y1)), [], rfl, trivial, rfl, ?_⟩
  refine AO.split rfl rfl (gOn_none rfl) (RO.geq rfl rfl rfl) (fun t2 => ?_) (fun t2 => ?_)
  · skip
    refine AO.ro rfl rfl (gOn_none rfl) (RO.assign rfl rfl) ?_
    refine AO.nil ?_
    refine AW.ret ?_
    refine ⟨[], [.d (.lit (.bool true))], [], rfl, ⟨⟨_, rfl, .inl rfl⟩, rfl⟩, trivial, ?_⟩
    refine ⟨true, rfl, rfl, ?_⟩
    rw [← findI_any]; subst_vars; simp; omega
  · skip
    refine AO.ro rfl rfl (gOn_none rfl) (RO.assign rfl rfl) ?_
    refine AO.nil ?_
    refine AW.ret ?_
    refine ⟨[], [.d (.lit (.bool false))], [], rfl, ⟨⟨_, rfl, .inl rfl⟩, rfl⟩, trivial, ?_⟩
    refine ⟨false, rfl, rfl, ?_⟩
    rw [← findI_any]; subst_vars; simp; omega

/-- May these be a word's letters? (the number of the error) -/
def mayE (letters : Int) (w : List Int) : Int :=
  if letters < 1 ∨ 4 < letters then 2 else if (60 : Int) < w.length then 1 else if ∀ x ∈ w, 0 ≤ x ∧ x < letters then 0 else 2
theorem mayE_range {letters : Int} {w : List Int} (h : letters < 1 ∨ 4 < letters) : mayE letters w = 2 := by unfold mayE; rw [if_pos h]
theorem mayE_size {letters : Int} {w : List Int} (h : 1 ≤ letters ∧ letters ≤ 4) (h2 : (60 : Int) < w.length) : mayE letters w = 1 := by unfold mayE; rw [if_neg (by omega), if_pos h2]
theorem mayE_bad {letters i : Int} {w : List Int} (h : 1 ≤ letters ∧ letters ≤ 4) (h2 : w.length ≤ (60 : Int)) (h0 : 0 ≤ i ∧ i < w.length) (hx : ¬ (0 ≤ ix w i ∧ ix w i < letters)) : mayE letters w = 2 := by
  unfold mayE; rw [if_neg (by omega), if_neg (by omega), if_neg]; intro hh; exact hx (hh _ (ix_mem h0.1 h0.2))
theorem mayE_ok {letters : Int} {w : List Int} (h : 1 ≤ letters ∧ letters ≤ 4) (h2 : w.length ≤ (60 : Int)) (hx : ∀ j : Int, 0 ≤ j → j < w.length → 0 ≤ ix w j ∧ ix w j < letters) : mayE letters w = 0 := by
  unfold mayE; rw [if_neg (by omega), if_neg (by omega), if_pos]; exact forall_ix.2 hx
theorem mayE_zero {letters : Int} {w : List Int} (h : mayE letters w = 0) : (1 ≤ letters ∧ letters ≤ 4) ∧ w.length ≤ (60 : Int) ∧ ∀ x ∈ w, 0 ≤ x ∧ x < letters := by
  unfold mayE at h
  split at h
  · omega
  · split at h
    · omega
    · split at h
      · rename_i h3; exact ⟨by omega, by omega, h3⟩
      · omega
theorem words_ok (u : (List Int)) (v : (List Int)) : Fc Try.prog 16 [.d (enc (u : (List Int))), .d (enc (v : (List Int)))] [] (fun r h => ∃ (y : Bool), r = .d (.lit (.bool y)) ∧ h = [] ∧ (y = decide (u = v))) := by
  refine Fc.of_body Try.func16 rfl Try.ntmps16 (by simp) (fun F => ?_)
  refine (show AW _ _ _ (⟨26, 0, [(0, .d (enc (u : (List Int)))), (1, .d (enc (v : (List Int))))], []⟩ : St) _ from ?_)
  refine AW.fact 0 rfl (fun ln_u => ?_)
  replace ln_u : u.length * 8 ≤ 140737488355328 := ln_u
  refine AW.fact 1 rfl (fun ln_v => ?_)
  replace ln_v : v.length * 8 ≤ 140737488355328 := ln_v
  refine AW.seq ?_
  refine AW.region [0] rfl ?_
  refine AO.ro rfl rfl (gOn_none rfl) (RO.assign rfl rfl) ?_
  refine AO.nil ?_
  refine AW.seq ?_
  refine AW.seq ?_
  refine AW.region [0, 0, 0, 0, 0] rfl ?_
  refine AO.ro rfl rfl (gOn_none rfl) (RO.move rfl rfl) ?_
  refine AO.ro rfl rfl (gOn_none rfl) (RO.len rfl Try.underlying26 rfl) ?_
  refine AO.ro rfl rfl (gOn_none rfl) (RO.move rfl rfl) ?_
  refine AO.ro rfl rfl (gOn_none rfl) (RO.len rfl Try.underlying26 rfl) ?_
  refine AO.splitn rfl rfl (gOn_none rfl) (RO.neq rfl rfl rfl) (fun t1 => ?_) (fun t1 => ?_)
  · skip
    refine AO.nil ?_
    refine AW.cond_t rfl ?_
    refine AW.seq ?_
    refine AW.region [0] rfl ?_
    refine AO.ro rfl rfl (gOn_none rfl) (RO.assign rfl rfl) ?_
    refine AO.nil ?_
    refine AW.ret ?_
    refine ⟨[], [.d (.lit (.bool false))], [], rfl, ⟨⟨_, rfl, .inl rfl⟩, rfl⟩, trivial, ?_⟩
    refine ⟨false, rfl, rfl, ?_⟩
    rw [eq_comm, decide_eq_false_iff_not]; rintro rfl; contradiction
  · skip
    refine AO.nil ?_
    refine AW.cond_f rfl ?_
    refine AW.skip ?_
    refine AW.seq ?_
    refine AW.seq ?_
    refine AW.region [0] rfl ?_
    refine AO.ro rfl rfl (gOn_none rfl) (RO.assign rfl rfl) ?_
    refine AO.nil ?_
    refine AW.block ?_
    refine AW.loop (mp := []) (X := Int) (fun x => ⟨26, 0, [(0, .d (enc (u : (List Int)))), (1, .d (enc (v : (List Int)))), (4, .d (.lit (.bool false))), (5, .d (.lit (.int .i64 x)))], []⟩) (fun x => (0 ≤ x ∧ x ≤ u.length) ∧ (u.length = v.length) ∧ (∀ j : Int, 0 ≤ j → j < x → ix u j = ix v j)) (fun x => (u.length - x).toNat) 0 ?_ ⟨rfl, rfl, ⟨⟨_, rfl, .inl rfl⟩, ⟨⟨_, rfl, .inl rfl⟩, ⟨⟨_, rfl, .inl rfl⟩, ⟨⟨_, rfl, .inl rfl⟩, trivial⟩⟩⟩⟩, trivial⟩ ?_
    · try dsimp only
      exact ⟨by omega, by omega, fun j a b => by omega⟩
    · skip
      intro i hx
      replace hx : (0 ≤ i ∧ i ≤ u.length) ∧ (u.length = v.length) ∧ (∀ j : Int, 0 ≤ j → j < i → ix u j = ix v j) := hx
      obtain ⟨h1, h2, h3⟩ := hx
      refine (show AW _ _ _ (⟨26, 0, [(0, .d (enc (u : (List Int)))), (1, .d (enc (v : (List Int)))), (4, .d (.lit (.bool false))), (5, .d (.lit (.int .i64 i)))], []⟩ : St) _ from ?_)
      refine AW.seq ?_
      refine AW.seq ?_
      refine AW.region [0, 0, 0, 0] rfl ?_
      refine AO.ro rfl rfl (gOn_none rfl) (RO.move rfl rfl) ?_
      refine AO.ro rfl rfl (gOn_none rfl) (RO.move rfl rfl) ?_
      refine AO.ro rfl rfl (gOn_none rfl) (RO.len rfl Try.underlying26 rfl) ?_
      refine AO.split rfl rfl (gOn_none rfl) (RO.lss rfl rfl rfl) (fun t2 => ?_) (fun t2 => ?_)
      · skip
        refine AO.nil ?_
        refine AW.cond_t rfl ?_
        refine AW.skip ?_
        refine AW.seq ?_
        refine AW.block ?_
        refine AW.seq ?_
        refine AW.drawn [(0, 0), (0, 1), (0, 2), (0, 3), (0, 4), (0, 5), (0, 6), (0, 7), (0, 8)] (by kernel_rfl) (by kernel_rfl) ?_
        refine AO.ro rfl rfl (gOn_none rfl) (RO.move rfl rfl) ?_
        refine AO.ro rfl rfl (gOn_none rfl) (RO.move rfl rfl) ?_
        refine AO.ro rfl rfl (gOn_none rfl) (RO.idx rfl Try.underlying26 ti3 rfl rfl (by omega)) ?_
        refine AO.ro rfl rfl (gOn_none rfl) (RO.ld_addr rfl Try.underlying3 rfl rfl rfl) ?_
        refine AO.ro rfl rfl (gOn_none rfl) (RO.move rfl rfl) ?_
        refine AO.ro rfl rfl (gOn_none rfl) (RO.move rfl rfl) ?_
        refine AO.ro rfl rfl (gOn_none rfl) (RO.idx rfl Try.underlying26 ti3 rfl rfl (by omega)) ?_
        refine AO.ro rfl rfl (gOn_none rfl) (RO.ld_addr rfl Try.underlying3 rfl rfl rfl) ?_
        refine AO.splitn rfl rfl (gOn_none rfl) (RO.neq rfl rfl rfl) (fun t3 => ?_) (fun t3 => ?_)
        · skip
          refine AO.nil ?_
          refine AW.cond_t rfl ?_
          refine AW.seq ?_
          refine AW.region [0] rfl ?_
          refine AO.ro rfl rfl (gOn_none rfl) (RO.assign rfl rfl) ?_
          refine AO.nil ?_
          refine AW.ret ?_
          refine ⟨[], [.d (.lit (.bool false))], [], rfl, ⟨⟨_, rfl, .inl rfl⟩, rfl⟩, trivial, ?_⟩
          refine ⟨false, rfl, rfl, ?_⟩
          rw [eq_comm, decide_eq_false_iff_not]; rintro rfl; contradiction
        · skip
          refine AO.nil ?_
          refine AW.cond_f rfl ?_
          refine AW.skip ?_
          refine AW.region [0, 0, 0] rfl ?_
          refine AO.ro rfl rfl (gOn_none rfl) (RO.move rfl rfl) ?_
          refine AO.ro rfl rfl (gOn_none rfl) (RO.add rfl rfl rfl (by omega)) ?_
          refine AO.ro rfl rfl (gOn_none rfl) (RO.assign rfl rfl) ?_
          refine AO.nil ?_
          refine ⟨i + 1, [], ?_, ?_, ⟨rfl, rfl, ⟨⟨_, rfl, .inl rfl⟩, ⟨⟨_, rfl, .inl rfl⟩, ⟨⟨_, rfl, .inl rfl⟩, ⟨⟨_, rfl, .inl rfl⟩, trivial⟩⟩⟩⟩, trivial⟩⟩
          · try dsimp only
            exact ⟨by omega, h2, below_succ h3 (by assumption)⟩
          · try dsimp only
            first | omega | (simp; done) | (simp_all; done) | (simp_all; omega)
      · skip
        refine AO.nil ?_
        refine AW.cond_f rfl ?_
        refine AW.exit ?_
        refine AW.seq ?_
        refine AW.region [0] rfl ?_
        refine AO.ro rfl rfl (gOn_none rfl) (RO.assign rfl rfl) ?_
        refine AO.nil ?_
        refine AW.ret ?_
        refine ⟨[], [.d (.lit (.bool true))], [], rfl, ⟨⟨_, rfl, .inl rfl⟩, rfl⟩, trivial, ?_⟩
        refine ⟨true, rfl, rfl, ?_⟩
        rw [eq_comm, decide_eq_true_iff]; exact ix_ext h2 (fun j a b => h3 j a (by omega))

theorem may1_ok (letters : Int) (w : (List Int)) : Fc Try.prog 18 [.d (.lit (.int .i64 letters)), .d (enc (w : (List Int)))] [] (fun r h => ∃ (y : Int), r = .d (.lit (.int .i64 y)) ∧ h = [] ∧ (y = mayE letters w)) := by
  refine Fc.of_body Try.func18 rfl Try.ntmps18 (by simp) (fun F => ?_)
  refine (show AW _ _ _ (⟨34, 0, [(0, .d (.lit (.int .i64 letters))), (1, .d (enc (w : (List Int))))], []⟩ : St) _ from ?_)
  refine AW.fact 1 rfl (fun ln_w => ?_)
  replace ln_w : w.length * 8 ≤ 140737488355328 := ln_w
  refine AW.seq ?_
  refine AW.region [0] rfl ?_
  refine AO.ro rfl rfl (gOn_none rfl) (RO.assign rfl rfl) ?_
  refine AO.nil ?_
  refine AW.seq ?_
  refine AW.seq ?_
  refine AW.region [0, 0, 0, 0, 0, 0] rfl ?_
  refine AO.ro rfl rfl (gOn_none rfl) (RO.move rfl rfl) ?_
  refine AO.split rfl rfl (gOn_none rfl) (RO.lss rfl rfl rfl) (fun t1 => ?_) (fun t1 => ?_)
  · skip
    refine AO.ro rfl rfl (gOn_none rfl) (RO.move rfl rfl) ?_
    refine AO.skip rfl rfl ⟨8, true, rfl, rfl, rfl⟩ ?_
    refine AO.skip rfl rfl ⟨8, true, rfl, rfl, rfl⟩ ?_
    refine AO.ro rfl rfl (gOn_none rfl) (RO.pick_t rfl rfl rfl) ?_
    refine AO.nil ?_
    refine AW.cond_t rfl ?_
    refine AW.seq ?_
    refine AW.region [0] rfl ?_
    refine AO.ro rfl rfl (gOn_none rfl) (RO.assign rfl rfl) ?_
    refine AO.nil ?_
    refine AW.ret ?_
    refine ⟨[], [.d (.lit (.int .i64 2))], [], rfl, ⟨⟨_, rfl, .inl rfl⟩, rfl⟩, trivial, ?_⟩
    refine ⟨2, rfl, rfl, ?_⟩
    exact (mayE_range (by omega)).symm
  · skip
    refine AO.ro rfl rfl (gOn_none rfl) (RO.move rfl rfl) ?_
    refine AO.ro rfl rfl ⟨8, false, rfl, rfl, rfl⟩ (RO.move rfl rfl) ?_
    refine AO.split rfl rfl ⟨8, false, rfl, rfl, rfl⟩ (RO.gtr rfl rfl rfl) (fun t2 => ?_) (fun t2 => ?_)
    · skip
      refine AO.ro rfl rfl (gOn_none rfl) (RO.pick_f rfl rfl rfl) ?_
      refine AO.nil ?_
      refine AW.cond_t rfl ?_
      refine AW.seq ?_
      refine AW.region [0] rfl ?_
      refine AO.ro rfl rfl (gOn_none rfl) (RO.assign rfl rfl) ?_
      refine AO.nil ?_
      refine AW.ret ?_
      refine ⟨[], [.d (.lit (.int .i64 2))], [], rfl, ⟨⟨_, rfl, .inl rfl⟩, rfl⟩, trivial, ?_⟩
      refine ⟨2, rfl, rfl, ?_⟩
      exact (mayE_range (by omega)).symm
    · skip
      refine AO.ro rfl rfl (gOn_none rfl) (RO.pick_f rfl rfl rfl) ?_
      refine AO.nil ?_
      refine AW.cond_f rfl ?_
      refine AW.skip ?_
      refine AW.seq ?_
      refine AW.seq ?_
      refine AW.region [0, 0, 0] rfl ?_
      refine AO.ro rfl rfl (gOn_none rfl) (RO.move rfl rfl) ?_
      refine AO.ro rfl rfl (gOn_none rfl) (RO.len rfl Try.underlying26 rfl) ?_
      refine AO.split rfl rfl (gOn_none rfl) (RO.gtr rfl rfl rfl) (fun t3 => ?_) (fun t3 => ?_)
      · skip
        refine AO.nil ?_
        refine AW.cond_t rfl ?_
        refine AW.seq ?_
        refine AW.region [0] rfl ?_
        refine AO.ro rfl rfl (gOn_none rfl) (RO.assign rfl rfl) ?_
        refine AO.nil ?_
        refine AW.ret ?_
        refine ⟨[], [.d (.lit (.int .i64 1))], [], rfl, ⟨⟨_, rfl, .inl rfl⟩, rfl⟩, trivial, ?_⟩
        refine ⟨1, rfl, rfl, ?_⟩
        exact (mayE_size (by omega) (by omega)).symm
      · skip
        refine AO.nil ?_
        refine AW.cond_f rfl ?_
        refine AW.skip ?_
        refine AW.seq ?_
        refine AW.seq ?_
        refine AW.region [0] rfl ?_
        refine AO.ro rfl rfl (gOn_none rfl) (RO.assign rfl rfl) ?_
        refine AO.nil ?_
        refine AW.block ?_
        refine AW.loop (mp := []) (X := Int) (fun x => ⟨34, 0, [(0, .d (.lit (.int .i64 letters))), (1, .d (enc (w : (List Int)))), (4, .d (.lit (.int .i64 0))), (5, .d (.lit (.int .i64 x)))], []⟩) (fun x => (0 ≤ x ∧ x ≤ w.length) ∧ (∀ j : Int, 0 ≤ j → j < x → 0 ≤ ix w j ∧ ix w j < letters)) (fun x => (w.length - x).toNat) 0 ?_ ⟨rfl, rfl, ⟨⟨_, rfl, .inl rfl⟩, ⟨⟨_, rfl, .inl rfl⟩, ⟨⟨_, rfl, .inl rfl⟩, ⟨⟨_, rfl, .inl rfl⟩, trivial⟩⟩⟩⟩, trivial⟩ ?_
        · try dsimp only
          exact ⟨by omega, fun j a b => by omega⟩
        · skip
          intro i hx
          replace hx : (0 ≤ i ∧ i ≤ w.length) ∧ (∀ j : Int, 0 ≤ j → j < i → 0 ≤ ix w j ∧ ix w j < letters) := hx
          obtain ⟨h1, h2⟩ := hx
          refine (show AW _ _ _ (⟨34, 0, [(0, .d (.lit (.int .i64 letters))), (1, .d (enc (w : (List Int)))), (4, .d (.lit (.int .i64 0))), (5, .d (.lit (.int .i64 i)))], []⟩ : St) _ from ?_)
          refine AW.seq ?_
          refine AW.seq ?_
          refine AW.region [0, 0, 0, 0] rfl ?_
          refine AO.ro rfl rfl (gOn_none rfl) (RO.move rfl rfl) ?_
          refine AO.ro rfl rfl (gOn_none rfl) (RO.move rfl rfl) ?_
          refine AO.ro rfl rfl (gOn_none rfl) (RO.len rfl Try.underlying26 rfl) ?_
          refine AO.split rfl rfl (gOn_none rfl) (RO.lss rfl rfl rfl) (fun t4 => ?_) (fun t4 => ?_)
          · skip
            refine AO.nil ?_
            refine AW.cond_t rfl ?_
            refine AW.skip ?_
            refine AW.seq ?_
            refine AW.block ?_
            refine AW.seq ?_
            refine AW.region [0, 0, 0, 0, 0, 0, 0, 0, 0, 0, 0, 0, 0] rfl ?_
            refine AO.ro rfl rfl (gOn_none rfl) (RO.move rfl rfl) ?_
            refine AO.ro rfl rfl (gOn_none rfl) (RO.move rfl rfl) ?_
            refine AO.ro rfl rfl (gOn_none rfl) (RO.idx rfl Try.underlying26 ti3 rfl rfl (by omega)) ?_
            refine AO.ro rfl rfl (gOn_none rfl) (RO.ld_addr rfl Try.underlying3 rfl rfl rfl) ?_
            refine AO.split rfl rfl (gOn_none rfl) (RO.lss rfl rfl rfl) (fun t5 => ?_) (fun t5 => ?_)
            · skip
              refine AO.ro rfl rfl (gOn_none rfl) (RO.move rfl rfl) ?_
              refine AO.skip rfl rfl ⟨26, true, rfl, rfl, rfl⟩ ?_
              refine AO.skip rfl rfl ⟨26, true, rfl, rfl, rfl⟩ ?_
              refine AO.skip rfl rfl ⟨26, true, rfl, rfl, rfl⟩ ?_
              refine AO.skip rfl rfl ⟨26, true, rfl, rfl, rfl⟩ ?_
              refine AO.skip rfl rfl ⟨26, true, rfl, rfl, rfl⟩ ?_
              refine AO.skip rfl rfl ⟨26, true, rfl, rfl, rfl⟩ ?_
              refine AO.ro rfl rfl (gOn_none rfl) (RO.pick_t rfl rfl rfl) ?_
              refine AO.nil ?_
              refine AW.cond_t rfl ?_
              refine AW.seq ?_
              refine AW.region [0] rfl ?_
              refine AO.ro rfl rfl (gOn_none rfl) (RO.assign rfl rfl) ?_
              refine AO.nil ?_
              refine AW.ret ?_
              refine ⟨[], [.d (.lit (.int .i64 2))], [], rfl, ⟨⟨_, rfl, .inl rfl⟩, rfl⟩, trivial, ?_⟩
              refine ⟨2, rfl, rfl, ?_⟩
              exact (mayE_bad (by omega) (by omega) (i := i) (by omega) (by omega)).symm
            · skip
              refine AO.ro rfl rfl (gOn_none rfl) (RO.move rfl rfl) ?_
              refine AO.ro rfl rfl ⟨26, false, rfl, rfl, rfl⟩ (RO.move rfl rfl) ?_
              refine AO.ro rfl rfl ⟨26, false, rfl, rfl, rfl⟩ (RO.move rfl rfl) ?_
              refine AO.ro rfl rfl ⟨26, false, rfl, rfl, rfl⟩ (RO.idx rfl Try.underlying26 ti3 rfl rfl (by omega)) ?_
              refine AO.ro rfl rfl ⟨26, false, rfl, rfl, rfl⟩ (RO.ld_addr rfl Try.underlying3 rfl rfl rfl) ?_
              refine AO.ro rfl rfl ⟨26, false, rfl, rfl, rfl⟩ (RO.move rfl rfl) ?_
              refine AO.split rfl rfl ⟨26, false, rfl, rfl, rfl⟩ (RO.geq rfl rfl rfl) (fun t6 => ?_) (fun t6 => ?_)
              · skip
                refine AO.ro rfl rfl (gOn_none rfl) (RO.pick_f rfl rfl rfl) ?_
                refine AO.nil ?_
                refine AW.cond_t rfl ?_
                refine AW.seq ?_
                refine AW.region [0] rfl ?_
                refine AO.ro rfl rfl (gOn_none rfl) (RO.assign rfl rfl) ?_
                refine AO.nil ?_
                refine AW.ret ?_
                refine ⟨[], [.d (.lit (.int .i64 2))], [], rfl, ⟨⟨_, rfl, .inl rfl⟩, rfl⟩, trivial, ?_⟩
                refine ⟨2, rfl, rfl, ?_⟩
                exact (mayE_bad (by omega) (by omega) (i := i) (by omega) (by omega)).symm
              · skip
                refine AO.ro rfl rfl (gOn_none rfl) (RO.pick_f rfl rfl rfl) ?_
                refine AO.nil ?_
                refine AW.cond_f rfl ?_
                refine AW.skip ?_
                refine AW.region [0, 0, 0] rfl ?_
                refine AO.ro rfl rfl (gOn_none rfl) (RO.move rfl rfl) ?_
                refine AO.ro rfl rfl (gOn_none rfl) (RO.add rfl rfl rfl (by omega)) ?_
                refine AO.ro rfl rfl (gOn_none rfl) (RO.assign rfl rfl) ?_
                refine AO.nil ?_
                refine ⟨i + 1, [], ?_, ?_, ⟨rfl, rfl, ⟨⟨_, rfl, .inl rfl⟩, ⟨⟨_, rfl, .inl rfl⟩, ⟨⟨_, rfl, .inl rfl⟩, ⟨⟨_, rfl, .inl rfl⟩, trivial⟩⟩⟩⟩, trivial⟩⟩
                · try dsimp only
                  exact ⟨by omega, below_succ h2 (by omega)⟩
                · try dsimp only
                  first | omega | (simp; done) | (simp_all; done) | (simp_all; omega)
          · skip
            refine AO.nil ?_
            refine AW.cond_f rfl ?_
            refine AW.exit ?_
            refine AW.seq ?_
            refine AW.region [0] rfl ?_
            refine AO.ro rfl rfl (gOn_none rfl) (RO.assign rfl rfl) ?_
            refine AO.nil ?_
            refine AW.ret ?_
            refine ⟨[], [.d (.lit (.int .i64 0))], [], rfl, ⟨⟨_, rfl, .inl rfl⟩, rfl⟩, trivial, ?_⟩
            refine ⟨0, rfl, rfl, ?_⟩
            exact (mayE_ok (by omega) (by omega) (fun j a b => h2 j a (by omega))).symm

theorem may_ok (letters : Int) (w : (List Int)) : Fc Try.prog 52 [.d (.lit (.int .i64 letters)), .d (enc (w : (List Int)))] [] (fun r h => ∃ (y : Int), r = .d (.lit (.int .i64 y)) ∧ h = [] ∧ (y = mayE letters w)) := by
  refine Fc.of_body Try.func52 rfl Try.ntmps52 (by simp) (fun F => ?_)
  refine (show AW _ _ _ (⟨30, 0, [(0, .d (.lit (.int .i64 letters))), (1, .d (enc (w : (List Int))))], []⟩ : St) _ from ?_)
  refine AW.fact 1 rfl (fun ln_w => ?_)
  replace ln_w : w.length * 8 ≤ 140737488355328 := ln_w
  refine AW.seq ?_
  refine AW.region [0] rfl ?_
  refine AO.ro rfl rfl (gOn_none rfl) (RO.assign rfl rfl) ?_
  refine AO.nil ?_
  refine AW.seq ?_
  refine AW.seq ?_
  refine AW.region [0, 0, 0, 0, 0, 0] rfl ?_
  refine AO.ro rfl rfl (gOn_none rfl) (RO.move rfl rfl) ?_
  refine AO.split rfl rfl (gOn_none rfl) (RO.lss rfl rfl rfl) (fun t1 => ?_) (fun t1 => ?_)
  · skip
    refine AO.ro rfl rfl (gOn_none rfl) (RO.move rfl rfl) ?_
    refine AO.skip rfl rfl ⟨9, true, rfl, rfl, rfl⟩ ?_
    refine AO.skip rfl rfl ⟨9, true, rfl, rfl, rfl⟩ ?_
    refine AO.ro rfl rfl (gOn_none rfl) (RO.pick_t rfl rfl rfl) ?_
    refine AO.nil ?_
    refine AW.cond_t rfl ?_
    refine AW.seq ?_
    refine AW.region [0] rfl ?_
    refine AO.ro rfl rfl (gOn_none rfl) (RO.assign rfl rfl) ?_
    refine AO.nil ?_
    refine AW.ret ?_
    refine ⟨[], [.d (.lit (.int .i64 2))], [], rfl, ⟨⟨_, rfl, .inl rfl⟩, rfl⟩, trivial, ?_⟩
    refine ⟨2, rfl, rfl, ?_⟩
    exact (mayE_range (by omega)).symm
  · skip
    refine AO.ro rfl rfl (gOn_none rfl) (RO.move rfl rfl) ?_
    refine AO.ro rfl rfl ⟨9, false, rfl, rfl, rfl⟩ (RO.move rfl rfl) ?_
    refine AO.split rfl rfl ⟨9, false, rfl, rfl, rfl⟩ (RO.gtr rfl rfl rfl) (fun t2 => ?_) (fun t2 => ?_)
    · skip
      refine AO.ro rfl rfl (gOn_none rfl) (RO.pick_f rfl rfl rfl) ?_
      refine AO.nil ?_
      refine AW.cond_t rfl ?_
      refine AW.seq ?_
      refine AW.region [0] rfl ?_
      refine AO.ro rfl rfl (gOn_none rfl) (RO.assign rfl rfl) ?_
      refine AO.nil ?_
      refine AW.ret ?_
      refine ⟨[], [.d (.lit (.int .i64 2))], [], rfl, ⟨⟨_, rfl, .inl rfl⟩, rfl⟩, trivial, ?_⟩
      refine ⟨2, rfl, rfl, ?_⟩
      exact (mayE_range (by omega)).symm
    · skip
      refine AO.ro rfl rfl (gOn_none rfl) (RO.pick_f rfl rfl rfl) ?_
      refine AO.nil ?_
      refine AW.cond_f rfl ?_
      refine AW.skip ?_
      refine AW.seq ?_
      refine AW.seq ?_
      refine AW.region [0, 0, 0] rfl ?_
      refine AO.ro rfl rfl (gOn_none rfl) (RO.move rfl rfl) ?_
      refine AO.ro rfl rfl (gOn_none rfl) (RO.len rfl Try.underlying26 rfl) ?_
      refine AO.split rfl rfl (gOn_none rfl) (RO.gtr rfl rfl rfl) (fun t3 => ?_) (fun t3 => ?_)
      · skip
        refine AO.nil ?_
        refine AW.cond_t rfl ?_
        refine AW.seq ?_
        refine AW.region [0] rfl ?_
        refine AO.ro rfl rfl (gOn_none rfl) (RO.assign rfl rfl) ?_
        refine AO.nil ?_
        refine AW.ret ?_
        refine ⟨[], [.d (.lit (.int .i64 1))], [], rfl, ⟨⟨_, rfl, .inl rfl⟩, rfl⟩, trivial, ?_⟩
        refine ⟨1, rfl, rfl, ?_⟩
        exact (mayE_size (by omega) (by omega)).symm
      · skip
        refine AO.nil ?_
        refine AW.cond_f rfl ?_
        refine AW.skip ?_
        refine AW.seq ?_
        refine AW.seq ?_
        refine AW.region [0, 0, 0] rfl ?_
        refine AO.ro rfl rfl (gOn_none rfl) (RO.move rfl rfl) ?_
        refine AO.ro rfl rfl (gOn_none rfl) (RO.len rfl Try.underlying26 rfl) ?_
        refine AO.ro rfl rfl (gOn_none rfl) (RO.move rfl rfl) ?_
        refine AO.nil ?_
        refine AW.block ?_
        refine AW.loop (mp := []) (X := Int) (fun x => ⟨30, 0, [(0, .d (.lit (.int .i64 letters))), (4, .d (.lit (.int .i64 0))), (16, .d (enc (w : (List Int)))), (17, .d (.lit (.int .i64 ((w.length : Int))))), (18, .d (.lit (.int .i64 x)))], []⟩) (fun x => (0 ≤ x ∧ x ≤ w.length) ∧ (∀ j : Int, 0 ≤ j → j < x → 0 ≤ ix w j ∧ ix w j < letters)) (fun x => (w.length - x).toNat) 0 ?_ ⟨rfl, rfl, ⟨⟨_, rfl, .inl rfl⟩, ⟨⟨_, rfl, .inl rfl⟩, ⟨⟨_, rfl, .inl rfl⟩, ⟨⟨_, rfl, .inl rfl⟩, ⟨⟨_, rfl, .inl rfl⟩, trivial⟩⟩⟩⟩⟩, trivial⟩ ?_
        · try dsimp only
          exact ⟨by omega, fun j a b => by omega⟩
        · skip
          intro i hx
          replace hx : (0 ≤ i ∧ i ≤ w.length) ∧ (∀ j : Int, 0 ≤ j → j < i → 0 ≤ ix w j ∧ ix w j < letters) := hx
          obtain ⟨h1, h2⟩ := hx
          refine (show AW _ _ _ (⟨30, 0, [(0, .d (.lit (.int .i64 letters))), (4, .d (.lit (.int .i64 0))), (16, .d (enc (w : (List Int)))), (17, .d (.lit (.int .i64 ((w.length : Int))))), (18, .d (.lit (.int .i64 i)))], []⟩ : St) _ from ?_)
          refine AW.seq ?_
          refine AW.region [0] rfl ?_
          refine AO.split rfl rfl (gOn_none rfl) (RO.lss rfl rfl rfl) (fun t4 => ?_) (fun t4 => ?_)
          · skip
            refine AO.nil ?_
            refine AW.seq ?_
            refine AW.cond_t rfl ?_
            refine AW.skip ?_
            refine AW.seq ?_
            refine AW.block ?_
            refine AW.seq ?_
            refine AW.region [0, 0, 0] rfl ?_
            refine AO.ro rfl rfl (gOn_none rfl) (RO.idx rfl Try.underlying26 ti3 rfl rfl (by omega)) ?_
            refine AO.ro rfl rfl (gOn_none rfl) (RO.ld_addr rfl Try.underlying3 rfl rfl rfl) ?_
            refine AO.ro rfl rfl (gOn_none rfl) (RO.assign rfl rfl) ?_
            refine AO.nil ?_
            refine AW.seq ?_
            refine AW.region [0, 0, 0, 0, 0, 0, 0] rfl ?_
            refine AO.ro rfl rfl (gOn_none rfl) (RO.move rfl rfl) ?_
            refine AO.split rfl rfl (gOn_none rfl) (RO.lss rfl rfl rfl) (fun t5 => ?_) (fun t5 => ?_)
            · skip
              refine AO.ro rfl rfl (gOn_none rfl) (RO.move rfl rfl) ?_
              refine AO.skip rfl rfl ⟨24, true, rfl, rfl, rfl⟩ ?_
              refine AO.skip rfl rfl ⟨24, true, rfl, rfl, rfl⟩ ?_
              refine AO.skip rfl rfl ⟨24, true, rfl, rfl, rfl⟩ ?_
              refine AO.ro rfl rfl (gOn_none rfl) (RO.pick_t rfl rfl rfl) ?_
              refine AO.nil ?_
              refine AW.cond_t rfl ?_
              refine AW.seq ?_
              refine AW.region [0] rfl ?_
              refine AO.ro rfl rfl (gOn_none rfl) (RO.assign rfl rfl) ?_
              refine AO.nil ?_
              refine AW.ret ?_
              refine ⟨[], [.d (.lit (.int .i64 2))], [], rfl, ⟨⟨_, rfl, .inl rfl⟩, rfl⟩, trivial, ?_⟩
              refine ⟨2, rfl, rfl, ?_⟩
              exact (mayE_bad (by omega) (by omega) (i := i) (by omega) (by omega)).symm
            · skip
              refine AO.ro rfl rfl (gOn_none rfl) (RO.move rfl rfl) ?_
              refine AO.ro rfl rfl ⟨24, false, rfl, rfl, rfl⟩ (RO.move rfl rfl) ?_
              refine AO.ro rfl rfl ⟨24, false, rfl, rfl, rfl⟩ (RO.move rfl rfl) ?_
              refine AO.split rfl rfl ⟨24, false, rfl, rfl, rfl⟩ (RO.geq rfl rfl rfl) (fun t6 => ?_) (fun t6 => ?_)
              · skip
                refine AO.ro rfl rfl (gOn_none rfl) (RO.pick_f rfl rfl rfl) ?_
                refine AO.nil ?_
                refine AW.cond_t rfl ?_
                refine AW.seq ?_
                refine AW.region [0] rfl ?_
                refine AO.ro rfl rfl (gOn_none rfl) (RO.assign rfl rfl) ?_
                refine AO.nil ?_
                refine AW.ret ?_
                refine ⟨[], [.d (.lit (.int .i64 2))], [], rfl, ⟨⟨_, rfl, .inl rfl⟩, rfl⟩, trivial, ?_⟩
                refine ⟨2, rfl, rfl, ?_⟩
                exact (mayE_bad (by omega) (by omega) (i := i) (by omega) (by omega)).symm
              · skip
                refine AO.ro rfl rfl (gOn_none rfl) (RO.pick_f rfl rfl rfl) ?_
                refine AO.nil ?_
                refine AW.cond_f rfl ?_
                refine AW.skip ?_
                refine AW.region [0, 0] rfl ?_
                refine AO.ro rfl rfl (gOn_none rfl) (RO.add rfl rfl rfl (by omega)) ?_
                refine AO.ro rfl rfl (gOn_none rfl) (RO.move rfl rfl) ?_
                refine AO.nil ?_
                refine ⟨i + 1, [], ?_, ?_, ⟨rfl, rfl, ⟨⟨_, rfl, .inl rfl⟩, ⟨⟨_, rfl, .inl rfl⟩, ⟨⟨_, rfl, .inl rfl⟩, ⟨⟨_, rfl, .inl rfl⟩, ⟨⟨_, rfl, .inl rfl⟩, trivial⟩⟩⟩⟩⟩, trivial⟩⟩
                · try dsimp only
                  exact ⟨by omega, below_succ h2 (by omega)⟩
                · try dsimp only
                  first | omega | (simp; done) | (simp_all; done) | (simp_all; omega)
          · skip
            refine AO.nil ?_
            refine AW.seq ?_
            refine AW.cond_f rfl ?_
            refine AW.exit ?_
            refine AW.seq ?_
            refine AW.region [0] rfl ?_
            refine AO.ro rfl rfl (gOn_none rfl) (RO.assign rfl rfl) ?_
            refine AO.nil ?_
            refine AW.ret ?_
            refine ⟨[], [.d (.lit (.int .i64 0))], [], rfl, ⟨⟨_, rfl, .inl rfl⟩, rfl⟩, trivial, ?_⟩
            refine ⟨0, rfl, rfl, ?_⟩
            exact (mayE_ok (by omega) (by omega) (fun j a b => h2 j a (by omega))).symm

def SayCell (m : Machine) (i : Int) : Prop := (0 ≤ (ix m.Next i).x0 ∧ (ix m.Next i).x0 < m.Says.length) ∧ (0 ≤ (ix m.Next i).x1 ∧ (ix m.Next i).x1 < m.Says.length) ∧
  ((ix m.Says i).x0 = 0 ∨ (ix m.Says i).x0 = 1) ∧ ((ix m.Says i).x1 = 0 ∨ (ix m.Says i).x1 = 1)
def SaySize (m : Machine) : Prop := 1 ≤ (m.Says.length : Int) ∧ (m.Says.length : Int) ≤ 20000 ∧ (m.Next.length : Int) = m.Says.length
def SayTab (m : Machine) : Prop := ∀ i : Int, 0 ≤ i → i < m.Says.length → SayCell m i
def SayIn (m : Machine) : Prop := 0 ≤ m.Start ∧ m.Start < m.Says.length
def SayFst (m : Machine) : Prop := m.First = true → ∀ s ∈ m.Says, s.x0 = s.x1
open Classical in
/-- The fault of a machine. -/
noncomputable def chkE (m : Machine) : Int := if ¬ SaySize m then 1 else if ¬ (SayTab m ∧ SayIn m) then 2 else if ¬ SayFst m then 3 else 0
open Classical in
noncomputable def sayE (m : Machine) (heard : List Int) : Int := if chkE m ≠ 0 then chkE m else if (60 : Int) < heard.length then 1 else if ∀ x ∈ heard, x = 0 ∨ x = 1 then 0 else 2
def sayRun (m : Machine) : Int → List Int → List Int
  | _, [] => []
  | q, x :: xs => (ix m.Says q).ix x :: sayRun m ((ix m.Next q).ix x) xs
theorem chk_size {m : Machine} (h : ¬ SaySize m) : chkE m = 1 := if_pos h
theorem chk_tab {m : Machine} (h : SaySize m) (h2 : ¬ (SayTab m ∧ SayIn m)) : chkE m = 2 := by unfold chkE; rw [if_neg (by simpa using h), if_pos h2]
theorem chk_fst {m : Machine} (h : SaySize m) (h2 : SayTab m) (h3 : SayIn m) (h4 : ¬ SayFst m) : chkE m = 3 := by unfold chkE; rw [if_neg (by simpa using h), if_neg (by simpa using ⟨h2, h3⟩), if_pos h4]
theorem chk_ok {m : Machine} (h : SaySize m) (h2 : SayTab m) (h3 : SayIn m) (h4 : SayFst m) : chkE m = 0 := by unfold chkE; rw [if_neg (by simpa using h), if_neg (by simpa using ⟨h2, h3⟩), if_neg (by simpa using h4)]
theorem chk_zero {m : Machine} (h : chkE m = 0) : SaySize m ∧ SayTab m ∧ SayIn m ∧ SayFst m := by
  unfold chkE at h
  split at h
  · omega
  · rename_i h1
    split at h
    · omega
    · rename_i h2
      split at h
      · omega
      · rename_i h3; exact ⟨by simpa using h1, (by simpa using h2 : SayTab m ∧ SayIn m).1, (by simpa using h2 : SayTab m ∧ SayIn m).2, by simpa using h3⟩
theorem say_chk {m : Machine} {l : List Int} (h : chkE m ≠ 0) : sayE m l = chkE m := if_pos h
theorem say_long {m : Machine} {l : List Int} (h : chkE m = 0) (h2 : (60 : Int) < l.length) : sayE m l = 1 := by unfold sayE; rw [if_neg (by simpa using h), if_pos h2]
theorem say_bad {m : Machine} {l : List Int} (h : chkE m = 0) (h2 : ¬ (60 : Int) < l.length) (h3 : ¬ ∀ x ∈ l, x = 0 ∨ x = 1) : sayE m l = 2 := by unfold sayE; rw [if_neg (by simpa using h), if_neg h2, if_neg h3]
theorem say_ok {m : Machine} {l : List Int} (h : chkE m = 0) (h2 : ¬ (60 : Int) < l.length) (h3 : ∀ x ∈ l, x = 0 ∨ x = 1) : sayE m l = 0 := by unfold sayE; rw [if_neg (by simpa using h), if_neg h2, if_pos h3]
def SaySpec (m : Machine) (heard l : List Int) (e : Int) : Prop := e = sayE m heard ∧ l = if sayE m heard = 0 then sayRun m m.Start heard else []
theorem spec_err {m : Machine} {heard : List Int} {k : Int} (h : sayE m heard = k) (hk : k ≠ 0) : SaySpec m heard [] k := ⟨h.symm, by rw [h, if_neg hk]⟩
theorem spec_ok {m : Machine} {heard l : List Int} (h : sayE m heard = 0) (hl : sayRun m m.Start heard = l) : SaySpec m heard l 0 := ⟨h.symm, by rw [h, if_pos rfl, hl]⟩
theorem say_of {m : Machine} {heard : List Int} {k : Int} (h : chkE m = k) (hk : k ≠ 0) : sayE m heard = k := by rw [say_chk (by rw [h]; exact hk), h]
def CellAt (m : Machine) (i j : Int) : Prop := (0 ≤ (ix m.Next i).ix j ∧ (ix m.Next i).ix j < m.Says.length) ∧ ((ix m.Says i).ix j = 0 ∨ (ix m.Says i).ix j = 1)
theorem a2_in {P : Int → Prop} {b : A2 Int} {i : Int} (h0 : P b.x0) (h1 : P b.x1) : P (b.ix i) := by unfold A2.ix; split <;> assumption
theorem a2_one {b : A2 Int} {i : Int} (h : i = 1) : b.ix i = b.x1 := by subst h; rfl
theorem a2_zero {b : A2 Int} {i : Int} (h : i = 0) : b.ix i = b.x0 := by subst h; rfl
theorem run_step {m : Machine} {l : List Int} {i q : Int} (h0 : 0 ≤ i) (h : i < l.length) : sayRun m q (l.drop i.toNat) = (ix m.Says q).ix (ix l i) :: sayRun m ((ix m.Next q).ix (ix l i)) (l.drop (i + 1).toNat) := by
  rw [ix_drop h0 h]; rfl
theorem next_in {m : Machine} (ht : SayTab m) {q x : Int} (hq : 0 ≤ q ∧ q < m.Says.length) : 0 ≤ (ix m.Next q).ix x ∧ (ix m.Next q).ix x < m.Says.length :=
  a2_in (P := fun z => 0 ≤ z ∧ z < m.Says.length) (ht q hq.1 hq.2).1 (ht q hq.1 hq.2).2.1
theorem saysBad_ok (q : Int) (n : Int) : Fc Try.prog 54 [.d (.lit (.int .i64 q)), .addr (enc (n : Int))] [] (fun r h => ∃ (y : Bool), r = .d (.lit (.bool y)) ∧ h = [] ∧ (y = decide (q < 0 ∨ n ≤ q))) := by
  refine Fc.of_body Try.func54 rfl Try.ntmps54 (by simp) (fun F => ?_)
  refine (show AW _ _ _ (⟨11, 0, [(0, .d (.lit (.int .i64 q))), (1, .addr (enc (n : Int)))], []⟩ : St) _ from ?_)
  refine AW.seq ?_
  refine AW.region [0] rfl ?_
  refine AO.ro rfl rfl (gOn_none rfl) (RO.assign rfl rfl) ?_
  refine AO.nil ?_
  refine AW.seq ?_
  refine AW.region [0, 0, 0, 0, 0, 0, 0, 0] rfl ?_
  refine AO.ro rfl rfl (gOn_none rfl) (RO.move rfl rfl) ?_
  refine AO.split rfl rfl (gOn_none rfl) (RO.lss rfl rfl rfl) (fun t1 => ?_) (fun t1 => ?_)
  · skip
    refine AO.ro rfl rfl (gOn_none rfl) (RO.move rfl rfl) ?_
    refine AO.skip rfl rfl ⟨6, true, rfl, rfl, rfl⟩ ?_
    refine AO.skip rfl rfl ⟨6, true, rfl, rfl, rfl⟩ ?_
    refine AO.skip rfl rfl ⟨6, true, rfl, rfl, rfl⟩ ?_
    refine AO.ro rfl rfl (gOn_none rfl) (RO.pick_t rfl rfl rfl) ?_
    refine AO.ro rfl rfl (gOn_none rfl) (RO.assign rfl rfl) ?_
    refine AO.nil ?_
    refine AW.ret ?_
    refine ⟨[], [.d (.lit (.bool true))], [], rfl, ⟨⟨_, rfl, .inl rfl⟩, rfl⟩, trivial, ?_⟩
    refine ⟨true, rfl, rfl, ?_⟩
    simp; omega
  · skip
    refine AO.ro rfl rfl (gOn_none rfl) (RO.move rfl rfl) ?_
    refine AO.ro rfl rfl ⟨6, false, rfl, rfl, rfl⟩ (RO.move rfl rfl) ?_
    refine AO.ro rfl rfl ⟨6, false, rfl, rfl, rfl⟩ (RO.ld_addr rfl Try.underlying3 rfl rfl rfl) ?_
    refine AO.split rfl rfl ⟨6, false, rfl, rfl, rfl⟩ (RO.geq rfl rfl rfl) (fun t2 => ?_) (fun t2 => ?_)
    · skip
      refine AO.ro rfl rfl (gOn_none rfl) (RO.pick_f rfl rfl rfl) ?_
      refine AO.ro rfl rfl (gOn_none rfl) (RO.assign rfl rfl) ?_
      refine AO.nil ?_
      refine AW.ret ?_
      refine ⟨[], [.d (.lit (.bool true))], [], rfl, ⟨⟨_, rfl, .inl rfl⟩, rfl⟩, trivial, ?_⟩
      refine ⟨true, rfl, rfl, ?_⟩
      simp; omega
    · skip
      refine AO.ro rfl rfl (gOn_none rfl) (RO.pick_f rfl rfl rfl) ?_
      refine AO.ro rfl rfl (gOn_none rfl) (RO.assign rfl rfl) ?_
      refine AO.nil ?_
      refine AW.ret ?_
      refine ⟨[], [.d (.lit (.bool false))], [], rfl, ⟨⟨_, rfl, .inl rfl⟩, rfl⟩, trivial, ?_⟩
      refine ⟨false, rfl, rfl, ?_⟩
      simp; omega

theorem saysBit_ok (x : Int) : Fc Try.prog 55 [.d (.lit (.int .i64 x))] [] (fun r h => ∃ (y : Bool), r = .d (.lit (.bool y)) ∧ h = [] ∧ (y = decide (x ≠ 0 ∧ x ≠ 1))) := by
  refine Fc.of_body Try.func55 rfl Try.ntmps55 (by simp) (fun F => ?_)
  refine (show AW _ _ _ (⟨9, 0, [(0, .d (.lit (.int .i64 x)))], []⟩ : St) _ from ?_)
  refine AW.seq ?_
  refine AW.region [0] rfl ?_
  refine AO.ro rfl rfl (gOn_none rfl) (RO.assign rfl rfl) ?_
  refine AO.nil ?_
  refine AW.seq ?_
  refine AW.region [0, 0, 0, 0, 0, 0, 0] rfl ?_
  refine AO.ro rfl rfl (gOn_none rfl) (RO.move rfl rfl) ?_
  refine AO.splitn rfl rfl (gOn_none rfl) (RO.neq rfl rfl rfl) (fun t1 => ?_) (fun t1 => ?_)
  · skip
    refine AO.ro rfl rfl (gOn_none rfl) (RO.move rfl rfl) ?_
    refine AO.ro rfl rfl ⟨5, true, rfl, rfl, rfl⟩ (RO.move rfl rfl) ?_
    refine AO.splitn rfl rfl ⟨5, true, rfl, rfl, rfl⟩ (RO.neq rfl rfl rfl) (fun t2 => ?_) (fun t2 => ?_)
    · skip
      refine AO.ro rfl rfl (gOn_none rfl) (RO.pick_t rfl rfl rfl) ?_
      refine AO.ro rfl rfl (gOn_none rfl) (RO.assign rfl rfl) ?_
      refine AO.nil ?_
      refine AW.ret ?_
      refine ⟨[], [.d (.lit (.bool true))], [], rfl, ⟨⟨_, rfl, .inl rfl⟩, rfl⟩, trivial, ?_⟩
      refine ⟨true, rfl, rfl, ?_⟩
      simp; omega
    · skip
      refine AO.ro rfl rfl (gOn_none rfl) (RO.pick_t rfl rfl rfl) ?_
      refine AO.ro rfl rfl (gOn_none rfl) (RO.assign rfl rfl) ?_
      refine AO.nil ?_
      refine AW.ret ?_
      refine ⟨[], [.d (.lit (.bool false))], [], rfl, ⟨⟨_, rfl, .inl rfl⟩, rfl⟩, trivial, ?_⟩
      refine ⟨false, rfl, rfl, ?_⟩
      simp; omega
  · skip
    refine AO.ro rfl rfl (gOn_none rfl) (RO.move rfl rfl) ?_
    refine AO.skip rfl rfl ⟨5, false, rfl, rfl, rfl⟩ ?_
    refine AO.skip rfl rfl ⟨5, false, rfl, rfl, rfl⟩ ?_
    refine AO.ro rfl rfl (gOn_none rfl) (RO.pick_f rfl rfl rfl) ?_
    refine AO.ro rfl rfl (gOn_none rfl) (RO.assign rfl rfl) ?_
    refine AO.nil ?_
    refine AW.ret ?_
    refine ⟨[], [.d (.lit (.bool false))], [], rfl, ⟨⟨_, rfl, .inl rfl⟩, rfl⟩, trivial, ?_⟩
    refine ⟨false, rfl, rfl, ?_⟩
    simp; omega

theorem saysDiff_ok (s : (A2 Int)) : Fc Try.prog 57 [.d (enc (s : (A2 Int)))] [] (fun r h => ∃ (y : Bool), r = .d (.lit (.bool y)) ∧ h = [] ∧ (y = decide (s.x0 ≠ s.x1))) := by
  refine Fc.of_body Try.func57 rfl Try.ntmps57 (by simp) (fun F => ?_)
  refine (show AW _ _ _ (⟨8, 0, [(0, .d (enc (s : (A2 Int))))], []⟩ : St) _ from ?_)
  refine AW.seq ?_
  refine AW.region [1, 0] rfl ?_
  refine AO.al1 (gOn_none rfl) (AL.box 0 rfl (by kernel_rfl) rfl rfl rfl rfl rfl) ?_
  refine AO.ro rfl rfl (gOn_none rfl) (RO.assign rfl rfl) ?_
  refine AO.nil ?_
  refine AW.seq ?_
  refine AW.region [0, 0, 0, 0, 0, 0] rfl ?_
  refine AO.ro rfl rfl (gOn_none rfl) (RO.idx_ptr (j := 0) rfl Try.underlying87 ti3 rfl rfl (by kernel_rfl)) ?_
  refine AO.ro rfl rfl (gOn_none rfl) (RO.ld_ptr rfl Try.underlying3 rfl rfl rfl rfl) ?_
  refine AO.ro rfl rfl (gOn_none rfl) (RO.idx_ptr (j := 1) rfl Try.underlying87 ti3 rfl rfl (by kernel_rfl)) ?_
  refine AO.ro rfl rfl (gOn_none rfl) (RO.ld_ptr rfl Try.underlying3 rfl rfl rfl rfl) ?_
  refine AO.splitn rfl rfl (gOn_none rfl) (RO.neq rfl rfl rfl) (fun t1 => ?_) (fun t1 => ?_)
  · skip
    refine AO.ro rfl rfl (gOn_none rfl) (RO.assign rfl rfl) ?_
    refine AO.nil ?_
    refine AW.ret ?_
    refine ⟨[], [.d (.lit (.bool true))], [], rfl, ⟨⟨_, rfl, .inl rfl⟩, rfl⟩, trivial, ?_⟩
    refine ⟨true, rfl, rfl, ?_⟩
    first | omega | (simp; done) | (simp_all; done) | (simp_all; omega)
  · skip
    refine AO.ro rfl rfl (gOn_none rfl) (RO.assign rfl rfl) ?_
    refine AO.nil ?_
    refine AW.ret ?_
    refine ⟨[], [.d (.lit (.bool false))], [], rfl, ⟨⟨_, rfl, .inl rfl⟩, rfl⟩, trivial, ?_⟩
    refine ⟨false, rfl, rfl, ?_⟩
    first | omega | (simp; done) | (simp_all; done) | (simp_all; omega)

theorem saysP_ok (m : Machine) (heard : (List Int)) : Fc Try.prog 24 [.d (enc (m : Machine)), .d (enc (heard : (List Int)))] [] (fun r h => ∃ (l : (List Int)) (e : Int), r = .tup [.d (enc (l : (List Int))), .d (.lit (.int .i64 e))] ∧ h = [] ∧ (SaySpec m heard l e)) := by
  refine Fc.of_body Try.func24 rfl Try.ntmps24 (by simp) (fun F => ?_)
  refine (show AW _ _ _ (⟨118, 0, [(0, .d (enc (m : Machine))), (1, .d (enc (heard : (List Int))))], []⟩ : St) _ from ?_)
  refine AW.fact 1 rfl (fun ln_heard => ?_)
  replace ln_heard : heard.length * 8 ≤ 140737488355328 := ln_heard
  refine AW.seq ?_
  refine AW.region [1, 0, 0] rfl ?_
  refine AO.al1 (gOn_none rfl) (AL.box 0 rfl (by kernel_rfl) rfl rfl rfl rfl rfl) ?_
  refine AO.ro rfl rfl (gOn_none rfl) (RO.assign rfl rfl) ?_
  refine AO.ro rfl rfl (gOn_none rfl) (RO.assign rfl rfl) ?_
  refine AO.nil ?_
  refine AW.seq ?_
  refine AW.region [0, 0, 0, 1, 2] rfl ?_
  refine AO.ro rfl rfl (gOn_none rfl) (RO.fld_ptr rfl fa42_2 rfl) ?_
  refine AO.ro rfl rfl (gOn_none rfl) (RO.ld_ptr rfl Try.underlying40 rfl rfl rfl rfl) ?_
  refine AO.fact 15 rfl (fun ln1 => ?_)
  replace ln1 : m.Says.length * 16 ≤ 140737488355328 := ln1
  refine AO.ro rfl rfl (gOn_none rfl) (RO.len rfl Try.underlying40 rfl) ?_
  refine AO.al1 (gOn_none rfl) (AL.alloc 1 rfl (by kernel_rfl) rfl rfl rfl ti3 rfl) ?_
  refine AO.ef1 (gOn_none rfl) (EF.st_ptr rfl rfl ti3 rfl rfl rfl rfl rfl rfl (by decide)) ?_
  refine AO.nil ?_
  refine AW.seq ?_
  refine AW.seq ?_
  refine AW.region [0, 0, 0, 0, 0, 0, 0, 0, 0, 0, 0, 0, 0] rfl ?_
  refine AO.ro rfl rfl (gOn_none rfl) (RO.ld_ptr rfl Try.underlying3 rfl rfl rfl rfl) ?_
  refine AO.split rfl rfl (gOn_none rfl) (RO.lss rfl rfl rfl) (fun t2 => ?_) (fun t2 => ?_)
  · skip
    refine AO.ro rfl rfl (gOn_none rfl) (RO.move rfl rfl) ?_
    refine AO.skip rfl rfl ⟨19, true, rfl, rfl, rfl⟩ ?_
    refine AO.skip rfl rfl ⟨19, true, rfl, rfl, rfl⟩ ?_
    refine AO.ro rfl rfl (gOn_none rfl) (RO.pick_t rfl rfl rfl) ?_
    refine AO.ro rfl rfl (gOn_none rfl) (RO.move rfl rfl) ?_
    refine AO.skip rfl rfl ⟨23, true, rfl, rfl, rfl⟩ ?_
    refine AO.skip rfl rfl ⟨23, true, rfl, rfl, rfl⟩ ?_
    refine AO.skip rfl rfl ⟨23, true, rfl, rfl, rfl⟩ ?_
    refine AO.skip rfl rfl ⟨23, true, rfl, rfl, rfl⟩ ?_
    refine AO.skip rfl rfl ⟨23, true, rfl, rfl, rfl⟩ ?_
    refine AO.ro rfl rfl (gOn_none rfl) (RO.pick_t rfl rfl rfl) ?_
    refine AO.nil ?_
    refine AW.cond_t rfl ?_
    refine AW.seq ?_
    refine AW.region [0, 0] rfl ?_
    refine AO.ro rfl rfl (gOn_none rfl) (RO.assign rfl rfl) ?_
    refine AO.ro rfl rfl (gOn_none rfl) (RO.assign rfl rfl) ?_
    refine AO.nil ?_
    refine AW.ret ?_
    refine ⟨[], [.d (enc ([] : (List Int))), .d (.lit (.int .i64 1))], [], rfl, ⟨⟨_, rfl, .inr ⟨rfl, _, rfl⟩⟩, ⟨⟨_, rfl, .inl rfl⟩, rfl⟩⟩, trivial, ?_⟩
    refine ⟨([]), 1, rfl, rfl, ?_⟩
    exact spec_err (say_of (chk_size (by unfold SaySize; omega)) (by omega)) (by omega)
  · skip
    refine AO.ro rfl rfl (gOn_none rfl) (RO.move rfl rfl) ?_
    refine AO.ro rfl rfl ⟨19, false, rfl, rfl, rfl⟩ (RO.ld_ptr rfl Try.underlying3 rfl rfl rfl rfl) ?_
    refine AO.split rfl rfl ⟨19, false, rfl, rfl, rfl⟩ (RO.gtr rfl rfl rfl) (fun t3 => ?_) (fun t3 => ?_)
    · skip
      refine AO.ro rfl rfl (gOn_none rfl) (RO.pick_f rfl rfl rfl) ?_
      refine AO.ro rfl rfl (gOn_none rfl) (RO.move rfl rfl) ?_
      refine AO.skip rfl rfl ⟨23, true, rfl, rfl, rfl⟩ ?_
      refine AO.skip rfl rfl ⟨23, true, rfl, rfl, rfl⟩ ?_
      refine AO.skip rfl rfl ⟨23, true, rfl, rfl, rfl⟩ ?_
      refine AO.skip rfl rfl ⟨23, true, rfl, rfl, rfl⟩ ?_
      refine AO.skip rfl rfl ⟨23, true, rfl, rfl, rfl⟩ ?_
      refine AO.ro rfl rfl (gOn_none rfl) (RO.pick_t rfl rfl rfl) ?_
      refine AO.nil ?_
      refine AW.cond_t rfl ?_
      refine AW.seq ?_
      refine AW.region [0, 0] rfl ?_
      refine AO.ro rfl rfl (gOn_none rfl) (RO.assign rfl rfl) ?_
      refine AO.ro rfl rfl (gOn_none rfl) (RO.assign rfl rfl) ?_
      refine AO.nil ?_
      refine AW.ret ?_
      refine ⟨[], [.d (enc ([] : (List Int))), .d (.lit (.int .i64 1))], [], rfl, ⟨⟨_, rfl, .inr ⟨rfl, _, rfl⟩⟩, ⟨⟨_, rfl, .inl rfl⟩, rfl⟩⟩, trivial, ?_⟩
      refine ⟨([]), 1, rfl, rfl, ?_⟩
      exact spec_err (say_of (chk_size (by unfold SaySize; omega)) (by omega)) (by omega)
    · skip
      refine AO.ro rfl rfl (gOn_none rfl) (RO.pick_f rfl rfl rfl) ?_
      refine AO.ro rfl rfl (gOn_none rfl) (RO.move rfl rfl) ?_
      refine AO.ro rfl rfl ⟨23, false, rfl, rfl, rfl⟩ (RO.fld_ptr rfl fa42_3 rfl) ?_
      refine AO.ro rfl rfl ⟨23, false, rfl, rfl, rfl⟩ (RO.ld_ptr rfl Try.underlying40 rfl rfl rfl rfl) ?_
      refine AO.fact 25 rfl (fun ln4 => ?_)
      replace ln4 : m.Next.length * 16 ≤ 140737488355328 := ln4
      refine AO.ro rfl rfl ⟨23, false, rfl, rfl, rfl⟩ (RO.len rfl Try.underlying40 rfl) ?_
      refine AO.ro rfl rfl ⟨23, false, rfl, rfl, rfl⟩ (RO.ld_ptr rfl Try.underlying3 rfl rfl rfl rfl) ?_
      refine AO.splitn rfl rfl ⟨23, false, rfl, rfl, rfl⟩ (RO.neq rfl rfl rfl) (fun t5 => ?_) (fun t5 => ?_)
      · skip
        refine AO.ro rfl rfl (gOn_none rfl) (RO.pick_f rfl rfl rfl) ?_
        refine AO.nil ?_
        refine AW.cond_t rfl ?_
        refine AW.seq ?_
        refine AW.region [0, 0] rfl ?_
        refine AO.ro rfl rfl (gOn_none rfl) (RO.assign rfl rfl) ?_
        refine AO.ro rfl rfl (gOn_none rfl) (RO.assign rfl rfl) ?_
        refine AO.nil ?_
        refine AW.ret ?_
        refine ⟨[], [.d (enc ([] : (List Int))), .d (.lit (.int .i64 1))], [], rfl, ⟨⟨_, rfl, .inr ⟨rfl, _, rfl⟩⟩, ⟨⟨_, rfl, .inl rfl⟩, rfl⟩⟩, trivial, ?_⟩
        refine ⟨([]), 1, rfl, rfl, ?_⟩
        exact spec_err (say_of (chk_size (by unfold SaySize; omega)) (by omega)) (by omega)
      · skip
        refine AO.ro rfl rfl (gOn_none rfl) (RO.pick_f rfl rfl rfl) ?_
        refine AO.nil ?_
        refine AW.cond_f rfl ?_
        refine AW.skip ?_
        refine AW.seq ?_
        refine AW.region [0, 0] rfl ?_
        refine AO.freezeB (enc ((m.Says.length : Int) : Int)) 1 [6] rfl rfl ?_
        refine AO.ro rfl rfl (gOn_none rfl) (RO.makeFunc (cs := [.addr (enc ((m.Says.length : Int) : Int))]) rfl ⟨rfl, rfl⟩) ?_
        refine AO.ro rfl rfl (gOn_none rfl) (RO.assign rfl rfl) ?_
        refine AO.nil ?_
        refine AW.seq ?_
        refine AW.region [0] rfl ?_
        refine AO.ro rfl rfl (gOn_none rfl) (RO.assign rfl rfl) ?_
        refine AO.nil ?_
        refine AW.seq ?_
        refine AW.seq ?_
        refine AW.region [0, 0] rfl ?_
        refine AO.ro rfl rfl (gOn_none rfl) (RO.ld_addr rfl Try.underlying3 rfl rfl rfl) ?_
        refine AO.ro rfl rfl (gOn_none rfl) (RO.move rfl rfl) ?_
        refine AO.nil ?_
        refine AW.block ?_
        refine AW.loop (mp := [(0, some 0)]) (X := Int) (fun x => ⟨118, 2, [(1, .d (enc (heard : (List Int)))), (2, .ptr 0 0), (4, .nil), (5, .d (.lit (.int .i64 0))), (7, .fn 54 [.addr (enc ((m.Says.length : Int) : Int))]), (8, .fn 55 []), (31, .d (.lit (.int .i64 ((m.Says.length : Int))))), (32, .d (.lit (.int .i64 x)))], [(0, some (Ent.box 42 [.d (.lit (.bool m.First)), .d (.lit (.int .i64 m.Start)), .d (enc (m.Says : (List (A2 Int)))), .d (enc (m.Next : (List (A2 Int))))]))]⟩) (fun x => (0 ≤ x ∧ x ≤ m.Says.length) ∧ (∀ j : Int, 0 ≤ j → j < x → SayCell m j) ∧ (SaySize m)) (fun x => (m.Says.length - x).toNat) 0 ?_ ⟨rfl, rfl, ⟨⟨_, rfl, .inl rfl⟩, ⟨⟨_, rfl, .inl rfl⟩, ⟨⟨_, rfl, .inl rfl⟩, ⟨⟨_, rfl, .inl rfl⟩, ⟨⟨_, rfl, .inl rfl⟩, ⟨⟨_, rfl, .inl rfl⟩, ⟨⟨_, rfl, .inl rfl⟩, ⟨⟨_, rfl, .inl rfl⟩, trivial⟩⟩⟩⟩⟩⟩⟩⟩, ⟨⟨_, rfl, rfl⟩, trivial⟩⟩ ?_
        · try dsimp only
          exact ⟨by omega, fun j a b => by omega, by unfold SaySize; omega⟩
        · skip
          intro i hx
          replace hx : (0 ≤ i ∧ i ≤ m.Says.length) ∧ (∀ j : Int, 0 ≤ j → j < i → SayCell m j) ∧ (SaySize m) := hx
          obtain ⟨h1, h2, h3⟩ := hx
          refine (show AW _ _ _ (⟨118, 2, [(1, .d (enc (heard : (List Int)))), (2, .ptr 0 0), (4, .nil), (5, .d (.lit (.int .i64 0))), (7, .fn 54 [.addr (enc ((m.Says.length : Int) : Int))]), (8, .fn 55 []), (31, .d (.lit (.int .i64 ((m.Says.length : Int))))), (32, .d (.lit (.int .i64 i)))], [(0, some (Ent.box 42 [.d (.lit (.bool m.First)), .d (.lit (.int .i64 m.Start)), .d (enc (m.Says : (List (A2 Int)))), .d (enc (m.Next : (List (A2 Int))))]))]⟩ : St) _ from ?_)
          refine AW.seq ?_
          refine AW.region [0] rfl ?_
          refine AO.split rfl rfl (gOn_none rfl) (RO.lss rfl rfl rfl) (fun t6 => ?_) (fun t6 => ?_)
          · skip
            refine AO.nil ?_
            refine AW.seq ?_
            refine AW.cond_t rfl ?_
            refine AW.skip ?_
            refine AW.seq ?_
            refine AW.block ?_
            refine AW.seq ?_
            refine AW.region [0, 0] rfl ?_
            refine AO.ro rfl rfl (gOn_none rfl) (RO.move rfl rfl) ?_
            refine AO.ro rfl rfl (gOn_none rfl) (RO.assign rfl rfl) ?_
            refine AO.nil ?_
            refine AW.seq ?_
            refine AW.region [0, 0, 0, 0, 0, 0, 0, 2, 0, 0, 0, 0, 0, 0, 0, 0, 2, 0, 0, 0, 0, 0, 0, 0, 0, 0, 2, 0, 0, 0, 0, 0, 0, 0, 0, 0, 2, 0] rfl ?_
            refine AO.ro rfl rfl (gOn_none rfl) (RO.move rfl rfl) ?_
            refine AO.ro rfl rfl (gOn_none rfl) (RO.fld_ptr rfl fa42_3 rfl) ?_
            refine AO.ro rfl rfl (gOn_none rfl) (RO.ld_ptr rfl Try.underlying40 rfl rfl rfl rfl) ?_
            refine AO.ro rfl rfl (gOn_none rfl) (RO.move rfl rfl) ?_
            refine AO.ro rfl rfl (gOn_none rfl) (RO.idx rfl Try.underlying40 ti87 rfl rfl (by omega)) ?_
            refine AO.ro rfl rfl (gOn_none rfl) (show RO _ _ _ _ (.addr (enc ((ix m.Next i).x0 : Int))) from RO.idx_arr (β := (A2 Int)) (α := Int) (b := ix m.Next i) (j := 0) rfl Try.underlying87 ti3 rfl rfl rfl (by omega)) ?_
            refine AO.ro rfl rfl (gOn_none rfl) (RO.ld_addr rfl Try.underlying3 rfl rfl rfl) ?_
            refine AO.callP («as» := [.d (.lit (.int .i64 ((ix m.Next i).x0)))]) (gOn_none rfl) rfl rfl rfl rfl rfl Try.call54 ⟨⟨_, rfl, rfl⟩, rfl⟩ (saysBad_ok ((ix m.Next i).x0) ((m.Says.length : Int))) ?_
            rintro _ _ ⟨y7, rfl, rfl, c7⟩
            refine ⟨[], 2, .d (.lit (.bool y7)), [], rfl, trivial, rfl, ?_⟩
            refine AO.ro rfl rfl (gOn_none rfl) (RO.move rfl rfl) ?_
            refine AO.caseb 43 rfl (fun b8 => ?_) (fun b8 => ?_)
            · skip
              first | replace b8 := of_decide_eq_true (c7.symm.trans b8) | (replace b8 := List.any_eq_true.1 (c7.symm.trans b8); simp only [decide_eq_true_eq] at b8) | skip
              refine AO.skip rfl rfl ⟨43, true, rfl, rfl, rfl⟩ ?_
              refine AO.skip rfl rfl ⟨43, true, rfl, rfl, rfl⟩ ?_
              refine AO.skip rfl rfl ⟨43, true, rfl, rfl, rfl⟩ ?_
              refine AO.skip rfl rfl ⟨43, true, rfl, rfl, rfl⟩ ?_
              refine AO.skip rfl rfl ⟨43, true, rfl, rfl, rfl⟩ ?_
              refine AO.skip rfl rfl ⟨43, true, rfl, rfl, rfl⟩ ?_
              refine AO.skip rfl rfl ⟨43, true, rfl, rfl, rfl⟩ ?_
              refine AO.skip rfl rfl ⟨43, true, rfl, rfl, rfl⟩ ?_
              refine AO.ro rfl rfl (gOn_none rfl) (RO.pick_t rfl rfl rfl) ?_
              refine AO.ro rfl rfl (gOn_none rfl) (RO.move rfl rfl) ?_
              refine AO.skip rfl rfl ⟨53, true, rfl, rfl, rfl⟩ ?_
              refine AO.skip rfl rfl ⟨53, true, rfl, rfl, rfl⟩ ?_
              refine AO.skip rfl rfl ⟨53, true, rfl, rfl, rfl⟩ ?_
              refine AO.skip rfl rfl ⟨53, true, rfl, rfl, rfl⟩ ?_
              refine AO.skip rfl rfl ⟨53, true, rfl, rfl, rfl⟩ ?_
              refine AO.skip rfl rfl ⟨53, true, rfl, rfl, rfl⟩ ?_
              refine AO.skip rfl rfl ⟨53, true, rfl, rfl, rfl⟩ ?_
              refine AO.skip rfl rfl ⟨53, true, rfl, rfl, rfl⟩ ?_
              refine AO.ro rfl rfl (gOn_none rfl) (RO.pick_t rfl rfl rfl) ?_
              refine AO.ro rfl rfl (gOn_none rfl) (RO.move rfl rfl) ?_
              refine AO.skip rfl rfl ⟨63, true, rfl, rfl, rfl⟩ ?_
              refine AO.skip rfl rfl ⟨63, true, rfl, rfl, rfl⟩ ?_
              refine AO.skip rfl rfl ⟨63, true, rfl, rfl, rfl⟩ ?_
              refine AO.skip rfl rfl ⟨63, true, rfl, rfl, rfl⟩ ?_
              refine AO.skip rfl rfl ⟨63, true, rfl, rfl, rfl⟩ ?_
              refine AO.skip rfl rfl ⟨63, true, rfl, rfl, rfl⟩ ?_
              refine AO.skip rfl rfl ⟨63, true, rfl, rfl, rfl⟩ ?_
              refine AO.skip rfl rfl ⟨63, true, rfl, rfl, rfl⟩ ?_
              refine AO.ro rfl rfl (gOn_none rfl) (RO.pick_t rfl rfl rfl) ?_
              refine AO.nil ?_
              refine AW.cond_t rfl ?_
              refine AW.seq ?_
              refine AW.region [0, 0] rfl ?_
              refine AO.ro rfl rfl (gOn_none rfl) (RO.assign rfl rfl) ?_
              refine AO.ro rfl rfl (gOn_none rfl) (RO.assign rfl rfl) ?_
              refine AO.nil ?_
              refine AW.ret ?_
              refine ⟨[], [.d (enc ([] : (List Int))), .d (.lit (.int .i64 2))], [], rfl, ⟨⟨_, rfl, .inr ⟨rfl, _, rfl⟩⟩, ⟨⟨_, rfl, .inl rfl⟩, rfl⟩⟩, trivial, ?_⟩
              refine ⟨([]), 2, rfl, rfl, ?_⟩
              have hn : ¬ SayCell m i := by unfold SayCell; omega
              exact spec_err (say_of (chk_tab h3 fun h => hn (h.1 i (by omega) (by omega))) (by omega)) (by omega)
            · skip
              first | replace b8 := of_decide_eq_false (c7.symm.trans b8) | (replace b8 := List.any_eq_false.1 (c7.symm.trans b8); simp only [decide_eq_true_eq] at b8) | skip
              refine AO.ro rfl rfl ⟨43, false, rfl, rfl, rfl⟩ (RO.move rfl rfl) ?_
              refine AO.ro rfl rfl ⟨43, false, rfl, rfl, rfl⟩ (RO.fld_ptr rfl fa42_3 rfl) ?_
              refine AO.ro rfl rfl ⟨43, false, rfl, rfl, rfl⟩ (RO.ld_ptr rfl Try.underlying40 rfl rfl rfl rfl) ?_
              refine AO.ro rfl rfl ⟨43, false, rfl, rfl, rfl⟩ (RO.move rfl rfl) ?_
              refine AO.ro rfl rfl ⟨43, false, rfl, rfl, rfl⟩ (RO.idx rfl Try.underlying40 ti87 rfl rfl (by omega)) ?_
              refine AO.ro rfl rfl ⟨43, false, rfl, rfl, rfl⟩ (show RO _ _ _ _ (.addr (enc ((ix m.Next i).x1 : Int))) from RO.idx_arr (β := (A2 Int)) (α := Int) (b := ix m.Next i) (j := 1) rfl Try.underlying87 ti3 rfl rfl rfl (by omega)) ?_
              refine AO.ro rfl rfl ⟨43, false, rfl, rfl, rfl⟩ (RO.ld_addr rfl Try.underlying3 rfl rfl rfl) ?_
              refine AO.callP («as» := [.d (.lit (.int .i64 ((ix m.Next i).x1)))]) ⟨43, false, rfl, rfl, rfl⟩ rfl rfl rfl rfl rfl Try.call54 ⟨⟨_, rfl, rfl⟩, rfl⟩ (saysBad_ok ((ix m.Next i).x1) ((m.Says.length : Int))) ?_
              rintro _ _ ⟨y9, rfl, rfl, c9⟩
              refine ⟨[], 2, .d (.lit (.bool y9)), [], rfl, trivial, rfl, ?_⟩
              refine AO.ro rfl rfl (gOn_none rfl) (RO.pick_f rfl rfl rfl) ?_
              refine AO.ro rfl rfl (gOn_none rfl) (RO.move rfl rfl) ?_
              refine AO.caseb 53 rfl (fun b10 => ?_) (fun b10 => ?_)
              · skip
                first | replace b10 := of_decide_eq_true (c9.symm.trans b10) | (replace b10 := List.any_eq_true.1 (c9.symm.trans b10); simp only [decide_eq_true_eq] at b10) | skip
                refine AO.skip rfl rfl ⟨53, true, rfl, rfl, rfl⟩ ?_
                refine AO.skip rfl rfl ⟨53, true, rfl, rfl, rfl⟩ ?_
                refine AO.skip rfl rfl ⟨53, true, rfl, rfl, rfl⟩ ?_
                refine AO.skip rfl rfl ⟨53, true, rfl, rfl, rfl⟩ ?_
                refine AO.skip rfl rfl ⟨53, true, rfl, rfl, rfl⟩ ?_
                refine AO.skip rfl rfl ⟨53, true, rfl, rfl, rfl⟩ ?_
                refine AO.skip rfl rfl ⟨53, true, rfl, rfl, rfl⟩ ?_
                refine AO.skip rfl rfl ⟨53, true, rfl, rfl, rfl⟩ ?_
                refine AO.ro rfl rfl (gOn_none rfl) (RO.pick_t rfl rfl rfl) ?_
                refine AO.ro rfl rfl (gOn_none rfl) (RO.move rfl rfl) ?_
                refine AO.skip rfl rfl ⟨63, true, rfl, rfl, rfl⟩ ?_
                refine AO.skip rfl rfl ⟨63, true, rfl, rfl, rfl⟩ ?_
                refine AO.skip rfl rfl ⟨63, true, rfl, rfl, rfl⟩ ?_
                refine AO.skip rfl rfl ⟨63, true, rfl, rfl, rfl⟩ ?_
                refine AO.skip rfl rfl ⟨63, true, rfl, rfl, rfl⟩ ?_
                refine AO.skip rfl rfl ⟨63, true, rfl, rfl, rfl⟩ ?_
                refine AO.skip rfl rfl ⟨63, true, rfl, rfl, rfl⟩ ?_
                refine AO.skip rfl rfl ⟨63, true, rfl, rfl, rfl⟩ ?_
                refine AO.ro rfl rfl (gOn_none rfl) (RO.pick_t rfl rfl rfl) ?_
                refine AO.nil ?_
                refine AW.cond_t rfl ?_
                refine AW.seq ?_
                refine AW.region [0, 0] rfl ?_
                refine AO.ro rfl rfl (gOn_none rfl) (RO.assign rfl rfl) ?_
                refine AO.ro rfl rfl (gOn_none rfl) (RO.assign rfl rfl) ?_
                refine AO.nil ?_
                refine AW.ret ?_
                refine ⟨[], [.d (enc ([] : (List Int))), .d (.lit (.int .i64 2))], [], rfl, ⟨⟨_, rfl, .inr ⟨rfl, _, rfl⟩⟩, ⟨⟨_, rfl, .inl rfl⟩, rfl⟩⟩, trivial, ?_⟩
                refine ⟨([]), 2, rfl, rfl, ?_⟩
                have hn : ¬ SayCell m i := by unfold SayCell; omega
                exact spec_err (say_of (chk_tab h3 fun h => hn (h.1 i (by omega) (by omega))) (by omega)) (by omega)
              · skip
                first | replace b10 := of_decide_eq_false (c9.symm.trans b10) | (replace b10 := List.any_eq_false.1 (c9.symm.trans b10); simp only [decide_eq_true_eq] at b10) | skip
                refine AO.ro rfl rfl ⟨53, false, rfl, rfl, rfl⟩ (RO.move rfl rfl) ?_
                refine AO.ro rfl rfl ⟨53, false, rfl, rfl, rfl⟩ (RO.fld_ptr rfl fa42_2 rfl) ?_
                refine AO.ro rfl rfl ⟨53, false, rfl, rfl, rfl⟩ (RO.ld_ptr rfl Try.underlying40 rfl rfl rfl rfl) ?_
                refine AO.ro rfl rfl ⟨53, false, rfl, rfl, rfl⟩ (RO.move rfl rfl) ?_
                refine AO.ro rfl rfl ⟨53, false, rfl, rfl, rfl⟩ (RO.idx rfl Try.underlying40 ti87 rfl rfl (by omega)) ?_
                refine AO.ro rfl rfl ⟨53, false, rfl, rfl, rfl⟩ (show RO _ _ _ _ (.addr (enc ((ix m.Says i).x0 : Int))) from RO.idx_arr (β := (A2 Int)) (α := Int) (b := ix m.Says i) (j := 0) rfl Try.underlying87 ti3 rfl rfl rfl (by omega)) ?_
                refine AO.ro rfl rfl ⟨53, false, rfl, rfl, rfl⟩ (RO.ld_addr rfl Try.underlying3 rfl rfl rfl) ?_
                refine AO.call0 («as» := [.d (.lit (.int .i64 ((ix m.Says i).x0)))]) ⟨53, false, rfl, rfl, rfl⟩ rfl rfl rfl rfl Try.call55 ⟨⟨_, rfl, rfl⟩, rfl⟩ (saysBit_ok ((ix m.Says i).x0)) ?_
                rintro _ _ ⟨y11, rfl, rfl, c11⟩
                refine ⟨[], 2, .d (.lit (.bool y11)), [], rfl, trivial, rfl, ?_⟩
                refine AO.ro rfl rfl (gOn_none rfl) (RO.pick_f rfl rfl rfl) ?_
                refine AO.ro rfl rfl (gOn_none rfl) (RO.move rfl rfl) ?_
                refine AO.caseb 63 rfl (fun b12 => ?_) (fun b12 => ?_)
                · skip
                  first | replace b12 := of_decide_eq_true (c11.symm.trans b12) | (replace b12 := List.any_eq_true.1 (c11.symm.trans b12); simp only [decide_eq_true_eq] at b12) | skip
                  refine AO.skip rfl rfl ⟨63, true, rfl, rfl, rfl⟩ ?_
                  refine AO.skip rfl rfl ⟨63, true, rfl, rfl, rfl⟩ ?_
                  refine AO.skip rfl rfl ⟨63, true, rfl, rfl, rfl⟩ ?_
                  refine AO.skip rfl rfl ⟨63, true, rfl, rfl, rfl⟩ ?_
                  refine AO.skip rfl rfl ⟨63, true, rfl, rfl, rfl⟩ ?_
                  refine AO.skip rfl rfl ⟨63, true, rfl, rfl, rfl⟩ ?_
                  refine AO.skip rfl rfl ⟨63, true, rfl, rfl, rfl⟩ ?_
                  refine AO.skip rfl rfl ⟨63, true, rfl, rfl, rfl⟩ ?_
                  refine AO.ro rfl rfl (gOn_none rfl) (RO.pick_t rfl rfl rfl) ?_
                  refine AO.nil ?_
                  refine AW.cond_t rfl ?_
                  refine AW.seq ?_
                  refine AW.region [0, 0] rfl ?_
                  refine AO.ro rfl rfl (gOn_none rfl) (RO.assign rfl rfl) ?_
                  refine AO.ro rfl rfl (gOn_none rfl) (RO.assign rfl rfl) ?_
                  refine AO.nil ?_
                  refine AW.ret ?_
                  refine ⟨[], [.d (enc ([] : (List Int))), .d (.lit (.int .i64 2))], [], rfl, ⟨⟨_, rfl, .inr ⟨rfl, _, rfl⟩⟩, ⟨⟨_, rfl, .inl rfl⟩, rfl⟩⟩, trivial, ?_⟩
                  refine ⟨([]), 2, rfl, rfl, ?_⟩
                  have hn : ¬ SayCell m i := by unfold SayCell; omega
                  exact spec_err (say_of (chk_tab h3 fun h => hn (h.1 i (by omega) (by omega))) (by omega)) (by omega)
                · skip
                  first | replace b12 := of_decide_eq_false (c11.symm.trans b12) | (replace b12 := List.any_eq_false.1 (c11.symm.trans b12); simp only [decide_eq_true_eq] at b12) | skip
                  refine AO.ro rfl rfl ⟨63, false, rfl, rfl, rfl⟩ (RO.move rfl rfl) ?_
                  refine AO.ro rfl rfl ⟨63, false, rfl, rfl, rfl⟩ (RO.fld_ptr rfl fa42_2 rfl) ?_
                  refine AO.ro rfl rfl ⟨63, false, rfl, rfl, rfl⟩ (RO.ld_ptr rfl Try.underlying40 rfl rfl rfl rfl) ?_
                  refine AO.ro rfl rfl ⟨63, false, rfl, rfl, rfl⟩ (RO.move rfl rfl) ?_
                  refine AO.ro rfl rfl ⟨63, false, rfl, rfl, rfl⟩ (RO.idx rfl Try.underlying40 ti87 rfl rfl (by omega)) ?_
                  refine AO.ro rfl rfl ⟨63, false, rfl, rfl, rfl⟩ (show RO _ _ _ _ (.addr (enc ((ix m.Says i).x1 : Int))) from RO.idx_arr (β := (A2 Int)) (α := Int) (b := ix m.Says i) (j := 1) rfl Try.underlying87 ti3 rfl rfl rfl (by omega)) ?_
                  refine AO.ro rfl rfl ⟨63, false, rfl, rfl, rfl⟩ (RO.ld_addr rfl Try.underlying3 rfl rfl rfl) ?_
                  refine AO.call0 («as» := [.d (.lit (.int .i64 ((ix m.Says i).x1)))]) ⟨63, false, rfl, rfl, rfl⟩ rfl rfl rfl rfl Try.call55 ⟨⟨_, rfl, rfl⟩, rfl⟩ (saysBit_ok ((ix m.Says i).x1)) ?_
                  rintro _ _ ⟨y13, rfl, rfl, c13⟩
                  refine ⟨[], 2, .d (.lit (.bool y13)), [], rfl, trivial, rfl, ?_⟩
                  refine AO.ro rfl rfl (gOn_none rfl) (RO.pick_f rfl rfl rfl) ?_
                  refine AO.nil ?_
                  refine AW.caseb 72 rfl (fun b14 => ?_) (fun b14 => ?_)
                  · skip
                    first | replace b14 := of_decide_eq_true (c13.symm.trans b14) | (replace b14 := List.any_eq_true.1 (c13.symm.trans b14); simp only [decide_eq_true_eq] at b14) | skip
                    refine AW.cond_t rfl ?_
                    refine AW.seq ?_
                    refine AW.region [0, 0] rfl ?_
                    refine AO.ro rfl rfl (gOn_none rfl) (RO.assign rfl rfl) ?_
                    refine AO.ro rfl rfl (gOn_none rfl) (RO.assign rfl rfl) ?_
                    refine AO.nil ?_
                    refine AW.ret ?_
                    refine ⟨[], [.d (enc ([] : (List Int))), .d (.lit (.int .i64 2))], [], rfl, ⟨⟨_, rfl, .inr ⟨rfl, _, rfl⟩⟩, ⟨⟨_, rfl, .inl rfl⟩, rfl⟩⟩, trivial, ?_⟩
                    refine ⟨([]), 2, rfl, rfl, ?_⟩
                    have hn : ¬ SayCell m i := by unfold SayCell; omega
                    exact spec_err (say_of (chk_tab h3 fun h => hn (h.1 i (by omega) (by omega))) (by omega)) (by omega)
                  · skip
                    first | replace b14 := of_decide_eq_false (c13.symm.trans b14) | (replace b14 := List.any_eq_false.1 (c13.symm.trans b14); simp only [decide_eq_true_eq] at b14) | skip
                    refine AW.cond_f rfl ?_
                    refine AW.skip ?_
                    refine AW.region [0, 0] rfl ?_
                    refine AO.ro rfl rfl (gOn_none rfl) (RO.add rfl rfl rfl (by omega)) ?_
                    refine AO.ro rfl rfl (gOn_none rfl) (RO.move rfl rfl) ?_
                    refine AO.nil ?_
                    refine ⟨i + 1, [(0, some 0)], ?_, ?_, ⟨rfl, rfl, ⟨⟨_, rfl, .inl rfl⟩, ⟨⟨_, rfl, .inl rfl⟩, ⟨⟨_, rfl, .inl rfl⟩, ⟨⟨_, rfl, .inl rfl⟩, ⟨⟨_, rfl, .inl rfl⟩, ⟨⟨_, rfl, .inl rfl⟩, ⟨⟨_, rfl, .inl rfl⟩, ⟨⟨_, rfl, .inl rfl⟩, trivial⟩⟩⟩⟩⟩⟩⟩⟩, ⟨⟨_, rfl, rfl⟩, trivial⟩⟩⟩
                    · try dsimp only
                      exact ⟨by omega, below_succ h2 (by unfold SayCell; omega), h3⟩
                    · try dsimp only
                      first | omega | (simp; done) | (simp_all; done) | (simp_all; omega)
          · skip
            refine AO.nil ?_
            refine AW.seq ?_
            refine AW.cond_f rfl ?_
            refine AW.exit ?_
            refine AW.seq ?_
            refine AW.seq ?_
            refine AW.region [0, 0, 0, 2] rfl ?_
            refine AO.ro rfl rfl (gOn_none rfl) (RO.move rfl rfl) ?_
            refine AO.ro rfl rfl (gOn_none rfl) (RO.fld_ptr rfl fa42_1 rfl) ?_
            refine AO.ro rfl rfl (gOn_none rfl) (RO.ld_ptr rfl Try.underlying3 rfl rfl rfl rfl) ?_
            refine AO.callP («as» := [.d (.lit (.int .i64 m.Start))]) (gOn_none rfl) rfl rfl rfl rfl rfl Try.call54 ⟨⟨_, rfl, rfl⟩, rfl⟩ (saysBad_ok m.Start ((m.Says.length : Int))) ?_
            rintro _ _ ⟨y15, rfl, rfl, c15⟩
            refine ⟨[], 2, .d (.lit (.bool y15)), [], rfl, trivial, rfl, ?_⟩
            refine AO.nil ?_
            refine AW.caseb 77 rfl (fun b16 => ?_) (fun b16 => ?_)
            · skip
              first | replace b16 := of_decide_eq_true (c15.symm.trans b16) | (replace b16 := List.any_eq_true.1 (c15.symm.trans b16); simp only [decide_eq_true_eq] at b16) | skip
              refine AW.cond_t rfl ?_
              refine AW.seq ?_
              refine AW.region [0, 0] rfl ?_
              refine AO.ro rfl rfl (gOn_none rfl) (RO.assign rfl rfl) ?_
              refine AO.ro rfl rfl (gOn_none rfl) (RO.assign rfl rfl) ?_
              refine AO.nil ?_
              refine AW.ret ?_
              refine ⟨[], [.d (enc ([] : (List Int))), .d (.lit (.int .i64 2))], [], rfl, ⟨⟨_, rfl, .inr ⟨rfl, _, rfl⟩⟩, ⟨⟨_, rfl, .inl rfl⟩, rfl⟩⟩, trivial, ?_⟩
              refine ⟨([]), 2, rfl, rfl, ?_⟩
              have ht : SayTab m := fun i a b => h2 i a (by omega)
              first
              | exact spec_err (say_of (chk_tab h3 fun h => absurd h.2 (by unfold SayIn; omega)) (by omega)) (by omega)
              | exact spec_err (say_of (chk_fst h3 ht (by unfold SayIn; omega) (by unfold SayFst; grind)) (by omega)) (by omega)
              | exact spec_err (say_long (chk_ok h3 ht (by unfold SayIn; omega) (by unfold SayFst; grind)) (by omega)) (by omega)
              | exact spec_err (say_bad (chk_ok h3 ht (by unfold SayIn; omega) (by unfold SayFst; grind)) (by omega) (by grind)) (by omega)
            · skip
              first | replace b16 := of_decide_eq_false (c15.symm.trans b16) | (replace b16 := List.any_eq_false.1 (c15.symm.trans b16); simp only [decide_eq_true_eq] at b16) | skip
              refine AW.cond_f rfl ?_
              refine AW.skip ?_
              refine AW.seq ?_
              refine AW.seq ?_
              refine AW.region [0, 0, 0, 0, 0, 2, 0] rfl ?_
              refine AO.ro rfl rfl (gOn_none rfl) (RO.fld_ptr rfl fa42_0 rfl) ?_
              refine AO.ro rfl rfl (gOn_none rfl) (RO.ld_ptr rfl Try.underlying4 rfl rfl rfl rfl) ?_
              refine AO.ro rfl rfl (gOn_none rfl) (RO.move rfl rfl) ?_
              refine AO.caseb 80 rfl (fun b17 => ?_) (fun b17 => ?_)
              · skip
                refine AO.ro rfl rfl ⟨80, true, rfl, rfl, rfl⟩ (RO.fld_ptr rfl fa42_2 rfl) ?_
                refine AO.ro rfl rfl ⟨80, true, rfl, rfl, rfl⟩ (RO.ld_ptr rfl Try.underlying40 rfl rfl rfl rfl) ?_
                refine AO.call0 («as» := [.d (enc (m.Says : (List (A2 Int)))), .fn 57 []]) ⟨80, true, rfl, rfl, rfl⟩ rfl rfl rfl rfl Try.call56 ⟨⟨_, rfl, rfl⟩, ⟨_, rfl, rfl⟩, rfl⟩ (ContainsFunc56_ok m.Says 57 [] (fun (s : (A2 Int)) => decide (s.x0 ≠ s.x1)) ⟨rfl, Try.call57⟩ (fun x0 => Fc.mono (saysDiff_ok x0) (by rintro _ _ ⟨_, rfl, rfl, hy⟩; first | (subst hy; exact ⟨rfl, rfl⟩) | exact ⟨by rw [hy], rfl⟩))) ?_
                rintro _ _ ⟨y18, rfl, rfl, c18⟩
                refine ⟨[], 2, .d (.lit (.bool y18)), [], rfl, trivial, rfl, ?_⟩
                refine AO.ro rfl rfl (gOn_none rfl) (RO.pick_t rfl rfl rfl) ?_
                refine AO.nil ?_
                refine AW.caseb 84 rfl (fun b19 => ?_) (fun b19 => ?_)
                · skip
                  first | replace b19 := of_decide_eq_true (c18.symm.trans b19) | (replace b19 := List.any_eq_true.1 (c18.symm.trans b19); simp only [decide_eq_true_eq] at b19) | skip
                  refine AW.cond_t rfl ?_
                  refine AW.seq ?_
                  refine AW.region [0, 0] rfl ?_
                  refine AO.ro rfl rfl (gOn_none rfl) (RO.assign rfl rfl) ?_
                  refine AO.ro rfl rfl (gOn_none rfl) (RO.assign rfl rfl) ?_
                  refine AO.nil ?_
                  refine AW.ret ?_
                  refine ⟨[], [.d (enc ([] : (List Int))), .d (.lit (.int .i64 3))], [], rfl, ⟨⟨_, rfl, .inr ⟨rfl, _, rfl⟩⟩, ⟨⟨_, rfl, .inl rfl⟩, rfl⟩⟩, trivial, ?_⟩
                  refine ⟨([]), 3, rfl, rfl, ?_⟩
                  have ht : SayTab m := fun i a b => h2 i a (by omega)
                  first
                  | exact spec_err (say_of (chk_tab h3 fun h => absurd h.2 (by unfold SayIn; omega)) (by omega)) (by omega)
                  | exact spec_err (say_of (chk_fst h3 ht (by unfold SayIn; omega) (by unfold SayFst; grind)) (by omega)) (by omega)
                  | exact spec_err (say_long (chk_ok h3 ht (by unfold SayIn; omega) (by unfold SayFst; grind)) (by omega)) (by omega)
                  | exact spec_err (say_bad (chk_ok h3 ht (by unfold SayIn; omega) (by unfold SayFst; grind)) (by omega) (by grind)) (by omega)
                · skip
                  first | replace b19 := of_decide_eq_false (c18.symm.trans b19) | (replace b19 := List.any_eq_false.1 (c18.symm.trans b19); simp only [decide_eq_true_eq] at b19) | skip
                  refine AW.cond_f rfl ?_
                  refine AW.skip ?_
                  refine AW.seq ?_
                  refine AW.seq ?_
                  refine AW.region [0, 0, 0] rfl ?_
                  refine AO.ro rfl rfl (gOn_none rfl) (RO.move rfl rfl) ?_
                  refine AO.ro rfl rfl (gOn_none rfl) (RO.len rfl Try.underlying26 rfl) ?_
                  refine AO.split rfl rfl (gOn_none rfl) (RO.gtr rfl rfl rfl) (fun t20 => ?_) (fun t20 => ?_)
                  · skip
                    refine AO.nil ?_
                    refine AW.cond_t rfl ?_
                    refine AW.seq ?_
                    refine AW.region [0, 0] rfl ?_
                    refine AO.ro rfl rfl (gOn_none rfl) (RO.assign rfl rfl) ?_
                    refine AO.ro rfl rfl (gOn_none rfl) (RO.assign rfl rfl) ?_
                    refine AO.nil ?_
                    refine AW.ret ?_
                    refine ⟨[], [.d (enc ([] : (List Int))), .d (.lit (.int .i64 1))], [], rfl, ⟨⟨_, rfl, .inr ⟨rfl, _, rfl⟩⟩, ⟨⟨_, rfl, .inl rfl⟩, rfl⟩⟩, trivial, ?_⟩
                    refine ⟨([]), 1, rfl, rfl, ?_⟩
                    have ht : SayTab m := fun i a b => h2 i a (by omega)
                    first
                    | exact spec_err (say_of (chk_tab h3 fun h => absurd h.2 (by unfold SayIn; omega)) (by omega)) (by omega)
                    | exact spec_err (say_of (chk_fst h3 ht (by unfold SayIn; omega) (by unfold SayFst; grind)) (by omega)) (by omega)
                    | exact spec_err (say_long (chk_ok h3 ht (by unfold SayIn; omega) (by unfold SayFst; grind)) (by omega)) (by omega)
                    | exact spec_err (say_bad (chk_ok h3 ht (by unfold SayIn; omega) (by unfold SayFst; grind)) (by omega) (by grind)) (by omega)
                  · skip
                    refine AO.nil ?_
                    refine AW.cond_f rfl ?_
                    refine AW.skip ?_
                    refine AW.seq ?_
                    refine AW.seq ?_
                    refine AW.region [0, 0, 2] rfl ?_
                    refine AO.ro rfl rfl (gOn_none rfl) (RO.move rfl rfl) ?_
                    refine AO.ro rfl rfl (gOn_none rfl) (RO.move rfl rfl) ?_
                    refine AO.call0 («as» := [.d (enc (heard : (List Int))), .fn 55 []]) (gOn_none rfl) rfl rfl rfl rfl Try.call58 ⟨⟨_, rfl, rfl⟩, ⟨_, rfl, rfl⟩, rfl⟩ (ContainsFunc58_ok heard 55 [] (fun (x : Int) => decide (x ≠ 0 ∧ x ≠ 1)) ⟨rfl, Try.call55⟩ (fun x0 => Fc.mono (saysBit_ok x0) (by rintro _ _ ⟨_, rfl, rfl, hy⟩; first | (subst hy; exact ⟨rfl, rfl⟩) | exact ⟨by rw [hy], rfl⟩))) ?_
                    rintro _ _ ⟨y21, rfl, rfl, c21⟩
                    refine ⟨[], 2, .d (.lit (.bool y21)), [], rfl, trivial, rfl, ?_⟩
                    refine AO.nil ?_
                    refine AW.caseb 90 rfl (fun b22 => ?_) (fun b22 => ?_)
                    · skip
                      first | replace b22 := of_decide_eq_true (c21.symm.trans b22) | (replace b22 := List.any_eq_true.1 (c21.symm.trans b22); simp only [decide_eq_true_eq] at b22) | skip
                      refine AW.cond_t rfl ?_
                      refine AW.seq ?_
                      refine AW.region [0, 0] rfl ?_
                      refine AO.ro rfl rfl (gOn_none rfl) (RO.assign rfl rfl) ?_
                      refine AO.ro rfl rfl (gOn_none rfl) (RO.assign rfl rfl) ?_
                      refine AO.nil ?_
                      refine AW.ret ?_
                      refine ⟨[], [.d (enc ([] : (List Int))), .d (.lit (.int .i64 2))], [], rfl, ⟨⟨_, rfl, .inr ⟨rfl, _, rfl⟩⟩, ⟨⟨_, rfl, .inl rfl⟩, rfl⟩⟩, trivial, ?_⟩
                      refine ⟨([]), 2, rfl, rfl, ?_⟩
                      have ht : SayTab m := fun i a b => h2 i a (by omega)
                      first
                      | exact spec_err (say_of (chk_tab h3 fun h => absurd h.2 (by unfold SayIn; omega)) (by omega)) (by omega)
                      | exact spec_err (say_of (chk_fst h3 ht (by unfold SayIn; omega) (by unfold SayFst; grind)) (by omega)) (by omega)
                      | exact spec_err (say_long (chk_ok h3 ht (by unfold SayIn; omega) (by unfold SayFst; grind)) (by omega)) (by omega)
                      | exact spec_err (say_bad (chk_ok h3 ht (by unfold SayIn; omega) (by unfold SayFst; grind)) (by omega) (by grind)) (by omega)
                    · skip
                      first | replace b22 := of_decide_eq_false (c21.symm.trans b22) | (replace b22 := List.any_eq_false.1 (c21.symm.trans b22); simp only [decide_eq_true_eq] at b22) | skip
                      refine AW.cond_f rfl ?_
                      refine AW.skip ?_
                      refine AW.seq ?_
                      refine AW.region [0] rfl ?_
                      refine AO.ro rfl rfl (gOn_none rfl) (RO.assign rfl rfl) ?_
                      refine AO.nil ?_
                      refine AW.seq ?_
                      refine AW.region [0, 0, 0] rfl ?_
                      refine AO.ro rfl rfl (gOn_none rfl) (RO.fld_ptr rfl fa42_1 rfl) ?_
                      refine AO.ro rfl rfl (gOn_none rfl) (RO.ld_ptr rfl Try.underlying3 rfl rfl rfl rfl) ?_
                      refine AO.ro rfl rfl (gOn_none rfl) (RO.assign rfl rfl) ?_
                      refine AO.nil ?_
                      refine AW.seq ?_
                      refine AW.seq ?_
                      refine AW.region [0, 0, 0] rfl ?_
                      refine AO.ro rfl rfl (gOn_none rfl) (RO.move rfl rfl) ?_
                      refine AO.ro rfl rfl (gOn_none rfl) (RO.len rfl Try.underlying26 rfl) ?_
                      refine AO.ro rfl rfl (gOn_none rfl) (RO.move rfl rfl) ?_
                      refine AO.nil ?_
                      refine AW.block ?_
                      refine AW.loop (mp := [(0, some 0), (2, none)]) (X := Int × Int × List Int) (fun x => ⟨118, 3, [(2, .ptr 0 0), (4, .nil), (5, .d (.lit (.int .i64 0))), (10, .own 2), (11, .d (.lit (.int .i64 x.2.1))), (93, .d (enc (heard : (List Int)))), (94, .d (.lit (.int .i64 ((heard.length : Int))))), (95, .d (.lit (.int .i64 x.1)))], [(0, some (Ent.box 42 [.d (.lit (.bool m.First)), .d (.lit (.int .i64 m.Start)), .d (enc (m.Says : (List (A2 Int)))), .d (enc (m.Next : (List (A2 Int))))])), (2, some (Ent.arrOf 3 (x.2.2 : List Int)))]⟩) (fun x => (SayTab m ∧ sayE m heard = 0) ∧ (0 ≤ x.1 ∧ x.1 ≤ heard.length) ∧ (0 ≤ x.2.1 ∧ x.2.1 < m.Says.length) ∧ ((x.2.2.length : Int) = x.1) ∧ (sayRun m m.Start heard = x.2.2 ++ sayRun m x.2.1 (heard.drop x.1.toNat)) ∧ (∀ x ∈ heard, x = 0 ∨ x = 1)) (fun x => (heard.length - x.1).toNat) ((0, m.Start, [])) ?_ ⟨rfl, rfl, ⟨⟨_, rfl, .inl rfl⟩, ⟨⟨_, rfl, .inl rfl⟩, ⟨⟨_, rfl, .inl rfl⟩, ⟨⟨_, rfl, .inl rfl⟩, ⟨⟨_, rfl, .inl rfl⟩, ⟨⟨_, rfl, .inl rfl⟩, ⟨⟨_, rfl, .inl rfl⟩, ⟨⟨_, rfl, .inl rfl⟩, trivial⟩⟩⟩⟩⟩⟩⟩⟩, ⟨⟨_, rfl, rfl⟩, ⟨⟨_, _, _, rfl, by decide⟩, trivial⟩⟩⟩ ?_
                      · try dsimp only
                        have ht : SayTab m := fun i a b => h2 i a (by omega)
                        have hi : SayIn m := by unfold SayIn; omega
                        have hf : SayFst m := by unfold SayFst; grind
                        have hb : ∀ x ∈ heard, x = 0 ∨ x = 1 := by grind
                        have hc := chk_ok h3 ht hi hf
                        exact ⟨⟨ht, say_ok hc (by omega) hb⟩, by omega, hi, rfl, rfl, hb⟩
                      · skip
                        intro x hx
                        obtain ⟨i, q, l⟩ := x
                        replace hx : (SayTab m ∧ sayE m heard = 0) ∧ (0 ≤ i ∧ i ≤ heard.length) ∧ (0 ≤ q ∧ q < m.Says.length) ∧ ((l.length : Int) = i) ∧ (sayRun m m.Start heard = l ++ sayRun m q (heard.drop i.toNat)) ∧ (∀ x ∈ heard, x = 0 ∨ x = 1) := hx
                        obtain ⟨g0, g1, g2, g3, g4, g5⟩ := hx
                        refine (show AW _ _ _ (⟨118, 3, [(2, .ptr 0 0), (4, .nil), (5, .d (.lit (.int .i64 0))), (10, .own 2), (11, .d (.lit (.int .i64 q))), (93, .d (enc (heard : (List Int)))), (94, .d (.lit (.int .i64 ((heard.length : Int))))), (95, .d (.lit (.int .i64 i)))], [(0, some (Ent.box 42 [.d (.lit (.bool m.First)), .d (.lit (.int .i64 m.Start)), .d (enc (m.Says : (List (A2 Int)))), .d (enc (m.Next : (List (A2 Int))))])), (2, some (Ent.arrOf 3 (l : List Int)))]⟩ : St) _ from ?_)
                        have g6 : i < heard.length → ix heard i = 0 ∨ ix heard i = 1 := fun h => g5 _ (ix_mem (by omega) h)
                        refine AW.seq ?_
                        refine AW.region [0] rfl ?_
                        refine AO.split rfl rfl (gOn_none rfl) (RO.lss rfl rfl rfl) (fun t23 => ?_) (fun t23 => ?_)
                        · skip
                          refine AO.nil ?_
                          refine AW.seq ?_
                          refine AW.cond_t rfl ?_
                          refine AW.skip ?_
                          refine AW.seq ?_
                          refine AW.block ?_
                          refine AW.seq ?_
                          refine AW.region [0, 0, 0] rfl ?_
                          refine AO.ro rfl rfl (gOn_none rfl) (RO.idx rfl Try.underlying26 ti3 rfl rfl (by omega)) ?_
                          refine AO.ro rfl rfl (gOn_none rfl) (RO.ld_addr rfl Try.underlying3 rfl rfl rfl) ?_
                          refine AO.ro rfl rfl (gOn_none rfl) (RO.assign rfl rfl) ?_
                          refine AO.nil ?_
                          refine AW.seq ?_
                          refine AW.region [0, 0, 0, 0, 0, 0, 0, 0, 1, 2, 0] rfl ?_
                          refine AO.ro rfl rfl (gOn_none rfl) (RO.move rfl rfl) ?_
                          refine AO.ro rfl rfl (gOn_none rfl) (RO.fld_ptr rfl fa42_2 rfl) ?_
                          refine AO.ro rfl rfl (gOn_none rfl) (RO.ld_ptr rfl Try.underlying40 rfl rfl rfl rfl) ?_
                          refine AO.ro rfl rfl (gOn_none rfl) (RO.move rfl rfl) ?_
                          refine AO.ro rfl rfl (gOn_none rfl) (RO.move rfl rfl) ?_
                          refine AO.ro rfl rfl (gOn_none rfl) (RO.idx rfl Try.underlying40 ti87 rfl rfl (by omega)) ?_
                          refine AO.ro rfl rfl (gOn_none rfl) (show RO _ _ _ _ (.addr (enc (A2.ix (ix m.Says q) (ix heard i) : Int))) from RO.idx_arr (β := (A2 Int)) (α := Int) (b := ix m.Says q) (j := ix heard i) rfl Try.underlying87 ti3 rfl rfl rfl (by omega)) ?_
                          refine AO.ro rfl rfl (gOn_none rfl) (RO.ld_addr rfl Try.underlying3 rfl rfl rfl) ?_
                          refine AO.al1 (gOn_none rfl) (AL.lits (α := Int) (ys := [A2.ix (ix m.Says q) (ix heard i)]) 3 rfl (by kernel_rfl) rfl rfl rfl Try.underlying26 ti3 rfl ⟨rfl, rfl, rfl⟩ rfl (fun _ => rfl) rfl (by kernel_rfl) (by kernel_rfl)) ?_
                          refine AO.ef1 (gOn_none rfl) (EF.append (α := Int) (ys := ([A2.ix (ix m.Says q) (ix heard i)] : List Int)) default 4 rfl (by kernel_rfl) rfl rfl rfl Try.underlying26 ti3 rfl rfl rfl (by decide) zr3 rfl rfl (.inr (.inl ⟨_, _, rfl, rfl⟩)) (by simp only [List.length_append, List.length_cons, List.length_nil]; omega) (by simp only [List.length_append, List.length_cons, List.length_nil]; omega)) ?_
                          refine AO.ro rfl rfl (gOn_none rfl) (RO.assign rfl rfl) ?_
                          refine AO.nil ?_
                          refine AW.region [0, 0, 0, 0, 0, 0, 0, 0] rfl ?_
                          refine AO.ro rfl rfl (gOn_none rfl) (RO.fld_ptr rfl fa42_3 rfl) ?_
                          refine AO.ro rfl rfl (gOn_none rfl) (RO.ld_ptr rfl Try.underlying40 rfl rfl rfl rfl) ?_
                          refine AO.ro rfl rfl (gOn_none rfl) (RO.move rfl rfl) ?_
                          refine AO.ro rfl rfl (gOn_none rfl) (RO.move rfl rfl) ?_
                          refine AO.ro rfl rfl (gOn_none rfl) (RO.idx rfl Try.underlying40 ti87 rfl rfl (by omega)) ?_
                          refine AO.ro rfl rfl (gOn_none rfl) (show RO _ _ _ _ (.addr (enc (A2.ix (ix m.Next q) (ix heard i) : Int))) from RO.idx_arr (β := (A2 Int)) (α := Int) (b := ix m.Next q) (j := ix heard i) rfl Try.underlying87 ti3 rfl rfl rfl (by omega)) ?_
                          refine AO.ro rfl rfl (gOn_none rfl) (RO.ld_addr rfl Try.underlying3 rfl rfl rfl) ?_
                          refine AO.ro rfl rfl (gOn_none rfl) (RO.assign rfl rfl) ?_
                          refine AO.nil ?_
                          refine AW.region [0, 0] rfl ?_
                          refine AO.ro rfl rfl (gOn_none rfl) (RO.add rfl rfl rfl (by omega)) ?_
                          refine AO.ro rfl rfl (gOn_none rfl) (RO.move rfl rfl) ?_
                          refine AO.nil ?_
                          refine ⟨(i + 1, A2.ix (ix m.Next q) (ix heard i), l ++ ([A2.ix (ix m.Says q) (ix heard i)])), [(0, some 0), (2, some 4)], ?_, ?_, ⟨rfl, rfl, ⟨⟨_, rfl, .inl rfl⟩, ⟨⟨_, rfl, .inl rfl⟩, ⟨⟨_, rfl, .inl rfl⟩, ⟨⟨_, rfl, .inl rfl⟩, ⟨⟨_, rfl, .inl rfl⟩, ⟨⟨_, rfl, .inl rfl⟩, ⟨⟨_, rfl, .inl rfl⟩, ⟨⟨_, rfl, .inl rfl⟩, trivial⟩⟩⟩⟩⟩⟩⟩⟩, ⟨⟨_, rfl, rfl⟩, ⟨⟨_, rfl, rfl⟩, trivial⟩⟩⟩⟩
                          · try dsimp only
                            exact ⟨g0, by omega, next_in g0.1 g2, by simp; omega, by rw [g4, run_step g1.1 (by omega)]; simp, g5⟩
                          · try dsimp only
                            first | omega | (simp; done) | (simp_all; done) | (simp_all; omega)
                        · skip
                          refine AO.nil ?_
                          refine AW.seq ?_
                          refine AW.cond_f rfl ?_
                          refine AW.exit ?_
                          refine AW.seq ?_
                          refine AW.region [0, 0, 0] rfl ?_
                          refine AO.ro rfl rfl (gOn_none rfl) (RO.move rfl rfl) ?_
                          refine AO.ro rfl rfl (gOn_none rfl) (RO.assign rfl rfl) ?_
                          refine AO.ro rfl rfl (gOn_none rfl) (RO.assign rfl rfl) ?_
                          refine AO.nil ?_
                          refine AW.freeze 4 2 rfl rfl ?_
                          refine AW.ret ?_
                          refine ⟨[], [.d (enc (l : (List Int))), .d (.lit (.int .i64 0))], [], rfl, ⟨⟨_, rfl, .inl rfl⟩, ⟨⟨_, rfl, .inl rfl⟩, rfl⟩⟩, trivial, ?_⟩
                          refine ⟨l, 0, rfl, rfl, ?_⟩
                          rw [drop_all (by omega)] at g4; exact spec_ok g0.2 (by rw [g4]; simp [sayRun])
              · skip
                refine AO.skip rfl rfl ⟨80, false, rfl, rfl, rfl⟩ ?_
                refine AO.skip rfl rfl ⟨80, false, rfl, rfl, rfl⟩ ?_
                refine AO.skip rfl rfl ⟨80, false, rfl, rfl, rfl⟩ ?_
                refine AO.ro rfl rfl (gOn_none rfl) (RO.pick_f rfl rfl rfl) ?_
                refine AO.nil ?_
                refine AW.cond_f rfl ?_
                refine AW.skip ?_
                refine AW.seq ?_
                refine AW.seq ?_
                refine AW.region [0, 0, 0] rfl ?_
                refine AO.ro rfl rfl (gOn_none rfl) (RO.move rfl rfl) ?_
                refine AO.ro rfl rfl (gOn_none rfl) (RO.len rfl Try.underlying26 rfl) ?_
                refine AO.split rfl rfl (gOn_none rfl) (RO.gtr rfl rfl rfl) (fun t24 => ?_) (fun t24 => ?_)
                · skip
                  refine AO.nil ?_
                  refine AW.cond_t rfl ?_
                  refine AW.seq ?_
                  refine AW.region [0, 0] rfl ?_
                  refine AO.ro rfl rfl (gOn_none rfl) (RO.assign rfl rfl) ?_
                  refine AO.ro rfl rfl (gOn_none rfl) (RO.assign rfl rfl) ?_
                  refine AO.nil ?_
                  refine AW.ret ?_
                  refine ⟨[], [.d (enc ([] : (List Int))), .d (.lit (.int .i64 1))], [], rfl, ⟨⟨_, rfl, .inr ⟨rfl, _, rfl⟩⟩, ⟨⟨_, rfl, .inl rfl⟩, rfl⟩⟩, trivial, ?_⟩
                  refine ⟨([]), 1, rfl, rfl, ?_⟩
                  have ht : SayTab m := fun i a b => h2 i a (by omega)
                  first
                  | exact spec_err (say_of (chk_tab h3 fun h => absurd h.2 (by unfold SayIn; omega)) (by omega)) (by omega)
                  | exact spec_err (say_of (chk_fst h3 ht (by unfold SayIn; omega) (by unfold SayFst; grind)) (by omega)) (by omega)
                  | exact spec_err (say_long (chk_ok h3 ht (by unfold SayIn; omega) (by unfold SayFst; grind)) (by omega)) (by omega)
                  | exact spec_err (say_bad (chk_ok h3 ht (by unfold SayIn; omega) (by unfold SayFst; grind)) (by omega) (by grind)) (by omega)
                · skip
                  refine AO.nil ?_
                  refine AW.cond_f rfl ?_
                  refine AW.skip ?_
                  refine AW.seq ?_
                  refine AW.seq ?_
                  refine AW.region [0, 0, 2] rfl ?_
                  refine AO.ro rfl rfl (gOn_none rfl) (RO.move rfl rfl) ?_
                  refine AO.ro rfl rfl (gOn_none rfl) (RO.move rfl rfl) ?_
                  refine AO.call0 («as» := [.d (enc (heard : (List Int))), .fn 55 []]) (gOn_none rfl) rfl rfl rfl rfl Try.call58 ⟨⟨_, rfl, rfl⟩, ⟨_, rfl, rfl⟩, rfl⟩ (ContainsFunc58_ok heard 55 [] (fun (x : Int) => decide (x ≠ 0 ∧ x ≠ 1)) ⟨rfl, Try.call55⟩ (fun x0 => Fc.mono (saysBit_ok x0) (by rintro _ _ ⟨_, rfl, rfl, hy⟩; first | (subst hy; exact ⟨rfl, rfl⟩) | exact ⟨by rw [hy], rfl⟩))) ?_
                  rintro _ _ ⟨y25, rfl, rfl, c25⟩
                  refine ⟨[], 2, .d (.lit (.bool y25)), [], rfl, trivial, rfl, ?_⟩
                  refine AO.nil ?_
                  refine AW.caseb 90 rfl (fun b26 => ?_) (fun b26 => ?_)
                  · skip
                    first | replace b26 := of_decide_eq_true (c25.symm.trans b26) | (replace b26 := List.any_eq_true.1 (c25.symm.trans b26); simp only [decide_eq_true_eq] at b26) | skip
                    refine AW.cond_t rfl ?_
                    refine AW.seq ?_
                    refine AW.region [0, 0] rfl ?_
                    refine AO.ro rfl rfl (gOn_none rfl) (RO.assign rfl rfl) ?_
                    refine AO.ro rfl rfl (gOn_none rfl) (RO.assign rfl rfl) ?_
                    refine AO.nil ?_
                    refine AW.ret ?_
                    refine ⟨[], [.d (enc ([] : (List Int))), .d (.lit (.int .i64 2))], [], rfl, ⟨⟨_, rfl, .inr ⟨rfl, _, rfl⟩⟩, ⟨⟨_, rfl, .inl rfl⟩, rfl⟩⟩, trivial, ?_⟩
                    refine ⟨([]), 2, rfl, rfl, ?_⟩
                    have ht : SayTab m := fun i a b => h2 i a (by omega)
                    first
                    | exact spec_err (say_of (chk_tab h3 fun h => absurd h.2 (by unfold SayIn; omega)) (by omega)) (by omega)
                    | exact spec_err (say_of (chk_fst h3 ht (by unfold SayIn; omega) (by unfold SayFst; grind)) (by omega)) (by omega)
                    | exact spec_err (say_long (chk_ok h3 ht (by unfold SayIn; omega) (by unfold SayFst; grind)) (by omega)) (by omega)
                    | exact spec_err (say_bad (chk_ok h3 ht (by unfold SayIn; omega) (by unfold SayFst; grind)) (by omega) (by grind)) (by omega)
                  · skip
                    first | replace b26 := of_decide_eq_false (c25.symm.trans b26) | (replace b26 := List.any_eq_false.1 (c25.symm.trans b26); simp only [decide_eq_true_eq] at b26) | skip
                    refine AW.cond_f rfl ?_
                    refine AW.skip ?_
                    refine AW.seq ?_
                    refine AW.region [0] rfl ?_
                    refine AO.ro rfl rfl (gOn_none rfl) (RO.assign rfl rfl) ?_
                    refine AO.nil ?_
                    refine AW.seq ?_
                    refine AW.region [0, 0, 0] rfl ?_
                    refine AO.ro rfl rfl (gOn_none rfl) (RO.fld_ptr rfl fa42_1 rfl) ?_
                    refine AO.ro rfl rfl (gOn_none rfl) (RO.ld_ptr rfl Try.underlying3 rfl rfl rfl rfl) ?_
                    refine AO.ro rfl rfl (gOn_none rfl) (RO.assign rfl rfl) ?_
                    refine AO.nil ?_
                    refine AW.seq ?_
                    refine AW.seq ?_
                    refine AW.region [0, 0, 0] rfl ?_
                    refine AO.ro rfl rfl (gOn_none rfl) (RO.move rfl rfl) ?_
                    refine AO.ro rfl rfl (gOn_none rfl) (RO.len rfl Try.underlying26 rfl) ?_
                    refine AO.ro rfl rfl (gOn_none rfl) (RO.move rfl rfl) ?_
                    refine AO.nil ?_
                    refine AW.block ?_
                    refine AW.loop (mp := [(0, some 0), (2, none)]) (X := Int × Int × List Int) (fun x => ⟨118, 3, [(2, .ptr 0 0), (4, .nil), (5, .d (.lit (.int .i64 0))), (10, .own 2), (11, .d (.lit (.int .i64 x.2.1))), (93, .d (enc (heard : (List Int)))), (94, .d (.lit (.int .i64 ((heard.length : Int))))), (95, .d (.lit (.int .i64 x.1)))], [(0, some (Ent.box 42 [.d (.lit (.bool m.First)), .d (.lit (.int .i64 m.Start)), .d (enc (m.Says : (List (A2 Int)))), .d (enc (m.Next : (List (A2 Int))))])), (2, some (Ent.arrOf 3 (x.2.2 : List Int)))]⟩) (fun x => (SayTab m ∧ sayE m heard = 0) ∧ (0 ≤ x.1 ∧ x.1 ≤ heard.length) ∧ (0 ≤ x.2.1 ∧ x.2.1 < m.Says.length) ∧ ((x.2.2.length : Int) = x.1) ∧ (sayRun m m.Start heard = x.2.2 ++ sayRun m x.2.1 (heard.drop x.1.toNat)) ∧ (∀ x ∈ heard, x = 0 ∨ x = 1)) (fun x => (heard.length - x.1).toNat) ((0, m.Start, [])) ?_ ⟨rfl, rfl, ⟨⟨_, rfl, .inl rfl⟩, ⟨⟨_, rfl, .inl rfl⟩, ⟨⟨_, rfl, .inl rfl⟩, ⟨⟨_, rfl, .inl rfl⟩, ⟨⟨_, rfl, .inl rfl⟩, ⟨⟨_, rfl, .inl rfl⟩, ⟨⟨_, rfl, .inl rfl⟩, ⟨⟨_, rfl, .inl rfl⟩, trivial⟩⟩⟩⟩⟩⟩⟩⟩, ⟨⟨_, rfl, rfl⟩, ⟨⟨_, _, _, rfl, by decide⟩, trivial⟩⟩⟩ ?_
                    · try dsimp only
                      have ht : SayTab m := fun i a b => h2 i a (by omega)
                      have hi : SayIn m := by unfold SayIn; omega
                      have hf : SayFst m := by unfold SayFst; grind
                      have hb : ∀ x ∈ heard, x = 0 ∨ x = 1 := by grind
                      have hc := chk_ok h3 ht hi hf
                      exact ⟨⟨ht, say_ok hc (by omega) hb⟩, by omega, hi, rfl, rfl, hb⟩
                    · skip
                      intro x hx
                      obtain ⟨i, q, l⟩ := x
                      replace hx : (SayTab m ∧ sayE m heard = 0) ∧ (0 ≤ i ∧ i ≤ heard.length) ∧ (0 ≤ q ∧ q < m.Says.length) ∧ ((l.length : Int) = i) ∧ (sayRun m m.Start heard = l ++ sayRun m q (heard.drop i.toNat)) ∧ (∀ x ∈ heard, x = 0 ∨ x = 1) := hx
                      obtain ⟨g0, g1, g2, g3, g4, g5⟩ := hx
                      refine (show AW _ _ _ (⟨118, 3, [(2, .ptr 0 0), (4, .nil), (5, .d (.lit (.int .i64 0))), (10, .own 2), (11, .d (.lit (.int .i64 q))), (93, .d (enc (heard : (List Int)))), (94, .d (.lit (.int .i64 ((heard.length : Int))))), (95, .d (.lit (.int .i64 i)))], [(0, some (Ent.box 42 [.d (.lit (.bool m.First)), .d (.lit (.int .i64 m.Start)), .d (enc (m.Says : (List (A2 Int)))), .d (enc (m.Next : (List (A2 Int))))])), (2, some (Ent.arrOf 3 (l : List Int)))]⟩ : St) _ from ?_)
                      have g6 : i < heard.length → ix heard i = 0 ∨ ix heard i = 1 := fun h => g5 _ (ix_mem (by omega) h)
                      refine AW.seq ?_
                      refine AW.region [0] rfl ?_
                      refine AO.split rfl rfl (gOn_none rfl) (RO.lss rfl rfl rfl) (fun t27 => ?_) (fun t27 => ?_)
                      · skip
                        refine AO.nil ?_
                        refine AW.seq ?_
                        refine AW.cond_t rfl ?_
                        refine AW.skip ?_
                        refine AW.seq ?_
                        refine AW.block ?_
                        refine AW.seq ?_
                        refine AW.region [0, 0, 0] rfl ?_
                        refine AO.ro rfl rfl (gOn_none rfl) (RO.idx rfl Try.underlying26 ti3 rfl rfl (by omega)) ?_
                        refine AO.ro rfl rfl (gOn_none rfl) (RO.ld_addr rfl Try.underlying3 rfl rfl rfl) ?_
                        refine AO.ro rfl rfl (gOn_none rfl) (RO.assign rfl rfl) ?_
                        refine AO.nil ?_
                        refine AW.seq ?_
                        refine AW.region [0, 0, 0, 0, 0, 0, 0, 0, 1, 2, 0] rfl ?_
                        refine AO.ro rfl rfl (gOn_none rfl) (RO.move rfl rfl) ?_
                        refine AO.ro rfl rfl (gOn_none rfl) (RO.fld_ptr rfl fa42_2 rfl) ?_
                        refine AO.ro rfl rfl (gOn_none rfl) (RO.ld_ptr rfl Try.underlying40 rfl rfl rfl rfl) ?_
                        refine AO.ro rfl rfl (gOn_none rfl) (RO.move rfl rfl) ?_
                        refine AO.ro rfl rfl (gOn_none rfl) (RO.move rfl rfl) ?_
                        refine AO.ro rfl rfl (gOn_none rfl) (RO.idx rfl Try.underlying40 ti87 rfl rfl (by omega)) ?_
                        refine AO.ro rfl rfl (gOn_none rfl) (show RO _ _ _ _ (.addr (enc (A2.ix (ix m.Says q) (ix heard i) : Int))) from RO.idx_arr (β := (A2 Int)) (α := Int) (b := ix m.Says q) (j := ix heard i) rfl Try.underlying87 ti3 rfl rfl rfl (by omega)) ?_
                        refine AO.ro rfl rfl (gOn_none rfl) (RO.ld_addr rfl Try.underlying3 rfl rfl rfl) ?_
                        refine AO.al1 (gOn_none rfl) (AL.lits (α := Int) (ys := [A2.ix (ix m.Says q) (ix heard i)]) 3 rfl (by kernel_rfl) rfl rfl rfl Try.underlying26 ti3 rfl ⟨rfl, rfl, rfl⟩ rfl (fun _ => rfl) rfl (by kernel_rfl) (by kernel_rfl)) ?_
                        refine AO.ef1 (gOn_none rfl) (EF.append (α := Int) (ys := ([A2.ix (ix m.Says q) (ix heard i)] : List Int)) default 4 rfl (by kernel_rfl) rfl rfl rfl Try.underlying26 ti3 rfl rfl rfl (by decide) zr3 rfl rfl (.inr (.inl ⟨_, _, rfl, rfl⟩)) (by simp only [List.length_append, List.length_cons, List.length_nil]; omega) (by simp only [List.length_append, List.length_cons, List.length_nil]; omega)) ?_
                        refine AO.ro rfl rfl (gOn_none rfl) (RO.assign rfl rfl) ?_
                        refine AO.nil ?_
                        refine AW.region [0, 0, 0, 0, 0, 0, 0, 0] rfl ?_
                        refine AO.ro rfl rfl (gOn_none rfl) (RO.fld_ptr rfl fa42_3 rfl) ?_
                        refine AO.ro rfl rfl (gOn_none rfl) (RO.ld_ptr rfl Try.underlying40 rfl rfl rfl rfl) ?_
                        refine AO.ro rfl rfl (gOn_none rfl) (RO.move rfl rfl) ?_
                        refine AO.ro rfl rfl (gOn_none rfl) (RO.move rfl rfl) ?_
                        refine AO.ro rfl rfl (gOn_none rfl) (RO.idx rfl Try.underlying40 ti87 rfl rfl (by omega)) ?_
                        refine AO.ro rfl rfl (gOn_none rfl) (show RO _ _ _ _ (.addr (enc (A2.ix (ix m.Next q) (ix heard i) : Int))) from RO.idx_arr (β := (A2 Int)) (α := Int) (b := ix m.Next q) (j := ix heard i) rfl Try.underlying87 ti3 rfl rfl rfl (by omega)) ?_
                        refine AO.ro rfl rfl (gOn_none rfl) (RO.ld_addr rfl Try.underlying3 rfl rfl rfl) ?_
                        refine AO.ro rfl rfl (gOn_none rfl) (RO.assign rfl rfl) ?_
                        refine AO.nil ?_
                        refine AW.region [0, 0] rfl ?_
                        refine AO.ro rfl rfl (gOn_none rfl) (RO.add rfl rfl rfl (by omega)) ?_
                        refine AO.ro rfl rfl (gOn_none rfl) (RO.move rfl rfl) ?_
                        refine AO.nil ?_
                        refine ⟨(i + 1, A2.ix (ix m.Next q) (ix heard i), l ++ ([A2.ix (ix m.Says q) (ix heard i)])), [(0, some 0), (2, some 4)], ?_, ?_, ⟨rfl, rfl, ⟨⟨_, rfl, .inl rfl⟩, ⟨⟨_, rfl, .inl rfl⟩, ⟨⟨_, rfl, .inl rfl⟩, ⟨⟨_, rfl, .inl rfl⟩, ⟨⟨_, rfl, .inl rfl⟩, ⟨⟨_, rfl, .inl rfl⟩, ⟨⟨_, rfl, .inl rfl⟩, ⟨⟨_, rfl, .inl rfl⟩, trivial⟩⟩⟩⟩⟩⟩⟩⟩, ⟨⟨_, rfl, rfl⟩, ⟨⟨_, rfl, rfl⟩, trivial⟩⟩⟩⟩
                        · try dsimp only
                          exact ⟨g0, by omega, next_in g0.1 g2, by simp; omega, by rw [g4, run_step g1.1 (by omega)]; simp, g5⟩
                        · try dsimp only
                          first | omega | (simp; done) | (simp_all; done) | (simp_all; omega)
                      · skip
                        refine AO.nil ?_
                        refine AW.seq ?_
                        refine AW.cond_f rfl ?_
                        refine AW.exit ?_
                        refine AW.seq ?_
                        refine AW.region [0, 0, 0] rfl ?_
                        refine AO.ro rfl rfl (gOn_none rfl) (RO.move rfl rfl) ?_
                        refine AO.ro rfl rfl (gOn_none rfl) (RO.assign rfl rfl) ?_
                        refine AO.ro rfl rfl (gOn_none rfl) (RO.assign rfl rfl) ?_
                        refine AO.nil ?_
                        refine AW.freeze 4 2 rfl rfl ?_
                        refine AW.ret ?_
                        refine ⟨[], [.d (enc (l : (List Int))), .d (.lit (.int .i64 0))], [], rfl, ⟨⟨_, rfl, .inl rfl⟩, ⟨⟨_, rfl, .inl rfl⟩, rfl⟩⟩, trivial, ?_⟩
                        refine ⟨l, 0, rfl, rfl, ?_⟩
                        rw [drop_all (by omega)] at g4; exact spec_ok g0.2 (by rw [g4]; simp [sayRun])

theorem check11_ok (m : Machine) : Fc Try.prog 59 [.d (enc (m : Machine))] [] (fun r h => ∃ (e : Int), r = .d (.lit (.int .i64 e)) ∧ h = [] ∧ (e = chkE m)) := by
  refine Fc.of_body Try.func59 rfl Try.ntmps59 (by simp) (fun F => ?_)
  refine (show AW _ _ _ (⟨102, 0, [(0, .d (enc (m : Machine)))], []⟩ : St) _ from ?_)
  refine AW.seq ?_
  refine AW.region [1, 0] rfl ?_
  refine AO.al1 (gOn_none rfl) (AL.box 0 rfl (by kernel_rfl) rfl rfl rfl rfl rfl) ?_
  refine AO.ro rfl rfl (gOn_none rfl) (RO.assign rfl rfl) ?_
  refine AO.nil ?_
  refine AW.seq ?_
  refine AW.region [0, 0, 0, 0] rfl ?_
  refine AO.ro rfl rfl (gOn_none rfl) (RO.fld_ptr rfl fa42_2 rfl) ?_
  refine AO.ro rfl rfl (gOn_none rfl) (RO.ld_ptr rfl Try.underlying40 rfl rfl rfl rfl) ?_
  refine AO.fact 8 rfl (fun ln1 => ?_)
  replace ln1 : m.Says.length * 16 ≤ 140737488355328 := ln1
  refine AO.ro rfl rfl (gOn_none rfl) (RO.len rfl Try.underlying40 rfl) ?_
  refine AO.ro rfl rfl (gOn_none rfl) (RO.assign rfl rfl) ?_
  refine AO.nil ?_
  refine AW.seq ?_
  refine AW.seq ?_
  refine AW.region [0, 0, 0, 0, 0, 0, 0, 0, 0, 0, 0, 0, 0] rfl ?_
  refine AO.ro rfl rfl (gOn_none rfl) (RO.move rfl rfl) ?_
  refine AO.split rfl rfl (gOn_none rfl) (RO.lss rfl rfl rfl) (fun t2 => ?_) (fun t2 => ?_)
  · skip
    refine AO.ro rfl rfl (gOn_none rfl) (RO.move rfl rfl) ?_
    refine AO.skip rfl rfl ⟨12, true, rfl, rfl, rfl⟩ ?_
    refine AO.skip rfl rfl ⟨12, true, rfl, rfl, rfl⟩ ?_
    refine AO.ro rfl rfl (gOn_none rfl) (RO.pick_t rfl rfl rfl) ?_
    refine AO.ro rfl rfl (gOn_none rfl) (RO.move rfl rfl) ?_
    refine AO.skip rfl rfl ⟨16, true, rfl, rfl, rfl⟩ ?_
    refine AO.skip rfl rfl ⟨16, true, rfl, rfl, rfl⟩ ?_
    refine AO.skip rfl rfl ⟨16, true, rfl, rfl, rfl⟩ ?_
    refine AO.skip rfl rfl ⟨16, true, rfl, rfl, rfl⟩ ?_
    refine AO.skip rfl rfl ⟨16, true, rfl, rfl, rfl⟩ ?_
    refine AO.ro rfl rfl (gOn_none rfl) (RO.pick_t rfl rfl rfl) ?_
    refine AO.nil ?_
    refine AW.cond_t rfl ?_
    refine AW.seq ?_
    refine AW.region [0] rfl ?_
    refine AO.ro rfl rfl (gOn_none rfl) (RO.assign rfl rfl) ?_
    refine AO.nil ?_
    refine AW.ret ?_
    refine ⟨[], [.d (.lit (.int .i64 1))], [], rfl, ⟨⟨_, rfl, .inl rfl⟩, rfl⟩, trivial, ?_⟩
    refine ⟨1, rfl, rfl, ?_⟩
    first
    | exact (chk_size (by unfold SaySize; omega)).symm
    | exact (chk_tab (by unfold SaySize; omega) fun h => absurd h.2 (by unfold SayIn; omega)).symm
  · skip
    refine AO.ro rfl rfl (gOn_none rfl) (RO.move rfl rfl) ?_
    refine AO.ro rfl rfl ⟨12, false, rfl, rfl, rfl⟩ (RO.move rfl rfl) ?_
    refine AO.split rfl rfl ⟨12, false, rfl, rfl, rfl⟩ (RO.gtr rfl rfl rfl) (fun t3 => ?_) (fun t3 => ?_)
    · skip
      refine AO.ro rfl rfl (gOn_none rfl) (RO.pick_f rfl rfl rfl) ?_
      refine AO.ro rfl rfl (gOn_none rfl) (RO.move rfl rfl) ?_
      refine AO.skip rfl rfl ⟨16, true, rfl, rfl, rfl⟩ ?_
      refine AO.skip rfl rfl ⟨16, true, rfl, rfl, rfl⟩ ?_
      refine AO.skip rfl rfl ⟨16, true, rfl, rfl, rfl⟩ ?_
      refine AO.skip rfl rfl ⟨16, true, rfl, rfl, rfl⟩ ?_
      refine AO.skip rfl rfl ⟨16, true, rfl, rfl, rfl⟩ ?_
      refine AO.ro rfl rfl (gOn_none rfl) (RO.pick_t rfl rfl rfl) ?_
      refine AO.nil ?_
      refine AW.cond_t rfl ?_
      refine AW.seq ?_
      refine AW.region [0] rfl ?_
      refine AO.ro rfl rfl (gOn_none rfl) (RO.assign rfl rfl) ?_
      refine AO.nil ?_
      refine AW.ret ?_
      refine ⟨[], [.d (.lit (.int .i64 1))], [], rfl, ⟨⟨_, rfl, .inl rfl⟩, rfl⟩, trivial, ?_⟩
      refine ⟨1, rfl, rfl, ?_⟩
      first
      | exact (chk_size (by unfold SaySize; omega)).symm
      | exact (chk_tab (by unfold SaySize; omega) fun h => absurd h.2 (by unfold SayIn; omega)).symm
    · skip
      refine AO.ro rfl rfl (gOn_none rfl) (RO.pick_f rfl rfl rfl) ?_
      refine AO.ro rfl rfl (gOn_none rfl) (RO.move rfl rfl) ?_
      refine AO.ro rfl rfl ⟨16, false, rfl, rfl, rfl⟩ (RO.fld_ptr rfl fa42_3 rfl) ?_
      refine AO.ro rfl rfl ⟨16, false, rfl, rfl, rfl⟩ (RO.ld_ptr rfl Try.underlying40 rfl rfl rfl rfl) ?_
      refine AO.fact 18 rfl (fun ln4 => ?_)
      replace ln4 : m.Next.length * 16 ≤ 140737488355328 := ln4
      refine AO.ro rfl rfl ⟨16, false, rfl, rfl, rfl⟩ (RO.len rfl Try.underlying40 rfl) ?_
      refine AO.ro rfl rfl ⟨16, false, rfl, rfl, rfl⟩ (RO.move rfl rfl) ?_
      refine AO.splitn rfl rfl ⟨16, false, rfl, rfl, rfl⟩ (RO.neq rfl rfl rfl) (fun t5 => ?_) (fun t5 => ?_)
      · skip
        refine AO.ro rfl rfl (gOn_none rfl) (RO.pick_f rfl rfl rfl) ?_
        refine AO.nil ?_
        refine AW.cond_t rfl ?_
        refine AW.seq ?_
        refine AW.region [0] rfl ?_
        refine AO.ro rfl rfl (gOn_none rfl) (RO.assign rfl rfl) ?_
        refine AO.nil ?_
        refine AW.ret ?_
        refine ⟨[], [.d (.lit (.int .i64 1))], [], rfl, ⟨⟨_, rfl, .inl rfl⟩, rfl⟩, trivial, ?_⟩
        refine ⟨1, rfl, rfl, ?_⟩
        first
        | exact (chk_size (by unfold SaySize; omega)).symm
        | exact (chk_tab (by unfold SaySize; omega) fun h => absurd h.2 (by unfold SayIn; omega)).symm
      · skip
        refine AO.ro rfl rfl (gOn_none rfl) (RO.pick_f rfl rfl rfl) ?_
        refine AO.nil ?_
        refine AW.cond_f rfl ?_
        refine AW.skip ?_
        refine AW.seq ?_
        refine AW.seq ?_
        refine AW.region [0, 0, 0, 0, 0, 0, 0, 0, 0] rfl ?_
        refine AO.ro rfl rfl (gOn_none rfl) (RO.fld_ptr rfl fa42_1 rfl) ?_
        refine AO.ro rfl rfl (gOn_none rfl) (RO.ld_ptr rfl Try.underlying3 rfl rfl rfl rfl) ?_
        refine AO.split rfl rfl (gOn_none rfl) (RO.lss rfl rfl rfl) (fun t6 => ?_) (fun t6 => ?_)
        · skip
          refine AO.ro rfl rfl (gOn_none rfl) (RO.move rfl rfl) ?_
          refine AO.skip rfl rfl ⟨26, true, rfl, rfl, rfl⟩ ?_
          refine AO.skip rfl rfl ⟨26, true, rfl, rfl, rfl⟩ ?_
          refine AO.skip rfl rfl ⟨26, true, rfl, rfl, rfl⟩ ?_
          refine AO.skip rfl rfl ⟨26, true, rfl, rfl, rfl⟩ ?_
          refine AO.ro rfl rfl (gOn_none rfl) (RO.pick_t rfl rfl rfl) ?_
          refine AO.nil ?_
          refine AW.cond_t rfl ?_
          refine AW.seq ?_
          refine AW.region [0] rfl ?_
          refine AO.ro rfl rfl (gOn_none rfl) (RO.assign rfl rfl) ?_
          refine AO.nil ?_
          refine AW.ret ?_
          refine ⟨[], [.d (.lit (.int .i64 2))], [], rfl, ⟨⟨_, rfl, .inl rfl⟩, rfl⟩, trivial, ?_⟩
          refine ⟨2, rfl, rfl, ?_⟩
          first
          | exact (chk_size (by unfold SaySize; omega)).symm
          | exact (chk_tab (by unfold SaySize; omega) fun h => absurd h.2 (by unfold SayIn; omega)).symm
        · skip
          refine AO.ro rfl rfl (gOn_none rfl) (RO.move rfl rfl) ?_
          refine AO.ro rfl rfl ⟨26, false, rfl, rfl, rfl⟩ (RO.fld_ptr rfl fa42_1 rfl) ?_
          refine AO.ro rfl rfl ⟨26, false, rfl, rfl, rfl⟩ (RO.ld_ptr rfl Try.underlying3 rfl rfl rfl rfl) ?_
          refine AO.ro rfl rfl ⟨26, false, rfl, rfl, rfl⟩ (RO.move rfl rfl) ?_
          refine AO.split rfl rfl ⟨26, false, rfl, rfl, rfl⟩ (RO.geq rfl rfl rfl) (fun t7 => ?_) (fun t7 => ?_)
          · skip
            refine AO.ro rfl rfl (gOn_none rfl) (RO.pick_f rfl rfl rfl) ?_
            refine AO.nil ?_
            refine AW.cond_t rfl ?_
            refine AW.seq ?_
            refine AW.region [0] rfl ?_
            refine AO.ro rfl rfl (gOn_none rfl) (RO.assign rfl rfl) ?_
            refine AO.nil ?_
            refine AW.ret ?_
            refine ⟨[], [.d (.lit (.int .i64 2))], [], rfl, ⟨⟨_, rfl, .inl rfl⟩, rfl⟩, trivial, ?_⟩
            refine ⟨2, rfl, rfl, ?_⟩
            first
            | exact (chk_size (by unfold SaySize; omega)).symm
            | exact (chk_tab (by unfold SaySize; omega) fun h => absurd h.2 (by unfold SayIn; omega)).symm
          · skip
            refine AO.ro rfl rfl (gOn_none rfl) (RO.pick_f rfl rfl rfl) ?_
            refine AO.nil ?_
            refine AW.cond_f rfl ?_
            refine AW.skip ?_
            refine AW.seq ?_
            refine AW.seq ?_
            refine AW.region [0] rfl ?_
            refine AO.ro rfl rfl (gOn_none rfl) (RO.assign rfl rfl) ?_
            refine AO.nil ?_
            refine AW.block ?_
            refine AW.loop (mp := [(0, some 0)]) (X := Int) (fun x => ⟨102, 1, [(1, .ptr 0 0), (2, .d (.lit (.int .i64 0))), (3, .d (.lit (.int .i64 ((m.Says.length : Int))))), (4, .d (.lit (.int .i64 x)))], [(0, some (Ent.box 42 [.d (.lit (.bool m.First)), .d (.lit (.int .i64 m.Start)), .d (enc (m.Says : (List (A2 Int)))), .d (enc (m.Next : (List (A2 Int))))]))]⟩) (fun x => (0 ≤ x ∧ x ≤ m.Says.length) ∧ (∀ j : Int, 0 ≤ j → j < x → SayCell m j) ∧ (SaySize m ∧ SayIn m)) (fun x => (m.Says.length - x).toNat) 0 ?_ ⟨rfl, rfl, ⟨⟨_, rfl, .inl rfl⟩, ⟨⟨_, rfl, .inl rfl⟩, ⟨⟨_, rfl, .inl rfl⟩, ⟨⟨_, rfl, .inl rfl⟩, trivial⟩⟩⟩⟩, ⟨⟨_, rfl, rfl⟩, trivial⟩⟩ ?_
            · try dsimp only
              exact ⟨by omega, fun j a b => by omega, by unfold SaySize SayIn; omega⟩
            · skip
              intro i hx
              replace hx : (0 ≤ i ∧ i ≤ m.Says.length) ∧ (∀ j : Int, 0 ≤ j → j < i → SayCell m j) ∧ (SaySize m ∧ SayIn m) := hx
              obtain ⟨h1, h2, h3⟩ := hx
              refine (show AW _ _ _ (⟨102, 1, [(1, .ptr 0 0), (2, .d (.lit (.int .i64 0))), (3, .d (.lit (.int .i64 ((m.Says.length : Int))))), (4, .d (.lit (.int .i64 i)))], [(0, some (Ent.box 42 [.d (.lit (.bool m.First)), .d (.lit (.int .i64 m.Start)), .d (enc (m.Says : (List (A2 Int)))), .d (enc (m.Next : (List (A2 Int))))]))]⟩ : St) _ from ?_)
              refine AW.seq ?_
              refine AW.seq ?_
              refine AW.region [0, 0, 0] rfl ?_
              refine AO.ro rfl rfl (gOn_none rfl) (RO.move rfl rfl) ?_
              refine AO.ro rfl rfl (gOn_none rfl) (RO.move rfl rfl) ?_
              refine AO.split rfl rfl (gOn_none rfl) (RO.lss rfl rfl rfl) (fun t8 => ?_) (fun t8 => ?_)
              · skip
                refine AO.nil ?_
                refine AW.cond_t rfl ?_
                refine AW.skip ?_
                refine AW.seq ?_
                refine AW.block ?_
                refine AW.seq ?_
                refine AW.region [0] rfl ?_
                refine AO.ro rfl rfl (gOn_none rfl) (RO.assign rfl rfl) ?_
                refine AO.nil ?_
                refine AW.block ?_
                refine AW.loop (mp := [(0, some 0)]) (X := Int) (fun x => ⟨102, 1, [(1, .ptr 0 0), (2, .d (.lit (.int .i64 0))), (3, .d (.lit (.int .i64 ((m.Says.length : Int))))), (4, .d (.lit (.int .i64 i))), (5, .d (.lit (.int .i64 x)))], [(0, some (Ent.box 42 [.d (.lit (.bool m.First)), .d (.lit (.int .i64 m.Start)), .d (enc (m.Says : (List (A2 Int)))), .d (enc (m.Next : (List (A2 Int))))]))]⟩) (fun x => (0 ≤ x ∧ x ≤ 2) ∧ (∀ j : Int, 0 ≤ j → j < x → CellAt m i j)) (fun x => (2 - x).toNat) 0 ?_ ⟨rfl, rfl, ⟨⟨_, rfl, .inl rfl⟩, ⟨⟨_, rfl, .inl rfl⟩, ⟨⟨_, rfl, .inl rfl⟩, ⟨⟨_, rfl, .inl rfl⟩, ⟨⟨_, rfl, .inl rfl⟩, trivial⟩⟩⟩⟩⟩, ⟨⟨_, rfl, rfl⟩, trivial⟩⟩ ?_
                · try dsimp only
                  exact ⟨by omega, fun j a b => by omega⟩
                · skip
                  intro k hx
                  replace hx : (0 ≤ k ∧ k ≤ 2) ∧ (∀ j : Int, 0 ≤ j → j < k → CellAt m i j) := hx
                  obtain ⟨g1, g2⟩ := hx
                  refine (show AW _ _ _ (⟨102, 1, [(1, .ptr 0 0), (2, .d (.lit (.int .i64 0))), (3, .d (.lit (.int .i64 ((m.Says.length : Int))))), (4, .d (.lit (.int .i64 i))), (5, .d (.lit (.int .i64 k)))], [(0, some (Ent.box 42 [.d (.lit (.bool m.First)), .d (.lit (.int .i64 m.Start)), .d (enc (m.Says : (List (A2 Int)))), .d (enc (m.Next : (List (A2 Int))))]))]⟩ : St) _ from ?_)
                  refine AW.seq ?_
                  refine AW.seq ?_
                  refine AW.region [0, 0] rfl ?_
                  refine AO.ro rfl rfl (gOn_none rfl) (RO.move rfl rfl) ?_
                  refine AO.split rfl rfl (gOn_none rfl) (RO.lss rfl rfl rfl) (fun t9 => ?_) (fun t9 => ?_)
                  · skip
                    refine AO.nil ?_
                    refine AW.cond_t rfl ?_
                    refine AW.skip ?_
                    refine AW.seq ?_
                    refine AW.block ?_
                    refine AW.seq ?_
                    refine AW.region [0, 0, 0, 0, 0, 0, 0, 0, 0, 0, 0, 0, 0, 0, 0, 0, 0, 0, 0, 0, 0, 0, 0, 0, 0, 0, 0, 0, 0, 0, 0, 0, 0, 0, 0, 0, 0, 0, 0] rfl ?_
                    refine AO.ro rfl rfl (gOn_none rfl) (RO.fld_ptr rfl fa42_3 rfl) ?_
                    refine AO.ro rfl rfl (gOn_none rfl) (RO.ld_ptr rfl Try.underlying40 rfl rfl rfl rfl) ?_
                    refine AO.ro rfl rfl (gOn_none rfl) (RO.move rfl rfl) ?_
                    refine AO.ro rfl rfl (gOn_none rfl) (RO.move rfl rfl) ?_
                    refine AO.ro rfl rfl (gOn_none rfl) (RO.idx rfl Try.underlying40 ti87 rfl rfl (by omega)) ?_
                    refine AO.ro rfl rfl (gOn_none rfl) (show RO _ _ _ _ (.addr (enc (A2.ix (ix m.Next i) k : Int))) from RO.idx_arr (β := (A2 Int)) (α := Int) (b := ix m.Next i) (j := k) rfl Try.underlying87 ti3 rfl rfl rfl (by omega)) ?_
                    refine AO.ro rfl rfl (gOn_none rfl) (RO.ld_addr rfl Try.underlying3 rfl rfl rfl) ?_
                    refine AO.split rfl rfl (gOn_none rfl) (RO.lss rfl rfl rfl) (fun t10 => ?_) (fun t10 => ?_)
                    · skip
                      refine AO.ro rfl rfl (gOn_none rfl) (RO.move rfl rfl) ?_
                      refine AO.skip rfl rfl ⟨49, true, rfl, rfl, rfl⟩ ?_
                      refine AO.skip rfl rfl ⟨49, true, rfl, rfl, rfl⟩ ?_
                      refine AO.skip rfl rfl ⟨49, true, rfl, rfl, rfl⟩ ?_
                      refine AO.skip rfl rfl ⟨49, true, rfl, rfl, rfl⟩ ?_
                      refine AO.skip rfl rfl ⟨49, true, rfl, rfl, rfl⟩ ?_
                      refine AO.skip rfl rfl ⟨49, true, rfl, rfl, rfl⟩ ?_
                      refine AO.skip rfl rfl ⟨49, true, rfl, rfl, rfl⟩ ?_
                      refine AO.skip rfl rfl ⟨49, true, rfl, rfl, rfl⟩ ?_
                      refine AO.skip rfl rfl ⟨49, true, rfl, rfl, rfl⟩ ?_
                      refine AO.ro rfl rfl (gOn_none rfl) (RO.pick_t rfl rfl rfl) ?_
                      refine AO.ro rfl rfl (gOn_none rfl) (RO.move rfl rfl) ?_
                      refine AO.skip rfl rfl ⟨60, true, rfl, rfl, rfl⟩ ?_
                      refine AO.skip rfl rfl ⟨60, true, rfl, rfl, rfl⟩ ?_
                      refine AO.skip rfl rfl ⟨60, true, rfl, rfl, rfl⟩ ?_
                      refine AO.skip rfl rfl ⟨60, true, rfl, rfl, rfl⟩ ?_
                      refine AO.skip rfl rfl ⟨60, true, rfl, rfl, rfl⟩ ?_
                      refine AO.skip rfl rfl ⟨60, true, rfl, rfl, rfl⟩ ?_
                      refine AO.skip rfl rfl ⟨60, true, rfl, rfl, rfl⟩ ?_
                      refine AO.skip rfl rfl ⟨60, true, rfl, rfl, rfl⟩ ?_
                      refine AO.ro rfl rfl (gOn_none rfl) (RO.pick_t rfl rfl rfl) ?_
                      refine AO.ro rfl rfl (gOn_none rfl) (RO.move rfl rfl) ?_
                      refine AO.skip rfl rfl ⟨70, true, rfl, rfl, rfl⟩ ?_
                      refine AO.skip rfl rfl ⟨70, true, rfl, rfl, rfl⟩ ?_
                      refine AO.skip rfl rfl ⟨70, true, rfl, rfl, rfl⟩ ?_
                      refine AO.skip rfl rfl ⟨70, true, rfl, rfl, rfl⟩ ?_
                      refine AO.skip rfl rfl ⟨70, true, rfl, rfl, rfl⟩ ?_
                      refine AO.skip rfl rfl ⟨70, true, rfl, rfl, rfl⟩ ?_
                      refine AO.skip rfl rfl ⟨70, true, rfl, rfl, rfl⟩ ?_
                      refine AO.skip rfl rfl ⟨70, true, rfl, rfl, rfl⟩ ?_
                      refine AO.ro rfl rfl (gOn_none rfl) (RO.pick_t rfl rfl rfl) ?_
                      refine AO.nil ?_
                      refine AW.cond_t rfl ?_
                      refine AW.seq ?_
                      refine AW.region [0] rfl ?_
                      refine AO.ro rfl rfl (gOn_none rfl) (RO.assign rfl rfl) ?_
                      refine AO.nil ?_
                      refine AW.ret ?_
                      refine ⟨[], [.d (.lit (.int .i64 2))], [], rfl, ⟨⟨_, rfl, .inl rfl⟩, rfl⟩, trivial, ?_⟩
                      refine ⟨2, rfl, rfl, ?_⟩
                      have hn : ¬ SayCell m i := by
                        rcases (by omega : k = 0 ∨ k = 1) with rfl | rfl
                        · have e0 := @a2_zero (ix m.Next i) 0 rfl; have e1 := @a2_zero (ix m.Says i) 0 rfl; unfold SayCell; omega
                        · have e0 := @a2_one (ix m.Next i) 1 rfl; have e1 := @a2_one (ix m.Says i) 1 rfl; unfold SayCell; omega
                      exact (chk_tab h3.1 fun h => hn (h.1 i (by omega) (by omega))).symm
                    · skip
                      refine AO.ro rfl rfl (gOn_none rfl) (RO.move rfl rfl) ?_
                      refine AO.ro rfl rfl ⟨49, false, rfl, rfl, rfl⟩ (RO.fld_ptr rfl fa42_3 rfl) ?_
                      refine AO.ro rfl rfl ⟨49, false, rfl, rfl, rfl⟩ (RO.ld_ptr rfl Try.underlying40 rfl rfl rfl rfl) ?_
                      refine AO.ro rfl rfl ⟨49, false, rfl, rfl, rfl⟩ (RO.move rfl rfl) ?_
                      refine AO.ro rfl rfl ⟨49, false, rfl, rfl, rfl⟩ (RO.move rfl rfl) ?_
                      refine AO.ro rfl rfl ⟨49, false, rfl, rfl, rfl⟩ (RO.idx rfl Try.underlying40 ti87 rfl rfl (by omega)) ?_
                      refine AO.ro rfl rfl ⟨49, false, rfl, rfl, rfl⟩ (show RO _ _ _ _ (.addr (enc (A2.ix (ix m.Next i) k : Int))) from RO.idx_arr (β := (A2 Int)) (α := Int) (b := ix m.Next i) (j := k) rfl Try.underlying87 ti3 rfl rfl rfl (by omega)) ?_
                      refine AO.ro rfl rfl ⟨49, false, rfl, rfl, rfl⟩ (RO.ld_addr rfl Try.underlying3 rfl rfl rfl) ?_
                      refine AO.ro rfl rfl ⟨49, false, rfl, rfl, rfl⟩ (RO.move rfl rfl) ?_
                      refine AO.split rfl rfl ⟨49, false, rfl, rfl, rfl⟩ (RO.geq rfl rfl rfl) (fun t11 => ?_) (fun t11 => ?_)
                      · skip
                        refine AO.ro rfl rfl (gOn_none rfl) (RO.pick_f rfl rfl rfl) ?_
                        refine AO.ro rfl rfl (gOn_none rfl) (RO.move rfl rfl) ?_
                        refine AO.skip rfl rfl ⟨60, true, rfl, rfl, rfl⟩ ?_
                        refine AO.skip rfl rfl ⟨60, true, rfl, rfl, rfl⟩ ?_
                        refine AO.skip rfl rfl ⟨60, true, rfl, rfl, rfl⟩ ?_
                        refine AO.skip rfl rfl ⟨60, true, rfl, rfl, rfl⟩ ?_
                        refine AO.skip rfl rfl ⟨60, true, rfl, rfl, rfl⟩ ?_
                        refine AO.skip rfl rfl ⟨60, true, rfl, rfl, rfl⟩ ?_
                        refine AO.skip rfl rfl ⟨60, true, rfl, rfl, rfl⟩ ?_
                        refine AO.skip rfl rfl ⟨60, true, rfl, rfl, rfl⟩ ?_
                        refine AO.ro rfl rfl (gOn_none rfl) (RO.pick_t rfl rfl rfl) ?_
                        refine AO.ro rfl rfl (gOn_none rfl) (RO.move rfl rfl) ?_
                        refine AO.skip rfl rfl ⟨70, true, rfl, rfl, rfl⟩ ?_
                        refine AO.skip rfl rfl ⟨70, true, rfl, rfl, rfl⟩ ?_
                        refine AO.skip rfl rfl ⟨70, true, rfl, rfl, rfl⟩ ?_
                        refine AO.skip rfl rfl ⟨70, true, rfl, rfl, rfl⟩ ?_
                        refine AO.skip rfl rfl ⟨70, true, rfl, rfl, rfl⟩ ?_
                        refine AO.skip rfl rfl ⟨70, true, rfl, rfl, rfl⟩ ?_
                        refine AO.skip rfl rfl ⟨70, true, rfl, rfl, rfl⟩ ?_
                        refine AO.skip rfl rfl ⟨70, true, rfl, rfl, rfl⟩ ?_
                        refine AO.ro rfl rfl (gOn_none rfl) (RO.pick_t rfl rfl rfl) ?_
                        refine AO.nil ?_
                        refine AW.cond_t rfl ?_
                        refine AW.seq ?_
                        refine AW.region [0] rfl ?_
                        refine AO.ro rfl rfl (gOn_none rfl) (RO.assign rfl rfl) ?_
                        refine AO.nil ?_
                        refine AW.ret ?_
                        refine ⟨[], [.d (.lit (.int .i64 2))], [], rfl, ⟨⟨_, rfl, .inl rfl⟩, rfl⟩, trivial, ?_⟩
                        refine ⟨2, rfl, rfl, ?_⟩
                        have hn : ¬ SayCell m i := by
                          rcases (by omega : k = 0 ∨ k = 1) with rfl | rfl
                          · have e0 := @a2_zero (ix m.Next i) 0 rfl; have e1 := @a2_zero (ix m.Says i) 0 rfl; unfold SayCell; omega
                          · have e0 := @a2_one (ix m.Next i) 1 rfl; have e1 := @a2_one (ix m.Says i) 1 rfl; unfold SayCell; omega
                        exact (chk_tab h3.1 fun h => hn (h.1 i (by omega) (by omega))).symm
                      · skip
                        refine AO.ro rfl rfl (gOn_none rfl) (RO.pick_f rfl rfl rfl) ?_
                        refine AO.ro rfl rfl (gOn_none rfl) (RO.move rfl rfl) ?_
                        refine AO.ro rfl rfl ⟨60, false, rfl, rfl, rfl⟩ (RO.fld_ptr rfl fa42_2 rfl) ?_
                        refine AO.ro rfl rfl ⟨60, false, rfl, rfl, rfl⟩ (RO.ld_ptr rfl Try.underlying40 rfl rfl rfl rfl) ?_
                        refine AO.ro rfl rfl ⟨60, false, rfl, rfl, rfl⟩ (RO.move rfl rfl) ?_
                        refine AO.ro rfl rfl ⟨60, false, rfl, rfl, rfl⟩ (RO.move rfl rfl) ?_
                        refine AO.ro rfl rfl ⟨60, false, rfl, rfl, rfl⟩ (RO.idx rfl Try.underlying40 ti87 rfl rfl (by omega)) ?_
                        refine AO.ro rfl rfl ⟨60, false, rfl, rfl, rfl⟩ (show RO _ _ _ _ (.addr (enc (A2.ix (ix m.Says i) k : Int))) from RO.idx_arr (β := (A2 Int)) (α := Int) (b := ix m.Says i) (j := k) rfl Try.underlying87 ti3 rfl rfl rfl (by omega)) ?_
                        refine AO.ro rfl rfl ⟨60, false, rfl, rfl, rfl⟩ (RO.ld_addr rfl Try.underlying3 rfl rfl rfl) ?_
                        refine AO.split rfl rfl ⟨60, false, rfl, rfl, rfl⟩ (RO.lss rfl rfl rfl) (fun t12 => ?_) (fun t12 => ?_)
                        · skip
                          refine AO.ro rfl rfl (gOn_none rfl) (RO.pick_f rfl rfl rfl) ?_
                          refine AO.ro rfl rfl (gOn_none rfl) (RO.move rfl rfl) ?_
                          refine AO.skip rfl rfl ⟨70, true, rfl, rfl, rfl⟩ ?_
                          refine AO.skip rfl rfl ⟨70, true, rfl, rfl, rfl⟩ ?_
                          refine AO.skip rfl rfl ⟨70, true, rfl, rfl, rfl⟩ ?_
                          refine AO.skip rfl rfl ⟨70, true, rfl, rfl, rfl⟩ ?_
                          refine AO.skip rfl rfl ⟨70, true, rfl, rfl, rfl⟩ ?_
                          refine AO.skip rfl rfl ⟨70, true, rfl, rfl, rfl⟩ ?_
                          refine AO.skip rfl rfl ⟨70, true, rfl, rfl, rfl⟩ ?_
                          refine AO.skip rfl rfl ⟨70, true, rfl, rfl, rfl⟩ ?_
                          refine AO.ro rfl rfl (gOn_none rfl) (RO.pick_t rfl rfl rfl) ?_
                          refine AO.nil ?_
                          refine AW.cond_t rfl ?_
                          refine AW.seq ?_
                          refine AW.region [0] rfl ?_
                          refine AO.ro rfl rfl (gOn_none rfl) (RO.assign rfl rfl) ?_
                          refine AO.nil ?_
                          refine AW.ret ?_
                          refine ⟨[], [.d (.lit (.int .i64 2))], [], rfl, ⟨⟨_, rfl, .inl rfl⟩, rfl⟩, trivial, ?_⟩
                          refine ⟨2, rfl, rfl, ?_⟩
                          have hn : ¬ SayCell m i := by
                            rcases (by omega : k = 0 ∨ k = 1) with rfl | rfl
                            · have e0 := @a2_zero (ix m.Next i) 0 rfl; have e1 := @a2_zero (ix m.Says i) 0 rfl; unfold SayCell; omega
                            · have e0 := @a2_one (ix m.Next i) 1 rfl; have e1 := @a2_one (ix m.Says i) 1 rfl; unfold SayCell; omega
                          exact (chk_tab h3.1 fun h => hn (h.1 i (by omega) (by omega))).symm
                        · skip
                          refine AO.ro rfl rfl (gOn_none rfl) (RO.pick_f rfl rfl rfl) ?_
                          refine AO.ro rfl rfl (gOn_none rfl) (RO.move rfl rfl) ?_
                          refine AO.ro rfl rfl ⟨70, false, rfl, rfl, rfl⟩ (RO.fld_ptr rfl fa42_2 rfl) ?_
                          refine AO.ro rfl rfl ⟨70, false, rfl, rfl, rfl⟩ (RO.ld_ptr rfl Try.underlying40 rfl rfl rfl rfl) ?_
                          refine AO.ro rfl rfl ⟨70, false, rfl, rfl, rfl⟩ (RO.move rfl rfl) ?_
                          refine AO.ro rfl rfl ⟨70, false, rfl, rfl, rfl⟩ (RO.move rfl rfl) ?_
                          refine AO.ro rfl rfl ⟨70, false, rfl, rfl, rfl⟩ (RO.idx rfl Try.underlying40 ti87 rfl rfl (by omega)) ?_
                          refine AO.ro rfl rfl ⟨70, false, rfl, rfl, rfl⟩ (show RO _ _ _ _ (.addr (enc (A2.ix (ix m.Says i) k : Int))) from RO.idx_arr (β := (A2 Int)) (α := Int) (b := ix m.Says i) (j := k) rfl Try.underlying87 ti3 rfl rfl rfl (by omega)) ?_
                          refine AO.ro rfl rfl ⟨70, false, rfl, rfl, rfl⟩ (RO.ld_addr rfl Try.underlying3 rfl rfl rfl) ?_
                          refine AO.split rfl rfl ⟨70, false, rfl, rfl, rfl⟩ (RO.gtr rfl rfl rfl) (fun t13 => ?_) (fun t13 => ?_)
                          · skip
                            refine AO.ro rfl rfl (gOn_none rfl) (RO.pick_f rfl rfl rfl) ?_
                            refine AO.nil ?_
                            refine AW.cond_t rfl ?_
                            refine AW.seq ?_
                            refine AW.region [0] rfl ?_
                            refine AO.ro rfl rfl (gOn_none rfl) (RO.assign rfl rfl) ?_
                            refine AO.nil ?_
                            refine AW.ret ?_
                            refine ⟨[], [.d (.lit (.int .i64 2))], [], rfl, ⟨⟨_, rfl, .inl rfl⟩, rfl⟩, trivial, ?_⟩
                            refine ⟨2, rfl, rfl, ?_⟩
                            have hn : ¬ SayCell m i := by
                              rcases (by omega : k = 0 ∨ k = 1) with rfl | rfl
                              · have e0 := @a2_zero (ix m.Next i) 0 rfl; have e1 := @a2_zero (ix m.Says i) 0 rfl; unfold SayCell; omega
                              · have e0 := @a2_one (ix m.Next i) 1 rfl; have e1 := @a2_one (ix m.Says i) 1 rfl; unfold SayCell; omega
                            exact (chk_tab h3.1 fun h => hn (h.1 i (by omega) (by omega))).symm
                          · skip
                            refine AO.ro rfl rfl (gOn_none rfl) (RO.pick_f rfl rfl rfl) ?_
                            refine AO.nil ?_
                            refine AW.cond_f rfl ?_
                            refine AW.skip ?_
                            refine AW.region [0, 0, 0] rfl ?_
                            refine AO.ro rfl rfl (gOn_none rfl) (RO.move rfl rfl) ?_
                            refine AO.ro rfl rfl (gOn_none rfl) (RO.add rfl rfl rfl (by omega)) ?_
                            refine AO.ro rfl rfl (gOn_none rfl) (RO.assign rfl rfl) ?_
                            refine AO.nil ?_
                            refine ⟨k + 1, [(0, some 0)], ?_, ?_, ⟨rfl, rfl, ⟨⟨_, rfl, .inl rfl⟩, ⟨⟨_, rfl, .inl rfl⟩, ⟨⟨_, rfl, .inl rfl⟩, ⟨⟨_, rfl, .inl rfl⟩, ⟨⟨_, rfl, .inl rfl⟩, trivial⟩⟩⟩⟩⟩, ⟨⟨_, rfl, rfl⟩, trivial⟩⟩⟩
                            · try dsimp only
                              exact ⟨by omega, below_succ g2 (by unfold CellAt; omega)⟩
                            · try dsimp only
                              first | omega | (simp; done) | (simp_all; done) | (simp_all; omega)
                  · skip
                    refine AO.nil ?_
                    refine AW.cond_f rfl ?_
                    refine AW.exit ?_
                    refine AW.region [0, 0, 0] rfl ?_
                    refine AO.ro rfl rfl (gOn_none rfl) (RO.move rfl rfl) ?_
                    refine AO.ro rfl rfl (gOn_none rfl) (RO.add rfl rfl rfl (by omega)) ?_
                    refine AO.ro rfl rfl (gOn_none rfl) (RO.assign rfl rfl) ?_
                    refine AO.nil ?_
                    refine ⟨i + 1, [(0, some 0)], ?_, ?_, ⟨rfl, rfl, ⟨⟨_, rfl, .inl rfl⟩, ⟨⟨_, rfl, .inl rfl⟩, ⟨⟨_, rfl, .inl rfl⟩, ⟨⟨_, rfl, .inl rfl⟩, trivial⟩⟩⟩⟩, ⟨⟨_, rfl, rfl⟩, trivial⟩⟩⟩
                    · try dsimp only
                      exact ⟨by omega, below_succ h2 (by have a0 := g2 0 (by omega) (by omega); have a1 := g2 1 (by omega) (by omega); unfold CellAt at a0 a1; rw [a2_zero rfl, a2_zero rfl] at a0; rw [a2_one rfl, a2_one rfl] at a1; unfold SayCell; omega), h3⟩
                    · try dsimp only
                      first | omega | (simp; done) | (simp_all; done) | (simp_all; omega)
              · skip
                refine AO.nil ?_
                refine AW.cond_f rfl ?_
                refine AW.exit ?_
                refine AW.seq ?_
                refine AW.seq ?_
                refine AW.region [0] rfl ?_
                refine AO.ro rfl rfl (gOn_none rfl) (RO.assign rfl rfl) ?_
                refine AO.nil ?_
                refine AW.block ?_
                refine AW.loop (mp := [(0, some 0)]) (X := Int) (fun x => ⟨102, 1, [(1, .ptr 0 0), (2, .d (.lit (.int .i64 0))), (3, .d (.lit (.int .i64 ((m.Says.length : Int))))), (6, .d (.lit (.int .i64 x)))], [(0, some (Ent.box 42 [.d (.lit (.bool m.First)), .d (.lit (.int .i64 m.Start)), .d (enc (m.Says : (List (A2 Int)))), .d (enc (m.Next : (List (A2 Int))))]))]⟩) (fun x => (0 ≤ x ∧ x ≤ m.Says.length) ∧ (m.First = true → ∀ j : Int, 0 ≤ j → j < x → (ix m.Says j).x0 = (ix m.Says j).x1)) (fun x => (m.Says.length - x).toNat) 0 ?_ ⟨rfl, rfl, ⟨⟨_, rfl, .inl rfl⟩, ⟨⟨_, rfl, .inl rfl⟩, ⟨⟨_, rfl, .inl rfl⟩, ⟨⟨_, rfl, .inl rfl⟩, trivial⟩⟩⟩⟩, ⟨⟨_, rfl, rfl⟩, trivial⟩⟩ ?_
                · try dsimp only
                  exact ⟨by omega, fun _ j a b => by omega⟩
                · skip
                  intro i hx
                  replace hx : (0 ≤ i ∧ i ≤ m.Says.length) ∧ (m.First = true → ∀ j : Int, 0 ≤ j → j < i → (ix m.Says j).x0 = (ix m.Says j).x1) := hx
                  obtain ⟨h4, h5⟩ := hx
                  refine (show AW _ _ _ (⟨102, 1, [(1, .ptr 0 0), (2, .d (.lit (.int .i64 0))), (3, .d (.lit (.int .i64 ((m.Says.length : Int))))), (6, .d (.lit (.int .i64 i)))], [(0, some (Ent.box 42 [.d (.lit (.bool m.First)), .d (.lit (.int .i64 m.Start)), .d (enc (m.Says : (List (A2 Int)))), .d (enc (m.Next : (List (A2 Int))))]))]⟩ : St) _ from ?_)
                  refine AW.seq ?_
                  refine AW.seq ?_
                  refine AW.region [0, 0, 0] rfl ?_
                  refine AO.ro rfl rfl (gOn_none rfl) (RO.move rfl rfl) ?_
                  refine AO.ro rfl rfl (gOn_none rfl) (RO.move rfl rfl) ?_
                  refine AO.split rfl rfl (gOn_none rfl) (RO.lss rfl rfl rfl) (fun t14 => ?_) (fun t14 => ?_)
                  · skip
                    refine AO.nil ?_
                    refine AW.cond_t rfl ?_
                    refine AW.skip ?_
                    refine AW.seq ?_
                    refine AW.block ?_
                    refine AW.seq ?_
                    refine AW.drawn [(0, 0), (0, 1), (0, 2), (0, 3), (0, 4), (0, 5), (0, 6), (0, 7), (0, 8), (0, 9), (0, 10), (0, 11), (0, 12), (0, 13), (0, 14), (0, 15), (0, 16)] (by kernel_rfl) (by kernel_rfl) ?_
                    refine AO.ro rfl rfl (gOn_none rfl) (RO.fld_ptr rfl fa42_0 rfl) ?_
                    refine AO.ro rfl rfl (gOn_none rfl) (RO.ld_ptr rfl Try.underlying4 rfl rfl rfl rfl) ?_
                    refine AO.ro rfl rfl (gOn_none rfl) (RO.move rfl rfl) ?_
                    refine AO.caseb 87 rfl (fun b15 => ?_) (fun b15 => ?_)
                    · skip
                      refine AO.ro rfl rfl ⟨87, true, rfl, rfl, rfl⟩ (RO.fld_ptr rfl fa42_2 rfl) ?_
                      refine AO.ro rfl rfl ⟨87, true, rfl, rfl, rfl⟩ (RO.ld_ptr rfl Try.underlying40 rfl rfl rfl rfl) ?_
                      refine AO.ro rfl rfl ⟨87, true, rfl, rfl, rfl⟩ (RO.move rfl rfl) ?_
                      refine AO.ro rfl rfl ⟨87, true, rfl, rfl, rfl⟩ (RO.idx rfl Try.underlying40 ti87 rfl rfl (by omega)) ?_
                      refine AO.ro rfl rfl ⟨87, true, rfl, rfl, rfl⟩ (show RO _ _ _ _ (.addr (enc ((ix m.Says i).x0 : Int))) from RO.idx_arr (β := (A2 Int)) (α := Int) (b := ix m.Says i) (j := 0) rfl Try.underlying87 ti3 rfl rfl rfl (by omega)) ?_
                      refine AO.ro rfl rfl ⟨87, true, rfl, rfl, rfl⟩ (RO.ld_addr rfl Try.underlying3 rfl rfl rfl) ?_
                      refine AO.ro rfl rfl ⟨87, true, rfl, rfl, rfl⟩ (RO.fld_ptr rfl fa42_2 rfl) ?_
                      refine AO.ro rfl rfl ⟨87, true, rfl, rfl, rfl⟩ (RO.ld_ptr rfl Try.underlying40 rfl rfl rfl rfl) ?_
                      refine AO.ro rfl rfl ⟨87, true, rfl, rfl, rfl⟩ (RO.move rfl rfl) ?_
                      refine AO.ro rfl rfl ⟨87, true, rfl, rfl, rfl⟩ (RO.idx rfl Try.underlying40 ti87 rfl rfl (by omega)) ?_
                      refine AO.ro rfl rfl ⟨87, true, rfl, rfl, rfl⟩ (show RO _ _ _ _ (.addr (enc ((ix m.Says i).x1 : Int))) from RO.idx_arr (β := (A2 Int)) (α := Int) (b := ix m.Says i) (j := 1) rfl Try.underlying87 ti3 rfl rfl rfl (by omega)) ?_
                      refine AO.ro rfl rfl ⟨87, true, rfl, rfl, rfl⟩ (RO.ld_addr rfl Try.underlying3 rfl rfl rfl) ?_
                      refine AO.splitn rfl rfl ⟨87, true, rfl, rfl, rfl⟩ (RO.neq rfl rfl rfl) (fun t16 => ?_) (fun t16 => ?_)
                      · skip
                        refine AO.ro rfl rfl (gOn_none rfl) (RO.pick_t rfl rfl rfl) ?_
                        refine AO.nil ?_
                        refine AW.cond_t rfl ?_
                        refine AW.seq ?_
                        refine AW.region [0] rfl ?_
                        refine AO.ro rfl rfl (gOn_none rfl) (RO.assign rfl rfl) ?_
                        refine AO.nil ?_
                        refine AW.ret ?_
                        refine ⟨[], [.d (.lit (.int .i64 3))], [], rfl, ⟨⟨_, rfl, .inl rfl⟩, rfl⟩, trivial, ?_⟩
                        refine ⟨3, rfl, rfl, ?_⟩
                        have ht : SayTab m := fun i a b => h2 i a (by omega)
                        exact (chk_fst h3.1 ht h3.2 (by intro hf; have := hf (by assumption) (ix m.Says i) (ix_mem (by omega) (by omega)); omega)).symm
                      · skip
                        refine AO.ro rfl rfl (gOn_none rfl) (RO.pick_t rfl rfl rfl) ?_
                        refine AO.nil ?_
                        refine AW.cond_f rfl ?_
                        refine AW.skip ?_
                        refine AW.region [0, 0, 0] rfl ?_
                        refine AO.ro rfl rfl (gOn_none rfl) (RO.move rfl rfl) ?_
                        refine AO.ro rfl rfl (gOn_none rfl) (RO.add rfl rfl rfl (by omega)) ?_
                        refine AO.ro rfl rfl (gOn_none rfl) (RO.assign rfl rfl) ?_
                        refine AO.nil ?_
                        refine ⟨i + 1, [(0, some 0)], ?_, ?_, ⟨rfl, rfl, ⟨⟨_, rfl, .inl rfl⟩, ⟨⟨_, rfl, .inl rfl⟩, ⟨⟨_, rfl, .inl rfl⟩, ⟨⟨_, rfl, .inl rfl⟩, trivial⟩⟩⟩⟩, ⟨⟨_, rfl, rfl⟩, trivial⟩⟩⟩
                        · try dsimp only
                          exact ⟨by omega, fun hh => by first | exact below_succ (h5 hh) (by omega) | simp_all⟩
                        · try dsimp only
                          first | omega | (simp; done) | (simp_all; done) | (simp_all; omega)
                    · skip
                      refine AO.skip rfl rfl ⟨87, false, rfl, rfl, rfl⟩ ?_
                      refine AO.skip rfl rfl ⟨87, false, rfl, rfl, rfl⟩ ?_
                      refine AO.skip rfl rfl ⟨87, false, rfl, rfl, rfl⟩ ?_
                      refine AO.skip rfl rfl ⟨87, false, rfl, rfl, rfl⟩ ?_
                      refine AO.skip rfl rfl ⟨87, false, rfl, rfl, rfl⟩ ?_
                      refine AO.skip rfl rfl ⟨87, false, rfl, rfl, rfl⟩ ?_
                      refine AO.skip rfl rfl ⟨87, false, rfl, rfl, rfl⟩ ?_
                      refine AO.skip rfl rfl ⟨87, false, rfl, rfl, rfl⟩ ?_
                      refine AO.skip rfl rfl ⟨87, false, rfl, rfl, rfl⟩ ?_
                      refine AO.skip rfl rfl ⟨87, false, rfl, rfl, rfl⟩ ?_
                      refine AO.skip rfl rfl ⟨87, false, rfl, rfl, rfl⟩ ?_
                      refine AO.skip rfl rfl ⟨87, false, rfl, rfl, rfl⟩ ?_
                      refine AO.skip rfl rfl ⟨87, false, rfl, rfl, rfl⟩ ?_
                      refine AO.ro rfl rfl (gOn_none rfl) (RO.pick_f rfl rfl rfl) ?_
                      refine AO.nil ?_
                      refine AW.cond_f rfl ?_
                      refine AW.skip ?_
                      refine AW.region [0, 0, 0] rfl ?_
                      refine AO.ro rfl rfl (gOn_none rfl) (RO.move rfl rfl) ?_
                      refine AO.ro rfl rfl (gOn_none rfl) (RO.add rfl rfl rfl (by omega)) ?_
                      refine AO.ro rfl rfl (gOn_none rfl) (RO.assign rfl rfl) ?_
                      refine AO.nil ?_
                      refine ⟨i + 1, [(0, some 0)], ?_, ?_, ⟨rfl, rfl, ⟨⟨_, rfl, .inl rfl⟩, ⟨⟨_, rfl, .inl rfl⟩, ⟨⟨_, rfl, .inl rfl⟩, ⟨⟨_, rfl, .inl rfl⟩, trivial⟩⟩⟩⟩, ⟨⟨_, rfl, rfl⟩, trivial⟩⟩⟩
                      · try dsimp only
                        exact ⟨by omega, fun hh => by first | exact below_succ (h5 hh) (by omega) | simp_all⟩
                      · try dsimp only
                        first | omega | (simp; done) | (simp_all; done) | (simp_all; omega)
                  · skip
                    refine AO.nil ?_
                    refine AW.cond_f rfl ?_
                    refine AW.exit ?_
                    refine AW.seq ?_
                    refine AW.region [0] rfl ?_
                    refine AO.ro rfl rfl (gOn_none rfl) (RO.assign rfl rfl) ?_
                    refine AO.nil ?_
                    refine AW.ret ?_
                    refine ⟨[], [.d (.lit (.int .i64 0))], [], rfl, ⟨⟨_, rfl, .inl rfl⟩, rfl⟩, trivial, ?_⟩
                    refine ⟨0, rfl, rfl, ?_⟩
                    have ht : SayTab m := fun i a b => h2 i a (by omega)
                    exact (chk_ok h3.1 ht h3.2 (fun hh => forall_ix.2 fun j a b => h5 hh j a (by omega))).symm

theorem says11_ok (m : Machine) (heard : (List Int)) : Fc Try.prog 25 [.d (enc (m : Machine)), .d (enc (heard : (List Int)))] [] (fun r h => ∃ (l : (List Int)) (e : Int), r = .tup [.d (enc (l : (List Int))), .d (.lit (.int .i64 e))] ∧ h = [] ∧ (SaySpec m heard l e)) := by
  refine Fc.of_body Try.func25 rfl Try.ntmps25 (by simp) (fun F => ?_)
  refine (show AW _ _ _ (⟨69, 0, [(0, .d (enc (m : Machine))), (1, .d (enc (heard : (List Int))))], []⟩ : St) _ from ?_)
  refine AW.fact 1 rfl (fun ln_heard => ?_)
  replace ln_heard : heard.length * 8 ≤ 140737488355328 := ln_heard
  refine AW.seq ?_
  refine AW.region [1, 0, 0] rfl ?_
  refine AO.al1 (gOn_none rfl) (AL.box 0 rfl (by kernel_rfl) rfl rfl rfl rfl rfl) ?_
  refine AO.ro rfl rfl (gOn_none rfl) (RO.assign rfl rfl) ?_
  refine AO.ro rfl rfl (gOn_none rfl) (RO.assign rfl rfl) ?_
  refine AO.nil ?_
  refine AW.seq ?_
  refine AW.region [0, 2, 0] rfl ?_
  refine AO.ro rfl rfl (gOn_none rfl) (RO.ld_ptr_d (y := enc (m : Machine)) rfl ti42 rfl rfl rfl rfl rfl) ?_
  refine AO.call0 («as» := [.d (enc (m : Machine))]) (gOn_none rfl) rfl rfl rfl rfl Try.call59 ⟨⟨_, rfl, rfl⟩, rfl⟩ (check11_ok m) ?_
  rintro _ _ ⟨e1, rfl, rfl, c1⟩
  refine ⟨[], 1, .d (.lit (.int .i64 e1)), [], rfl, trivial, rfl, ?_⟩
  refine AO.ro rfl rfl (gOn_none rfl) (RO.assign rfl rfl) ?_
  refine AO.nil ?_
  refine AW.seq ?_
  refine AW.seq ?_
  refine AW.region [0, 0] rfl ?_
  refine AO.ro rfl rfl (gOn_none rfl) (RO.move rfl rfl) ?_
  refine AO.splitn rfl rfl (gOn_none rfl) (RO.neq rfl rfl rfl) (fun t2 => ?_) (fun t2 => ?_)
  · skip
    refine AO.nil ?_
    refine AW.cond_t rfl ?_
    refine AW.seq ?_
    refine AW.region [0, 0, 0] rfl ?_
    refine AO.ro rfl rfl (gOn_none rfl) (RO.move rfl rfl) ?_
    refine AO.ro rfl rfl (gOn_none rfl) (RO.assign rfl rfl) ?_
    refine AO.ro rfl rfl (gOn_none rfl) (RO.assign rfl rfl) ?_
    refine AO.nil ?_
    refine AW.ret ?_
    refine ⟨[], [.d (enc ([] : (List Int))), .d (.lit (.int .i64 e1))], [], rfl, ⟨⟨_, rfl, .inr ⟨rfl, _, rfl⟩⟩, ⟨⟨_, rfl, .inl rfl⟩, rfl⟩⟩, trivial, ?_⟩
    refine ⟨([]), e1, rfl, rfl, ?_⟩
    first
    | exact spec_err (say_of (by omega) (by omega)) (by omega)
    | exact spec_err (say_long (by omega) (by omega)) (by omega)
  · skip
    refine AO.nil ?_
    refine AW.cond_f rfl ?_
    refine AW.skip ?_
    refine AW.seq ?_
    refine AW.seq ?_
    refine AW.region [0, 0, 0] rfl ?_
    refine AO.ro rfl rfl (gOn_none rfl) (RO.move rfl rfl) ?_
    refine AO.ro rfl rfl (gOn_none rfl) (RO.len rfl Try.underlying26 rfl) ?_
    refine AO.split rfl rfl (gOn_none rfl) (RO.gtr rfl rfl rfl) (fun t3 => ?_) (fun t3 => ?_)
    · skip
      refine AO.nil ?_
      refine AW.cond_t rfl ?_
      refine AW.seq ?_
      refine AW.region [0, 0] rfl ?_
      refine AO.ro rfl rfl (gOn_none rfl) (RO.assign rfl rfl) ?_
      refine AO.ro rfl rfl (gOn_none rfl) (RO.assign rfl rfl) ?_
      refine AO.nil ?_
      refine AW.ret ?_
      refine ⟨[], [.d (enc ([] : (List Int))), .d (.lit (.int .i64 1))], [], rfl, ⟨⟨_, rfl, .inr ⟨rfl, _, rfl⟩⟩, ⟨⟨_, rfl, .inl rfl⟩, rfl⟩⟩, trivial, ?_⟩
      refine ⟨([]), 1, rfl, rfl, ?_⟩
      first
      | exact spec_err (say_of (by omega) (by omega)) (by omega)
      | exact spec_err (say_long (by omega) (by omega)) (by omega)
    · skip
      refine AO.nil ?_
      refine AW.cond_f rfl ?_
      refine AW.skip ?_
      refine AW.seq ?_
      refine AW.seq ?_
      refine AW.region [0] rfl ?_
      refine AO.ro rfl rfl (gOn_none rfl) (RO.assign rfl rfl) ?_
      refine AO.nil ?_
      refine AW.block ?_
      refine AW.loop (mp := [(0, some 0)]) (X := Int) (fun x => ⟨69, 1, [(1, .d (enc (heard : (List Int)))), (2, .ptr 0 0), (4, .nil), (5, .d (.lit (.int .i64 0))), (7, .d (.lit (.int .i64 x)))], [(0, some (Ent.box 42 [.d (.lit (.bool m.First)), .d (.lit (.int .i64 m.Start)), .d (enc (m.Says : (List (A2 Int)))), .d (enc (m.Next : (List (A2 Int))))]))]⟩) (fun x => (chkE m = 0 ∧ (heard.length : Int) ≤ 60) ∧ (0 ≤ x ∧ x ≤ heard.length) ∧ (∀ j : Int, 0 ≤ j → j < x → ix heard j = 0 ∨ ix heard j = 1)) (fun x => (heard.length - x).toNat) 0 ?_ ⟨rfl, rfl, ⟨⟨_, rfl, .inl rfl⟩, ⟨⟨_, rfl, .inl rfl⟩, ⟨⟨_, rfl, .inl rfl⟩, ⟨⟨_, rfl, .inl rfl⟩, ⟨⟨_, rfl, .inl rfl⟩, trivial⟩⟩⟩⟩⟩, ⟨⟨_, rfl, rfl⟩, trivial⟩⟩ ?_
      · try dsimp only
        exact ⟨by omega, by omega, fun j a b => by omega⟩
      · skip
        intro i hx
        replace hx : (chkE m = 0 ∧ (heard.length : Int) ≤ 60) ∧ (0 ≤ i ∧ i ≤ heard.length) ∧ (∀ j : Int, 0 ≤ j → j < i → ix heard j = 0 ∨ ix heard j = 1) := hx
        obtain ⟨h0, h1, h2⟩ := hx
        refine (show AW _ _ _ (⟨69, 1, [(1, .d (enc (heard : (List Int)))), (2, .ptr 0 0), (4, .nil), (5, .d (.lit (.int .i64 0))), (7, .d (.lit (.int .i64 i)))], [(0, some (Ent.box 42 [.d (.lit (.bool m.First)), .d (.lit (.int .i64 m.Start)), .d (enc (m.Says : (List (A2 Int)))), .d (enc (m.Next : (List (A2 Int))))]))]⟩ : St) _ from ?_)
        refine AW.seq ?_
        refine AW.seq ?_
        refine AW.region [0, 0, 0, 0] rfl ?_
        refine AO.ro rfl rfl (gOn_none rfl) (RO.move rfl rfl) ?_
        refine AO.ro rfl rfl (gOn_none rfl) (RO.move rfl rfl) ?_
        refine AO.ro rfl rfl (gOn_none rfl) (RO.len rfl Try.underlying26 rfl) ?_
        refine AO.split rfl rfl (gOn_none rfl) (RO.lss rfl rfl rfl) (fun t4 => ?_) (fun t4 => ?_)
        · skip
          refine AO.nil ?_
          refine AW.cond_t rfl ?_
          refine AW.skip ?_
          refine AW.seq ?_
          refine AW.block ?_
          refine AW.seq ?_
          refine AW.region [0, 0, 0, 0, 0, 0, 0, 0, 0, 0, 0, 0] rfl ?_
          refine AO.ro rfl rfl (gOn_none rfl) (RO.move rfl rfl) ?_
          refine AO.ro rfl rfl (gOn_none rfl) (RO.move rfl rfl) ?_
          refine AO.ro rfl rfl (gOn_none rfl) (RO.idx rfl Try.underlying26 ti3 rfl rfl (by omega)) ?_
          refine AO.ro rfl rfl (gOn_none rfl) (RO.ld_addr rfl Try.underlying3 rfl rfl rfl) ?_
          refine AO.splitn rfl rfl (gOn_none rfl) (RO.neq rfl rfl rfl) (fun t5 => ?_) (fun t5 => ?_)
          · skip
            refine AO.ro rfl rfl (gOn_none rfl) (RO.move rfl rfl) ?_
            refine AO.ro rfl rfl ⟨30, true, rfl, rfl, rfl⟩ (RO.move rfl rfl) ?_
            refine AO.ro rfl rfl ⟨30, true, rfl, rfl, rfl⟩ (RO.move rfl rfl) ?_
            refine AO.ro rfl rfl ⟨30, true, rfl, rfl, rfl⟩ (RO.idx rfl Try.underlying26 ti3 rfl rfl (by omega)) ?_
            refine AO.ro rfl rfl ⟨30, true, rfl, rfl, rfl⟩ (RO.ld_addr rfl Try.underlying3 rfl rfl rfl) ?_
            refine AO.splitn rfl rfl ⟨30, true, rfl, rfl, rfl⟩ (RO.neq rfl rfl rfl) (fun t6 => ?_) (fun t6 => ?_)
            · skip
              refine AO.ro rfl rfl (gOn_none rfl) (RO.pick_t rfl rfl rfl) ?_
              refine AO.nil ?_
              refine AW.cond_t rfl ?_
              refine AW.seq ?_
              refine AW.region [0, 0] rfl ?_
              refine AO.ro rfl rfl (gOn_none rfl) (RO.assign rfl rfl) ?_
              refine AO.ro rfl rfl (gOn_none rfl) (RO.assign rfl rfl) ?_
              refine AO.nil ?_
              refine AW.ret ?_
              refine ⟨[], [.d (enc ([] : (List Int))), .d (.lit (.int .i64 2))], [], rfl, ⟨⟨_, rfl, .inr ⟨rfl, _, rfl⟩⟩, ⟨⟨_, rfl, .inl rfl⟩, rfl⟩⟩, trivial, ?_⟩
              refine ⟨([]), 2, rfl, rfl, ?_⟩
              exact spec_err (say_bad h0.1 (by omega) (fun h => by have := h _ (ix_mem h1.1 (by assumption)); omega)) (by omega)
            · skip
              refine AO.ro rfl rfl (gOn_none rfl) (RO.pick_t rfl rfl rfl) ?_
              refine AO.nil ?_
              refine AW.cond_f rfl ?_
              refine AW.skip ?_
              refine AW.region [0, 0, 0] rfl ?_
              refine AO.ro rfl rfl (gOn_none rfl) (RO.move rfl rfl) ?_
              refine AO.ro rfl rfl (gOn_none rfl) (RO.add rfl rfl rfl (by omega)) ?_
              refine AO.ro rfl rfl (gOn_none rfl) (RO.assign rfl rfl) ?_
              refine AO.nil ?_
              refine ⟨i + 1, [(0, some 0)], ?_, ?_, ⟨rfl, rfl, ⟨⟨_, rfl, .inl rfl⟩, ⟨⟨_, rfl, .inl rfl⟩, ⟨⟨_, rfl, .inl rfl⟩, ⟨⟨_, rfl, .inl rfl⟩, ⟨⟨_, rfl, .inl rfl⟩, trivial⟩⟩⟩⟩⟩, ⟨⟨_, rfl, rfl⟩, trivial⟩⟩⟩
              · try dsimp only
                exact ⟨h0, by omega, below_succ h2 (by omega)⟩
              · try dsimp only
                first | omega | (simp; done) | (simp_all; done) | (simp_all; omega)
          · skip
            refine AO.ro rfl rfl (gOn_none rfl) (RO.move rfl rfl) ?_
            refine AO.skip rfl rfl ⟨30, false, rfl, rfl, rfl⟩ ?_
            refine AO.skip rfl rfl ⟨30, false, rfl, rfl, rfl⟩ ?_
            refine AO.skip rfl rfl ⟨30, false, rfl, rfl, rfl⟩ ?_
            refine AO.skip rfl rfl ⟨30, false, rfl, rfl, rfl⟩ ?_
            refine AO.skip rfl rfl ⟨30, false, rfl, rfl, rfl⟩ ?_
            refine AO.ro rfl rfl (gOn_none rfl) (RO.pick_f rfl rfl rfl) ?_
            refine AO.nil ?_
            refine AW.cond_f rfl ?_
            refine AW.skip ?_
            refine AW.region [0, 0, 0] rfl ?_
            refine AO.ro rfl rfl (gOn_none rfl) (RO.move rfl rfl) ?_
            refine AO.ro rfl rfl (gOn_none rfl) (RO.add rfl rfl rfl (by omega)) ?_
            refine AO.ro rfl rfl (gOn_none rfl) (RO.assign rfl rfl) ?_
            refine AO.nil ?_
            refine ⟨i + 1, [(0, some 0)], ?_, ?_, ⟨rfl, rfl, ⟨⟨_, rfl, .inl rfl⟩, ⟨⟨_, rfl, .inl rfl⟩, ⟨⟨_, rfl, .inl rfl⟩, ⟨⟨_, rfl, .inl rfl⟩, ⟨⟨_, rfl, .inl rfl⟩, trivial⟩⟩⟩⟩⟩, ⟨⟨_, rfl, rfl⟩, trivial⟩⟩⟩
            · try dsimp only
              exact ⟨h0, by omega, below_succ h2 (by omega)⟩
            · try dsimp only
              first | omega | (simp; done) | (simp_all; done) | (simp_all; omega)
        · skip
          refine AO.nil ?_
          refine AW.cond_f rfl ?_
          refine AW.exit ?_
          refine AW.seq ?_
          refine AW.region [0] rfl ?_
          refine AO.ro rfl rfl (gOn_none rfl) (RO.assign rfl rfl) ?_
          refine AO.nil ?_
          refine AW.seq ?_
          refine AW.region [0, 0, 0] rfl ?_
          refine AO.ro rfl rfl (gOn_none rfl) (RO.fld_ptr rfl fa42_1 rfl) ?_
          refine AO.ro rfl rfl (gOn_none rfl) (RO.ld_ptr rfl Try.underlying3 rfl rfl rfl rfl) ?_
          refine AO.ro rfl rfl (gOn_none rfl) (RO.assign rfl rfl) ?_
          refine AO.nil ?_
          refine AW.seq ?_
          refine AW.seq ?_
          refine AW.region [0] rfl ?_
          refine AO.ro rfl rfl (gOn_none rfl) (RO.assign rfl rfl) ?_
          refine AO.nil ?_
          refine AW.block ?_
          refine AW.loop (mp := [(0, some 0), (1, none)]) (X := Int × Int × List Int) (fun x => ⟨69, 2, [(1, .d (enc (heard : (List Int)))), (2, .ptr 0 0), (4, .nil), (5, .d (.lit (.int .i64 0))), (8, .own 1), (9, .d (.lit (.int .i64 x.2.1))), (10, .d (.lit (.int .i64 x.1)))], [(0, some (Ent.box 42 [.d (.lit (.bool m.First)), .d (.lit (.int .i64 m.Start)), .d (enc (m.Says : (List (A2 Int)))), .d (enc (m.Next : (List (A2 Int))))])), (1, some (Ent.arrOf 3 (x.2.2 : List Int)))]⟩) (fun x => (SayTab m ∧ sayE m heard = 0) ∧ (0 ≤ x.1 ∧ x.1 ≤ heard.length) ∧ (0 ≤ x.2.1 ∧ x.2.1 < m.Says.length) ∧ ((x.2.2.length : Int) = x.1) ∧ (sayRun m m.Start heard = x.2.2 ++ sayRun m x.2.1 (heard.drop x.1.toNat)) ∧ ((∀ x ∈ heard, x = 0 ∨ x = 1) ∧ (m.Next.length : Int) = m.Says.length)) (fun x => (heard.length - x.1).toNat) ((0, m.Start, [])) ?_ ⟨rfl, rfl, ⟨⟨_, rfl, .inl rfl⟩, ⟨⟨_, rfl, .inl rfl⟩, ⟨⟨_, rfl, .inl rfl⟩, ⟨⟨_, rfl, .inl rfl⟩, ⟨⟨_, rfl, .inl rfl⟩, ⟨⟨_, rfl, .inl rfl⟩, ⟨⟨_, rfl, .inl rfl⟩, trivial⟩⟩⟩⟩⟩⟩⟩, ⟨⟨_, rfl, rfl⟩, ⟨⟨_, _, _, rfl, by decide⟩, trivial⟩⟩⟩ ?_
          · try dsimp only
            have hb : ∀ x ∈ heard, x = 0 ∨ x = 1 := forall_ix.2 fun j a b => h2 j a (by omega)
            have hc := chk_zero h0.1
            exact ⟨⟨hc.2.1, say_ok h0.1 (by omega) hb⟩, by omega, hc.2.2.1, rfl, rfl, hb, hc.1.2.2⟩
          · skip
            intro x hx
            obtain ⟨i, q, l⟩ := x
            replace hx : (SayTab m ∧ sayE m heard = 0) ∧ (0 ≤ i ∧ i ≤ heard.length) ∧ (0 ≤ q ∧ q < m.Says.length) ∧ ((l.length : Int) = i) ∧ (sayRun m m.Start heard = l ++ sayRun m q (heard.drop i.toNat)) ∧ ((∀ x ∈ heard, x = 0 ∨ x = 1) ∧ (m.Next.length : Int) = m.Says.length) := hx
            obtain ⟨g0, g1, g2, g3, g4, g5⟩ := hx
            refine (show AW _ _ _ (⟨69, 2, [(1, .d (enc (heard : (List Int)))), (2, .ptr 0 0), (4, .nil), (5, .d (.lit (.int .i64 0))), (8, .own 1), (9, .d (.lit (.int .i64 q))), (10, .d (.lit (.int .i64 i)))], [(0, some (Ent.box 42 [.d (.lit (.bool m.First)), .d (.lit (.int .i64 m.Start)), .d (enc (m.Says : (List (A2 Int)))), .d (enc (m.Next : (List (A2 Int))))])), (1, some (Ent.arrOf 3 (l : List Int)))]⟩ : St) _ from ?_)
            have g6 : i < heard.length → ix heard i = 0 ∨ ix heard i = 1 := fun h => g5.1 _ (ix_mem (by omega) h)
            refine AW.seq ?_
            refine AW.seq ?_
            refine AW.region [0, 0, 0, 0] rfl ?_
            refine AO.ro rfl rfl (gOn_none rfl) (RO.move rfl rfl) ?_
            refine AO.ro rfl rfl (gOn_none rfl) (RO.move rfl rfl) ?_
            refine AO.ro rfl rfl (gOn_none rfl) (RO.len rfl Try.underlying26 rfl) ?_
            refine AO.split rfl rfl (gOn_none rfl) (RO.lss rfl rfl rfl) (fun t7 => ?_) (fun t7 => ?_)
            · skip
              refine AO.nil ?_
              refine AW.cond_t rfl ?_
              refine AW.skip ?_
              refine AW.seq ?_
              refine AW.block ?_
              refine AW.seq ?_
              refine AW.drawn [(0, 0), (0, 1), (0, 2), (0, 3), (0, 4), (0, 5), (0, 6), (0, 7), (0, 8), (0, 9), (0, 10), (1, 11), (2, 12), (0, 13)] (by kernel_rfl) (by kernel_rfl) ?_
              refine AO.ro rfl rfl (gOn_none rfl) (RO.move rfl rfl) ?_
              refine AO.ro rfl rfl (gOn_none rfl) (RO.fld_ptr rfl fa42_2 rfl) ?_
              refine AO.ro rfl rfl (gOn_none rfl) (RO.ld_ptr rfl Try.underlying40 rfl rfl rfl rfl) ?_
              refine AO.ro rfl rfl (gOn_none rfl) (RO.move rfl rfl) ?_
              refine AO.ro rfl rfl (gOn_none rfl) (RO.move rfl rfl) ?_
              refine AO.ro rfl rfl (gOn_none rfl) (RO.move rfl rfl) ?_
              refine AO.ro rfl rfl (gOn_none rfl) (RO.idx rfl Try.underlying26 ti3 rfl rfl (by omega)) ?_
              refine AO.ro rfl rfl (gOn_none rfl) (RO.ld_addr rfl Try.underlying3 rfl rfl rfl) ?_
              refine AO.ro rfl rfl (gOn_none rfl) (RO.idx rfl Try.underlying40 ti87 rfl rfl (by omega)) ?_
              refine AO.ro rfl rfl (gOn_none rfl) (show RO _ _ _ _ (.addr (enc (A2.ix (ix m.Says q) (ix heard i) : Int))) from RO.idx_arr (β := (A2 Int)) (α := Int) (b := ix m.Says q) (j := ix heard i) rfl Try.underlying87 ti3 rfl rfl rfl (by omega)) ?_
              refine AO.ro rfl rfl (gOn_none rfl) (RO.ld_addr rfl Try.underlying3 rfl rfl rfl) ?_
              refine AO.al1 (gOn_none rfl) (AL.lits (α := Int) (ys := [A2.ix (ix m.Says q) (ix heard i)]) 2 rfl (by kernel_rfl) rfl rfl rfl Try.underlying26 ti3 rfl ⟨rfl, rfl, rfl⟩ rfl (fun _ => rfl) rfl (by kernel_rfl) (by kernel_rfl)) ?_
              refine AO.ef1 (gOn_none rfl) (EF.append (α := Int) (ys := ([A2.ix (ix m.Says q) (ix heard i)] : List Int)) default 3 rfl (by kernel_rfl) rfl rfl rfl Try.underlying26 ti3 rfl rfl rfl (by decide) zr3 rfl rfl (.inr (.inl ⟨_, _, rfl, rfl⟩)) (by simp only [List.length_append, List.length_cons, List.length_nil]; omega) (by simp only [List.length_append, List.length_cons, List.length_nil]; omega)) ?_
              refine AO.ro rfl rfl (gOn_none rfl) (RO.assign rfl rfl) ?_
              refine AO.nil ?_
              refine AW.drawn [(0, 0), (0, 1), (0, 2), (0, 3), (0, 4), (0, 5), (0, 6), (0, 7), (0, 8), (0, 9), (0, 10)] (by kernel_rfl) (by kernel_rfl) ?_
              refine AO.ro rfl rfl (gOn_none rfl) (RO.fld_ptr rfl fa42_3 rfl) ?_
              refine AO.ro rfl rfl (gOn_none rfl) (RO.ld_ptr rfl Try.underlying40 rfl rfl rfl rfl) ?_
              refine AO.ro rfl rfl (gOn_none rfl) (RO.move rfl rfl) ?_
              refine AO.ro rfl rfl (gOn_none rfl) (RO.move rfl rfl) ?_
              refine AO.ro rfl rfl (gOn_none rfl) (RO.move rfl rfl) ?_
              refine AO.ro rfl rfl (gOn_none rfl) (RO.idx rfl Try.underlying26 ti3 rfl rfl (by omega)) ?_
              refine AO.ro rfl rfl (gOn_none rfl) (RO.ld_addr rfl Try.underlying3 rfl rfl rfl) ?_
              refine AO.ro rfl rfl (gOn_none rfl) (RO.idx rfl Try.underlying40 ti87 rfl rfl (by omega)) ?_
              refine AO.ro rfl rfl (gOn_none rfl) (show RO _ _ _ _ (.addr (enc (A2.ix (ix m.Next q) (ix heard i) : Int))) from RO.idx_arr (β := (A2 Int)) (α := Int) (b := ix m.Next q) (j := ix heard i) rfl Try.underlying87 ti3 rfl rfl rfl (by omega)) ?_
              refine AO.ro rfl rfl (gOn_none rfl) (RO.ld_addr rfl Try.underlying3 rfl rfl rfl) ?_
              refine AO.ro rfl rfl (gOn_none rfl) (RO.assign rfl rfl) ?_
              refine AO.nil ?_
              refine AW.region [0, 0, 0] rfl ?_
              refine AO.ro rfl rfl (gOn_none rfl) (RO.move rfl rfl) ?_
              refine AO.ro rfl rfl (gOn_none rfl) (RO.add rfl rfl rfl (by omega)) ?_
              refine AO.ro rfl rfl (gOn_none rfl) (RO.assign rfl rfl) ?_
              refine AO.nil ?_
              refine ⟨(i + 1, A2.ix (ix m.Next q) (ix heard i), l ++ ([A2.ix (ix m.Says q) (ix heard i)])), [(0, some 0), (1, some 3)], ?_, ?_, ⟨rfl, rfl, ⟨⟨_, rfl, .inl rfl⟩, ⟨⟨_, rfl, .inl rfl⟩, ⟨⟨_, rfl, .inl rfl⟩, ⟨⟨_, rfl, .inl rfl⟩, ⟨⟨_, rfl, .inl rfl⟩, ⟨⟨_, rfl, .inl rfl⟩, ⟨⟨_, rfl, .inl rfl⟩, trivial⟩⟩⟩⟩⟩⟩⟩, ⟨⟨_, rfl, rfl⟩, ⟨⟨_, rfl, rfl⟩, trivial⟩⟩⟩⟩
              · try dsimp only
                exact ⟨g0, by omega, next_in g0.1 g2, by simp; omega, by rw [g4, run_step g1.1 (by omega)]; simp, g5⟩
              · try dsimp only
                first | omega | (simp; done) | (simp_all; done) | (simp_all; omega)
            · skip
              refine AO.nil ?_
              refine AW.cond_f rfl ?_
              refine AW.exit ?_
              refine AW.seq ?_
              refine AW.region [0, 0, 0] rfl ?_
              refine AO.ro rfl rfl (gOn_none rfl) (RO.move rfl rfl) ?_
              refine AO.ro rfl rfl (gOn_none rfl) (RO.assign rfl rfl) ?_
              refine AO.ro rfl rfl (gOn_none rfl) (RO.assign rfl rfl) ?_
              refine AO.nil ?_
              refine AW.freeze 4 1 rfl rfl ?_
              refine AW.ret ?_
              refine ⟨[], [.d (enc (l : (List Int))), .d (.lit (.int .i64 0))], [], rfl, ⟨⟨_, rfl, .inl rfl⟩, ⟨⟨_, rfl, .inl rfl⟩, rfl⟩⟩, trivial, ?_⟩
              refine ⟨l, 0, rfl, rfl, ?_⟩
              rw [drop_all (by omega)] at g4; exact spec_ok g0.2 (by rw [g4]; simp [sayRun])

theorem law_ok (m : Machine) (heard : (List Int)) : Fc Try.prog 6 [.d (enc (m : Machine)), .d (enc (heard : (List Int)))] [] (fun r h => ∃ (y : Bool), r = .d (.lit (.bool y)) ∧ h = [] ∧ (y = true)) := by
  refine Fc.of_body Try.func6 rfl Try.ntmps6 (by simp) (fun F => ?_)
  refine (show AW _ _ _ (⟨31, 0, [(0, .d (enc (m : Machine))), (1, .d (enc (heard : (List Int))))], []⟩ : St) _ from ?_)
  refine AW.fact 1 rfl (fun ln_heard => ?_)
  replace ln_heard : heard.length * 8 ≤ 140737488355328 := ln_heard
  refine AW.seq ?_
  refine AW.region [1, 0] rfl ?_
  refine AO.al1 (gOn_none rfl) (AL.box 0 rfl (by kernel_rfl) rfl rfl rfl rfl rfl) ?_
  refine AO.ro rfl rfl (gOn_none rfl) (RO.assign rfl rfl) ?_
  refine AO.nil ?_
  refine AW.seq ?_
  refine AW.region [0, 0, 2, 0, 0, 0, 0, 0] rfl ?_
  refine AO.ro rfl rfl (gOn_none rfl) (RO.ld_ptr_d (y := enc (m : Machine)) rfl ti42 rfl rfl rfl rfl rfl) ?_
  refine AO.ro rfl rfl (gOn_none rfl) (RO.move rfl rfl) ?_
  refine AO.call0 («as» := [.d (enc (m : Machine)), .d (enc (heard : (List Int)))]) (gOn_none rfl) rfl rfl rfl rfl Try.call24 ⟨⟨_, rfl, rfl⟩, ⟨_, rfl, rfl⟩, rfl⟩ (saysP_ok m heard) ?_
  rintro _ _ ⟨l1, e1, rfl, rfl, c1⟩
  refine ⟨[], 1, .tup [.d (enc (l1 : (List Int))), .d (.lit (.int .i64 e1))], [], rfl, trivial, rfl, ?_⟩
  refine AO.ro rfl rfl (gOn_none rfl) (RO.move rfl rfl) ?_
  refine AO.ro rfl rfl (gOn_none rfl) (RO.extract rfl rfl rfl) ?_
  refine AO.ro rfl rfl (gOn_none rfl) (RO.extract rfl rfl rfl) ?_
  refine AO.ro rfl rfl (gOn_none rfl) (RO.assign rfl rfl) ?_
  refine AO.ro rfl rfl (gOn_none rfl) (RO.assign rfl rfl) ?_
  refine AO.nil ?_
  refine AW.seq ?_
  refine AW.region [0, 0, 2, 0, 0, 0, 0, 0] rfl ?_
  refine AO.ro rfl rfl (gOn_none rfl) (RO.ld_ptr_d (y := enc (m : Machine)) rfl ti42 rfl rfl rfl rfl rfl) ?_
  refine AO.ro rfl rfl (gOn_none rfl) (RO.move rfl rfl) ?_
  refine AO.call0 («as» := [.d (enc (m : Machine)), .d (enc (heard : (List Int)))]) (gOn_none rfl) rfl rfl rfl rfl Try.call25 ⟨⟨_, rfl, rfl⟩, ⟨_, rfl, rfl⟩, rfl⟩ (says11_ok m heard) ?_
  rintro _ _ ⟨l2, e2, rfl, rfl, c2⟩
  refine ⟨[], 1, .tup [.d (enc (l2 : (List Int))), .d (.lit (.int .i64 e2))], [], rfl, trivial, rfl, ?_⟩
  refine AO.ro rfl rfl (gOn_none rfl) (RO.move rfl rfl) ?_
  refine AO.ro rfl rfl (gOn_none rfl) (RO.extract rfl rfl rfl) ?_
  refine AO.ro rfl rfl (gOn_none rfl) (RO.extract rfl rfl rfl) ?_
  refine AO.ro rfl rfl (gOn_none rfl) (RO.assign rfl rfl) ?_
  refine AO.ro rfl rfl (gOn_none rfl) (RO.assign rfl rfl) ?_
  refine AO.nil ?_
  refine AW.seq ?_
  refine AW.region [0, 0, 2, 0] rfl ?_
  refine AO.ro rfl rfl (gOn_none rfl) (RO.move rfl rfl) ?_
  refine AO.ro rfl rfl (gOn_none rfl) (RO.move rfl rfl) ?_
  refine AO.call0 («as» := [.d (enc (l1 : (List Int))), .d (enc (l2 : (List Int)))]) (gOn_none rfl) rfl rfl rfl rfl Try.call16 ⟨⟨_, rfl, rfl⟩, ⟨_, rfl, rfl⟩, rfl⟩ (words_ok l1 l2) ?_
  rintro _ _ ⟨y3, rfl, rfl, c3⟩
  refine ⟨[], 1, .d (.lit (.bool y3)), [], rfl, trivial, rfl, ?_⟩
  refine AO.ro rfl rfl (gOn_none rfl) (RO.assign rfl rfl) ?_
  refine AO.nil ?_
  refine AW.seq ?_
  refine AW.region [0, 0, 0, 0, 0, 0, 0] rfl ?_
  refine AO.ro rfl rfl (gOn_none rfl) (RO.move rfl rfl) ?_
  refine AO.ro rfl rfl (gOn_none rfl) (RO.move rfl rfl) ?_
  refine AO.split rfl rfl (gOn_none rfl) (RO.eql rfl rfl rfl) (fun t4 => ?_) (fun t4 => ?_)
  · skip
    refine AO.ro rfl rfl (gOn_none rfl) (RO.move rfl rfl) ?_
    refine AO.ro rfl rfl ⟨28, true, rfl, rfl, rfl⟩ (RO.move rfl rfl) ?_
    refine AO.ro rfl rfl (gOn_none rfl) (RO.pick_t rfl rfl rfl) ?_
    refine AO.ro rfl rfl (gOn_none rfl) (RO.assign rfl rfl) ?_
    refine AO.nil ?_
    refine AW.ret ?_
    refine ⟨[], [.d (.lit (.bool y3))], [], rfl, ⟨⟨_, rfl, .inl rfl⟩, rfl⟩, trivial, ?_⟩
    refine ⟨y3, rfl, rfl, ?_⟩
    unfold SaySpec at *; simp_all
  · skip
    refine AO.ro rfl rfl (gOn_none rfl) (RO.move rfl rfl) ?_
    refine AO.skip rfl rfl ⟨28, false, rfl, rfl, rfl⟩ ?_
    refine AO.ro rfl rfl (gOn_none rfl) (RO.pick_f rfl rfl rfl) ?_
    refine AO.ro rfl rfl (gOn_none rfl) (RO.assign rfl rfl) ?_
    refine AO.nil ?_
    refine AW.ret ?_
    refine ⟨[], [.d (.lit (.bool false))], [], rfl, ⟨⟨_, rfl, .inl rfl⟩, rfl⟩, trivial, ?_⟩
    refine ⟨false, rfl, rfl, ?_⟩
    unfold SaySpec at *; simp_all

end Go.Proofs.Ytgjpkfbaobanlaa
