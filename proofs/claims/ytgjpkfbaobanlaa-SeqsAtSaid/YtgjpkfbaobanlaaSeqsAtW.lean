/- The walks of the functions that 'SeqsAt' reaches: what each of them computes. No condition. -/
import Derived.Test.YtgjpkfbaobanlaaAb3n15
import Derived.Test.YtgjpkfbaobanlaaProg
import Derived.KernelRfl
set_option maxHeartbeats 1000000
set_option maxRecDepth 20000
set_option linter.unusedSimpArgs false
set_option linter.unusedVariables false
namespace Go.Proofs.Ytgjpkfbaobanlaa
open Go Go.Ab
open Enc (enc)
structure Morph where
  Base : Int
  Images : (List (List Int))
  Coding : (List Int)
instance : Inhabited Morph := ⟨⟨default, default, default⟩⟩
instance : Enc Morph := ⟨fun m => .agg ([enc m.Base, enc m.Images, enc m.Coding]), 3, 56, fun _ => rfl, fun _ => rfl⟩
theorem ti3 : TI Try.prog 3 false 1 8 (.int .i64 0) := TI.of Try.underlying3 rfl (by kernel_rfl)
theorem ti26 : TI Try.prog 26 false 1 24 (.slice none 0 0) := TI.of Try.underlying26 rfl (by kernel_rfl)
theorem ti47 : TI Try.prog 47 true 3 56 (.agg #[.int .i64 0, .slice none 0 0, .slice none 0 0]) := TI.of Try.underlying47 rfl (by kernel_rfl)
theorem fa47_0 : FA Try.prog 47 0 0 3 1 := FA.of Try.underlying47 (by kernel_rfl) (by kernel_rfl) (by decide)
theorem fa47_1 : FA Try.prog 47 1 1 45 1 := FA.of Try.underlying47 (by kernel_rfl) (by kernel_rfl) (by decide)
theorem fa47_2 : FA Try.prog 47 2 2 26 1 := FA.of Try.underlying47 (by kernel_rfl) (by kernel_rfl) (by decide)
theorem zr3 : ZRs (enc (default : Int)).cells (Value.cells (.int .i64 0)).toList := ⟨.lit _ rfl, trivial⟩

theorem IndexFunc76_ok (s : (List Int)) (g_f : Nat) (c_f : List AV) (p_f : Int → Bool) (h_f : pureL c_f = true ∧ ∀ (xs : Array Value) (w : World), (callFunc g_f xs).run Try.prog w = .ok (.enter g_f xs) w) (f_f : ∀ (x0 : Int), Fc Try.prog g_f ([.d (.lit (.int .i64 x0))] ++ c_f) [] (fun r h => r = .d (.lit (.bool (p_f x0))) ∧ h = [])) : Fc Try.prog 76 [.d (enc (s : (List Int))), .fn g_f c_f] [] (fun r h => ∃ (y : Int), r = .d (.lit (.int .i64 y)) ∧ h = [] ∧ (y = findI p_f s)) := by
  refine Fc.of_body Try.func76 rfl Try.ntmps76 (by simp) (fun F => ?_)
  refine (show AW _ _ _ (⟨19, 0, [(0, .d (enc (s : (List Int)))), (1, .fn g_f c_f)], []⟩ : St) _ from ?_)
  refine AW.fact 0 rfl (fun ln_s => ?_)
  replace ln_s : s.length * 8 ≤ 140737488355328 := ln_s
  refine AW.seq ?_
  refine AW.region [0] rfl ?_
  refine AO.ro rfl rfl (gOn_none rfl) (RO.assign rfl rfl) ?_
  refine AO.nil ?_
  refine AW.seq ?_
  refine AW.seq ?_
  refine AW.region [0, 0, 0] rfl ?_
  refine AO.ro rfl rfl (gOn_none rfl) (RO.move rfl rfl) ?_
  refine AO.ro rfl rfl (gOn_none rfl) (RO.len rfl Try.underlying26 rfl) ?_
  refine AO.ro rfl rfl (gOn_none rfl) (RO.move rfl rfl) ?_
  refine AO.nil ?_
  refine AW.block ?_
  refine AW.loop (mp := []) (X := Int) (fun xv => ⟨19, 0, [(0, .d (enc (s : (List Int)))), (1, .fn g_f c_f), (4, .d (.lit (.int .i64 0))), (7, .d (.lit (.int .i64 ((s.length : Int))))), (8, .d (.lit (.int .i64 xv)))], []⟩) (fun xv => (0 ≤ xv ∧ xv ≤ s.length) ∧ (∀ j : Int, 0 ≤ j → j < xv → p_f (ix s j) = false)) (fun xv => (s.length - xv).toNat) 0 ?_ ⟨rfl, rfl, ⟨⟨_, rfl, .inl rfl⟩, ⟨⟨_, rfl, .inl (ren_fn h_f.1)⟩, ⟨⟨_, rfl, .inl rfl⟩, ⟨⟨_, rfl, .inl rfl⟩, ⟨⟨_, rfl, .inl rfl⟩, trivial⟩⟩⟩⟩⟩, trivial⟩ ?_
  · try dsimp only
    exact ⟨by omega, fun j a b => by omega⟩
  · skip
    intro i hx
    replace hx : (0 ≤ i ∧ i ≤ s.length) ∧ (∀ j : Int, 0 ≤ j → j < i → p_f (ix s j) = false) := hx
    obtain ⟨h1, h2⟩ := hx
    refine (show AW _ _ _ (⟨19, 0, [(0, .d (enc (s : (List Int)))), (1, .fn g_f c_f), (4, .d (.lit (.int .i64 0))), (7, .d (.lit (.int .i64 ((s.length : Int))))), (8, .d (.lit (.int .i64 i)))], []⟩ : St) _ from ?_)
    refine AW.seq ?_
    refine AW.region [0] rfl ?_
    refine AO.split rfl rfl (gOn_none rfl) (RO.lss rfl rfl rfl) (fun t1 => ?_) (fun t1 => ?_)
    · skip
      refine AO.nil ?_
      refine AW.seq ?_
      refine AW.cond_t rfl ?_
      refine AW.skip ?_
      refine AW.seq ?_
      refine AW.block ?_
      refine AW.seq ?_
      refine AW.region [0, 0] rfl ?_
      refine AO.ro rfl rfl (gOn_none rfl) (RO.move rfl rfl) ?_
      refine AO.ro rfl rfl (gOn_none rfl) (RO.assign rfl rfl) ?_
      refine AO.nil ?_
      refine AW.seq ?_
      refine AW.region [0, 0, 0, 0, 0, 1] rfl ?_
      refine AO.ro rfl rfl (gOn_none rfl) (RO.move rfl rfl) ?_
      refine AO.ro rfl rfl (gOn_none rfl) (RO.move rfl rfl) ?_
      refine AO.ro rfl rfl (gOn_none rfl) (RO.move rfl rfl) ?_
      refine AO.ro rfl rfl (gOn_none rfl) (RO.idx rfl Try.underlying26 ti3 rfl rfl (by omega)) ?_
      refine AO.ro rfl rfl (gOn_none rfl) (RO.ld_addr rfl Try.underlying3 rfl rfl rfl) ?_
      refine AO.callPA («as» := [.d (.lit (.int .i64 (ix s i)))]) (gOn_none rfl) rfl rfl rfl rfl h_f.1 h_f.2 ⟨⟨_, rfl, rfl⟩, rfl⟩ (f_f (ix s i)) ?_
      rintro _ _ ⟨rfl, rfl⟩
      refine ⟨[], 0, .d (.lit (.bool (p_f (ix s i)))), [], rfl, trivial, rfl, ?_⟩
      refine AO.nil ?_
      refine AW.caseb 16 rfl (fun b2 => ?_) (fun b2 => ?_)
      · skip
        refine AW.cond_t rfl ?_
        refine AW.seq ?_
        refine AW.region [0, 0] rfl ?_
        refine AO.ro rfl rfl (gOn_none rfl) (RO.move rfl rfl) ?_
        refine AO.ro rfl rfl (gOn_none rfl) (RO.assign rfl rfl) ?_
        refine AO.nil ?_
        refine AW.ret ?_
        refine ⟨[], [.d (.lit (.int .i64 i))], [], rfl, ⟨⟨_, rfl, .inl rfl⟩, rfl⟩, trivial, ?_⟩
        refine ⟨i, rfl, rfl, ?_⟩
        exact (findI_hit h1.1 (by omega) h2 (by assumption)).symm
      · skip
        refine AW.cond_f rfl ?_
        refine AW.skip ?_
        refine AW.region [0, 0] rfl ?_
        refine AO.ro rfl rfl (gOn_none rfl) (RO.add rfl rfl rfl (by omega)) ?_
        refine AO.ro rfl rfl (gOn_none rfl) (RO.move rfl rfl) ?_
        refine AO.nil ?_
        refine ⟨i + 1, [], ?_, ?_, ⟨rfl, rfl, ⟨⟨_, rfl, .inl rfl⟩, ⟨⟨_, rfl, .inl (ren_fn h_f.1)⟩, ⟨⟨_, rfl, .inl rfl⟩, ⟨⟨_, rfl, .inl rfl⟩, ⟨⟨_, rfl, .inl rfl⟩, trivial⟩⟩⟩⟩⟩, trivial⟩⟩
        · try dsimp only
          exact ⟨by omega, below_succ h2 (by assumption)⟩
        · try dsimp only
          first | omega | (simp; done) | (simp_all; done) | (simp_all; omega)
    · skip
      refine AO.nil ?_
      refine AW.seq ?_
      refine AW.cond_f rfl ?_
      refine AW.exit ?_
      refine AW.seq ?_
      refine AW.region [0] rfl ?_
      refine AO.ro rfl rfl (gOn_none rfl) (RO.assign rfl rfl) ?_
      refine AO.nil ?_
      refine AW.ret ?_
      refine ⟨[], [.d (.lit (.int .i64 ((-1))))], [], rfl, ⟨⟨_, rfl, .inl rfl⟩, rfl⟩, trivial, ?_⟩
      refine ⟨((-1)), rfl, rfl, ?_⟩
      exact (findI_none (fun j a b => h2 j a (by omega))).symm

theorem IndexFunc77_ok (s : (List (List Int))) (g_f : Nat) (c_f : List AV) (p_f : (List Int) → Bool) (h_f : pureL c_f = true ∧ ∀ (xs : Array Value) (w : World), (callFunc g_f xs).run Try.prog w = .ok (.enter g_f xs) w) (f_f : ∀ (x0 : (List Int)), Fc Try.prog g_f ([.d (enc (x0 : (List Int)))] ++ c_f) [] (fun r h => r = .d (.lit (.bool (p_f x0))) ∧ h = [])) : Fc Try.prog 77 [.d (enc (s : (List (List Int)))), .fn g_f c_f] [] (fun r h => ∃ (y : Int), r = .d (.lit (.int .i64 y)) ∧ h = [] ∧ (y = findI p_f s)) := by
  refine Fc.of_body Try.func77 rfl Try.ntmps77 (by simp) (fun F => ?_)
  refine (show AW _ _ _ (⟨19, 0, [(0, .d (enc (s : (List (List Int))))), (1, .fn g_f c_f)], []⟩ : St) _ from ?_)
  refine AW.fact 0 rfl (fun ln_s => ?_)
  replace ln_s : s.length * 24 ≤ 140737488355328 := ln_s
  refine AW.seq ?_
  refine AW.region [0] rfl ?_
  refine AO.ro rfl rfl (gOn_none rfl) (RO.assign rfl rfl) ?_
  refine AO.nil ?_
  refine AW.seq ?_
  refine AW.seq ?_
  refine AW.region [0, 0, 0] rfl ?_
  refine AO.ro rfl rfl (gOn_none rfl) (RO.move rfl rfl) ?_
  refine AO.ro rfl rfl (gOn_none rfl) (RO.len rfl Try.underlying45 rfl) ?_
  refine AO.ro rfl rfl (gOn_none rfl) (RO.move rfl rfl) ?_
  refine AO.nil ?_
  refine AW.block ?_
  refine AW.loop (mp := []) (X := Int) (fun xv => ⟨19, 0, [(0, .d (enc (s : (List (List Int))))), (1, .fn g_f c_f), (4, .d (.lit (.int .i64 0))), (7, .d (.lit (.int .i64 ((s.length : Int))))), (8, .d (.lit (.int .i64 xv)))], []⟩) (fun xv => (0 ≤ xv ∧ xv ≤ s.length) ∧ (∀ j : Int, 0 ≤ j → j < xv → p_f (ix s j) = false)) (fun xv => (s.length - xv).toNat) 0 ?_ ⟨rfl, rfl, ⟨⟨_, rfl, .inl rfl⟩, ⟨⟨_, rfl, .inl (ren_fn h_f.1)⟩, ⟨⟨_, rfl, .inl rfl⟩, ⟨⟨_, rfl, .inl rfl⟩, ⟨⟨_, rfl, .inl rfl⟩, trivial⟩⟩⟩⟩⟩, trivial⟩ ?_
  · try dsimp only
    exact ⟨by omega, fun j a b => by omega⟩
  · skip
    intro i hx
    replace hx : (0 ≤ i ∧ i ≤ s.length) ∧ (∀ j : Int, 0 ≤ j → j < i → p_f (ix s j) = false) := hx
    obtain ⟨h1, h2⟩ := hx
    refine (show AW _ _ _ (⟨19, 0, [(0, .d (enc (s : (List (List Int))))), (1, .fn g_f c_f), (4, .d (.lit (.int .i64 0))), (7, .d (.lit (.int .i64 ((s.length : Int))))), (8, .d (.lit (.int .i64 i)))], []⟩ : St) _ from ?_)
    refine AW.seq ?_
    refine AW.region [0] rfl ?_
    refine AO.split rfl rfl (gOn_none rfl) (RO.lss rfl rfl rfl) (fun t1 => ?_) (fun t1 => ?_)
    · skip
      refine AO.nil ?_
      refine AW.seq ?_
      refine AW.cond_t rfl ?_
      refine AW.skip ?_
      refine AW.seq ?_
      refine AW.block ?_
      refine AW.seq ?_
      refine AW.region [0, 0] rfl ?_
      refine AO.ro rfl rfl (gOn_none rfl) (RO.move rfl rfl) ?_
      refine AO.ro rfl rfl (gOn_none rfl) (RO.assign rfl rfl) ?_
      refine AO.nil ?_
      refine AW.seq ?_
      refine AW.region [0, 0, 0, 0, 0, 1] rfl ?_
      refine AO.ro rfl rfl (gOn_none rfl) (RO.move rfl rfl) ?_
      refine AO.ro rfl rfl (gOn_none rfl) (RO.move rfl rfl) ?_
      refine AO.ro rfl rfl (gOn_none rfl) (RO.move rfl rfl) ?_
      refine AO.ro rfl rfl (gOn_none rfl) (RO.idx rfl Try.underlying45 ti26 rfl rfl (by omega)) ?_
      refine AO.ro rfl rfl (gOn_none rfl) (RO.ld_addr rfl Try.underlying26 rfl rfl rfl) ?_
      refine AO.callPA («as» := [.d (enc (ix s i : (List Int)))]) (gOn_none rfl) rfl rfl rfl rfl h_f.1 h_f.2 ⟨⟨_, rfl, rfl⟩, rfl⟩ (f_f (ix s i)) ?_
      rintro _ _ ⟨rfl, rfl⟩
      refine ⟨[], 0, .d (.lit (.bool (p_f (ix s i)))), [], rfl, trivial, rfl, ?_⟩
      refine AO.nil ?_
      refine AW.caseb 16 rfl (fun b2 => ?_) (fun b2 => ?_)
      · skip
        refine AW.cond_t rfl ?_
        refine AW.seq ?_
        refine AW.region [0, 0] rfl ?_
        refine AO.ro rfl rfl (gOn_none rfl) (RO.move rfl rfl) ?_
        refine AO.ro rfl rfl (gOn_none rfl) (RO.assign rfl rfl) ?_
        refine AO.nil ?_
        refine AW.ret ?_
        refine ⟨[], [.d (.lit (.int .i64 i))], [], rfl, ⟨⟨_, rfl, .inl rfl⟩, rfl⟩, trivial, ?_⟩
        refine ⟨i, rfl, rfl, ?_⟩
        exact (findI_hit h1.1 (by omega) h2 (by assumption)).symm
      · skip
        refine AW.cond_f rfl ?_
        refine AW.skip ?_
        refine AW.region [0, 0] rfl ?_
        refine AO.ro rfl rfl (gOn_none rfl) (RO.add rfl rfl rfl (by omega)) ?_
        refine AO.ro rfl rfl (gOn_none rfl) (RO.move rfl rfl) ?_
        refine AO.nil ?_
        refine ⟨i + 1, [], ?_, ?_, ⟨rfl, rfl, ⟨⟨_, rfl, .inl rfl⟩, ⟨⟨_, rfl, .inl (ren_fn h_f.1)⟩, ⟨⟨_, rfl, .inl rfl⟩, ⟨⟨_, rfl, .inl rfl⟩, ⟨⟨_, rfl, .inl rfl⟩, trivial⟩⟩⟩⟩⟩, trivial⟩⟩
        · try dsimp only
          exact ⟨by omega, below_succ h2 (by assumption)⟩
        · try dsimp only
          first | omega | (simp; done) | (simp_all; done) | (simp_all; omega)
    · skip
      refine AO.nil ?_
      refine AW.seq ?_
      refine AW.cond_f rfl ?_
      refine AW.exit ?_
      refine AW.seq ?_
      refine AW.region [0] rfl ?_
      refine AO.ro rfl rfl (gOn_none rfl) (RO.assign rfl rfl) ?_
      refine AO.nil ?_
      refine AW.ret ?_
      refine ⟨[], [.d (.lit (.int .i64 ((-1))))], [], rfl, ⟨⟨_, rfl, .inl rfl⟩, rfl⟩, trivial, ?_⟩
      refine ⟨((-1)), rfl, rfl, ?_⟩
      exact (findI_none (fun j a b => h2 j a (by omega))).symm

theorem ContainsFunc58_ok (s : (List Int)) (g_f : Nat) (c_f : List AV) (p_f : Int → Bool) (h_f : pureL c_f = true ∧ ∀ (xs : Array Value) (w : World), (callFunc g_f xs).run Try.prog w = .ok (.enter g_f xs) w) (f_f : ∀ (x0 : Int), Fc Try.prog g_f ([.d (.lit (.int .i64 x0))] ++ c_f) [] (fun r h => r = .d (.lit (.bool (p_f x0))) ∧ h = [])) : Fc Try.prog 58 [.d (enc (s : (List Int))), .fn g_f c_f] [] (fun r h => ∃ (y : Bool), r = .d (.lit (.bool y)) ∧ h = [] ∧ (y = s.any p_f)) := by
  refine Fc.of_body Try.func58 rfl Try.ntmps58 (by simp) (fun F => ?_)
  refine (show AW _ _ _ (⟨9, 0, [(0, .d (enc (s : (List Int)))), (1, .fn g_f c_f)], []⟩ : St) _ from ?_)
  refine AW.fact 0 rfl (fun ln_s => ?_)
  replace ln_s : s.length * 8 ≤ 140737488355328 := ln_s
  refine AW.seq ?_
  refine AW.region [0] rfl ?_
  refine AO.ro rfl rfl (gOn_none rfl) (RO.assign rfl rfl) ?_
  refine AO.nil ?_
  refine AW.seq ?_
  refine AW.region [0, 0, 1, 0, 0] rfl ?_
  refine AO.ro rfl rfl (gOn_none rfl) (RO.move rfl rfl) ?_
  refine AO.ro rfl rfl (gOn_none rfl) (RO.move rfl rfl) ?_
  refine AO.callA («as» := [.d (enc (s : (List Int))), .fn g_f c_f]) (gOn_none rfl) rfl rfl rfl rfl Try.call76 ⟨⟨_, rfl, rfl⟩, ⟨_, rfl, ren_fn h_f.1⟩, rfl⟩ (IndexFunc76_ok s g_f c_f p_f h_f f_f) ?_
  rintro _ _ ⟨y1, rfl, rfl, c1⟩
  refine ⟨[], 0, .d (.lit (.int .i64 y1)), [], rfl, trivial, rfl, ?_⟩
  refine AO.split rfl rfl (gOn_none rfl) (RO.geq rfl rfl rfl) (fun t2 => ?_) (fun t2 => ?_)
  · skip
    refine AO.ro rfl rfl (gOn_none rfl) (RO.assign rfl rfl) ?_
    refine AO.nil ?_
    refine AW.ret ?_
    refine ⟨[], [.d (.lit (.bool true))], [], rfl, ⟨⟨_, rfl, .inl rfl⟩, rfl⟩, trivial, ?_⟩
    refine ⟨true, rfl, rfl, ?_⟩
    rw [← findI_any]; subst_vars; simp; omega
  · skip
    refine AO.ro rfl rfl (gOn_none rfl) (RO.assign rfl rfl) ?_
    refine AO.nil ?_
    refine AW.ret ?_
    refine ⟨[], [.d (.lit (.bool false))], [], rfl, ⟨⟨_, rfl, .inl rfl⟩, rfl⟩, trivial, ?_⟩
    refine ⟨false, rfl, rfl, ?_⟩
    rw [← findI_any]; subst_vars; simp; omega

theorem ContainsFunc60_ok (s : (List (List Int))) (g_f : Nat) (c_f : List AV) (p_f : (List Int) → Bool) (h_f : pureL c_f = true ∧ ∀ (xs : Array Value) (w : World), (callFunc g_f xs).run Try.prog w = .ok (.enter g_f xs) w) (f_f : ∀ (x0 : (List Int)), Fc Try.prog g_f ([.d (enc (x0 : (List Int)))] ++ c_f) [] (fun r h => r = .d (.lit (.bool (p_f x0))) ∧ h = [])) : Fc Try.prog 60 [.d (enc (s : (List (List Int)))), .fn g_f c_f] [] (fun r h => ∃ (y : Bool), r = .d (.lit (.bool y)) ∧ h = [] ∧ (y = s.any p_f)) := by
  refine Fc.of_body Try.func60 rfl Try.ntmps60 (by simp) (fun F => ?_)
  refine (show AW _ _ _ (⟨9, 0, [(0, .d (enc (s : (List (List Int))))), (1, .fn g_f c_f)], []⟩ : St) _ from ?_)
  refine AW.fact 0 rfl (fun ln_s => ?_)
  replace ln_s : s.length * 24 ≤ 140737488355328 := ln_s
  refine AW.seq ?_
  refine AW.region [0] rfl ?_
  refine AO.ro rfl rfl (gOn_none rfl) (RO.assign rfl rfl) ?_
  refine AO.nil ?_
  refine AW.seq ?_
  refine AW.region [0, 0, 1, 0, 0] rfl ?_
  refine AO.ro rfl rfl (gOn_none rfl) (RO.move rfl rfl) ?_
  refine AO.ro rfl rfl (gOn_none rfl) (RO.move rfl rfl) ?_
  refine AO.callA («as» := [.d (enc (s : (List (List Int)))), .fn g_f c_f]) (gOn_none rfl) rfl rfl rfl rfl Try.call77 ⟨⟨_, rfl, rfl⟩, ⟨_, rfl, ren_fn h_f.1⟩, rfl⟩ (IndexFunc77_ok s g_f c_f p_f h_f f_f) ?_
  rintro _ _ ⟨y1, rfl, rfl, c1⟩
  refine ⟨[], 0, .d (.lit (.int .i64 y1)), [], rfl, trivial, rfl, ?_⟩
  refine AO.split rfl rfl (gOn_none rfl) (RO.geq rfl rfl rfl) (fun t2 => ?_) (fun t2 => ?_)
  · skip
    refine AO.ro rfl rfl (gOn_none rfl) (RO.assign rfl rfl) ?_
    refine AO.nil ?_
    refine AW.ret ?_
    refine ⟨[], [.d (.lit (.bool true))], [], rfl, ⟨⟨_, rfl, .inl rfl⟩, rfl⟩, trivial, ?_⟩
    refine ⟨true, rfl, rfl, ?_⟩
    rw [← findI_any]; subst_vars; simp; omega
  · skip
    refine AO.ro rfl rfl (gOn_none rfl) (RO.assign rfl rfl) ?_
    refine AO.nil ?_
    refine AW.ret ?_
    refine ⟨[], [.d (.lit (.bool false))], [], rfl, ⟨⟨_, rfl, .inl rfl⟩, rfl⟩, trivial, ?_⟩
    refine ⟨false, rfl, rfl, ?_⟩
    rw [← findI_any]; subst_vars; simp; omega

/-- May these be a word's letters? (the number of the error) -/
def mayE (letters : Int) (w : List Int) : Int :=
  if letters < 1 ∨ 4 < letters then 2 else if (60 : Int) < w.length then 1 else if ∀ x ∈ w, 0 ≤ x ∧ x < letters then 0 else 2
theorem mayE_range {letters : Int} {w : List Int} (h : letters < 1 ∨ 4 < letters) : mayE letters w = 2 := by unfold mayE; rw [if_pos h]
theorem mayE_size {letters : Int} {w : List Int} (h : 1 ≤ letters ∧ letters ≤ 4) (h2 : (60 : Int) < w.length) : mayE letters w = 1 := by unfold mayE; rw [if_neg (by omega), if_pos h2]
theorem mayE_bad {letters i : Int} {w : List Int} (h : 1 ≤ letters ∧ letters ≤ 4) (h2 : w.length ≤ (60 : Int)) (h0 : 0 ≤ i ∧ i < w.length) (hx : ¬ (0 ≤ ix w i ∧ ix w i < letters)) : mayE letters w = 2 := by
  unfold mayE; rw [if_neg (by omega), if_neg (by omega), if_neg]; intro hh; exact hx (hh _ (ix_mem h0.1 h0.2))
theorem mayE_ok {letters : Int} {w : List Int} (h : 1 ≤ letters ∧ letters ≤ 4) (h2 : w.length ≤ (60 : Int)) (hx : ∀ j : Int, 0 ≤ j → j < w.length → 0 ≤ ix w j ∧ ix w j < letters) : mayE letters w = 0 := by
  unfold mayE; rw [if_neg (by omega), if_neg (by omega), if_pos]; exact forall_ix.2 hx
theorem mayE_zero {letters : Int} {w : List Int} (h : mayE letters w = 0) : (1 ≤ letters ∧ letters ≤ 4) ∧ w.length ≤ (60 : Int) ∧ ∀ x ∈ w, 0 ≤ x ∧ x < letters := by
  unfold mayE at h
  split at h
  · omega
  · split at h
    · omega
    · split at h
      · rename_i h3; exact ⟨by omega, by omega, h3⟩
      · omega
theorem words_ok (u : (List Int)) (v : (List Int)) : Fc Try.prog 16 [.d (enc (u : (List Int))), .d (enc (v : (List Int)))] [] (fun r h => ∃ (y : Bool), r = .d (.lit (.bool y)) ∧ h = [] ∧ (y = decide (u = v))) := by
  refine Fc.of_body Try.func16 rfl Try.ntmps16 (by simp) (fun F => ?_)
  refine (show AW _ _ _ (⟨26, 0, [(0, .d (enc (u : (List Int)))), (1, .d (enc (v : (List Int))))], []⟩ : St) _ from ?_)
  refine AW.fact 0 rfl (fun ln_u => ?_)
  replace ln_u : u.length * 8 ≤ 140737488355328 := ln_u
  refine AW.fact 1 rfl (fun ln_v => ?_)
  replace ln_v : v.length * 8 ≤ 140737488355328 := ln_v
  refine AW.seq ?_
  refine AW.region [0] rfl ?_
  refine AO.ro rfl rfl (gOn_none rfl) (RO.assign rfl rfl) ?_
  refine AO.nil ?_
  refine AW.seq ?_
  refine AW.seq ?_
  refine AW.region [0, 0, 0, 0, 0] rfl ?_
  refine AO.ro rfl rfl (gOn_none rfl) (RO.move rfl rfl) ?_
  refine AO.ro rfl rfl (gOn_none rfl) (RO.len rfl Try.underlying26 rfl) ?_
  refine AO.ro rfl rfl (gOn_none rfl) (RO.move rfl rfl) ?_
  refine AO.ro rfl rfl (gOn_none rfl) (RO.len rfl Try.underlying26 rfl) ?_
  refine AO.splitn rfl rfl (gOn_none rfl) (RO.neq rfl rfl rfl) (fun t1 => ?_) (fun t1 => ?_)
  · skip
    refine AO.nil ?_
    refine AW.cond_t rfl ?_
    refine AW.seq ?_
    refine AW.region [0] rfl ?_
    refine AO.ro rfl rfl (gOn_none rfl) (RO.assign rfl rfl) ?_
    refine AO.nil ?_
    refine AW.ret ?_
    refine ⟨[], [.d (.lit (.bool false))], [], rfl, ⟨⟨_, rfl, .inl rfl⟩, rfl⟩, trivial, ?_⟩
    refine ⟨false, rfl, rfl, ?_⟩
    rw [eq_comm, decide_eq_false_iff_not]; rintro rfl; contradiction
  · skip
    refine AO.nil ?_
    refine AW.cond_f rfl ?_
    refine AW.skip ?_
    refine AW.seq ?_
    refine AW.seq ?_
    refine AW.region [0] rfl ?_
    refine AO.ro rfl rfl (gOn_none rfl) (RO.assign rfl rfl) ?_
    refine AO.nil ?_
    refine AW.block ?_
    refine AW.loop (mp := []) (X := Int) (fun xv => ⟨26, 0, [(0, .d (enc (u : (List Int)))), (1, .d (enc (v : (List Int)))), (4, .d (.lit (.bool false))), (5, .d (.lit (.int .i64 xv)))], []⟩) (fun xv => (0 ≤ xv ∧ xv ≤ u.length) ∧ (u.length = v.length) ∧ (∀ j : Int, 0 ≤ j → j < xv → ix u j = ix v j)) (fun xv => (u.length - xv).toNat) 0 ?_ ⟨rfl, rfl, ⟨⟨_, rfl, .inl rfl⟩, ⟨⟨_, rfl, .inl rfl⟩, ⟨⟨_, rfl, .inl rfl⟩, ⟨⟨_, rfl, .inl rfl⟩, trivial⟩⟩⟩⟩, trivial⟩ ?_
    · try dsimp only
      exact ⟨by omega, by omega, fun j a b => by omega⟩
    · skip
      intro i hx
      replace hx : (0 ≤ i ∧ i ≤ u.length) ∧ (u.length = v.length) ∧ (∀ j : Int, 0 ≤ j → j < i → ix u j = ix v j) := hx
      obtain ⟨h1, h2, h3⟩ := hx
      refine (show AW _ _ _ (⟨26, 0, [(0, .d (enc (u : (List Int)))), (1, .d (enc (v : (List Int)))), (4, .d (.lit (.bool false))), (5, .d (.lit (.int .i64 i)))], []⟩ : St) _ from ?_)
      refine AW.seq ?_
      refine AW.seq ?_
      refine AW.region [0, 0, 0, 0] rfl ?_
      refine AO.ro rfl rfl (gOn_none rfl) (RO.move rfl rfl) ?_
      refine AO.ro rfl rfl (gOn_none rfl) (RO.move rfl rfl) ?_
      refine AO.ro rfl rfl (gOn_none rfl) (RO.len rfl Try.underlying26 rfl) ?_
      refine AO.split rfl rfl (gOn_none rfl) (RO.lss rfl rfl rfl) (fun t2 => ?_) (fun t2 => ?_)
      · skip
        refine AO.nil ?_
        refine AW.cond_t rfl ?_
        refine AW.skip ?_
        refine AW.seq ?_
        refine AW.block ?_
        refine AW.seq ?_
        refine AW.drawn [(0, 0), (0, 1), (0, 2), (0, 3), (0, 4), (0, 5), (0, 6), (0, 7), (0, 8)] (by kernel_rfl) (by kernel_rfl) ?_
        refine AO.ro rfl rfl (gOn_none rfl) (RO.move rfl rfl) ?_
        refine AO.ro rfl rfl (gOn_none rfl) (RO.move rfl rfl) ?_
        refine AO.ro rfl rfl (gOn_none rfl) (RO.idx rfl Try.underlying26 ti3 rfl rfl (by omega)) ?_
        refine AO.ro rfl rfl (gOn_none rfl) (RO.ld_addr rfl Try.underlying3 rfl rfl rfl) ?_
        refine AO.ro rfl rfl (gOn_none rfl) (RO.move rfl rfl) ?_
        refine AO.ro rfl rfl (gOn_none rfl) (RO.move rfl rfl) ?_
        refine AO.ro rfl rfl (gOn_none rfl) (RO.idx rfl Try.underlying26 ti3 rfl rfl (by omega)) ?_
        refine AO.ro rfl rfl (gOn_none rfl) (RO.ld_addr rfl Try.underlying3 rfl rfl rfl) ?_
        refine AO.splitn rfl rfl (gOn_none rfl) (RO.neq rfl rfl rfl) (fun t3 => ?_) (fun t3 => ?_)
        · skip
          refine AO.nil ?_
          refine AW.cond_t rfl ?_
          refine AW.seq ?_
          refine AW.region [0] rfl ?_
          refine AO.ro rfl rfl (gOn_none rfl) (RO.assign rfl rfl) ?_
          refine AO.nil ?_
          refine AW.ret ?_
          refine ⟨[], [.d (.lit (.bool false))], [], rfl, ⟨⟨_, rfl, .inl rfl⟩, rfl⟩, trivial, ?_⟩
          refine ⟨false, rfl, rfl, ?_⟩
          rw [eq_comm, decide_eq_false_iff_not]; rintro rfl; contradiction
        · skip
          refine AO.nil ?_
          refine AW.cond_f rfl ?_
          refine AW.skip ?_
          refine AW.region [0, 0, 0] rfl ?_
          refine AO.ro rfl rfl (gOn_none rfl) (RO.move rfl rfl) ?_
          refine AO.ro rfl rfl (gOn_none rfl) (RO.add rfl rfl rfl (by omega)) ?_
          refine AO.ro rfl rfl (gOn_none rfl) (RO.assign rfl rfl) ?_
          refine AO.nil ?_
          refine ⟨i + 1, [], ?_, ?_, ⟨rfl, rfl, ⟨⟨_, rfl, .inl rfl⟩, ⟨⟨_, rfl, .inl rfl⟩, ⟨⟨_, rfl, .inl rfl⟩, ⟨⟨_, rfl, .inl rfl⟩, trivial⟩⟩⟩⟩, trivial⟩⟩
          · try dsimp only
            exact ⟨by omega, h2, below_succ h3 (by assumption)⟩
          · try dsimp only
            first | omega | (simp; done) | (simp_all; done) | (simp_all; omega)
      · skip
        refine AO.nil ?_
        refine AW.cond_f rfl ?_
        refine AW.exit ?_
        refine AW.seq ?_
        refine AW.region [0] rfl ?_
        refine AO.ro rfl rfl (gOn_none rfl) (RO.assign rfl rfl) ?_
        refine AO.nil ?_
        refine AW.ret ?_
        refine ⟨[], [.d (.lit (.bool true))], [], rfl, ⟨⟨_, rfl, .inl rfl⟩, rfl⟩, trivial, ?_⟩
        refine ⟨true, rfl, rfl, ?_⟩
        rw [eq_comm, decide_eq_true_iff]; exact ix_ext h2 (fun j a b => h3 j a (by omega))

theorem may1_ok (letters : Int) (w : (List Int)) : Fc Try.prog 18 [.d (.lit (.int .i64 letters)), .d (enc (w : (List Int)))] [] (fun r h => ∃ (y : Int), r = .d (.lit (.int .i64 y)) ∧ h = [] ∧ (y = mayE letters w)) := by
  refine Fc.of_body Try.func18 rfl Try.ntmps18 (by simp) (fun F => ?_)
  refine (show AW _ _ _ (⟨34, 0, [(0, .d (.lit (.int .i64 letters))), (1, .d (enc (w : (List Int))))], []⟩ : St) _ from ?_)
  refine AW.fact 1 rfl (fun ln_w => ?_)
  replace ln_w : w.length * 8 ≤ 140737488355328 := ln_w
  refine AW.seq ?_
  refine AW.region [0] rfl ?_
  refine AO.ro rfl rfl (gOn_none rfl) (RO.assign rfl rfl) ?_
  refine AO.nil ?_
  refine AW.seq ?_
  refine AW.seq ?_
  refine AW.region [0, 0, 0, 0, 0, 0] rfl ?_
  refine AO.ro rfl rfl (gOn_none rfl) (RO.move rfl rfl) ?_
  refine AO.split rfl rfl (gOn_none rfl) (RO.lss rfl rfl rfl) (fun t1 => ?_) (fun t1 => ?_)
  · skip
    refine AO.ro rfl rfl (gOn_none rfl) (RO.move rfl rfl) ?_
    refine AO.skip rfl rfl ⟨8, true, rfl, rfl, rfl⟩ ?_
    refine AO.skip rfl rfl ⟨8, true, rfl, rfl, rfl⟩ ?_
    refine AO.ro rfl rfl (gOn_none rfl) (RO.pick_t rfl rfl rfl) ?_
    refine AO.nil ?_
    refine AW.cond_t rfl ?_
    refine AW.seq ?_
    refine AW.region [0] rfl ?_
    refine AO.ro rfl rfl (gOn_none rfl) (RO.assign rfl rfl) ?_
    refine AO.nil ?_
    refine AW.ret ?_
    refine ⟨[], [.d (.lit (.int .i64 2))], [], rfl, ⟨⟨_, rfl, .inl rfl⟩, rfl⟩, trivial, ?_⟩
    refine ⟨2, rfl, rfl, ?_⟩
    exact (mayE_range (by omega)).symm
  · skip
    refine AO.ro rfl rfl (gOn_none rfl) (RO.move rfl rfl) ?_
    refine AO.ro rfl rfl ⟨8, false, rfl, rfl, rfl⟩ (RO.move rfl rfl) ?_
    refine AO.split rfl rfl ⟨8, false, rfl, rfl, rfl⟩ (RO.gtr rfl rfl rfl) (fun t2 => ?_) (fun t2 => ?_)
    · skip
      refine AO.ro rfl rfl (gOn_none rfl) (RO.pick_f rfl rfl rfl) ?_
      refine AO.nil ?_
      refine AW.cond_t rfl ?_
      refine AW.seq ?_
      refine AW.region [0] rfl ?_
      refine AO.ro rfl rfl (gOn_none rfl) (RO.assign rfl rfl) ?_
      refine AO.nil ?_
      refine AW.ret ?_
      refine ⟨[], [.d (.lit (.int .i64 2))], [], rfl, ⟨⟨_, rfl, .inl rfl⟩, rfl⟩, trivial, ?_⟩
      refine ⟨2, rfl, rfl, ?_⟩
      exact (mayE_range (by omega)).symm
    · skip
      refine AO.ro rfl rfl (gOn_none rfl) (RO.pick_f rfl rfl rfl) ?_
      refine AO.nil ?_
      refine AW.cond_f rfl ?_
      refine AW.skip ?_
      refine AW.seq ?_
      refine AW.seq ?_
      refine AW.region [0, 0, 0] rfl ?_
      refine AO.ro rfl rfl (gOn_none rfl) (RO.move rfl rfl) ?_
      refine AO.ro rfl rfl (gOn_none rfl) (RO.len rfl Try.underlying26 rfl) ?_
      refine AO.split rfl rfl (gOn_none rfl) (RO.gtr rfl rfl rfl) (fun t3 => ?_) (fun t3 => ?_)
      · skip
        refine AO.nil ?_
        refine AW.cond_t rfl ?_
        refine AW.seq ?_
        refine AW.region [0] rfl ?_
        refine AO.ro rfl rfl (gOn_none rfl) (RO.assign rfl rfl) ?_
        refine AO.nil ?_
        refine AW.ret ?_
        refine ⟨[], [.d (.lit (.int .i64 1))], [], rfl, ⟨⟨_, rfl, .inl rfl⟩, rfl⟩, trivial, ?_⟩
        refine ⟨1, rfl, rfl, ?_⟩
        exact (mayE_size (by omega) (by omega)).symm
      · skip
        refine AO.nil ?_
        refine AW.cond_f rfl ?_
        refine AW.skip ?_
        refine AW.seq ?_
        refine AW.seq ?_
        refine AW.region [0] rfl ?_
        refine AO.ro rfl rfl (gOn_none rfl) (RO.assign rfl rfl) ?_
        refine AO.nil ?_
        refine AW.block ?_
        refine AW.loop (mp := []) (X := Int) (fun xv => ⟨34, 0, [(0, .d (.lit (.int .i64 letters))), (1, .d (enc (w : (List Int)))), (4, .d (.lit (.int .i64 0))), (5, .d (.lit (.int .i64 xv)))], []⟩) (fun xv => (0 ≤ xv ∧ xv ≤ w.length) ∧ (∀ j : Int, 0 ≤ j → j < xv → 0 ≤ ix w j ∧ ix w j < letters)) (fun xv => (w.length - xv).toNat) 0 ?_ ⟨rfl, rfl, ⟨⟨_, rfl, .inl rfl⟩, ⟨⟨_, rfl, .inl rfl⟩, ⟨⟨_, rfl, .inl rfl⟩, ⟨⟨_, rfl, .inl rfl⟩, trivial⟩⟩⟩⟩, trivial⟩ ?_
        · try dsimp only
          exact ⟨by omega, fun j a b => by omega⟩
        · skip
          intro i hx
          replace hx : (0 ≤ i ∧ i ≤ w.length) ∧ (∀ j : Int, 0 ≤ j → j < i → 0 ≤ ix w j ∧ ix w j < letters) := hx
          obtain ⟨h1, h2⟩ := hx
          refine (show AW _ _ _ (⟨34, 0, [(0, .d (.lit (.int .i64 letters))), (1, .d (enc (w : (List Int)))), (4, .d (.lit (.int .i64 0))), (5, .d (.lit (.int .i64 i)))], []⟩ : St) _ from ?_)
          refine AW.seq ?_
          refine AW.seq ?_
          refine AW.region [0, 0, 0, 0] rfl ?_
          refine AO.ro rfl rfl (gOn_none rfl) (RO.move rfl rfl) ?_
          refine AO.ro rfl rfl (gOn_none rfl) (RO.move rfl rfl) ?_
          refine AO.ro rfl rfl (gOn_none rfl) (RO.len rfl Try.underlying26 rfl) ?_
          refine AO.split rfl rfl (gOn_none rfl) (RO.lss rfl rfl rfl) (fun t4 => ?_) (fun t4 => ?_)
          · skip
            refine AO.nil ?_
            refine AW.cond_t rfl ?_
            refine AW.skip ?_
            refine AW.seq ?_
            refine AW.block ?_
            refine AW.seq ?_
            refine AW.region [0, 0, 0, 0, 0, 0, 0, 0, 0, 0, 0, 0, 0] rfl ?_
            refine AO.ro rfl rfl (gOn_none rfl) (RO.move rfl rfl) ?_
            refine AO.ro rfl rfl (gOn_none rfl) (RO.move rfl rfl) ?_
            refine AO.ro rfl rfl (gOn_none rfl) (RO.idx rfl Try.underlying26 ti3 rfl rfl (by omega)) ?_
            refine AO.ro rfl rfl (gOn_none rfl) (RO.ld_addr rfl Try.underlying3 rfl rfl rfl) ?_
            refine AO.split rfl rfl (gOn_none rfl) (RO.lss rfl rfl rfl) (fun t5 => ?_) (fun t5 => ?_)
            · skip
              refine AO.ro rfl rfl (gOn_none rfl) (RO.move rfl rfl) ?_
              refine AO.skip rfl rfl ⟨26, true, rfl, rfl, rfl⟩ ?_
              refine AO.skip rfl rfl ⟨26, true, rfl, rfl, rfl⟩ ?_
              refine AO.skip rfl rfl ⟨26, true, rfl, rfl, rfl⟩ ?_
              refine AO.skip rfl rfl ⟨26, true, rfl, rfl, rfl⟩ ?_
              refine AO.skip rfl rfl ⟨26, true, rfl, rfl, rfl⟩ ?_
              refine AO.skip rfl rfl ⟨26, true, rfl, rfl, rfl⟩ ?_
              refine AO.ro rfl rfl (gOn_none rfl) (RO.pick_t rfl rfl rfl) ?_
              refine AO.nil ?_
              refine AW.cond_t rfl ?_
              refine AW.seq ?_
              refine AW.region [0] rfl ?_
              refine AO.ro rfl rfl (gOn_none rfl) (RO.assign rfl rfl) ?_
              refine AO.nil ?_
              refine AW.ret ?_
              refine ⟨[], [.d (.lit (.int .i64 2))], [], rfl, ⟨⟨_, rfl, .inl rfl⟩, rfl⟩, trivial, ?_⟩
              refine ⟨2, rfl, rfl, ?_⟩
              exact (mayE_bad (by omega) (by omega) (i := i) (by omega) (by omega)).symm
            · skip
              refine AO.ro rfl rfl (gOn_none rfl) (RO.move rfl rfl) ?_
              refine AO.ro rfl rfl ⟨26, false, rfl, rfl, rfl⟩ (RO.move rfl rfl) ?_
              refine AO.ro rfl rfl ⟨26, false, rfl, rfl, rfl⟩ (RO.move rfl rfl) ?_
              refine AO.ro rfl rfl ⟨26, false, rfl, rfl, rfl⟩ (RO.idx rfl Try.underlying26 ti3 rfl rfl (by omega)) ?_
              refine AO.ro rfl rfl ⟨26, false, rfl, rfl, rfl⟩ (RO.ld_addr rfl Try.underlying3 rfl rfl rfl) ?_
              refine AO.ro rfl rfl ⟨26, false, rfl, rfl, rfl⟩ (RO.move rfl rfl) ?_
              refine AO.split rfl rfl ⟨26, false, rfl, rfl, rfl⟩ (RO.geq rfl rfl rfl) (fun t6 => ?_) (fun t6 => ?_)
              · skip
                refine AO.ro rfl rfl (gOn_none rfl) (RO.pick_f rfl rfl rfl) ?_
                refine AO.nil ?_
                refine AW.cond_t rfl ?_
                refine AW.seq ?_
                refine AW.region [0] rfl ?_
                refine AO.ro rfl rfl (gOn_none rfl) (RO.assign rfl rfl) ?_
                refine AO.nil ?_
                refine AW.ret ?_
                refine ⟨[], [.d (.lit (.int .i64 2))], [], rfl, ⟨⟨_, rfl, .inl rfl⟩, rfl⟩, trivial, ?_⟩
                refine ⟨2, rfl, rfl, ?_⟩
                exact (mayE_bad (by omega) (by omega) (i := i) (by omega) (by omega)).symm
              · skip
                refine AO.ro rfl rfl (gOn_none rfl) (RO.pick_f rfl rfl rfl) ?_
                refine AO.nil ?_
                refine AW.cond_f rfl ?_
                refine AW.skip ?_
                refine AW.region [0, 0, 0] rfl ?_
                refine AO.ro rfl rfl (gOn_none rfl) (RO.move rfl rfl) ?_
                refine AO.ro rfl rfl (gOn_none rfl) (RO.add rfl rfl rfl (by omega)) ?_
                refine AO.ro rfl rfl (gOn_none rfl) (RO.assign rfl rfl) ?_
                refine AO.nil ?_
                refine ⟨i + 1, [], ?_, ?_, ⟨rfl, rfl, ⟨⟨_, rfl, .inl rfl⟩, ⟨⟨_, rfl, .inl rfl⟩, ⟨⟨_, rfl, .inl rfl⟩, ⟨⟨_, rfl, .inl rfl⟩, trivial⟩⟩⟩⟩, trivial⟩⟩
                · try dsimp only
                  exact ⟨by omega, below_succ h2 (by omega)⟩
                · try dsimp only
                  first | omega | (simp; done) | (simp_all; done) | (simp_all; omega)
          · skip
            refine AO.nil ?_
            refine AW.cond_f rfl ?_
            refine AW.exit ?_
            refine AW.seq ?_
            refine AW.region [0] rfl ?_
            refine AO.ro rfl rfl (gOn_none rfl) (RO.assign rfl rfl) ?_
            refine AO.nil ?_
            refine AW.ret ?_
            refine ⟨[], [.d (.lit (.int .i64 0))], [], rfl, ⟨⟨_, rfl, .inl rfl⟩, rfl⟩, trivial, ?_⟩
            refine ⟨0, rfl, rfl, ?_⟩
            exact (mayE_ok (by omega) (by omega) (fun j a b => h2 j a (by omega))).symm

theorem may_ok (letters : Int) (w : (List Int)) : Fc Try.prog 52 [.d (.lit (.int .i64 letters)), .d (enc (w : (List Int)))] [] (fun r h => ∃ (y : Int), r = .d (.lit (.int .i64 y)) ∧ h = [] ∧ (y = mayE letters w)) := by
  refine Fc.of_body Try.func52 rfl Try.ntmps52 (by simp) (fun F => ?_)
  refine (show AW _ _ _ (⟨30, 0, [(0, .d (.lit (.int .i64 letters))), (1, .d (enc (w : (List Int))))], []⟩ : St) _ from ?_)
  refine AW.fact 1 rfl (fun ln_w => ?_)
  replace ln_w : w.length * 8 ≤ 140737488355328 := ln_w
  refine AW.seq ?_
  refine AW.region [0] rfl ?_
  refine AO.ro rfl rfl (gOn_none rfl) (RO.assign rfl rfl) ?_
  refine AO.nil ?_
  refine AW.seq ?_
  refine AW.seq ?_
  refine AW.region [0, 0, 0, 0, 0, 0] rfl ?_
  refine AO.ro rfl rfl (gOn_none rfl) (RO.move rfl rfl) ?_
  refine AO.split rfl rfl (gOn_none rfl) (RO.lss rfl rfl rfl) (fun t1 => ?_) (fun t1 => ?_)
  · skip
    refine AO.ro rfl rfl (gOn_none rfl) (RO.move rfl rfl) ?_
    refine AO.skip rfl rfl ⟨9, true, rfl, rfl, rfl⟩ ?_
    refine AO.skip rfl rfl ⟨9, true, rfl, rfl, rfl⟩ ?_
    refine AO.ro rfl rfl (gOn_none rfl) (RO.pick_t rfl rfl rfl) ?_
    refine AO.nil ?_
    refine AW.cond_t rfl ?_
    refine AW.seq ?_
    refine AW.region [0] rfl ?_
    refine AO.ro rfl rfl (gOn_none rfl) (RO.assign rfl rfl) ?_
    refine AO.nil ?_
    refine AW.ret ?_
    refine ⟨[], [.d (.lit (.int .i64 2))], [], rfl, ⟨⟨_, rfl, .inl rfl⟩, rfl⟩, trivial, ?_⟩
    refine ⟨2, rfl, rfl, ?_⟩
    exact (mayE_range (by omega)).symm
  · skip
    refine AO.ro rfl rfl (gOn_none rfl) (RO.move rfl rfl) ?_
    refine AO.ro rfl rfl ⟨9, false, rfl, rfl, rfl⟩ (RO.move rfl rfl) ?_
    refine AO.split rfl rfl ⟨9, false, rfl, rfl, rfl⟩ (RO.gtr rfl rfl rfl) (fun t2 => ?_) (fun t2 => ?_)
    · skip
      refine AO.ro rfl rfl (gOn_none rfl) (RO.pick_f rfl rfl rfl) ?_
      refine AO.nil ?_
      refine AW.cond_t rfl ?_
      refine AW.seq ?_
      refine AW.region [0] rfl ?_
      refine AO.ro rfl rfl (gOn_none rfl) (RO.assign rfl rfl) ?_
      refine AO.nil ?_
      refine AW.ret ?_
      refine ⟨[], [.d (.lit (.int .i64 2))], [], rfl, ⟨⟨_, rfl, .inl rfl⟩, rfl⟩, trivial, ?_⟩
      refine ⟨2, rfl, rfl, ?_⟩
      exact (mayE_range (by omega)).symm
    · skip
      refine AO.ro rfl rfl (gOn_none rfl) (RO.pick_f rfl rfl rfl) ?_
      refine AO.nil ?_
      refine AW.cond_f rfl ?_
      refine AW.skip ?_
      refine AW.seq ?_
      refine AW.seq ?_
      refine AW.region [0, 0, 0] rfl ?_
      refine AO.ro rfl rfl (gOn_none rfl) (RO.move rfl rfl) ?_
      refine AO.ro rfl rfl (gOn_none rfl) (RO.len rfl Try.underlying26 rfl) ?_
      refine AO.split rfl rfl (gOn_none rfl) (RO.gtr rfl rfl rfl) (fun t3 => ?_) (fun t3 => ?_)
      · skip
        refine AO.nil ?_
        refine AW.cond_t rfl ?_
        refine AW.seq ?_
        refine AW.region [0] rfl ?_
        refine AO.ro rfl rfl (gOn_none rfl) (RO.assign rfl rfl) ?_
        refine AO.nil ?_
        refine AW.ret ?_
        refine ⟨[], [.d (.lit (.int .i64 1))], [], rfl, ⟨⟨_, rfl, .inl rfl⟩, rfl⟩, trivial, ?_⟩
        refine ⟨1, rfl, rfl, ?_⟩
        exact (mayE_size (by omega) (by omega)).symm
      · skip
        refine AO.nil ?_
        refine AW.cond_f rfl ?_
        refine AW.skip ?_
        refine AW.seq ?_
        refine AW.seq ?_
        refine AW.region [0, 0, 0] rfl ?_
        refine AO.ro rfl rfl (gOn_none rfl) (RO.move rfl rfl) ?_
        refine AO.ro rfl rfl (gOn_none rfl) (RO.len rfl Try.underlying26 rfl) ?_
        refine AO.ro rfl rfl (gOn_none rfl) (RO.move rfl rfl) ?_
        refine AO.nil ?_
        refine AW.block ?_
        refine AW.loop (mp := []) (X := Int) (fun xv => ⟨30, 0, [(0, .d (.lit (.int .i64 letters))), (4, .d (.lit (.int .i64 0))), (16, .d (enc (w : (List Int)))), (17, .d (.lit (.int .i64 ((w.length : Int))))), (18, .d (.lit (.int .i64 xv)))], []⟩) (fun xv => (0 ≤ xv ∧ xv ≤ w.length) ∧ (∀ j : Int, 0 ≤ j → j < xv → 0 ≤ ix w j ∧ ix w j < letters)) (fun xv => (w.length - xv).toNat) 0 ?_ ⟨rfl, rfl, ⟨⟨_, rfl, .inl rfl⟩, ⟨⟨_, rfl, .inl rfl⟩, ⟨⟨_, rfl, .inl rfl⟩, ⟨⟨_, rfl, .inl rfl⟩, ⟨⟨_, rfl, .inl rfl⟩, trivial⟩⟩⟩⟩⟩, trivial⟩ ?_
        · try dsimp only
          exact ⟨by omega, fun j a b => by omega⟩
        · skip
          intro i hx
          replace hx : (0 ≤ i ∧ i ≤ w.length) ∧ (∀ j : Int, 0 ≤ j → j < i → 0 ≤ ix w j ∧ ix w j < letters) := hx
          obtain ⟨h1, h2⟩ := hx
          refine (show AW _ _ _ (⟨30, 0, [(0, .d (.lit (.int .i64 letters))), (4, .d (.lit (.int .i64 0))), (16, .d (enc (w : (List Int)))), (17, .d (.lit (.int .i64 ((w.length : Int))))), (18, .d (.lit (.int .i64 i)))], []⟩ : St) _ from ?_)
          refine AW.seq ?_
          refine AW.region [0] rfl ?_
          refine AO.split rfl rfl (gOn_none rfl) (RO.lss rfl rfl rfl) (fun t4 => ?_) (fun t4 => ?_)
          · skip
            refine AO.nil ?_
            refine AW.seq ?_
            refine AW.cond_t rfl ?_
            refine AW.skip ?_
            refine AW.seq ?_
            refine AW.block ?_
            refine AW.seq ?_
            refine AW.region [0, 0, 0] rfl ?_
            refine AO.ro rfl rfl (gOn_none rfl) (RO.idx rfl Try.underlying26 ti3 rfl rfl (by omega)) ?_
            refine AO.ro rfl rfl (gOn_none rfl) (RO.ld_addr rfl Try.underlying3 rfl rfl rfl) ?_
            refine AO.ro rfl rfl (gOn_none rfl) (RO.assign rfl rfl) ?_
            refine AO.nil ?_
            refine AW.seq ?_
            refine AW.region [0, 0, 0, 0, 0, 0, 0] rfl ?_
            refine AO.ro rfl rfl (gOn_none rfl) (RO.move rfl rfl) ?_
            refine AO.split rfl rfl (gOn_none rfl) (RO.lss rfl rfl rfl) (fun t5 => ?_) (fun t5 => ?_)
            · skip
              refine AO.ro rfl rfl (gOn_none rfl) (RO.move rfl rfl) ?_
              refine AO.skip rfl rfl ⟨24, true, rfl, rfl, rfl⟩ ?_
              refine AO.skip rfl rfl ⟨24, true, rfl, rfl, rfl⟩ ?_
              refine AO.skip rfl rfl ⟨24, true, rfl, rfl, rfl⟩ ?_
              refine AO.ro rfl rfl (gOn_none rfl) (RO.pick_t rfl rfl rfl) ?_
              refine AO.nil ?_
              refine AW.cond_t rfl ?_
              refine AW.seq ?_
              refine AW.region [0] rfl ?_
              refine AO.ro rfl rfl (gOn_none rfl) (RO.assign rfl rfl) ?_
              refine AO.nil ?_
              refine AW.ret ?_
              refine ⟨[], [.d (.lit (.int .i64 2))], [], rfl, ⟨⟨_, rfl, .inl rfl⟩, rfl⟩, trivial, ?_⟩
              refine ⟨2, rfl, rfl, ?_⟩
              exact (mayE_bad (by omega) (by omega) (i := i) (by omega) (by omega)).symm
            · skip
              refine AO.ro rfl rfl (gOn_none rfl) (RO.move rfl rfl) ?_
              refine AO.ro rfl rfl ⟨24, false, rfl, rfl, rfl⟩ (RO.move rfl rfl) ?_
              refine AO.ro rfl rfl ⟨24, false, rfl, rfl, rfl⟩ (RO.move rfl rfl) ?_
              refine AO.split rfl rfl ⟨24, false, rfl, rfl, rfl⟩ (RO.geq rfl rfl rfl) (fun t6 => ?_) (fun t6 => ?_)
              · skip
                refine AO.ro rfl rfl (gOn_none rfl) (RO.pick_f rfl rfl rfl) ?_
                refine AO.nil ?_
                refine AW.cond_t rfl ?_
                refine AW.seq ?_
                refine AW.region [0] rfl ?_
                refine AO.ro rfl rfl (gOn_none rfl) (RO.assign rfl rfl) ?_
                refine AO.nil ?_
                refine AW.ret ?_
                refine ⟨[], [.d (.lit (.int .i64 2))], [], rfl, ⟨⟨_, rfl, .inl rfl⟩, rfl⟩, trivial, ?_⟩
                refine ⟨2, rfl, rfl, ?_⟩
                exact (mayE_bad (by omega) (by omega) (i := i) (by omega) (by omega)).symm
              · skip
                refine AO.ro rfl rfl (gOn_none rfl) (RO.pick_f rfl rfl rfl) ?_
                refine AO.nil ?_
                refine AW.cond_f rfl ?_
                refine AW.skip ?_
                refine AW.region [0, 0] rfl ?_
                refine AO.ro rfl rfl (gOn_none rfl) (RO.add rfl rfl rfl (by omega)) ?_
                refine AO.ro rfl rfl (gOn_none rfl) (RO.move rfl rfl) ?_
                refine AO.nil ?_
                refine ⟨i + 1, [], ?_, ?_, ⟨rfl, rfl, ⟨⟨_, rfl, .inl rfl⟩, ⟨⟨_, rfl, .inl rfl⟩, ⟨⟨_, rfl, .inl rfl⟩, ⟨⟨_, rfl, .inl rfl⟩, ⟨⟨_, rfl, .inl rfl⟩, trivial⟩⟩⟩⟩⟩, trivial⟩⟩
                · try dsimp only
                  exact ⟨by omega, below_succ h2 (by omega)⟩
                · try dsimp only
                  first | omega | (simp; done) | (simp_all; done) | (simp_all; omega)
          · skip
            refine AO.nil ?_
            refine AW.seq ?_
            refine AW.cond_f rfl ?_
            refine AW.exit ?_
            refine AW.seq ?_
            refine AW.region [0] rfl ?_
            refine AO.ro rfl rfl (gOn_none rfl) (RO.assign rfl rfl) ?_
            refine AO.nil ?_
            refine AW.ret ?_
            refine ⟨[], [.d (.lit (.int .i64 0))], [], rfl, ⟨⟨_, rfl, .inl rfl⟩, rfl⟩, trivial, ?_⟩
            refine ⟨0, rfl, rfl, ?_⟩
            exact (mayE_ok (by omega) (by omega) (fun j a b => h2 j a (by omega))).symm

def MBase (m : Morph) : Prop := 2 ≤ m.Base ∧ m.Base ≤ 4
def MSize (m : Morph) : Prop := 1 ≤ (m.Images.length : Int) ∧ (m.Images.length : Int) ≤ 4
def MShape (m : Morph) : Prop := (m.Coding.length : Int) = m.Images.length ∧ ∀ w ∈ m.Images, (w.length : Int) = m.Base
def MRow (m : Morph) (a : Int) : Prop := (∀ k : Int, 0 ≤ k → k < m.Base → 0 ≤ ix (ix m.Images a) k ∧ ix (ix m.Images a) k < m.Images.length) ∧ 0 ≤ ix m.Coding a ∧ ix m.Coding a ≤ 9
def MTab (m : Morph) : Prop := ∀ a : Int, 0 ≤ a → a < m.Images.length → MRow m a
def MZero (m : Morph) : Prop := ix (ix m.Images 0) 0 = 0
open Classical in
/-- The fault of a morphism. -/
noncomputable def morE (m : Morph) : Int := if ¬ MBase m then 2 else if ¬ MSize m then 1 else if ¬ MShape m then 3 else if ¬ MTab m then 2 else if ¬ MZero m then 3 else 0
structure MOK (m : Morph) : Prop where
  base : MBase m
  size : MSize m
  shape : MShape m
  tab : MTab m
  zero : MZero m
theorem mor_base {m : Morph} (h : ¬ MBase m) : morE m = 2 := if_pos h
theorem mor_size {m : Morph} (h1 : MBase m) (h : ¬ MSize m) : morE m = 1 := by unfold morE; rw [if_neg (not_not_intro h1), if_pos h]
theorem mor_shape {m : Morph} (h1 : MBase m) (h2 : MSize m) (h : ¬ MShape m) : morE m = 3 := by unfold morE; rw [if_neg (not_not_intro h1), if_neg (not_not_intro h2), if_pos h]
theorem mor_tab {m : Morph} (h1 : MBase m) (h2 : MSize m) (h3 : MShape m) (h : ¬ MTab m) : morE m = 2 := by unfold morE; rw [if_neg (not_not_intro h1), if_neg (not_not_intro h2), if_neg (not_not_intro h3), if_pos h]
theorem mor_zero {m : Morph} (h1 : MBase m) (h2 : MSize m) (h3 : MShape m) (h4 : MTab m) (h : ¬ MZero m) : morE m = 3 := by
  unfold morE; rw [if_neg (not_not_intro h1), if_neg (not_not_intro h2), if_neg (not_not_intro h3), if_neg (not_not_intro h4), if_pos h]
theorem mor_ok {m : Morph} (h1 : MBase m) (h2 : MSize m) (h3 : MShape m) (h4 : MTab m) (h : MZero m) : morE m = 0 := by
  unfold morE; rw [if_neg (not_not_intro h1), if_neg (not_not_intro h2), if_neg (not_not_intro h3), if_neg (not_not_intro h4), if_neg (not_not_intro h)]
theorem mor_of {m : Morph} (h : morE m = 0) : MOK m := by
  by_cases h1 : MBase m
  · by_cases h2 : MSize m
    · by_cases h3 : MShape m
      · by_cases h4 : MTab m
        · by_cases h5 : MZero m
          · exact ⟨h1, h2, h3, h4, h5⟩
          · rw [mor_zero h1 h2 h3 h4 h5] at h; omega
        · rw [mor_tab h1 h2 h3 h4] at h; omega
      · rw [mor_shape h1 h2 h3] at h; omega
    · rw [mor_size h1 h2] at h; omega
  · rw [mor_base h1] at h; omega
theorem MOK.len {m : Morph} (h : MOK m) {a : Int} (h0 : 0 ≤ a) (ha : a < m.Images.length) : ((ix m.Images a).length : Int) = m.Base := h.shape.2 _ (ix_mem h0 ha)
/-- The letter at a place. -/
def letF (m : Morph) : Nat → Int → Int
  | 0, _ => 0
  | f + 1, n => if n = 0 then 0 else ix (ix m.Images (letF m f (n / m.Base))) (n % m.Base)
def letT (m : Morph) (n : Int) : Int := letF m n.toNat n
theorem div_lt {n b : Int} (hn : 0 < n) (hb : 2 ≤ b) : 0 ≤ n / b ∧ n / b < n := ⟨Int.ediv_nonneg (by omega) (by omega), Int.ediv_lt_of_lt_mul (by omega) (by
  have : n * 2 ≤ n * b := Int.mul_le_mul_of_nonneg_left hb (by omega)
  omega)⟩
theorem letF_eq {m : Morph} (hb : 2 ≤ m.Base) : ∀ (f : Nat) (n : Int), 0 ≤ n → n.toNat ≤ f → letF m f n = letT m n
  | 0, n, h0, h => by
    have : n = 0 := by omega
    subst this; rfl
  | f + 1, n, h0, h => by
    by_cases hn : n = 0
    · subst hn; rfl
    · have hd := div_lt (n := n) (b := m.Base) (by omega) hb
      obtain ⟨k, hk⟩ : ∃ k, n.toNat = k + 1 := ⟨n.toNat - 1, by omega⟩
      unfold letT
      rw [hk]
      simp only [letF, if_neg hn]
      rw [letF_eq hb f _ hd.1 (by omega), letF_eq hb k _ hd.1 (by omega)]
theorem letT_zero {m : Morph} : letT m 0 = 0 := rfl
theorem letT_step {m : Morph} (hb : 2 ≤ m.Base) {n : Int} (hn : 0 < n) : letT m n = ix (ix m.Images (letT m (n / m.Base))) (n % m.Base) := by
  have hd := div_lt (n := n) (b := m.Base) (by omega) hb
  obtain ⟨k, hk⟩ : ∃ k, n.toNat = k + 1 := ⟨n.toNat - 1, by omega⟩
  show letF m n.toNat n = _
  rw [hk]
  simp only [letF, if_neg (show ¬ n = 0 by omega)]
  rw [letF_eq hb k _ hd.1 (by omega)]
theorem mod_in {n b : Int} (hb : 2 ≤ b) : 0 ≤ n % b ∧ n % b < b := ⟨Int.emod_nonneg _ (by omega), Int.emod_lt_of_pos _ (by omega)⟩
theorem letT_in {m : Morph} (h : MOK m) : ∀ (f : Nat) (n : Int), n.toNat ≤ f → 0 ≤ n → 0 ≤ letT m n ∧ letT m n < m.Images.length
  | 0, n, hf, h0 => by
    have : n = 0 := by omega
    subst this; rw [letT_zero]; have := h.size; unfold MSize at this; omega
  | f + 1, n, hf, h0 => by
    by_cases hn : n = 0
    · subst hn; rw [letT_zero]; have := h.size; unfold MSize at this; omega
    · have hb := h.base.1
      have hd := div_lt (n := n) (b := m.Base) (by omega) hb
      rw [letT_step hb (by omega)]
      have hi := letT_in h f (n / m.Base) (by omega) hd.1
      exact (h.tab _ hi.1 hi.2).1 _ (mod_in hb).1 (mod_in hb).2
theorem pow_le {a : Nat} {n : Int} (h : 2 ^ a ≤ n) (hn : n ≤ 9223372036854775807) : a ≤ 62 := by
  refine Nat.le_of_not_lt fun h2 => ?_
  have h3 : (2 : Nat) ^ 63 ≤ 2 ^ a := Nat.pow_le_pow_right (by omega) h2
  have h4 : ((2 ^ a : Nat) : Int) = 2 ^ a := by simp
  omega
theorem pow_half {a : Nat} {n k b : Int} (hk : 0 < k) (hb : 2 ≤ b) (h : 2 ^ a * k ≤ n) : 2 ^ (a + 1) * (k / b) ≤ n := by
  have h1 : b * (k / b) ≤ k := Int.mul_ediv_self_le (by omega)
  have h0 : 0 ≤ k / b := (div_lt hk hb).1
  have h2 : 2 * (k / b) ≤ b * (k / b) := Int.mul_le_mul_of_nonneg_right hb h0
  have h3 : (2 : Int) ^ a * (2 * (k / b)) ≤ 2 ^ a * k := Int.mul_le_mul_of_nonneg_left (by omega) (Int.le_of_lt (Int.pow_pos (by omega)))
  rw [Int.pow_succ, Int.mul_assoc]; omega
theorem pow_one_le {a : Nat} {n k : Int} (hk : 0 < k) (h : 2 ^ a * k ≤ n) : 2 ^ a ≤ n := by
  have : (2 : Int) ^ a * 1 ≤ 2 ^ a * k := Int.mul_le_mul_of_nonneg_left (by omega) (Int.le_of_lt (Int.pow_pos (by omega)))
  omega
def digs (m : Morph) (p : List Int) (a : Int) : Int := p.foldr (fun d a => ix (ix m.Images a) d) a
theorem digs_add {m : Morph} {p : List Int} {d a : Int} : digs m (p ++ [d]) a = digs m p (ix (ix m.Images a) d) := by simp [digs]
theorem mcheck1_ok (w : (List Int)) (m : Morph) : Fc Try.prog 61 [.d (enc (w : (List Int))), .addr (enc (m : Morph))] [] (fun r h => ∃ (y : Bool), r = .d (.lit (.bool y)) ∧ h = [] ∧ (y = decide ((w.length : Int) ≠ m.Base))) := by
  refine Fc.of_body Try.func61 rfl Try.ntmps61 (by simp) (fun F => ?_)
  refine (show AW _ _ _ (⟨9, 0, [(0, .d (enc (w : (List Int)))), (1, .addr (enc (m : Morph)))], []⟩ : St) _ from ?_)
  refine AW.fact 0 rfl (fun ln_w => ?_)
  replace ln_w : w.length * 8 ≤ 140737488355328 := ln_w
  refine AW.seq ?_
  refine AW.region [0] rfl ?_
  refine AO.ro rfl rfl (gOn_none rfl) (RO.assign rfl rfl) ?_
  refine AO.nil ?_
  refine AW.seq ?_
  refine AW.region [0, 0, 0, 0, 0, 0] rfl ?_
  refine AO.ro rfl rfl (gOn_none rfl) (RO.move rfl rfl) ?_
  refine AO.ro rfl rfl (gOn_none rfl) (RO.len rfl Try.underlying26 rfl) ?_
  refine AO.ro rfl rfl (gOn_none rfl) (RO.fld_addr rfl fa47_0 rfl rfl rfl) ?_
  refine AO.ro rfl rfl (gOn_none rfl) (RO.ld_addr rfl Try.underlying3 rfl rfl rfl) ?_
  refine AO.splitn rfl rfl (gOn_none rfl) (RO.neq rfl rfl rfl) (fun t1 => ?_) (fun t1 => ?_)
  · skip
    refine AO.ro rfl rfl (gOn_none rfl) (RO.assign rfl rfl) ?_
    refine AO.nil ?_
    refine AW.ret ?_
    refine ⟨[], [.d (.lit (.bool true))], [], rfl, ⟨⟨_, rfl, .inl rfl⟩, rfl⟩, trivial, ?_⟩
    refine ⟨true, rfl, rfl, ?_⟩
    first | omega | (simp; done) | (simp_all; done) | (simp_all; omega)
  · skip
    refine AO.ro rfl rfl (gOn_none rfl) (RO.assign rfl rfl) ?_
    refine AO.nil ?_
    refine AW.ret ?_
    refine ⟨[], [.d (.lit (.bool false))], [], rfl, ⟨⟨_, rfl, .inl rfl⟩, rfl⟩, trivial, ?_⟩
    refine ⟨false, rfl, rfl, ?_⟩
    first | omega | (simp; done) | (simp_all; done) | (simp_all; omega)

theorem mcheck2_ok (b : Int) (n : Int) : Fc Try.prog 62 [.d (.lit (.int .i64 b)), .addr (enc (n : Int))] [] (fun r h => ∃ (y : Bool), r = .d (.lit (.bool y)) ∧ h = [] ∧ (y = decide (b < 0 ∨ n ≤ b))) := by
  refine Fc.of_body Try.func62 rfl Try.ntmps62 (by simp) (fun F => ?_)
  refine (show AW _ _ _ (⟨11, 0, [(0, .d (.lit (.int .i64 b))), (1, .addr (enc (n : Int)))], []⟩ : St) _ from ?_)
  refine AW.seq ?_
  refine AW.region [0] rfl ?_
  refine AO.ro rfl rfl (gOn_none rfl) (RO.assign rfl rfl) ?_
  refine AO.nil ?_
  refine AW.seq ?_
  refine AW.region [0, 0, 0, 0, 0, 0, 0, 0] rfl ?_
  refine AO.ro rfl rfl (gOn_none rfl) (RO.move rfl rfl) ?_
  refine AO.split rfl rfl (gOn_none rfl) (RO.lss rfl rfl rfl) (fun t1 => ?_) (fun t1 => ?_)
  · skip
    refine AO.ro rfl rfl (gOn_none rfl) (RO.move rfl rfl) ?_
    refine AO.skip rfl rfl ⟨6, true, rfl, rfl, rfl⟩ ?_
    refine AO.skip rfl rfl ⟨6, true, rfl, rfl, rfl⟩ ?_
    refine AO.skip rfl rfl ⟨6, true, rfl, rfl, rfl⟩ ?_
    refine AO.ro rfl rfl (gOn_none rfl) (RO.pick_t rfl rfl rfl) ?_
    refine AO.ro rfl rfl (gOn_none rfl) (RO.assign rfl rfl) ?_
    refine AO.nil ?_
    refine AW.ret ?_
    refine ⟨[], [.d (.lit (.bool true))], [], rfl, ⟨⟨_, rfl, .inl rfl⟩, rfl⟩, trivial, ?_⟩
    refine ⟨true, rfl, rfl, ?_⟩
    simp; omega
  · skip
    refine AO.ro rfl rfl (gOn_none rfl) (RO.move rfl rfl) ?_
    refine AO.ro rfl rfl ⟨6, false, rfl, rfl, rfl⟩ (RO.move rfl rfl) ?_
    refine AO.ro rfl rfl ⟨6, false, rfl, rfl, rfl⟩ (RO.ld_addr rfl Try.underlying3 rfl rfl rfl) ?_
    refine AO.split rfl rfl ⟨6, false, rfl, rfl, rfl⟩ (RO.geq rfl rfl rfl) (fun t2 => ?_) (fun t2 => ?_)
    · skip
      refine AO.ro rfl rfl (gOn_none rfl) (RO.pick_f rfl rfl rfl) ?_
      refine AO.ro rfl rfl (gOn_none rfl) (RO.assign rfl rfl) ?_
      refine AO.nil ?_
      refine AW.ret ?_
      refine ⟨[], [.d (.lit (.bool true))], [], rfl, ⟨⟨_, rfl, .inl rfl⟩, rfl⟩, trivial, ?_⟩
      refine ⟨true, rfl, rfl, ?_⟩
      simp; omega
    · skip
      refine AO.ro rfl rfl (gOn_none rfl) (RO.pick_f rfl rfl rfl) ?_
      refine AO.ro rfl rfl (gOn_none rfl) (RO.assign rfl rfl) ?_
      refine AO.nil ?_
      refine AW.ret ?_
      refine ⟨[], [.d (.lit (.bool false))], [], rfl, ⟨⟨_, rfl, .inl rfl⟩, rfl⟩, trivial, ?_⟩
      refine ⟨false, rfl, rfl, ?_⟩
      simp; omega

theorem mcheck_ok (m : Morph) : Fc Try.prog 26 [.d (enc (m : Morph))] [] (fun r h => ∃ (e : Int), r = .d (.lit (.int .i64 e)) ∧ h = [] ∧ (e = morE m)) := by
  refine Fc.of_body Try.func26 rfl Try.ntmps26 (by simp) (fun F => ?_)
  refine (show AW _ _ _ (⟨69, 0, [(0, .d (enc (m : Morph)))], []⟩ : St) _ from ?_)
  refine AW.seq ?_
  refine AW.region [1, 0] rfl ?_
  refine AO.al1 (gOn_none rfl) (AL.box 0 rfl (by kernel_rfl) rfl rfl rfl rfl rfl) ?_
  refine AO.ro rfl rfl (gOn_none rfl) (RO.assign rfl rfl) ?_
  refine AO.nil ?_
  refine AW.seq ?_
  refine AW.seq ?_
  refine AW.region [0, 0, 0, 0, 0, 0, 0, 0] rfl ?_
  refine AO.ro rfl rfl (gOn_none rfl) (RO.fld_ptr rfl fa47_0 rfl) ?_
  refine AO.ro rfl rfl (gOn_none rfl) (RO.ld_ptr rfl Try.underlying3 rfl rfl rfl rfl) ?_
  refine AO.split rfl rfl (gOn_none rfl) (RO.lss rfl rfl rfl) (fun t1 => ?_) (fun t1 => ?_)
  · skip
    refine AO.ro rfl rfl (gOn_none rfl) (RO.move rfl rfl) ?_
    refine AO.skip rfl rfl ⟨9, true, rfl, rfl, rfl⟩ ?_
    refine AO.skip rfl rfl ⟨9, true, rfl, rfl, rfl⟩ ?_
    refine AO.skip rfl rfl ⟨9, true, rfl, rfl, rfl⟩ ?_
    refine AO.ro rfl rfl (gOn_none rfl) (RO.pick_t rfl rfl rfl) ?_
    refine AO.nil ?_
    refine AW.cond_t rfl ?_
    refine AW.seq ?_
    refine AW.region [0] rfl ?_
    refine AO.ro rfl rfl (gOn_none rfl) (RO.assign rfl rfl) ?_
    refine AO.nil ?_
    refine AW.ret ?_
    refine ⟨[], [.d (.lit (.int .i64 2))], [], rfl, ⟨⟨_, rfl, .inl rfl⟩, rfl⟩, trivial, ?_⟩
    refine ⟨2, rfl, rfl, ?_⟩
    first
    | exact (mor_base (by unfold MBase; omega)).symm
    | exact (mor_size (by unfold MBase; omega) (by unfold MSize; omega)).symm
    | exact (mor_shape (by unfold MBase; omega) (by unfold MSize; omega) (by unfold MShape; grind)).symm
  · skip
    refine AO.ro rfl rfl (gOn_none rfl) (RO.move rfl rfl) ?_
    refine AO.ro rfl rfl ⟨9, false, rfl, rfl, rfl⟩ (RO.fld_ptr rfl fa47_0 rfl) ?_
    refine AO.ro rfl rfl ⟨9, false, rfl, rfl, rfl⟩ (RO.ld_ptr rfl Try.underlying3 rfl rfl rfl rfl) ?_
    refine AO.split rfl rfl ⟨9, false, rfl, rfl, rfl⟩ (RO.gtr rfl rfl rfl) (fun t2 => ?_) (fun t2 => ?_)
    · skip
      refine AO.ro rfl rfl (gOn_none rfl) (RO.pick_f rfl rfl rfl) ?_
      refine AO.nil ?_
      refine AW.cond_t rfl ?_
      refine AW.seq ?_
      refine AW.region [0] rfl ?_
      refine AO.ro rfl rfl (gOn_none rfl) (RO.assign rfl rfl) ?_
      refine AO.nil ?_
      refine AW.ret ?_
      refine ⟨[], [.d (.lit (.int .i64 2))], [], rfl, ⟨⟨_, rfl, .inl rfl⟩, rfl⟩, trivial, ?_⟩
      refine ⟨2, rfl, rfl, ?_⟩
      first
      | exact (mor_base (by unfold MBase; omega)).symm
      | exact (mor_size (by unfold MBase; omega) (by unfold MSize; omega)).symm
      | exact (mor_shape (by unfold MBase; omega) (by unfold MSize; omega) (by unfold MShape; grind)).symm
    · skip
      refine AO.ro rfl rfl (gOn_none rfl) (RO.pick_f rfl rfl rfl) ?_
      refine AO.nil ?_
      refine AW.cond_f rfl ?_
      refine AW.skip ?_
      refine AW.seq ?_
      refine AW.region [0, 0, 0, 1, 2] rfl ?_
      refine AO.ro rfl rfl (gOn_none rfl) (RO.fld_ptr rfl fa47_1 rfl) ?_
      refine AO.ro rfl rfl (gOn_none rfl) (RO.ld_ptr rfl Try.underlying45 rfl rfl rfl rfl) ?_
      refine AO.fact 15 rfl (fun ln3 => ?_)
      replace ln3 : m.Images.length * 24 ≤ 140737488355328 := ln3
      refine AO.ro rfl rfl (gOn_none rfl) (RO.len rfl Try.underlying45 rfl) ?_
      refine AO.al1 (gOn_none rfl) (AL.alloc 1 rfl (by kernel_rfl) rfl rfl rfl ti3 rfl) ?_
      refine AO.ef1 (gOn_none rfl) (EF.st_ptr rfl rfl ti3 rfl rfl rfl rfl rfl rfl (by decide)) ?_
      refine AO.nil ?_
      refine AW.seq ?_
      refine AW.seq ?_
      refine AW.region [0, 0, 0, 0, 0, 0] rfl ?_
      refine AO.ro rfl rfl (gOn_none rfl) (RO.ld_ptr rfl Try.underlying3 rfl rfl rfl rfl) ?_
      refine AO.split rfl rfl (gOn_none rfl) (RO.lss rfl rfl rfl) (fun t4 => ?_) (fun t4 => ?_)
      · skip
        refine AO.ro rfl rfl (gOn_none rfl) (RO.move rfl rfl) ?_
        refine AO.skip rfl rfl ⟨19, true, rfl, rfl, rfl⟩ ?_
        refine AO.skip rfl rfl ⟨19, true, rfl, rfl, rfl⟩ ?_
        refine AO.ro rfl rfl (gOn_none rfl) (RO.pick_t rfl rfl rfl) ?_
        refine AO.nil ?_
        refine AW.cond_t rfl ?_
        refine AW.seq ?_
        refine AW.region [0] rfl ?_
        refine AO.ro rfl rfl (gOn_none rfl) (RO.assign rfl rfl) ?_
        refine AO.nil ?_
        refine AW.ret ?_
        refine ⟨[], [.d (.lit (.int .i64 1))], [], rfl, ⟨⟨_, rfl, .inl rfl⟩, rfl⟩, trivial, ?_⟩
        refine ⟨1, rfl, rfl, ?_⟩
        first
        | exact (mor_base (by unfold MBase; omega)).symm
        | exact (mor_size (by unfold MBase; omega) (by unfold MSize; omega)).symm
        | exact (mor_shape (by unfold MBase; omega) (by unfold MSize; omega) (by unfold MShape; grind)).symm
      · skip
        refine AO.ro rfl rfl (gOn_none rfl) (RO.move rfl rfl) ?_
        refine AO.ro rfl rfl ⟨19, false, rfl, rfl, rfl⟩ (RO.ld_ptr rfl Try.underlying3 rfl rfl rfl rfl) ?_
        refine AO.split rfl rfl ⟨19, false, rfl, rfl, rfl⟩ (RO.gtr rfl rfl rfl) (fun t5 => ?_) (fun t5 => ?_)
        · skip
          refine AO.ro rfl rfl (gOn_none rfl) (RO.pick_f rfl rfl rfl) ?_
          refine AO.nil ?_
          refine AW.cond_t rfl ?_
          refine AW.seq ?_
          refine AW.region [0] rfl ?_
          refine AO.ro rfl rfl (gOn_none rfl) (RO.assign rfl rfl) ?_
          refine AO.nil ?_
          refine AW.ret ?_
          refine ⟨[], [.d (.lit (.int .i64 1))], [], rfl, ⟨⟨_, rfl, .inl rfl⟩, rfl⟩, trivial, ?_⟩
          refine ⟨1, rfl, rfl, ?_⟩
          first
          | exact (mor_base (by unfold MBase; omega)).symm
          | exact (mor_size (by unfold MBase; omega) (by unfold MSize; omega)).symm
          | exact (mor_shape (by unfold MBase; omega) (by unfold MSize; omega) (by unfold MShape; grind)).symm
        · skip
          refine AO.ro rfl rfl (gOn_none rfl) (RO.pick_f rfl rfl rfl) ?_
          refine AO.nil ?_
          refine AW.cond_f rfl ?_
          refine AW.skip ?_
          refine AW.seq ?_
          refine AW.seq ?_
          refine AW.region [0, 0, 0, 0, 0, 0, 0, 0, 0, 1, 0] rfl ?_
          refine AO.ro rfl rfl (gOn_none rfl) (RO.fld_ptr rfl fa47_2 rfl) ?_
          refine AO.ro rfl rfl (gOn_none rfl) (RO.ld_ptr rfl Try.underlying26 rfl rfl rfl rfl) ?_
          refine AO.fact 24 rfl (fun ln6 => ?_)
          replace ln6 : m.Coding.length * 8 ≤ 140737488355328 := ln6
          refine AO.ro rfl rfl (gOn_none rfl) (RO.len rfl Try.underlying26 rfl) ?_
          refine AO.ro rfl rfl (gOn_none rfl) (RO.ld_ptr rfl Try.underlying3 rfl rfl rfl rfl) ?_
          refine AO.splitn rfl rfl (gOn_none rfl) (RO.neq rfl rfl rfl) (fun t7 => ?_) (fun t7 => ?_)
          · skip
            refine AO.ro rfl rfl (gOn_none rfl) (RO.move rfl rfl) ?_
            refine AO.skip rfl rfl ⟨28, true, rfl, rfl, rfl⟩ ?_
            refine AO.skip rfl rfl ⟨28, true, rfl, rfl, rfl⟩ ?_
            refine AO.skip rfl rfl ⟨28, true, rfl, rfl, rfl⟩ ?_
            refine AO.skip rfl rfl ⟨28, true, rfl, rfl, rfl⟩ ?_
            refine AO.ro rfl rfl (gOn_none rfl) (RO.pick_t rfl rfl rfl) ?_
            refine AO.nil ?_
            refine AW.cond_t rfl ?_
            refine AW.seq ?_
            refine AW.region [0] rfl ?_
            refine AO.ro rfl rfl (gOn_none rfl) (RO.assign rfl rfl) ?_
            refine AO.nil ?_
            refine AW.ret ?_
            refine ⟨[], [.d (.lit (.int .i64 3))], [], rfl, ⟨⟨_, rfl, .inl rfl⟩, rfl⟩, trivial, ?_⟩
            refine ⟨3, rfl, rfl, ?_⟩
            first
            | exact (mor_base (by unfold MBase; omega)).symm
            | exact (mor_size (by unfold MBase; omega) (by unfold MSize; omega)).symm
            | exact (mor_shape (by unfold MBase; omega) (by unfold MSize; omega) (by unfold MShape; grind)).symm
          · skip
            refine AO.ro rfl rfl (gOn_none rfl) (RO.move rfl rfl) ?_
            refine AO.ro rfl rfl ⟨28, false, rfl, rfl, rfl⟩ (RO.fld_ptr rfl fa47_1 rfl) ?_
            refine AO.ro rfl rfl ⟨28, false, rfl, rfl, rfl⟩ (RO.ld_ptr rfl Try.underlying45 rfl rfl rfl rfl) ?_
            refine AO.freezeB (enc (m : Morph)) 0 [1, 6, 10] rfl rfl ?_
            refine AO.ro rfl rfl ⟨28, false, rfl, rfl, rfl⟩ (RO.makeFunc (cs := [.addr (enc (m : Morph))]) rfl ⟨rfl, rfl⟩) ?_
            refine AO.callA («as» := [.d (enc (m.Images : (List (List Int)))), .fn 61 [.addr (enc (m : Morph))]]) ⟨28, false, rfl, rfl, rfl⟩ rfl rfl rfl rfl Try.call60 ⟨⟨_, rfl, rfl⟩, ⟨_, rfl, rfl⟩, rfl⟩ (ContainsFunc60_ok m.Images 61 [.addr (enc (m : Morph))] (fun (w : (List Int)) => decide ((w.length : Int) ≠ m.Base)) ⟨rfl, Try.call61⟩ (fun x0 => Fc.mono (mcheck1_ok x0 m) (by rintro _ _ ⟨_, rfl, rfl, hy⟩; first | (subst hy; exact ⟨rfl, rfl⟩) | exact ⟨by rw [hy], rfl⟩))) ?_
            rintro _ _ ⟨y8, rfl, rfl, c8⟩
            refine ⟨[], 2, .d (.lit (.bool y8)), [], rfl, trivial, rfl, ?_⟩
            refine AO.ro rfl rfl (gOn_none rfl) (RO.pick_f rfl rfl rfl) ?_
            refine AO.nil ?_
            refine AW.caseb 33 rfl (fun b9 => ?_) (fun b9 => ?_)
            · skip
              first | replace b9 := of_decide_eq_true (c8.symm.trans b9) | (replace b9 := List.any_eq_true.1 (c8.symm.trans b9); simp only [decide_eq_true_eq] at b9) | skip
              refine AW.cond_t rfl ?_
              refine AW.seq ?_
              refine AW.region [0] rfl ?_
              refine AO.ro rfl rfl (gOn_none rfl) (RO.assign rfl rfl) ?_
              refine AO.nil ?_
              refine AW.ret ?_
              refine ⟨[], [.d (.lit (.int .i64 3))], [], rfl, ⟨⟨_, rfl, .inl rfl⟩, rfl⟩, trivial, ?_⟩
              refine ⟨3, rfl, rfl, ?_⟩
              first
              | exact (mor_base (by unfold MBase; omega)).symm
              | exact (mor_size (by unfold MBase; omega) (by unfold MSize; omega)).symm
              | exact (mor_shape (by unfold MBase; omega) (by unfold MSize; omega) (by unfold MShape; grind)).symm
            · skip
              first | replace b9 := of_decide_eq_false (c8.symm.trans b9) | (replace b9 := List.any_eq_false.1 (c8.symm.trans b9); simp only [decide_eq_true_eq] at b9) | skip
              refine AW.cond_f rfl ?_
              refine AW.skip ?_
              refine AW.seq ?_
              refine AW.seq ?_
              refine AW.region [0, 0, 0, 0] rfl ?_
              refine AO.ro rfl rfl (gOn_none rfl) (RO.fld_addr rfl fa47_1 rfl rfl rfl) ?_
              refine AO.ro rfl rfl (gOn_none rfl) (RO.ld_addr rfl Try.underlying45 rfl rfl rfl) ?_
              refine AO.ro rfl rfl (gOn_none rfl) (RO.len rfl Try.underlying45 rfl) ?_
              refine AO.ro rfl rfl (gOn_none rfl) (RO.move rfl rfl) ?_
              refine AO.nil ?_
              refine AW.block ?_
              refine AW.freezeB (enc ((m.Images.length : Int) : Int)) 1 [3] rfl rfl ?_
              refine AW.loop (mp := []) (X := Int) (fun xv => ⟨69, 2, [(1, .addr (enc (m : Morph))), (2, .d (.lit (.int .i64 0))), (3, .addr (enc ((m.Images.length : Int) : Int))), (35, .d (enc (m.Images : (List (List Int))))), (36, .d (.lit (.int .i64 ((m.Images.length : Int))))), (37, .d (.lit (.int .i64 xv)))], []⟩) (fun xv => (0 ≤ xv ∧ xv ≤ m.Images.length) ∧ (∀ j : Int, 0 ≤ j → j < xv → MRow m j) ∧ (MBase m ∧ MSize m ∧ MShape m)) (fun xv => (m.Images.length - xv).toNat) 0 ?_ ⟨rfl, rfl, ⟨⟨_, rfl, .inl rfl⟩, ⟨⟨_, rfl, .inl rfl⟩, ⟨⟨_, rfl, .inl rfl⟩, ⟨⟨_, rfl, .inl rfl⟩, ⟨⟨_, rfl, .inl rfl⟩, ⟨⟨_, rfl, .inl rfl⟩, trivial⟩⟩⟩⟩⟩⟩, trivial⟩ ?_
              · try dsimp only
                exact ⟨by omega, fun j a b => by omega, by unfold MBase; omega, by unfold MSize; omega, by unfold MShape; grind⟩
              · skip
                intro a hx
                replace hx : (0 ≤ a ∧ a ≤ m.Images.length) ∧ (∀ j : Int, 0 ≤ j → j < a → MRow m j) ∧ (MBase m ∧ MSize m ∧ MShape m) := hx
                obtain ⟨h1, h2, h3⟩ := hx
                refine (show AW _ _ _ (⟨69, 2, [(1, .addr (enc (m : Morph))), (2, .d (.lit (.int .i64 0))), (3, .addr (enc ((m.Images.length : Int) : Int))), (35, .d (enc (m.Images : (List (List Int))))), (36, .d (.lit (.int .i64 ((m.Images.length : Int))))), (37, .d (.lit (.int .i64 a)))], []⟩ : St) _ from ?_)
                have h4 : a < m.Images.length → ((ix m.Images a).length : Int) = m.Base := fun h => h3.2.2.2 _ (ix_mem h1.1 h)
                have h5 := h3.2.2.1
                have h6 := h3.2.1.1
                have h7 := h3.1.1
                have h8 : ((ix m.Images 0).length : Int) = m.Base := h3.2.2.2 _ (ix_mem (by omega) (by omega))
                refine AW.seq ?_
                refine AW.region [0] rfl ?_
                refine AO.split rfl rfl (gOn_none rfl) (RO.lss rfl rfl rfl) (fun t10 => ?_) (fun t10 => ?_)
                · skip
                  refine AO.nil ?_
                  refine AW.seq ?_
                  refine AW.cond_t rfl ?_
                  refine AW.skip ?_
                  refine AW.seq ?_
                  refine AW.block ?_
                  refine AW.seq ?_
                  refine AW.region [0, 0, 0, 0, 0] rfl ?_
                  refine AO.ro rfl rfl (gOn_none rfl) (RO.move rfl rfl) ?_
                  refine AO.ro rfl rfl (gOn_none rfl) (RO.idx rfl Try.underlying45 ti26 rfl rfl (by omega)) ?_
                  refine AO.ro rfl rfl (gOn_none rfl) (RO.ld_addr rfl Try.underlying26 rfl rfl rfl) ?_
                  refine AO.ro rfl rfl (gOn_none rfl) (RO.assign rfl rfl) ?_
                  refine AO.ro rfl rfl (gOn_none rfl) (RO.assign rfl rfl) ?_
                  refine AO.nil ?_
                  refine AW.seq ?_
                  refine AW.region [0, 0, 1, 0, 0, 0, 0, 0, 0, 0, 0, 0, 0, 0, 0, 0, 0, 0, 0] rfl ?_
                  refine AO.ro rfl rfl (gOn_none rfl) (RO.move rfl rfl) ?_
                  refine AO.ro rfl rfl (gOn_none rfl) (RO.makeFunc (cs := [.addr (enc ((m.Images.length : Int) : Int))]) rfl ⟨rfl, rfl⟩) ?_
                  refine AO.callA («as» := [.d (enc (ix m.Images a : (List Int))), .fn 62 [.addr (enc ((m.Images.length : Int) : Int))]]) (gOn_none rfl) rfl rfl rfl rfl Try.call58 ⟨⟨_, rfl, rfl⟩, ⟨_, rfl, rfl⟩, rfl⟩ (ContainsFunc58_ok (ix m.Images a) 62 [.addr (enc ((m.Images.length : Int) : Int))] (fun (b : Int) => decide (b < 0 ∨ ((m.Images.length : Int)) ≤ b)) ⟨rfl, Try.call62⟩ (fun x0 => Fc.mono (mcheck2_ok x0 ((m.Images.length : Int))) (by rintro _ _ ⟨_, rfl, rfl, hy⟩; first | (subst hy; exact ⟨rfl, rfl⟩) | exact ⟨by rw [hy], rfl⟩))) ?_
                  rintro _ _ ⟨y11, rfl, rfl, c11⟩
                  refine ⟨[], 2, .d (.lit (.bool y11)), [], rfl, trivial, rfl, ?_⟩
                  refine AO.ro rfl rfl (gOn_none rfl) (RO.move rfl rfl) ?_
                  refine AO.caseb 45 rfl (fun b12 => ?_) (fun b12 => ?_)
                  · skip
                    first | replace b12 := of_decide_eq_true (c11.symm.trans b12) | (replace b12 := List.any_eq_true.1 (c11.symm.trans b12); simp only [decide_eq_true_eq] at b12) | skip
                    refine AO.skip rfl rfl ⟨45, true, rfl, rfl, rfl⟩ ?_
                    refine AO.skip rfl rfl ⟨45, true, rfl, rfl, rfl⟩ ?_
                    refine AO.skip rfl rfl ⟨45, true, rfl, rfl, rfl⟩ ?_
                    refine AO.skip rfl rfl ⟨45, true, rfl, rfl, rfl⟩ ?_
                    refine AO.skip rfl rfl ⟨45, true, rfl, rfl, rfl⟩ ?_
                    refine AO.skip rfl rfl ⟨45, true, rfl, rfl, rfl⟩ ?_
                    refine AO.ro rfl rfl (gOn_none rfl) (RO.pick_t rfl rfl rfl) ?_
                    refine AO.ro rfl rfl (gOn_none rfl) (RO.move rfl rfl) ?_
                    refine AO.skip rfl rfl ⟨53, true, rfl, rfl, rfl⟩ ?_
                    refine AO.skip rfl rfl ⟨53, true, rfl, rfl, rfl⟩ ?_
                    refine AO.skip rfl rfl ⟨53, true, rfl, rfl, rfl⟩ ?_
                    refine AO.skip rfl rfl ⟨53, true, rfl, rfl, rfl⟩ ?_
                    refine AO.skip rfl rfl ⟨53, true, rfl, rfl, rfl⟩ ?_
                    refine AO.skip rfl rfl ⟨53, true, rfl, rfl, rfl⟩ ?_
                    refine AO.ro rfl rfl (gOn_none rfl) (RO.pick_t rfl rfl rfl) ?_
                    refine AO.nil ?_
                    refine AW.cond_t rfl ?_
                    refine AW.seq ?_
                    refine AW.region [0] rfl ?_
                    refine AO.ro rfl rfl (gOn_none rfl) (RO.assign rfl rfl) ?_
                    refine AO.nil ?_
                    refine AW.ret ?_
                    refine ⟨[], [.d (.lit (.int .i64 2))], [], rfl, ⟨⟨_, rfl, .inl rfl⟩, rfl⟩, trivial, ?_⟩
                    refine ⟨2, rfl, rfl, ?_⟩
                    refine (mor_tab h3.1 h3.2.1 h3.2.2 fun ht => ?_).symm
                    have hr := ht a (by omega) (by omega)
                    have hr1 := hr.2
                    first
                    | omega
                    | (obtain ⟨x, hx, hb⟩ := ‹∃ x, x ∈ ix m.Images a ∧ _›
                       obtain ⟨k, k0, k1, rfl⟩ := mem_ix hx
                       have := hr.1 k k0 (by omega)
                       omega)
                  · skip
                    first | replace b12 := of_decide_eq_false (c11.symm.trans b12) | (replace b12 := List.any_eq_false.1 (c11.symm.trans b12); simp only [decide_eq_true_eq] at b12) | skip
                    refine AO.ro rfl rfl ⟨45, false, rfl, rfl, rfl⟩ (RO.fld_addr rfl fa47_2 rfl rfl rfl) ?_
                    refine AO.ro rfl rfl ⟨45, false, rfl, rfl, rfl⟩ (RO.ld_addr rfl Try.underlying26 rfl rfl rfl) ?_
                    refine AO.ro rfl rfl ⟨45, false, rfl, rfl, rfl⟩ (RO.move rfl rfl) ?_
                    refine AO.ro rfl rfl ⟨45, false, rfl, rfl, rfl⟩ (RO.idx rfl Try.underlying26 ti3 rfl rfl (by omega)) ?_
                    refine AO.ro rfl rfl ⟨45, false, rfl, rfl, rfl⟩ (RO.ld_addr rfl Try.underlying3 rfl rfl rfl) ?_
                    refine AO.split rfl rfl ⟨45, false, rfl, rfl, rfl⟩ (RO.lss rfl rfl rfl) (fun t13 => ?_) (fun t13 => ?_)
                    · skip
                      refine AO.ro rfl rfl (gOn_none rfl) (RO.pick_f rfl rfl rfl) ?_
                      refine AO.ro rfl rfl (gOn_none rfl) (RO.move rfl rfl) ?_
                      refine AO.skip rfl rfl ⟨53, true, rfl, rfl, rfl⟩ ?_
                      refine AO.skip rfl rfl ⟨53, true, rfl, rfl, rfl⟩ ?_
                      refine AO.skip rfl rfl ⟨53, true, rfl, rfl, rfl⟩ ?_
                      refine AO.skip rfl rfl ⟨53, true, rfl, rfl, rfl⟩ ?_
                      refine AO.skip rfl rfl ⟨53, true, rfl, rfl, rfl⟩ ?_
                      refine AO.skip rfl rfl ⟨53, true, rfl, rfl, rfl⟩ ?_
                      refine AO.ro rfl rfl (gOn_none rfl) (RO.pick_t rfl rfl rfl) ?_
                      refine AO.nil ?_
                      refine AW.cond_t rfl ?_
                      refine AW.seq ?_
                      refine AW.region [0] rfl ?_
                      refine AO.ro rfl rfl (gOn_none rfl) (RO.assign rfl rfl) ?_
                      refine AO.nil ?_
                      refine AW.ret ?_
                      refine ⟨[], [.d (.lit (.int .i64 2))], [], rfl, ⟨⟨_, rfl, .inl rfl⟩, rfl⟩, trivial, ?_⟩
                      refine ⟨2, rfl, rfl, ?_⟩
                      refine (mor_tab h3.1 h3.2.1 h3.2.2 fun ht => ?_).symm
                      have hr := ht a (by omega) (by omega)
                      have hr1 := hr.2
                      first
                      | omega
                      | (obtain ⟨x, hx, hb⟩ := ‹∃ x, x ∈ ix m.Images a ∧ _›
                         obtain ⟨k, k0, k1, rfl⟩ := mem_ix hx
                         have := hr.1 k k0 (by omega)
                         omega)
                    · skip
                      refine AO.ro rfl rfl (gOn_none rfl) (RO.pick_f rfl rfl rfl) ?_
                      refine AO.ro rfl rfl (gOn_none rfl) (RO.move rfl rfl) ?_
                      refine AO.ro rfl rfl ⟨53, false, rfl, rfl, rfl⟩ (RO.fld_addr rfl fa47_2 rfl rfl rfl) ?_
                      refine AO.ro rfl rfl ⟨53, false, rfl, rfl, rfl⟩ (RO.ld_addr rfl Try.underlying26 rfl rfl rfl) ?_
                      refine AO.ro rfl rfl ⟨53, false, rfl, rfl, rfl⟩ (RO.move rfl rfl) ?_
                      refine AO.ro rfl rfl ⟨53, false, rfl, rfl, rfl⟩ (RO.idx rfl Try.underlying26 ti3 rfl rfl (by omega)) ?_
                      refine AO.ro rfl rfl ⟨53, false, rfl, rfl, rfl⟩ (RO.ld_addr rfl Try.underlying3 rfl rfl rfl) ?_
                      refine AO.split rfl rfl ⟨53, false, rfl, rfl, rfl⟩ (RO.gtr rfl rfl rfl) (fun t14 => ?_) (fun t14 => ?_)
                      · skip
                        refine AO.ro rfl rfl (gOn_none rfl) (RO.pick_f rfl rfl rfl) ?_
                        refine AO.nil ?_
                        refine AW.cond_t rfl ?_
                        refine AW.seq ?_
                        refine AW.region [0] rfl ?_
                        refine AO.ro rfl rfl (gOn_none rfl) (RO.assign rfl rfl) ?_
                        refine AO.nil ?_
                        refine AW.ret ?_
                        refine ⟨[], [.d (.lit (.int .i64 2))], [], rfl, ⟨⟨_, rfl, .inl rfl⟩, rfl⟩, trivial, ?_⟩
                        refine ⟨2, rfl, rfl, ?_⟩
                        refine (mor_tab h3.1 h3.2.1 h3.2.2 fun ht => ?_).symm
                        have hr := ht a (by omega) (by omega)
                        have hr1 := hr.2
                        first
                        | omega
                        | (obtain ⟨x, hx, hb⟩ := ‹∃ x, x ∈ ix m.Images a ∧ _›
                           obtain ⟨k, k0, k1, rfl⟩ := mem_ix hx
                           have := hr.1 k k0 (by omega)
                           omega)
                      · skip
                        refine AO.ro rfl rfl (gOn_none rfl) (RO.pick_f rfl rfl rfl) ?_
                        refine AO.nil ?_
                        refine AW.cond_f rfl ?_
                        refine AW.skip ?_
                        refine AW.region [0, 0] rfl ?_
                        refine AO.ro rfl rfl (gOn_none rfl) (RO.add rfl rfl rfl (by omega)) ?_
                        refine AO.ro rfl rfl (gOn_none rfl) (RO.move rfl rfl) ?_
                        refine AO.nil ?_
                        refine ⟨a + 1, [], ?_, ?_, ⟨rfl, rfl, ⟨⟨_, rfl, .inl rfl⟩, ⟨⟨_, rfl, .inl rfl⟩, ⟨⟨_, rfl, .inl rfl⟩, ⟨⟨_, rfl, .inl rfl⟩, ⟨⟨_, rfl, .inl rfl⟩, ⟨⟨_, rfl, .inl rfl⟩, trivial⟩⟩⟩⟩⟩⟩, trivial⟩⟩
                        · try dsimp only
                          refine ⟨by omega, below_succ h2 ⟨fun k k0 k1 => ?_, by omega, by omega⟩, h3⟩
                          have hm : ix (ix m.Images a) k ∈ ix m.Images a := ix_mem k0 (by omega)
                          grind
                        · try dsimp only
                          first | omega | (simp; done) | (simp_all; done) | (simp_all; omega)
                · skip
                  refine AO.nil ?_
                  refine AW.seq ?_
                  refine AW.cond_f rfl ?_
                  refine AW.exit ?_
                  refine AW.seq ?_
                  refine AW.seq ?_
                  refine AW.region [0, 0, 0, 0, 0, 0, 0] rfl ?_
                  refine AO.ro rfl rfl (gOn_none rfl) (RO.fld_addr rfl fa47_1 rfl rfl rfl) ?_
                  refine AO.ro rfl rfl (gOn_none rfl) (RO.ld_addr rfl Try.underlying45 rfl rfl rfl) ?_
                  refine AO.ro rfl rfl (gOn_none rfl) (RO.idx rfl Try.underlying45 ti26 rfl rfl (by omega)) ?_
                  refine AO.ro rfl rfl (gOn_none rfl) (RO.ld_addr rfl Try.underlying26 rfl rfl rfl) ?_
                  refine AO.ro rfl rfl (gOn_none rfl) (RO.idx rfl Try.underlying26 ti3 rfl rfl (by omega)) ?_
                  refine AO.ro rfl rfl (gOn_none rfl) (RO.ld_addr rfl Try.underlying3 rfl rfl rfl) ?_
                  refine AO.splitn rfl rfl (gOn_none rfl) (RO.neq rfl rfl rfl) (fun t15 => ?_) (fun t15 => ?_)
                  · skip
                    refine AO.nil ?_
                    refine AW.cond_t rfl ?_
                    refine AW.seq ?_
                    refine AW.region [0] rfl ?_
                    refine AO.ro rfl rfl (gOn_none rfl) (RO.assign rfl rfl) ?_
                    refine AO.nil ?_
                    refine AW.ret ?_
                    refine ⟨[], [.d (.lit (.int .i64 3))], [], rfl, ⟨⟨_, rfl, .inl rfl⟩, rfl⟩, trivial, ?_⟩
                    refine ⟨3, rfl, rfl, ?_⟩
                    have ht : MTab m := fun j a b => h2 j a (by omega)
                    first
                    | exact (mor_zero h3.1 h3.2.1 h3.2.2 ht (by assumption)).symm
                    | exact (mor_ok h3.1 h3.2.1 h3.2.2 ht (by assumption)).symm
                  · skip
                    refine AO.nil ?_
                    refine AW.cond_f rfl ?_
                    refine AW.skip ?_
                    refine AW.seq ?_
                    refine AW.region [0] rfl ?_
                    refine AO.ro rfl rfl (gOn_none rfl) (RO.assign rfl rfl) ?_
                    refine AO.nil ?_
                    refine AW.ret ?_
                    refine ⟨[], [.d (.lit (.int .i64 0))], [], rfl, ⟨⟨_, rfl, .inl rfl⟩, rfl⟩, trivial, ?_⟩
                    refine ⟨0, rfl, rfl, ?_⟩
                    have ht : MTab m := fun j a b => h2 j a (by omega)
                    first
                    | exact (mor_zero h3.1 h3.2.1 h3.2.2 ht (by assumption)).symm
                    | exact (mor_ok h3.1 h3.2.1 h3.2.2 ht (by assumption)).symm

theorem mcheck23_ok (m : Morph) : Fc Try.prog 27 [.d (enc (m : Morph))] [] (fun r h => ∃ (e : Int), r = .d (.lit (.int .i64 e)) ∧ h = [] ∧ (e = morE m)) := by
  refine Fc.of_body Try.func27 rfl Try.ntmps27 (by simp) (fun F => ?_)
  refine (show AW _ _ _ (⟨96, 0, [(0, .d (enc (m : Morph)))], []⟩ : St) _ from ?_)
  refine AW.seq ?_
  refine AW.region [1, 0] rfl ?_
  refine AO.al1 (gOn_none rfl) (AL.box 0 rfl (by kernel_rfl) rfl rfl rfl rfl rfl) ?_
  refine AO.ro rfl rfl (gOn_none rfl) (RO.assign rfl rfl) ?_
  refine AO.nil ?_
  refine AW.seq ?_
  refine AW.seq ?_
  refine AW.region [0, 0, 0, 0, 0, 0, 0, 0] rfl ?_
  refine AO.ro rfl rfl (gOn_none rfl) (RO.fld_ptr rfl fa47_0 rfl) ?_
  refine AO.ro rfl rfl (gOn_none rfl) (RO.ld_ptr rfl Try.underlying3 rfl rfl rfl rfl) ?_
  refine AO.split rfl rfl (gOn_none rfl) (RO.lss rfl rfl rfl) (fun t1 => ?_) (fun t1 => ?_)
  · skip
    refine AO.ro rfl rfl (gOn_none rfl) (RO.move rfl rfl) ?_
    refine AO.skip rfl rfl ⟨10, true, rfl, rfl, rfl⟩ ?_
    refine AO.skip rfl rfl ⟨10, true, rfl, rfl, rfl⟩ ?_
    refine AO.skip rfl rfl ⟨10, true, rfl, rfl, rfl⟩ ?_
    refine AO.ro rfl rfl (gOn_none rfl) (RO.pick_t rfl rfl rfl) ?_
    refine AO.nil ?_
    refine AW.cond_t rfl ?_
    refine AW.seq ?_
    refine AW.region [0] rfl ?_
    refine AO.ro rfl rfl (gOn_none rfl) (RO.assign rfl rfl) ?_
    refine AO.nil ?_
    refine AW.ret ?_
    refine ⟨[], [.d (.lit (.int .i64 2))], [], rfl, ⟨⟨_, rfl, .inl rfl⟩, rfl⟩, trivial, ?_⟩
    refine ⟨2, rfl, rfl, ?_⟩
    first
    | exact (mor_base (by unfold MBase; omega)).symm
    | exact (mor_size (by unfold MBase; omega) (by unfold MSize; omega)).symm
    | exact (mor_shape (by unfold MBase; omega) (by unfold MSize; omega) (fun h => by have := h.1; omega)).symm
  · skip
    refine AO.ro rfl rfl (gOn_none rfl) (RO.move rfl rfl) ?_
    refine AO.ro rfl rfl ⟨10, false, rfl, rfl, rfl⟩ (RO.fld_ptr rfl fa47_0 rfl) ?_
    refine AO.ro rfl rfl ⟨10, false, rfl, rfl, rfl⟩ (RO.ld_ptr rfl Try.underlying3 rfl rfl rfl rfl) ?_
    refine AO.split rfl rfl ⟨10, false, rfl, rfl, rfl⟩ (RO.gtr rfl rfl rfl) (fun t2 => ?_) (fun t2 => ?_)
    · skip
      refine AO.ro rfl rfl (gOn_none rfl) (RO.pick_f rfl rfl rfl) ?_
      refine AO.nil ?_
      refine AW.cond_t rfl ?_
      refine AW.seq ?_
      refine AW.region [0] rfl ?_
      refine AO.ro rfl rfl (gOn_none rfl) (RO.assign rfl rfl) ?_
      refine AO.nil ?_
      refine AW.ret ?_
      refine ⟨[], [.d (.lit (.int .i64 2))], [], rfl, ⟨⟨_, rfl, .inl rfl⟩, rfl⟩, trivial, ?_⟩
      refine ⟨2, rfl, rfl, ?_⟩
      first
      | exact (mor_base (by unfold MBase; omega)).symm
      | exact (mor_size (by unfold MBase; omega) (by unfold MSize; omega)).symm
      | exact (mor_shape (by unfold MBase; omega) (by unfold MSize; omega) (fun h => by have := h.1; omega)).symm
    · skip
      refine AO.ro rfl rfl (gOn_none rfl) (RO.pick_f rfl rfl rfl) ?_
      refine AO.nil ?_
      refine AW.cond_f rfl ?_
      refine AW.skip ?_
      refine AW.seq ?_
      refine AW.region [0, 0, 0, 0] rfl ?_
      refine AO.ro rfl rfl (gOn_none rfl) (RO.fld_ptr rfl fa47_1 rfl) ?_
      refine AO.ro rfl rfl (gOn_none rfl) (RO.ld_ptr rfl Try.underlying45 rfl rfl rfl rfl) ?_
      refine AO.fact 16 rfl (fun ln3 => ?_)
      replace ln3 : m.Images.length * 24 ≤ 140737488355328 := ln3
      refine AO.ro rfl rfl (gOn_none rfl) (RO.len rfl Try.underlying45 rfl) ?_
      refine AO.ro rfl rfl (gOn_none rfl) (RO.assign rfl rfl) ?_
      refine AO.nil ?_
      refine AW.seq ?_
      refine AW.seq ?_
      refine AW.region [0, 0, 0, 0, 0, 0] rfl ?_
      refine AO.ro rfl rfl (gOn_none rfl) (RO.move rfl rfl) ?_
      refine AO.split rfl rfl (gOn_none rfl) (RO.lss rfl rfl rfl) (fun t4 => ?_) (fun t4 => ?_)
      · skip
        refine AO.ro rfl rfl (gOn_none rfl) (RO.move rfl rfl) ?_
        refine AO.skip rfl rfl ⟨20, true, rfl, rfl, rfl⟩ ?_
        refine AO.skip rfl rfl ⟨20, true, rfl, rfl, rfl⟩ ?_
        refine AO.ro rfl rfl (gOn_none rfl) (RO.pick_t rfl rfl rfl) ?_
        refine AO.nil ?_
        refine AW.cond_t rfl ?_
        refine AW.seq ?_
        refine AW.region [0] rfl ?_
        refine AO.ro rfl rfl (gOn_none rfl) (RO.assign rfl rfl) ?_
        refine AO.nil ?_
        refine AW.ret ?_
        refine ⟨[], [.d (.lit (.int .i64 1))], [], rfl, ⟨⟨_, rfl, .inl rfl⟩, rfl⟩, trivial, ?_⟩
        refine ⟨1, rfl, rfl, ?_⟩
        first
        | exact (mor_base (by unfold MBase; omega)).symm
        | exact (mor_size (by unfold MBase; omega) (by unfold MSize; omega)).symm
        | exact (mor_shape (by unfold MBase; omega) (by unfold MSize; omega) (fun h => by have := h.1; omega)).symm
      · skip
        refine AO.ro rfl rfl (gOn_none rfl) (RO.move rfl rfl) ?_
        refine AO.ro rfl rfl ⟨20, false, rfl, rfl, rfl⟩ (RO.move rfl rfl) ?_
        refine AO.split rfl rfl ⟨20, false, rfl, rfl, rfl⟩ (RO.gtr rfl rfl rfl) (fun t5 => ?_) (fun t5 => ?_)
        · skip
          refine AO.ro rfl rfl (gOn_none rfl) (RO.pick_f rfl rfl rfl) ?_
          refine AO.nil ?_
          refine AW.cond_t rfl ?_
          refine AW.seq ?_
          refine AW.region [0] rfl ?_
          refine AO.ro rfl rfl (gOn_none rfl) (RO.assign rfl rfl) ?_
          refine AO.nil ?_
          refine AW.ret ?_
          refine ⟨[], [.d (.lit (.int .i64 1))], [], rfl, ⟨⟨_, rfl, .inl rfl⟩, rfl⟩, trivial, ?_⟩
          refine ⟨1, rfl, rfl, ?_⟩
          first
          | exact (mor_base (by unfold MBase; omega)).symm
          | exact (mor_size (by unfold MBase; omega) (by unfold MSize; omega)).symm
          | exact (mor_shape (by unfold MBase; omega) (by unfold MSize; omega) (fun h => by have := h.1; omega)).symm
        · skip
          refine AO.ro rfl rfl (gOn_none rfl) (RO.pick_f rfl rfl rfl) ?_
          refine AO.nil ?_
          refine AW.cond_f rfl ?_
          refine AW.skip ?_
          refine AW.seq ?_
          refine AW.seq ?_
          refine AW.region [0, 0, 0, 0, 0] rfl ?_
          refine AO.ro rfl rfl (gOn_none rfl) (RO.fld_ptr rfl fa47_2 rfl) ?_
          refine AO.ro rfl rfl (gOn_none rfl) (RO.ld_ptr rfl Try.underlying26 rfl rfl rfl rfl) ?_
          refine AO.fact 25 rfl (fun ln6 => ?_)
          replace ln6 : m.Coding.length * 8 ≤ 140737488355328 := ln6
          refine AO.ro rfl rfl (gOn_none rfl) (RO.len rfl Try.underlying26 rfl) ?_
          refine AO.ro rfl rfl (gOn_none rfl) (RO.move rfl rfl) ?_
          refine AO.splitn rfl rfl (gOn_none rfl) (RO.neq rfl rfl rfl) (fun t7 => ?_) (fun t7 => ?_)
          · skip
            refine AO.nil ?_
            refine AW.cond_t rfl ?_
            refine AW.seq ?_
            refine AW.region [0] rfl ?_
            refine AO.ro rfl rfl (gOn_none rfl) (RO.assign rfl rfl) ?_
            refine AO.nil ?_
            refine AW.ret ?_
            refine ⟨[], [.d (.lit (.int .i64 3))], [], rfl, ⟨⟨_, rfl, .inl rfl⟩, rfl⟩, trivial, ?_⟩
            refine ⟨3, rfl, rfl, ?_⟩
            first
            | exact (mor_base (by unfold MBase; omega)).symm
            | exact (mor_size (by unfold MBase; omega) (by unfold MSize; omega)).symm
            | exact (mor_shape (by unfold MBase; omega) (by unfold MSize; omega) (fun h => by have := h.1; omega)).symm
          · skip
            refine AO.nil ?_
            refine AW.cond_f rfl ?_
            refine AW.skip ?_
            refine AW.seq ?_
            refine AW.seq ?_
            refine AW.region [0] rfl ?_
            refine AO.ro rfl rfl (gOn_none rfl) (RO.assign rfl rfl) ?_
            refine AO.nil ?_
            refine AW.block ?_
            refine AW.loop (mp := [(0, some 0)]) (X := Int) (fun xv => ⟨96, 1, [(1, .ptr 0 0), (2, .d (.lit (.int .i64 0))), (3, .d (.lit (.int .i64 ((m.Images.length : Int))))), (4, .d (.lit (.int .i64 xv)))], [(0, some (Ent.box 47 [.d (.lit (.int .i64 m.Base)), .d (enc (m.Images : (List (List Int)))), .d (enc (m.Coding : (List Int)))]))]⟩) (fun xv => (0 ≤ xv ∧ xv ≤ m.Images.length) ∧ (∀ j : Int, 0 ≤ j → j < xv → ((ix m.Images j).length : Int) = m.Base)) (fun xv => (m.Images.length - xv).toNat) 0 ?_ ⟨rfl, rfl, ⟨⟨_, rfl, .inl rfl⟩, ⟨⟨_, rfl, .inl rfl⟩, ⟨⟨_, rfl, .inl rfl⟩, ⟨⟨_, rfl, .inl rfl⟩, trivial⟩⟩⟩⟩, ⟨⟨_, rfl, rfl⟩, trivial⟩⟩ ?_
            · try dsimp only
              exact ⟨by omega, fun j a b => by omega⟩
            · skip
              intro a hx
              replace hx : (0 ≤ a ∧ a ≤ m.Images.length) ∧ (∀ j : Int, 0 ≤ j → j < a → ((ix m.Images j).length : Int) = m.Base) := hx
              obtain ⟨h1, h2⟩ := hx
              refine (show AW _ _ _ (⟨96, 1, [(1, .ptr 0 0), (2, .d (.lit (.int .i64 0))), (3, .d (.lit (.int .i64 ((m.Images.length : Int))))), (4, .d (.lit (.int .i64 a)))], [(0, some (Ent.box 47 [.d (.lit (.int .i64 m.Base)), .d (enc (m.Images : (List (List Int)))), .d (enc (m.Coding : (List Int)))]))]⟩ : St) _ from ?_)
              refine AW.seq ?_
              refine AW.seq ?_
              refine AW.region [0, 0, 0] rfl ?_
              refine AO.ro rfl rfl (gOn_none rfl) (RO.move rfl rfl) ?_
              refine AO.ro rfl rfl (gOn_none rfl) (RO.move rfl rfl) ?_
              refine AO.split rfl rfl (gOn_none rfl) (RO.lss rfl rfl rfl) (fun t8 => ?_) (fun t8 => ?_)
              · skip
                refine AO.nil ?_
                refine AW.cond_t rfl ?_
                refine AW.skip ?_
                refine AW.seq ?_
                refine AW.block ?_
                refine AW.seq ?_
                refine AW.drawn [(0, 0), (0, 1), (0, 2), (0, 3), (0, 4), (0, 5), (0, 6), (0, 7), (0, 8)] (by kernel_rfl) (by kernel_rfl) ?_
                refine AO.ro rfl rfl (gOn_none rfl) (RO.fld_ptr rfl fa47_1 rfl) ?_
                refine AO.ro rfl rfl (gOn_none rfl) (RO.ld_ptr rfl Try.underlying45 rfl rfl rfl rfl) ?_
                refine AO.ro rfl rfl (gOn_none rfl) (RO.move rfl rfl) ?_
                refine AO.ro rfl rfl (gOn_none rfl) (RO.idx rfl Try.underlying45 ti26 rfl rfl (by omega)) ?_
                refine AO.ro rfl rfl (gOn_none rfl) (RO.ld_addr rfl Try.underlying26 rfl rfl rfl) ?_
                refine AO.fact 38 rfl (fun ln9 => ?_)
                replace ln9 : (ix m.Images a).length * 8 ≤ 140737488355328 := ln9
                refine AO.ro rfl rfl (gOn_none rfl) (RO.len rfl Try.underlying26 rfl) ?_
                refine AO.ro rfl rfl (gOn_none rfl) (RO.fld_ptr rfl fa47_0 rfl) ?_
                refine AO.ro rfl rfl (gOn_none rfl) (RO.ld_ptr rfl Try.underlying3 rfl rfl rfl rfl) ?_
                refine AO.splitn rfl rfl (gOn_none rfl) (RO.neq rfl rfl rfl) (fun t10 => ?_) (fun t10 => ?_)
                · skip
                  refine AO.nil ?_
                  refine AW.cond_t rfl ?_
                  refine AW.seq ?_
                  refine AW.region [0] rfl ?_
                  refine AO.ro rfl rfl (gOn_none rfl) (RO.assign rfl rfl) ?_
                  refine AO.nil ?_
                  refine AW.ret ?_
                  refine ⟨[], [.d (.lit (.int .i64 3))], [], rfl, ⟨⟨_, rfl, .inl rfl⟩, rfl⟩, trivial, ?_⟩
                  refine ⟨3, rfl, rfl, ?_⟩
                  exact (mor_shape (by unfold MBase; omega) (by unfold MSize; omega) (fun h => by have := h.2 _ (ix_mem (l := m.Images) (i := a) (by omega) (by omega)); omega)).symm
                · skip
                  refine AO.nil ?_
                  refine AW.cond_f rfl ?_
                  refine AW.skip ?_
                  refine AW.region [0, 0, 0] rfl ?_
                  refine AO.ro rfl rfl (gOn_none rfl) (RO.move rfl rfl) ?_
                  refine AO.ro rfl rfl (gOn_none rfl) (RO.add rfl rfl rfl (by omega)) ?_
                  refine AO.ro rfl rfl (gOn_none rfl) (RO.assign rfl rfl) ?_
                  refine AO.nil ?_
                  refine ⟨a + 1, [(0, some 0)], ?_, ?_, ⟨rfl, rfl, ⟨⟨_, rfl, .inl rfl⟩, ⟨⟨_, rfl, .inl rfl⟩, ⟨⟨_, rfl, .inl rfl⟩, ⟨⟨_, rfl, .inl rfl⟩, trivial⟩⟩⟩⟩, ⟨⟨_, rfl, rfl⟩, trivial⟩⟩⟩
                  · try dsimp only
                    exact ⟨by omega, below_succ h2 (by omega)⟩
                  · try dsimp only
                    first | omega | (simp; done) | (simp_all; done) | (simp_all; omega)
              · skip
                refine AO.nil ?_
                refine AW.cond_f rfl ?_
                refine AW.exit ?_
                refine AW.seq ?_
                refine AW.seq ?_
                refine AW.region [0] rfl ?_
                refine AO.ro rfl rfl (gOn_none rfl) (RO.assign rfl rfl) ?_
                refine AO.nil ?_
                refine AW.block ?_
                refine AW.loop (mp := [(0, some 0)]) (X := Int) (fun xv => ⟨96, 1, [(1, .ptr 0 0), (2, .d (.lit (.int .i64 0))), (3, .d (.lit (.int .i64 ((m.Images.length : Int))))), (5, .d (.lit (.int .i64 xv)))], [(0, some (Ent.box 47 [.d (.lit (.int .i64 m.Base)), .d (enc (m.Images : (List (List Int)))), .d (enc (m.Coding : (List Int)))]))]⟩) (fun xv => (0 ≤ xv ∧ xv ≤ m.Images.length) ∧ (∀ j : Int, 0 ≤ j → j < xv → MRow m j) ∧ (MBase m ∧ MSize m ∧ MShape m)) (fun xv => (m.Images.length - xv).toNat) 0 ?_ ⟨rfl, rfl, ⟨⟨_, rfl, .inl rfl⟩, ⟨⟨_, rfl, .inl rfl⟩, ⟨⟨_, rfl, .inl rfl⟩, ⟨⟨_, rfl, .inl rfl⟩, trivial⟩⟩⟩⟩, ⟨⟨_, rfl, rfl⟩, trivial⟩⟩ ?_
                · try dsimp only
                  refine ⟨by omega, fun j a b => by omega, by unfold MBase; omega, by unfold MSize; omega, by omega, forall_ix.2 fun j a b => h2 j a (by omega)⟩
                · skip
                  intro a hx
                  replace hx : (0 ≤ a ∧ a ≤ m.Images.length) ∧ (∀ j : Int, 0 ≤ j → j < a → MRow m j) ∧ (MBase m ∧ MSize m ∧ MShape m) := hx
                  obtain ⟨h1, h2, h3⟩ := hx
                  refine (show AW _ _ _ (⟨96, 1, [(1, .ptr 0 0), (2, .d (.lit (.int .i64 0))), (3, .d (.lit (.int .i64 ((m.Images.length : Int))))), (5, .d (.lit (.int .i64 a)))], [(0, some (Ent.box 47 [.d (.lit (.int .i64 m.Base)), .d (enc (m.Images : (List (List Int)))), .d (enc (m.Coding : (List Int)))]))]⟩ : St) _ from ?_)
                  have h4 : a < m.Images.length → ((ix m.Images a).length : Int) = m.Base := fun h => h3.2.2.2 _ (ix_mem h1.1 h)
                  have h5 := h3.2.2.1
                  have h6 := h3.2.1.1
                  have h7 := h3.1.1
                  have h8 : ((ix m.Images 0).length : Int) = m.Base := h3.2.2.2 _ (ix_mem (by omega) (by omega))
                  refine AW.seq ?_
                  refine AW.seq ?_
                  refine AW.region [0, 0, 0] rfl ?_
                  refine AO.ro rfl rfl (gOn_none rfl) (RO.move rfl rfl) ?_
                  refine AO.ro rfl rfl (gOn_none rfl) (RO.move rfl rfl) ?_
                  refine AO.split rfl rfl (gOn_none rfl) (RO.lss rfl rfl rfl) (fun t11 => ?_) (fun t11 => ?_)
                  · skip
                    refine AO.nil ?_
                    refine AW.cond_t rfl ?_
                    refine AW.skip ?_
                    refine AW.seq ?_
                    refine AW.block ?_
                    refine AW.seq ?_
                    refine AW.seq ?_
                    refine AW.region [0] rfl ?_
                    refine AO.ro rfl rfl (gOn_none rfl) (RO.assign rfl rfl) ?_
                    refine AO.nil ?_
                    refine AW.block ?_
                    refine AW.loop (mp := [(0, some 0)]) (X := Int) (fun xv => ⟨96, 1, [(1, .ptr 0 0), (2, .d (.lit (.int .i64 0))), (3, .d (.lit (.int .i64 ((m.Images.length : Int))))), (5, .d (.lit (.int .i64 a))), (6, .d (.lit (.int .i64 xv)))], [(0, some (Ent.box 47 [.d (.lit (.int .i64 m.Base)), .d (enc (m.Images : (List (List Int)))), .d (enc (m.Coding : (List Int)))]))]⟩) (fun xv => (0 ≤ xv ∧ xv ≤ m.Base) ∧ (∀ j : Int, 0 ≤ j → j < xv → 0 ≤ ix (ix m.Images a) j ∧ ix (ix m.Images a) j < m.Images.length)) (fun xv => (m.Base - xv).toNat) 0 ?_ ⟨rfl, rfl, ⟨⟨_, rfl, .inl rfl⟩, ⟨⟨_, rfl, .inl rfl⟩, ⟨⟨_, rfl, .inl rfl⟩, ⟨⟨_, rfl, .inl rfl⟩, ⟨⟨_, rfl, .inl rfl⟩, trivial⟩⟩⟩⟩⟩, ⟨⟨_, rfl, rfl⟩, trivial⟩⟩ ?_
                    · try dsimp only
                      exact ⟨by omega, fun j a b => by omega⟩
                    · skip
                      intro k hx
                      replace hx : (0 ≤ k ∧ k ≤ m.Base) ∧ (∀ j : Int, 0 ≤ j → j < k → 0 ≤ ix (ix m.Images a) j ∧ ix (ix m.Images a) j < m.Images.length) := hx
                      obtain ⟨g1, g2⟩ := hx
                      refine (show AW _ _ _ (⟨96, 1, [(1, .ptr 0 0), (2, .d (.lit (.int .i64 0))), (3, .d (.lit (.int .i64 ((m.Images.length : Int))))), (5, .d (.lit (.int .i64 a))), (6, .d (.lit (.int .i64 k)))], [(0, some (Ent.box 47 [.d (.lit (.int .i64 m.Base)), .d (enc (m.Images : (List (List Int)))), .d (enc (m.Coding : (List Int)))]))]⟩ : St) _ from ?_)
                      refine AW.seq ?_
                      refine AW.seq ?_
                      refine AW.region [0, 0, 0, 0] rfl ?_
                      refine AO.ro rfl rfl (gOn_none rfl) (RO.move rfl rfl) ?_
                      refine AO.ro rfl rfl (gOn_none rfl) (RO.fld_ptr rfl fa47_0 rfl) ?_
                      refine AO.ro rfl rfl (gOn_none rfl) (RO.ld_ptr rfl Try.underlying3 rfl rfl rfl rfl) ?_
                      refine AO.split rfl rfl (gOn_none rfl) (RO.lss rfl rfl rfl) (fun t12 => ?_) (fun t12 => ?_)
                      · skip
                        refine AO.nil ?_
                        refine AW.cond_t rfl ?_
                        refine AW.skip ?_
                        refine AW.seq ?_
                        refine AW.block ?_
                        refine AW.seq ?_
                        refine AW.region [0, 0, 0, 0, 0, 0, 0, 0, 0, 0, 0, 0, 0, 0, 0, 0, 0, 0, 0, 0, 0] rfl ?_
                        refine AO.ro rfl rfl (gOn_none rfl) (RO.fld_ptr rfl fa47_1 rfl) ?_
                        refine AO.ro rfl rfl (gOn_none rfl) (RO.ld_ptr rfl Try.underlying45 rfl rfl rfl rfl) ?_
                        refine AO.ro rfl rfl (gOn_none rfl) (RO.move rfl rfl) ?_
                        refine AO.ro rfl rfl (gOn_none rfl) (RO.idx rfl Try.underlying45 ti26 rfl rfl (by omega)) ?_
                        refine AO.ro rfl rfl (gOn_none rfl) (RO.ld_addr rfl Try.underlying26 rfl rfl rfl) ?_
                        refine AO.ro rfl rfl (gOn_none rfl) (RO.move rfl rfl) ?_
                        refine AO.ro rfl rfl (gOn_none rfl) (RO.idx rfl Try.underlying26 ti3 rfl rfl (by omega)) ?_
                        refine AO.ro rfl rfl (gOn_none rfl) (RO.ld_addr rfl Try.underlying3 rfl rfl rfl) ?_
                        refine AO.split rfl rfl (gOn_none rfl) (RO.lss rfl rfl rfl) (fun t13 => ?_) (fun t13 => ?_)
                        · skip
                          refine AO.ro rfl rfl (gOn_none rfl) (RO.move rfl rfl) ?_
                          refine AO.skip rfl rfl ⟨63, true, rfl, rfl, rfl⟩ ?_
                          refine AO.skip rfl rfl ⟨63, true, rfl, rfl, rfl⟩ ?_
                          refine AO.skip rfl rfl ⟨63, true, rfl, rfl, rfl⟩ ?_
                          refine AO.skip rfl rfl ⟨63, true, rfl, rfl, rfl⟩ ?_
                          refine AO.skip rfl rfl ⟨63, true, rfl, rfl, rfl⟩ ?_
                          refine AO.skip rfl rfl ⟨63, true, rfl, rfl, rfl⟩ ?_
                          refine AO.skip rfl rfl ⟨63, true, rfl, rfl, rfl⟩ ?_
                          refine AO.skip rfl rfl ⟨63, true, rfl, rfl, rfl⟩ ?_
                          refine AO.skip rfl rfl ⟨63, true, rfl, rfl, rfl⟩ ?_
                          refine AO.skip rfl rfl ⟨63, true, rfl, rfl, rfl⟩ ?_
                          refine AO.ro rfl rfl (gOn_none rfl) (RO.pick_t rfl rfl rfl) ?_
                          refine AO.nil ?_
                          refine AW.cond_t rfl ?_
                          refine AW.seq ?_
                          refine AW.region [0] rfl ?_
                          refine AO.ro rfl rfl (gOn_none rfl) (RO.assign rfl rfl) ?_
                          refine AO.nil ?_
                          refine AW.ret ?_
                          refine ⟨[], [.d (.lit (.int .i64 2))], [], rfl, ⟨⟨_, rfl, .inl rfl⟩, rfl⟩, trivial, ?_⟩
                          refine ⟨2, rfl, rfl, ?_⟩
                          refine (mor_tab h3.1 h3.2.1 h3.2.2 fun ht => ?_).symm
                          have := (ht a (by omega) (by omega))
                          first | (have := this.1 k (by omega) (by omega); omega) | (have := this.2; omega)
                        · skip
                          refine AO.ro rfl rfl (gOn_none rfl) (RO.move rfl rfl) ?_
                          refine AO.ro rfl rfl ⟨63, false, rfl, rfl, rfl⟩ (RO.fld_ptr rfl fa47_1 rfl) ?_
                          refine AO.ro rfl rfl ⟨63, false, rfl, rfl, rfl⟩ (RO.ld_ptr rfl Try.underlying45 rfl rfl rfl rfl) ?_
                          refine AO.ro rfl rfl ⟨63, false, rfl, rfl, rfl⟩ (RO.move rfl rfl) ?_
                          refine AO.ro rfl rfl ⟨63, false, rfl, rfl, rfl⟩ (RO.idx rfl Try.underlying45 ti26 rfl rfl (by omega)) ?_
                          refine AO.ro rfl rfl ⟨63, false, rfl, rfl, rfl⟩ (RO.ld_addr rfl Try.underlying26 rfl rfl rfl) ?_
                          refine AO.ro rfl rfl ⟨63, false, rfl, rfl, rfl⟩ (RO.move rfl rfl) ?_
                          refine AO.ro rfl rfl ⟨63, false, rfl, rfl, rfl⟩ (RO.idx rfl Try.underlying26 ti3 rfl rfl (by omega)) ?_
                          refine AO.ro rfl rfl ⟨63, false, rfl, rfl, rfl⟩ (RO.ld_addr rfl Try.underlying3 rfl rfl rfl) ?_
                          refine AO.ro rfl rfl ⟨63, false, rfl, rfl, rfl⟩ (RO.move rfl rfl) ?_
                          refine AO.split rfl rfl ⟨63, false, rfl, rfl, rfl⟩ (RO.geq rfl rfl rfl) (fun t14 => ?_) (fun t14 => ?_)
                          · skip
                            refine AO.ro rfl rfl (gOn_none rfl) (RO.pick_f rfl rfl rfl) ?_
                            refine AO.nil ?_
                            refine AW.cond_t rfl ?_
                            refine AW.seq ?_
                            refine AW.region [0] rfl ?_
                            refine AO.ro rfl rfl (gOn_none rfl) (RO.assign rfl rfl) ?_
                            refine AO.nil ?_
                            refine AW.ret ?_
                            refine ⟨[], [.d (.lit (.int .i64 2))], [], rfl, ⟨⟨_, rfl, .inl rfl⟩, rfl⟩, trivial, ?_⟩
                            refine ⟨2, rfl, rfl, ?_⟩
                            refine (mor_tab h3.1 h3.2.1 h3.2.2 fun ht => ?_).symm
                            have := (ht a (by omega) (by omega))
                            first | (have := this.1 k (by omega) (by omega); omega) | (have := this.2; omega)
                          · skip
                            refine AO.ro rfl rfl (gOn_none rfl) (RO.pick_f rfl rfl rfl) ?_
                            refine AO.nil ?_
                            refine AW.cond_f rfl ?_
                            refine AW.skip ?_
                            refine AW.region [0, 0, 0] rfl ?_
                            refine AO.ro rfl rfl (gOn_none rfl) (RO.move rfl rfl) ?_
                            refine AO.ro rfl rfl (gOn_none rfl) (RO.add rfl rfl rfl (by omega)) ?_
                            refine AO.ro rfl rfl (gOn_none rfl) (RO.assign rfl rfl) ?_
                            refine AO.nil ?_
                            refine ⟨k + 1, [(0, some 0)], ?_, ?_, ⟨rfl, rfl, ⟨⟨_, rfl, .inl rfl⟩, ⟨⟨_, rfl, .inl rfl⟩, ⟨⟨_, rfl, .inl rfl⟩, ⟨⟨_, rfl, .inl rfl⟩, ⟨⟨_, rfl, .inl rfl⟩, trivial⟩⟩⟩⟩⟩, ⟨⟨_, rfl, rfl⟩, trivial⟩⟩⟩
                            · try dsimp only
                              exact ⟨by omega, below_succ g2 (by omega)⟩
                            · try dsimp only
                              first | omega | (simp; done) | (simp_all; done) | (simp_all; omega)
                      · skip
                        refine AO.nil ?_
                        refine AW.cond_f rfl ?_
                        refine AW.exit ?_
                        refine AW.seq ?_
                        refine AW.region [0, 0, 0, 0, 0, 0, 0, 0, 0, 0, 0, 0, 0, 0] rfl ?_
                        refine AO.ro rfl rfl (gOn_none rfl) (RO.fld_ptr rfl fa47_2 rfl) ?_
                        refine AO.ro rfl rfl (gOn_none rfl) (RO.ld_ptr rfl Try.underlying26 rfl rfl rfl rfl) ?_
                        refine AO.ro rfl rfl (gOn_none rfl) (RO.move rfl rfl) ?_
                        refine AO.ro rfl rfl (gOn_none rfl) (RO.idx rfl Try.underlying26 ti3 rfl rfl (by omega)) ?_
                        refine AO.ro rfl rfl (gOn_none rfl) (RO.ld_addr rfl Try.underlying3 rfl rfl rfl) ?_
                        refine AO.split rfl rfl (gOn_none rfl) (RO.lss rfl rfl rfl) (fun t15 => ?_) (fun t15 => ?_)
                        · skip
                          refine AO.ro rfl rfl (gOn_none rfl) (RO.move rfl rfl) ?_
                          refine AO.skip rfl rfl ⟨81, true, rfl, rfl, rfl⟩ ?_
                          refine AO.skip rfl rfl ⟨81, true, rfl, rfl, rfl⟩ ?_
                          refine AO.skip rfl rfl ⟨81, true, rfl, rfl, rfl⟩ ?_
                          refine AO.skip rfl rfl ⟨81, true, rfl, rfl, rfl⟩ ?_
                          refine AO.skip rfl rfl ⟨81, true, rfl, rfl, rfl⟩ ?_
                          refine AO.skip rfl rfl ⟨81, true, rfl, rfl, rfl⟩ ?_
                          refine AO.ro rfl rfl (gOn_none rfl) (RO.pick_t rfl rfl rfl) ?_
                          refine AO.nil ?_
                          refine AW.cond_t rfl ?_
                          refine AW.seq ?_
                          refine AW.region [0] rfl ?_
                          refine AO.ro rfl rfl (gOn_none rfl) (RO.assign rfl rfl) ?_
                          refine AO.nil ?_
                          refine AW.ret ?_
                          refine ⟨[], [.d (.lit (.int .i64 2))], [], rfl, ⟨⟨_, rfl, .inl rfl⟩, rfl⟩, trivial, ?_⟩
                          refine ⟨2, rfl, rfl, ?_⟩
                          refine (mor_tab h3.1 h3.2.1 h3.2.2 fun ht => ?_).symm
                          have := (ht a (by omega) (by omega))
                          first | (have := this.1 k (by omega) (by omega); omega) | (have := this.2; omega)
                        · skip
                          refine AO.ro rfl rfl (gOn_none rfl) (RO.move rfl rfl) ?_
                          refine AO.ro rfl rfl ⟨81, false, rfl, rfl, rfl⟩ (RO.fld_ptr rfl fa47_2 rfl) ?_
                          refine AO.ro rfl rfl ⟨81, false, rfl, rfl, rfl⟩ (RO.ld_ptr rfl Try.underlying26 rfl rfl rfl rfl) ?_
                          refine AO.ro rfl rfl ⟨81, false, rfl, rfl, rfl⟩ (RO.move rfl rfl) ?_
                          refine AO.ro rfl rfl ⟨81, false, rfl, rfl, rfl⟩ (RO.idx rfl Try.underlying26 ti3 rfl rfl (by omega)) ?_
                          refine AO.ro rfl rfl ⟨81, false, rfl, rfl, rfl⟩ (RO.ld_addr rfl Try.underlying3 rfl rfl rfl) ?_
                          refine AO.split rfl rfl ⟨81, false, rfl, rfl, rfl⟩ (RO.gtr rfl rfl rfl) (fun t16 => ?_) (fun t16 => ?_)
                          · skip
                            refine AO.ro rfl rfl (gOn_none rfl) (RO.pick_f rfl rfl rfl) ?_
                            refine AO.nil ?_
                            refine AW.cond_t rfl ?_
                            refine AW.seq ?_
                            refine AW.region [0] rfl ?_
                            refine AO.ro rfl rfl (gOn_none rfl) (RO.assign rfl rfl) ?_
                            refine AO.nil ?_
                            refine AW.ret ?_
                            refine ⟨[], [.d (.lit (.int .i64 2))], [], rfl, ⟨⟨_, rfl, .inl rfl⟩, rfl⟩, trivial, ?_⟩
                            refine ⟨2, rfl, rfl, ?_⟩
                            refine (mor_tab h3.1 h3.2.1 h3.2.2 fun ht => ?_).symm
                            have := (ht a (by omega) (by omega))
                            first | (have := this.1 k (by omega) (by omega); omega) | (have := this.2; omega)
                          · skip
                            refine AO.ro rfl rfl (gOn_none rfl) (RO.pick_f rfl rfl rfl) ?_
                            refine AO.nil ?_
                            refine AW.cond_f rfl ?_
                            refine AW.skip ?_
                            refine AW.region [0, 0, 0] rfl ?_
                            refine AO.ro rfl rfl (gOn_none rfl) (RO.move rfl rfl) ?_
                            refine AO.ro rfl rfl (gOn_none rfl) (RO.add rfl rfl rfl (by omega)) ?_
                            refine AO.ro rfl rfl (gOn_none rfl) (RO.assign rfl rfl) ?_
                            refine AO.nil ?_
                            refine ⟨a + 1, [(0, some 0)], ?_, ?_, ⟨rfl, rfl, ⟨⟨_, rfl, .inl rfl⟩, ⟨⟨_, rfl, .inl rfl⟩, ⟨⟨_, rfl, .inl rfl⟩, ⟨⟨_, rfl, .inl rfl⟩, trivial⟩⟩⟩⟩, ⟨⟨_, rfl, rfl⟩, trivial⟩⟩⟩
                            · try dsimp only
                              exact ⟨by omega, below_succ h2 ⟨fun k k0 k1 => g2 k k0 (by omega), by omega, by omega⟩, h3⟩
                            · try dsimp only
                              first | omega | (simp; done) | (simp_all; done) | (simp_all; omega)
                  · skip
                    refine AO.nil ?_
                    refine AW.cond_f rfl ?_
                    refine AW.exit ?_
                    refine AW.seq ?_
                    refine AW.seq ?_
                    refine AW.region [0, 0, 0, 0, 0, 0, 0] rfl ?_
                    refine AO.ro rfl rfl (gOn_none rfl) (RO.fld_ptr rfl fa47_1 rfl) ?_
                    refine AO.ro rfl rfl (gOn_none rfl) (RO.ld_ptr rfl Try.underlying45 rfl rfl rfl rfl) ?_
                    refine AO.ro rfl rfl (gOn_none rfl) (RO.idx rfl Try.underlying45 ti26 rfl rfl (by omega)) ?_
                    refine AO.ro rfl rfl (gOn_none rfl) (RO.ld_addr rfl Try.underlying26 rfl rfl rfl) ?_
                    refine AO.ro rfl rfl (gOn_none rfl) (RO.idx rfl Try.underlying26 ti3 rfl rfl (by omega)) ?_
                    refine AO.ro rfl rfl (gOn_none rfl) (RO.ld_addr rfl Try.underlying3 rfl rfl rfl) ?_
                    refine AO.splitn rfl rfl (gOn_none rfl) (RO.neq rfl rfl rfl) (fun t17 => ?_) (fun t17 => ?_)
                    · skip
                      refine AO.nil ?_
                      refine AW.cond_t rfl ?_
                      refine AW.seq ?_
                      refine AW.region [0] rfl ?_
                      refine AO.ro rfl rfl (gOn_none rfl) (RO.assign rfl rfl) ?_
                      refine AO.nil ?_
                      refine AW.ret ?_
                      refine ⟨[], [.d (.lit (.int .i64 3))], [], rfl, ⟨⟨_, rfl, .inl rfl⟩, rfl⟩, trivial, ?_⟩
                      refine ⟨3, rfl, rfl, ?_⟩
                      have ht : MTab m := fun j a b => h2 j a (by omega)
                      first
                      | exact (mor_zero h3.1 h3.2.1 h3.2.2 ht (by assumption)).symm
                      | exact (mor_ok h3.1 h3.2.1 h3.2.2 ht (by assumption)).symm
                    · skip
                      refine AO.nil ?_
                      refine AW.cond_f rfl ?_
                      refine AW.skip ?_
                      refine AW.seq ?_
                      refine AW.region [0] rfl ?_
                      refine AO.ro rfl rfl (gOn_none rfl) (RO.assign rfl rfl) ?_
                      refine AO.nil ?_
                      refine AW.ret ?_
                      refine ⟨[], [.d (.lit (.int .i64 0))], [], rfl, ⟨⟨_, rfl, .inl rfl⟩, rfl⟩, trivial, ?_⟩
                      refine ⟨0, rfl, rfl, ?_⟩
                      have ht : MTab m := fun j a b => h2 j a (by omega)
                      first
                      | exact (mor_zero h3.1 h3.2.1 h3.2.2 ht (by assumption)).symm
                      | exact (mor_ok h3.1 h3.2.1 h3.2.2 ht (by assumption)).symm

theorem letter_ok_rec : ∀ (fuel : Nat) (m : Morph) (n : Int) (hm : MOK m) (hn : 0 ≤ n) (hx : n ≤ 9223372036854775807) (hfuel : n.toNat < fuel), Fc Try.prog 63 [.d (enc (m : Morph)), .d (.lit (.int .i64 n))] [] (fun r h => ∃ (y : Int), r = .d (.lit (.int .i64 y)) ∧ h = [] ∧ (y = letT m n)) := by
  intro fuel
  induction fuel with
  | zero => intro m n hm hn hx hfuel; omega
  | succ fuel ih =>
  intro m n hm hn hx hfuel
  refine Fc.of_body Try.func63 rfl Try.ntmps63 (by simp) (fun F => ?_)
  refine (show AW _ _ _ (⟨23, 0, [(0, .d (enc (m : Morph))), (1, .d (.lit (.int .i64 n)))], []⟩ : St) _ from ?_)
  have hb := hm.base.1
  have hd := fun h : 0 < n => div_lt (b := m.Base) h hb
  have hr := mod_in (n := n) hb
  have hq := fun h : 0 < n => letT_in hm _ _ (Nat.le_refl _) (hd h).1
  have hl := fun h : 0 < n => hm.len (hq h).1 (hq h).2
  refine AW.seq ?_
  refine AW.region [1, 0] rfl ?_
  refine AO.al1 (gOn_none rfl) (AL.box 0 rfl (by kernel_rfl) rfl rfl rfl rfl rfl) ?_
  refine AO.ro rfl rfl (gOn_none rfl) (RO.assign rfl rfl) ?_
  refine AO.nil ?_
  refine AW.seq ?_
  refine AW.seq ?_
  refine AW.region [0, 0] rfl ?_
  refine AO.ro rfl rfl (gOn_none rfl) (RO.move rfl rfl) ?_
  refine AO.split rfl rfl (gOn_none rfl) (RO.eql rfl rfl rfl) (fun t1 => ?_) (fun t1 => ?_)
  · skip
    refine AO.nil ?_
    refine AW.cond_t rfl ?_
    refine AW.seq ?_
    refine AW.region [0] rfl ?_
    refine AO.ro rfl rfl (gOn_none rfl) (RO.assign rfl rfl) ?_
    refine AO.nil ?_
    refine AW.ret ?_
    refine ⟨[], [.d (.lit (.int .i64 0))], [], rfl, ⟨⟨_, rfl, .inl rfl⟩, rfl⟩, trivial, ?_⟩
    refine ⟨0, rfl, rfl, ?_⟩
    subst_vars; rfl
  · skip
    refine AO.nil ?_
    refine AW.cond_f rfl ?_
    refine AW.skip ?_
    refine AW.seq ?_
    refine AW.drawn [(0, 0), (0, 1), (0, 2), (0, 3), (0, 4), (0, 5), (0, 6), (0, 10), (0, 11), (0, 12), (0, 13), (1, 7), (0, 8), (0, 9), (0, 14), (0, 15), (0, 16)] (by kernel_rfl) (by kernel_rfl) ?_
    refine AO.ro rfl rfl (gOn_none rfl) (RO.fld_ptr rfl fa47_1 rfl) ?_
    refine AO.ro rfl rfl (gOn_none rfl) (RO.ld_ptr rfl Try.underlying45 rfl rfl rfl rfl) ?_
    refine AO.ro rfl rfl (gOn_none rfl) (RO.ld_ptr_d (y := enc (m : Morph)) rfl ti47 rfl rfl rfl rfl rfl) ?_
    refine AO.ro rfl rfl (gOn_none rfl) (RO.move rfl rfl) ?_
    refine AO.ro rfl rfl (gOn_none rfl) (RO.fld_ptr rfl fa47_0 rfl) ?_
    refine AO.ro rfl rfl (gOn_none rfl) (RO.ld_ptr rfl Try.underlying3 rfl rfl rfl rfl) ?_
    refine AO.ro rfl rfl (gOn_none rfl) (RO.quo rfl rfl rfl (by omega) (by omega) (by omega)) ?_
    refine AO.ro rfl rfl (gOn_none rfl) (RO.move rfl rfl) ?_
    refine AO.ro rfl rfl (gOn_none rfl) (RO.fld_ptr rfl fa47_0 rfl) ?_
    refine AO.ro rfl rfl (gOn_none rfl) (RO.ld_ptr rfl Try.underlying3 rfl rfl rfl rfl) ?_
    refine AO.ro rfl rfl (gOn_none rfl) (RO.rem rfl rfl rfl (by omega) (by omega)) ?_
    refine AO.callA («as» := [.d (enc (m : Morph)), .d (.lit (.int .i64 (n / m.Base)))]) (gOn_none rfl) rfl rfl rfl rfl Try.call63 ⟨⟨_, rfl, rfl⟩, ⟨_, rfl, rfl⟩, rfl⟩ (ih m (n / m.Base) hm (hd (by omega)).1 (by have := hd (by omega); omega) (by have := hd (by omega); omega)) ?_
    rintro _ _ ⟨y2, rfl, rfl, c2⟩
    refine ⟨[], 1, .d (.lit (.int .i64 y2)), [], rfl, trivial, rfl, ?_⟩
    have hq := hq (by omega); have hl := hl (by omega); rw [← c2] at hq hl
    refine AO.ro rfl rfl (gOn_none rfl) (RO.idx rfl Try.underlying45 ti26 rfl rfl (by omega)) ?_
    refine AO.ro rfl rfl (gOn_none rfl) (RO.ld_addr rfl Try.underlying26 rfl rfl rfl) ?_
    refine AO.ro rfl rfl (gOn_none rfl) (RO.idx rfl Try.underlying26 ti3 rfl rfl (by omega)) ?_
    refine AO.ro rfl rfl (gOn_none rfl) (RO.ld_addr rfl Try.underlying3 rfl rfl rfl) ?_
    refine AO.ro rfl rfl (gOn_none rfl) (RO.assign rfl rfl) ?_
    refine AO.nil ?_
    refine AW.ret ?_
    refine ⟨[], [.d (.lit (.int .i64 (ix (ix m.Images y2) (n % m.Base))))], [], rfl, ⟨⟨_, rfl, .inl rfl⟩, rfl⟩, trivial, ?_⟩
    refine ⟨(ix (ix m.Images y2) (n % m.Base)), rfl, rfl, ?_⟩
    subst_vars; exact (letT_step hb (by omega)).symm
theorem letter_ok (m : Morph) (n : Int) (hm : MOK m) (hn : 0 ≤ n) (hx : n ≤ 9223372036854775807) : Fc Try.prog 63 [.d (enc (m : Morph)), .d (.lit (.int .i64 n))] [] (fun r h => ∃ (y : Int), r = .d (.lit (.int .i64 y)) ∧ h = [] ∧ (y = letT m n)) := letter_ok_rec _ m n hm hn hx (Nat.lt_succ_self _)

theorem at_ok (m : Morph) (n : Int) (hx : n ≤ 9223372036854775807) : Fc Try.prog 28 [.d (enc (m : Morph)), .d (.lit (.int .i64 n))] [] (fun r h => ∃ (y : Int) (e : Int), r = .tup [.d (.lit (.int .i64 y)), .d (.lit (.int .i64 e))] ∧ h = [] ∧ (e = (if morE m ≠ 0 then morE m else if n < 0 then 2 else 0) ∧ y = if morE m = 0 ∧ 0 ≤ n then ix m.Coding (letT m n) else 0)) := by
  refine Fc.of_body Try.func28 rfl Try.ntmps28 (by simp) (fun F => ?_)
  refine (show AW _ _ _ (⟨21, 0, [(0, .d (enc (m : Morph))), (1, .d (.lit (.int .i64 n)))], []⟩ : St) _ from ?_)
  refine AW.seq ?_
  refine AW.region [1, 0, 0] rfl ?_
  refine AO.al1 (gOn_none rfl) (AL.box 0 rfl (by kernel_rfl) rfl rfl rfl rfl rfl) ?_
  refine AO.ro rfl rfl (gOn_none rfl) (RO.assign rfl rfl) ?_
  refine AO.ro rfl rfl (gOn_none rfl) (RO.assign rfl rfl) ?_
  refine AO.nil ?_
  refine AW.seq ?_
  refine AW.seq ?_
  refine AW.region [0, 1, 0] rfl ?_
  refine AO.ro rfl rfl (gOn_none rfl) (RO.ld_ptr_d (y := enc (m : Morph)) rfl ti47 rfl rfl rfl rfl rfl) ?_
  refine AO.callA («as» := [.d (enc (m : Morph))]) (gOn_none rfl) rfl rfl rfl rfl Try.call26 ⟨⟨_, rfl, rfl⟩, rfl⟩ (mcheck_ok m) ?_
  rintro _ _ ⟨e1, rfl, rfl, c1⟩
  refine ⟨[], 1, .d (.lit (.int .i64 e1)), [], rfl, trivial, rfl, ?_⟩
  refine AO.ro rfl rfl (gOn_none rfl) (RO.assign rfl rfl) ?_
  refine AO.nil ?_
  refine AW.seq ?_
  refine AW.region [0, 0] rfl ?_
  refine AO.ro rfl rfl (gOn_none rfl) (RO.move rfl rfl) ?_
  refine AO.splitn rfl rfl (gOn_none rfl) (RO.neq rfl rfl rfl) (fun t2 => ?_) (fun t2 => ?_)
  · skip
    refine AO.nil ?_
    refine AW.cond_t rfl ?_
    refine AW.seq ?_
    refine AW.region [0, 0, 0] rfl ?_
    refine AO.ro rfl rfl (gOn_none rfl) (RO.move rfl rfl) ?_
    refine AO.ro rfl rfl (gOn_none rfl) (RO.assign rfl rfl) ?_
    refine AO.ro rfl rfl (gOn_none rfl) (RO.assign rfl rfl) ?_
    refine AO.nil ?_
    refine AW.ret ?_
    refine ⟨[], [.d (.lit (.int .i64 0)), .d (.lit (.int .i64 e1))], [], rfl, ⟨⟨_, rfl, .inl rfl⟩, ⟨⟨_, rfl, .inl rfl⟩, rfl⟩⟩, trivial, ?_⟩
    refine ⟨0, e1, rfl, rfl, ?_⟩
    have : n < 0 ∨ 0 ≤ n := by omega
    simp_all
    try omega
  · skip
    refine AO.nil ?_
    refine AW.cond_f rfl ?_
    refine AW.skip ?_
    refine AW.seq ?_
    refine AW.seq ?_
    refine AW.region [0, 0] rfl ?_
    refine AO.ro rfl rfl (gOn_none rfl) (RO.move rfl rfl) ?_
    refine AO.split rfl rfl (gOn_none rfl) (RO.lss rfl rfl rfl) (fun t3 => ?_) (fun t3 => ?_)
    · skip
      refine AO.nil ?_
      refine AW.cond_t rfl ?_
      refine AW.seq ?_
      refine AW.region [0, 0] rfl ?_
      refine AO.ro rfl rfl (gOn_none rfl) (RO.assign rfl rfl) ?_
      refine AO.ro rfl rfl (gOn_none rfl) (RO.assign rfl rfl) ?_
      refine AO.nil ?_
      refine AW.ret ?_
      refine ⟨[], [.d (.lit (.int .i64 0)), .d (.lit (.int .i64 2))], [], rfl, ⟨⟨_, rfl, .inl rfl⟩, ⟨⟨_, rfl, .inl rfl⟩, rfl⟩⟩, trivial, ?_⟩
      refine ⟨0, 2, rfl, rfl, ?_⟩
      have : n < 0 ∨ 0 ≤ n := by omega
      simp_all
      try omega
    · skip
      refine AO.nil ?_
      refine AW.cond_f rfl ?_
      refine AW.skip ?_
      refine AW.seq ?_
      refine AW.drawn [(0, 0), (0, 1), (0, 2), (0, 3), (1, 4), (0, 5), (0, 6), (0, 7), (0, 8)] (by kernel_rfl) (by kernel_rfl) ?_
      refine AO.ro rfl rfl (gOn_none rfl) (RO.fld_ptr rfl fa47_2 rfl) ?_
      refine AO.ro rfl rfl (gOn_none rfl) (RO.ld_ptr rfl Try.underlying26 rfl rfl rfl rfl) ?_
      refine AO.ro rfl rfl (gOn_none rfl) (RO.ld_ptr_d (y := enc (m : Morph)) rfl ti47 rfl rfl rfl rfl rfl) ?_
      refine AO.ro rfl rfl (gOn_none rfl) (RO.move rfl rfl) ?_
      have hm := mor_of (m := m) (by omega); have hq := letT_in hm _ n (Nat.le_refl _) (by omega); have hc := hm.shape.1
      refine AO.callA («as» := [.d (enc (m : Morph)), .d (.lit (.int .i64 n))]) (gOn_none rfl) rfl rfl rfl rfl Try.call63 ⟨⟨_, rfl, rfl⟩, ⟨_, rfl, rfl⟩, rfl⟩ (letter_ok m n hm (by omega) (by omega)) ?_
      rintro _ _ ⟨y4, rfl, rfl, c4⟩
      refine ⟨[], 1, .d (.lit (.int .i64 y4)), [], rfl, trivial, rfl, ?_⟩
      rw [← c4] at hq
      refine AO.ro rfl rfl (gOn_none rfl) (RO.idx rfl Try.underlying26 ti3 rfl rfl (by omega)) ?_
      refine AO.ro rfl rfl (gOn_none rfl) (RO.ld_addr rfl Try.underlying3 rfl rfl rfl) ?_
      refine AO.ro rfl rfl (gOn_none rfl) (RO.assign rfl rfl) ?_
      refine AO.ro rfl rfl (gOn_none rfl) (RO.assign rfl rfl) ?_
      refine AO.nil ?_
      refine AW.ret ?_
      refine ⟨[], [.d (.lit (.int .i64 (ix m.Coding y4))), .d (.lit (.int .i64 0))], [], rfl, ⟨⟨_, rfl, .inl rfl⟩, ⟨⟨_, rfl, .inl rfl⟩, rfl⟩⟩, trivial, ?_⟩
      refine ⟨(ix m.Coding y4), 0, rfl, rfl, ?_⟩
      have : n < 0 ∨ 0 ≤ n := by omega
      simp_all
      try omega

theorem letter23_ok (m : Morph) (n : Int) (hm : MOK m) (hn : 0 ≤ n) (hx : n ≤ 9223372036854775807) : Fc Try.prog 29 [.d (enc (m : Morph)), .d (.lit (.int .i64 n))] [] (fun r h => ∃ (y : Int), r = .d (.lit (.int .i64 y)) ∧ h = [] ∧ (y = letT m n)) := by
  refine Fc.of_body Try.func29 rfl Try.ntmps29 (by simp) (fun F => ?_)
  refine (show AW _ _ _ (⟨40, 0, [(0, .d (enc (m : Morph))), (1, .d (.lit (.int .i64 n)))], []⟩ : St) _ from ?_)
  have hb := hm.base.1
  refine AW.seq ?_
  refine AW.region [1, 0] rfl ?_
  refine AO.al1 (gOn_none rfl) (AL.box 0 rfl (by kernel_rfl) rfl rfl rfl rfl rfl) ?_
  refine AO.ro rfl rfl (gOn_none rfl) (RO.assign rfl rfl) ?_
  refine AO.nil ?_
  refine AW.seq ?_
  refine AW.region [0] rfl ?_
  refine AO.ro rfl rfl (gOn_none rfl) (RO.assign rfl rfl) ?_
  refine AO.nil ?_
  refine AW.seq ?_
  refine AW.block ?_
  refine AW.loop (mp := [(0, some 0), (1, none)]) (X := Int × List Int) (fun xv => ⟨40, 2, [(1, .d (.lit (.int .i64 xv.1))), (2, .ptr 0 0), (4, .d (.lit (.int .i64 0))), (5, .own 1)], [(0, some (Ent.box 47 [.d (.lit (.int .i64 m.Base)), .d (enc (m.Images : (List (List Int)))), .d (enc (m.Coding : (List Int)))])), (1, some (Ent.arrOf 3 (xv.2 : List Int)))]⟩) (fun xv => (0 ≤ xv.1 ∧ xv.1 ≤ 9223372036854775807) ∧ (letT m n = digs m xv.2 (letT m xv.1)) ∧ (∀ x ∈ xv.2, 0 ≤ x ∧ x < m.Base) ∧ (2 ^ xv.2.length * xv.1 ≤ n) ∧ (xv.2.length ≤ 63)) (fun xv => xv.1.toNat) ((n, [])) ?_ ⟨rfl, rfl, ⟨⟨_, rfl, .inl rfl⟩, ⟨⟨_, rfl, .inl rfl⟩, ⟨⟨_, rfl, .inl rfl⟩, ⟨⟨_, rfl, .inl rfl⟩, trivial⟩⟩⟩⟩, ⟨⟨_, rfl, rfl⟩, ⟨⟨_, _, _, rfl, by decide⟩, trivial⟩⟩⟩ ?_
  · try dsimp only
    exact ⟨by omega, rfl, by simp, by simp, by simp⟩
  · skip
    intro x hx
    obtain ⟨k, p⟩ := x
    replace hx : (0 ≤ k ∧ k ≤ 9223372036854775807) ∧ (letT m n = digs m p (letT m k)) ∧ (∀ x ∈ p, 0 ≤ x ∧ x < m.Base) ∧ (2 ^ p.length * k ≤ n) ∧ (p.length ≤ 63) := hx
    obtain ⟨h1, h2, h3, h4, h5⟩ := hx
    refine (show AW _ _ _ (⟨40, 2, [(1, .d (.lit (.int .i64 k))), (2, .ptr 0 0), (4, .d (.lit (.int .i64 0))), (5, .own 1)], [(0, some (Ent.box 47 [.d (.lit (.int .i64 m.Base)), .d (enc (m.Images : (List (List Int)))), .d (enc (m.Coding : (List Int)))])), (1, some (Ent.arrOf 3 (p : List Int)))]⟩ : St) _ from ?_)
    have h6 : 0 < k → p.length ≤ 62 := fun h => pow_le (pow_one_le h h4) hx
    refine AW.seq ?_
    refine AW.seq ?_
    refine AW.region [0, 0] rfl ?_
    refine AO.ro rfl rfl (gOn_none rfl) (RO.move rfl rfl) ?_
    refine AO.split rfl rfl (gOn_none rfl) (RO.gtr rfl rfl rfl) (fun t1 => ?_) (fun t1 => ?_)
    · skip
      refine AO.nil ?_
      refine AW.cond_t rfl ?_
      refine AW.skip ?_
      refine AW.block ?_
      refine AW.seq ?_
      refine AW.region [0, 0, 0, 0, 0, 1, 2, 0] rfl ?_
      refine AO.ro rfl rfl (gOn_none rfl) (RO.move rfl rfl) ?_
      refine AO.ro rfl rfl (gOn_none rfl) (RO.move rfl rfl) ?_
      refine AO.ro rfl rfl (gOn_none rfl) (RO.fld_ptr rfl fa47_0 rfl) ?_
      refine AO.ro rfl rfl (gOn_none rfl) (RO.ld_ptr rfl Try.underlying3 rfl rfl rfl rfl) ?_
      refine AO.ro rfl rfl (gOn_none rfl) (RO.rem rfl rfl rfl (by omega) (by omega)) ?_
      refine AO.al1 (gOn_none rfl) (AL.lits (α := Int) (ys := [k % m.Base]) 2 rfl (by kernel_rfl) rfl rfl rfl Try.underlying26 ti3 rfl ⟨rfl, rfl, rfl⟩ rfl (fun _ => rfl) rfl (by kernel_rfl) (by kernel_rfl)) ?_
      refine AO.ef1 (gOn_none rfl) (EF.append (α := Int) (ys := ([k % m.Base] : List Int)) default 3 rfl (by kernel_rfl) rfl rfl rfl Try.underlying26 ti3 rfl rfl rfl (by decide) zr3 rfl rfl (.inr (.inl ⟨_, _, rfl, rfl⟩)) (by simp only [List.length_append, List.length_cons, List.length_nil]; omega) (by simp only [List.length_append, List.length_cons, List.length_nil]; omega)) ?_
      refine AO.ro rfl rfl (gOn_none rfl) (RO.assign rfl rfl) ?_
      refine AO.nil ?_
      refine AW.region [0, 0, 0, 0, 0] rfl ?_
      refine AO.ro rfl rfl (gOn_none rfl) (RO.move rfl rfl) ?_
      refine AO.ro rfl rfl (gOn_none rfl) (RO.fld_ptr rfl fa47_0 rfl) ?_
      refine AO.ro rfl rfl (gOn_none rfl) (RO.ld_ptr rfl Try.underlying3 rfl rfl rfl rfl) ?_
      refine AO.ro rfl rfl (gOn_none rfl) (RO.quo rfl rfl rfl (by omega) (by omega) (by omega)) ?_
      refine AO.ro rfl rfl (gOn_none rfl) (RO.assign rfl rfl) ?_
      refine AO.nil ?_
      refine ⟨(k / m.Base, p ++ ([k % m.Base])), [(0, some 0), (1, some 3)], ?_, ?_, ⟨rfl, rfl, ⟨⟨_, rfl, .inl rfl⟩, ⟨⟨_, rfl, .inl rfl⟩, ⟨⟨_, rfl, .inl rfl⟩, ⟨⟨_, rfl, .inl rfl⟩, trivial⟩⟩⟩⟩, ⟨⟨_, rfl, rfl⟩, ⟨⟨_, rfl, rfl⟩, trivial⟩⟩⟩⟩
      · try dsimp only
        have hd := div_lt (b := m.Base) (by omega : 0 < k) hb
        have hr := mod_in (n := k) hb
        refine ⟨by omega, by rw [h2, digs_add, ← letT_step hb (by omega)], fun x hx => ?_, by rw [List.length_append]; exact pow_half (by omega) hb h4, by simp; omega⟩
        rcases List.mem_append.1 hx with hx | hx
        · exact h3 x hx
        · rw [List.mem_singleton] at hx; subst hx; exact hr
      · try dsimp only
        have hd := div_lt (b := m.Base) (by omega : 0 < k) hb; omega
    · skip
      refine AO.nil ?_
      refine AW.cond_f rfl ?_
      refine AW.exit ?_
      refine AW.seq ?_
      refine AW.region [0] rfl ?_
      refine AO.ro rfl rfl (gOn_none rfl) (RO.assign rfl rfl) ?_
      refine AO.nil ?_
      refine AW.seq ?_
      refine AW.seq ?_
      refine AW.region [0, 0, 0, 0] rfl ?_
      refine AO.ro rfl rfl (gOn_none rfl) (RO.move rfl rfl) ?_
      refine AO.ro rfl rfl (gOn_none rfl) (RO.len_own rfl Try.underlying26 rfl rfl) ?_
      refine AO.ro rfl rfl (gOn_none rfl) (RO.sub rfl rfl rfl (by omega)) ?_
      refine AO.ro rfl rfl (gOn_none rfl) (RO.assign rfl rfl) ?_
      refine AO.nil ?_
      refine AW.block ?_
      refine AW.loop (mp := [(0, some 0), (1, some 1)]) (X := Int × Int) (fun xv => ⟨40, 2, [(2, .ptr 0 0), (4, .d (.lit (.int .i64 0))), (5, .own 1), (6, .d (.lit (.int .i64 xv.2))), (7, .d (.lit (.int .i64 xv.1)))], [(0, some (Ent.box 47 [.d (.lit (.int .i64 m.Base)), .d (enc (m.Images : (List (List Int)))), .d (enc (m.Coding : (List Int)))])), (1, some (Ent.arrOf 3 (p : List Int)))]⟩) (fun xv => (-1 ≤ xv.1 ∧ xv.1 < p.length) ∧ (letT m n = digs m (p.take (xv.1 + 1).toNat) xv.2) ∧ (0 ≤ xv.2 ∧ xv.2 < m.Images.length)) (fun xv => (xv.1 + 1).toNat) ((((p.length : Int)) - 1, 0)) ?_ ⟨rfl, rfl, ⟨⟨_, rfl, .inl rfl⟩, ⟨⟨_, rfl, .inl rfl⟩, ⟨⟨_, rfl, .inl rfl⟩, ⟨⟨_, rfl, .inl rfl⟩, ⟨⟨_, rfl, .inl rfl⟩, trivial⟩⟩⟩⟩⟩, ⟨⟨_, rfl, rfl⟩, ⟨⟨_, rfl, rfl⟩, trivial⟩⟩⟩ ?_
      · try dsimp only
        have hs := hm.size
        unfold MSize at hs
        refine ⟨by omega, ?_, by omega⟩
        have : k = 0 := by omega
        subst this
        rw [h2, letT_zero, List.take_of_length_le (by omega)]
      · skip
        intro x hx
        obtain ⟨i, a⟩ := x
        replace hx : (-1 ≤ i ∧ i < p.length) ∧ (letT m n = digs m (p.take (i + 1).toNat) a) ∧ (0 ≤ a ∧ a < m.Images.length) := hx
        obtain ⟨g1, g2, g3⟩ := hx
        refine (show AW _ _ _ (⟨40, 2, [(2, .ptr 0 0), (4, .d (.lit (.int .i64 0))), (5, .own 1), (6, .d (.lit (.int .i64 a))), (7, .d (.lit (.int .i64 i)))], [(0, some (Ent.box 47 [.d (.lit (.int .i64 m.Base)), .d (enc (m.Images : (List (List Int)))), .d (enc (m.Coding : (List Int)))])), (1, some (Ent.arrOf 3 (p : List Int)))]⟩ : St) _ from ?_)
        have g4 := hm.len g3.1 g3.2
        have g5 : 0 ≤ i → 0 ≤ ix p i ∧ ix p i < m.Base := fun h => h3 _ (ix_mem h g1.2)
        refine AW.seq ?_
        refine AW.seq ?_
        refine AW.region [0, 0] rfl ?_
        refine AO.ro rfl rfl (gOn_none rfl) (RO.move rfl rfl) ?_
        refine AO.split rfl rfl (gOn_none rfl) (RO.geq rfl rfl rfl) (fun t2 => ?_) (fun t2 => ?_)
        · skip
          refine AO.nil ?_
          refine AW.cond_t rfl ?_
          refine AW.skip ?_
          refine AW.seq ?_
          refine AW.block ?_
          refine AW.drawn [(0, 0), (0, 1), (0, 2), (0, 3), (0, 4), (0, 5), (0, 6), (0, 7), (0, 8), (0, 9), (0, 10), (0, 11)] (by kernel_rfl) (by kernel_rfl) ?_
          refine AO.ro rfl rfl (gOn_none rfl) (RO.fld_ptr rfl fa47_1 rfl) ?_
          refine AO.ro rfl rfl (gOn_none rfl) (RO.ld_ptr rfl Try.underlying45 rfl rfl rfl rfl) ?_
          refine AO.ro rfl rfl (gOn_none rfl) (RO.move rfl rfl) ?_
          refine AO.ro rfl rfl (gOn_none rfl) (RO.idx rfl Try.underlying45 ti26 rfl rfl (by omega)) ?_
          refine AO.ro rfl rfl (gOn_none rfl) (RO.ld_addr rfl Try.underlying26 rfl rfl rfl) ?_
          refine AO.ro rfl rfl (gOn_none rfl) (RO.move rfl rfl) ?_
          refine AO.ro rfl rfl (gOn_none rfl) (RO.move rfl rfl) ?_
          refine AO.ro rfl rfl (gOn_none rfl) (RO.idx_own rfl Try.underlying26 ti3 rfl rfl rfl (by omega)) ?_
          refine AO.ro (x := .d (.lit (.int .i64 (ix p i)))) rfl rfl (gOn_none rfl) (RO.ld_eptr (j := (i).toNat) (l := (p : List Int)) rfl Try.underlying3 rfl rfl rfl rfl (by omega) (fun _ => rfl)) ?_
          refine AO.ro rfl rfl (gOn_none rfl) (RO.idx rfl Try.underlying26 ti3 rfl rfl (by omega)) ?_
          refine AO.ro rfl rfl (gOn_none rfl) (RO.ld_addr rfl Try.underlying3 rfl rfl rfl) ?_
          refine AO.ro rfl rfl (gOn_none rfl) (RO.assign rfl rfl) ?_
          refine AO.nil ?_
          refine AW.region [0, 0, 0] rfl ?_
          refine AO.ro rfl rfl (gOn_none rfl) (RO.move rfl rfl) ?_
          refine AO.ro rfl rfl (gOn_none rfl) (RO.sub rfl rfl rfl (by omega)) ?_
          refine AO.ro rfl rfl (gOn_none rfl) (RO.assign rfl rfl) ?_
          refine AO.nil ?_
          refine ⟨(i - 1, ix (ix m.Images a) (ix p i)), [(0, some 0), (1, some 1)], ?_, ?_, ⟨rfl, rfl, ⟨⟨_, rfl, .inl rfl⟩, ⟨⟨_, rfl, .inl rfl⟩, ⟨⟨_, rfl, .inl rfl⟩, ⟨⟨_, rfl, .inl rfl⟩, ⟨⟨_, rfl, .inl rfl⟩, trivial⟩⟩⟩⟩⟩, ⟨⟨_, rfl, rfl⟩, ⟨⟨_, rfl, rfl⟩, trivial⟩⟩⟩⟩
          · try dsimp only
            refine ⟨by omega, ?_, (hm.tab a g3.1 g3.2).1 _ (g5 (by omega)).1 (g5 (by omega)).2⟩
            rw [g2, ix_take (by omega) g1.2, digs_add, show i - 1 + 1 = i by omega]
          · try dsimp only
            first | omega | (simp; done) | (simp_all; done) | (simp_all; omega)
        · skip
          refine AO.nil ?_
          refine AW.cond_f rfl ?_
          refine AW.exit ?_
          refine AW.seq ?_
          refine AW.region [0, 0] rfl ?_
          refine AO.ro rfl rfl (gOn_none rfl) (RO.move rfl rfl) ?_
          refine AO.ro rfl rfl (gOn_none rfl) (RO.assign rfl rfl) ?_
          refine AO.nil ?_
          refine AW.ret ?_
          refine ⟨[], [.d (.lit (.int .i64 a))], [], rfl, ⟨⟨_, rfl, .inl rfl⟩, rfl⟩, trivial, ?_⟩
          refine ⟨a, rfl, rfl, ?_⟩
          have : i = -1 := by omega
          subst this
          rw [g2]; rfl

theorem law_ok (m : Morph) (n : Int) (hx : -9223372036854775808 ≤ n ∧ n ≤ 9223372036854775807) : Fc Try.prog 7 [.d (enc (m : Morph)), .d (.lit (.int .i64 n))] [] (fun r h => ∃ (y : Bool), r = .d (.lit (.bool y)) ∧ h = [] ∧ (y = true)) := by
  refine Fc.of_body Try.func7 rfl Try.ntmps7 (by simp) (fun F => ?_)
  refine (show AW _ _ _ (⟨52, 0, [(0, .d (enc (m : Morph))), (1, .d (.lit (.int .i64 n)))], []⟩ : St) _ from ?_)
  refine AW.seq ?_
  refine AW.region [1, 0] rfl ?_
  refine AO.al1 (gOn_none rfl) (AL.box 0 rfl (by kernel_rfl) rfl rfl rfl rfl rfl) ?_
  refine AO.ro rfl rfl (gOn_none rfl) (RO.assign rfl rfl) ?_
  refine AO.nil ?_
  refine AW.seq ?_
  refine AW.region [0, 1, 0] rfl ?_
  refine AO.ro rfl rfl (gOn_none rfl) (RO.ld_ptr_d (y := enc (m : Morph)) rfl ti47 rfl rfl rfl rfl rfl) ?_
  refine AO.callA («as» := [.d (enc (m : Morph))]) (gOn_none rfl) rfl rfl rfl rfl Try.call26 ⟨⟨_, rfl, rfl⟩, rfl⟩ (mcheck_ok m) ?_
  rintro _ _ ⟨e1, rfl, rfl, c1⟩
  refine ⟨[], 1, .d (.lit (.int .i64 e1)), [], rfl, trivial, rfl, ?_⟩
  refine AO.ro rfl rfl (gOn_none rfl) (RO.assign rfl rfl) ?_
  refine AO.nil ?_
  refine AW.seq ?_
  refine AW.region [0, 1, 0] rfl ?_
  refine AO.ro rfl rfl (gOn_none rfl) (RO.ld_ptr_d (y := enc (m : Morph)) rfl ti47 rfl rfl rfl rfl rfl) ?_
  refine AO.callA («as» := [.d (enc (m : Morph))]) (gOn_none rfl) rfl rfl rfl rfl Try.call27 ⟨⟨_, rfl, rfl⟩, rfl⟩ (mcheck23_ok m) ?_
  rintro _ _ ⟨e2, rfl, rfl, c2⟩
  refine ⟨[], 1, .d (.lit (.int .i64 e2)), [], rfl, trivial, rfl, ?_⟩
  refine AO.ro rfl rfl (gOn_none rfl) (RO.assign rfl rfl) ?_
  refine AO.nil ?_
  refine AW.seq ?_
  refine AW.region [0, 0, 1, 0, 0, 0, 0, 0] rfl ?_
  refine AO.ro rfl rfl (gOn_none rfl) (RO.ld_ptr_d (y := enc (m : Morph)) rfl ti47 rfl rfl rfl rfl rfl) ?_
  refine AO.ro rfl rfl (gOn_none rfl) (RO.move rfl rfl) ?_
  refine AO.callA («as» := [.d (enc (m : Morph)), .d (.lit (.int .i64 n))]) (gOn_none rfl) rfl rfl rfl rfl Try.call28 ⟨⟨_, rfl, rfl⟩, ⟨_, rfl, rfl⟩, rfl⟩ (at_ok m n (by omega)) ?_
  rintro _ _ ⟨y3, e3, rfl, rfl, c3⟩
  refine ⟨[], 1, .tup [.d (.lit (.int .i64 y3)), .d (.lit (.int .i64 e3))], [], rfl, trivial, rfl, ?_⟩
  refine AO.ro rfl rfl (gOn_none rfl) (RO.move rfl rfl) ?_
  refine AO.ro rfl rfl (gOn_none rfl) (RO.extract rfl rfl rfl) ?_
  refine AO.ro rfl rfl (gOn_none rfl) (RO.extract rfl rfl rfl) ?_
  refine AO.ro rfl rfl (gOn_none rfl) (RO.assign rfl rfl) ?_
  refine AO.ro rfl rfl (gOn_none rfl) (RO.assign rfl rfl) ?_
  refine AO.nil ?_
  refine AW.seq ?_
  refine AW.seq ?_
  refine AW.region [0, 0, 0] rfl ?_
  refine AO.ro rfl rfl (gOn_none rfl) (RO.move rfl rfl) ?_
  refine AO.ro rfl rfl (gOn_none rfl) (RO.move rfl rfl) ?_
  refine AO.splitn rfl rfl (gOn_none rfl) (RO.neq rfl rfl rfl) (fun t4 => ?_) (fun t4 => ?_)
  · skip
    refine AO.nil ?_
    refine AW.cond_t rfl ?_
    refine AW.seq ?_
    refine AW.region [0] rfl ?_
    refine AO.ro rfl rfl (gOn_none rfl) (RO.assign rfl rfl) ?_
    refine AO.nil ?_
    refine AW.ret ?_
    refine ⟨[], [.d (.lit (.bool false))], [], rfl, ⟨⟨_, rfl, .inl rfl⟩, rfl⟩, trivial, ?_⟩
    refine ⟨false, rfl, rfl, ?_⟩
    have hz : n < 0 ∨ 0 ≤ n := by omega
    simp_all
    try omega
  · skip
    refine AO.nil ?_
    refine AW.cond_f rfl ?_
    refine AW.skip ?_
    refine AW.seq ?_
    refine AW.seq ?_
    refine AW.region [0, 0, 0, 0, 0, 0] rfl ?_
    refine AO.ro rfl rfl (gOn_none rfl) (RO.move rfl rfl) ?_
    refine AO.split rfl rfl (gOn_none rfl) (RO.eql rfl rfl rfl) (fun t5 => ?_) (fun t5 => ?_)
    · skip
      refine AO.ro rfl rfl (gOn_none rfl) (RO.move rfl rfl) ?_
      refine AO.ro rfl rfl ⟨25, true, rfl, rfl, rfl⟩ (RO.move rfl rfl) ?_
      refine AO.split rfl rfl ⟨25, true, rfl, rfl, rfl⟩ (RO.lss rfl rfl rfl) (fun t6 => ?_) (fun t6 => ?_)
      · skip
        refine AO.ro rfl rfl (gOn_none rfl) (RO.pick_t rfl rfl rfl) ?_
        refine AO.nil ?_
        refine AW.cond_t rfl ?_
        refine AW.region [0] rfl ?_
        refine AO.ro rfl rfl (gOn_none rfl) (RO.assign rfl rfl) ?_
        refine AO.nil ?_
        refine AW.seq ?_
        refine AW.seq ?_
        refine AW.region [0, 0] rfl ?_
        refine AO.ro rfl rfl (gOn_none rfl) (RO.move rfl rfl) ?_
        refine AO.splitn rfl rfl (gOn_none rfl) (RO.neq rfl rfl rfl) (fun t7 => ?_) (fun t7 => ?_)
        · skip
          refine AO.nil ?_
          refine AW.cond_t rfl ?_
          refine AW.seq ?_
          refine AW.region [0, 0, 0, 0, 0, 0, 0, 0] rfl ?_
          refine AO.ro rfl rfl (gOn_none rfl) (RO.move rfl rfl) ?_
          refine AO.ro rfl rfl (gOn_none rfl) (RO.move rfl rfl) ?_
          refine AO.split rfl rfl (gOn_none rfl) (RO.eql rfl rfl rfl) (fun t8 => ?_) (fun t8 => ?_)
          · skip
            refine AO.ro rfl rfl (gOn_none rfl) (RO.move rfl rfl) ?_
            refine AO.ro rfl rfl ⟨34, true, rfl, rfl, rfl⟩ (RO.move rfl rfl) ?_
            refine AO.split rfl rfl ⟨34, true, rfl, rfl, rfl⟩ (RO.eql rfl rfl rfl) (fun t9 => ?_) (fun t9 => ?_)
            · skip
              refine AO.ro rfl rfl (gOn_none rfl) (RO.pick_t rfl rfl rfl) ?_
              refine AO.ro rfl rfl (gOn_none rfl) (RO.assign rfl rfl) ?_
              refine AO.nil ?_
              refine AW.ret ?_
              refine ⟨[], [.d (.lit (.bool true))], [], rfl, ⟨⟨_, rfl, .inl rfl⟩, rfl⟩, trivial, ?_⟩
              refine ⟨true, rfl, rfl, ?_⟩
              have hz : n < 0 ∨ 0 ≤ n := by omega
              simp_all
              try omega
            · skip
              refine AO.ro rfl rfl (gOn_none rfl) (RO.pick_t rfl rfl rfl) ?_
              refine AO.ro rfl rfl (gOn_none rfl) (RO.assign rfl rfl) ?_
              refine AO.nil ?_
              refine AW.ret ?_
              refine ⟨[], [.d (.lit (.bool false))], [], rfl, ⟨⟨_, rfl, .inl rfl⟩, rfl⟩, trivial, ?_⟩
              refine ⟨false, rfl, rfl, ?_⟩
              have hz : n < 0 ∨ 0 ≤ n := by omega
              simp_all
              try omega
          · skip
            refine AO.ro rfl rfl (gOn_none rfl) (RO.move rfl rfl) ?_
            refine AO.skip rfl rfl ⟨34, false, rfl, rfl, rfl⟩ ?_
            refine AO.skip rfl rfl ⟨34, false, rfl, rfl, rfl⟩ ?_
            refine AO.ro rfl rfl (gOn_none rfl) (RO.pick_f rfl rfl rfl) ?_
            refine AO.ro rfl rfl (gOn_none rfl) (RO.assign rfl rfl) ?_
            refine AO.nil ?_
            refine AW.ret ?_
            refine ⟨[], [.d (.lit (.bool false))], [], rfl, ⟨⟨_, rfl, .inl rfl⟩, rfl⟩, trivial, ?_⟩
            refine ⟨false, rfl, rfl, ?_⟩
            have hz : n < 0 ∨ 0 ≤ n := by omega
            simp_all
            try omega
        · skip
          refine AO.nil ?_
          refine AW.cond_f rfl ?_
          refine AW.skip ?_
          refine AW.seq ?_
          refine AW.region [0, 0, 1, 0] rfl ?_
          refine AO.ro rfl rfl (gOn_none rfl) (RO.ld_ptr_d (y := enc (m : Morph)) rfl ti47 rfl rfl rfl rfl rfl) ?_
          refine AO.ro rfl rfl (gOn_none rfl) (RO.move rfl rfl) ?_
          have hm := mor_of (m := m) (by omega); have hq := letT_in hm _ n (Nat.le_refl _) (by omega); have hc := hm.shape.1
          refine AO.callA («as» := [.d (enc (m : Morph)), .d (.lit (.int .i64 n))]) (gOn_none rfl) rfl rfl rfl rfl Try.call29 ⟨⟨_, rfl, rfl⟩, ⟨_, rfl, rfl⟩, rfl⟩ (letter23_ok m n hm (by omega) (by omega)) ?_
          rintro _ _ ⟨y10, rfl, rfl, c10⟩
          refine ⟨[], 1, .d (.lit (.int .i64 y10)), [], rfl, trivial, rfl, ?_⟩
          rw [← c10] at hq
          refine AO.ro rfl rfl (gOn_none rfl) (RO.assign rfl rfl) ?_
          refine AO.nil ?_
          refine AW.seq ?_
          refine AW.region [0, 0, 0, 0, 0, 0, 0, 0, 0, 0, 0, 0] rfl ?_
          refine AO.ro rfl rfl (gOn_none rfl) (RO.move rfl rfl) ?_
          refine AO.split rfl rfl (gOn_none rfl) (RO.eql rfl rfl rfl) (fun t11 => ?_) (fun t11 => ?_)
          · skip
            refine AO.ro rfl rfl (gOn_none rfl) (RO.move rfl rfl) ?_
            refine AO.ro rfl rfl ⟨43, true, rfl, rfl, rfl⟩ (RO.move rfl rfl) ?_
            refine AO.ro rfl rfl ⟨43, true, rfl, rfl, rfl⟩ (RO.fld_ptr rfl fa47_2 rfl) ?_
            refine AO.ro rfl rfl ⟨43, true, rfl, rfl, rfl⟩ (RO.ld_ptr rfl Try.underlying26 rfl rfl rfl rfl) ?_
            refine AO.ro rfl rfl ⟨43, true, rfl, rfl, rfl⟩ (RO.move rfl rfl) ?_
            refine AO.ro rfl rfl ⟨43, true, rfl, rfl, rfl⟩ (RO.idx rfl Try.underlying26 ti3 rfl rfl (by omega)) ?_
            refine AO.ro rfl rfl ⟨43, true, rfl, rfl, rfl⟩ (RO.ld_addr rfl Try.underlying3 rfl rfl rfl) ?_
            refine AO.split rfl rfl ⟨43, true, rfl, rfl, rfl⟩ (RO.eql rfl rfl rfl) (fun t12 => ?_) (fun t12 => ?_)
            · skip
              refine AO.ro rfl rfl (gOn_none rfl) (RO.pick_t rfl rfl rfl) ?_
              refine AO.ro rfl rfl (gOn_none rfl) (RO.assign rfl rfl) ?_
              refine AO.nil ?_
              refine AW.ret ?_
              refine ⟨[], [.d (.lit (.bool true))], [], rfl, ⟨⟨_, rfl, .inl rfl⟩, rfl⟩, trivial, ?_⟩
              refine ⟨true, rfl, rfl, ?_⟩
              have hz : n < 0 ∨ 0 ≤ n := by omega
              simp_all
              try omega
            · skip
              refine AO.ro rfl rfl (gOn_none rfl) (RO.pick_t rfl rfl rfl) ?_
              refine AO.ro rfl rfl (gOn_none rfl) (RO.assign rfl rfl) ?_
              refine AO.nil ?_
              refine AW.ret ?_
              refine ⟨[], [.d (.lit (.bool false))], [], rfl, ⟨⟨_, rfl, .inl rfl⟩, rfl⟩, trivial, ?_⟩
              refine ⟨false, rfl, rfl, ?_⟩
              have hz : n < 0 ∨ 0 ≤ n := by omega
              simp_all
              try omega
          · skip
            refine AO.ro rfl rfl (gOn_none rfl) (RO.move rfl rfl) ?_
            refine AO.skip rfl rfl ⟨43, false, rfl, rfl, rfl⟩ ?_
            refine AO.skip rfl rfl ⟨43, false, rfl, rfl, rfl⟩ ?_
            refine AO.skip rfl rfl ⟨43, false, rfl, rfl, rfl⟩ ?_
            refine AO.skip rfl rfl ⟨43, false, rfl, rfl, rfl⟩ ?_
            refine AO.skip rfl rfl ⟨43, false, rfl, rfl, rfl⟩ ?_
            refine AO.skip rfl rfl ⟨43, false, rfl, rfl, rfl⟩ ?_
            refine AO.skip rfl rfl ⟨43, false, rfl, rfl, rfl⟩ ?_
            refine AO.ro rfl rfl (gOn_none rfl) (RO.pick_f rfl rfl rfl) ?_
            refine AO.ro rfl rfl (gOn_none rfl) (RO.assign rfl rfl) ?_
            refine AO.nil ?_
            refine AW.ret ?_
            refine ⟨[], [.d (.lit (.bool false))], [], rfl, ⟨⟨_, rfl, .inl rfl⟩, rfl⟩, trivial, ?_⟩
            refine ⟨false, rfl, rfl, ?_⟩
            have hz : n < 0 ∨ 0 ≤ n := by omega
            simp_all
            try omega
      · skip
        refine AO.ro rfl rfl (gOn_none rfl) (RO.pick_t rfl rfl rfl) ?_
        refine AO.nil ?_
        refine AW.cond_f rfl ?_
        refine AW.skip ?_
        refine AW.seq ?_
        refine AW.seq ?_
        refine AW.region [0, 0] rfl ?_
        refine AO.ro rfl rfl (gOn_none rfl) (RO.move rfl rfl) ?_
        refine AO.splitn rfl rfl (gOn_none rfl) (RO.neq rfl rfl rfl) (fun t13 => ?_) (fun t13 => ?_)
        · skip
          refine AO.nil ?_
          refine AW.cond_t rfl ?_
          refine AW.seq ?_
          refine AW.region [0, 0, 0, 0, 0, 0, 0, 0] rfl ?_
          refine AO.ro rfl rfl (gOn_none rfl) (RO.move rfl rfl) ?_
          refine AO.ro rfl rfl (gOn_none rfl) (RO.move rfl rfl) ?_
          refine AO.split rfl rfl (gOn_none rfl) (RO.eql rfl rfl rfl) (fun t14 => ?_) (fun t14 => ?_)
          · skip
            refine AO.ro rfl rfl (gOn_none rfl) (RO.move rfl rfl) ?_
            refine AO.ro rfl rfl ⟨34, true, rfl, rfl, rfl⟩ (RO.move rfl rfl) ?_
            refine AO.split rfl rfl ⟨34, true, rfl, rfl, rfl⟩ (RO.eql rfl rfl rfl) (fun t15 => ?_) (fun t15 => ?_)
            · skip
              refine AO.ro rfl rfl (gOn_none rfl) (RO.pick_t rfl rfl rfl) ?_
              refine AO.ro rfl rfl (gOn_none rfl) (RO.assign rfl rfl) ?_
              refine AO.nil ?_
              refine AW.ret ?_
              refine ⟨[], [.d (.lit (.bool true))], [], rfl, ⟨⟨_, rfl, .inl rfl⟩, rfl⟩, trivial, ?_⟩
              refine ⟨true, rfl, rfl, ?_⟩
              have hz : n < 0 ∨ 0 ≤ n := by omega
              simp_all
              try omega
            · skip
              refine AO.ro rfl rfl (gOn_none rfl) (RO.pick_t rfl rfl rfl) ?_
              refine AO.ro rfl rfl (gOn_none rfl) (RO.assign rfl rfl) ?_
              refine AO.nil ?_
              refine AW.ret ?_
              refine ⟨[], [.d (.lit (.bool false))], [], rfl, ⟨⟨_, rfl, .inl rfl⟩, rfl⟩, trivial, ?_⟩
              refine ⟨false, rfl, rfl, ?_⟩
              have hz : n < 0 ∨ 0 ≤ n := by omega
              simp_all
              try omega
          · skip
            refine AO.ro rfl rfl (gOn_none rfl) (RO.move rfl rfl) ?_
            refine AO.skip rfl rfl ⟨34, false, rfl, rfl, rfl⟩ ?_
            refine AO.skip rfl rfl ⟨34, false, rfl, rfl, rfl⟩ ?_
            refine AO.ro rfl rfl (gOn_none rfl) (RO.pick_f rfl rfl rfl) ?_
            refine AO.ro rfl rfl (gOn_none rfl) (RO.assign rfl rfl) ?_
            refine AO.nil ?_
            refine AW.ret ?_
            refine ⟨[], [.d (.lit (.bool false))], [], rfl, ⟨⟨_, rfl, .inl rfl⟩, rfl⟩, trivial, ?_⟩
            refine ⟨false, rfl, rfl, ?_⟩
            have hz : n < 0 ∨ 0 ≤ n := by omega
            simp_all
            try omega
        · skip
          refine AO.nil ?_
          refine AW.cond_f rfl ?_
          refine AW.skip ?_
          refine AW.seq ?_
          refine AW.region [0, 0, 1, 0] rfl ?_
          refine AO.ro rfl rfl (gOn_none rfl) (RO.ld_ptr_d (y := enc (m : Morph)) rfl ti47 rfl rfl rfl rfl rfl) ?_
          refine AO.ro rfl rfl (gOn_none rfl) (RO.move rfl rfl) ?_
          have hm := mor_of (m := m) (by omega); have hq := letT_in hm _ n (Nat.le_refl _) (by omega); have hc := hm.shape.1
          refine AO.callA («as» := [.d (enc (m : Morph)), .d (.lit (.int .i64 n))]) (gOn_none rfl) rfl rfl rfl rfl Try.call29 ⟨⟨_, rfl, rfl⟩, ⟨_, rfl, rfl⟩, rfl⟩ (letter23_ok m n hm (by omega) (by omega)) ?_
          rintro _ _ ⟨y16, rfl, rfl, c16⟩
          refine ⟨[], 1, .d (.lit (.int .i64 y16)), [], rfl, trivial, rfl, ?_⟩
          rw [← c16] at hq
          refine AO.ro rfl rfl (gOn_none rfl) (RO.assign rfl rfl) ?_
          refine AO.nil ?_
          refine AW.seq ?_
          refine AW.region [0, 0, 0, 0, 0, 0, 0, 0, 0, 0, 0, 0] rfl ?_
          refine AO.ro rfl rfl (gOn_none rfl) (RO.move rfl rfl) ?_
          refine AO.split rfl rfl (gOn_none rfl) (RO.eql rfl rfl rfl) (fun t17 => ?_) (fun t17 => ?_)
          · skip
            refine AO.ro rfl rfl (gOn_none rfl) (RO.move rfl rfl) ?_
            refine AO.ro rfl rfl ⟨43, true, rfl, rfl, rfl⟩ (RO.move rfl rfl) ?_
            refine AO.ro rfl rfl ⟨43, true, rfl, rfl, rfl⟩ (RO.fld_ptr rfl fa47_2 rfl) ?_
            refine AO.ro rfl rfl ⟨43, true, rfl, rfl, rfl⟩ (RO.ld_ptr rfl Try.underlying26 rfl rfl rfl rfl) ?_
            refine AO.ro rfl rfl ⟨43, true, rfl, rfl, rfl⟩ (RO.move rfl rfl) ?_
            refine AO.ro rfl rfl ⟨43, true, rfl, rfl, rfl⟩ (RO.idx rfl Try.underlying26 ti3 rfl rfl (by omega)) ?_
            refine AO.ro rfl rfl ⟨43, true, rfl, rfl, rfl⟩ (RO.ld_addr rfl Try.underlying3 rfl rfl rfl) ?_
            refine AO.split rfl rfl ⟨43, true, rfl, rfl, rfl⟩ (RO.eql rfl rfl rfl) (fun t18 => ?_) (fun t18 => ?_)
            · skip
              refine AO.ro rfl rfl (gOn_none rfl) (RO.pick_t rfl rfl rfl) ?_
              refine AO.ro rfl rfl (gOn_none rfl) (RO.assign rfl rfl) ?_
              refine AO.nil ?_
              refine AW.ret ?_
              refine ⟨[], [.d (.lit (.bool true))], [], rfl, ⟨⟨_, rfl, .inl rfl⟩, rfl⟩, trivial, ?_⟩
              refine ⟨true, rfl, rfl, ?_⟩
              have hz : n < 0 ∨ 0 ≤ n := by omega
              simp_all
              try omega
            · skip
              refine AO.ro rfl rfl (gOn_none rfl) (RO.pick_t rfl rfl rfl) ?_
              refine AO.ro rfl rfl (gOn_none rfl) (RO.assign rfl rfl) ?_
              refine AO.nil ?_
              refine AW.ret ?_
              refine ⟨[], [.d (.lit (.bool false))], [], rfl, ⟨⟨_, rfl, .inl rfl⟩, rfl⟩, trivial, ?_⟩
              refine ⟨false, rfl, rfl, ?_⟩
              have hz : n < 0 ∨ 0 ≤ n := by omega
              simp_all
              try omega
          · skip
            refine AO.ro rfl rfl (gOn_none rfl) (RO.move rfl rfl) ?_
            refine AO.skip rfl rfl ⟨43, false, rfl, rfl, rfl⟩ ?_
            refine AO.skip rfl rfl ⟨43, false, rfl, rfl, rfl⟩ ?_
            refine AO.skip rfl rfl ⟨43, false, rfl, rfl, rfl⟩ ?_
            refine AO.skip rfl rfl ⟨43, false, rfl, rfl, rfl⟩ ?_
            refine AO.skip rfl rfl ⟨43, false, rfl, rfl, rfl⟩ ?_
            refine AO.skip rfl rfl ⟨43, false, rfl, rfl, rfl⟩ ?_
            refine AO.skip rfl rfl ⟨43, false, rfl, rfl, rfl⟩ ?_
            refine AO.ro rfl rfl (gOn_none rfl) (RO.pick_f rfl rfl rfl) ?_
            refine AO.ro rfl rfl (gOn_none rfl) (RO.assign rfl rfl) ?_
            refine AO.nil ?_
            refine AW.ret ?_
            refine ⟨[], [.d (.lit (.bool false))], [], rfl, ⟨⟨_, rfl, .inl rfl⟩, rfl⟩, trivial, ?_⟩
            refine ⟨false, rfl, rfl, ?_⟩
            have hz : n < 0 ∨ 0 ≤ n := by omega
            simp_all
            try omega
    · skip
      refine AO.ro rfl rfl (gOn_none rfl) (RO.move rfl rfl) ?_
      refine AO.skip rfl rfl ⟨25, false, rfl, rfl, rfl⟩ ?_
      refine AO.skip rfl rfl ⟨25, false, rfl, rfl, rfl⟩ ?_
      refine AO.ro rfl rfl (gOn_none rfl) (RO.pick_f rfl rfl rfl) ?_
      refine AO.nil ?_
      refine AW.cond_f rfl ?_
      refine AW.skip ?_
      refine AW.seq ?_
      refine AW.seq ?_
      refine AW.region [0, 0] rfl ?_
      refine AO.ro rfl rfl (gOn_none rfl) (RO.move rfl rfl) ?_
      refine AO.splitn rfl rfl (gOn_none rfl) (RO.neq rfl rfl rfl) (fun t19 => ?_) (fun t19 => ?_)
      · skip
        refine AO.nil ?_
        refine AW.cond_t rfl ?_
        refine AW.seq ?_
        refine AW.region [0, 0, 0, 0, 0, 0, 0, 0] rfl ?_
        refine AO.ro rfl rfl (gOn_none rfl) (RO.move rfl rfl) ?_
        refine AO.ro rfl rfl (gOn_none rfl) (RO.move rfl rfl) ?_
        refine AO.split rfl rfl (gOn_none rfl) (RO.eql rfl rfl rfl) (fun t20 => ?_) (fun t20 => ?_)
        · skip
          refine AO.ro rfl rfl (gOn_none rfl) (RO.move rfl rfl) ?_
          refine AO.ro rfl rfl ⟨34, true, rfl, rfl, rfl⟩ (RO.move rfl rfl) ?_
          refine AO.split rfl rfl ⟨34, true, rfl, rfl, rfl⟩ (RO.eql rfl rfl rfl) (fun t21 => ?_) (fun t21 => ?_)
          · skip
            refine AO.ro rfl rfl (gOn_none rfl) (RO.pick_t rfl rfl rfl) ?_
            refine AO.ro rfl rfl (gOn_none rfl) (RO.assign rfl rfl) ?_
            refine AO.nil ?_
            refine AW.ret ?_
            refine ⟨[], [.d (.lit (.bool true))], [], rfl, ⟨⟨_, rfl, .inl rfl⟩, rfl⟩, trivial, ?_⟩
            refine ⟨true, rfl, rfl, ?_⟩
            have hz : n < 0 ∨ 0 ≤ n := by omega
            simp_all
            try omega
          · skip
            refine AO.ro rfl rfl (gOn_none rfl) (RO.pick_t rfl rfl rfl) ?_
            refine AO.ro rfl rfl (gOn_none rfl) (RO.assign rfl rfl) ?_
            refine AO.nil ?_
            refine AW.ret ?_
            refine ⟨[], [.d (.lit (.bool false))], [], rfl, ⟨⟨_, rfl, .inl rfl⟩, rfl⟩, trivial, ?_⟩
            refine ⟨false, rfl, rfl, ?_⟩
            have hz : n < 0 ∨ 0 ≤ n := by omega
            simp_all
            try omega
        · skip
          refine AO.ro rfl rfl (gOn_none rfl) (RO.move rfl rfl) ?_
          refine AO.skip rfl rfl ⟨34, false, rfl, rfl, rfl⟩ ?_
          refine AO.skip rfl rfl ⟨34, false, rfl, rfl, rfl⟩ ?_
          refine AO.ro rfl rfl (gOn_none rfl) (RO.pick_f rfl rfl rfl) ?_
          refine AO.ro rfl rfl (gOn_none rfl) (RO.assign rfl rfl) ?_
          refine AO.nil ?_
          refine AW.ret ?_
          refine ⟨[], [.d (.lit (.bool false))], [], rfl, ⟨⟨_, rfl, .inl rfl⟩, rfl⟩, trivial, ?_⟩
          refine ⟨false, rfl, rfl, ?_⟩
          have hz : n < 0 ∨ 0 ≤ n := by omega
          simp_all
          try omega
      · skip
        refine AO.nil ?_
        refine AW.cond_f rfl ?_
        refine AW.skip ?_
        refine AW.seq ?_
        refine AW.region [0, 0, 1, 0] rfl ?_
        refine AO.ro rfl rfl (gOn_none rfl) (RO.ld_ptr_d (y := enc (m : Morph)) rfl ti47 rfl rfl rfl rfl rfl) ?_
        refine AO.ro rfl rfl (gOn_none rfl) (RO.move rfl rfl) ?_
        have hm := mor_of (m := m) (by omega); have hq := letT_in hm _ n (Nat.le_refl _) (by omega); have hc := hm.shape.1
        refine AO.callA («as» := [.d (enc (m : Morph)), .d (.lit (.int .i64 n))]) (gOn_none rfl) rfl rfl rfl rfl Try.call29 ⟨⟨_, rfl, rfl⟩, ⟨_, rfl, rfl⟩, rfl⟩ (letter23_ok m n hm (by omega) (by omega)) ?_
        rintro _ _ ⟨y22, rfl, rfl, c22⟩
        refine ⟨[], 1, .d (.lit (.int .i64 y22)), [], rfl, trivial, rfl, ?_⟩
        rw [← c22] at hq
        refine AO.ro rfl rfl (gOn_none rfl) (RO.assign rfl rfl) ?_
        refine AO.nil ?_
        refine AW.seq ?_
        refine AW.region [0, 0, 0, 0, 0, 0, 0, 0, 0, 0, 0, 0] rfl ?_
        refine AO.ro rfl rfl (gOn_none rfl) (RO.move rfl rfl) ?_
        refine AO.split rfl rfl (gOn_none rfl) (RO.eql rfl rfl rfl) (fun t23 => ?_) (fun t23 => ?_)
        · skip
          refine AO.ro rfl rfl (gOn_none rfl) (RO.move rfl rfl) ?_
          refine AO.ro rfl rfl ⟨43, true, rfl, rfl, rfl⟩ (RO.move rfl rfl) ?_
          refine AO.ro rfl rfl ⟨43, true, rfl, rfl, rfl⟩ (RO.fld_ptr rfl fa47_2 rfl) ?_
          refine AO.ro rfl rfl ⟨43, true, rfl, rfl, rfl⟩ (RO.ld_ptr rfl Try.underlying26 rfl rfl rfl rfl) ?_
          refine AO.ro rfl rfl ⟨43, true, rfl, rfl, rfl⟩ (RO.move rfl rfl) ?_
          refine AO.ro rfl rfl ⟨43, true, rfl, rfl, rfl⟩ (RO.idx rfl Try.underlying26 ti3 rfl rfl (by omega)) ?_
          refine AO.ro rfl rfl ⟨43, true, rfl, rfl, rfl⟩ (RO.ld_addr rfl Try.underlying3 rfl rfl rfl) ?_
          refine AO.split rfl rfl ⟨43, true, rfl, rfl, rfl⟩ (RO.eql rfl rfl rfl) (fun t24 => ?_) (fun t24 => ?_)
          · skip
            refine AO.ro rfl rfl (gOn_none rfl) (RO.pick_t rfl rfl rfl) ?_
            refine AO.ro rfl rfl (gOn_none rfl) (RO.assign rfl rfl) ?_
            refine AO.nil ?_
            refine AW.ret ?_
            refine ⟨[], [.d (.lit (.bool true))], [], rfl, ⟨⟨_, rfl, .inl rfl⟩, rfl⟩, trivial, ?_⟩
            refine ⟨true, rfl, rfl, ?_⟩
            have hz : n < 0 ∨ 0 ≤ n := by omega
            simp_all
            try omega
          · skip
            refine AO.ro rfl rfl (gOn_none rfl) (RO.pick_t rfl rfl rfl) ?_
            refine AO.ro rfl rfl (gOn_none rfl) (RO.assign rfl rfl) ?_
            refine AO.nil ?_
            refine AW.ret ?_
            refine ⟨[], [.d (.lit (.bool false))], [], rfl, ⟨⟨_, rfl, .inl rfl⟩, rfl⟩, trivial, ?_⟩
            refine ⟨false, rfl, rfl, ?_⟩
            have hz : n < 0 ∨ 0 ≤ n := by omega
            simp_all
            try omega
        · skip
          refine AO.ro rfl rfl (gOn_none rfl) (RO.move rfl rfl) ?_
          refine AO.skip rfl rfl ⟨43, false, rfl, rfl, rfl⟩ ?_
          refine AO.skip rfl rfl ⟨43, false, rfl, rfl, rfl⟩ ?_
          refine AO.skip rfl rfl ⟨43, false, rfl, rfl, rfl⟩ ?_
          refine AO.skip rfl rfl ⟨43, false, rfl, rfl, rfl⟩ ?_
          refine AO.skip rfl rfl ⟨43, false, rfl, rfl, rfl⟩ ?_
          refine AO.skip rfl rfl ⟨43, false, rfl, rfl, rfl⟩ ?_
          refine AO.skip rfl rfl ⟨43, false, rfl, rfl, rfl⟩ ?_
          refine AO.ro rfl rfl (gOn_none rfl) (RO.pick_f rfl rfl rfl) ?_
          refine AO.ro rfl rfl (gOn_none rfl) (RO.assign rfl rfl) ?_
          refine AO.nil ?_
          refine AW.ret ?_
          refine ⟨[], [.d (.lit (.bool false))], [], rfl, ⟨⟨_, rfl, .inl rfl⟩, rfl⟩, trivial, ?_⟩
          refine ⟨false, rfl, rfl, ?_⟩
          have hz : n < 0 ∨ 0 ≤ n := by omega
          simp_all
          try omega

end Go.Proofs.Ytgjpkfbaobanlaa
