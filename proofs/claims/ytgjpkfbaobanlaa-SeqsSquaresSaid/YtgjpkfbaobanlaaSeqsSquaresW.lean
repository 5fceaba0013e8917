/- The walks of the functions that 'SeqsSquares' reaches: what each of them computes. No condition. -/
import Derived.Test.YtgjpkfbaobanlaaAb4n16
import Derived.Test.YtgjpkfbaobanlaaProg
import Derived.KernelRfl
set_option maxHeartbeats 1000000
set_option maxRecDepth 20000
set_option linter.unusedSimpArgs false
set_option linter.unusedVariables false
namespace Go.Proofs.Ytgjpkfbaobanlaa
open Go Go.Ab
open Enc (enc)
structure Morph where
  Base : Int
  Images : (List (List Int))
  Coding : (List Int)
instance : Inhabited Morph := ⟨⟨default, default, default⟩⟩
instance : Enc Morph := ⟨fun m => .agg ([enc m.Base, enc m.Images, enc m.Coding]), 3, 56, fun _ => rfl, fun _ => rfl⟩
theorem ti3 : TI Try.prog 3 false 1 8 (.int .i64 0) := TI.of Try.underlying3 rfl (by kernel_rfl)
theorem ti26 : TI Try.prog 26 false 1 24 (.slice none 0 0) := TI.of Try.underlying26 rfl (by kernel_rfl)
theorem ti47 : TI Try.prog 47 true 3 56 (.agg #[.int .i64 0, .slice none 0 0, .slice none 0 0]) := TI.of Try.underlying47 rfl (by kernel_rfl)
theorem fa47_0 : FA Try.prog 47 0 0 3 1 := FA.of Try.underlying47 (by kernel_rfl) (by kernel_rfl) (by decide)
theorem fa47_1 : FA Try.prog 47 1 1 45 1 := FA.of Try.underlying47 (by kernel_rfl) (by kernel_rfl) (by decide)
theorem fa47_2 : FA Try.prog 47 2 2 26 1 := FA.of Try.underlying47 (by kernel_rfl) (by kernel_rfl) (by decide)
theorem zr3 : ZRs (enc (default : Int)).cells (Value.cells (.int .i64 0)).toList := ⟨.lit _ rfl, trivial⟩

theorem IndexFunc76_ok (s : (List Int)) (g_f : Nat) (c_f : List AV) (p_f : Int → Bool) (h_f : pureL c_f = true ∧ ∀ (xs : Array Value) (w : World), (callFunc g_f xs).run Try.prog w = .ok (.enter g_f xs) w) (f_f : ∀ (x0 : Int), Fc Try.prog g_f ([.d (.lit (.int .i64 x0))] ++ c_f) [] (fun rv hv => rv = .d (.lit (.bool (p_f x0))) ∧ hv = [])) : Fc Try.prog 76 [.d (enc (s : (List Int))), .fn g_f c_f] [] (fun rv hv => ∃ (y : Int), rv = .d (.lit (.int .i64 y)) ∧ hv = [] ∧ (y = findI p_f s)) := by
  refine Fc.of_body Try.func76 rfl Try.ntmps76 (by simp) (fun F => ?_)
  refine (show AW _ _ _ (⟨19, 0, [(0, .d (enc (s : (List Int)))), (1, .fn g_f c_f)], []⟩ : St) _ from ?_)
  refine AW.fact 0 rfl (fun ln_s => ?_)
  replace ln_s : s.length * 8 ≤ 140737488355328 := ln_s
  refine AW.seq ?_
  refine AW.region [0] rfl ?_
  refine AO.ro rfl rfl (gOn_none rfl) (RO.assign rfl rfl) ?_
  refine AO.nil ?_
  refine AW.seq ?_
  refine AW.seq ?_
  refine AW.region [0, 0, 0] rfl ?_
  refine AO.ro rfl rfl (gOn_none rfl) (RO.move rfl rfl) ?_
  refine AO.ro rfl rfl (gOn_none rfl) (RO.len rfl Try.underlying26 rfl) ?_
  refine AO.ro rfl rfl (gOn_none rfl) (RO.move rfl rfl) ?_
  refine AO.nil ?_
  refine AW.block ?_
  refine AW.loop (mp := []) (X := Int) (fun xv => ⟨19, 0, [(0, .d (enc (s : (List Int)))), (1, .fn g_f c_f), (4, .d (.lit (.int .i64 0))), (7, .d (.lit (.int .i64 ((s.length : Int))))), (8, .d (.lit (.int .i64 xv)))], []⟩) (fun xv => (0 ≤ xv ∧ xv ≤ s.length) ∧ (∀ j : Int, 0 ≤ j → j < xv → p_f (ix s j) = false)) (fun xv => (s.length - xv).toNat) 0 ?_ ⟨rfl, rfl, ⟨⟨_, rfl, .inl rfl⟩, ⟨⟨_, rfl, .inl (ren_fn h_f.1)⟩, ⟨⟨_, rfl, .inl rfl⟩, ⟨⟨_, rfl, .inl rfl⟩, ⟨⟨_, rfl, .inl rfl⟩, trivial⟩⟩⟩⟩⟩, trivial⟩ ?_
  · try dsimp only
    exact ⟨by omega, fun j a b => by omega⟩
  · skip
    intro i hx
    replace hx : (0 ≤ i ∧ i ≤ s.length) ∧ (∀ j : Int, 0 ≤ j → j < i → p_f (ix s j) = false) := hx
    obtain ⟨h1, h2⟩ := hx
    refine (show AW _ _ _ (⟨19, 0, [(0, .d (enc (s : (List Int)))), (1, .fn g_f c_f), (4, .d (.lit (.int .i64 0))), (7, .d (.lit (.int .i64 ((s.length : Int))))), (8, .d (.lit (.int .i64 i)))], []⟩ : St) _ from ?_)
    refine AW.seq ?_
    refine AW.region [0] rfl ?_
    refine AO.split rfl rfl (gOn_none rfl) (RO.lss rfl rfl rfl) (fun t1 => ?_) (fun t1 => ?_)
    ·
     refine AO.nil ?_
     refine AW.seq ?_
     refine AW.cond_t rfl ?_
     refine AW.skip ?_
     refine AW.seq ?_
     refine AW.block ?_
     refine AW.seq ?_
     refine AW.region [0, 0] rfl ?_
     refine AO.ro rfl rfl (gOn_none rfl) (RO.move rfl rfl) ?_
     refine AO.ro rfl rfl (gOn_none rfl) (RO.assign rfl rfl) ?_
     refine AO.nil ?_
     refine AW.seq ?_
     refine AW.region [0, 0, 0, 0, 0, 1] rfl ?_
     refine AO.ro rfl rfl (gOn_none rfl) (RO.move rfl rfl) ?_
     refine AO.ro rfl rfl (gOn_none rfl) (RO.move rfl rfl) ?_
     refine AO.ro rfl rfl (gOn_none rfl) (RO.move rfl rfl) ?_
     refine AO.ro rfl rfl (gOn_none rfl) (RO.idx rfl Try.underlying26 ti3 rfl rfl (by omega)) ?_
     refine AO.ro rfl rfl (gOn_none rfl) (RO.ld_addr rfl Try.underlying3 rfl rfl rfl) ?_
     refine AO.callPA («as» := [.d (.lit (.int .i64 (ix s i)))]) (gOn_none rfl) rfl rfl rfl rfl h_f.1 h_f.2 ⟨⟨_, rfl, rfl⟩, rfl⟩ (f_f (ix s i)) ?_
     rintro _ _ ⟨rfl, rfl⟩
     refine ⟨[], 0, .d (.lit (.bool (p_f (ix s i)))), [], rfl, trivial, rfl, ?_⟩
     refine AO.nil ?_
     refine AW.caseb 16 rfl (fun b2 => ?_) (fun b2 => ?_)
     ·
      refine AW.cond_t rfl ?_
      refine AW.seq ?_
      refine AW.region [0, 0] rfl ?_
      refine AO.ro rfl rfl (gOn_none rfl) (RO.move rfl rfl) ?_
      refine AO.ro rfl rfl (gOn_none rfl) (RO.assign rfl rfl) ?_
      refine AO.nil ?_
      refine AW.ret ?_
      refine ⟨[], [.d (.lit (.int .i64 i))], [], rfl, ⟨⟨_, rfl, .inl rfl⟩, rfl⟩, trivial, ?_⟩
      refine ⟨i, rfl, rfl, ?_⟩
      exact (findI_hit h1.1 (by omega) h2 (by assumption)).symm
     ·
      refine AW.cond_f rfl ?_
      refine AW.skip ?_
      refine AW.region [0, 0] rfl ?_
      refine AO.ro rfl rfl (gOn_none rfl) (RO.add rfl rfl rfl (by omega)) ?_
      refine AO.ro rfl rfl (gOn_none rfl) (RO.move rfl rfl) ?_
      refine AO.nil ?_
      refine ⟨i + 1, [], ?_, ?_, ⟨rfl, rfl, ⟨⟨_, rfl, .inl rfl⟩, ⟨⟨_, rfl, .inl (ren_fn h_f.1)⟩, ⟨⟨_, rfl, .inl rfl⟩, ⟨⟨_, rfl, .inl rfl⟩, ⟨⟨_, rfl, .inl rfl⟩, trivial⟩⟩⟩⟩⟩, trivial⟩⟩
      · try dsimp only
        exact ⟨by omega, below_succ h2 (by assumption)⟩
      · try dsimp only
        first | omega | (simp; done) | (simp_all; done) | (simp_all; omega)
    ·
     refine AO.nil ?_
     refine AW.seq ?_
     refine AW.cond_f rfl ?_
     refine AW.exit ?_
     refine AW.seq ?_
     refine AW.region [0] rfl ?_
     refine AO.ro rfl rfl (gOn_none rfl) (RO.assign rfl rfl) ?_
     refine AO.nil ?_
     refine AW.ret ?_
     refine ⟨[], [.d (.lit (.int .i64 ((-1))))], [], rfl, ⟨⟨_, rfl, .inl rfl⟩, rfl⟩, trivial, ?_⟩
     refine ⟨((-1)), rfl, rfl, ?_⟩
     exact (findI_none (fun j a b => h2 j a (by omega))).symm

theorem IndexFunc77_ok (s : (List (List Int))) (g_f : Nat) (c_f : List AV) (p_f : (List Int) → Bool) (h_f : pureL c_f = true ∧ ∀ (xs : Array Value) (w : World), (callFunc g_f xs).run Try.prog w = .ok (.enter g_f xs) w) (f_f : ∀ (x0 : (List Int)), Fc Try.prog g_f ([.d (enc (x0 : (List Int)))] ++ c_f) [] (fun rv hv => rv = .d (.lit (.bool (p_f x0))) ∧ hv = [])) : Fc Try.prog 77 [.d (enc (s : (List (List Int)))), .fn g_f c_f] [] (fun rv hv => ∃ (y : Int), rv = .d (.lit (.int .i64 y)) ∧ hv = [] ∧ (y = findI p_f s)) := by
  refine Fc.of_body Try.func77 rfl Try.ntmps77 (by simp) (fun F => ?_)
  refine (show AW _ _ _ (⟨19, 0, [(0, .d (enc (s : (List (List Int))))), (1, .fn g_f c_f)], []⟩ : St) _ from ?_)
  refine AW.fact 0 rfl (fun ln_s => ?_)
  replace ln_s : s.length * 24 ≤ 140737488355328 := ln_s
  refine AW.seq ?_
  refine AW.region [0] rfl ?_
  refine AO.ro rfl rfl (gOn_none rfl) (RO.assign rfl rfl) ?_
  refine AO.nil ?_
  refine AW.seq ?_
  refine AW.seq ?_
  refine AW.region [0, 0, 0] rfl ?_
  refine AO.ro rfl rfl (gOn_none rfl) (RO.move rfl rfl) ?_
  refine AO.ro rfl rfl (gOn_none rfl) (RO.len rfl Try.underlying45 rfl) ?_
  refine AO.ro rfl rfl (gOn_none rfl) (RO.move rfl rfl) ?_
  refine AO.nil ?_
  refine AW.block ?_
  refine AW.loop (mp := []) (X := Int) (fun xv => ⟨19, 0, [(0, .d (enc (s : (List (List Int))))), (1, .fn g_f c_f), (4, .d (.lit (.int .i64 0))), (7, .d (.lit (.int .i64 ((s.length : Int))))), (8, .d (.lit (.int .i64 xv)))], []⟩) (fun xv => (0 ≤ xv ∧ xv ≤ s.length) ∧ (∀ j : Int, 0 ≤ j → j < xv → p_f (ix s j) = false)) (fun xv => (s.length - xv).toNat) 0 ?_ ⟨rfl, rfl, ⟨⟨_, rfl, .inl rfl⟩, ⟨⟨_, rfl, .inl (ren_fn h_f.1)⟩, ⟨⟨_, rfl, .inl rfl⟩, ⟨⟨_, rfl, .inl rfl⟩, ⟨⟨_, rfl, .inl rfl⟩, trivial⟩⟩⟩⟩⟩, trivial⟩ ?_
  · try dsimp only
    exact ⟨by omega, fun j a b => by omega⟩
  · skip
    intro i hx
    replace hx : (0 ≤ i ∧ i ≤ s.length) ∧ (∀ j : Int, 0 ≤ j → j < i → p_f (ix s j) = false) := hx
    obtain ⟨h1, h2⟩ := hx
    refine (show AW _ _ _ (⟨19, 0, [(0, .d (enc (s : (List (List Int))))), (1, .fn g_f c_f), (4, .d (.lit (.int .i64 0))), (7, .d (.lit (.int .i64 ((s.length : Int))))), (8, .d (.lit (.int .i64 i)))], []⟩ : St) _ from ?_)
    refine AW.seq ?_
    refine AW.region [0] rfl ?_
    refine AO.split rfl rfl (gOn_none rfl) (RO.lss rfl rfl rfl) (fun t1 => ?_) (fun t1 => ?_)
    ·
     refine AO.nil ?_
     refine AW.seq ?_
     refine AW.cond_t rfl ?_
     refine AW.skip ?_
     refine AW.seq ?_
     refine AW.block ?_
     refine AW.seq ?_
     refine AW.region [0, 0] rfl ?_
     refine AO.ro rfl rfl (gOn_none rfl) (RO.move rfl rfl) ?_
     refine AO.ro rfl rfl (gOn_none rfl) (RO.assign rfl rfl) ?_
     refine AO.nil ?_
     refine AW.seq ?_
     refine AW.region [0, 0, 0, 0, 0, 1] rfl ?_
     refine AO.ro rfl rfl (gOn_none rfl) (RO.move rfl rfl) ?_
     refine AO.ro rfl rfl (gOn_none rfl) (RO.move rfl rfl) ?_
     refine AO.ro rfl rfl (gOn_none rfl) (RO.move rfl rfl) ?_
     refine AO.ro rfl rfl (gOn_none rfl) (RO.idx rfl Try.underlying45 ti26 rfl rfl (by omega)) ?_
     refine AO.ro rfl rfl (gOn_none rfl) (RO.ld_addr rfl Try.underlying26 rfl rfl rfl) ?_
     refine AO.callPA («as» := [.d (enc (ix s i : (List Int)))]) (gOn_none rfl) rfl rfl rfl rfl h_f.1 h_f.2 ⟨⟨_, rfl, rfl⟩, rfl⟩ (f_f (ix s i)) ?_
     rintro _ _ ⟨rfl, rfl⟩
     refine ⟨[], 0, .d (.lit (.bool (p_f (ix s i)))), [], rfl, trivial, rfl, ?_⟩
     refine AO.nil ?_
     refine AW.caseb 16 rfl (fun b2 => ?_) (fun b2 => ?_)
     ·
      refine AW.cond_t rfl ?_
      refine AW.seq ?_
      refine AW.region [0, 0] rfl ?_
      refine AO.ro rfl rfl (gOn_none rfl) (RO.move rfl rfl) ?_
      refine AO.ro rfl rfl (gOn_none rfl) (RO.assign rfl rfl) ?_
      refine AO.nil ?_
      refine AW.ret ?_
      refine ⟨[], [.d (.lit (.int .i64 i))], [], rfl, ⟨⟨_, rfl, .inl rfl⟩, rfl⟩, trivial, ?_⟩
      refine ⟨i, rfl, rfl, ?_⟩
      exact (findI_hit h1.1 (by omega) h2 (by assumption)).symm
     ·
      refine AW.cond_f rfl ?_
      refine AW.skip ?_
      refine AW.region [0, 0] rfl ?_
      refine AO.ro rfl rfl (gOn_none rfl) (RO.add rfl rfl rfl (by omega)) ?_
      refine AO.ro rfl rfl (gOn_none rfl) (RO.move rfl rfl) ?_
      refine AO.nil ?_
      refine ⟨i + 1, [], ?_, ?_, ⟨rfl, rfl, ⟨⟨_, rfl, .inl rfl⟩, ⟨⟨_, rfl, .inl (ren_fn h_f.1)⟩, ⟨⟨_, rfl, .inl rfl⟩, ⟨⟨_, rfl, .inl rfl⟩, ⟨⟨_, rfl, .inl rfl⟩, trivial⟩⟩⟩⟩⟩, trivial⟩⟩
      · try dsimp only
        exact ⟨by omega, below_succ h2 (by assumption)⟩
      · try dsimp only
        first | omega | (simp; done) | (simp_all; done) | (simp_all; omega)
    ·
     refine AO.nil ?_
     refine AW.seq ?_
     refine AW.cond_f rfl ?_
     refine AW.exit ?_
     refine AW.seq ?_
     refine AW.region [0] rfl ?_
     refine AO.ro rfl rfl (gOn_none rfl) (RO.assign rfl rfl) ?_
     refine AO.nil ?_
     refine AW.ret ?_
     refine ⟨[], [.d (.lit (.int .i64 ((-1))))], [], rfl, ⟨⟨_, rfl, .inl rfl⟩, rfl⟩, trivial, ?_⟩
     refine ⟨((-1)), rfl, rfl, ?_⟩
     exact (findI_none (fun j a b => h2 j a (by omega))).symm

theorem ContainsFunc58_ok (s : (List Int)) (g_f : Nat) (c_f : List AV) (p_f : Int → Bool) (h_f : pureL c_f = true ∧ ∀ (xs : Array Value) (w : World), (callFunc g_f xs).run Try.prog w = .ok (.enter g_f xs) w) (f_f : ∀ (x0 : Int), Fc Try.prog g_f ([.d (.lit (.int .i64 x0))] ++ c_f) [] (fun rv hv => rv = .d (.lit (.bool (p_f x0))) ∧ hv = [])) : Fc Try.prog 58 [.d (enc (s : (List Int))), .fn g_f c_f] [] (fun rv hv => ∃ (y : Bool), rv = .d (.lit (.bool y)) ∧ hv = [] ∧ (y = s.any p_f)) := by
  refine Fc.of_body Try.func58 rfl Try.ntmps58 (by simp) (fun F => ?_)
  refine (show AW _ _ _ (⟨9, 0, [(0, .d (enc (s : (List Int)))), (1, .fn g_f c_f)], []⟩ : St) _ from ?_)
  refine AW.fact 0 rfl (fun ln_s => ?_)
  replace ln_s : s.length * 8 ≤ 140737488355328 := ln_s
  refine AW.seq ?_
  refine AW.region [0] rfl ?_
  refine AO.ro rfl rfl (gOn_none rfl) (RO.assign rfl rfl) ?_
  refine AO.nil ?_
  refine AW.seq ?_
  refine AW.region [0, 0, 1, 0, 0] rfl ?_
  refine AO.ro rfl rfl (gOn_none rfl) (RO.move rfl rfl) ?_
  refine AO.ro rfl rfl (gOn_none rfl) (RO.move rfl rfl) ?_
  refine AO.callA («as» := [.d (enc (s : (List Int))), .fn g_f c_f]) (gOn_none rfl) rfl rfl rfl rfl Try.call76 ⟨⟨_, rfl, rfl⟩, ⟨_, rfl, ren_fn h_f.1⟩, rfl⟩ (IndexFunc76_ok s g_f c_f p_f h_f f_f) ?_
  rintro _ _ ⟨y1, rfl, rfl, c1⟩
  refine ⟨[], 0, .d (.lit (.int .i64 y1)), [], rfl, trivial, rfl, ?_⟩
  refine AO.split rfl rfl (gOn_none rfl) (RO.geq rfl rfl rfl) (fun t2 => ?_) (fun t2 => ?_)
  ·
   refine AO.ro rfl rfl (gOn_none rfl) (RO.assign rfl rfl) ?_
   refine AO.nil ?_
   refine AW.ret ?_
   refine ⟨[], [.d (.lit (.bool true))], [], rfl, ⟨⟨_, rfl, .inl rfl⟩, rfl⟩, trivial, ?_⟩
   refine ⟨true, rfl, rfl, ?_⟩
   rw [← findI_any]; subst_vars; simp; omega
  ·
   refine AO.ro rfl rfl (gOn_none rfl) (RO.assign rfl rfl) ?_
   refine AO.nil ?_
   refine AW.ret ?_
   refine ⟨[], [.d (.lit (.bool false))], [], rfl, ⟨⟨_, rfl, .inl rfl⟩, rfl⟩, trivial, ?_⟩
   refine ⟨false, rfl, rfl, ?_⟩
   rw [← findI_any]; subst_vars; simp; omega

theorem ContainsFunc60_ok (s : (List (List Int))) (g_f : Nat) (c_f : List AV) (p_f : (List Int) → Bool) (h_f : pureL c_f = true ∧ ∀ (xs : Array Value) (w : World), (callFunc g_f xs).run Try.prog w = .ok (.enter g_f xs) w) (f_f : ∀ (x0 : (List Int)), Fc Try.prog g_f ([.d (enc (x0 : (List Int)))] ++ c_f) [] (fun rv hv => rv = .d (.lit (.bool (p_f x0))) ∧ hv = [])) : Fc Try.prog 60 [.d (enc (s : (List (List Int)))), .fn g_f c_f] [] (fun rv hv => ∃ (y : Bool), rv = .d (.lit (.bool y)) ∧ hv = [] ∧ (y = s.any p_f)) := by
  refine Fc.of_body Try.func60 rfl Try.ntmps60 (by simp) (fun F => ?_)
  refine (show AW _ _ _ (⟨9, 0, [(0, .d (enc (s : (List (List Int))))), (1, .fn g_f c_f)], []⟩ : St) _ from ?_)
  refine AW.fact 0 rfl (fun ln_s => ?_)
  replace ln_s : s.length * 24 ≤ 140737488355328 := ln_s
  refine AW.seq ?_
  refine AW.region [0] rfl ?_
  refine AO.ro rfl rfl (gOn_none rfl) (RO.assign rfl rfl) ?_
  refine AO.nil ?_
  refine AW.seq ?_
  refine AW.region [0, 0, 1, 0, 0] rfl ?_
  refine AO.ro rfl rfl (gOn_none rfl) (RO.move rfl rfl) ?_
  refine AO.ro rfl rfl (gOn_none rfl) (RO.move rfl rfl) ?_
  refine AO.callA («as» := [.d (enc (s : (List (List Int)))), .fn g_f c_f]) (gOn_none rfl) rfl rfl rfl rfl Try.call77 ⟨⟨_, rfl, rfl⟩, ⟨_, rfl, ren_fn h_f.1⟩, rfl⟩ (IndexFunc77_ok s g_f c_f p_f h_f f_f) ?_
  rintro _ _ ⟨y1, rfl, rfl, c1⟩
  refine ⟨[], 0, .d (.lit (.int .i64 y1)), [], rfl, trivial, rfl, ?_⟩
  refine AO.split rfl rfl (gOn_none rfl) (RO.geq rfl rfl rfl) (fun t2 => ?_) (fun t2 => ?_)
  ·
   refine AO.ro rfl rfl (gOn_none rfl) (RO.assign rfl rfl) ?_
   refine AO.nil ?_
   refine AW.ret ?_
   refine ⟨[], [.d (.lit (.bool true))], [], rfl, ⟨⟨_, rfl, .inl rfl⟩, rfl⟩, trivial, ?_⟩
   refine ⟨true, rfl, rfl, ?_⟩
   rw [← findI_any]; subst_vars; simp; omega
  ·
   refine AO.ro rfl rfl (gOn_none rfl) (RO.assign rfl rfl) ?_
   refine AO.nil ?_
   refine AW.ret ?_
   refine ⟨[], [.d (.lit (.bool false))], [], rfl, ⟨⟨_, rfl, .inl rfl⟩, rfl⟩, trivial, ?_⟩
   refine ⟨false, rfl, rfl, ?_⟩
   rw [← findI_any]; subst_vars; simp; omega

theorem Equal73_ok (s : (List Int)) (t : (List Int)) : Fc Try.prog 73 [.d (enc (s : (List Int))), .d (enc (t : (List Int)))] [] (fun rv hv => ∃ (y : Bool), rv = .d (.lit (.bool y)) ∧ hv = [] ∧ (y = decide (s = t))) := by
  refine Fc.of_body Try.func73 rfl Try.ntmps73 (by simp) (fun F => ?_)
  refine (show AW _ _ _ (⟨26, 0, [(0, .d (enc (s : (List Int)))), (1, .d (enc (t : (List Int))))], []⟩ : St) _ from ?_)
  refine AW.fact 0 rfl (fun ln_s => ?_)
  replace ln_s : s.length * 8 ≤ 140737488355328 := ln_s
  refine AW.fact 1 rfl (fun ln_t => ?_)
  replace ln_t : t.length * 8 ≤ 140737488355328 := ln_t
  refine AW.seq ?_
  refine AW.region [0] rfl ?_
  refine AO.ro rfl rfl (gOn_none rfl) (RO.assign rfl rfl) ?_
  refine AO.nil ?_
  refine AW.seq ?_
  refine AW.seq ?_
  refine AW.region [0, 0, 0, 0, 0] rfl ?_
  refine AO.ro rfl rfl (gOn_none rfl) (RO.move rfl rfl) ?_
  refine AO.ro rfl rfl (gOn_none rfl) (RO.len rfl Try.underlying26 rfl) ?_
  refine AO.ro rfl rfl (gOn_none rfl) (RO.move rfl rfl) ?_
  refine AO.ro rfl rfl (gOn_none rfl) (RO.len rfl Try.underlying26 rfl) ?_
  refine AO.splitn rfl rfl (gOn_none rfl) (RO.neq rfl rfl rfl) (fun t1 => ?_) (fun t1 => ?_)
  ·
   refine AO.nil ?_
   refine AW.cond_t rfl ?_
   refine AW.seq ?_
   refine AW.region [0] rfl ?_
   refine AO.ro rfl rfl (gOn_none rfl) (RO.assign rfl rfl) ?_
   refine AO.nil ?_
   refine AW.ret ?_
   refine ⟨[], [.d (.lit (.bool false))], [], rfl, ⟨⟨_, rfl, .inl rfl⟩, rfl⟩, trivial, ?_⟩
   refine ⟨false, rfl, rfl, ?_⟩
   rw [eq_comm, decide_eq_false_iff_not]; rintro rfl; contradiction
  ·
   refine AO.nil ?_
   refine AW.cond_f rfl ?_
   refine AW.skip ?_
   refine AW.seq ?_
   refine AW.seq ?_
   refine AW.region [0, 0, 0] rfl ?_
   refine AO.ro rfl rfl (gOn_none rfl) (RO.move rfl rfl) ?_
   refine AO.ro rfl rfl (gOn_none rfl) (RO.len rfl Try.underlying26 rfl) ?_
   refine AO.ro rfl rfl (gOn_none rfl) (RO.move rfl rfl) ?_
   refine AO.nil ?_
   refine AW.block ?_
   refine AW.loop (mp := []) (X := Int) (fun xv => ⟨26, 0, [(0, .d (enc (s : (List Int)))), (1, .d (enc (t : (List Int)))), (4, .d (.lit (.bool false))), (12, .d (.lit (.int .i64 ((s.length : Int))))), (13, .d (.lit (.int .i64 xv)))], []⟩) (fun xv => (0 ≤ xv ∧ xv ≤ s.length) ∧ (s.length = t.length) ∧ (∀ j : Int, 0 ≤ j → j < xv → ix s j = ix t j)) (fun xv => (s.length - xv).toNat) 0 ?_ ⟨rfl, rfl, ⟨⟨_, rfl, .inl rfl⟩, ⟨⟨_, rfl, .inl rfl⟩, ⟨⟨_, rfl, .inl rfl⟩, ⟨⟨_, rfl, .inl rfl⟩, ⟨⟨_, rfl, .inl rfl⟩, trivial⟩⟩⟩⟩⟩, trivial⟩ ?_
   · try dsimp only
     exact ⟨by omega, by omega, fun j a b => by omega⟩
   · skip
     intro i hx
     replace hx : (0 ≤ i ∧ i ≤ s.length) ∧ (s.length = t.length) ∧ (∀ j : Int, 0 ≤ j → j < i → ix s j = ix t j) := hx
     obtain ⟨h1, h2, h3⟩ := hx
     refine (show AW _ _ _ (⟨26, 0, [(0, .d (enc (s : (List Int)))), (1, .d (enc (t : (List Int)))), (4, .d (.lit (.bool false))), (12, .d (.lit (.int .i64 ((s.length : Int))))), (13, .d (.lit (.int .i64 i)))], []⟩ : St) _ from ?_)
     refine AW.seq ?_
     refine AW.region [0] rfl ?_
     refine AO.split rfl rfl (gOn_none rfl) (RO.lss rfl rfl rfl) (fun t2 => ?_) (fun t2 => ?_)
     ·
      refine AO.nil ?_
      refine AW.seq ?_
      refine AW.cond_t rfl ?_
      refine AW.skip ?_
      refine AW.seq ?_
      refine AW.block ?_
      refine AW.seq ?_
      refine AW.region [0, 0] rfl ?_
      refine AO.ro rfl rfl (gOn_none rfl) (RO.move rfl rfl) ?_
      refine AO.ro rfl rfl (gOn_none rfl) (RO.assign rfl rfl) ?_
      refine AO.nil ?_
      refine AW.seq ?_
      refine AW.drawn [(0, 0), (0, 1), (0, 2), (0, 3), (0, 4), (0, 5), (0, 6), (0, 7), (0, 8)] (by kernel_rfl) (by kernel_rfl) ?_
      refine AO.ro rfl rfl (gOn_none rfl) (RO.move rfl rfl) ?_
      refine AO.ro rfl rfl (gOn_none rfl) (RO.move rfl rfl) ?_
      refine AO.ro rfl rfl (gOn_none rfl) (RO.idx rfl Try.underlying26 ti3 rfl rfl (by omega)) ?_
      refine AO.ro rfl rfl (gOn_none rfl) (RO.ld_addr rfl Try.underlying3 rfl rfl rfl) ?_
      refine AO.ro rfl rfl (gOn_none rfl) (RO.move rfl rfl) ?_
      refine AO.ro rfl rfl (gOn_none rfl) (RO.move rfl rfl) ?_
      refine AO.ro rfl rfl (gOn_none rfl) (RO.idx rfl Try.underlying26 ti3 rfl rfl (by omega)) ?_
      refine AO.ro rfl rfl (gOn_none rfl) (RO.ld_addr rfl Try.underlying3 rfl rfl rfl) ?_
      refine AO.splitn rfl rfl (gOn_none rfl) (RO.neq rfl rfl rfl) (fun t3 => ?_) (fun t3 => ?_)
      ·
       refine AO.nil ?_
       refine AW.cond_t rfl ?_
       refine AW.seq ?_
       refine AW.region [0] rfl ?_
       refine AO.ro rfl rfl (gOn_none rfl) (RO.assign rfl rfl) ?_
       refine AO.nil ?_
       refine AW.ret ?_
       refine ⟨[], [.d (.lit (.bool false))], [], rfl, ⟨⟨_, rfl, .inl rfl⟩, rfl⟩, trivial, ?_⟩
       refine ⟨false, rfl, rfl, ?_⟩
       rw [eq_comm, decide_eq_false_iff_not]; rintro rfl; contradiction
      ·
       refine AO.nil ?_
       refine AW.cond_f rfl ?_
       refine AW.skip ?_
       refine AW.region [0, 0] rfl ?_
       refine AO.ro rfl rfl (gOn_none rfl) (RO.add rfl rfl rfl (by omega)) ?_
       refine AO.ro rfl rfl (gOn_none rfl) (RO.move rfl rfl) ?_
       refine AO.nil ?_
       refine ⟨i + 1, [], ?_, ?_, ⟨rfl, rfl, ⟨⟨_, rfl, .inl rfl⟩, ⟨⟨_, rfl, .inl rfl⟩, ⟨⟨_, rfl, .inl rfl⟩, ⟨⟨_, rfl, .inl rfl⟩, ⟨⟨_, rfl, .inl rfl⟩, trivial⟩⟩⟩⟩⟩, trivial⟩⟩
       · try dsimp only
         exact ⟨by omega, h2, below_succ h3 (by assumption)⟩
       · try dsimp only
         first | omega | (simp; done) | (simp_all; done) | (simp_all; omega)
     ·
      refine AO.nil ?_
      refine AW.seq ?_
      refine AW.cond_f rfl ?_
      refine AW.exit ?_
      refine AW.seq ?_
      refine AW.region [0] rfl ?_
      refine AO.ro rfl rfl (gOn_none rfl) (RO.assign rfl rfl) ?_
      refine AO.nil ?_
      refine AW.ret ?_
      refine ⟨[], [.d (.lit (.bool true))], [], rfl, ⟨⟨_, rfl, .inl rfl⟩, rfl⟩, trivial, ?_⟩
      refine ⟨true, rfl, rfl, ?_⟩
      rw [eq_comm, decide_eq_true_iff]; exact ix_ext h2 (fun j a b => h3 j a (by omega))

/-- May these be a word's letters? (the number of the error) -/
def mayE (letters : Int) (w : List Int) : Int :=
  if letters < 1 ∨ 4 < letters then 2 else if (60 : Int) < w.length then 1 else if ∀ x ∈ w, 0 ≤ x ∧ x < letters then 0 else 2
theorem mayE_range {letters : Int} {w : List Int} (h : letters < 1 ∨ 4 < letters) : mayE letters w = 2 := by unfold mayE; rw [if_pos h]
theorem mayE_size {letters : Int} {w : List Int} (h : 1 ≤ letters ∧ letters ≤ 4) (h2 : (60 : Int) < w.length) : mayE letters w = 1 := by unfold mayE; rw [if_neg (by omega), if_pos h2]
theorem mayE_bad {letters i : Int} {w : List Int} (h : 1 ≤ letters ∧ letters ≤ 4) (h2 : w.length ≤ (60 : Int)) (h0 : 0 ≤ i ∧ i < w.length) (hx : ¬ (0 ≤ ix w i ∧ ix w i < letters)) : mayE letters w = 2 := by
  unfold mayE; rw [if_neg (by omega), if_neg (by omega), if_neg]; intro hh; exact hx (hh _ (ix_mem h0.1 h0.2))
theorem mayE_ok {letters : Int} {w : List Int} (h : 1 ≤ letters ∧ letters ≤ 4) (h2 : w.length ≤ (60 : Int)) (hx : ∀ j : Int, 0 ≤ j → j < w.length → 0 ≤ ix w j ∧ ix w j < letters) : mayE letters w = 0 := by
  unfold mayE; rw [if_neg (by omega), if_neg (by omega), if_pos]; exact forall_ix.2 hx
theorem mayE_zero {letters : Int} {w : List Int} (h : mayE letters w = 0) : (1 ≤ letters ∧ letters ≤ 4) ∧ w.length ≤ (60 : Int) ∧ ∀ x ∈ w, 0 ≤ x ∧ x < letters := by
  unfold mayE at h
  split at h
  · omega
  · split at h
    · omega
    · split at h
      · rename_i h3; exact ⟨by omega, by omega, h3⟩
      · omega
theorem words_ok (u : (List Int)) (v : (List Int)) : Fc Try.prog 16 [.d (enc (u : (List Int))), .d (enc (v : (List Int)))] [] (fun rv hv => ∃ (y : Bool), rv = .d (.lit (.bool y)) ∧ hv = [] ∧ (y = decide (u = v))) := by
  refine Fc.of_body Try.func16 rfl Try.ntmps16 (by simp) (fun F => ?_)
  refine (show AW _ _ _ (⟨26, 0, [(0, .d (enc (u : (List Int)))), (1, .d (enc (v : (List Int))))], []⟩ : St) _ from ?_)
  refine AW.fact 0 rfl (fun ln_u => ?_)
  replace ln_u : u.length * 8 ≤ 140737488355328 := ln_u
  refine AW.fact 1 rfl (fun ln_v => ?_)
  replace ln_v : v.length * 8 ≤ 140737488355328 := ln_v
  refine AW.seq ?_
  refine AW.region [0] rfl ?_
  refine AO.ro rfl rfl (gOn_none rfl) (RO.assign rfl rfl) ?_
  refine AO.nil ?_
  refine AW.seq ?_
  refine AW.seq ?_
  refine AW.region [0, 0, 0, 0, 0] rfl ?_
  refine AO.ro rfl rfl (gOn_none rfl) (RO.move rfl rfl) ?_
  refine AO.ro rfl rfl (gOn_none rfl) (RO.len rfl Try.underlying26 rfl) ?_
  refine AO.ro rfl rfl (gOn_none rfl) (RO.move rfl rfl) ?_
  refine AO.ro rfl rfl (gOn_none rfl) (RO.len rfl Try.underlying26 rfl) ?_
  refine AO.splitn rfl rfl (gOn_none rfl) (RO.neq rfl rfl rfl) (fun t1 => ?_) (fun t1 => ?_)
  ·
   refine AO.nil ?_
   refine AW.cond_t rfl ?_
   refine AW.seq ?_
   refine AW.region [0] rfl ?_
   refine AO.ro rfl rfl (gOn_none rfl) (RO.assign rfl rfl) ?_
   refine AO.nil ?_
   refine AW.ret ?_
   refine ⟨[], [.d (.lit (.bool false))], [], rfl, ⟨⟨_, rfl, .inl rfl⟩, rfl⟩, trivial, ?_⟩
   refine ⟨false, rfl, rfl, ?_⟩
   rw [eq_comm, decide_eq_false_iff_not]; rintro rfl; contradiction
  ·
   refine AO.nil ?_
   refine AW.cond_f rfl ?_
   refine AW.skip ?_
   refine AW.seq ?_
   refine AW.seq ?_
   refine AW.region [0] rfl ?_
   refine AO.ro rfl rfl (gOn_none rfl) (RO.assign rfl rfl) ?_
   refine AO.nil ?_
   refine AW.block ?_
   refine AW.loop (mp := []) (X := Int) (fun xv => ⟨26, 0, [(0, .d (enc (u : (List Int)))), (1, .d (enc (v : (List Int)))), (4, .d (.lit (.bool false))), (5, .d (.lit (.int .i64 xv)))], []⟩) (fun xv => (0 ≤ xv ∧ xv ≤ u.length) ∧ (u.length = v.length) ∧ (∀ j : Int, 0 ≤ j → j < xv → ix u j = ix v j)) (fun xv => (u.length - xv).toNat) 0 ?_ ⟨rfl, rfl, ⟨⟨_, rfl, .inl rfl⟩, ⟨⟨_, rfl, .inl rfl⟩, ⟨⟨_, rfl, .inl rfl⟩, ⟨⟨_, rfl, .inl rfl⟩, trivial⟩⟩⟩⟩, trivial⟩ ?_
   · try dsimp only
     exact ⟨by omega, by omega, fun j a b => by omega⟩
   · skip
     intro i hx
     replace hx : (0 ≤ i ∧ i ≤ u.length) ∧ (u.length = v.length) ∧ (∀ j : Int, 0 ≤ j → j < i → ix u j = ix v j) := hx
     obtain ⟨h1, h2, h3⟩ := hx
     refine (show AW _ _ _ (⟨26, 0, [(0, .d (enc (u : (List Int)))), (1, .d (enc (v : (List Int)))), (4, .d (.lit (.bool false))), (5, .d (.lit (.int .i64 i)))], []⟩ : St) _ from ?_)
     refine AW.seq ?_
     refine AW.seq ?_
     refine AW.region [0, 0, 0, 0] rfl ?_
     refine AO.ro rfl rfl (gOn_none rfl) (RO.move rfl rfl) ?_
     refine AO.ro rfl rfl (gOn_none rfl) (RO.move rfl rfl) ?_
     refine AO.ro rfl rfl (gOn_none rfl) (RO.len rfl Try.underlying26 rfl) ?_
     refine AO.split rfl rfl (gOn_none rfl) (RO.lss rfl rfl rfl) (fun t2 => ?_) (fun t2 => ?_)
     ·
      refine AO.nil ?_
      refine AW.cond_t rfl ?_
      refine AW.skip ?_
      refine AW.seq ?_
      refine AW.block ?_
      refine AW.seq ?_
      refine AW.drawn [(0, 0), (0, 1), (0, 2), (0, 3), (0, 4), (0, 5), (0, 6), (0, 7), (0, 8)] (by kernel_rfl) (by kernel_rfl) ?_
      refine AO.ro rfl rfl (gOn_none rfl) (RO.move rfl rfl) ?_
      refine AO.ro rfl rfl (gOn_none rfl) (RO.move rfl rfl) ?_
      refine AO.ro rfl rfl (gOn_none rfl) (RO.idx rfl Try.underlying26 ti3 rfl rfl (by omega)) ?_
      refine AO.ro rfl rfl (gOn_none rfl) (RO.ld_addr rfl Try.underlying3 rfl rfl rfl) ?_
      refine AO.ro rfl rfl (gOn_none rfl) (RO.move rfl rfl) ?_
      refine AO.ro rfl rfl (gOn_none rfl) (RO.move rfl rfl) ?_
      refine AO.ro rfl rfl (gOn_none rfl) (RO.idx rfl Try.underlying26 ti3 rfl rfl (by omega)) ?_
      refine AO.ro rfl rfl (gOn_none rfl) (RO.ld_addr rfl Try.underlying3 rfl rfl rfl) ?_
      refine AO.splitn rfl rfl (gOn_none rfl) (RO.neq rfl rfl rfl) (fun t3 => ?_) (fun t3 => ?_)
      ·
       refine AO.nil ?_
       refine AW.cond_t rfl ?_
       refine AW.seq ?_
       refine AW.region [0] rfl ?_
       refine AO.ro rfl rfl (gOn_none rfl) (RO.assign rfl rfl) ?_
       refine AO.nil ?_
       refine AW.ret ?_
       refine ⟨[], [.d (.lit (.bool false))], [], rfl, ⟨⟨_, rfl, .inl rfl⟩, rfl⟩, trivial, ?_⟩
       refine ⟨false, rfl, rfl, ?_⟩
       rw [eq_comm, decide_eq_false_iff_not]; rintro rfl; contradiction
      ·
       refine AO.nil ?_
       refine AW.cond_f rfl ?_
       refine AW.skip ?_
       refine AW.region [0, 0, 0] rfl ?_
       refine AO.ro rfl rfl (gOn_none rfl) (RO.move rfl rfl) ?_
       refine AO.ro rfl rfl (gOn_none rfl) (RO.add rfl rfl rfl (by omega)) ?_
       refine AO.ro rfl rfl (gOn_none rfl) (RO.assign rfl rfl) ?_
       refine AO.nil ?_
       refine ⟨i + 1, [], ?_, ?_, ⟨rfl, rfl, ⟨⟨_, rfl, .inl rfl⟩, ⟨⟨_, rfl, .inl rfl⟩, ⟨⟨_, rfl, .inl rfl⟩, ⟨⟨_, rfl, .inl rfl⟩, trivial⟩⟩⟩⟩, trivial⟩⟩
       · try dsimp only
         exact ⟨by omega, h2, below_succ h3 (by assumption)⟩
       · try dsimp only
         first | omega | (simp; done) | (simp_all; done) | (simp_all; omega)
     ·
      refine AO.nil ?_
      refine AW.cond_f rfl ?_
      refine AW.exit ?_
      refine AW.seq ?_
      refine AW.region [0] rfl ?_
      refine AO.ro rfl rfl (gOn_none rfl) (RO.assign rfl rfl) ?_
      refine AO.nil ?_
      refine AW.ret ?_
      refine ⟨[], [.d (.lit (.bool true))], [], rfl, ⟨⟨_, rfl, .inl rfl⟩, rfl⟩, trivial, ?_⟩
      refine ⟨true, rfl, rfl, ?_⟩
      rw [eq_comm, decide_eq_true_iff]; exact ix_ext h2 (fun j a b => h3 j a (by omega))

def MBase (m : Morph) : Prop := 2 ≤ m.Base ∧ m.Base ≤ 4
def MSize (m : Morph) : Prop := 1 ≤ (m.Images.length : Int) ∧ (m.Images.length : Int) ≤ 4
def MShape (m : Morph) : Prop := (m.Coding.length : Int) = m.Images.length ∧ ∀ w ∈ m.Images, (w.length : Int) = m.Base
def MRow (m : Morph) (a : Int) : Prop := (∀ k : Int, 0 ≤ k → k < m.Base → 0 ≤ ix (ix m.Images a) k ∧ ix (ix m.Images a) k < m.Images.length) ∧ 0 ≤ ix m.Coding a ∧ ix m.Coding a ≤ 9
def MTab (m : Morph) : Prop := ∀ a : Int, 0 ≤ a → a < m.Images.length → MRow m a
def MZero (m : Morph) : Prop := ix (ix m.Images 0) 0 = 0
open Classical in
/-- The fault of a morphism. -/
noncomputable def morE (m : Morph) : Int := if ¬ MBase m then 2 else if ¬ MSize m then 1 else if ¬ MShape m then 3 else if ¬ MTab m then 2 else if ¬ MZero m then 3 else 0
structure MOK (m : Morph) : Prop where
  base : MBase m
  size : MSize m
  shape : MShape m
  tab : MTab m
  zero : MZero m
theorem mor_base {m : Morph} (h : ¬ MBase m) : morE m = 2 := if_pos h
theorem mor_size {m : Morph} (h1 : MBase m) (h : ¬ MSize m) : morE m = 1 := by unfold morE; rw [if_neg (not_not_intro h1), if_pos h]
theorem mor_shape {m : Morph} (h1 : MBase m) (h2 : MSize m) (h : ¬ MShape m) : morE m = 3 := by unfold morE; rw [if_neg (not_not_intro h1), if_neg (not_not_intro h2), if_pos h]
theorem mor_tab {m : Morph} (h1 : MBase m) (h2 : MSize m) (h3 : MShape m) (h : ¬ MTab m) : morE m = 2 := by unfold morE; rw [if_neg (not_not_intro h1), if_neg (not_not_intro h2), if_neg (not_not_intro h3), if_pos h]
theorem mor_zero {m : Morph} (h1 : MBase m) (h2 : MSize m) (h3 : MShape m) (h4 : MTab m) (h : ¬ MZero m) : morE m = 3 := by
  unfold morE; rw [if_neg (not_not_intro h1), if_neg (not_not_intro h2), if_neg (not_not_intro h3), if_neg (not_not_intro h4), if_pos h]
theorem mor_ok {m : Morph} (h1 : MBase m) (h2 : MSize m) (h3 : MShape m) (h4 : MTab m) (h : MZero m) : morE m = 0 := by
  unfold morE; rw [if_neg (not_not_intro h1), if_neg (not_not_intro h2), if_neg (not_not_intro h3), if_neg (not_not_intro h4), if_neg (not_not_intro h)]
theorem mor_of {m : Morph} (h : morE m = 0) : MOK m := by
  by_cases h1 : MBase m
  · by_cases h2 : MSize m
    · by_cases h3 : MShape m
      · by_cases h4 : MTab m
        · by_cases h5 : MZero m
          · exact ⟨h1, h2, h3, h4, h5⟩
          · rw [mor_zero h1 h2 h3 h4 h5] at h; omega
        · rw [mor_tab h1 h2 h3 h4] at h; omega
      · rw [mor_shape h1 h2 h3] at h; omega
    · rw [mor_size h1 h2] at h; omega
  · rw [mor_base h1] at h; omega
theorem MOK.len {m : Morph} (h : MOK m) {a : Int} (h0 : 0 ≤ a) (ha : a < m.Images.length) : ((ix m.Images a).length : Int) = m.Base := h.shape.2 _ (ix_mem h0 ha)
/-- The letter at a place. -/
def letF (m : Morph) : Nat → Int → Int
  | 0, _ => 0
  | f + 1, n => if n = 0 then 0 else ix (ix m.Images (letF m f (n / m.Base))) (n % m.Base)
def letT (m : Morph) (n : Int) : Int := letF m n.toNat n
theorem div_lt {n b : Int} (hn : 0 < n) (hb : 2 ≤ b) : 0 ≤ n / b ∧ n / b < n := ⟨Int.ediv_nonneg (by omega) (by omega), Int.ediv_lt_of_lt_mul (by omega) (by
  have : n * 2 ≤ n * b := Int.mul_le_mul_of_nonneg_left hb (by omega)
  omega)⟩
theorem letF_eq {m : Morph} (hb : 2 ≤ m.Base) : ∀ (f : Nat) (n : Int), 0 ≤ n → n.toNat ≤ f → letF m f n = letT m n
  | 0, n, h0, h => by
    have : n = 0 := by omega
    subst this; rfl
  | f + 1, n, h0, h => by
    by_cases hn : n = 0
    · subst hn; rfl
    · have hd := div_lt (n := n) (b := m.Base) (by omega) hb
      obtain ⟨k, hk⟩ : ∃ k, n.toNat = k + 1 := ⟨n.toNat - 1, by omega⟩
      unfold letT
      rw [hk]
      simp only [letF, if_neg hn]
      rw [letF_eq hb f _ hd.1 (by omega), letF_eq hb k _ hd.1 (by omega)]
theorem letT_zero {m : Morph} : letT m 0 = 0 := rfl
theorem letT_step {m : Morph} (hb : 2 ≤ m.Base) {n : Int} (hn : 0 < n) : letT m n = ix (ix m.Images (letT m (n / m.Base))) (n % m.Base) := by
  have hd := div_lt (n := n) (b := m.Base) (by omega) hb
  obtain ⟨k, hk⟩ : ∃ k, n.toNat = k + 1 := ⟨n.toNat - 1, by omega⟩
  show letF m n.toNat n = _
  rw [hk]
  simp only [letF, if_neg (show ¬ n = 0 by omega)]
  rw [letF_eq hb k _ hd.1 (by omega)]
theorem mod_in {n b : Int} (hb : 2 ≤ b) : 0 ≤ n % b ∧ n % b < b := ⟨Int.emod_nonneg _ (by omega), Int.emod_lt_of_pos _ (by omega)⟩
theorem letT_in {m : Morph} (h : MOK m) : ∀ (f : Nat) (n : Int), n.toNat ≤ f → 0 ≤ n → 0 ≤ letT m n ∧ letT m n < m.Images.length
  | 0, n, hf, h0 => by
    have : n = 0 := by omega
    subst this; rw [letT_zero]; have := h.size; unfold MSize at this; omega
  | f + 1, n, hf, h0 => by
    by_cases hn : n = 0
    · subst hn; rw [letT_zero]; have := h.size; unfold MSize at this; omega
    · have hb := h.base.1
      have hd := div_lt (n := n) (b := m.Base) (by omega) hb
      rw [letT_step hb (by omega)]
      have hi := letT_in h f (n / m.Base) (by omega) hd.1
      exact (h.tab _ hi.1 hi.2).1 _ (mod_in hb).1 (mod_in hb).2
theorem pow_le {a : Nat} {n : Int} (h : 2 ^ a ≤ n) (hn : n ≤ 9223372036854775807) : a ≤ 62 := by
  refine Nat.le_of_not_lt fun h2 => ?_
  have h3 : (2 : Nat) ^ 63 ≤ 2 ^ a := Nat.pow_le_pow_right (by omega) h2
  have h4 : ((2 ^ a : Nat) : Int) = 2 ^ a := by simp
  omega
theorem pow_half {a : Nat} {n k b : Int} (hk : 0 < k) (hb : 2 ≤ b) (h : 2 ^ a * k ≤ n) : 2 ^ (a + 1) * (k / b) ≤ n := by
  have h1 : b * (k / b) ≤ k := Int.mul_ediv_self_le (by omega)
  have h0 : 0 ≤ k / b := (div_lt hk hb).1
  have h2 : 2 * (k / b) ≤ b * (k / b) := Int.mul_le_mul_of_nonneg_right hb h0
  have h3 : (2 : Int) ^ a * (2 * (k / b)) ≤ 2 ^ a * k := Int.mul_le_mul_of_nonneg_left (by omega) (Int.le_of_lt (Int.pow_pos (by omega)))
  rw [Int.pow_succ, Int.mul_assoc]; omega
theorem pow_one_le {a : Nat} {n k : Int} (hk : 0 < k) (h : 2 ^ a * k ≤ n) : 2 ^ a ≤ n := by
  have : (2 : Int) ^ a * 1 ≤ 2 ^ a * k := Int.mul_le_mul_of_nonneg_left (by omega) (Int.le_of_lt (Int.pow_pos (by omega)))
  omega
def digs (m : Morph) (p : List Int) (a : Int) : Int := p.foldr (fun d a => ix (ix m.Images a) d) a
theorem digs_add {m : Morph} {p : List Int} {d a : Int} : digs m (p ++ [d]) a = digs m p (ix (ix m.Images a) d) := by simp [digs]
theorem mcheck1_ok (w : (List Int)) (m : Morph) : Fc Try.prog 61 [.d (enc (w : (List Int))), .addr (enc (m : Morph))] [] (fun rv hv => ∃ (y : Bool), rv = .d (.lit (.bool y)) ∧ hv = [] ∧ (y = decide ((w.length : Int) ≠ m.Base))) := by
  refine Fc.of_body Try.func61 rfl Try.ntmps61 (by simp) (fun F => ?_)
  refine (show AW _ _ _ (⟨9, 0, [(0, .d (enc (w : (List Int)))), (1, .addr (enc (m : Morph)))], []⟩ : St) _ from ?_)
  refine AW.fact 0 rfl (fun ln_w => ?_)
  replace ln_w : w.length * 8 ≤ 140737488355328 := ln_w
  refine AW.seq ?_
  refine AW.region [0] rfl ?_
  refine AO.ro rfl rfl (gOn_none rfl) (RO.assign rfl rfl) ?_
  refine AO.nil ?_
  refine AW.seq ?_
  refine AW.region [0, 0, 0, 0, 0, 0] rfl ?_
  refine AO.ro rfl rfl (gOn_none rfl) (RO.move rfl rfl) ?_
  refine AO.ro rfl rfl (gOn_none rfl) (RO.len rfl Try.underlying26 rfl) ?_
  refine AO.ro rfl rfl (gOn_none rfl) (RO.fld_addr rfl fa47_0 rfl rfl rfl) ?_
  refine AO.ro rfl rfl (gOn_none rfl) (RO.ld_addr rfl Try.underlying3 rfl rfl rfl) ?_
  refine AO.splitn rfl rfl (gOn_none rfl) (RO.neq rfl rfl rfl) (fun t1 => ?_) (fun t1 => ?_)
  ·
   refine AO.ro rfl rfl (gOn_none rfl) (RO.assign rfl rfl) ?_
   refine AO.nil ?_
   refine AW.ret ?_
   refine ⟨[], [.d (.lit (.bool true))], [], rfl, ⟨⟨_, rfl, .inl rfl⟩, rfl⟩, trivial, ?_⟩
   refine ⟨true, rfl, rfl, ?_⟩
   first | omega | (simp; done) | (simp_all; done) | (simp_all; omega)
  ·
   refine AO.ro rfl rfl (gOn_none rfl) (RO.assign rfl rfl) ?_
   refine AO.nil ?_
   refine AW.ret ?_
   refine ⟨[], [.d (.lit (.bool false))], [], rfl, ⟨⟨_, rfl, .inl rfl⟩, rfl⟩, trivial, ?_⟩
   refine ⟨false, rfl, rfl, ?_⟩
   first | omega | (simp; done) | (simp_all; done) | (simp_all; omega)

theorem mcheck2_ok (b : Int) (n : Int) : Fc Try.prog 62 [.d (.lit (.int .i64 b)), .addr (enc (n : Int))] [] (fun rv hv => ∃ (y : Bool), rv = .d (.lit (.bool y)) ∧ hv = [] ∧ (y = decide (b < 0 ∨ n ≤ b))) := by
  refine Fc.of_body Try.func62 rfl Try.ntmps62 (by simp) (fun F => ?_)
  refine (show AW _ _ _ (⟨11, 0, [(0, .d (.lit (.int .i64 b))), (1, .addr (enc (n : Int)))], []⟩ : St) _ from ?_)
  refine AW.seq ?_
  refine AW.region [0] rfl ?_
  refine AO.ro rfl rfl (gOn_none rfl) (RO.assign rfl rfl) ?_
  refine AO.nil ?_
  refine AW.seq ?_
  refine AW.region [0, 0, 0, 0, 0, 0, 0, 0] rfl ?_
  refine AO.ro rfl rfl (gOn_none rfl) (RO.move rfl rfl) ?_
  refine AO.split rfl rfl (gOn_none rfl) (RO.lss rfl rfl rfl) (fun t1 => ?_) (fun t1 => ?_)
  ·
   refine AO.ro rfl rfl (gOn_none rfl) (RO.move rfl rfl) ?_
   refine AO.skip rfl rfl (gOn_some 6 true rfl rfl rfl rfl) ?_
   refine AO.skip rfl rfl (gOn_some 6 true rfl rfl rfl rfl) ?_
   refine AO.skip rfl rfl (gOn_some 6 true rfl rfl rfl rfl) ?_
   refine AO.ro rfl rfl (gOn_none rfl) (RO.pick_t rfl rfl rfl) ?_
   refine AO.ro rfl rfl (gOn_none rfl) (RO.assign rfl rfl) ?_
   refine AO.nil ?_
   refine AW.ret ?_
   refine ⟨[], [.d (.lit (.bool true))], [], rfl, ⟨⟨_, rfl, .inl rfl⟩, rfl⟩, trivial, ?_⟩
   refine ⟨true, rfl, rfl, ?_⟩
   simp; omega
  ·
   refine AO.ro rfl rfl (gOn_none rfl) (RO.move rfl rfl) ?_
   refine AO.ro rfl rfl (gOn_some 6 false rfl rfl rfl rfl) (RO.move rfl rfl) ?_
   refine AO.ro rfl rfl (gOn_some 6 false rfl rfl rfl rfl) (RO.ld_addr rfl Try.underlying3 rfl rfl rfl) ?_
   refine AO.split rfl rfl (gOn_some 6 false rfl rfl rfl rfl) (RO.geq rfl rfl rfl) (fun t2 => ?_) (fun t2 => ?_)
   ·
    refine AO.ro rfl rfl (gOn_none rfl) (RO.pick_f rfl rfl rfl) ?_
    refine AO.ro rfl rfl (gOn_none rfl) (RO.assign rfl rfl) ?_
    refine AO.nil ?_
    refine AW.ret ?_
    refine ⟨[], [.d (.lit (.bool true))], [], rfl, ⟨⟨_, rfl, .inl rfl⟩, rfl⟩, trivial, ?_⟩
    refine ⟨true, rfl, rfl, ?_⟩
    simp; omega
   ·
    refine AO.ro rfl rfl (gOn_none rfl) (RO.pick_f rfl rfl rfl) ?_
    refine AO.ro rfl rfl (gOn_none rfl) (RO.assign rfl rfl) ?_
    refine AO.nil ?_
    refine AW.ret ?_
    refine ⟨[], [.d (.lit (.bool false))], [], rfl, ⟨⟨_, rfl, .inl rfl⟩, rfl⟩, trivial, ?_⟩
    refine ⟨false, rfl, rfl, ?_⟩
    simp; omega

theorem mcheck_ok (m : Morph) : Fc Try.prog 26 [.d (enc (m : Morph))] [] (fun rv hv => ∃ (e : Int), rv = .d (.lit (.int .i64 e)) ∧ hv = [] ∧ (e = morE m)) := by
  refine Fc.of_body Try.func26 rfl Try.ntmps26 (by simp) (fun F => ?_)
  refine (show AW _ _ _ (⟨69, 0, [(0, .d (enc (m : Morph)))], []⟩ : St) _ from ?_)
  refine AW.seq ?_
  refine AW.region [1, 0] rfl ?_
  refine AO.al1 (gOn_none rfl) (AL.box 0 rfl (by kernel_rfl) rfl rfl rfl rfl rfl) ?_
  refine AO.ro rfl rfl (gOn_none rfl) (RO.assign rfl rfl) ?_
  refine AO.nil ?_
  refine AW.seq ?_
  refine AW.seq ?_
  refine AW.region [0, 0, 0, 0, 0, 0, 0, 0] rfl ?_
  refine AO.ro rfl rfl (gOn_none rfl) (RO.fld_ptr rfl fa47_0 rfl) ?_
  refine AO.ro rfl rfl (gOn_none rfl) (RO.ld_ptr rfl Try.underlying3 rfl rfl rfl rfl) ?_
  refine AO.split rfl rfl (gOn_none rfl) (RO.lss rfl rfl rfl) (fun t1 => ?_) (fun t1 => ?_)
  ·
   refine AO.ro rfl rfl (gOn_none rfl) (RO.move rfl rfl) ?_
   refine AO.skip rfl rfl (gOn_some 9 true rfl rfl rfl rfl) ?_
   refine AO.skip rfl rfl (gOn_some 9 true rfl rfl rfl rfl) ?_
   refine AO.skip rfl rfl (gOn_some 9 true rfl rfl rfl rfl) ?_
   refine AO.ro rfl rfl (gOn_none rfl) (RO.pick_t rfl rfl rfl) ?_
   refine AO.nil ?_
   refine AW.cond_t rfl ?_
   refine AW.seq ?_
   refine AW.region [0] rfl ?_
   refine AO.ro rfl rfl (gOn_none rfl) (RO.assign rfl rfl) ?_
   refine AO.nil ?_
   refine AW.ret ?_
   refine ⟨[], [.d (.lit (.int .i64 2))], [], rfl, ⟨⟨_, rfl, .inl rfl⟩, rfl⟩, trivial, ?_⟩
   refine ⟨2, rfl, rfl, ?_⟩
   first
   | exact (mor_base (by unfold MBase; omega)).symm
   | exact (mor_size (by unfold MBase; omega) (by unfold MSize; omega)).symm
   | exact (mor_shape (by unfold MBase; omega) (by unfold MSize; omega) (by unfold MShape; grind)).symm
  ·
   refine AO.ro rfl rfl (gOn_none rfl) (RO.move rfl rfl) ?_
   refine AO.ro rfl rfl (gOn_some 9 false rfl rfl rfl rfl) (RO.fld_ptr rfl fa47_0 rfl) ?_
   refine AO.ro rfl rfl (gOn_some 9 false rfl rfl rfl rfl) (RO.ld_ptr rfl Try.underlying3 rfl rfl rfl rfl) ?_
   refine AO.split rfl rfl (gOn_some 9 false rfl rfl rfl rfl) (RO.gtr rfl rfl rfl) (fun t2 => ?_) (fun t2 => ?_)
   ·
    refine AO.ro rfl rfl (gOn_none rfl) (RO.pick_f rfl rfl rfl) ?_
    refine AO.nil ?_
    refine AW.cond_t rfl ?_
    refine AW.seq ?_
    refine AW.region [0] rfl ?_
    refine AO.ro rfl rfl (gOn_none rfl) (RO.assign rfl rfl) ?_
    refine AO.nil ?_
    refine AW.ret ?_
    refine ⟨[], [.d (.lit (.int .i64 2))], [], rfl, ⟨⟨_, rfl, .inl rfl⟩, rfl⟩, trivial, ?_⟩
    refine ⟨2, rfl, rfl, ?_⟩
    first
    | exact (mor_base (by unfold MBase; omega)).symm
    | exact (mor_size (by unfold MBase; omega) (by unfold MSize; omega)).symm
    | exact (mor_shape (by unfold MBase; omega) (by unfold MSize; omega) (by unfold MShape; grind)).symm
   ·
    refine AO.ro rfl rfl (gOn_none rfl) (RO.pick_f rfl rfl rfl) ?_
    refine AO.nil ?_
    refine AW.cond_f rfl ?_
    refine AW.skip ?_
    refine AW.seq ?_
    refine AW.region [0, 0, 0, 1, 2] rfl ?_
    refine AO.ro rfl rfl (gOn_none rfl) (RO.fld_ptr rfl fa47_1 rfl) ?_
    refine AO.ro rfl rfl (gOn_none rfl) (RO.ld_ptr rfl Try.underlying45 rfl rfl rfl rfl) ?_
    refine AO.fact 15 rfl (fun ln3 => ?_)
    replace ln3 : m.Images.length * 24 ≤ 140737488355328 := ln3
    refine AO.ro rfl rfl (gOn_none rfl) (RO.len rfl Try.underlying45 rfl) ?_
    refine AO.al1 (gOn_none rfl) (AL.alloc 1 rfl (by kernel_rfl) rfl rfl rfl ti3 rfl) ?_
    refine AO.ef1 (gOn_none rfl) (EF.st_ptr rfl rfl ti3 rfl rfl rfl rfl rfl rfl (by decide)) ?_
    refine AO.nil ?_
    refine AW.seq ?_
    refine AW.seq ?_
    refine AW.region [0, 0, 0, 0, 0, 0] rfl ?_
    refine AO.ro rfl rfl (gOn_none rfl) (RO.ld_ptr rfl Try.underlying3 rfl rfl rfl rfl) ?_
    refine AO.split rfl rfl (gOn_none rfl) (RO.lss rfl rfl rfl) (fun t4 => ?_) (fun t4 => ?_)
    ·
     refine AO.ro rfl rfl (gOn_none rfl) (RO.move rfl rfl) ?_
     refine AO.skip rfl rfl (gOn_some 19 true rfl rfl rfl rfl) ?_
     refine AO.skip rfl rfl (gOn_some 19 true rfl rfl rfl rfl) ?_
     refine AO.ro rfl rfl (gOn_none rfl) (RO.pick_t rfl rfl rfl) ?_
     refine AO.nil ?_
     refine AW.cond_t rfl ?_
     refine AW.seq ?_
     refine AW.region [0] rfl ?_
     refine AO.ro rfl rfl (gOn_none rfl) (RO.assign rfl rfl) ?_
     refine AO.nil ?_
     refine AW.ret ?_
     refine ⟨[], [.d (.lit (.int .i64 1))], [], rfl, ⟨⟨_, rfl, .inl rfl⟩, rfl⟩, trivial, ?_⟩
     refine ⟨1, rfl, rfl, ?_⟩
     first
     | exact (mor_base (by unfold MBase; omega)).symm
     | exact (mor_size (by unfold MBase; omega) (by unfold MSize; omega)).symm
     | exact (mor_shape (by unfold MBase; omega) (by unfold MSize; omega) (by unfold MShape; grind)).symm
    ·
     refine AO.ro rfl rfl (gOn_none rfl) (RO.move rfl rfl) ?_
     refine AO.ro rfl rfl (gOn_some 19 false rfl rfl rfl rfl) (RO.ld_ptr rfl Try.underlying3 rfl rfl rfl rfl) ?_
     refine AO.split rfl rfl (gOn_some 19 false rfl rfl rfl rfl) (RO.gtr rfl rfl rfl) (fun t5 => ?_) (fun t5 => ?_)
     ·
      refine AO.ro rfl rfl (gOn_none rfl) (RO.pick_f rfl rfl rfl) ?_
      refine AO.nil ?_
      refine AW.cond_t rfl ?_
      refine AW.seq ?_
      refine AW.region [0] rfl ?_
      refine AO.ro rfl rfl (gOn_none rfl) (RO.assign rfl rfl) ?_
      refine AO.nil ?_
      refine AW.ret ?_
      refine ⟨[], [.d (.lit (.int .i64 1))], [], rfl, ⟨⟨_, rfl, .inl rfl⟩, rfl⟩, trivial, ?_⟩
      refine ⟨1, rfl, rfl, ?_⟩
      first
      | exact (mor_base (by unfold MBase; omega)).symm
      | exact (mor_size (by unfold MBase; omega) (by unfold MSize; omega)).symm
      | exact (mor_shape (by unfold MBase; omega) (by unfold MSize; omega) (by unfold MShape; grind)).symm
     ·
      refine AO.ro rfl rfl (gOn_none rfl) (RO.pick_f rfl rfl rfl) ?_
      refine AO.nil ?_
      refine AW.cond_f rfl ?_
      refine AW.skip ?_
      refine AW.seq ?_
      refine AW.seq ?_
      refine AW.region [0, 0, 0, 0, 0, 0, 0, 0, 0, 1, 0] rfl ?_
      refine AO.ro rfl rfl (gOn_none rfl) (RO.fld_ptr rfl fa47_2 rfl) ?_
      refine AO.ro rfl rfl (gOn_none rfl) (RO.ld_ptr rfl Try.underlying26 rfl rfl rfl rfl) ?_
      refine AO.fact 24 rfl (fun ln6 => ?_)
      replace ln6 : m.Coding.length * 8 ≤ 140737488355328 := ln6
      refine AO.ro rfl rfl (gOn_none rfl) (RO.len rfl Try.underlying26 rfl) ?_
      refine AO.ro rfl rfl (gOn_none rfl) (RO.ld_ptr rfl Try.underlying3 rfl rfl rfl rfl) ?_
      refine AO.splitn rfl rfl (gOn_none rfl) (RO.neq rfl rfl rfl) (fun t7 => ?_) (fun t7 => ?_)
      ·
       refine AO.ro rfl rfl (gOn_none rfl) (RO.move rfl rfl) ?_
       refine AO.skip rfl rfl (gOn_some 28 true rfl rfl rfl rfl) ?_
       refine AO.skip rfl rfl (gOn_some 28 true rfl rfl rfl rfl) ?_
       refine AO.skip rfl rfl (gOn_some 28 true rfl rfl rfl rfl) ?_
       refine AO.skip rfl rfl (gOn_some 28 true rfl rfl rfl rfl) ?_
       refine AO.ro rfl rfl (gOn_none rfl) (RO.pick_t rfl rfl rfl) ?_
       refine AO.nil ?_
       refine AW.cond_t rfl ?_
       refine AW.seq ?_
       refine AW.region [0] rfl ?_
       refine AO.ro rfl rfl (gOn_none rfl) (RO.assign rfl rfl) ?_
       refine AO.nil ?_
       refine AW.ret ?_
       refine ⟨[], [.d (.lit (.int .i64 3))], [], rfl, ⟨⟨_, rfl, .inl rfl⟩, rfl⟩, trivial, ?_⟩
       refine ⟨3, rfl, rfl, ?_⟩
       first
       | exact (mor_base (by unfold MBase; omega)).symm
       | exact (mor_size (by unfold MBase; omega) (by unfold MSize; omega)).symm
       | exact (mor_shape (by unfold MBase; omega) (by unfold MSize; omega) (by unfold MShape; grind)).symm
      ·
       refine AO.ro rfl rfl (gOn_none rfl) (RO.move rfl rfl) ?_
       refine AO.ro rfl rfl (gOn_some 28 false rfl rfl rfl rfl) (RO.fld_ptr rfl fa47_1 rfl) ?_
       refine AO.ro rfl rfl (gOn_some 28 false rfl rfl rfl rfl) (RO.ld_ptr rfl Try.underlying45 rfl rfl rfl rfl) ?_
       refine AO.freezeB (enc (m : Morph)) 0 [1, 6, 10] rfl rfl ?_
       refine AO.ro rfl rfl (gOn_some 28 false rfl rfl rfl rfl) (RO.makeFunc (cs := [.addr (enc (m : Morph))]) rfl ⟨rfl, rfl⟩) ?_
       refine AO.callA («as» := [.d (enc (m.Images : (List (List Int)))), .fn 61 [.addr (enc (m : Morph))]]) (gOn_some 28 false rfl rfl rfl rfl) rfl rfl rfl rfl Try.call60 ⟨⟨_, rfl, rfl⟩, ⟨_, rfl, rfl⟩, rfl⟩ (ContainsFunc60_ok m.Images 61 [.addr (enc (m : Morph))] (fun (w : (List Int)) => decide ((w.length : Int) ≠ m.Base)) ⟨rfl, Try.call61⟩ (fun x0 => Fc.mono (mcheck1_ok x0 m) (by rintro _ _ ⟨_, rfl, rfl, hy⟩; first | (subst hy; exact ⟨rfl, rfl⟩) | exact ⟨by rw [hy], rfl⟩))) ?_
       rintro _ _ ⟨y8, rfl, rfl, c8⟩
       refine ⟨[], 2, .d (.lit (.bool y8)), [], rfl, trivial, rfl, ?_⟩
       refine AO.ro rfl rfl (gOn_none rfl) (RO.pick_f rfl rfl rfl) ?_
       refine AO.nil ?_
       refine AW.caseb 33 rfl (fun b9 => ?_) (fun b9 => ?_)
       ·
        first | replace b9 := of_decide_eq_true (c8.symm.trans b9) | (replace b9 := List.any_eq_true.1 (c8.symm.trans b9); simp only [decide_eq_true_eq] at b9) | skip
        refine AW.cond_t rfl ?_
        refine AW.seq ?_
        refine AW.region [0] rfl ?_
        refine AO.ro rfl rfl (gOn_none rfl) (RO.assign rfl rfl) ?_
        refine AO.nil ?_
        refine AW.ret ?_
        refine ⟨[], [.d (.lit (.int .i64 3))], [], rfl, ⟨⟨_, rfl, .inl rfl⟩, rfl⟩, trivial, ?_⟩
        refine ⟨3, rfl, rfl, ?_⟩
        first
        | exact (mor_base (by unfold MBase; omega)).symm
        | exact (mor_size (by unfold MBase; omega) (by unfold MSize; omega)).symm
        | exact (mor_shape (by unfold MBase; omega) (by unfold MSize; omega) (by unfold MShape; grind)).symm
       ·
        first | replace b9 := of_decide_eq_false (c8.symm.trans b9) | (replace b9 := List.any_eq_false.1 (c8.symm.trans b9); simp only [decide_eq_true_eq] at b9) | skip
        refine AW.cond_f rfl ?_
        refine AW.skip ?_
        refine AW.seq ?_
        refine AW.seq ?_
        refine AW.region [0, 0, 0, 0] rfl ?_
        refine AO.ro rfl rfl (gOn_none rfl) (RO.fld_addr rfl fa47_1 rfl rfl rfl) ?_
        refine AO.ro rfl rfl (gOn_none rfl) (RO.ld_addr rfl Try.underlying45 rfl rfl rfl) ?_
        refine AO.ro rfl rfl (gOn_none rfl) (RO.len rfl Try.underlying45 rfl) ?_
        refine AO.ro rfl rfl (gOn_none rfl) (RO.move rfl rfl) ?_
        refine AO.nil ?_
        refine AW.block ?_
        refine AW.freezeB (enc ((m.Images.length : Int) : Int)) 1 [3] rfl rfl ?_
        refine AW.loop (mp := []) (X := Int) (fun xv => ⟨69, 2, [(1, .addr (enc (m : Morph))), (2, .d (.lit (.int .i64 0))), (3, .addr (enc ((m.Images.length : Int) : Int))), (35, .d (enc (m.Images : (List (List Int))))), (36, .d (.lit (.int .i64 ((m.Images.length : Int))))), (37, .d (.lit (.int .i64 xv)))], []⟩) (fun xv => (0 ≤ xv ∧ xv ≤ m.Images.length) ∧ (∀ j : Int, 0 ≤ j → j < xv → MRow m j) ∧ (MBase m ∧ MSize m ∧ MShape m)) (fun xv => (m.Images.length - xv).toNat) 0 ?_ ⟨rfl, rfl, ⟨⟨_, rfl, .inl rfl⟩, ⟨⟨_, rfl, .inl rfl⟩, ⟨⟨_, rfl, .inl rfl⟩, ⟨⟨_, rfl, .inl rfl⟩, ⟨⟨_, rfl, .inl rfl⟩, ⟨⟨_, rfl, .inl rfl⟩, trivial⟩⟩⟩⟩⟩⟩, trivial⟩ ?_
        · try dsimp only
          exact ⟨by omega, fun j a b => by omega, by unfold MBase; omega, by unfold MSize; omega, by unfold MShape; grind⟩
        · skip
          intro a hx
          replace hx : (0 ≤ a ∧ a ≤ m.Images.length) ∧ (∀ j : Int, 0 ≤ j → j < a → MRow m j) ∧ (MBase m ∧ MSize m ∧ MShape m) := hx
          obtain ⟨h1, h2, h3⟩ := hx
          refine (show AW _ _ _ (⟨69, 2, [(1, .addr (enc (m : Morph))), (2, .d (.lit (.int .i64 0))), (3, .addr (enc ((m.Images.length : Int) : Int))), (35, .d (enc (m.Images : (List (List Int))))), (36, .d (.lit (.int .i64 ((m.Images.length : Int))))), (37, .d (.lit (.int .i64 a)))], []⟩ : St) _ from ?_)
          have h4 : a < m.Images.length → ((ix m.Images a).length : Int) = m.Base := fun h => h3.2.2.2 _ (ix_mem h1.1 h)
          have h5 := h3.2.2.1
          have h6 := h3.2.1.1
          have h7 := h3.1.1
          have h8 : ((ix m.Images 0).length : Int) = m.Base := h3.2.2.2 _ (ix_mem (by omega) (by omega))
          refine AW.seq ?_
          refine AW.region [0] rfl ?_
          refine AO.split rfl rfl (gOn_none rfl) (RO.lss rfl rfl rfl) (fun t10 => ?_) (fun t10 => ?_)
          ·
           refine AO.nil ?_
           refine AW.seq ?_
           refine AW.cond_t rfl ?_
           refine AW.skip ?_
           refine AW.seq ?_
           refine AW.block ?_
           refine AW.seq ?_
           refine AW.region [0, 0, 0, 0, 0] rfl ?_
           refine AO.ro rfl rfl (gOn_none rfl) (RO.move rfl rfl) ?_
           refine AO.ro rfl rfl (gOn_none rfl) (RO.idx rfl Try.underlying45 ti26 rfl rfl (by omega)) ?_
           refine AO.ro rfl rfl (gOn_none rfl) (RO.ld_addr rfl Try.underlying26 rfl rfl rfl) ?_
           refine AO.ro rfl rfl (gOn_none rfl) (RO.assign rfl rfl) ?_
           refine AO.ro rfl rfl (gOn_none rfl) (RO.assign rfl rfl) ?_
           refine AO.nil ?_
           refine AW.seq ?_
           refine AW.region [0, 0, 1, 0, 0, 0, 0, 0, 0, 0, 0, 0, 0, 0, 0, 0, 0, 0, 0] rfl ?_
           refine AO.ro rfl rfl (gOn_none rfl) (RO.move rfl rfl) ?_
           refine AO.ro rfl rfl (gOn_none rfl) (RO.makeFunc (cs := [.addr (enc ((m.Images.length : Int) : Int))]) rfl ⟨rfl, rfl⟩) ?_
           refine AO.callA («as» := [.d (enc (ix m.Images a : (List Int))), .fn 62 [.addr (enc ((m.Images.length : Int) : Int))]]) (gOn_none rfl) rfl rfl rfl rfl Try.call58 ⟨⟨_, rfl, rfl⟩, ⟨_, rfl, rfl⟩, rfl⟩ (ContainsFunc58_ok (ix m.Images a) 62 [.addr (enc ((m.Images.length : Int) : Int))] (fun (b : Int) => decide (b < 0 ∨ ((m.Images.length : Int)) ≤ b)) ⟨rfl, Try.call62⟩ (fun x0 => Fc.mono (mcheck2_ok x0 ((m.Images.length : Int))) (by rintro _ _ ⟨_, rfl, rfl, hy⟩; first | (subst hy; exact ⟨rfl, rfl⟩) | exact ⟨by rw [hy], rfl⟩))) ?_
           rintro _ _ ⟨y11, rfl, rfl, c11⟩
           refine ⟨[], 2, .d (.lit (.bool y11)), [], rfl, trivial, rfl, ?_⟩
           refine AO.ro rfl rfl (gOn_none rfl) (RO.move rfl rfl) ?_
           refine AO.caseb 45 rfl (fun b12 => ?_) (fun b12 => ?_)
           ·
            first | replace b12 := of_decide_eq_true (c11.symm.trans b12) | (replace b12 := List.any_eq_true.1 (c11.symm.trans b12); simp only [decide_eq_true_eq] at b12) | skip
            refine AO.skip rfl rfl (gOn_some 45 true rfl rfl rfl rfl) ?_
            refine AO.skip rfl rfl (gOn_some 45 true rfl rfl rfl rfl) ?_
            refine AO.skip rfl rfl (gOn_some 45 true rfl rfl rfl rfl) ?_
            refine AO.skip rfl rfl (gOn_some 45 true rfl rfl rfl rfl) ?_
            refine AO.skip rfl rfl (gOn_some 45 true rfl rfl rfl rfl) ?_
            refine AO.skip rfl rfl (gOn_some 45 true rfl rfl rfl rfl) ?_
            refine AO.ro rfl rfl (gOn_none rfl) (RO.pick_t rfl rfl rfl) ?_
            refine AO.ro rfl rfl (gOn_none rfl) (RO.move rfl rfl) ?_
            refine AO.skip rfl rfl (gOn_some 53 true rfl rfl rfl rfl) ?_
            refine AO.skip rfl rfl (gOn_some 53 true rfl rfl rfl rfl) ?_
            refine AO.skip rfl rfl (gOn_some 53 true rfl rfl rfl rfl) ?_
            refine AO.skip rfl rfl (gOn_some 53 true rfl rfl rfl rfl) ?_
            refine AO.skip rfl rfl (gOn_some 53 true rfl rfl rfl rfl) ?_
            refine AO.skip rfl rfl (gOn_some 53 true rfl rfl rfl rfl) ?_
            refine AO.ro rfl rfl (gOn_none rfl) (RO.pick_t rfl rfl rfl) ?_
            refine AO.nil ?_
            refine AW.cond_t rfl ?_
            refine AW.seq ?_
            refine AW.region [0] rfl ?_
            refine AO.ro rfl rfl (gOn_none rfl) (RO.assign rfl rfl) ?_
            refine AO.nil ?_
            refine AW.ret ?_
            refine ⟨[], [.d (.lit (.int .i64 2))], [], rfl, ⟨⟨_, rfl, .inl rfl⟩, rfl⟩, trivial, ?_⟩
            refine ⟨2, rfl, rfl, ?_⟩
            refine (mor_tab h3.1 h3.2.1 h3.2.2 fun ht => ?_).symm
            have hr := ht a (by omega) (by omega)
            have hr1 := hr.2
            first
            | omega
            | (obtain ⟨x, hx, hb⟩ := ‹∃ x, x ∈ ix m.Images a ∧ _›
               obtain ⟨k, k0, k1, rfl⟩ := mem_ix hx
               have := hr.1 k k0 (by omega)
               omega)
           ·
            first | replace b12 := of_decide_eq_false (c11.symm.trans b12) | (replace b12 := List.any_eq_false.1 (c11.symm.trans b12); simp only [decide_eq_true_eq] at b12) | skip
            refine AO.ro rfl rfl (gOn_some 45 false rfl rfl rfl rfl) (RO.fld_addr rfl fa47_2 rfl rfl rfl) ?_
            refine AO.ro rfl rfl (gOn_some 45 false rfl rfl rfl rfl) (RO.ld_addr rfl Try.underlying26 rfl rfl rfl) ?_
            refine AO.ro rfl rfl (gOn_some 45 false rfl rfl rfl rfl) (RO.move rfl rfl) ?_
            refine AO.ro rfl rfl (gOn_some 45 false rfl rfl rfl rfl) (RO.idx rfl Try.underlying26 ti3 rfl rfl (by omega)) ?_
            refine AO.ro rfl rfl (gOn_some 45 false rfl rfl rfl rfl) (RO.ld_addr rfl Try.underlying3 rfl rfl rfl) ?_
            refine AO.split rfl rfl (gOn_some 45 false rfl rfl rfl rfl) (RO.lss rfl rfl rfl) (fun t13 => ?_) (fun t13 => ?_)
            ·
             refine AO.ro rfl rfl (gOn_none rfl) (RO.pick_f rfl rfl rfl) ?_
             refine AO.ro rfl rfl (gOn_none rfl) (RO.move rfl rfl) ?_
             refine AO.skip rfl rfl (gOn_some 53 true rfl rfl rfl rfl) ?_
             refine AO.skip rfl rfl (gOn_some 53 true rfl rfl rfl rfl) ?_
             refine AO.skip rfl rfl (gOn_some 53 true rfl rfl rfl rfl) ?_
             refine AO.skip rfl rfl (gOn_some 53 true rfl rfl rfl rfl) ?_
             refine AO.skip rfl rfl (gOn_some 53 true rfl rfl rfl rfl) ?_
             refine AO.skip rfl rfl (gOn_some 53 true rfl rfl rfl rfl) ?_
             refine AO.ro rfl rfl (gOn_none rfl) (RO.pick_t rfl rfl rfl) ?_
             refine AO.nil ?_
             refine AW.cond_t rfl ?_
             refine AW.seq ?_
             refine AW.region [0] rfl ?_
             refine AO.ro rfl rfl (gOn_none rfl) (RO.assign rfl rfl) ?_
             refine AO.nil ?_
             refine AW.ret ?_
             refine ⟨[], [.d (.lit (.int .i64 2))], [], rfl, ⟨⟨_, rfl, .inl rfl⟩, rfl⟩, trivial, ?_⟩
             refine ⟨2, rfl, rfl, ?_⟩
             refine (mor_tab h3.1 h3.2.1 h3.2.2 fun ht => ?_).symm
             have hr := ht a (by omega) (by omega)
             have hr1 := hr.2
             first
             | omega
             | (obtain ⟨x, hx, hb⟩ := ‹∃ x, x ∈ ix m.Images a ∧ _›
                obtain ⟨k, k0, k1, rfl⟩ := mem_ix hx
                have := hr.1 k k0 (by omega)
                omega)
            ·
             refine AO.ro rfl rfl (gOn_none rfl) (RO.pick_f rfl rfl rfl) ?_
             refine AO.ro rfl rfl (gOn_none rfl) (RO.move rfl rfl) ?_
             refine AO.ro rfl rfl (gOn_some 53 false rfl rfl rfl rfl) (RO.fld_addr rfl fa47_2 rfl rfl rfl) ?_
             refine AO.ro rfl rfl (gOn_some 53 false rfl rfl rfl rfl) (RO.ld_addr rfl Try.underlying26 rfl rfl rfl) ?_
             refine AO.ro rfl rfl (gOn_some 53 false rfl rfl rfl rfl) (RO.move rfl rfl) ?_
             refine AO.ro rfl rfl (gOn_some 53 false rfl rfl rfl rfl) (RO.idx rfl Try.underlying26 ti3 rfl rfl (by omega)) ?_
             refine AO.ro rfl rfl (gOn_some 53 false rfl rfl rfl rfl) (RO.ld_addr rfl Try.underlying3 rfl rfl rfl) ?_
             refine AO.split rfl rfl (gOn_some 53 false rfl rfl rfl rfl) (RO.gtr rfl rfl rfl) (fun t14 => ?_) (fun t14 => ?_)
             ·
              refine AO.ro rfl rfl (gOn_none rfl) (RO.pick_f rfl rfl rfl) ?_
              refine AO.nil ?_
              refine AW.cond_t rfl ?_
              refine AW.seq ?_
              refine AW.region [0] rfl ?_
              refine AO.ro rfl rfl (gOn_none rfl) (RO.assign rfl rfl) ?_
              refine AO.nil ?_
              refine AW.ret ?_
              refine ⟨[], [.d (.lit (.int .i64 2))], [], rfl, ⟨⟨_, rfl, .inl rfl⟩, rfl⟩, trivial, ?_⟩
              refine ⟨2, rfl, rfl, ?_⟩
              refine (mor_tab h3.1 h3.2.1 h3.2.2 fun ht => ?_).symm
              have hr := ht a (by omega) (by omega)
              have hr1 := hr.2
              first
              | omega
              | (obtain ⟨x, hx, hb⟩ := ‹∃ x, x ∈ ix m.Images a ∧ _›
                 obtain ⟨k, k0, k1, rfl⟩ := mem_ix hx
                 have := hr.1 k k0 (by omega)
                 omega)
             ·
              refine AO.ro rfl rfl (gOn_none rfl) (RO.pick_f rfl rfl rfl) ?_
              refine AO.nil ?_
              refine AW.cond_f rfl ?_
              refine AW.skip ?_
              refine AW.region [0, 0] rfl ?_
              refine AO.ro rfl rfl (gOn_none rfl) (RO.add rfl rfl rfl (by omega)) ?_
              refine AO.ro rfl rfl (gOn_none rfl) (RO.move rfl rfl) ?_
              refine AO.nil ?_
              refine ⟨a + 1, [], ?_, ?_, ⟨rfl, rfl, ⟨⟨_, rfl, .inl rfl⟩, ⟨⟨_, rfl, .inl rfl⟩, ⟨⟨_, rfl, .inl rfl⟩, ⟨⟨_, rfl, .inl rfl⟩, ⟨⟨_, rfl, .inl rfl⟩, ⟨⟨_, rfl, .inl rfl⟩, trivial⟩⟩⟩⟩⟩⟩, trivial⟩⟩
              · try dsimp only
                refine ⟨by omega, below_succ h2 ⟨fun k k0 k1 => ?_, by omega, by omega⟩, h3⟩
                have hm : ix (ix m.Images a) k ∈ ix m.Images a := ix_mem k0 (by omega)
                grind
              · try dsimp only
                first | omega | (simp; done) | (simp_all; done) | (simp_all; omega)
          ·
           refine AO.nil ?_
           refine AW.seq ?_
           refine AW.cond_f rfl ?_
           refine AW.exit ?_
           refine AW.seq ?_
           refine AW.seq ?_
           refine AW.region [0, 0, 0, 0, 0, 0, 0] rfl ?_
           refine AO.ro rfl rfl (gOn_none rfl) (RO.fld_addr rfl fa47_1 rfl rfl rfl) ?_
           refine AO.ro rfl rfl (gOn_none rfl) (RO.ld_addr rfl Try.underlying45 rfl rfl rfl) ?_
           refine AO.ro rfl rfl (gOn_none rfl) (RO.idx rfl Try.underlying45 ti26 rfl rfl (by omega)) ?_
           refine AO.ro rfl rfl (gOn_none rfl) (RO.ld_addr rfl Try.underlying26 rfl rfl rfl) ?_
           refine AO.ro rfl rfl (gOn_none rfl) (RO.idx rfl Try.underlying26 ti3 rfl rfl (by omega)) ?_
           refine AO.ro rfl rfl (gOn_none rfl) (RO.ld_addr rfl Try.underlying3 rfl rfl rfl) ?_
           refine AO.splitn rfl rfl (gOn_none rfl) (RO.neq rfl rfl rfl) (fun t15 => ?_) (fun t15 => ?_)
           ·
            refine AO.nil ?_
            refine AW.cond_t rfl ?_
            refine AW.seq ?_
            refine AW.region [0] rfl ?_
            refine AO.ro rfl rfl (gOn_none rfl) (RO.assign rfl rfl) ?_
            refine AO.nil ?_
            refine AW.ret ?_
            refine ⟨[], [.d (.lit (.int .i64 3))], [], rfl, ⟨⟨_, rfl, .inl rfl⟩, rfl⟩, trivial, ?_⟩
            refine ⟨3, rfl, rfl, ?_⟩
            have ht : MTab m := fun j a b => h2 j a (by omega)
            first
            | exact (mor_zero h3.1 h3.2.1 h3.2.2 ht (by assumption)).symm
            | exact (mor_ok h3.1 h3.2.1 h3.2.2 ht (by assumption)).symm
           ·
            refine AO.nil ?_
            refine AW.cond_f rfl ?_
            refine AW.skip ?_
            refine AW.seq ?_
            refine AW.region [0] rfl ?_
            refine AO.ro rfl rfl (gOn_none rfl) (RO.assign rfl rfl) ?_
            refine AO.nil ?_
            refine AW.ret ?_
            refine ⟨[], [.d (.lit (.int .i64 0))], [], rfl, ⟨⟨_, rfl, .inl rfl⟩, rfl⟩, trivial, ?_⟩
            refine ⟨0, rfl, rfl, ?_⟩
            have ht : MTab m := fun j a b => h2 j a (by omega)
            first
            | exact (mor_zero h3.1 h3.2.1 h3.2.2 ht (by assumption)).symm
            | exact (mor_ok h3.1 h3.2.1 h3.2.2 ht (by assumption)).symm

theorem mcheck23_ok (m : Morph) : Fc Try.prog 27 [.d (enc (m : Morph))] [] (fun rv hv => ∃ (e : Int), rv = .d (.lit (.int .i64 e)) ∧ hv = [] ∧ (e = morE m)) := by
  refine Fc.of_body Try.func27 rfl Try.ntmps27 (by simp) (fun F => ?_)
  refine (show AW _ _ _ (⟨96, 0, [(0, .d (enc (m : Morph)))], []⟩ : St) _ from ?_)
  refine AW.seq ?_
  refine AW.region [1, 0] rfl ?_
  refine AO.al1 (gOn_none rfl) (AL.box 0 rfl (by kernel_rfl) rfl rfl rfl rfl rfl) ?_
  refine AO.ro rfl rfl (gOn_none rfl) (RO.assign rfl rfl) ?_
  refine AO.nil ?_
  refine AW.seq ?_
  refine AW.seq ?_
  refine AW.region [0, 0, 0, 0, 0, 0, 0, 0] rfl ?_
  refine AO.ro rfl rfl (gOn_none rfl) (RO.fld_ptr rfl fa47_0 rfl) ?_
  refine AO.ro rfl rfl (gOn_none rfl) (RO.ld_ptr rfl Try.underlying3 rfl rfl rfl rfl) ?_
  refine AO.split rfl rfl (gOn_none rfl) (RO.lss rfl rfl rfl) (fun t1 => ?_) (fun t1 => ?_)
  ·
   refine AO.ro rfl rfl (gOn_none rfl) (RO.move rfl rfl) ?_
   refine AO.skip rfl rfl (gOn_some 10 true rfl rfl rfl rfl) ?_
   refine AO.skip rfl rfl (gOn_some 10 true rfl rfl rfl rfl) ?_
   refine AO.skip rfl rfl (gOn_some 10 true rfl rfl rfl rfl) ?_
   refine AO.ro rfl rfl (gOn_none rfl) (RO.pick_t rfl rfl rfl) ?_
   refine AO.nil ?_
   refine AW.cond_t rfl ?_
   refine AW.seq ?_
   refine AW.region [0] rfl ?_
   refine AO.ro rfl rfl (gOn_none rfl) (RO.assign rfl rfl) ?_
   refine AO.nil ?_
   refine AW.ret ?_
   refine ⟨[], [.d (.lit (.int .i64 2))], [], rfl, ⟨⟨_, rfl, .inl rfl⟩, rfl⟩, trivial, ?_⟩
   refine ⟨2, rfl, rfl, ?_⟩
   first
   | exact (mor_base (by unfold MBase; omega)).symm
   | exact (mor_size (by unfold MBase; omega) (by unfold MSize; omega)).symm
   | exact (mor_shape (by unfold MBase; omega) (by unfold MSize; omega) (fun h => by have := h.1; omega)).symm
  ·
   refine AO.ro rfl rfl (gOn_none rfl) (RO.move rfl rfl) ?_
   refine AO.ro rfl rfl (gOn_some 10 false rfl rfl rfl rfl) (RO.fld_ptr rfl fa47_0 rfl) ?_
   refine AO.ro rfl rfl (gOn_some 10 false rfl rfl rfl rfl) (RO.ld_ptr rfl Try.underlying3 rfl rfl rfl rfl) ?_
   refine AO.split rfl rfl (gOn_some 10 false rfl rfl rfl rfl) (RO.gtr rfl rfl rfl) (fun t2 => ?_) (fun t2 => ?_)
   ·
    refine AO.ro rfl rfl (gOn_none rfl) (RO.pick_f rfl rfl rfl) ?_
    refine AO.nil ?_
    refine AW.cond_t rfl ?_
    refine AW.seq ?_
    refine AW.region [0] rfl ?_
    refine AO.ro rfl rfl (gOn_none rfl) (RO.assign rfl rfl) ?_
    refine AO.nil ?_
    refine AW.ret ?_
    refine ⟨[], [.d (.lit (.int .i64 2))], [], rfl, ⟨⟨_, rfl, .inl rfl⟩, rfl⟩, trivial, ?_⟩
    refine ⟨2, rfl, rfl, ?_⟩
    first
    | exact (mor_base (by unfold MBase; omega)).symm
    | exact (mor_size (by unfold MBase; omega) (by unfold MSize; omega)).symm
    | exact (mor_shape (by unfold MBase; omega) (by unfold MSize; omega) (fun h => by have := h.1; omega)).symm
   ·
    refine AO.ro rfl rfl (gOn_none rfl) (RO.pick_f rfl rfl rfl) ?_
    refine AO.nil ?_
    refine AW.cond_f rfl ?_
    refine AW.skip ?_
    refine AW.seq ?_
    refine AW.region [0, 0, 0, 0] rfl ?_
    refine AO.ro rfl rfl (gOn_none rfl) (RO.fld_ptr rfl fa47_1 rfl) ?_
    refine AO.ro rfl rfl (gOn_none rfl) (RO.ld_ptr rfl Try.underlying45 rfl rfl rfl rfl) ?_
    refine AO.fact 16 rfl (fun ln3 => ?_)
    replace ln3 : m.Images.length * 24 ≤ 140737488355328 := ln3
    refine AO.ro rfl rfl (gOn_none rfl) (RO.len rfl Try.underlying45 rfl) ?_
    refine AO.ro rfl rfl (gOn_none rfl) (RO.assign rfl rfl) ?_
    refine AO.nil ?_
    refine AW.seq ?_
    refine AW.seq ?_
    refine AW.region [0, 0, 0, 0, 0, 0] rfl ?_
    refine AO.ro rfl rfl (gOn_none rfl) (RO.move rfl rfl) ?_
    refine AO.split rfl rfl (gOn_none rfl) (RO.lss rfl rfl rfl) (fun t4 => ?_) (fun t4 => ?_)
    ·
     refine AO.ro rfl rfl (gOn_none rfl) (RO.move rfl rfl) ?_
     refine AO.skip rfl rfl (gOn_some 20 true rfl rfl rfl rfl) ?_
     refine AO.skip rfl rfl (gOn_some 20 true rfl rfl rfl rfl) ?_
     refine AO.ro rfl rfl (gOn_none rfl) (RO.pick_t rfl rfl rfl) ?_
     refine AO.nil ?_
     refine AW.cond_t rfl ?_
     refine AW.seq ?_
     refine AW.region [0] rfl ?_
     refine AO.ro rfl rfl (gOn_none rfl) (RO.assign rfl rfl) ?_
     refine AO.nil ?_
     refine AW.ret ?_
     refine ⟨[], [.d (.lit (.int .i64 1))], [], rfl, ⟨⟨_, rfl, .inl rfl⟩, rfl⟩, trivial, ?_⟩
     refine ⟨1, rfl, rfl, ?_⟩
     first
     | exact (mor_base (by unfold MBase; omega)).symm
     | exact (mor_size (by unfold MBase; omega) (by unfold MSize; omega)).symm
     | exact (mor_shape (by unfold MBase; omega) (by unfold MSize; omega) (fun h => by have := h.1; omega)).symm
    ·
     refine AO.ro rfl rfl (gOn_none rfl) (RO.move rfl rfl) ?_
     refine AO.ro rfl rfl (gOn_some 20 false rfl rfl rfl rfl) (RO.move rfl rfl) ?_
     refine AO.split rfl rfl (gOn_some 20 false rfl rfl rfl rfl) (RO.gtr rfl rfl rfl) (fun t5 => ?_) (fun t5 => ?_)
     ·
      refine AO.ro rfl rfl (gOn_none rfl) (RO.pick_f rfl rfl rfl) ?_
      refine AO.nil ?_
      refine AW.cond_t rfl ?_
      refine AW.seq ?_
      refine AW.region [0] rfl ?_
      refine AO.ro rfl rfl (gOn_none rfl) (RO.assign rfl rfl) ?_
      refine AO.nil ?_
      refine AW.ret ?_
      refine ⟨[], [.d (.lit (.int .i64 1))], [], rfl, ⟨⟨_, rfl, .inl rfl⟩, rfl⟩, trivial, ?_⟩
      refine ⟨1, rfl, rfl, ?_⟩
      first
      | exact (mor_base (by unfold MBase; omega)).symm
      | exact (mor_size (by unfold MBase; omega) (by unfold MSize; omega)).symm
      | exact (mor_shape (by unfold MBase; omega) (by unfold MSize; omega) (fun h => by have := h.1; omega)).symm
     ·
      refine AO.ro rfl rfl (gOn_none rfl) (RO.pick_f rfl rfl rfl) ?_
      refine AO.nil ?_
      refine AW.cond_f rfl ?_
      refine AW.skip ?_
      refine AW.seq ?_
      refine AW.seq ?_
      refine AW.region [0, 0, 0, 0, 0] rfl ?_
      refine AO.ro rfl rfl (gOn_none rfl) (RO.fld_ptr rfl fa47_2 rfl) ?_
      refine AO.ro rfl rfl (gOn_none rfl) (RO.ld_ptr rfl Try.underlying26 rfl rfl rfl rfl) ?_
      refine AO.fact 25 rfl (fun ln6 => ?_)
      replace ln6 : m.Coding.length * 8 ≤ 140737488355328 := ln6
      refine AO.ro rfl rfl (gOn_none rfl) (RO.len rfl Try.underlying26 rfl) ?_
      refine AO.ro rfl rfl (gOn_none rfl) (RO.move rfl rfl) ?_
      refine AO.splitn rfl rfl (gOn_none rfl) (RO.neq rfl rfl rfl) (fun t7 => ?_) (fun t7 => ?_)
      ·
       refine AO.nil ?_
       refine AW.cond_t rfl ?_
       refine AW.seq ?_
       refine AW.region [0] rfl ?_
       refine AO.ro rfl rfl (gOn_none rfl) (RO.assign rfl rfl) ?_
       refine AO.nil ?_
       refine AW.ret ?_
       refine ⟨[], [.d (.lit (.int .i64 3))], [], rfl, ⟨⟨_, rfl, .inl rfl⟩, rfl⟩, trivial, ?_⟩
       refine ⟨3, rfl, rfl, ?_⟩
       first
       | exact (mor_base (by unfold MBase; omega)).symm
       | exact (mor_size (by unfold MBase; omega) (by unfold MSize; omega)).symm
       | exact (mor_shape (by unfold MBase; omega) (by unfold MSize; omega) (fun h => by have := h.1; omega)).symm
      ·
       refine AO.nil ?_
       refine AW.cond_f rfl ?_
       refine AW.skip ?_
       refine AW.seq ?_
       refine AW.seq ?_
       refine AW.region [0] rfl ?_
       refine AO.ro rfl rfl (gOn_none rfl) (RO.assign rfl rfl) ?_
       refine AO.nil ?_
       refine AW.block ?_
       refine AW.loop (mp := [(0, some 0)]) (X := Int) (fun xv => ⟨96, 1, [(1, .ptr 0 0), (2, .d (.lit (.int .i64 0))), (3, .d (.lit (.int .i64 ((m.Images.length : Int))))), (4, .d (.lit (.int .i64 xv)))], [(0, some (Ent.box 47 [.d (.lit (.int .i64 m.Base)), .d (enc (m.Images : (List (List Int)))), .d (enc (m.Coding : (List Int)))]))]⟩) (fun xv => (0 ≤ xv ∧ xv ≤ m.Images.length) ∧ (∀ j : Int, 0 ≤ j → j < xv → ((ix m.Images j).length : Int) = m.Base)) (fun xv => (m.Images.length - xv).toNat) 0 ?_ ⟨rfl, rfl, ⟨⟨_, rfl, .inl rfl⟩, ⟨⟨_, rfl, .inl rfl⟩, ⟨⟨_, rfl, .inl rfl⟩, ⟨⟨_, rfl, .inl rfl⟩, trivial⟩⟩⟩⟩, ⟨⟨_, rfl, rfl⟩, trivial⟩⟩ ?_
       · try dsimp only
         exact ⟨by omega, fun j a b => by omega⟩
       · skip
         intro a hx
         replace hx : (0 ≤ a ∧ a ≤ m.Images.length) ∧ (∀ j : Int, 0 ≤ j → j < a → ((ix m.Images j).length : Int) = m.Base) := hx
         obtain ⟨h1, h2⟩ := hx
         refine (show AW _ _ _ (⟨96, 1, [(1, .ptr 0 0), (2, .d (.lit (.int .i64 0))), (3, .d (.lit (.int .i64 ((m.Images.length : Int))))), (4, .d (.lit (.int .i64 a)))], [(0, some (Ent.box 47 [.d (.lit (.int .i64 m.Base)), .d (enc (m.Images : (List (List Int)))), .d (enc (m.Coding : (List Int)))]))]⟩ : St) _ from ?_)
         refine AW.seq ?_
         refine AW.seq ?_
         refine AW.region [0, 0, 0] rfl ?_
         refine AO.ro rfl rfl (gOn_none rfl) (RO.move rfl rfl) ?_
         refine AO.ro rfl rfl (gOn_none rfl) (RO.move rfl rfl) ?_
         refine AO.split rfl rfl (gOn_none rfl) (RO.lss rfl rfl rfl) (fun t8 => ?_) (fun t8 => ?_)
         ·
          refine AO.nil ?_
          refine AW.cond_t rfl ?_
          refine AW.skip ?_
          refine AW.seq ?_
          refine AW.block ?_
          refine AW.seq ?_
          refine AW.drawn [(0, 0), (0, 1), (0, 2), (0, 3), (0, 4), (0, 5), (0, 6), (0, 7), (0, 8)] (by kernel_rfl) (by kernel_rfl) ?_
          refine AO.ro rfl rfl (gOn_none rfl) (RO.fld_ptr rfl fa47_1 rfl) ?_
          refine AO.ro rfl rfl (gOn_none rfl) (RO.ld_ptr rfl Try.underlying45 rfl rfl rfl rfl) ?_
          refine AO.ro rfl rfl (gOn_none rfl) (RO.move rfl rfl) ?_
          refine AO.ro rfl rfl (gOn_none rfl) (RO.idx rfl Try.underlying45 ti26 rfl rfl (by omega)) ?_
          refine AO.ro rfl rfl (gOn_none rfl) (RO.ld_addr rfl Try.underlying26 rfl rfl rfl) ?_
          refine AO.fact 38 rfl (fun ln9 => ?_)
          replace ln9 : (ix m.Images a).length * 8 ≤ 140737488355328 := ln9
          refine AO.ro rfl rfl (gOn_none rfl) (RO.len rfl Try.underlying26 rfl) ?_
          refine AO.ro rfl rfl (gOn_none rfl) (RO.fld_ptr rfl fa47_0 rfl) ?_
          refine AO.ro rfl rfl (gOn_none rfl) (RO.ld_ptr rfl Try.underlying3 rfl rfl rfl rfl) ?_
          refine AO.splitn rfl rfl (gOn_none rfl) (RO.neq rfl rfl rfl) (fun t10 => ?_) (fun t10 => ?_)
          ·
           refine AO.nil ?_
           refine AW.cond_t rfl ?_
           refine AW.seq ?_
           refine AW.region [0] rfl ?_
           refine AO.ro rfl rfl (gOn_none rfl) (RO.assign rfl rfl) ?_
           refine AO.nil ?_
           refine AW.ret ?_
           refine ⟨[], [.d (.lit (.int .i64 3))], [], rfl, ⟨⟨_, rfl, .inl rfl⟩, rfl⟩, trivial, ?_⟩
           refine ⟨3, rfl, rfl, ?_⟩
           exact (mor_shape (by unfold MBase; omega) (by unfold MSize; omega) (fun h => by have := h.2 _ (ix_mem (l := m.Images) (i := a) (by omega) (by omega)); omega)).symm
          ·
           refine AO.nil ?_
           refine AW.cond_f rfl ?_
           refine AW.skip ?_
           refine AW.region [0, 0, 0] rfl ?_
           refine AO.ro rfl rfl (gOn_none rfl) (RO.move rfl rfl) ?_
           refine AO.ro rfl rfl (gOn_none rfl) (RO.add rfl rfl rfl (by omega)) ?_
           refine AO.ro rfl rfl (gOn_none rfl) (RO.assign rfl rfl) ?_
           refine AO.nil ?_
           refine ⟨a + 1, [(0, some 0)], ?_, ?_, ⟨rfl, rfl, ⟨⟨_, rfl, .inl rfl⟩, ⟨⟨_, rfl, .inl rfl⟩, ⟨⟨_, rfl, .inl rfl⟩, ⟨⟨_, rfl, .inl rfl⟩, trivial⟩⟩⟩⟩, ⟨⟨_, rfl, rfl⟩, trivial⟩⟩⟩
           · try dsimp only
             exact ⟨by omega, below_succ h2 (by omega)⟩
           · try dsimp only
             first | omega | (simp; done) | (simp_all; done) | (simp_all; omega)
         ·
          refine AO.nil ?_
          refine AW.cond_f rfl ?_
          refine AW.exit ?_
          refine AW.seq ?_
          refine AW.seq ?_
          refine AW.region [0] rfl ?_
          refine AO.ro rfl rfl (gOn_none rfl) (RO.assign rfl rfl) ?_
          refine AO.nil ?_
          refine AW.block ?_
          refine AW.loop (mp := [(0, some 0)]) (X := Int) (fun xv => ⟨96, 1, [(1, .ptr 0 0), (2, .d (.lit (.int .i64 0))), (3, .d (.lit (.int .i64 ((m.Images.length : Int))))), (5, .d (.lit (.int .i64 xv)))], [(0, some (Ent.box 47 [.d (.lit (.int .i64 m.Base)), .d (enc (m.Images : (List (List Int)))), .d (enc (m.Coding : (List Int)))]))]⟩) (fun xv => (0 ≤ xv ∧ xv ≤ m.Images.length) ∧ (∀ j : Int, 0 ≤ j → j < xv → MRow m j) ∧ (MBase m ∧ MSize m ∧ MShape m)) (fun xv => (m.Images.length - xv).toNat) 0 ?_ ⟨rfl, rfl, ⟨⟨_, rfl, .inl rfl⟩, ⟨⟨_, rfl, .inl rfl⟩, ⟨⟨_, rfl, .inl rfl⟩, ⟨⟨_, rfl, .inl rfl⟩, trivial⟩⟩⟩⟩, ⟨⟨_, rfl, rfl⟩, trivial⟩⟩ ?_
          · try dsimp only
            refine ⟨by omega, fun j a b => by omega, by unfold MBase; omega, by unfold MSize; omega, by omega, forall_ix.2 fun j a b => h2 j a (by omega)⟩
          · skip
            intro a hx
            replace hx : (0 ≤ a ∧ a ≤ m.Images.length) ∧ (∀ j : Int, 0 ≤ j → j < a → MRow m j) ∧ (MBase m ∧ MSize m ∧ MShape m) := hx
            obtain ⟨h1, h2, h3⟩ := hx
            refine (show AW _ _ _ (⟨96, 1, [(1, .ptr 0 0), (2, .d (.lit (.int .i64 0))), (3, .d (.lit (.int .i64 ((m.Images.length : Int))))), (5, .d (.lit (.int .i64 a)))], [(0, some (Ent.box 47 [.d (.lit (.int .i64 m.Base)), .d (enc (m.Images : (List (List Int)))), .d (enc (m.Coding : (List Int)))]))]⟩ : St) _ from ?_)
            have h4 : a < m.Images.length → ((ix m.Images a).length : Int) = m.Base := fun h => h3.2.2.2 _ (ix_mem h1.1 h)
            have h5 := h3.2.2.1
            have h6 := h3.2.1.1
            have h7 := h3.1.1
            have h8 : ((ix m.Images 0).length : Int) = m.Base := h3.2.2.2 _ (ix_mem (by omega) (by omega))
            refine AW.seq ?_
            refine AW.seq ?_
            refine AW.region [0, 0, 0] rfl ?_
            refine AO.ro rfl rfl (gOn_none rfl) (RO.move rfl rfl) ?_
            refine AO.ro rfl rfl (gOn_none rfl) (RO.move rfl rfl) ?_
            refine AO.split rfl rfl (gOn_none rfl) (RO.lss rfl rfl rfl) (fun t11 => ?_) (fun t11 => ?_)
            ·
             refine AO.nil ?_
             refine AW.cond_t rfl ?_
             refine AW.skip ?_
             refine AW.seq ?_
             refine AW.block ?_
             refine AW.seq ?_
             refine AW.seq ?_
             refine AW.region [0] rfl ?_
             refine AO.ro rfl rfl (gOn_none rfl) (RO.assign rfl rfl) ?_
             refine AO.nil ?_
             refine AW.block ?_
             refine AW.loop (mp := [(0, some 0)]) (X := Int) (fun xv => ⟨96, 1, [(1, .ptr 0 0), (2, .d (.lit (.int .i64 0))), (3, .d (.lit (.int .i64 ((m.Images.length : Int))))), (5, .d (.lit (.int .i64 a))), (6, .d (.lit (.int .i64 xv)))], [(0, some (Ent.box 47 [.d (.lit (.int .i64 m.Base)), .d (enc (m.Images : (List (List Int)))), .d (enc (m.Coding : (List Int)))]))]⟩) (fun xv => (0 ≤ xv ∧ xv ≤ m.Base) ∧ (∀ j : Int, 0 ≤ j → j < xv → 0 ≤ ix (ix m.Images a) j ∧ ix (ix m.Images a) j < m.Images.length)) (fun xv => (m.Base - xv).toNat) 0 ?_ ⟨rfl, rfl, ⟨⟨_, rfl, .inl rfl⟩, ⟨⟨_, rfl, .inl rfl⟩, ⟨⟨_, rfl, .inl rfl⟩, ⟨⟨_, rfl, .inl rfl⟩, ⟨⟨_, rfl, .inl rfl⟩, trivial⟩⟩⟩⟩⟩, ⟨⟨_, rfl, rfl⟩, trivial⟩⟩ ?_
             · try dsimp only
               exact ⟨by omega, fun j a b => by omega⟩
             · skip
               intro k hx
               replace hx : (0 ≤ k ∧ k ≤ m.Base) ∧ (∀ j : Int, 0 ≤ j → j < k → 0 ≤ ix (ix m.Images a) j ∧ ix (ix m.Images a) j < m.Images.length) := hx
               obtain ⟨g1, g2⟩ := hx
               refine (show AW _ _ _ (⟨96, 1, [(1, .ptr 0 0), (2, .d (.lit (.int .i64 0))), (3, .d (.lit (.int .i64 ((m.Images.length : Int))))), (5, .d (.lit (.int .i64 a))), (6, .d (.lit (.int .i64 k)))], [(0, some (Ent.box 47 [.d (.lit (.int .i64 m.Base)), .d (enc (m.Images : (List (List Int)))), .d (enc (m.Coding : (List Int)))]))]⟩ : St) _ from ?_)
               refine AW.seq ?_
               refine AW.seq ?_
               refine AW.region [0, 0, 0, 0] rfl ?_
               refine AO.ro rfl rfl (gOn_none rfl) (RO.move rfl rfl) ?_
               refine AO.ro rfl rfl (gOn_none rfl) (RO.fld_ptr rfl fa47_0 rfl) ?_
               refine AO.ro rfl rfl (gOn_none rfl) (RO.ld_ptr rfl Try.underlying3 rfl rfl rfl rfl) ?_
               refine AO.split rfl rfl (gOn_none rfl) (RO.lss rfl rfl rfl) (fun t12 => ?_) (fun t12 => ?_)
               ·
                refine AO.nil ?_
                refine AW.cond_t rfl ?_
                refine AW.skip ?_
                refine AW.seq ?_
                refine AW.block ?_
                refine AW.seq ?_
                refine AW.region [0, 0, 0, 0, 0, 0, 0, 0, 0, 0, 0, 0, 0, 0, 0, 0, 0, 0, 0, 0, 0] rfl ?_
                refine AO.ro rfl rfl (gOn_none rfl) (RO.fld_ptr rfl fa47_1 rfl) ?_
                refine AO.ro rfl rfl (gOn_none rfl) (RO.ld_ptr rfl Try.underlying45 rfl rfl rfl rfl) ?_
                refine AO.ro rfl rfl (gOn_none rfl) (RO.move rfl rfl) ?_
                refine AO.ro rfl rfl (gOn_none rfl) (RO.idx rfl Try.underlying45 ti26 rfl rfl (by omega)) ?_
                refine AO.ro rfl rfl (gOn_none rfl) (RO.ld_addr rfl Try.underlying26 rfl rfl rfl) ?_
                refine AO.ro rfl rfl (gOn_none rfl) (RO.move rfl rfl) ?_
                refine AO.ro rfl rfl (gOn_none rfl) (RO.idx rfl Try.underlying26 ti3 rfl rfl (by omega)) ?_
                refine AO.ro rfl rfl (gOn_none rfl) (RO.ld_addr rfl Try.underlying3 rfl rfl rfl) ?_
                refine AO.split rfl rfl (gOn_none rfl) (RO.lss rfl rfl rfl) (fun t13 => ?_) (fun t13 => ?_)
                ·
                 refine AO.ro rfl rfl (gOn_none rfl) (RO.move rfl rfl) ?_
                 refine AO.skip rfl rfl (gOn_some 63 true rfl rfl rfl rfl) ?_
                 refine AO.skip rfl rfl (gOn_some 63 true rfl rfl rfl rfl) ?_
                 refine AO.skip rfl rfl (gOn_some 63 true rfl rfl rfl rfl) ?_
                 refine AO.skip rfl rfl (gOn_some 63 true rfl rfl rfl rfl) ?_
                 refine AO.skip rfl rfl (gOn_some 63 true rfl rfl rfl rfl) ?_
                 refine AO.skip rfl rfl (gOn_some 63 true rfl rfl rfl rfl) ?_
                 refine AO.skip rfl rfl (gOn_some 63 true rfl rfl rfl rfl) ?_
                 refine AO.skip rfl rfl (gOn_some 63 true rfl rfl rfl rfl) ?_
                 refine AO.skip rfl rfl (gOn_some 63 true rfl rfl rfl rfl) ?_
                 refine AO.skip rfl rfl (gOn_some 63 true rfl rfl rfl rfl) ?_
                 refine AO.ro rfl rfl (gOn_none rfl) (RO.pick_t rfl rfl rfl) ?_
                 refine AO.nil ?_
                 refine AW.cond_t rfl ?_
                 refine AW.seq ?_
                 refine AW.region [0] rfl ?_
                 refine AO.ro rfl rfl (gOn_none rfl) (RO.assign rfl rfl) ?_
                 refine AO.nil ?_
                 refine AW.ret ?_
                 refine ⟨[], [.d (.lit (.int .i64 2))], [], rfl, ⟨⟨_, rfl, .inl rfl⟩, rfl⟩, trivial, ?_⟩
                 refine ⟨2, rfl, rfl, ?_⟩
                 refine (mor_tab h3.1 h3.2.1 h3.2.2 fun ht => ?_).symm
                 have := (ht a (by omega) (by omega))
                 first | (have := this.1 k (by omega) (by omega); omega) | (have := this.2; omega)
                ·
                 refine AO.ro rfl rfl (gOn_none rfl) (RO.move rfl rfl) ?_
                 refine AO.ro rfl rfl (gOn_some 63 false rfl rfl rfl rfl) (RO.fld_ptr rfl fa47_1 rfl) ?_
                 refine AO.ro rfl rfl (gOn_some 63 false rfl rfl rfl rfl) (RO.ld_ptr rfl Try.underlying45 rfl rfl rfl rfl) ?_
                 refine AO.ro rfl rfl (gOn_some 63 false rfl rfl rfl rfl) (RO.move rfl rfl) ?_
                 refine AO.ro rfl rfl (gOn_some 63 false rfl rfl rfl rfl) (RO.idx rfl Try.underlying45 ti26 rfl rfl (by omega)) ?_
                 refine AO.ro rfl rfl (gOn_some 63 false rfl rfl rfl rfl) (RO.ld_addr rfl Try.underlying26 rfl rfl rfl) ?_
                 refine AO.ro rfl rfl (gOn_some 63 false rfl rfl rfl rfl) (RO.move rfl rfl) ?_
                 refine AO.ro rfl rfl (gOn_some 63 false rfl rfl rfl rfl) (RO.idx rfl Try.underlying26 ti3 rfl rfl (by omega)) ?_
                 refine AO.ro rfl rfl (gOn_some 63 false rfl rfl rfl rfl) (RO.ld_addr rfl Try.underlying3 rfl rfl rfl) ?_
                 refine AO.ro rfl rfl (gOn_some 63 false rfl rfl rfl rfl) (RO.move rfl rfl) ?_
                 refine AO.split rfl rfl (gOn_some 63 false rfl rfl rfl rfl) (RO.geq rfl rfl rfl) (fun t14 => ?_) (fun t14 => ?_)
                 ·
                  refine AO.ro rfl rfl (gOn_none rfl) (RO.pick_f rfl rfl rfl) ?_
                  refine AO.nil ?_
                  refine AW.cond_t rfl ?_
                  refine AW.seq ?_
                  refine AW.region [0] rfl ?_
                  refine AO.ro rfl rfl (gOn_none rfl) (RO.assign rfl rfl) ?_
                  refine AO.nil ?_
                  refine AW.ret ?_
                  refine ⟨[], [.d (.lit (.int .i64 2))], [], rfl, ⟨⟨_, rfl, .inl rfl⟩, rfl⟩, trivial, ?_⟩
                  refine ⟨2, rfl, rfl, ?_⟩
                  refine (mor_tab h3.1 h3.2.1 h3.2.2 fun ht => ?_).symm
                  have := (ht a (by omega) (by omega))
                  first | (have := this.1 k (by omega) (by omega); omega) | (have := this.2; omega)
                 ·
                  refine AO.ro rfl rfl (gOn_none rfl) (RO.pick_f rfl rfl rfl) ?_
                  refine AO.nil ?_
                  refine AW.cond_f rfl ?_
                  refine AW.skip ?_
                  refine AW.region [0, 0, 0] rfl ?_
                  refine AO.ro rfl rfl (gOn_none rfl) (RO.move rfl rfl) ?_
                  refine AO.ro rfl rfl (gOn_none rfl) (RO.add rfl rfl rfl (by omega)) ?_
                  refine AO.ro rfl rfl (gOn_none rfl) (RO.assign rfl rfl) ?_
                  refine AO.nil ?_
                  refine ⟨k + 1, [(0, some 0)], ?_, ?_, ⟨rfl, rfl, ⟨⟨_, rfl, .inl rfl⟩, ⟨⟨_, rfl, .inl rfl⟩, ⟨⟨_, rfl, .inl rfl⟩, ⟨⟨_, rfl, .inl rfl⟩, ⟨⟨_, rfl, .inl rfl⟩, trivial⟩⟩⟩⟩⟩, ⟨⟨_, rfl, rfl⟩, trivial⟩⟩⟩
                  · try dsimp only
                    exact ⟨by omega, below_succ g2 (by omega)⟩
                  · try dsimp only
                    first | omega | (simp; done) | (simp_all; done) | (simp_all; omega)
               ·
                refine AO.nil ?_
                refine AW.cond_f rfl ?_
                refine AW.exit ?_
                refine AW.seq ?_
                refine AW.region [0, 0, 0, 0, 0, 0, 0, 0, 0, 0, 0, 0, 0, 0] rfl ?_
                refine AO.ro rfl rfl (gOn_none rfl) (RO.fld_ptr rfl fa47_2 rfl) ?_
                refine AO.ro rfl rfl (gOn_none rfl) (RO.ld_ptr rfl Try.underlying26 rfl rfl rfl rfl) ?_
                refine AO.ro rfl rfl (gOn_none rfl) (RO.move rfl rfl) ?_
                refine AO.ro rfl rfl (gOn_none rfl) (RO.idx rfl Try.underlying26 ti3 rfl rfl (by omega)) ?_
                refine AO.ro rfl rfl (gOn_none rfl) (RO.ld_addr rfl Try.underlying3 rfl rfl rfl) ?_
                refine AO.split rfl rfl (gOn_none rfl) (RO.lss rfl rfl rfl) (fun t15 => ?_) (fun t15 => ?_)
                ·
                 refine AO.ro rfl rfl (gOn_none rfl) (RO.move rfl rfl) ?_
                 refine AO.skip rfl rfl (gOn_some 81 true rfl rfl rfl rfl) ?_
                 refine AO.skip rfl rfl (gOn_some 81 true rfl rfl rfl rfl) ?_
                 refine AO.skip rfl rfl (gOn_some 81 true rfl rfl rfl rfl) ?_
                 refine AO.skip rfl rfl (gOn_some 81 true rfl rfl rfl rfl) ?_
                 refine AO.skip rfl rfl (gOn_some 81 true rfl rfl rfl rfl) ?_
                 refine AO.skip rfl rfl (gOn_some 81 true rfl rfl rfl rfl) ?_
                 refine AO.ro rfl rfl (gOn_none rfl) (RO.pick_t rfl rfl rfl) ?_
                 refine AO.nil ?_
                 refine AW.cond_t rfl ?_
                 refine AW.seq ?_
                 refine AW.region [0] rfl ?_
                 refine AO.ro rfl rfl (gOn_none rfl) (RO.assign rfl rfl) ?_
                 refine AO.nil ?_
                 refine AW.ret ?_
                 refine ⟨[], [.d (.lit (.int .i64 2))], [], rfl, ⟨⟨_, rfl, .inl rfl⟩, rfl⟩, trivial, ?_⟩
                 refine ⟨2, rfl, rfl, ?_⟩
                 refine (mor_tab h3.1 h3.2.1 h3.2.2 fun ht => ?_).symm
                 have := (ht a (by omega) (by omega))
                 first | (have := this.1 k (by omega) (by omega); omega) | (have := this.2; omega)
                ·
                 refine AO.ro rfl rfl (gOn_none rfl) (RO.move rfl rfl) ?_
                 refine AO.ro rfl rfl (gOn_some 81 false rfl rfl rfl rfl) (RO.fld_ptr rfl fa47_2 rfl) ?_
                 refine AO.ro rfl rfl (gOn_some 81 false rfl rfl rfl rfl) (RO.ld_ptr rfl Try.underlying26 rfl rfl rfl rfl) ?_
                 refine AO.ro rfl rfl (gOn_some 81 false rfl rfl rfl rfl) (RO.move rfl rfl) ?_
                 refine AO.ro rfl rfl (gOn_some 81 false rfl rfl rfl rfl) (RO.idx rfl Try.underlying26 ti3 rfl rfl (by omega)) ?_
                 refine AO.ro rfl rfl (gOn_some 81 false rfl rfl rfl rfl) (RO.ld_addr rfl Try.underlying3 rfl rfl rfl) ?_
                 refine AO.split rfl rfl (gOn_some 81 false rfl rfl rfl rfl) (RO.gtr rfl rfl rfl) (fun t16 => ?_) (fun t16 => ?_)
                 ·
                  refine AO.ro rfl rfl (gOn_none rfl) (RO.pick_f rfl rfl rfl) ?_
                  refine AO.nil ?_
                  refine AW.cond_t rfl ?_
                  refine AW.seq ?_
                  refine AW.region [0] rfl ?_
                  refine AO.ro rfl rfl (gOn_none rfl) (RO.assign rfl rfl) ?_
                  refine AO.nil ?_
                  refine AW.ret ?_
                  refine ⟨[], [.d (.lit (.int .i64 2))], [], rfl, ⟨⟨_, rfl, .inl rfl⟩, rfl⟩, trivial, ?_⟩
                  refine ⟨2, rfl, rfl, ?_⟩
                  refine (mor_tab h3.1 h3.2.1 h3.2.2 fun ht => ?_).symm
                  have := (ht a (by omega) (by omega))
                  first | (have := this.1 k (by omega) (by omega); omega) | (have := this.2; omega)
                 ·
                  refine AO.ro rfl rfl (gOn_none rfl) (RO.pick_f rfl rfl rfl) ?_
                  refine AO.nil ?_
                  refine AW.cond_f rfl ?_
                  refine AW.skip ?_
                  refine AW.region [0, 0, 0] rfl ?_
                  refine AO.ro rfl rfl (gOn_none rfl) (RO.move rfl rfl) ?_
                  refine AO.ro rfl rfl (gOn_none rfl) (RO.add rfl rfl rfl (by omega)) ?_
                  refine AO.ro rfl rfl (gOn_none rfl) (RO.assign rfl rfl) ?_
                  refine AO.nil ?_
                  refine ⟨a + 1, [(0, some 0)], ?_, ?_, ⟨rfl, rfl, ⟨⟨_, rfl, .inl rfl⟩, ⟨⟨_, rfl, .inl rfl⟩, ⟨⟨_, rfl, .inl rfl⟩, ⟨⟨_, rfl, .inl rfl⟩, trivial⟩⟩⟩⟩, ⟨⟨_, rfl, rfl⟩, trivial⟩⟩⟩
                  · try dsimp only
                    exact ⟨by omega, below_succ h2 ⟨fun k k0 k1 => g2 k k0 (by omega), by omega, by omega⟩, h3⟩
                  · try dsimp only
                    first | omega | (simp; done) | (simp_all; done) | (simp_all; omega)
            ·
             refine AO.nil ?_
             refine AW.cond_f rfl ?_
             refine AW.exit ?_
             refine AW.seq ?_
             refine AW.seq ?_
             refine AW.region [0, 0, 0, 0, 0, 0, 0] rfl ?_
             refine AO.ro rfl rfl (gOn_none rfl) (RO.fld_ptr rfl fa47_1 rfl) ?_
             refine AO.ro rfl rfl (gOn_none rfl) (RO.ld_ptr rfl Try.underlying45 rfl rfl rfl rfl) ?_
             refine AO.ro rfl rfl (gOn_none rfl) (RO.idx rfl Try.underlying45 ti26 rfl rfl (by omega)) ?_
             refine AO.ro rfl rfl (gOn_none rfl) (RO.ld_addr rfl Try.underlying26 rfl rfl rfl) ?_
             refine AO.ro rfl rfl (gOn_none rfl) (RO.idx rfl Try.underlying26 ti3 rfl rfl (by omega)) ?_
             refine AO.ro rfl rfl (gOn_none rfl) (RO.ld_addr rfl Try.underlying3 rfl rfl rfl) ?_
             refine AO.splitn rfl rfl (gOn_none rfl) (RO.neq rfl rfl rfl) (fun t17 => ?_) (fun t17 => ?_)
             ·
              refine AO.nil ?_
              refine AW.cond_t rfl ?_
              refine AW.seq ?_
              refine AW.region [0] rfl ?_
              refine AO.ro rfl rfl (gOn_none rfl) (RO.assign rfl rfl) ?_
              refine AO.nil ?_
              refine AW.ret ?_
              refine ⟨[], [.d (.lit (.int .i64 3))], [], rfl, ⟨⟨_, rfl, .inl rfl⟩, rfl⟩, trivial, ?_⟩
              refine ⟨3, rfl, rfl, ?_⟩
              have ht : MTab m := fun j a b => h2 j a (by omega)
              first
              | exact (mor_zero h3.1 h3.2.1 h3.2.2 ht (by assumption)).symm
              | exact (mor_ok h3.1 h3.2.1 h3.2.2 ht (by assumption)).symm
             ·
              refine AO.nil ?_
              refine AW.cond_f rfl ?_
              refine AW.skip ?_
              refine AW.seq ?_
              refine AW.region [0] rfl ?_
              refine AO.ro rfl rfl (gOn_none rfl) (RO.assign rfl rfl) ?_
              refine AO.nil ?_
              refine AW.ret ?_
              refine ⟨[], [.d (.lit (.int .i64 0))], [], rfl, ⟨⟨_, rfl, .inl rfl⟩, rfl⟩, trivial, ?_⟩
              refine ⟨0, rfl, rfl, ?_⟩
              have ht : MTab m := fun j a b => h2 j a (by omega)
              first
              | exact (mor_zero h3.1 h3.2.1 h3.2.2 ht (by assumption)).symm
              | exact (mor_ok h3.1 h3.2.1 h3.2.2 ht (by assumption)).symm

theorem letter_ok_rec : ∀ (fuel : Nat) (m : Morph) (n : Int) (hm : MOK m) (hn : 0 ≤ n) (hx : n ≤ 9223372036854775807) (hfuel : n.toNat < fuel), Fc Try.prog 63 [.d (enc (m : Morph)), .d (.lit (.int .i64 n))] [] (fun rv hv => ∃ (y : Int), rv = .d (.lit (.int .i64 y)) ∧ hv = [] ∧ (y = letT m n)) := by
  intro fuel
  induction fuel with
  | zero => intro m n hm hn hx hfuel; omega
  | succ fuel ih =>
  intro m n hm hn hx hfuel
  refine Fc.of_body Try.func63 rfl Try.ntmps63 (by simp) (fun F => ?_)
  refine (show AW _ _ _ (⟨23, 0, [(0, .d (enc (m : Morph))), (1, .d (.lit (.int .i64 n)))], []⟩ : St) _ from ?_)
  have hb := hm.base.1
  have hd := fun h : 0 < n => div_lt (b := m.Base) h hb
  have hr := mod_in (n := n) hb
  have hq := fun h : 0 < n => letT_in hm _ _ (Nat.le_refl _) (hd h).1
  have hl := fun h : 0 < n => hm.len (hq h).1 (hq h).2
  refine AW.seq ?_
  refine AW.region [1, 0] rfl ?_
  refine AO.al1 (gOn_none rfl) (AL.box 0 rfl (by kernel_rfl) rfl rfl rfl rfl rfl) ?_
  refine AO.ro rfl rfl (gOn_none rfl) (RO.assign rfl rfl) ?_
  refine AO.nil ?_
  refine AW.seq ?_
  refine AW.seq ?_
  refine AW.region [0, 0] rfl ?_
  refine AO.ro rfl rfl (gOn_none rfl) (RO.move rfl rfl) ?_
  refine AO.split rfl rfl (gOn_none rfl) (RO.eql rfl rfl rfl) (fun t1 => ?_) (fun t1 => ?_)
  ·
   refine AO.nil ?_
   refine AW.cond_t rfl ?_
   refine AW.seq ?_
   refine AW.region [0] rfl ?_
   refine AO.ro rfl rfl (gOn_none rfl) (RO.assign rfl rfl) ?_
   refine AO.nil ?_
   refine AW.ret ?_
   refine ⟨[], [.d (.lit (.int .i64 0))], [], rfl, ⟨⟨_, rfl, .inl rfl⟩, rfl⟩, trivial, ?_⟩
   refine ⟨0, rfl, rfl, ?_⟩
   subst_vars; rfl
  ·
   refine AO.nil ?_
   refine AW.cond_f rfl ?_
   refine AW.skip ?_
   refine AW.seq ?_
   refine AW.drawn [(0, 0), (0, 1), (0, 2), (0, 3), (0, 4), (0, 5), (0, 6), (0, 10), (0, 11), (0, 12), (0, 13), (1, 7), (0, 8), (0, 9), (0, 14), (0, 15), (0, 16)] (by kernel_rfl) (by kernel_rfl) ?_
   refine AO.ro rfl rfl (gOn_none rfl) (RO.fld_ptr rfl fa47_1 rfl) ?_
   refine AO.ro rfl rfl (gOn_none rfl) (RO.ld_ptr rfl Try.underlying45 rfl rfl rfl rfl) ?_
   refine AO.ro rfl rfl (gOn_none rfl) (RO.ld_ptr_d (y := enc (m : Morph)) rfl ti47 rfl rfl rfl rfl rfl) ?_
   refine AO.ro rfl rfl (gOn_none rfl) (RO.move rfl rfl) ?_
   refine AO.ro rfl rfl (gOn_none rfl) (RO.fld_ptr rfl fa47_0 rfl) ?_
   refine AO.ro rfl rfl (gOn_none rfl) (RO.ld_ptr rfl Try.underlying3 rfl rfl rfl rfl) ?_
   refine AO.ro rfl rfl (gOn_none rfl) (RO.quo rfl rfl rfl (by omega) (by omega) (by omega)) ?_
   refine AO.ro rfl rfl (gOn_none rfl) (RO.move rfl rfl) ?_
   refine AO.ro rfl rfl (gOn_none rfl) (RO.fld_ptr rfl fa47_0 rfl) ?_
   refine AO.ro rfl rfl (gOn_none rfl) (RO.ld_ptr rfl Try.underlying3 rfl rfl rfl rfl) ?_
   refine AO.ro rfl rfl (gOn_none rfl) (RO.rem rfl rfl rfl (by omega) (by omega)) ?_
   refine AO.callA («as» := [.d (enc (m : Morph)), .d (.lit (.int .i64 (n / m.Base)))]) (gOn_none rfl) rfl rfl rfl rfl Try.call63 ⟨⟨_, rfl, rfl⟩, ⟨_, rfl, rfl⟩, rfl⟩ (ih m (n / m.Base) hm (hd (by omega)).1 (by have := hd (by omega); omega) (by have := hd (by omega); omega)) ?_
   rintro _ _ ⟨y2, rfl, rfl, c2⟩
   refine ⟨[], 1, .d (.lit (.int .i64 y2)), [], rfl, trivial, rfl, ?_⟩
   have hq := hq (by omega); have hl := hl (by omega); rw [← c2] at hq hl
   refine AO.ro rfl rfl (gOn_none rfl) (RO.idx rfl Try.underlying45 ti26 rfl rfl (by omega)) ?_
   refine AO.ro rfl rfl (gOn_none rfl) (RO.ld_addr rfl Try.underlying26 rfl rfl rfl) ?_
   refine AO.ro rfl rfl (gOn_none rfl) (RO.idx rfl Try.underlying26 ti3 rfl rfl (by omega)) ?_
   refine AO.ro rfl rfl (gOn_none rfl) (RO.ld_addr rfl Try.underlying3 rfl rfl rfl) ?_
   refine AO.ro rfl rfl (gOn_none rfl) (RO.assign rfl rfl) ?_
   refine AO.nil ?_
   refine AW.ret ?_
   refine ⟨[], [.d (.lit (.int .i64 (ix (ix m.Images y2) (n % m.Base))))], [], rfl, ⟨⟨_, rfl, .inl rfl⟩, rfl⟩, trivial, ?_⟩
   refine ⟨(ix (ix m.Images y2) (n % m.Base)), rfl, rfl, ?_⟩
   subst_vars; exact (letT_step hb (by omega)).symm
theorem letter_ok (m : Morph) (n : Int) (hm : MOK m) (hn : 0 ≤ n) (hx : n ≤ 9223372036854775807) : Fc Try.prog 63 [.d (enc (m : Morph)), .d (.lit (.int .i64 n))] [] (fun rv hv => ∃ (y : Int), rv = .d (.lit (.int .i64 y)) ∧ hv = [] ∧ (y = letT m n)) := letter_ok_rec _ m n hm hn hx (Nat.lt_succ_self _)

theorem letter23_ok (m : Morph) (n : Int) (hm : MOK m) (hn : 0 ≤ n) (hx : n ≤ 9223372036854775807) : Fc Try.prog 29 [.d (enc (m : Morph)), .d (.lit (.int .i64 n))] [] (fun rv hv => ∃ (y : Int), rv = .d (.lit (.int .i64 y)) ∧ hv = [] ∧ (y = letT m n)) := by
  refine Fc.of_body Try.func29 rfl Try.ntmps29 (by simp) (fun F => ?_)
  refine (show AW _ _ _ (⟨40, 0, [(0, .d (enc (m : Morph))), (1, .d (.lit (.int .i64 n)))], []⟩ : St) _ from ?_)
  have hb := hm.base.1
  refine AW.seq ?_
  refine AW.region [1, 0] rfl ?_
  refine AO.al1 (gOn_none rfl) (AL.box 0 rfl (by kernel_rfl) rfl rfl rfl rfl rfl) ?_
  refine AO.ro rfl rfl (gOn_none rfl) (RO.assign rfl rfl) ?_
  refine AO.nil ?_
  refine AW.seq ?_
  refine AW.region [0] rfl ?_
  refine AO.ro rfl rfl (gOn_none rfl) (RO.assign rfl rfl) ?_
  refine AO.nil ?_
  refine AW.seq ?_
  refine AW.block ?_
  refine AW.loop (mp := [(0, some 0), (1, none)]) (X := Int × List Int) (fun xv => ⟨40, 2, [(1, .d (.lit (.int .i64 xv.1))), (2, .ptr 0 0), (4, .d (.lit (.int .i64 0))), (5, .own 1)], [(0, some (Ent.box 47 [.d (.lit (.int .i64 m.Base)), .d (enc (m.Images : (List (List Int)))), .d (enc (m.Coding : (List Int)))])), (1, some (Ent.arrOf 3 (xv.2 : List Int)))]⟩) (fun xv => (0 ≤ xv.1 ∧ xv.1 ≤ 9223372036854775807) ∧ (letT m n = digs m xv.2 (letT m xv.1)) ∧ (∀ x ∈ xv.2, 0 ≤ x ∧ x < m.Base) ∧ (2 ^ xv.2.length * xv.1 ≤ n) ∧ (xv.2.length ≤ 63)) (fun xv => xv.1.toNat) ((n, [])) ?_ ⟨rfl, rfl, ⟨⟨_, rfl, .inl rfl⟩, ⟨⟨_, rfl, .inl rfl⟩, ⟨⟨_, rfl, .inl rfl⟩, ⟨⟨_, rfl, .inl rfl⟩, trivial⟩⟩⟩⟩, ⟨⟨_, rfl, rfl⟩, ⟨⟨_, _, _, rfl, by decide⟩, trivial⟩⟩⟩ ?_
  · try dsimp only
    exact ⟨by omega, rfl, by simp, by simp, by simp⟩
  · skip
    intro x hx
    obtain ⟨k, p⟩ := x
    replace hx : (0 ≤ k ∧ k ≤ 9223372036854775807) ∧ (letT m n = digs m p (letT m k)) ∧ (∀ x ∈ p, 0 ≤ x ∧ x < m.Base) ∧ (2 ^ p.length * k ≤ n) ∧ (p.length ≤ 63) := hx
    obtain ⟨h1, h2, h3, h4, h5⟩ := hx
    refine (show AW _ _ _ (⟨40, 2, [(1, .d (.lit (.int .i64 k))), (2, .ptr 0 0), (4, .d (.lit (.int .i64 0))), (5, .own 1)], [(0, some (Ent.box 47 [.d (.lit (.int .i64 m.Base)), .d (enc (m.Images : (List (List Int)))), .d (enc (m.Coding : (List Int)))])), (1, some (Ent.arrOf 3 (p : List Int)))]⟩ : St) _ from ?_)
    have h6 : 0 < k → p.length ≤ 62 := fun h => pow_le (pow_one_le h h4) hx
    refine AW.seq ?_
    refine AW.seq ?_
    refine AW.region [0, 0] rfl ?_
    refine AO.ro rfl rfl (gOn_none rfl) (RO.move rfl rfl) ?_
    refine AO.split rfl rfl (gOn_none rfl) (RO.gtr rfl rfl rfl) (fun t1 => ?_) (fun t1 => ?_)
    ·
     refine AO.nil ?_
     refine AW.cond_t rfl ?_
     refine AW.skip ?_
     refine AW.block ?_
     refine AW.seq ?_
     refine AW.region [0, 0, 0, 0, 0, 1, 2, 0] rfl ?_
     refine AO.ro rfl rfl (gOn_none rfl) (RO.move rfl rfl) ?_
     refine AO.ro rfl rfl (gOn_none rfl) (RO.move rfl rfl) ?_
     refine AO.ro rfl rfl (gOn_none rfl) (RO.fld_ptr rfl fa47_0 rfl) ?_
     refine AO.ro rfl rfl (gOn_none rfl) (RO.ld_ptr rfl Try.underlying3 rfl rfl rfl rfl) ?_
     refine AO.ro rfl rfl (gOn_none rfl) (RO.rem rfl rfl rfl (by omega) (by omega)) ?_
     refine AO.al1 (gOn_none rfl) (AL.lits (α := Int) (ys := [k % m.Base]) 2 rfl (by kernel_rfl) rfl rfl rfl Try.underlying26 ti3 rfl ⟨rfl, rfl, rfl⟩ rfl (fun _ => rfl) rfl (by kernel_rfl) (by kernel_rfl)) ?_
     refine AO.ef1 (gOn_none rfl) (EF.append (α := Int) (ys := ([k % m.Base] : List Int)) default 3 rfl (by kernel_rfl) rfl rfl rfl Try.underlying26 ti3 rfl rfl rfl (by decide) zr3 rfl rfl (.inr (.inl ⟨_, _, rfl, rfl⟩)) (by simp only [List.length_append, List.length_cons, List.length_nil]; omega) (by simp only [List.length_append, List.length_cons, List.length_nil]; omega)) ?_
     refine AO.ro rfl rfl (gOn_none rfl) (RO.assign rfl rfl) ?_
     refine AO.nil ?_
     refine AW.region [0, 0, 0, 0, 0] rfl ?_
     refine AO.ro rfl rfl (gOn_none rfl) (RO.move rfl rfl) ?_
     refine AO.ro rfl rfl (gOn_none rfl) (RO.fld_ptr rfl fa47_0 rfl) ?_
     refine AO.ro rfl rfl (gOn_none rfl) (RO.ld_ptr rfl Try.underlying3 rfl rfl rfl rfl) ?_
     refine AO.ro rfl rfl (gOn_none rfl) (RO.quo rfl rfl rfl (by omega) (by omega) (by omega)) ?_
     refine AO.ro rfl rfl (gOn_none rfl) (RO.assign rfl rfl) ?_
     refine AO.nil ?_
     refine ⟨(k / m.Base, p ++ ([k % m.Base])), [(0, some 0), (1, some 3)], ?_, ?_, ⟨rfl, rfl, ⟨⟨_, rfl, .inl rfl⟩, ⟨⟨_, rfl, .inl rfl⟩, ⟨⟨_, rfl, .inl rfl⟩, ⟨⟨_, rfl, .inl rfl⟩, trivial⟩⟩⟩⟩, ⟨⟨_, rfl, rfl⟩, ⟨⟨_, rfl, rfl⟩, trivial⟩⟩⟩⟩
     · try dsimp only
       have hd := div_lt (b := m.Base) (by omega : 0 < k) hb
       have hr := mod_in (n := k) hb
       refine ⟨by omega, by rw [h2, digs_add, ← letT_step hb (by omega)], fun x hx => ?_, by rw [List.length_append]; exact pow_half (by omega) hb h4, by simp; omega⟩
       rcases List.mem_append.1 hx with hx | hx
       · exact h3 x hx
       · rw [List.mem_singleton] at hx; subst hx; exact hr
     · try dsimp only
       have hd := div_lt (b := m.Base) (by omega : 0 < k) hb; omega
    ·
     refine AO.nil ?_
     refine AW.cond_f rfl ?_
     refine AW.exit ?_
     refine AW.seq ?_
     refine AW.region [0] rfl ?_
     refine AO.ro rfl rfl (gOn_none rfl) (RO.assign rfl rfl) ?_
     refine AO.nil ?_
     refine AW.seq ?_
     refine AW.seq ?_
     refine AW.region [0, 0, 0, 0] rfl ?_
     refine AO.ro rfl rfl (gOn_none rfl) (RO.move rfl rfl) ?_
     refine AO.ro rfl rfl (gOn_none rfl) (RO.len_own rfl Try.underlying26 rfl rfl) ?_
     refine AO.ro rfl rfl (gOn_none rfl) (RO.sub rfl rfl rfl (by omega)) ?_
     refine AO.ro rfl rfl (gOn_none rfl) (RO.assign rfl rfl) ?_
     refine AO.nil ?_
     refine AW.block ?_
     refine AW.loop (mp := [(0, some 0), (1, some 1)]) (X := Int × Int) (fun xv => ⟨40, 2, [(2, .ptr 0 0), (4, .d (.lit (.int .i64 0))), (5, .own 1), (6, .d (.lit (.int .i64 xv.2))), (7, .d (.lit (.int .i64 xv.1)))], [(0, some (Ent.box 47 [.d (.lit (.int .i64 m.Base)), .d (enc (m.Images : (List (List Int)))), .d (enc (m.Coding : (List Int)))])), (1, some (Ent.arrOf 3 (p : List Int)))]⟩) (fun xv => (-1 ≤ xv.1 ∧ xv.1 < p.length) ∧ (letT m n = digs m (p.take (xv.1 + 1).toNat) xv.2) ∧ (0 ≤ xv.2 ∧ xv.2 < m.Images.length)) (fun xv => (xv.1 + 1).toNat) ((((p.length : Int)) - 1, 0)) ?_ ⟨rfl, rfl, ⟨⟨_, rfl, .inl rfl⟩, ⟨⟨_, rfl, .inl rfl⟩, ⟨⟨_, rfl, .inl rfl⟩, ⟨⟨_, rfl, .inl rfl⟩, ⟨⟨_, rfl, .inl rfl⟩, trivial⟩⟩⟩⟩⟩, ⟨⟨_, rfl, rfl⟩, ⟨⟨_, rfl, rfl⟩, trivial⟩⟩⟩ ?_
     · try dsimp only
       have hs := hm.size
       unfold MSize at hs
       refine ⟨by omega, ?_, by omega⟩
       have : k = 0 := by omega
       subst this
       rw [h2, letT_zero, List.take_of_length_le (by omega)]
     · skip
       intro x hx
       obtain ⟨i, a⟩ := x
       replace hx : (-1 ≤ i ∧ i < p.length) ∧ (letT m n = digs m (p.take (i + 1).toNat) a) ∧ (0 ≤ a ∧ a < m.Images.length) := hx
       obtain ⟨g1, g2, g3⟩ := hx
       refine (show AW _ _ _ (⟨40, 2, [(2, .ptr 0 0), (4, .d (.lit (.int .i64 0))), (5, .own 1), (6, .d (.lit (.int .i64 a))), (7, .d (.lit (.int .i64 i)))], [(0, some (Ent.box 47 [.d (.lit (.int .i64 m.Base)), .d (enc (m.Images : (List (List Int)))), .d (enc (m.Coding : (List Int)))])), (1, some (Ent.arrOf 3 (p : List Int)))]⟩ : St) _ from ?_)
       have g4 := hm.len g3.1 g3.2
       have g5 : 0 ≤ i → 0 ≤ ix p i ∧ ix p i < m.Base := fun h => h3 _ (ix_mem h g1.2)
       refine AW.seq ?_
       refine AW.seq ?_
       refine AW.region [0, 0] rfl ?_
       refine AO.ro rfl rfl (gOn_none rfl) (RO.move rfl rfl) ?_
       refine AO.split rfl rfl (gOn_none rfl) (RO.geq rfl rfl rfl) (fun t2 => ?_) (fun t2 => ?_)
       ·
        refine AO.nil ?_
        refine AW.cond_t rfl ?_
        refine AW.skip ?_
        refine AW.seq ?_
        refine AW.block ?_
        refine AW.drawn [(0, 0), (0, 1), (0, 2), (0, 3), (0, 4), (0, 5), (0, 6), (0, 7), (0, 8), (0, 9), (0, 10), (0, 11)] (by kernel_rfl) (by kernel_rfl) ?_
        refine AO.ro rfl rfl (gOn_none rfl) (RO.fld_ptr rfl fa47_1 rfl) ?_
        refine AO.ro rfl rfl (gOn_none rfl) (RO.ld_ptr rfl Try.underlying45 rfl rfl rfl rfl) ?_
        refine AO.ro rfl rfl (gOn_none rfl) (RO.move rfl rfl) ?_
        refine AO.ro rfl rfl (gOn_none rfl) (RO.idx rfl Try.underlying45 ti26 rfl rfl (by omega)) ?_
        refine AO.ro rfl rfl (gOn_none rfl) (RO.ld_addr rfl Try.underlying26 rfl rfl rfl) ?_
        refine AO.ro rfl rfl (gOn_none rfl) (RO.move rfl rfl) ?_
        refine AO.ro rfl rfl (gOn_none rfl) (RO.move rfl rfl) ?_
        refine AO.ro rfl rfl (gOn_none rfl) (RO.idx_own rfl Try.underlying26 ti3 rfl rfl rfl (by omega)) ?_
        refine AO.ro (x := .d (.lit (.int .i64 (ix p i)))) rfl rfl (gOn_none rfl) (RO.ld_eptr (j := (i).toNat) (l := (p : List Int)) rfl Try.underlying3 rfl rfl rfl rfl (by omega) (fun _ => rfl)) ?_
        refine AO.ro rfl rfl (gOn_none rfl) (RO.idx rfl Try.underlying26 ti3 rfl rfl (by omega)) ?_
        refine AO.ro rfl rfl (gOn_none rfl) (RO.ld_addr rfl Try.underlying3 rfl rfl rfl) ?_
        refine AO.ro rfl rfl (gOn_none rfl) (RO.assign rfl rfl) ?_
        refine AO.nil ?_
        refine AW.region [0, 0, 0] rfl ?_
        refine AO.ro rfl rfl (gOn_none rfl) (RO.move rfl rfl) ?_
        refine AO.ro rfl rfl (gOn_none rfl) (RO.sub rfl rfl rfl (by omega)) ?_
        refine AO.ro rfl rfl (gOn_none rfl) (RO.assign rfl rfl) ?_
        refine AO.nil ?_
        refine ⟨(i - 1, ix (ix m.Images a) (ix p i)), [(0, some 0), (1, some 1)], ?_, ?_, ⟨rfl, rfl, ⟨⟨_, rfl, .inl rfl⟩, ⟨⟨_, rfl, .inl rfl⟩, ⟨⟨_, rfl, .inl rfl⟩, ⟨⟨_, rfl, .inl rfl⟩, ⟨⟨_, rfl, .inl rfl⟩, trivial⟩⟩⟩⟩⟩, ⟨⟨_, rfl, rfl⟩, ⟨⟨_, rfl, rfl⟩, trivial⟩⟩⟩⟩
        · try dsimp only
          refine ⟨by omega, ?_, (hm.tab a g3.1 g3.2).1 _ (g5 (by omega)).1 (g5 (by omega)).2⟩
          rw [g2, ix_take (by omega) g1.2, digs_add, show i - 1 + 1 = i by omega]
        · try dsimp only
          first | omega | (simp; done) | (simp_all; done) | (simp_all; omega)
       ·
        refine AO.nil ?_
        refine AW.cond_f rfl ?_
        refine AW.exit ?_
        refine AW.seq ?_
        refine AW.region [0, 0] rfl ?_
        refine AO.ro rfl rfl (gOn_none rfl) (RO.move rfl rfl) ?_
        refine AO.ro rfl rfl (gOn_none rfl) (RO.assign rfl rfl) ?_
        refine AO.nil ?_
        refine AW.ret ?_
        refine ⟨[], [.d (.lit (.int .i64 a))], [], rfl, ⟨⟨_, rfl, .inl rfl⟩, rfl⟩, trivial, ?_⟩
        refine ⟨a, rfl, rfl, ?_⟩
        have : i = -1 := by omega
        subst this
        rw [g2]; rfl

def rowN (m : Morph) (n : Nat) : List Int := (List.range n).map fun (i : Nat) => ix m.Coding (letT m (i : Int))
theorem rowN_succ {m : Morph} {k : Int} (h : 0 ≤ k) : rowN m (k + 1).toNat = rowN m k.toNat ++ [ix m.Coding (letT m k)] := by
  have e : (k + 1).toNat = k.toNat + 1 := by omega
  have e2 : ((k.toNat : Nat) : Int) = k := by omega
  rw [e]; unfold rowN; rw [List.range_succ, List.map_append]; simp [e2]
theorem rowN_len {m : Morph} {n : Nat} : (rowN m n).length = n := by simp [rowN]
def sqAt (l : List Int) (p h : Int) : Prop := cut l p (p + h) = cut l (p + h) (p + (2 * h))
def NoSq (l : List Int) (n p h : Int) : Prop := ∀ p' h' : Int, 0 ≤ p' → 1 ≤ h' → p' + 2 * h' ≤ n → (p' < p ∨ (p' = p ∧ h' < h)) → ¬ sqAt l p' h'
noncomputable def sqE (m : Morph) (n : Int) : Int := if morE m ≠ 0 then morE m else if n < 0 ∨ 400 < n then 2 else 0
theorem sqE_mor {m : Morph} {n : Int} (h : morE m ≠ 0) : sqE m n = morE m := if_pos h
theorem sqE_n {m : Morph} {n : Int} (h : morE m = 0) (h2 : n < 0 ∨ 400 < n) : sqE m n = 2 := by unfold sqE; rw [if_neg (by omega), if_pos h2]
theorem sqE_ok {m : Morph} {n : Int} (h : morE m = 0) (h2 : 0 ≤ n ∧ n ≤ 400) : sqE m n = 0 := by unfold sqE; rw [if_neg (by omega), if_neg (by omega)]
theorem nosq_start {l : List Int} {n : Int} : NoSq l n 0 1 := fun p' h' a b _ d => by omega
theorem nosq_step {l : List Int} {n p h : Int} (hn : NoSq l n p h) (hs : ¬ sqAt l p h) : NoSq l n p (h + 1) := fun p' h' a b c d => by
  by_cases e : p' = p ∧ h' = h
  · rw [e.1, e.2]; exact hs
  · exact hn p' h' a b c (by omega)
theorem nosq_next {l : List Int} {n p h : Int} (hn : NoSq l n p h) (hb : n < p + 2 * h) : NoSq l n (p + 1) 1 := fun p' h' a b c d => hn p' h' a b c (by omega)
theorem nosq_eq {l : List Int} {n p h p' h' : Int} (v : 0 ≤ p ∧ 1 ≤ h ∧ p + 2 * h ≤ n) (s : sqAt l p h) (f : NoSq l n p h) (v' : 0 ≤ p' ∧ 1 ≤ h' ∧ p' + 2 * h' ≤ n) (s' : sqAt l p' h') (f' : NoSq l n p' h') : p = p' ∧ h = h' := by
  by_cases e1 : p < p' ∨ (p = p' ∧ h < h')
  · exact absurd s (f' p h v.1 v.2.1 v.2.2 e1)
  · by_cases e2 : p' < p ∨ (p' = p ∧ h' < h)
    · exact absurd s' (f p' h' v'.1 v'.2.1 v'.2.2 e2)
    · omega
def SqSpec (m : Morph) (n a h : Int) (is : Bool) (e : Int) : Prop := e = sqE m n ∧ (e ≠ 0 → a = 0 ∧ h = 0 ∧ is = false) ∧ (e = 0 → (is = true → (0 ≤ a ∧ 1 ≤ h ∧ a + 2 * h ≤ n) ∧ sqAt (rowN m n.toNat) a h ∧ NoSq (rowN m n.toNat) n a h) ∧ (is = false → a = 0 ∧ h = 0 ∧ NoSq (rowN m n.toNat) n n 1))
theorem spec_hit {m : Morph} {n a h p q e : Int} {is : Bool} (c : SqSpec m n a h is e) (hm : morE m = 0) (hn : 0 ≤ n ∧ n ≤ 400) (v : 0 ≤ p ∧ 1 ≤ q ∧ p + 2 * q ≤ n) (s : sqAt (rowN m n.toNat) p q) (f : NoSq (rowN m n.toNat) n p q) : e = 0 ∧ is = true ∧ a = p ∧ h = q := by
  obtain ⟨h1, _, h2⟩ := c
  rw [sqE_ok hm hn] at h1
  have h3 := h2 h1
  cases is
  · have := (h3.2 rfl).2.2 p q v.1 v.2.1 v.2.2 (by omega)
    exact absurd s this
  · have h4 := h3.1 rfl
    have := nosq_eq h4.1 h4.2.1 h4.2.2 v s f
    exact ⟨h1, rfl, this.1, this.2⟩
theorem spec_miss {m : Morph} {n a h e : Int} {is : Bool} (c : SqSpec m n a h is e) (hm : morE m = 0) (hn : 0 ≤ n ∧ n ≤ 400) (f : NoSq (rowN m n.toNat) n n 1) : e = 0 ∧ is = false ∧ a = 0 ∧ h = 0 := by
  obtain ⟨h1, _, h2⟩ := c
  rw [sqE_ok hm hn] at h1
  have h3 := h2 h1
  cases is
  · exact ⟨h1, rfl, (h3.2 rfl).1, (h3.2 rfl).2.1⟩
  · have h4 := h3.1 rfl
    exact absurd h4.2.1 (f _ _ h4.1.1 h4.1.2.1 h4.1.2.2 (by omega))
theorem spec_no {m : Morph} {n a h e k : Int} {is : Bool} (c : SqSpec m n a h is e) (hs : sqE m n = k) (hk : k ≠ 0) : e = k ∧ is = false ∧ a = 0 ∧ h = 0 := by
  obtain ⟨h1, h2, _⟩ := c
  have h3 := h2 (by omega)
  exact ⟨by omega, h3.2.2, h3.1, h3.2.1⟩
theorem square_ok (m : Morph) (n : Int) (hx : n ≤ 9223372036854775807) : Fc Try.prog 48 [.d (enc (m : Morph)), .d (.lit (.int .i64 n))] [] (fun rv hv => ∃ (at' : Int) (half : Int) (is : Bool) (e : Int), rv = .tup [.d (.lit (.int .i64 at')), .d (.lit (.int .i64 half)), .d (.lit (.bool is)), .d (.lit (.int .i64 e))] ∧ hv = [] ∧ (SqSpec m n at' half is e)) := by
  refine Fc.of_body Try.func48 rfl Try.ntmps48 (by simp) (fun F => ?_)
  refine (show AW _ _ _ (⟨70, 0, [(0, .d (enc (m : Morph))), (1, .d (.lit (.int .i64 n)))], []⟩ : St) _ from ?_)
  refine AW.seq ?_
  refine AW.region [1, 0, 0, 0, 0] rfl ?_
  refine AO.al1 (gOn_none rfl) (AL.box 0 rfl (by kernel_rfl) rfl rfl rfl rfl rfl) ?_
  refine AO.ro rfl rfl (gOn_none rfl) (RO.assign rfl rfl) ?_
  refine AO.ro rfl rfl (gOn_none rfl) (RO.assign rfl rfl) ?_
  refine AO.ro rfl rfl (gOn_none rfl) (RO.assign rfl rfl) ?_
  refine AO.ro rfl rfl (gOn_none rfl) (RO.assign rfl rfl) ?_
  refine AO.nil ?_
  refine AW.seq ?_
  refine AW.seq ?_
  refine AW.region [0, 1, 0] rfl ?_
  refine AO.ro rfl rfl (gOn_none rfl) (RO.ld_ptr_d (y := enc (m : Morph)) rfl ti47 rfl rfl rfl rfl rfl) ?_
  refine AO.callA («as» := [.d (enc (m : Morph))]) (gOn_none rfl) rfl rfl rfl rfl Try.call26 ⟨⟨_, rfl, rfl⟩, rfl⟩ (mcheck_ok m) ?_
  rintro _ _ ⟨e1, rfl, rfl, c1⟩
  refine ⟨[], 1, .d (.lit (.int .i64 e1)), [], rfl, trivial, rfl, ?_⟩
  refine AO.ro rfl rfl (gOn_none rfl) (RO.assign rfl rfl) ?_
  refine AO.nil ?_
  refine AW.seq ?_
  refine AW.region [0, 0] rfl ?_
  refine AO.ro rfl rfl (gOn_none rfl) (RO.move rfl rfl) ?_
  refine AO.splitn rfl rfl (gOn_none rfl) (RO.neq rfl rfl rfl) (fun t2 => ?_) (fun t2 => ?_)
  ·
   refine AO.nil ?_
   refine AW.cond_t rfl ?_
   refine AW.seq ?_
   refine AW.region [0, 0, 0, 0, 0] rfl ?_
   refine AO.ro rfl rfl (gOn_none rfl) (RO.move rfl rfl) ?_
   refine AO.ro rfl rfl (gOn_none rfl) (RO.assign rfl rfl) ?_
   refine AO.ro rfl rfl (gOn_none rfl) (RO.assign rfl rfl) ?_
   refine AO.ro rfl rfl (gOn_none rfl) (RO.assign rfl rfl) ?_
   refine AO.ro rfl rfl (gOn_none rfl) (RO.assign rfl rfl) ?_
   refine AO.nil ?_
   refine AW.ret ?_
   refine ⟨[], [.d (.lit (.int .i64 0)), .d (.lit (.int .i64 0)), .d (.lit (.bool false)), .d (.lit (.int .i64 e1))], [], rfl, ⟨⟨_, rfl, .inl rfl⟩, ⟨⟨_, rfl, .inl rfl⟩, ⟨⟨_, rfl, .inl rfl⟩, ⟨⟨_, rfl, .inl rfl⟩, rfl⟩⟩⟩⟩, trivial, ?_⟩
   refine ⟨0, 0, false, e1, rfl, rfl, ?_⟩
   first
   | exact ⟨by rw [sqE_mor (by omega)]; omega, fun _ => ⟨rfl, rfl, rfl⟩, fun h => by omega⟩
   | exact ⟨(sqE_n (by omega) (by omega)).symm, fun _ => ⟨rfl, rfl, rfl⟩, fun h => by omega⟩
  ·
   refine AO.nil ?_
   refine AW.cond_f rfl ?_
   refine AW.skip ?_
   refine AW.seq ?_
   refine AW.seq ?_
   refine AW.region [0, 0, 0, 0, 0, 0] rfl ?_
   refine AO.ro rfl rfl (gOn_none rfl) (RO.move rfl rfl) ?_
   refine AO.split rfl rfl (gOn_none rfl) (RO.lss rfl rfl rfl) (fun t3 => ?_) (fun t3 => ?_)
   ·
    refine AO.ro rfl rfl (gOn_none rfl) (RO.move rfl rfl) ?_
    refine AO.skip rfl rfl (gOn_some 20 true rfl rfl rfl rfl) ?_
    refine AO.skip rfl rfl (gOn_some 20 true rfl rfl rfl rfl) ?_
    refine AO.ro rfl rfl (gOn_none rfl) (RO.pick_t rfl rfl rfl) ?_
    refine AO.nil ?_
    refine AW.cond_t rfl ?_
    refine AW.seq ?_
    refine AW.region [0, 0, 0, 0] rfl ?_
    refine AO.ro rfl rfl (gOn_none rfl) (RO.assign rfl rfl) ?_
    refine AO.ro rfl rfl (gOn_none rfl) (RO.assign rfl rfl) ?_
    refine AO.ro rfl rfl (gOn_none rfl) (RO.assign rfl rfl) ?_
    refine AO.ro rfl rfl (gOn_none rfl) (RO.assign rfl rfl) ?_
    refine AO.nil ?_
    refine AW.ret ?_
    refine ⟨[], [.d (.lit (.int .i64 0)), .d (.lit (.int .i64 0)), .d (.lit (.bool false)), .d (.lit (.int .i64 2))], [], rfl, ⟨⟨_, rfl, .inl rfl⟩, ⟨⟨_, rfl, .inl rfl⟩, ⟨⟨_, rfl, .inl rfl⟩, ⟨⟨_, rfl, .inl rfl⟩, rfl⟩⟩⟩⟩, trivial, ?_⟩
    refine ⟨0, 0, false, 2, rfl, rfl, ?_⟩
    first
    | exact ⟨by rw [sqE_mor (by omega)]; omega, fun _ => ⟨rfl, rfl, rfl⟩, fun h => by omega⟩
    | exact ⟨(sqE_n (by omega) (by omega)).symm, fun _ => ⟨rfl, rfl, rfl⟩, fun h => by omega⟩
   ·
    refine AO.ro rfl rfl (gOn_none rfl) (RO.move rfl rfl) ?_
    refine AO.ro rfl rfl (gOn_some 20 false rfl rfl rfl rfl) (RO.move rfl rfl) ?_
    refine AO.split rfl rfl (gOn_some 20 false rfl rfl rfl rfl) (RO.gtr rfl rfl rfl) (fun t4 => ?_) (fun t4 => ?_)
    ·
     refine AO.ro rfl rfl (gOn_none rfl) (RO.pick_f rfl rfl rfl) ?_
     refine AO.nil ?_
     refine AW.cond_t rfl ?_
     refine AW.seq ?_
     refine AW.region [0, 0, 0, 0] rfl ?_
     refine AO.ro rfl rfl (gOn_none rfl) (RO.assign rfl rfl) ?_
     refine AO.ro rfl rfl (gOn_none rfl) (RO.assign rfl rfl) ?_
     refine AO.ro rfl rfl (gOn_none rfl) (RO.assign rfl rfl) ?_
     refine AO.ro rfl rfl (gOn_none rfl) (RO.assign rfl rfl) ?_
     refine AO.nil ?_
     refine AW.ret ?_
     refine ⟨[], [.d (.lit (.int .i64 0)), .d (.lit (.int .i64 0)), .d (.lit (.bool false)), .d (.lit (.int .i64 2))], [], rfl, ⟨⟨_, rfl, .inl rfl⟩, ⟨⟨_, rfl, .inl rfl⟩, ⟨⟨_, rfl, .inl rfl⟩, ⟨⟨_, rfl, .inl rfl⟩, rfl⟩⟩⟩⟩, trivial, ?_⟩
     refine ⟨0, 0, false, 2, rfl, rfl, ?_⟩
     first
     | exact ⟨by rw [sqE_mor (by omega)]; omega, fun _ => ⟨rfl, rfl, rfl⟩, fun h => by omega⟩
     | exact ⟨(sqE_n (by omega) (by omega)).symm, fun _ => ⟨rfl, rfl, rfl⟩, fun h => by omega⟩
    ·
     refine AO.ro rfl rfl (gOn_none rfl) (RO.pick_f rfl rfl rfl) ?_
     refine AO.nil ?_
     refine AW.cond_f rfl ?_
     refine AW.skip ?_
     refine AW.seq ?_
     refine AW.region [0] rfl ?_
     refine AO.ro rfl rfl (gOn_none rfl) (RO.assign rfl rfl) ?_
     refine AO.nil ?_
     refine AW.seq ?_
     refine AW.seq ?_
     refine AW.region [0, 0] rfl ?_
     refine AO.ro rfl rfl (gOn_none rfl) (RO.move rfl rfl) ?_
     refine AO.ro rfl rfl (gOn_none rfl) (RO.move rfl rfl) ?_
     refine AO.nil ?_
     refine AW.block ?_
     refine AW.loop (mp := [(0, some 0), (1, none)]) (X := Int × List Int) (fun xv => ⟨70, 2, [(1, .d (.lit (.int .i64 n))), (2, .ptr 0 0), (4, .d (.lit (.int .i64 0))), (5, .d (.lit (.int .i64 0))), (6, .d (.lit (.bool false))), (7, .d (.lit (.int .i64 0))), (9, .own 1), (24, .d (.lit (.int .i64 n))), (25, .d (.lit (.int .i64 xv.1)))], [(0, some (Ent.box 47 [.d (.lit (.int .i64 m.Base)), .d (enc (m.Images : (List (List Int)))), .d (enc (m.Coding : (List Int)))])), (1, some (Ent.arrOf 3 (xv.2 : List Int)))]⟩) (fun xv => (xv.2 = rowN m xv.1.toNat) ∧ (0 ≤ xv.1 ∧ xv.1 ≤ n) ∧ (n ≤ 400) ∧ (MOK m)) (fun xv => (n - xv.1).toNat) ((0, [])) ?_ ⟨rfl, rfl, ⟨⟨_, rfl, .inl rfl⟩, ⟨⟨_, rfl, .inl rfl⟩, ⟨⟨_, rfl, .inl rfl⟩, ⟨⟨_, rfl, .inl rfl⟩, ⟨⟨_, rfl, .inl rfl⟩, ⟨⟨_, rfl, .inl rfl⟩, ⟨⟨_, rfl, .inl rfl⟩, ⟨⟨_, rfl, .inl rfl⟩, ⟨⟨_, rfl, .inl rfl⟩, trivial⟩⟩⟩⟩⟩⟩⟩⟩⟩, ⟨⟨_, rfl, rfl⟩, ⟨⟨_, _, _, rfl, by decide⟩, trivial⟩⟩⟩ ?_
     · try dsimp only
       exact ⟨rfl, by omega, by omega, mor_of (by omega)⟩
     · skip
       intro x hx
       obtain ⟨i, l⟩ := x
       replace hx : (l = rowN m i.toNat) ∧ (0 ≤ i ∧ i ≤ n) ∧ (n ≤ 400) ∧ (MOK m) := hx
       obtain ⟨h0, h1, h2, h3⟩ := hx
       refine (show AW _ _ _ (⟨70, 2, [(1, .d (.lit (.int .i64 n))), (2, .ptr 0 0), (4, .d (.lit (.int .i64 0))), (5, .d (.lit (.int .i64 0))), (6, .d (.lit (.bool false))), (7, .d (.lit (.int .i64 0))), (9, .own 1), (24, .d (.lit (.int .i64 n))), (25, .d (.lit (.int .i64 i)))], [(0, some (Ent.box 47 [.d (.lit (.int .i64 m.Base)), .d (enc (m.Images : (List (List Int)))), .d (enc (m.Coding : (List Int)))])), (1, some (Ent.arrOf 3 (l : List Int)))]⟩ : St) _ from ?_)
       have hb := h3.base.1
       have hq := letT_in h3 _ i (Nat.le_refl _) h1.1
       have hc := h3.shape.1
       have hl : l.length = i.toNat := by rw [h0]; exact rowN_len
       refine AW.seq ?_
       refine AW.region [0] rfl ?_
       refine AO.split rfl rfl (gOn_none rfl) (RO.lss rfl rfl rfl) (fun t5 => ?_) (fun t5 => ?_)
       ·
        refine AO.nil ?_
        refine AW.seq ?_
        refine AW.cond_t rfl ?_
        refine AW.skip ?_
        refine AW.seq ?_
        refine AW.block ?_
        refine AW.seq ?_
        refine AW.region [0, 0] rfl ?_
        refine AO.ro rfl rfl (gOn_none rfl) (RO.move rfl rfl) ?_
        refine AO.ro rfl rfl (gOn_none rfl) (RO.assign rfl rfl) ?_
        refine AO.nil ?_
        refine AW.drawn [(0, 0), (0, 1), (0, 2), (0, 3), (0, 4), (1, 5), (0, 6), (0, 7), (1, 8), (2, 9), (0, 10)] (by kernel_rfl) (by kernel_rfl) ?_
        refine AO.ro rfl rfl (gOn_none rfl) (RO.move rfl rfl) ?_
        refine AO.ro rfl rfl (gOn_none rfl) (RO.fld_ptr rfl fa47_2 rfl) ?_
        refine AO.ro rfl rfl (gOn_none rfl) (RO.ld_ptr rfl Try.underlying26 rfl rfl rfl rfl) ?_
        refine AO.ro rfl rfl (gOn_none rfl) (RO.ld_ptr_d (y := enc (m : Morph)) rfl ti47 rfl rfl rfl rfl rfl) ?_
        refine AO.ro rfl rfl (gOn_none rfl) (RO.move rfl rfl) ?_
        refine AO.callA («as» := [.d (enc (m : Morph)), .d (.lit (.int .i64 i))]) (gOn_none rfl) rfl rfl rfl rfl Try.call63 ⟨⟨_, rfl, rfl⟩, ⟨_, rfl, rfl⟩, rfl⟩ (letter_ok m i h3 (by omega) (by omega)) ?_
        rintro _ _ ⟨y6, rfl, rfl, c6⟩
        refine ⟨[], 2, .d (.lit (.int .i64 y6)), [], rfl, trivial, rfl, ?_⟩
        rw [← c6] at hq
        refine AO.ro rfl rfl (gOn_none rfl) (RO.idx rfl Try.underlying26 ti3 rfl rfl (by omega)) ?_
        refine AO.ro rfl rfl (gOn_none rfl) (RO.ld_addr rfl Try.underlying3 rfl rfl rfl) ?_
        refine AO.al1 (gOn_none rfl) (AL.lits (α := Int) (ys := [ix m.Coding y6]) 2 rfl (by kernel_rfl) rfl rfl rfl Try.underlying26 ti3 rfl ⟨rfl, rfl, rfl⟩ rfl (fun _ => rfl) rfl (by kernel_rfl) (by kernel_rfl)) ?_
        refine AO.ef1 (gOn_none rfl) (EF.append (α := Int) (ys := ([ix m.Coding y6] : List Int)) default 3 rfl (by kernel_rfl) rfl rfl rfl Try.underlying26 ti3 rfl rfl rfl (by decide) zr3 rfl rfl (.inr (.inl ⟨_, _, rfl, rfl⟩)) (by simp only [List.length_append, List.length_cons, List.length_nil]; omega) (by simp only [List.length_append, List.length_cons, List.length_nil]; omega)) ?_
        refine AO.ro rfl rfl (gOn_none rfl) (RO.assign rfl rfl) ?_
        refine AO.nil ?_
        refine AW.region [0, 0] rfl ?_
        refine AO.ro rfl rfl (gOn_none rfl) (RO.add rfl rfl rfl (by omega)) ?_
        refine AO.ro rfl rfl (gOn_none rfl) (RO.move rfl rfl) ?_
        refine AO.nil ?_
        refine ⟨(i + 1, l ++ ([ix m.Coding y6])), [(0, some 0), (1, some 3)], ?_, ?_, ⟨rfl, rfl, ⟨⟨_, rfl, .inl rfl⟩, ⟨⟨_, rfl, .inl rfl⟩, ⟨⟨_, rfl, .inl rfl⟩, ⟨⟨_, rfl, .inl rfl⟩, ⟨⟨_, rfl, .inl rfl⟩, ⟨⟨_, rfl, .inl rfl⟩, ⟨⟨_, rfl, .inl rfl⟩, ⟨⟨_, rfl, .inl rfl⟩, ⟨⟨_, rfl, .inl rfl⟩, trivial⟩⟩⟩⟩⟩⟩⟩⟩⟩, ⟨⟨_, rfl, rfl⟩, ⟨⟨_, rfl, rfl⟩, trivial⟩⟩⟩⟩
        · try dsimp only
          exact ⟨by subst_vars; exact (rowN_succ h1.1).symm, by omega, h2, h3⟩
        · try dsimp only
          first | omega | (simp; done) | (simp_all; done) | (simp_all; omega)
       ·
        refine AO.nil ?_
        refine AW.seq ?_
        refine AW.cond_f rfl ?_
        refine AW.exit ?_
        refine AW.seq ?_
        refine AW.seq ?_
        refine AW.region [0, 0] rfl ?_
        refine AO.ro rfl rfl (gOn_none rfl) (RO.move rfl rfl) ?_
        refine AO.ro rfl rfl (gOn_none rfl) (RO.move rfl rfl) ?_
        refine AO.nil ?_
        refine AW.block ?_
        refine AW.freezeA 1 [9] rfl rfl ?_
        refine AW.loop (mp := []) (X := Int) (fun xv => ⟨70, 2, [(1, .d (.lit (.int .i64 n))), (4, .d (.lit (.int .i64 0))), (5, .d (.lit (.int .i64 0))), (6, .d (.lit (.bool false))), (7, .d (.lit (.int .i64 0))), (9, .d (enc (l : (List Int)))), (39, .d (.lit (.int .i64 n))), (40, .d (.lit (.int .i64 xv)))], []⟩) (fun xv => (0 ≤ xv ∧ xv ≤ n) ∧ (NoSq (rowN m n.toNat) n xv 1) ∧ (i = n)) (fun xv => (n - xv).toNat) 0 ?_ ⟨rfl, rfl, ⟨⟨_, rfl, .inl rfl⟩, ⟨⟨_, rfl, .inl rfl⟩, ⟨⟨_, rfl, .inl rfl⟩, ⟨⟨_, rfl, .inl rfl⟩, ⟨⟨_, rfl, .inl rfl⟩, ⟨⟨_, rfl, .inl rfl⟩, ⟨⟨_, rfl, .inl rfl⟩, ⟨⟨_, rfl, .inl rfl⟩, trivial⟩⟩⟩⟩⟩⟩⟩⟩, trivial⟩ ?_
        · try dsimp only
          exact ⟨by omega, nosq_start, by omega⟩
        · skip
          intro p hx
          replace hx : (0 ≤ p ∧ p ≤ n) ∧ (NoSq (rowN m n.toNat) n p 1) ∧ (i = n) := hx
          obtain ⟨g1, g2, g3⟩ := hx
          refine (show AW _ _ _ (⟨70, 2, [(1, .d (.lit (.int .i64 n))), (4, .d (.lit (.int .i64 0))), (5, .d (.lit (.int .i64 0))), (6, .d (.lit (.bool false))), (7, .d (.lit (.int .i64 0))), (9, .d (enc (l : (List Int)))), (39, .d (.lit (.int .i64 n))), (40, .d (.lit (.int .i64 p)))], []⟩ : St) _ from ?_)
          have g4 : l = rowN m n.toNat := by rw [h0, g3]
          have g5 : (l.length : Int) = n := by rw [g4, rowN_len]; omega
          refine AW.seq ?_
          refine AW.region [0] rfl ?_
          refine AO.split rfl rfl (gOn_none rfl) (RO.lss rfl rfl rfl) (fun t7 => ?_) (fun t7 => ?_)
          ·
           refine AO.nil ?_
           refine AW.seq ?_
           refine AW.cond_t rfl ?_
           refine AW.skip ?_
           refine AW.seq ?_
           refine AW.block ?_
           refine AW.seq ?_
           refine AW.region [0, 0] rfl ?_
           refine AO.ro rfl rfl (gOn_none rfl) (RO.move rfl rfl) ?_
           refine AO.ro rfl rfl (gOn_none rfl) (RO.assign rfl rfl) ?_
           refine AO.nil ?_
           refine AW.seq ?_
           refine AW.region [0] rfl ?_
           refine AO.ro rfl rfl (gOn_none rfl) (RO.assign rfl rfl) ?_
           refine AO.nil ?_
           refine AW.block ?_
           refine AW.loop (mp := []) (X := Int) (fun xv => ⟨70, 2, [(1, .d (.lit (.int .i64 n))), (4, .d (.lit (.int .i64 0))), (5, .d (.lit (.int .i64 0))), (6, .d (.lit (.bool false))), (7, .d (.lit (.int .i64 0))), (9, .d (enc (l : (List Int)))), (11, .d (.lit (.int .i64 p))), (12, .d (.lit (.int .i64 xv))), (39, .d (.lit (.int .i64 n))), (40, .d (.lit (.int .i64 p)))], []⟩) (fun xv => (1 ≤ xv ∧ xv ≤ 1000) ∧ (NoSq (rowN m n.toNat) n p xv)) (fun xv => (n + 1 - xv).toNat) 1 ?_ ⟨rfl, rfl, ⟨⟨_, rfl, .inl rfl⟩, ⟨⟨_, rfl, .inl rfl⟩, ⟨⟨_, rfl, .inl rfl⟩, ⟨⟨_, rfl, .inl rfl⟩, ⟨⟨_, rfl, .inl rfl⟩, ⟨⟨_, rfl, .inl rfl⟩, ⟨⟨_, rfl, .inl rfl⟩, ⟨⟨_, rfl, .inl rfl⟩, ⟨⟨_, rfl, .inl rfl⟩, ⟨⟨_, rfl, .inl rfl⟩, trivial⟩⟩⟩⟩⟩⟩⟩⟩⟩⟩, trivial⟩ ?_
           · try dsimp only
             exact ⟨by omega, g2⟩
           · skip
             intro h hx
             replace hx : (1 ≤ h ∧ h ≤ 1000) ∧ (NoSq (rowN m n.toNat) n p h) := hx
             obtain ⟨k1, k2⟩ := hx
             refine (show AW _ _ _ (⟨70, 2, [(1, .d (.lit (.int .i64 n))), (4, .d (.lit (.int .i64 0))), (5, .d (.lit (.int .i64 0))), (6, .d (.lit (.bool false))), (7, .d (.lit (.int .i64 0))), (9, .d (enc (l : (List Int)))), (11, .d (.lit (.int .i64 p))), (12, .d (.lit (.int .i64 h))), (39, .d (.lit (.int .i64 n))), (40, .d (.lit (.int .i64 p)))], []⟩ : St) _ from ?_)
             refine AW.seq ?_
             refine AW.seq ?_
             refine AW.region [0, 0, 0, 0, 0, 0] rfl ?_
             refine AO.ro rfl rfl (gOn_none rfl) (RO.move rfl rfl) ?_
             refine AO.ro rfl rfl (gOn_none rfl) (RO.move rfl rfl) ?_
             refine AO.ro rfl rfl (gOn_none rfl) (RO.mul rfl rfl rfl (by omega)) ?_
             refine AO.ro rfl rfl (gOn_none rfl) (RO.add rfl rfl rfl (by omega)) ?_
             refine AO.ro rfl rfl (gOn_none rfl) (RO.move rfl rfl) ?_
             refine AO.split rfl rfl (gOn_none rfl) (RO.leq rfl rfl rfl) (fun t8 => ?_) (fun t8 => ?_)
             ·
              refine AO.nil ?_
              refine AW.cond_t rfl ?_
              refine AW.skip ?_
              refine AW.seq ?_
              refine AW.block ?_
              refine AW.seq ?_
              refine AW.drawn [(0, 0), (0, 1), (0, 2), (0, 3), (0, 4), (0, 5), (0, 6), (0, 7), (0, 8), (0, 9), (0, 10), (0, 11), (0, 12), (0, 13), (0, 14), (1, 15)] (by kernel_rfl) (by kernel_rfl) ?_
              refine AO.ro rfl rfl (gOn_none rfl) (RO.move rfl rfl) ?_
              refine AO.ro rfl rfl (gOn_none rfl) (RO.move rfl rfl) ?_
              refine AO.ro rfl rfl (gOn_none rfl) (RO.move rfl rfl) ?_
              refine AO.ro rfl rfl (gOn_none rfl) (RO.move rfl rfl) ?_
              refine AO.ro rfl rfl (gOn_none rfl) (RO.add rfl rfl rfl (by omega)) ?_
              refine AO.fact 51 rfl (fun ln9 => ?_)
              replace ln9 : l.length * 8 ≤ 140737488355328 := ln9
              refine AO.ro rfl rfl (gOn_none rfl) (RO.sl_lh rfl Try.underlying26 ti3 rfl rfl rfl (by omega)) ?_
              refine AO.ro rfl rfl (gOn_none rfl) (RO.move rfl rfl) ?_
              refine AO.ro rfl rfl (gOn_none rfl) (RO.move rfl rfl) ?_
              refine AO.ro rfl rfl (gOn_none rfl) (RO.move rfl rfl) ?_
              refine AO.ro rfl rfl (gOn_none rfl) (RO.add rfl rfl rfl (by omega)) ?_
              refine AO.ro rfl rfl (gOn_none rfl) (RO.move rfl rfl) ?_
              refine AO.ro rfl rfl (gOn_none rfl) (RO.move rfl rfl) ?_
              refine AO.ro rfl rfl (gOn_none rfl) (RO.mul rfl rfl rfl (by omega)) ?_
              refine AO.ro rfl rfl (gOn_none rfl) (RO.add rfl rfl rfl (by omega)) ?_
              refine AO.ro rfl rfl (gOn_none rfl) (RO.sl_lh rfl Try.underlying26 ti3 rfl rfl rfl (by omega)) ?_
              refine AO.callA («as» := [.d (enc (cut l p (p + h) : (List Int))), .d (enc (cut l (p + h) (p + (2 * h)) : (List Int)))]) (gOn_none rfl) rfl rfl rfl rfl Try.call73 ⟨⟨_, rfl, rfl⟩, ⟨_, rfl, rfl⟩, rfl⟩ (Equal73_ok (cut l p (p + h)) (cut l (p + h) (p + (2 * h)))) ?_
              rintro _ _ ⟨y10, rfl, rfl, c10⟩
              refine ⟨[], 2, .d (.lit (.bool y10)), [], rfl, trivial, rfl, ?_⟩
              refine AO.nil ?_
              refine AW.caseb 66 rfl (fun b11 => ?_) (fun b11 => ?_)
              ·
               first | replace b11 := of_decide_eq_true (c10.symm.trans b11) | (replace b11 := List.any_eq_true.1 (c10.symm.trans b11); simp only [decide_eq_true_eq] at b11) | skip
               refine AW.cond_t rfl ?_
               refine AW.seq ?_
               refine AW.region [0, 0, 0, 0, 0, 0] rfl ?_
               refine AO.ro rfl rfl (gOn_none rfl) (RO.move rfl rfl) ?_
               refine AO.ro rfl rfl (gOn_none rfl) (RO.move rfl rfl) ?_
               refine AO.ro rfl rfl (gOn_none rfl) (RO.assign rfl rfl) ?_
               refine AO.ro rfl rfl (gOn_none rfl) (RO.assign rfl rfl) ?_
               refine AO.ro rfl rfl (gOn_none rfl) (RO.assign rfl rfl) ?_
               refine AO.ro rfl rfl (gOn_none rfl) (RO.assign rfl rfl) ?_
               refine AO.nil ?_
               refine AW.ret ?_
               refine ⟨[], [.d (.lit (.int .i64 p)), .d (.lit (.int .i64 h)), .d (.lit (.bool true)), .d (.lit (.int .i64 0))], [], rfl, ⟨⟨_, rfl, .inl rfl⟩, ⟨⟨_, rfl, .inl rfl⟩, ⟨⟨_, rfl, .inl rfl⟩, ⟨⟨_, rfl, .inl rfl⟩, rfl⟩⟩⟩⟩, trivial, ?_⟩
               refine ⟨p, h, true, 0, rfl, rfl, ?_⟩
               have hs : sqAt (rowN m n.toNat) p h := by rw [← g4]; assumption
               exact ⟨(sqE_ok (by omega) (by omega)).symm, fun h => absurd rfl h, fun _ => ⟨fun _ => ⟨by omega, hs, k2⟩, fun h => (by cases h)⟩⟩
              ·
               first | replace b11 := of_decide_eq_false (c10.symm.trans b11) | (replace b11 := List.any_eq_false.1 (c10.symm.trans b11); simp only [decide_eq_true_eq] at b11) | skip
               refine AW.cond_f rfl ?_
               refine AW.skip ?_
               refine AW.region [0, 0, 0] rfl ?_
               refine AO.ro rfl rfl (gOn_none rfl) (RO.move rfl rfl) ?_
               refine AO.ro rfl rfl (gOn_none rfl) (RO.add rfl rfl rfl (by omega)) ?_
               refine AO.ro rfl rfl (gOn_none rfl) (RO.assign rfl rfl) ?_
               refine AO.nil ?_
               refine ⟨h + 1, [], ?_, ?_, ⟨rfl, rfl, ⟨⟨_, rfl, .inl rfl⟩, ⟨⟨_, rfl, .inl rfl⟩, ⟨⟨_, rfl, .inl rfl⟩, ⟨⟨_, rfl, .inl rfl⟩, ⟨⟨_, rfl, .inl rfl⟩, ⟨⟨_, rfl, .inl rfl⟩, ⟨⟨_, rfl, .inl rfl⟩, ⟨⟨_, rfl, .inl rfl⟩, ⟨⟨_, rfl, .inl rfl⟩, ⟨⟨_, rfl, .inl rfl⟩, trivial⟩⟩⟩⟩⟩⟩⟩⟩⟩⟩, trivial⟩⟩
               · try dsimp only
                 exact ⟨by omega, nosq_step k2 (by rw [← g4]; assumption)⟩
               · try dsimp only
                 first | omega | (simp; done) | (simp_all; done) | (simp_all; omega)
             ·
              refine AO.nil ?_
              refine AW.cond_f rfl ?_
              refine AW.exit ?_
              refine AW.region [0, 0] rfl ?_
              refine AO.ro rfl rfl (gOn_none rfl) (RO.add rfl rfl rfl (by omega)) ?_
              refine AO.ro rfl rfl (gOn_none rfl) (RO.move rfl rfl) ?_
              refine AO.nil ?_
              refine ⟨p + 1, [], ?_, ?_, ⟨rfl, rfl, ⟨⟨_, rfl, .inl rfl⟩, ⟨⟨_, rfl, .inl rfl⟩, ⟨⟨_, rfl, .inl rfl⟩, ⟨⟨_, rfl, .inl rfl⟩, ⟨⟨_, rfl, .inl rfl⟩, ⟨⟨_, rfl, .inl rfl⟩, ⟨⟨_, rfl, .inl rfl⟩, ⟨⟨_, rfl, .inl rfl⟩, trivial⟩⟩⟩⟩⟩⟩⟩⟩, trivial⟩⟩
              · try dsimp only
                exact ⟨by omega, nosq_next k2 (by omega), g3⟩
              · try dsimp only
                first | omega | (simp; done) | (simp_all; done) | (simp_all; omega)
          ·
           refine AO.nil ?_
           refine AW.seq ?_
           refine AW.cond_f rfl ?_
           refine AW.exit ?_
           refine AW.seq ?_
           refine AW.region [0, 0, 0, 0] rfl ?_
           refine AO.ro rfl rfl (gOn_none rfl) (RO.assign rfl rfl) ?_
           refine AO.ro rfl rfl (gOn_none rfl) (RO.assign rfl rfl) ?_
           refine AO.ro rfl rfl (gOn_none rfl) (RO.assign rfl rfl) ?_
           refine AO.ro rfl rfl (gOn_none rfl) (RO.assign rfl rfl) ?_
           refine AO.nil ?_
           refine AW.ret ?_
           refine ⟨[], [.d (.lit (.int .i64 0)), .d (.lit (.int .i64 0)), .d (.lit (.bool false)), .d (.lit (.int .i64 0))], [], rfl, ⟨⟨_, rfl, .inl rfl⟩, ⟨⟨_, rfl, .inl rfl⟩, ⟨⟨_, rfl, .inl rfl⟩, ⟨⟨_, rfl, .inl rfl⟩, rfl⟩⟩⟩⟩, trivial, ?_⟩
           refine ⟨0, 0, false, 0, rfl, rfl, ?_⟩
           have : p = n := by omega
           subst this
           exact ⟨(sqE_ok (by omega) (by omega)).symm, fun h => absurd rfl h, fun _ => ⟨fun h => (by cases h), fun _ => ⟨rfl, rfl, g2⟩⟩⟩

theorem row_ok (m : Morph) (n : Int) (hm : MOK m) (hn : n ≤ 400) : Fc Try.prog 49 [.d (enc (m : Morph)), .d (.lit (.int .i64 n))] [] (fun rv hv => ∃ (y : (List Int)), rv = .d (enc (y : (List Int))) ∧ hv = [] ∧ (y = rowN m n.toNat)) := by
  refine Fc.of_body Try.func49 rfl Try.ntmps49 (by simp) (fun F => ?_)
  refine (show AW _ _ _ (⟨25, 0, [(0, .d (enc (m : Morph))), (1, .d (.lit (.int .i64 n)))], []⟩ : St) _ from ?_)
  refine AW.seq ?_
  refine AW.region [1, 0] rfl ?_
  refine AO.al1 (gOn_none rfl) (AL.box 0 rfl (by kernel_rfl) rfl rfl rfl rfl rfl) ?_
  refine AO.ro rfl rfl (gOn_none rfl) (RO.assign rfl rfl) ?_
  refine AO.nil ?_
  refine AW.seq ?_
  refine AW.region [0] rfl ?_
  refine AO.ro rfl rfl (gOn_none rfl) (RO.assign rfl rfl) ?_
  refine AO.nil ?_
  refine AW.seq ?_
  refine AW.seq ?_
  refine AW.region [0] rfl ?_
  refine AO.ro rfl rfl (gOn_none rfl) (RO.assign rfl rfl) ?_
  refine AO.nil ?_
  refine AW.block ?_
  refine AW.loop (mp := [(0, some 0), (1, none)]) (X := Int × List Int) (fun xv => ⟨25, 2, [(1, .d (.lit (.int .i64 n))), (2, .ptr 0 0), (4, .nil), (5, .own 1), (6, .d (.lit (.int .i64 xv.1)))], [(0, some (Ent.box 47 [.d (.lit (.int .i64 m.Base)), .d (enc (m.Images : (List (List Int)))), .d (enc (m.Coding : (List Int)))])), (1, some (Ent.arrOf 3 (xv.2 : List Int)))]⟩) (fun xv => (xv.2 = rowN m xv.1.toNat) ∧ (0 ≤ xv.1 ∧ (xv.1 ≤ n ∨ xv.1 = 0))) (fun xv => (n - xv.1).toNat) ((0, [])) ?_ ⟨rfl, rfl, ⟨⟨_, rfl, .inl rfl⟩, ⟨⟨_, rfl, .inl rfl⟩, ⟨⟨_, rfl, .inl rfl⟩, ⟨⟨_, rfl, .inl rfl⟩, ⟨⟨_, rfl, .inl rfl⟩, trivial⟩⟩⟩⟩⟩, ⟨⟨_, rfl, rfl⟩, ⟨⟨_, _, _, rfl, by decide⟩, trivial⟩⟩⟩ ?_
  · try dsimp only
    exact ⟨rfl, by omega⟩
  · skip
    intro x hx
    obtain ⟨i, l⟩ := x
    replace hx : (l = rowN m i.toNat) ∧ (0 ≤ i ∧ (i ≤ n ∨ i = 0)) := hx
    obtain ⟨h0, h1⟩ := hx
    refine (show AW _ _ _ (⟨25, 2, [(1, .d (.lit (.int .i64 n))), (2, .ptr 0 0), (4, .nil), (5, .own 1), (6, .d (.lit (.int .i64 i)))], [(0, some (Ent.box 47 [.d (.lit (.int .i64 m.Base)), .d (enc (m.Images : (List (List Int)))), .d (enc (m.Coding : (List Int)))])), (1, some (Ent.arrOf 3 (l : List Int)))]⟩ : St) _ from ?_)
    have hq := letT_in hm _ i (Nat.le_refl _) h1.1
    have hc := hm.shape.1
    have hl : l.length = i.toNat := by rw [h0]; exact rowN_len
    refine AW.seq ?_
    refine AW.seq ?_
    refine AW.region [0, 0, 0] rfl ?_
    refine AO.ro rfl rfl (gOn_none rfl) (RO.move rfl rfl) ?_
    refine AO.ro rfl rfl (gOn_none rfl) (RO.move rfl rfl) ?_
    refine AO.split rfl rfl (gOn_none rfl) (RO.lss rfl rfl rfl) (fun t1 => ?_) (fun t1 => ?_)
    ·
     refine AO.nil ?_
     refine AW.cond_t rfl ?_
     refine AW.skip ?_
     refine AW.seq ?_
     refine AW.block ?_
     refine AW.seq ?_
     refine AW.region [0, 0, 1, 0] rfl ?_
     refine AO.ro rfl rfl (gOn_none rfl) (RO.ld_ptr_d (y := enc (m : Morph)) rfl ti47 rfl rfl rfl rfl rfl) ?_
     refine AO.ro rfl rfl (gOn_none rfl) (RO.move rfl rfl) ?_
     refine AO.callA («as» := [.d (enc (m : Morph)), .d (.lit (.int .i64 i))]) (gOn_none rfl) rfl rfl rfl rfl Try.call29 ⟨⟨_, rfl, rfl⟩, ⟨_, rfl, rfl⟩, rfl⟩ (letter23_ok m i hm (by omega) (by omega)) ?_
     rintro _ _ ⟨y2, rfl, rfl, c2⟩
     refine ⟨[], 2, .d (.lit (.int .i64 y2)), [], rfl, trivial, rfl, ?_⟩
     rw [← c2] at hq
     refine AO.ro rfl rfl (gOn_none rfl) (RO.assign rfl rfl) ?_
     refine AO.nil ?_
     refine AW.region [0, 0, 0, 0, 0, 0, 1, 2, 0] rfl ?_
     refine AO.ro rfl rfl (gOn_none rfl) (RO.move rfl rfl) ?_
     refine AO.ro rfl rfl (gOn_none rfl) (RO.fld_ptr rfl fa47_2 rfl) ?_
     refine AO.ro rfl rfl (gOn_none rfl) (RO.ld_ptr rfl Try.underlying26 rfl rfl rfl rfl) ?_
     refine AO.ro rfl rfl (gOn_none rfl) (RO.move rfl rfl) ?_
     refine AO.ro rfl rfl (gOn_none rfl) (RO.idx rfl Try.underlying26 ti3 rfl rfl (by omega)) ?_
     refine AO.ro rfl rfl (gOn_none rfl) (RO.ld_addr rfl Try.underlying3 rfl rfl rfl) ?_
     refine AO.al1 (gOn_none rfl) (AL.lits (α := Int) (ys := [ix m.Coding y2]) 2 rfl (by kernel_rfl) rfl rfl rfl Try.underlying26 ti3 rfl ⟨rfl, rfl, rfl⟩ rfl (fun _ => rfl) rfl (by kernel_rfl) (by kernel_rfl)) ?_
     refine AO.ef1 (gOn_none rfl) (EF.append (α := Int) (ys := ([ix m.Coding y2] : List Int)) default 3 rfl (by kernel_rfl) rfl rfl rfl Try.underlying26 ti3 rfl rfl rfl (by decide) zr3 rfl rfl (.inr (.inl ⟨_, _, rfl, rfl⟩)) (by simp only [List.length_append, List.length_cons, List.length_nil]; omega) (by simp only [List.length_append, List.length_cons, List.length_nil]; omega)) ?_
     refine AO.ro rfl rfl (gOn_none rfl) (RO.assign rfl rfl) ?_
     refine AO.nil ?_
     refine AW.region [0, 0, 0] rfl ?_
     refine AO.ro rfl rfl (gOn_none rfl) (RO.move rfl rfl) ?_
     refine AO.ro rfl rfl (gOn_none rfl) (RO.add rfl rfl rfl (by omega)) ?_
     refine AO.ro rfl rfl (gOn_none rfl) (RO.assign rfl rfl) ?_
     refine AO.nil ?_
     refine ⟨(i + 1, l ++ ([ix m.Coding y2])), [(0, some 0), (1, some 3)], ?_, ?_, ⟨rfl, rfl, ⟨⟨_, rfl, .inl rfl⟩, ⟨⟨_, rfl, .inl rfl⟩, ⟨⟨_, rfl, .inl rfl⟩, ⟨⟨_, rfl, .inl rfl⟩, ⟨⟨_, rfl, .inl rfl⟩, trivial⟩⟩⟩⟩⟩, ⟨⟨_, rfl, rfl⟩, ⟨⟨_, rfl, rfl⟩, trivial⟩⟩⟩⟩
     · try dsimp only
       exact ⟨by subst_vars; exact (rowN_succ h1.1).symm, by omega⟩
     · try dsimp only
       first | omega | (simp; done) | (simp_all; done) | (simp_all; omega)
    ·
     refine AO.nil ?_
     refine AW.cond_f rfl ?_
     refine AW.exit ?_
     refine AW.seq ?_
     refine AW.region [0, 0] rfl ?_
     refine AO.ro rfl rfl (gOn_none rfl) (RO.move rfl rfl) ?_
     refine AO.ro rfl rfl (gOn_none rfl) (RO.assign rfl rfl) ?_
     refine AO.nil ?_
     refine AW.freezeA 1 [4, 5, 24] rfl rfl ?_
     refine AW.ret ?_
     refine ⟨[], [.d (enc (l : (List Int)))], [], rfl, ⟨⟨_, rfl, .inl rfl⟩, rfl⟩, trivial, ?_⟩
     refine ⟨l, rfl, rfl, ?_⟩
     rw [h0]; congr 1; omega

theorem law_squares (m : Morph) (n : Int) (hx : -9223372036854775808 ≤ n ∧ n ≤ 9223372036854775807) : Fc Try.prog 13 [.d (enc (m : Morph)), .d (.lit (.int .i64 n))] [] (fun rv hv => ∃ (y : Bool), rv = .d (.lit (.bool y)) ∧ hv = [] ∧ (y = true)) := by
  refine Fc.of_body Try.func13 rfl Try.ntmps13 (by simp) (fun F => ?_)
  refine (show AW _ _ _ (⟨113, 0, [(0, .d (enc (m : Morph))), (1, .d (.lit (.int .i64 n)))], []⟩ : St) _ from ?_)
  refine AW.seq ?_
  refine AW.region [1, 0] rfl ?_
  refine AO.al1 (gOn_none rfl) (AL.box 0 rfl (by kernel_rfl) rfl rfl rfl rfl rfl) ?_
  refine AO.ro rfl rfl (gOn_none rfl) (RO.assign rfl rfl) ?_
  refine AO.nil ?_
  refine AW.seq ?_
  refine AW.region [0, 0, 1, 0, 0, 0, 0, 0, 0, 0, 0, 0] rfl ?_
  refine AO.ro rfl rfl (gOn_none rfl) (RO.ld_ptr_d (y := enc (m : Morph)) rfl ti47 rfl rfl rfl rfl rfl) ?_
  refine AO.ro rfl rfl (gOn_none rfl) (RO.move rfl rfl) ?_
  refine AO.callA («as» := [.d (enc (m : Morph)), .d (.lit (.int .i64 n))]) (gOn_none rfl) rfl rfl rfl rfl Try.call48 ⟨⟨_, rfl, rfl⟩, ⟨_, rfl, rfl⟩, rfl⟩ (square_ok m n (by omega)) ?_
  rintro _ _ ⟨at'1, half1, is1, e1, rfl, rfl, c1⟩
  refine ⟨[], 1, .tup [.d (.lit (.int .i64 at'1)), .d (.lit (.int .i64 half1)), .d (.lit (.bool is1)), .d (.lit (.int .i64 e1))], [], rfl, trivial, rfl, ?_⟩
  refine AO.ro rfl rfl (gOn_none rfl) (RO.move rfl rfl) ?_
  refine AO.ro rfl rfl (gOn_none rfl) (RO.extract rfl rfl rfl) ?_
  refine AO.ro rfl rfl (gOn_none rfl) (RO.extract rfl rfl rfl) ?_
  refine AO.ro rfl rfl (gOn_none rfl) (RO.extract rfl rfl rfl) ?_
  refine AO.ro rfl rfl (gOn_none rfl) (RO.extract rfl rfl rfl) ?_
  refine AO.ro rfl rfl (gOn_none rfl) (RO.assign rfl rfl) ?_
  refine AO.ro rfl rfl (gOn_none rfl) (RO.assign rfl rfl) ?_
  refine AO.ro rfl rfl (gOn_none rfl) (RO.assign rfl rfl) ?_
  refine AO.ro rfl rfl (gOn_none rfl) (RO.assign rfl rfl) ?_
  refine AO.nil ?_
  refine AW.seq ?_
  refine AW.region [0, 1, 0] rfl ?_
  refine AO.ro rfl rfl (gOn_none rfl) (RO.ld_ptr_d (y := enc (m : Morph)) rfl ti47 rfl rfl rfl rfl rfl) ?_
  refine AO.callA («as» := [.d (enc (m : Morph))]) (gOn_none rfl) rfl rfl rfl rfl Try.call27 ⟨⟨_, rfl, rfl⟩, rfl⟩ (mcheck23_ok m) ?_
  rintro _ _ ⟨e2, rfl, rfl, c2⟩
  refine ⟨[], 1, .d (.lit (.int .i64 e2)), [], rfl, trivial, rfl, ?_⟩
  refine AO.ro rfl rfl (gOn_none rfl) (RO.assign rfl rfl) ?_
  refine AO.nil ?_
  refine AW.seq ?_
  refine AW.seq ?_
  refine AW.region [0, 0, 0, 0, 0, 0, 0, 0, 0, 0] rfl ?_
  refine AO.ro rfl rfl (gOn_none rfl) (RO.move rfl rfl) ?_
  refine AO.split rfl rfl (gOn_none rfl) (RO.eql rfl rfl rfl) (fun t3 => ?_) (fun t3 => ?_)
  ·
   refine AO.ro rfl rfl (gOn_none rfl) (RO.move rfl rfl) ?_
   refine AO.ro rfl rfl (gOn_some 26 true rfl rfl rfl rfl) (RO.move rfl rfl) ?_
   refine AO.split rfl rfl (gOn_some 26 true rfl rfl rfl rfl) (RO.lss rfl rfl rfl) (fun t4 => ?_) (fun t4 => ?_)
   ·
    refine AO.ro rfl rfl (gOn_some 26 true rfl rfl rfl rfl) (RO.move rfl rfl) ?_
    refine AO.skip rfl rfl (gOn_some 29 true rfl rfl rfl rfl) ?_
    refine AO.skip rfl rfl (gOn_some 29 true rfl rfl rfl rfl) ?_
    refine AO.ro rfl rfl (gOn_some 26 true rfl rfl rfl rfl) (RO.pick_t rfl rfl rfl) ?_
    refine AO.ro rfl rfl (gOn_none rfl) (RO.pick_t rfl rfl rfl) ?_
    refine AO.nil ?_
    refine AW.cond_t rfl ?_
    refine AW.region [0] rfl ?_
    refine AO.ro rfl rfl (gOn_none rfl) (RO.assign rfl rfl) ?_
    refine AO.nil ?_
    refine AW.seq ?_
    refine AW.seq ?_
    refine AW.region [0, 0] rfl ?_
    refine AO.ro rfl rfl (gOn_none rfl) (RO.move rfl rfl) ?_
    refine AO.splitn rfl rfl (gOn_none rfl) (RO.neq rfl rfl rfl) (fun t5 => ?_) (fun t5 => ?_)
    ·
     refine AO.nil ?_
     refine AW.cond_t rfl ?_
     refine AW.seq ?_
     refine AW.region [0, 0, 0, 0, 0, 0, 0, 0, 0, 0, 0, 0, 0, 0, 0, 0] rfl ?_
     refine AO.ro rfl rfl (gOn_none rfl) (RO.move rfl rfl) ?_
     refine AO.ro rfl rfl (gOn_none rfl) (RO.move rfl rfl) ?_
     refine AO.split rfl rfl (gOn_none rfl) (RO.eql rfl rfl rfl) (fun t6 => ?_) (fun t6 => ?_)
     ·
      refine AO.ro rfl rfl (gOn_none rfl) (RO.move rfl rfl) ?_
      refine AO.ro rfl rfl (gOn_some 39 true rfl rfl rfl rfl) (RO.move rfl rfl) ?_
      refine AO.caseb 40 rfl (fun b7 => ?_) (fun b7 => ?_)
      ·
       refine AO.ro rfl rfl (gOn_some 39 true rfl rfl rfl rfl) (RO.not rfl rfl) ?_
       refine AO.ro rfl rfl (gOn_none rfl) (RO.pick_t rfl rfl rfl) ?_
       refine AO.ro rfl rfl (gOn_none rfl) (RO.move rfl rfl) ?_
       refine AO.skip rfl rfl (gOn_some 43 false rfl rfl rfl rfl) ?_
       refine AO.skip rfl rfl (gOn_some 43 false rfl rfl rfl rfl) ?_
       refine AO.ro rfl rfl (gOn_none rfl) (RO.pick_f rfl rfl rfl) ?_
       refine AO.ro rfl rfl (gOn_none rfl) (RO.move rfl rfl) ?_
       refine AO.skip rfl rfl (gOn_some 47 false rfl rfl rfl rfl) ?_
       refine AO.skip rfl rfl (gOn_some 47 false rfl rfl rfl rfl) ?_
       refine AO.ro rfl rfl (gOn_none rfl) (RO.pick_f rfl rfl rfl) ?_
       refine AO.ro rfl rfl (gOn_none rfl) (RO.assign rfl rfl) ?_
       refine AO.nil ?_
       refine AW.ret ?_
       refine ⟨[], [.d (.lit (.bool false))], [], rfl, ⟨⟨_, rfl, .inl rfl⟩, rfl⟩, trivial, ?_⟩
       refine ⟨false, rfl, rfl, ?_⟩
       first
       | (have := spec_no c1 (sqE_n (by omega) (by omega)) (by omega)
          first | rfl | (exfalso; simp_all; done) | (exfalso; omega))
       | (have := spec_no c1 (sqE_mor (by omega)) (by omega)
          first | rfl | (exfalso; simp_all; done) | (exfalso; omega) | (simp_all; omega))
      ·
       refine AO.ro rfl rfl (gOn_some 39 true rfl rfl rfl rfl) (RO.not rfl rfl) ?_
       refine AO.ro rfl rfl (gOn_none rfl) (RO.pick_t rfl rfl rfl) ?_
       refine AO.ro rfl rfl (gOn_none rfl) (RO.move rfl rfl) ?_
       refine AO.ro rfl rfl (gOn_some 43 true rfl rfl rfl rfl) (RO.move rfl rfl) ?_
       refine AO.split rfl rfl (gOn_some 43 true rfl rfl rfl rfl) (RO.eql rfl rfl rfl) (fun t8 => ?_) (fun t8 => ?_)
       ·
        refine AO.ro rfl rfl (gOn_none rfl) (RO.pick_t rfl rfl rfl) ?_
        refine AO.ro rfl rfl (gOn_none rfl) (RO.move rfl rfl) ?_
        refine AO.ro rfl rfl (gOn_some 47 true rfl rfl rfl rfl) (RO.move rfl rfl) ?_
        refine AO.split rfl rfl (gOn_some 47 true rfl rfl rfl rfl) (RO.eql rfl rfl rfl) (fun t9 => ?_) (fun t9 => ?_)
        ·
         refine AO.ro rfl rfl (gOn_none rfl) (RO.pick_t rfl rfl rfl) ?_
         refine AO.ro rfl rfl (gOn_none rfl) (RO.assign rfl rfl) ?_
         refine AO.nil ?_
         refine AW.ret ?_
         refine ⟨[], [.d (.lit (.bool true))], [], rfl, ⟨⟨_, rfl, .inl rfl⟩, rfl⟩, trivial, ?_⟩
         refine ⟨true, rfl, rfl, ?_⟩
         first
         | (have := spec_no c1 (sqE_n (by omega) (by omega)) (by omega)
            first | rfl | (exfalso; simp_all; done) | (exfalso; omega))
         | (have := spec_no c1 (sqE_mor (by omega)) (by omega)
            first | rfl | (exfalso; simp_all; done) | (exfalso; omega) | (simp_all; omega))
        ·
         refine AO.ro rfl rfl (gOn_none rfl) (RO.pick_t rfl rfl rfl) ?_
         refine AO.ro rfl rfl (gOn_none rfl) (RO.assign rfl rfl) ?_
         refine AO.nil ?_
         refine AW.ret ?_
         refine ⟨[], [.d (.lit (.bool false))], [], rfl, ⟨⟨_, rfl, .inl rfl⟩, rfl⟩, trivial, ?_⟩
         refine ⟨false, rfl, rfl, ?_⟩
         first
         | (have := spec_no c1 (sqE_n (by omega) (by omega)) (by omega)
            first | rfl | (exfalso; simp_all; done) | (exfalso; omega))
         | (have := spec_no c1 (sqE_mor (by omega)) (by omega)
            first | rfl | (exfalso; simp_all; done) | (exfalso; omega) | (simp_all; omega))
       ·
        refine AO.ro rfl rfl (gOn_none rfl) (RO.pick_t rfl rfl rfl) ?_
        refine AO.ro rfl rfl (gOn_none rfl) (RO.move rfl rfl) ?_
        refine AO.skip rfl rfl (gOn_some 47 false rfl rfl rfl rfl) ?_
        refine AO.skip rfl rfl (gOn_some 47 false rfl rfl rfl rfl) ?_
        refine AO.ro rfl rfl (gOn_none rfl) (RO.pick_f rfl rfl rfl) ?_
        refine AO.ro rfl rfl (gOn_none rfl) (RO.assign rfl rfl) ?_
        refine AO.nil ?_
        refine AW.ret ?_
        refine ⟨[], [.d (.lit (.bool false))], [], rfl, ⟨⟨_, rfl, .inl rfl⟩, rfl⟩, trivial, ?_⟩
        refine ⟨false, rfl, rfl, ?_⟩
        first
        | (have := spec_no c1 (sqE_n (by omega) (by omega)) (by omega)
           first | rfl | (exfalso; simp_all; done) | (exfalso; omega))
        | (have := spec_no c1 (sqE_mor (by omega)) (by omega)
           first | rfl | (exfalso; simp_all; done) | (exfalso; omega) | (simp_all; omega))
     ·
      refine AO.ro rfl rfl (gOn_none rfl) (RO.move rfl rfl) ?_
      refine AO.skip rfl rfl (gOn_some 39 false rfl rfl rfl rfl) ?_
      refine AO.skip rfl rfl (gOn_some 39 false rfl rfl rfl rfl) ?_
      refine AO.ro rfl rfl (gOn_none rfl) (RO.pick_f rfl rfl rfl) ?_
      refine AO.ro rfl rfl (gOn_none rfl) (RO.move rfl rfl) ?_
      refine AO.skip rfl rfl (gOn_some 43 false rfl rfl rfl rfl) ?_
      refine AO.skip rfl rfl (gOn_some 43 false rfl rfl rfl rfl) ?_
      refine AO.ro rfl rfl (gOn_none rfl) (RO.pick_f rfl rfl rfl) ?_
      refine AO.ro rfl rfl (gOn_none rfl) (RO.move rfl rfl) ?_
      refine AO.skip rfl rfl (gOn_some 47 false rfl rfl rfl rfl) ?_
      refine AO.skip rfl rfl (gOn_some 47 false rfl rfl rfl rfl) ?_
      refine AO.ro rfl rfl (gOn_none rfl) (RO.pick_f rfl rfl rfl) ?_
      refine AO.ro rfl rfl (gOn_none rfl) (RO.assign rfl rfl) ?_
      refine AO.nil ?_
      refine AW.ret ?_
      refine ⟨[], [.d (.lit (.bool false))], [], rfl, ⟨⟨_, rfl, .inl rfl⟩, rfl⟩, trivial, ?_⟩
      refine ⟨false, rfl, rfl, ?_⟩
      first
      | (have := spec_no c1 (sqE_n (by omega) (by omega)) (by omega)
         first | rfl | (exfalso; simp_all; done) | (exfalso; omega))
      | (have := spec_no c1 (sqE_mor (by omega)) (by omega)
         first | rfl | (exfalso; simp_all; done) | (exfalso; omega) | (simp_all; omega))
    ·
     refine AO.nil ?_
     refine AW.cond_f rfl ?_
     refine AW.skip ?_
     refine AW.seq ?_
     refine AW.region [0, 0, 1, 0] rfl ?_
     refine AO.ro rfl rfl (gOn_none rfl) (RO.ld_ptr_d (y := enc (m : Morph)) rfl ti47 rfl rfl rfl rfl rfl) ?_
     refine AO.ro rfl rfl (gOn_none rfl) (RO.move rfl rfl) ?_
     refine AO.callA («as» := [.d (enc (m : Morph)), .d (.lit (.int .i64 n))]) (gOn_none rfl) rfl rfl rfl rfl Try.call49 ⟨⟨_, rfl, rfl⟩, ⟨_, rfl, rfl⟩, rfl⟩ (row_ok m n (mor_of (by omega)) (by omega)) ?_
     rintro _ _ ⟨y10, rfl, rfl, c10⟩
     refine ⟨[], 1, .d (enc (y10 : (List Int))), [], rfl, trivial, rfl, ?_⟩
     have hw := congrArg List.length c10; rw [rowN_len] at hw
     refine AO.ro rfl rfl (gOn_none rfl) (RO.assign rfl rfl) ?_
     refine AO.nil ?_
     refine AW.seq ?_
     refine AW.seq ?_
     refine AW.region [0] rfl ?_
     refine AO.ro rfl rfl (gOn_none rfl) (RO.assign rfl rfl) ?_
     refine AO.nil ?_
     refine AW.block ?_
     refine AW.loop (mp := []) (X := Int) (fun xv => ⟨113, 1, [(1, .d (.lit (.int .i64 n))), (4, .d (.lit (.bool false))), (5, .d (.lit (.int .i64 at'1))), (6, .d (.lit (.int .i64 half1))), (7, .d (.lit (.bool is1))), (8, .d (.lit (.int .i64 e1))), (10, .d (enc (y10 : (List Int)))), (11, .d (.lit (.int .i64 xv)))], []⟩) (fun xv => (0 ≤ xv ∧ xv ≤ n) ∧ (NoSq (rowN m n.toNat) n xv 1) ∧ (n ≤ 400 ∧ morE m = 0)) (fun xv => (n - xv).toNat) 0 ?_ ⟨rfl, rfl, ⟨⟨_, rfl, .inl rfl⟩, ⟨⟨_, rfl, .inl rfl⟩, ⟨⟨_, rfl, .inl rfl⟩, ⟨⟨_, rfl, .inl rfl⟩, ⟨⟨_, rfl, .inl rfl⟩, ⟨⟨_, rfl, .inl rfl⟩, ⟨⟨_, rfl, .inl rfl⟩, ⟨⟨_, rfl, .inl rfl⟩, trivial⟩⟩⟩⟩⟩⟩⟩⟩, trivial⟩ ?_
     · try dsimp only
       exact ⟨by omega, nosq_start, by omega, by omega⟩
     · skip
       intro p hx
       replace hx : (0 ≤ p ∧ p ≤ n) ∧ (NoSq (rowN m n.toNat) n p 1) ∧ (n ≤ 400 ∧ morE m = 0) := hx
       obtain ⟨g1, g2, g0⟩ := hx
       refine (show AW _ _ _ (⟨113, 1, [(1, .d (.lit (.int .i64 n))), (4, .d (.lit (.bool false))), (5, .d (.lit (.int .i64 at'1))), (6, .d (.lit (.int .i64 half1))), (7, .d (.lit (.bool is1))), (8, .d (.lit (.int .i64 e1))), (10, .d (enc (y10 : (List Int)))), (11, .d (.lit (.int .i64 p)))], []⟩ : St) _ from ?_)
       have g4 := @rowN_len m n.toNat
       refine AW.seq ?_
       refine AW.seq ?_
       refine AW.region [0, 0, 0] rfl ?_
       refine AO.ro rfl rfl (gOn_none rfl) (RO.move rfl rfl) ?_
       refine AO.ro rfl rfl (gOn_none rfl) (RO.move rfl rfl) ?_
       refine AO.split rfl rfl (gOn_none rfl) (RO.lss rfl rfl rfl) (fun t11 => ?_) (fun t11 => ?_)
       ·
        refine AO.nil ?_
        refine AW.cond_t rfl ?_
        refine AW.skip ?_
        refine AW.seq ?_
        refine AW.block ?_
        refine AW.seq ?_
        refine AW.region [0] rfl ?_
        refine AO.ro rfl rfl (gOn_none rfl) (RO.assign rfl rfl) ?_
        refine AO.nil ?_
        refine AW.block ?_
        refine AW.loop (mp := []) (X := Int) (fun xv => ⟨113, 1, [(1, .d (.lit (.int .i64 n))), (4, .d (.lit (.bool false))), (5, .d (.lit (.int .i64 at'1))), (6, .d (.lit (.int .i64 half1))), (7, .d (.lit (.bool is1))), (8, .d (.lit (.int .i64 e1))), (10, .d (enc (y10 : (List Int)))), (11, .d (.lit (.int .i64 p))), (12, .d (.lit (.int .i64 xv)))], []⟩) (fun xv => (1 ≤ xv ∧ xv ≤ 1000) ∧ (NoSq (rowN m n.toNat) n p xv)) (fun xv => (n + 1 - xv).toNat) 1 ?_ ⟨rfl, rfl, ⟨⟨_, rfl, .inl rfl⟩, ⟨⟨_, rfl, .inl rfl⟩, ⟨⟨_, rfl, .inl rfl⟩, ⟨⟨_, rfl, .inl rfl⟩, ⟨⟨_, rfl, .inl rfl⟩, ⟨⟨_, rfl, .inl rfl⟩, ⟨⟨_, rfl, .inl rfl⟩, ⟨⟨_, rfl, .inl rfl⟩, ⟨⟨_, rfl, .inl rfl⟩, trivial⟩⟩⟩⟩⟩⟩⟩⟩⟩, trivial⟩ ?_
        · try dsimp only
          exact ⟨by omega, g2⟩
        · skip
          intro h hx
          replace hx : (1 ≤ h ∧ h ≤ 1000) ∧ (NoSq (rowN m n.toNat) n p h) := hx
          obtain ⟨k1, k2⟩ := hx
          refine (show AW _ _ _ (⟨113, 1, [(1, .d (.lit (.int .i64 n))), (4, .d (.lit (.bool false))), (5, .d (.lit (.int .i64 at'1))), (6, .d (.lit (.int .i64 half1))), (7, .d (.lit (.bool is1))), (8, .d (.lit (.int .i64 e1))), (10, .d (enc (y10 : (List Int)))), (11, .d (.lit (.int .i64 p))), (12, .d (.lit (.int .i64 h)))], []⟩ : St) _ from ?_)
          refine AW.seq ?_
          refine AW.seq ?_
          refine AW.region [0, 0, 0, 0, 0, 0] rfl ?_
          refine AO.ro rfl rfl (gOn_none rfl) (RO.move rfl rfl) ?_
          refine AO.ro rfl rfl (gOn_none rfl) (RO.move rfl rfl) ?_
          refine AO.ro rfl rfl (gOn_none rfl) (RO.mul rfl rfl rfl (by omega)) ?_
          refine AO.ro rfl rfl (gOn_none rfl) (RO.add rfl rfl rfl (by omega)) ?_
          refine AO.ro rfl rfl (gOn_none rfl) (RO.move rfl rfl) ?_
          refine AO.split rfl rfl (gOn_none rfl) (RO.leq rfl rfl rfl) (fun t12 => ?_) (fun t12 => ?_)
          ·
           refine AO.nil ?_
           refine AW.cond_t rfl ?_
           refine AW.skip ?_
           refine AW.seq ?_
           refine AW.block ?_
           refine AW.seq ?_
           refine AW.drawn [(0, 0), (0, 1), (0, 2), (0, 3), (0, 4), (0, 5), (0, 6), (0, 7), (0, 8), (0, 9), (0, 10), (0, 11), (0, 12), (0, 13), (0, 14), (1, 15), (0, 16)] (by kernel_rfl) (by kernel_rfl) ?_
           refine AO.ro rfl rfl (gOn_none rfl) (RO.move rfl rfl) ?_
           refine AO.ro rfl rfl (gOn_none rfl) (RO.move rfl rfl) ?_
           refine AO.ro rfl rfl (gOn_none rfl) (RO.move rfl rfl) ?_
           refine AO.ro rfl rfl (gOn_none rfl) (RO.move rfl rfl) ?_
           refine AO.ro rfl rfl (gOn_none rfl) (RO.add rfl rfl rfl (by omega)) ?_
           refine AO.fact 67 rfl (fun ln13 => ?_)
           replace ln13 : y10.length * 8 ≤ 140737488355328 := ln13
           refine AO.ro rfl rfl (gOn_none rfl) (RO.sl_lh rfl Try.underlying26 ti3 rfl rfl rfl (by omega)) ?_
           refine AO.ro rfl rfl (gOn_none rfl) (RO.move rfl rfl) ?_
           refine AO.ro rfl rfl (gOn_none rfl) (RO.move rfl rfl) ?_
           refine AO.ro rfl rfl (gOn_none rfl) (RO.move rfl rfl) ?_
           refine AO.ro rfl rfl (gOn_none rfl) (RO.add rfl rfl rfl (by omega)) ?_
           refine AO.ro rfl rfl (gOn_none rfl) (RO.move rfl rfl) ?_
           refine AO.ro rfl rfl (gOn_none rfl) (RO.move rfl rfl) ?_
           refine AO.ro rfl rfl (gOn_none rfl) (RO.mul rfl rfl rfl (by omega)) ?_
           refine AO.ro rfl rfl (gOn_none rfl) (RO.add rfl rfl rfl (by omega)) ?_
           refine AO.ro rfl rfl (gOn_none rfl) (RO.sl_lh rfl Try.underlying26 ti3 rfl rfl rfl (by omega)) ?_
           refine AO.callA («as» := [.d (enc (cut y10 p (p + h) : (List Int))), .d (enc (cut y10 (p + h) (p + (2 * h)) : (List Int)))]) (gOn_none rfl) rfl rfl rfl rfl Try.call16 ⟨⟨_, rfl, rfl⟩, ⟨_, rfl, rfl⟩, rfl⟩ (words_ok (cut y10 p (p + h)) (cut y10 (p + h) (p + (2 * h)))) ?_
           rintro _ _ ⟨y14, rfl, rfl, c14⟩
           refine ⟨[], 1, .d (.lit (.bool y14)), [], rfl, trivial, rfl, ?_⟩
           refine AO.ro rfl rfl (gOn_none rfl) (RO.assign rfl rfl) ?_
           refine AO.nil ?_
           refine AW.seq ?_
           refine AW.region [0] rfl ?_
           refine AO.ro rfl rfl (gOn_none rfl) (RO.move rfl rfl) ?_
           refine AO.nil ?_
           refine AW.caseb 83 rfl (fun b15 => ?_) (fun b15 => ?_)
           ·
            first | replace b15 := of_decide_eq_true (c14.symm.trans b15) | (replace b15 := List.any_eq_true.1 (c14.symm.trans b15); simp only [decide_eq_true_eq] at b15) | skip
            refine AW.cond_t rfl ?_
            refine AW.seq ?_
            refine AW.region [0, 0, 0, 0, 0, 0, 0, 0, 0, 0, 0, 0, 0, 0, 0, 0] rfl ?_
            refine AO.ro rfl rfl (gOn_none rfl) (RO.move rfl rfl) ?_
            refine AO.split rfl rfl (gOn_none rfl) (RO.eql rfl rfl rfl) (fun t16 => ?_) (fun t16 => ?_)
            ·
             refine AO.ro rfl rfl (gOn_none rfl) (RO.move rfl rfl) ?_
             refine AO.ro rfl rfl (gOn_some 86 true rfl rfl rfl rfl) (RO.move rfl rfl) ?_
             refine AO.ro rfl rfl (gOn_none rfl) (RO.pick_t rfl rfl rfl) ?_
             refine AO.ro rfl rfl (gOn_none rfl) (RO.move rfl rfl) ?_
             refine AO.caseb 89 rfl (fun b17 => ?_) (fun b17 => ?_)
             ·
              refine AO.ro rfl rfl (gOn_some 89 true rfl rfl rfl rfl) (RO.move rfl rfl) ?_
              refine AO.ro rfl rfl (gOn_some 89 true rfl rfl rfl rfl) (RO.move rfl rfl) ?_
              refine AO.split rfl rfl (gOn_some 89 true rfl rfl rfl rfl) (RO.eql rfl rfl rfl) (fun t18 => ?_) (fun t18 => ?_)
              ·
               refine AO.ro rfl rfl (gOn_none rfl) (RO.pick_t rfl rfl rfl) ?_
               refine AO.ro rfl rfl (gOn_none rfl) (RO.move rfl rfl) ?_
               refine AO.ro rfl rfl (gOn_some 94 true rfl rfl rfl rfl) (RO.move rfl rfl) ?_
               refine AO.ro rfl rfl (gOn_some 94 true rfl rfl rfl rfl) (RO.move rfl rfl) ?_
               refine AO.split rfl rfl (gOn_some 94 true rfl rfl rfl rfl) (RO.eql rfl rfl rfl) (fun t19 => ?_) (fun t19 => ?_)
               ·
                refine AO.ro rfl rfl (gOn_none rfl) (RO.pick_t rfl rfl rfl) ?_
                refine AO.ro rfl rfl (gOn_none rfl) (RO.assign rfl rfl) ?_
                refine AO.nil ?_
                refine AW.ret ?_
                refine ⟨[], [.d (.lit (.bool true))], [], rfl, ⟨⟨_, rfl, .inl rfl⟩, rfl⟩, trivial, ?_⟩
                refine ⟨true, rfl, rfl, ?_⟩
                have hs : sqAt (rowN m n.toNat) p h := by rw [← ‹_ = rowN m n.toNat›]; assumption
                have := spec_hit c1 g0.2 (by omega) (by omega) hs k2
                first | rfl | (exfalso; simp_all; done) | (exfalso; omega) | (simp_all; omega)
               ·
                refine AO.ro rfl rfl (gOn_none rfl) (RO.pick_t rfl rfl rfl) ?_
                refine AO.ro rfl rfl (gOn_none rfl) (RO.assign rfl rfl) ?_
                refine AO.nil ?_
                refine AW.ret ?_
                refine ⟨[], [.d (.lit (.bool false))], [], rfl, ⟨⟨_, rfl, .inl rfl⟩, rfl⟩, trivial, ?_⟩
                refine ⟨false, rfl, rfl, ?_⟩
                have hs : sqAt (rowN m n.toNat) p h := by rw [← ‹_ = rowN m n.toNat›]; assumption
                have := spec_hit c1 g0.2 (by omega) (by omega) hs k2
                first | rfl | (exfalso; simp_all; done) | (exfalso; omega) | (simp_all; omega)
              ·
               refine AO.ro rfl rfl (gOn_none rfl) (RO.pick_t rfl rfl rfl) ?_
               refine AO.ro rfl rfl (gOn_none rfl) (RO.move rfl rfl) ?_
               refine AO.skip rfl rfl (gOn_some 94 false rfl rfl rfl rfl) ?_
               refine AO.skip rfl rfl (gOn_some 94 false rfl rfl rfl rfl) ?_
               refine AO.skip rfl rfl (gOn_some 94 false rfl rfl rfl rfl) ?_
               refine AO.ro rfl rfl (gOn_none rfl) (RO.pick_f rfl rfl rfl) ?_
               refine AO.ro rfl rfl (gOn_none rfl) (RO.assign rfl rfl) ?_
               refine AO.nil ?_
               refine AW.ret ?_
               refine ⟨[], [.d (.lit (.bool false))], [], rfl, ⟨⟨_, rfl, .inl rfl⟩, rfl⟩, trivial, ?_⟩
               refine ⟨false, rfl, rfl, ?_⟩
               have hs : sqAt (rowN m n.toNat) p h := by rw [← ‹_ = rowN m n.toNat›]; assumption
               have := spec_hit c1 g0.2 (by omega) (by omega) hs k2
               first | rfl | (exfalso; simp_all; done) | (exfalso; omega) | (simp_all; omega)
             ·
              refine AO.skip rfl rfl (gOn_some 89 false rfl rfl rfl rfl) ?_
              refine AO.skip rfl rfl (gOn_some 89 false rfl rfl rfl rfl) ?_
              refine AO.skip rfl rfl (gOn_some 89 false rfl rfl rfl rfl) ?_
              refine AO.ro rfl rfl (gOn_none rfl) (RO.pick_f rfl rfl rfl) ?_
              refine AO.ro rfl rfl (gOn_none rfl) (RO.move rfl rfl) ?_
              refine AO.skip rfl rfl (gOn_some 94 false rfl rfl rfl rfl) ?_
              refine AO.skip rfl rfl (gOn_some 94 false rfl rfl rfl rfl) ?_
              refine AO.skip rfl rfl (gOn_some 94 false rfl rfl rfl rfl) ?_
              refine AO.ro rfl rfl (gOn_none rfl) (RO.pick_f rfl rfl rfl) ?_
              refine AO.ro rfl rfl (gOn_none rfl) (RO.assign rfl rfl) ?_
              refine AO.nil ?_
              refine AW.ret ?_
              refine ⟨[], [.d (.lit (.bool false))], [], rfl, ⟨⟨_, rfl, .inl rfl⟩, rfl⟩, trivial, ?_⟩
              refine ⟨false, rfl, rfl, ?_⟩
              have hs : sqAt (rowN m n.toNat) p h := by rw [← ‹_ = rowN m n.toNat›]; assumption
              have := spec_hit c1 g0.2 (by omega) (by omega) hs k2
              first | rfl | (exfalso; simp_all; done) | (exfalso; omega) | (simp_all; omega)
            ·
             refine AO.ro rfl rfl (gOn_none rfl) (RO.move rfl rfl) ?_
             refine AO.skip rfl rfl (gOn_some 86 false rfl rfl rfl rfl) ?_
             refine AO.ro rfl rfl (gOn_none rfl) (RO.pick_f rfl rfl rfl) ?_
             refine AO.ro rfl rfl (gOn_none rfl) (RO.move rfl rfl) ?_
             refine AO.skip rfl rfl (gOn_some 89 false rfl rfl rfl rfl) ?_
             refine AO.skip rfl rfl (gOn_some 89 false rfl rfl rfl rfl) ?_
             refine AO.skip rfl rfl (gOn_some 89 false rfl rfl rfl rfl) ?_
             refine AO.ro rfl rfl (gOn_none rfl) (RO.pick_f rfl rfl rfl) ?_
             refine AO.ro rfl rfl (gOn_none rfl) (RO.move rfl rfl) ?_
             refine AO.skip rfl rfl (gOn_some 94 false rfl rfl rfl rfl) ?_
             refine AO.skip rfl rfl (gOn_some 94 false rfl rfl rfl rfl) ?_
             refine AO.skip rfl rfl (gOn_some 94 false rfl rfl rfl rfl) ?_
             refine AO.ro rfl rfl (gOn_none rfl) (RO.pick_f rfl rfl rfl) ?_
             refine AO.ro rfl rfl (gOn_none rfl) (RO.assign rfl rfl) ?_
             refine AO.nil ?_
             refine AW.ret ?_
             refine ⟨[], [.d (.lit (.bool false))], [], rfl, ⟨⟨_, rfl, .inl rfl⟩, rfl⟩, trivial, ?_⟩
             refine ⟨false, rfl, rfl, ?_⟩
             have hs : sqAt (rowN m n.toNat) p h := by rw [← ‹_ = rowN m n.toNat›]; assumption
             have := spec_hit c1 g0.2 (by omega) (by omega) hs k2
             first | rfl | (exfalso; simp_all; done) | (exfalso; omega) | (simp_all; omega)
           ·
            first | replace b15 := of_decide_eq_false (c14.symm.trans b15) | (replace b15 := List.any_eq_false.1 (c14.symm.trans b15); simp only [decide_eq_true_eq] at b15) | skip
            refine AW.cond_f rfl ?_
            refine AW.skip ?_
            refine AW.region [0, 0, 0] rfl ?_
            refine AO.ro rfl rfl (gOn_none rfl) (RO.move rfl rfl) ?_
            refine AO.ro rfl rfl (gOn_none rfl) (RO.add rfl rfl rfl (by omega)) ?_
            refine AO.ro rfl rfl (gOn_none rfl) (RO.assign rfl rfl) ?_
            refine AO.nil ?_
            refine ⟨h + 1, [], ?_, ?_, ⟨rfl, rfl, ⟨⟨_, rfl, .inl rfl⟩, ⟨⟨_, rfl, .inl rfl⟩, ⟨⟨_, rfl, .inl rfl⟩, ⟨⟨_, rfl, .inl rfl⟩, ⟨⟨_, rfl, .inl rfl⟩, ⟨⟨_, rfl, .inl rfl⟩, ⟨⟨_, rfl, .inl rfl⟩, ⟨⟨_, rfl, .inl rfl⟩, ⟨⟨_, rfl, .inl rfl⟩, trivial⟩⟩⟩⟩⟩⟩⟩⟩⟩, trivial⟩⟩
            · try dsimp only
              exact ⟨by omega, nosq_step k2 (by rw [← ‹_ = rowN m n.toNat›]; assumption)⟩
            · try dsimp only
              first | omega | (simp; done) | (simp_all; done) | (simp_all; omega)
          ·
           refine AO.nil ?_
           refine AW.cond_f rfl ?_
           refine AW.exit ?_
           refine AW.region [0, 0, 0] rfl ?_
           refine AO.ro rfl rfl (gOn_none rfl) (RO.move rfl rfl) ?_
           refine AO.ro rfl rfl (gOn_none rfl) (RO.add rfl rfl rfl (by omega)) ?_
           refine AO.ro rfl rfl (gOn_none rfl) (RO.assign rfl rfl) ?_
           refine AO.nil ?_
           refine ⟨p + 1, [], ?_, ?_, ⟨rfl, rfl, ⟨⟨_, rfl, .inl rfl⟩, ⟨⟨_, rfl, .inl rfl⟩, ⟨⟨_, rfl, .inl rfl⟩, ⟨⟨_, rfl, .inl rfl⟩, ⟨⟨_, rfl, .inl rfl⟩, ⟨⟨_, rfl, .inl rfl⟩, ⟨⟨_, rfl, .inl rfl⟩, ⟨⟨_, rfl, .inl rfl⟩, trivial⟩⟩⟩⟩⟩⟩⟩⟩, trivial⟩⟩
           · try dsimp only
             exact ⟨by omega, nosq_next k2 (by omega), g0⟩
           · try dsimp only
             first | omega | (simp; done) | (simp_all; done) | (simp_all; omega)
       ·
        refine AO.nil ?_
        refine AW.cond_f rfl ?_
        refine AW.exit ?_
        refine AW.seq ?_
        refine AW.region [0, 0, 0, 0, 0, 0, 0, 0, 0, 0, 0, 0, 0, 0, 0] rfl ?_
        refine AO.ro rfl rfl (gOn_none rfl) (RO.move rfl rfl) ?_
        refine AO.split rfl rfl (gOn_none rfl) (RO.eql rfl rfl rfl) (fun t20 => ?_) (fun t20 => ?_)
        ·
         refine AO.ro rfl rfl (gOn_none rfl) (RO.move rfl rfl) ?_
         refine AO.ro rfl rfl (gOn_some 101 true rfl rfl rfl rfl) (RO.move rfl rfl) ?_
         refine AO.caseb 102 rfl (fun b21 => ?_) (fun b21 => ?_)
         ·
          refine AO.ro rfl rfl (gOn_some 101 true rfl rfl rfl rfl) (RO.not rfl rfl) ?_
          refine AO.ro rfl rfl (gOn_none rfl) (RO.pick_t rfl rfl rfl) ?_
          refine AO.ro rfl rfl (gOn_none rfl) (RO.move rfl rfl) ?_
          refine AO.skip rfl rfl (gOn_some 105 false rfl rfl rfl rfl) ?_
          refine AO.skip rfl rfl (gOn_some 105 false rfl rfl rfl rfl) ?_
          refine AO.ro rfl rfl (gOn_none rfl) (RO.pick_f rfl rfl rfl) ?_
          refine AO.ro rfl rfl (gOn_none rfl) (RO.move rfl rfl) ?_
          refine AO.skip rfl rfl (gOn_some 109 false rfl rfl rfl rfl) ?_
          refine AO.skip rfl rfl (gOn_some 109 false rfl rfl rfl rfl) ?_
          refine AO.ro rfl rfl (gOn_none rfl) (RO.pick_f rfl rfl rfl) ?_
          refine AO.ro rfl rfl (gOn_none rfl) (RO.assign rfl rfl) ?_
          refine AO.nil ?_
          refine AW.ret ?_
          refine ⟨[], [.d (.lit (.bool false))], [], rfl, ⟨⟨_, rfl, .inl rfl⟩, rfl⟩, trivial, ?_⟩
          refine ⟨false, rfl, rfl, ?_⟩
          have hp : p = n := by omega
          have := spec_miss c1 g0.2 (by omega) (hp ▸ g2)
          first | rfl | (exfalso; simp_all; done) | (exfalso; omega) | (simp_all; omega)
         ·
          refine AO.ro rfl rfl (gOn_some 101 true rfl rfl rfl rfl) (RO.not rfl rfl) ?_
          refine AO.ro rfl rfl (gOn_none rfl) (RO.pick_t rfl rfl rfl) ?_
          refine AO.ro rfl rfl (gOn_none rfl) (RO.move rfl rfl) ?_
          refine AO.ro rfl rfl (gOn_some 105 true rfl rfl rfl rfl) (RO.move rfl rfl) ?_
          refine AO.split rfl rfl (gOn_some 105 true rfl rfl rfl rfl) (RO.eql rfl rfl rfl) (fun t22 => ?_) (fun t22 => ?_)
          ·
           refine AO.ro rfl rfl (gOn_none rfl) (RO.pick_t rfl rfl rfl) ?_
           refine AO.ro rfl rfl (gOn_none rfl) (RO.move rfl rfl) ?_
           refine AO.ro rfl rfl (gOn_some 109 true rfl rfl rfl rfl) (RO.move rfl rfl) ?_
           refine AO.split rfl rfl (gOn_some 109 true rfl rfl rfl rfl) (RO.eql rfl rfl rfl) (fun t23 => ?_) (fun t23 => ?_)
           ·
            refine AO.ro rfl rfl (gOn_none rfl) (RO.pick_t rfl rfl rfl) ?_
            refine AO.ro rfl rfl (gOn_none rfl) (RO.assign rfl rfl) ?_
            refine AO.nil ?_
            refine AW.ret ?_
            refine ⟨[], [.d (.lit (.bool true))], [], rfl, ⟨⟨_, rfl, .inl rfl⟩, rfl⟩, trivial, ?_⟩
            refine ⟨true, rfl, rfl, ?_⟩
            have hp : p = n := by omega
            have := spec_miss c1 g0.2 (by omega) (hp ▸ g2)
            first | rfl | (exfalso; simp_all; done) | (exfalso; omega) | (simp_all; omega)
           ·
            refine AO.ro rfl rfl (gOn_none rfl) (RO.pick_t rfl rfl rfl) ?_
            refine AO.ro rfl rfl (gOn_none rfl) (RO.assign rfl rfl) ?_
            refine AO.nil ?_
            refine AW.ret ?_
            refine ⟨[], [.d (.lit (.bool false))], [], rfl, ⟨⟨_, rfl, .inl rfl⟩, rfl⟩, trivial, ?_⟩
            refine ⟨false, rfl, rfl, ?_⟩
            have hp : p = n := by omega
            have := spec_miss c1 g0.2 (by omega) (hp ▸ g2)
            first | rfl | (exfalso; simp_all; done) | (exfalso; omega) | (simp_all; omega)
          ·
           refine AO.ro rfl rfl (gOn_none rfl) (RO.pick_t rfl rfl rfl) ?_
           refine AO.ro rfl rfl (gOn_none rfl) (RO.move rfl rfl) ?_
           refine AO.skip rfl rfl (gOn_some 109 false rfl rfl rfl rfl) ?_
           refine AO.skip rfl rfl (gOn_some 109 false rfl rfl rfl rfl) ?_
           refine AO.ro rfl rfl (gOn_none rfl) (RO.pick_f rfl rfl rfl) ?_
           refine AO.ro rfl rfl (gOn_none rfl) (RO.assign rfl rfl) ?_
           refine AO.nil ?_
           refine AW.ret ?_
           refine ⟨[], [.d (.lit (.bool false))], [], rfl, ⟨⟨_, rfl, .inl rfl⟩, rfl⟩, trivial, ?_⟩
           refine ⟨false, rfl, rfl, ?_⟩
           have hp : p = n := by omega
           have := spec_miss c1 g0.2 (by omega) (hp ▸ g2)
           first | rfl | (exfalso; simp_all; done) | (exfalso; omega) | (simp_all; omega)
        ·
         refine AO.ro rfl rfl (gOn_none rfl) (RO.move rfl rfl) ?_
         refine AO.skip rfl rfl (gOn_some 101 false rfl rfl rfl rfl) ?_
         refine AO.skip rfl rfl (gOn_some 101 false rfl rfl rfl rfl) ?_
         refine AO.ro rfl rfl (gOn_none rfl) (RO.pick_f rfl rfl rfl) ?_
         refine AO.ro rfl rfl (gOn_none rfl) (RO.move rfl rfl) ?_
         refine AO.skip rfl rfl (gOn_some 105 false rfl rfl rfl rfl) ?_
         refine AO.skip rfl rfl (gOn_some 105 false rfl rfl rfl rfl) ?_
         refine AO.ro rfl rfl (gOn_none rfl) (RO.pick_f rfl rfl rfl) ?_
         refine AO.ro rfl rfl (gOn_none rfl) (RO.move rfl rfl) ?_
         refine AO.skip rfl rfl (gOn_some 109 false rfl rfl rfl rfl) ?_
         refine AO.skip rfl rfl (gOn_some 109 false rfl rfl rfl rfl) ?_
         refine AO.ro rfl rfl (gOn_none rfl) (RO.pick_f rfl rfl rfl) ?_
         refine AO.ro rfl rfl (gOn_none rfl) (RO.assign rfl rfl) ?_
         refine AO.nil ?_
         refine AW.ret ?_
         refine ⟨[], [.d (.lit (.bool false))], [], rfl, ⟨⟨_, rfl, .inl rfl⟩, rfl⟩, trivial, ?_⟩
         refine ⟨false, rfl, rfl, ?_⟩
         have hp : p = n := by omega
         have := spec_miss c1 g0.2 (by omega) (hp ▸ g2)
         first | rfl | (exfalso; simp_all; done) | (exfalso; omega) | (simp_all; omega)
   ·
    refine AO.ro rfl rfl (gOn_some 26 true rfl rfl rfl rfl) (RO.move rfl rfl) ?_
    refine AO.ro rfl rfl (gOn_some 29 false rfl rfl rfl rfl) (RO.move rfl rfl) ?_
    refine AO.split rfl rfl (gOn_some 29 false rfl rfl rfl rfl) (RO.gtr rfl rfl rfl) (fun t24 => ?_) (fun t24 => ?_)
    ·
     refine AO.ro rfl rfl (gOn_some 26 true rfl rfl rfl rfl) (RO.pick_f rfl rfl rfl) ?_
     refine AO.ro rfl rfl (gOn_none rfl) (RO.pick_t rfl rfl rfl) ?_
     refine AO.nil ?_
     refine AW.cond_t rfl ?_
     refine AW.region [0] rfl ?_
     refine AO.ro rfl rfl (gOn_none rfl) (RO.assign rfl rfl) ?_
     refine AO.nil ?_
     refine AW.seq ?_
     refine AW.seq ?_
     refine AW.region [0, 0] rfl ?_
     refine AO.ro rfl rfl (gOn_none rfl) (RO.move rfl rfl) ?_
     refine AO.splitn rfl rfl (gOn_none rfl) (RO.neq rfl rfl rfl) (fun t25 => ?_) (fun t25 => ?_)
     ·
      refine AO.nil ?_
      refine AW.cond_t rfl ?_
      refine AW.seq ?_
      refine AW.region [0, 0, 0, 0, 0, 0, 0, 0, 0, 0, 0, 0, 0, 0, 0, 0] rfl ?_
      refine AO.ro rfl rfl (gOn_none rfl) (RO.move rfl rfl) ?_
      refine AO.ro rfl rfl (gOn_none rfl) (RO.move rfl rfl) ?_
      refine AO.split rfl rfl (gOn_none rfl) (RO.eql rfl rfl rfl) (fun t26 => ?_) (fun t26 => ?_)
      ·
       refine AO.ro rfl rfl (gOn_none rfl) (RO.move rfl rfl) ?_
       refine AO.ro rfl rfl (gOn_some 39 true rfl rfl rfl rfl) (RO.move rfl rfl) ?_
       refine AO.caseb 40 rfl (fun b27 => ?_) (fun b27 => ?_)
       ·
        refine AO.ro rfl rfl (gOn_some 39 true rfl rfl rfl rfl) (RO.not rfl rfl) ?_
        refine AO.ro rfl rfl (gOn_none rfl) (RO.pick_t rfl rfl rfl) ?_
        refine AO.ro rfl rfl (gOn_none rfl) (RO.move rfl rfl) ?_
        refine AO.skip rfl rfl (gOn_some 43 false rfl rfl rfl rfl) ?_
        refine AO.skip rfl rfl (gOn_some 43 false rfl rfl rfl rfl) ?_
        refine AO.ro rfl rfl (gOn_none rfl) (RO.pick_f rfl rfl rfl) ?_
        refine AO.ro rfl rfl (gOn_none rfl) (RO.move rfl rfl) ?_
        refine AO.skip rfl rfl (gOn_some 47 false rfl rfl rfl rfl) ?_
        refine AO.skip rfl rfl (gOn_some 47 false rfl rfl rfl rfl) ?_
        refine AO.ro rfl rfl (gOn_none rfl) (RO.pick_f rfl rfl rfl) ?_
        refine AO.ro rfl rfl (gOn_none rfl) (RO.assign rfl rfl) ?_
        refine AO.nil ?_
        refine AW.ret ?_
        refine ⟨[], [.d (.lit (.bool false))], [], rfl, ⟨⟨_, rfl, .inl rfl⟩, rfl⟩, trivial, ?_⟩
        refine ⟨false, rfl, rfl, ?_⟩
        first
        | (have := spec_no c1 (sqE_n (by omega) (by omega)) (by omega)
           first | rfl | (exfalso; simp_all; done) | (exfalso; omega))
        | (have := spec_no c1 (sqE_mor (by omega)) (by omega)
           first | rfl | (exfalso; simp_all; done) | (exfalso; omega) | (simp_all; omega))
       ·
        refine AO.ro rfl rfl (gOn_some 39 true rfl rfl rfl rfl) (RO.not rfl rfl) ?_
        refine AO.ro rfl rfl (gOn_none rfl) (RO.pick_t rfl rfl rfl) ?_
        refine AO.ro rfl rfl (gOn_none rfl) (RO.move rfl rfl) ?_
        refine AO.ro rfl rfl (gOn_some 43 true rfl rfl rfl rfl) (RO.move rfl rfl) ?_
        refine AO.split rfl rfl (gOn_some 43 true rfl rfl rfl rfl) (RO.eql rfl rfl rfl) (fun t28 => ?_) (fun t28 => ?_)
        ·
         refine AO.ro rfl rfl (gOn_none rfl) (RO.pick_t rfl rfl rfl) ?_
         refine AO.ro rfl rfl (gOn_none rfl) (RO.move rfl rfl) ?_
         refine AO.ro rfl rfl (gOn_some 47 true rfl rfl rfl rfl) (RO.move rfl rfl) ?_
         refine AO.split rfl rfl (gOn_some 47 true rfl rfl rfl rfl) (RO.eql rfl rfl rfl) (fun t29 => ?_) (fun t29 => ?_)
         ·
          refine AO.ro rfl rfl (gOn_none rfl) (RO.pick_t rfl rfl rfl) ?_
          refine AO.ro rfl rfl (gOn_none rfl) (RO.assign rfl rfl) ?_
          refine AO.nil ?_
          refine AW.ret ?_
          refine ⟨[], [.d (.lit (.bool true))], [], rfl, ⟨⟨_, rfl, .inl rfl⟩, rfl⟩, trivial, ?_⟩
          refine ⟨true, rfl, rfl, ?_⟩
          first
          | (have := spec_no c1 (sqE_n (by omega) (by omega)) (by omega)
             first | rfl | (exfalso; simp_all; done) | (exfalso; omega))
          | (have := spec_no c1 (sqE_mor (by omega)) (by omega)
             first | rfl | (exfalso; simp_all; done) | (exfalso; omega) | (simp_all; omega))
         ·
          refine AO.ro rfl rfl (gOn_none rfl) (RO.pick_t rfl rfl rfl) ?_
          refine AO.ro rfl rfl (gOn_none rfl) (RO.assign rfl rfl) ?_
          refine AO.nil ?_
          refine AW.ret ?_
          refine ⟨[], [.d (.lit (.bool false))], [], rfl, ⟨⟨_, rfl, .inl rfl⟩, rfl⟩, trivial, ?_⟩
          refine ⟨false, rfl, rfl, ?_⟩
          first
          | (have := spec_no c1 (sqE_n (by omega) (by omega)) (by omega)
             first | rfl | (exfalso; simp_all; done) | (exfalso; omega))
          | (have := spec_no c1 (sqE_mor (by omega)) (by omega)
             first | rfl | (exfalso; simp_all; done) | (exfalso; omega) | (simp_all; omega))
        ·
         refine AO.ro rfl rfl (gOn_none rfl) (RO.pick_t rfl rfl rfl) ?_
         refine AO.ro rfl rfl (gOn_none rfl) (RO.move rfl rfl) ?_
         refine AO.skip rfl rfl (gOn_some 47 false rfl rfl rfl rfl) ?_
         refine AO.skip rfl rfl (gOn_some 47 false rfl rfl rfl rfl) ?_
         refine AO.ro rfl rfl (gOn_none rfl) (RO.pick_f rfl rfl rfl) ?_
         refine AO.ro rfl rfl (gOn_none rfl) (RO.assign rfl rfl) ?_
         refine AO.nil ?_
         refine AW.ret ?_
         refine ⟨[], [.d (.lit (.bool false))], [], rfl, ⟨⟨_, rfl, .inl rfl⟩, rfl⟩, trivial, ?_⟩
         refine ⟨false, rfl, rfl, ?_⟩
         first
         | (have := spec_no c1 (sqE_n (by omega) (by omega)) (by omega)
            first | rfl | (exfalso; simp_all; done) | (exfalso; omega))
         | (have := spec_no c1 (sqE_mor (by omega)) (by omega)
            first | rfl | (exfalso; simp_all; done) | (exfalso; omega) | (simp_all; omega))
      ·
       refine AO.ro rfl rfl (gOn_none rfl) (RO.move rfl rfl) ?_
       refine AO.skip rfl rfl (gOn_some 39 false rfl rfl rfl rfl) ?_
       refine AO.skip rfl rfl (gOn_some 39 false rfl rfl rfl rfl) ?_
       refine AO.ro rfl rfl (gOn_none rfl) (RO.pick_f rfl rfl rfl) ?_
       refine AO.ro rfl rfl (gOn_none rfl) (RO.move rfl rfl) ?_
       refine AO.skip rfl rfl (gOn_some 43 false rfl rfl rfl rfl) ?_
       refine AO.skip rfl rfl (gOn_some 43 false rfl rfl rfl rfl) ?_
       refine AO.ro rfl rfl (gOn_none rfl) (RO.pick_f rfl rfl rfl) ?_
       refine AO.ro rfl rfl (gOn_none rfl) (RO.move rfl rfl) ?_
       refine AO.skip rfl rfl (gOn_some 47 false rfl rfl rfl rfl) ?_
       refine AO.skip rfl rfl (gOn_some 47 false rfl rfl rfl rfl) ?_
       refine AO.ro rfl rfl (gOn_none rfl) (RO.pick_f rfl rfl rfl) ?_
       refine AO.ro rfl rfl (gOn_none rfl) (RO.assign rfl rfl) ?_
       refine AO.nil ?_
       refine AW.ret ?_
       refine ⟨[], [.d (.lit (.bool false))], [], rfl, ⟨⟨_, rfl, .inl rfl⟩, rfl⟩, trivial, ?_⟩
       refine ⟨false, rfl, rfl, ?_⟩
       first
       | (have := spec_no c1 (sqE_n (by omega) (by omega)) (by omega)
          first | rfl | (exfalso; simp_all; done) | (exfalso; omega))
       | (have := spec_no c1 (sqE_mor (by omega)) (by omega)
          first | rfl | (exfalso; simp_all; done) | (exfalso; omega) | (simp_all; omega))
     ·
      refine AO.nil ?_
      refine AW.cond_f rfl ?_
      refine AW.skip ?_
      refine AW.seq ?_
      refine AW.region [0, 0, 1, 0] rfl ?_
      refine AO.ro rfl rfl (gOn_none rfl) (RO.ld_ptr_d (y := enc (m : Morph)) rfl ti47 rfl rfl rfl rfl rfl) ?_
      refine AO.ro rfl rfl (gOn_none rfl) (RO.move rfl rfl) ?_
      refine AO.callA («as» := [.d (enc (m : Morph)), .d (.lit (.int .i64 n))]) (gOn_none rfl) rfl rfl rfl rfl Try.call49 ⟨⟨_, rfl, rfl⟩, ⟨_, rfl, rfl⟩, rfl⟩ (row_ok m n (mor_of (by omega)) (by omega)) ?_
      rintro _ _ ⟨y30, rfl, rfl, c30⟩
      refine ⟨[], 1, .d (enc (y30 : (List Int))), [], rfl, trivial, rfl, ?_⟩
      have hw := congrArg List.length c30; rw [rowN_len] at hw
      refine AO.ro rfl rfl (gOn_none rfl) (RO.assign rfl rfl) ?_
      refine AO.nil ?_
      refine AW.seq ?_
      refine AW.seq ?_
      refine AW.region [0] rfl ?_
      refine AO.ro rfl rfl (gOn_none rfl) (RO.assign rfl rfl) ?_
      refine AO.nil ?_
      refine AW.block ?_
      refine AW.loop (mp := []) (X := Int) (fun xv => ⟨113, 1, [(1, .d (.lit (.int .i64 n))), (4, .d (.lit (.bool false))), (5, .d (.lit (.int .i64 at'1))), (6, .d (.lit (.int .i64 half1))), (7, .d (.lit (.bool is1))), (8, .d (.lit (.int .i64 e1))), (10, .d (enc (y30 : (List Int)))), (11, .d (.lit (.int .i64 xv)))], []⟩) (fun xv => (0 ≤ xv ∧ xv ≤ n) ∧ (NoSq (rowN m n.toNat) n xv 1) ∧ (n ≤ 400 ∧ morE m = 0)) (fun xv => (n - xv).toNat) 0 ?_ ⟨rfl, rfl, ⟨⟨_, rfl, .inl rfl⟩, ⟨⟨_, rfl, .inl rfl⟩, ⟨⟨_, rfl, .inl rfl⟩, ⟨⟨_, rfl, .inl rfl⟩, ⟨⟨_, rfl, .inl rfl⟩, ⟨⟨_, rfl, .inl rfl⟩, ⟨⟨_, rfl, .inl rfl⟩, ⟨⟨_, rfl, .inl rfl⟩, trivial⟩⟩⟩⟩⟩⟩⟩⟩, trivial⟩ ?_
      · try dsimp only
        exact ⟨by omega, nosq_start, by omega, by omega⟩
      · skip
        intro p hx
        replace hx : (0 ≤ p ∧ p ≤ n) ∧ (NoSq (rowN m n.toNat) n p 1) ∧ (n ≤ 400 ∧ morE m = 0) := hx
        obtain ⟨g1, g2, g0⟩ := hx
        refine (show AW _ _ _ (⟨113, 1, [(1, .d (.lit (.int .i64 n))), (4, .d (.lit (.bool false))), (5, .d (.lit (.int .i64 at'1))), (6, .d (.lit (.int .i64 half1))), (7, .d (.lit (.bool is1))), (8, .d (.lit (.int .i64 e1))), (10, .d (enc (y30 : (List Int)))), (11, .d (.lit (.int .i64 p)))], []⟩ : St) _ from ?_)
        have g4 := @rowN_len m n.toNat
        refine AW.seq ?_
        refine AW.seq ?_
        refine AW.region [0, 0, 0] rfl ?_
        refine AO.ro rfl rfl (gOn_none rfl) (RO.move rfl rfl) ?_
        refine AO.ro rfl rfl (gOn_none rfl) (RO.move rfl rfl) ?_
        refine AO.split rfl rfl (gOn_none rfl) (RO.lss rfl rfl rfl) (fun t31 => ?_) (fun t31 => ?_)
        ·
         refine AO.nil ?_
         refine AW.cond_t rfl ?_
         refine AW.skip ?_
         refine AW.seq ?_
         refine AW.block ?_
         refine AW.seq ?_
         refine AW.region [0] rfl ?_
         refine AO.ro rfl rfl (gOn_none rfl) (RO.assign rfl rfl) ?_
         refine AO.nil ?_
         refine AW.block ?_
         refine AW.loop (mp := []) (X := Int) (fun xv => ⟨113, 1, [(1, .d (.lit (.int .i64 n))), (4, .d (.lit (.bool false))), (5, .d (.lit (.int .i64 at'1))), (6, .d (.lit (.int .i64 half1))), (7, .d (.lit (.bool is1))), (8, .d (.lit (.int .i64 e1))), (10, .d (enc (y30 : (List Int)))), (11, .d (.lit (.int .i64 p))), (12, .d (.lit (.int .i64 xv)))], []⟩) (fun xv => (1 ≤ xv ∧ xv ≤ 1000) ∧ (NoSq (rowN m n.toNat) n p xv)) (fun xv => (n + 1 - xv).toNat) 1 ?_ ⟨rfl, rfl, ⟨⟨_, rfl, .inl rfl⟩, ⟨⟨_, rfl, .inl rfl⟩, ⟨⟨_, rfl, .inl rfl⟩, ⟨⟨_, rfl, .inl rfl⟩, ⟨⟨_, rfl, .inl rfl⟩, ⟨⟨_, rfl, .inl rfl⟩, ⟨⟨_, rfl, .inl rfl⟩, ⟨⟨_, rfl, .inl rfl⟩, ⟨⟨_, rfl, .inl rfl⟩, trivial⟩⟩⟩⟩⟩⟩⟩⟩⟩, trivial⟩ ?_
         · try dsimp only
           exact ⟨by omega, g2⟩
         · skip
           intro h hx
           replace hx : (1 ≤ h ∧ h ≤ 1000) ∧ (NoSq (rowN m n.toNat) n p h) := hx
           obtain ⟨k1, k2⟩ := hx
           refine (show AW _ _ _ (⟨113, 1, [(1, .d (.lit (.int .i64 n))), (4, .d (.lit (.bool false))), (5, .d (.lit (.int .i64 at'1))), (6, .d (.lit (.int .i64 half1))), (7, .d (.lit (.bool is1))), (8, .d (.lit (.int .i64 e1))), (10, .d (enc (y30 : (List Int)))), (11, .d (.lit (.int .i64 p))), (12, .d (.lit (.int .i64 h)))], []⟩ : St) _ from ?_)
           refine AW.seq ?_
           refine AW.seq ?_
           refine AW.region [0, 0, 0, 0, 0, 0] rfl ?_
           refine AO.ro rfl rfl (gOn_none rfl) (RO.move rfl rfl) ?_
           refine AO.ro rfl rfl (gOn_none rfl) (RO.move rfl rfl) ?_
           refine AO.ro rfl rfl (gOn_none rfl) (RO.mul rfl rfl rfl (by omega)) ?_
           refine AO.ro rfl rfl (gOn_none rfl) (RO.add rfl rfl rfl (by omega)) ?_
           refine AO.ro rfl rfl (gOn_none rfl) (RO.move rfl rfl) ?_
           refine AO.split rfl rfl (gOn_none rfl) (RO.leq rfl rfl rfl) (fun t32 => ?_) (fun t32 => ?_)
           ·
            refine AO.nil ?_
            refine AW.cond_t rfl ?_
            refine AW.skip ?_
            refine AW.seq ?_
            refine AW.block ?_
            refine AW.seq ?_
            refine AW.drawn [(0, 0), (0, 1), (0, 2), (0, 3), (0, 4), (0, 5), (0, 6), (0, 7), (0, 8), (0, 9), (0, 10), (0, 11), (0, 12), (0, 13), (0, 14), (1, 15), (0, 16)] (by kernel_rfl) (by kernel_rfl) ?_
            refine AO.ro rfl rfl (gOn_none rfl) (RO.move rfl rfl) ?_
            refine AO.ro rfl rfl (gOn_none rfl) (RO.move rfl rfl) ?_
            refine AO.ro rfl rfl (gOn_none rfl) (RO.move rfl rfl) ?_
            refine AO.ro rfl rfl (gOn_none rfl) (RO.move rfl rfl) ?_
            refine AO.ro rfl rfl (gOn_none rfl) (RO.add rfl rfl rfl (by omega)) ?_
            refine AO.fact 67 rfl (fun ln33 => ?_)
            replace ln33 : y30.length * 8 ≤ 140737488355328 := ln33
            refine AO.ro rfl rfl (gOn_none rfl) (RO.sl_lh rfl Try.underlying26 ti3 rfl rfl rfl (by omega)) ?_
            refine AO.ro rfl rfl (gOn_none rfl) (RO.move rfl rfl) ?_
            refine AO.ro rfl rfl (gOn_none rfl) (RO.move rfl rfl) ?_
            refine AO.ro rfl rfl (gOn_none rfl) (RO.move rfl rfl) ?_
            refine AO.ro rfl rfl (gOn_none rfl) (RO.add rfl rfl rfl (by omega)) ?_
            refine AO.ro rfl rfl (gOn_none rfl) (RO.move rfl rfl) ?_
            refine AO.ro rfl rfl (gOn_none rfl) (RO.move rfl rfl) ?_
            refine AO.ro rfl rfl (gOn_none rfl) (RO.mul rfl rfl rfl (by omega)) ?_
            refine AO.ro rfl rfl (gOn_none rfl) (RO.add rfl rfl rfl (by omega)) ?_
            refine AO.ro rfl rfl (gOn_none rfl) (RO.sl_lh rfl Try.underlying26 ti3 rfl rfl rfl (by omega)) ?_
            refine AO.callA («as» := [.d (enc (cut y30 p (p + h) : (List Int))), .d (enc (cut y30 (p + h) (p + (2 * h)) : (List Int)))]) (gOn_none rfl) rfl rfl rfl rfl Try.call16 ⟨⟨_, rfl, rfl⟩, ⟨_, rfl, rfl⟩, rfl⟩ (words_ok (cut y30 p (p + h)) (cut y30 (p + h) (p + (2 * h)))) ?_
            rintro _ _ ⟨y34, rfl, rfl, c34⟩
            refine ⟨[], 1, .d (.lit (.bool y34)), [], rfl, trivial, rfl, ?_⟩
            refine AO.ro rfl rfl (gOn_none rfl) (RO.assign rfl rfl) ?_
            refine AO.nil ?_
            refine AW.seq ?_
            refine AW.region [0] rfl ?_
            refine AO.ro rfl rfl (gOn_none rfl) (RO.move rfl rfl) ?_
            refine AO.nil ?_
            refine AW.caseb 83 rfl (fun b35 => ?_) (fun b35 => ?_)
            ·
             first | replace b35 := of_decide_eq_true (c34.symm.trans b35) | (replace b35 := List.any_eq_true.1 (c34.symm.trans b35); simp only [decide_eq_true_eq] at b35) | skip
             refine AW.cond_t rfl ?_
             refine AW.seq ?_
             refine AW.region [0, 0, 0, 0, 0, 0, 0, 0, 0, 0, 0, 0, 0, 0, 0, 0] rfl ?_
             refine AO.ro rfl rfl (gOn_none rfl) (RO.move rfl rfl) ?_
             refine AO.split rfl rfl (gOn_none rfl) (RO.eql rfl rfl rfl) (fun t36 => ?_) (fun t36 => ?_)
             ·
              refine AO.ro rfl rfl (gOn_none rfl) (RO.move rfl rfl) ?_
              refine AO.ro rfl rfl (gOn_some 86 true rfl rfl rfl rfl) (RO.move rfl rfl) ?_
              refine AO.ro rfl rfl (gOn_none rfl) (RO.pick_t rfl rfl rfl) ?_
              refine AO.ro rfl rfl (gOn_none rfl) (RO.move rfl rfl) ?_
              refine AO.caseb 89 rfl (fun b37 => ?_) (fun b37 => ?_)
              ·
               refine AO.ro rfl rfl (gOn_some 89 true rfl rfl rfl rfl) (RO.move rfl rfl) ?_
               refine AO.ro rfl rfl (gOn_some 89 true rfl rfl rfl rfl) (RO.move rfl rfl) ?_
               refine AO.split rfl rfl (gOn_some 89 true rfl rfl rfl rfl) (RO.eql rfl rfl rfl) (fun t38 => ?_) (fun t38 => ?_)
               ·
                refine AO.ro rfl rfl (gOn_none rfl) (RO.pick_t rfl rfl rfl) ?_
                refine AO.ro rfl rfl (gOn_none rfl) (RO.move rfl rfl) ?_
                refine AO.ro rfl rfl (gOn_some 94 true rfl rfl rfl rfl) (RO.move rfl rfl) ?_
                refine AO.ro rfl rfl (gOn_some 94 true rfl rfl rfl rfl) (RO.move rfl rfl) ?_
                refine AO.split rfl rfl (gOn_some 94 true rfl rfl rfl rfl) (RO.eql rfl rfl rfl) (fun t39 => ?_) (fun t39 => ?_)
                ·
                 refine AO.ro rfl rfl (gOn_none rfl) (RO.pick_t rfl rfl rfl) ?_
                 refine AO.ro rfl rfl (gOn_none rfl) (RO.assign rfl rfl) ?_
                 refine AO.nil ?_
                 refine AW.ret ?_
                 refine ⟨[], [.d (.lit (.bool true))], [], rfl, ⟨⟨_, rfl, .inl rfl⟩, rfl⟩, trivial, ?_⟩
                 refine ⟨true, rfl, rfl, ?_⟩
                 have hs : sqAt (rowN m n.toNat) p h := by rw [← ‹_ = rowN m n.toNat›]; assumption
                 have := spec_hit c1 g0.2 (by omega) (by omega) hs k2
                 first | rfl | (exfalso; simp_all; done) | (exfalso; omega) | (simp_all; omega)
                ·
                 refine AO.ro rfl rfl (gOn_none rfl) (RO.pick_t rfl rfl rfl) ?_
                 refine AO.ro rfl rfl (gOn_none rfl) (RO.assign rfl rfl) ?_
                 refine AO.nil ?_
                 refine AW.ret ?_
                 refine ⟨[], [.d (.lit (.bool false))], [], rfl, ⟨⟨_, rfl, .inl rfl⟩, rfl⟩, trivial, ?_⟩
                 refine ⟨false, rfl, rfl, ?_⟩
                 have hs : sqAt (rowN m n.toNat) p h := by rw [← ‹_ = rowN m n.toNat›]; assumption
                 have := spec_hit c1 g0.2 (by omega) (by omega) hs k2
                 first | rfl | (exfalso; simp_all; done) | (exfalso; omega) | (simp_all; omega)
               ·
                refine AO.ro rfl rfl (gOn_none rfl) (RO.pick_t rfl rfl rfl) ?_
                refine AO.ro rfl rfl (gOn_none rfl) (RO.move rfl rfl) ?_
                refine AO.skip rfl rfl (gOn_some 94 false rfl rfl rfl rfl) ?_
                refine AO.skip rfl rfl (gOn_some 94 false rfl rfl rfl rfl) ?_
                refine AO.skip rfl rfl (gOn_some 94 false rfl rfl rfl rfl) ?_
                refine AO.ro rfl rfl (gOn_none rfl) (RO.pick_f rfl rfl rfl) ?_
                refine AO.ro rfl rfl (gOn_none rfl) (RO.assign rfl rfl) ?_
                refine AO.nil ?_
                refine AW.ret ?_
                refine ⟨[], [.d (.lit (.bool false))], [], rfl, ⟨⟨_, rfl, .inl rfl⟩, rfl⟩, trivial, ?_⟩
                refine ⟨false, rfl, rfl, ?_⟩
                have hs : sqAt (rowN m n.toNat) p h := by rw [← ‹_ = rowN m n.toNat›]; assumption
                have := spec_hit c1 g0.2 (by omega) (by omega) hs k2
                first | rfl | (exfalso; simp_all; done) | (exfalso; omega) | (simp_all; omega)
              ·
               refine AO.skip rfl rfl (gOn_some 89 false rfl rfl rfl rfl) ?_
               refine AO.skip rfl rfl (gOn_some 89 false rfl rfl rfl rfl) ?_
               refine AO.skip rfl rfl (gOn_some 89 false rfl rfl rfl rfl) ?_
               refine AO.ro rfl rfl (gOn_none rfl) (RO.pick_f rfl rfl rfl) ?_
               refine AO.ro rfl rfl (gOn_none rfl) (RO.move rfl rfl) ?_
               refine AO.skip rfl rfl (gOn_some 94 false rfl rfl rfl rfl) ?_
               refine AO.skip rfl rfl (gOn_some 94 false rfl rfl rfl rfl) ?_
               refine AO.skip rfl rfl (gOn_some 94 false rfl rfl rfl rfl) ?_
               refine AO.ro rfl rfl (gOn_none rfl) (RO.pick_f rfl rfl rfl) ?_
               refine AO.ro rfl rfl (gOn_none rfl) (RO.assign rfl rfl) ?_
               refine AO.nil ?_
               refine AW.ret ?_
               refine ⟨[], [.d (.lit (.bool false))], [], rfl, ⟨⟨_, rfl, .inl rfl⟩, rfl⟩, trivial, ?_⟩
               refine ⟨false, rfl, rfl, ?_⟩
               have hs : sqAt (rowN m n.toNat) p h := by rw [← ‹_ = rowN m n.toNat›]; assumption
               have := spec_hit c1 g0.2 (by omega) (by omega) hs k2
               first | rfl | (exfalso; simp_all; done) | (exfalso; omega) | (simp_all; omega)
             ·
              refine AO.ro rfl rfl (gOn_none rfl) (RO.move rfl rfl) ?_
              refine AO.skip rfl rfl (gOn_some 86 false rfl rfl rfl rfl) ?_
              refine AO.ro rfl rfl (gOn_none rfl) (RO.pick_f rfl rfl rfl) ?_
              refine AO.ro rfl rfl (gOn_none rfl) (RO.move rfl rfl) ?_
              refine AO.skip rfl rfl (gOn_some 89 false rfl rfl rfl rfl) ?_
              refine AO.skip rfl rfl (gOn_some 89 false rfl rfl rfl rfl) ?_
              refine AO.skip rfl rfl (gOn_some 89 false rfl rfl rfl rfl) ?_
              refine AO.ro rfl rfl (gOn_none rfl) (RO.pick_f rfl rfl rfl) ?_
              refine AO.ro rfl rfl (gOn_none rfl) (RO.move rfl rfl) ?_
              refine AO.skip rfl rfl (gOn_some 94 false rfl rfl rfl rfl) ?_
              refine AO.skip rfl rfl (gOn_some 94 false rfl rfl rfl rfl) ?_
              refine AO.skip rfl rfl (gOn_some 94 false rfl rfl rfl rfl) ?_
              refine AO.ro rfl rfl (gOn_none rfl) (RO.pick_f rfl rfl rfl) ?_
              refine AO.ro rfl rfl (gOn_none rfl) (RO.assign rfl rfl) ?_
              refine AO.nil ?_
              refine AW.ret ?_
              refine ⟨[], [.d (.lit (.bool false))], [], rfl, ⟨⟨_, rfl, .inl rfl⟩, rfl⟩, trivial, ?_⟩
              refine ⟨false, rfl, rfl, ?_⟩
              have hs : sqAt (rowN m n.toNat) p h := by rw [← ‹_ = rowN m n.toNat›]; assumption
              have := spec_hit c1 g0.2 (by omega) (by omega) hs k2
              first | rfl | (exfalso; simp_all; done) | (exfalso; omega) | (simp_all; omega)
            ·
             first | replace b35 := of_decide_eq_false (c34.symm.trans b35) | (replace b35 := List.any_eq_false.1 (c34.symm.trans b35); simp only [decide_eq_true_eq] at b35) | skip
             refine AW.cond_f rfl ?_
             refine AW.skip ?_
             refine AW.region [0, 0, 0] rfl ?_
             refine AO.ro rfl rfl (gOn_none rfl) (RO.move rfl rfl) ?_
             refine AO.ro rfl rfl (gOn_none rfl) (RO.add rfl rfl rfl (by omega)) ?_
             refine AO.ro rfl rfl (gOn_none rfl) (RO.assign rfl rfl) ?_
             refine AO.nil ?_
             refine ⟨h + 1, [], ?_, ?_, ⟨rfl, rfl, ⟨⟨_, rfl, .inl rfl⟩, ⟨⟨_, rfl, .inl rfl⟩, ⟨⟨_, rfl, .inl rfl⟩, ⟨⟨_, rfl, .inl rfl⟩, ⟨⟨_, rfl, .inl rfl⟩, ⟨⟨_, rfl, .inl rfl⟩, ⟨⟨_, rfl, .inl rfl⟩, ⟨⟨_, rfl, .inl rfl⟩, ⟨⟨_, rfl, .inl rfl⟩, trivial⟩⟩⟩⟩⟩⟩⟩⟩⟩, trivial⟩⟩
             · try dsimp only
               exact ⟨by omega, nosq_step k2 (by rw [← ‹_ = rowN m n.toNat›]; assumption)⟩
             · try dsimp only
               first | omega | (simp; done) | (simp_all; done) | (simp_all; omega)
           ·
            refine AO.nil ?_
            refine AW.cond_f rfl ?_
            refine AW.exit ?_
            refine AW.region [0, 0, 0] rfl ?_
            refine AO.ro rfl rfl (gOn_none rfl) (RO.move rfl rfl) ?_
            refine AO.ro rfl rfl (gOn_none rfl) (RO.add rfl rfl rfl (by omega)) ?_
            refine AO.ro rfl rfl (gOn_none rfl) (RO.assign rfl rfl) ?_
            refine AO.nil ?_
            refine ⟨p + 1, [], ?_, ?_, ⟨rfl, rfl, ⟨⟨_, rfl, .inl rfl⟩, ⟨⟨_, rfl, .inl rfl⟩, ⟨⟨_, rfl, .inl rfl⟩, ⟨⟨_, rfl, .inl rfl⟩, ⟨⟨_, rfl, .inl rfl⟩, ⟨⟨_, rfl, .inl rfl⟩, ⟨⟨_, rfl, .inl rfl⟩, ⟨⟨_, rfl, .inl rfl⟩, trivial⟩⟩⟩⟩⟩⟩⟩⟩, trivial⟩⟩
            · try dsimp only
              exact ⟨by omega, nosq_next k2 (by omega), g0⟩
            · try dsimp only
              first | omega | (simp; done) | (simp_all; done) | (simp_all; omega)
        ·
         refine AO.nil ?_
         refine AW.cond_f rfl ?_
         refine AW.exit ?_
         refine AW.seq ?_
         refine AW.region [0, 0, 0, 0, 0, 0, 0, 0, 0, 0, 0, 0, 0, 0, 0] rfl ?_
         refine AO.ro rfl rfl (gOn_none rfl) (RO.move rfl rfl) ?_
         refine AO.split rfl rfl (gOn_none rfl) (RO.eql rfl rfl rfl) (fun t40 => ?_) (fun t40 => ?_)
         ·
          refine AO.ro rfl rfl (gOn_none rfl) (RO.move rfl rfl) ?_
          refine AO.ro rfl rfl (gOn_some 101 true rfl rfl rfl rfl) (RO.move rfl rfl) ?_
          refine AO.caseb 102 rfl (fun b41 => ?_) (fun b41 => ?_)
          ·
           refine AO.ro rfl rfl (gOn_some 101 true rfl rfl rfl rfl) (RO.not rfl rfl) ?_
           refine AO.ro rfl rfl (gOn_none rfl) (RO.pick_t rfl rfl rfl) ?_
           refine AO.ro rfl rfl (gOn_none rfl) (RO.move rfl rfl) ?_
           refine AO.skip rfl rfl (gOn_some 105 false rfl rfl rfl rfl) ?_
           refine AO.skip rfl rfl (gOn_some 105 false rfl rfl rfl rfl) ?_
           refine AO.ro rfl rfl (gOn_none rfl) (RO.pick_f rfl rfl rfl) ?_
           refine AO.ro rfl rfl (gOn_none rfl) (RO.move rfl rfl) ?_
           refine AO.skip rfl rfl (gOn_some 109 false rfl rfl rfl rfl) ?_
           refine AO.skip rfl rfl (gOn_some 109 false rfl rfl rfl rfl) ?_
           refine AO.ro rfl rfl (gOn_none rfl) (RO.pick_f rfl rfl rfl) ?_
           refine AO.ro rfl rfl (gOn_none rfl) (RO.assign rfl rfl) ?_
           refine AO.nil ?_
           refine AW.ret ?_
           refine ⟨[], [.d (.lit (.bool false))], [], rfl, ⟨⟨_, rfl, .inl rfl⟩, rfl⟩, trivial, ?_⟩
           refine ⟨false, rfl, rfl, ?_⟩
           have hp : p = n := by omega
           have := spec_miss c1 g0.2 (by omega) (hp ▸ g2)
           first | rfl | (exfalso; simp_all; done) | (exfalso; omega) | (simp_all; omega)
          ·
           refine AO.ro rfl rfl (gOn_some 101 true rfl rfl rfl rfl) (RO.not rfl rfl) ?_
           refine AO.ro rfl rfl (gOn_none rfl) (RO.pick_t rfl rfl rfl) ?_
           refine AO.ro rfl rfl (gOn_none rfl) (RO.move rfl rfl) ?_
           refine AO.ro rfl rfl (gOn_some 105 true rfl rfl rfl rfl) (RO.move rfl rfl) ?_
           refine AO.split rfl rfl (gOn_some 105 true rfl rfl rfl rfl) (RO.eql rfl rfl rfl) (fun t42 => ?_) (fun t42 => ?_)
           ·
            refine AO.ro rfl rfl (gOn_none rfl) (RO.pick_t rfl rfl rfl) ?_
            refine AO.ro rfl rfl (gOn_none rfl) (RO.move rfl rfl) ?_
            refine AO.ro rfl rfl (gOn_some 109 true rfl rfl rfl rfl) (RO.move rfl rfl) ?_
            refine AO.split rfl rfl (gOn_some 109 true rfl rfl rfl rfl) (RO.eql rfl rfl rfl) (fun t43 => ?_) (fun t43 => ?_)
            ·
             refine AO.ro rfl rfl (gOn_none rfl) (RO.pick_t rfl rfl rfl) ?_
             refine AO.ro rfl rfl (gOn_none rfl) (RO.assign rfl rfl) ?_
             refine AO.nil ?_
             refine AW.ret ?_
             refine ⟨[], [.d (.lit (.bool true))], [], rfl, ⟨⟨_, rfl, .inl rfl⟩, rfl⟩, trivial, ?_⟩
             refine ⟨true, rfl, rfl, ?_⟩
             have hp : p = n := by omega
             have := spec_miss c1 g0.2 (by omega) (hp ▸ g2)
             first | rfl | (exfalso; simp_all; done) | (exfalso; omega) | (simp_all; omega)
            ·
             refine AO.ro rfl rfl (gOn_none rfl) (RO.pick_t rfl rfl rfl) ?_
             refine AO.ro rfl rfl (gOn_none rfl) (RO.assign rfl rfl) ?_
             refine AO.nil ?_
             refine AW.ret ?_
             refine ⟨[], [.d (.lit (.bool false))], [], rfl, ⟨⟨_, rfl, .inl rfl⟩, rfl⟩, trivial, ?_⟩
             refine ⟨false, rfl, rfl, ?_⟩
             have hp : p = n := by omega
             have := spec_miss c1 g0.2 (by omega) (hp ▸ g2)
             first | rfl | (exfalso; simp_all; done) | (exfalso; omega) | (simp_all; omega)
           ·
            refine AO.ro rfl rfl (gOn_none rfl) (RO.pick_t rfl rfl rfl) ?_
            refine AO.ro rfl rfl (gOn_none rfl) (RO.move rfl rfl) ?_
            refine AO.skip rfl rfl (gOn_some 109 false rfl rfl rfl rfl) ?_
            refine AO.skip rfl rfl (gOn_some 109 false rfl rfl rfl rfl) ?_
            refine AO.ro rfl rfl (gOn_none rfl) (RO.pick_f rfl rfl rfl) ?_
            refine AO.ro rfl rfl (gOn_none rfl) (RO.assign rfl rfl) ?_
            refine AO.nil ?_
            refine AW.ret ?_
            refine ⟨[], [.d (.lit (.bool false))], [], rfl, ⟨⟨_, rfl, .inl rfl⟩, rfl⟩, trivial, ?_⟩
            refine ⟨false, rfl, rfl, ?_⟩
            have hp : p = n := by omega
            have := spec_miss c1 g0.2 (by omega) (hp ▸ g2)
            first | rfl | (exfalso; simp_all; done) | (exfalso; omega) | (simp_all; omega)
         ·
          refine AO.ro rfl rfl (gOn_none rfl) (RO.move rfl rfl) ?_
          refine AO.skip rfl rfl (gOn_some 101 false rfl rfl rfl rfl) ?_
          refine AO.skip rfl rfl (gOn_some 101 false rfl rfl rfl rfl) ?_
          refine AO.ro rfl rfl (gOn_none rfl) (RO.pick_f rfl rfl rfl) ?_
          refine AO.ro rfl rfl (gOn_none rfl) (RO.move rfl rfl) ?_
          refine AO.skip rfl rfl (gOn_some 105 false rfl rfl rfl rfl) ?_
          refine AO.skip rfl rfl (gOn_some 105 false rfl rfl rfl rfl) ?_
          refine AO.ro rfl rfl (gOn_none rfl) (RO.pick_f rfl rfl rfl) ?_
          refine AO.ro rfl rfl (gOn_none rfl) (RO.move rfl rfl) ?_
          refine AO.skip rfl rfl (gOn_some 109 false rfl rfl rfl rfl) ?_
          refine AO.skip rfl rfl (gOn_some 109 false rfl rfl rfl rfl) ?_
          refine AO.ro rfl rfl (gOn_none rfl) (RO.pick_f rfl rfl rfl) ?_
          refine AO.ro rfl rfl (gOn_none rfl) (RO.assign rfl rfl) ?_
          refine AO.nil ?_
          refine AW.ret ?_
          refine ⟨[], [.d (.lit (.bool false))], [], rfl, ⟨⟨_, rfl, .inl rfl⟩, rfl⟩, trivial, ?_⟩
          refine ⟨false, rfl, rfl, ?_⟩
          have hp : p = n := by omega
          have := spec_miss c1 g0.2 (by omega) (hp ▸ g2)
          first | rfl | (exfalso; simp_all; done) | (exfalso; omega) | (simp_all; omega)
    ·
     refine AO.ro rfl rfl (gOn_some 26 true rfl rfl rfl rfl) (RO.pick_f rfl rfl rfl) ?_
     refine AO.ro rfl rfl (gOn_none rfl) (RO.pick_t rfl rfl rfl) ?_
     refine AO.nil ?_
     refine AW.cond_f rfl ?_
     refine AW.skip ?_
     refine AW.seq ?_
     refine AW.seq ?_
     refine AW.region [0, 0] rfl ?_
     refine AO.ro rfl rfl (gOn_none rfl) (RO.move rfl rfl) ?_
     refine AO.splitn rfl rfl (gOn_none rfl) (RO.neq rfl rfl rfl) (fun t44 => ?_) (fun t44 => ?_)
     ·
      refine AO.nil ?_
      refine AW.cond_t rfl ?_
      refine AW.seq ?_
      refine AW.region [0, 0, 0, 0, 0, 0, 0, 0, 0, 0, 0, 0, 0, 0, 0, 0] rfl ?_
      refine AO.ro rfl rfl (gOn_none rfl) (RO.move rfl rfl) ?_
      refine AO.ro rfl rfl (gOn_none rfl) (RO.move rfl rfl) ?_
      refine AO.split rfl rfl (gOn_none rfl) (RO.eql rfl rfl rfl) (fun t45 => ?_) (fun t45 => ?_)
      ·
       refine AO.ro rfl rfl (gOn_none rfl) (RO.move rfl rfl) ?_
       refine AO.ro rfl rfl (gOn_some 39 true rfl rfl rfl rfl) (RO.move rfl rfl) ?_
       refine AO.caseb 40 rfl (fun b46 => ?_) (fun b46 => ?_)
       ·
        refine AO.ro rfl rfl (gOn_some 39 true rfl rfl rfl rfl) (RO.not rfl rfl) ?_
        refine AO.ro rfl rfl (gOn_none rfl) (RO.pick_t rfl rfl rfl) ?_
        refine AO.ro rfl rfl (gOn_none rfl) (RO.move rfl rfl) ?_
        refine AO.skip rfl rfl (gOn_some 43 false rfl rfl rfl rfl) ?_
        refine AO.skip rfl rfl (gOn_some 43 false rfl rfl rfl rfl) ?_
        refine AO.ro rfl rfl (gOn_none rfl) (RO.pick_f rfl rfl rfl) ?_
        refine AO.ro rfl rfl (gOn_none rfl) (RO.move rfl rfl) ?_
        refine AO.skip rfl rfl (gOn_some 47 false rfl rfl rfl rfl) ?_
        refine AO.skip rfl rfl (gOn_some 47 false rfl rfl rfl rfl) ?_
        refine AO.ro rfl rfl (gOn_none rfl) (RO.pick_f rfl rfl rfl) ?_
        refine AO.ro rfl rfl (gOn_none rfl) (RO.assign rfl rfl) ?_
        refine AO.nil ?_
        refine AW.ret ?_
        refine ⟨[], [.d (.lit (.bool false))], [], rfl, ⟨⟨_, rfl, .inl rfl⟩, rfl⟩, trivial, ?_⟩
        refine ⟨false, rfl, rfl, ?_⟩
        first
        | (have := spec_no c1 (sqE_n (by omega) (by omega)) (by omega)
           first | rfl | (exfalso; simp_all; done) | (exfalso; omega))
        | (have := spec_no c1 (sqE_mor (by omega)) (by omega)
           first | rfl | (exfalso; simp_all; done) | (exfalso; omega) | (simp_all; omega))
       ·
        refine AO.ro rfl rfl (gOn_some 39 true rfl rfl rfl rfl) (RO.not rfl rfl) ?_
        refine AO.ro rfl rfl (gOn_none rfl) (RO.pick_t rfl rfl rfl) ?_
        refine AO.ro rfl rfl (gOn_none rfl) (RO.move rfl rfl) ?_
        refine AO.ro rfl rfl (gOn_some 43 true rfl rfl rfl rfl) (RO.move rfl rfl) ?_
        refine AO.split rfl rfl (gOn_some 43 true rfl rfl rfl rfl) (RO.eql rfl rfl rfl) (fun t47 => ?_) (fun t47 => ?_)
        ·
         refine AO.ro rfl rfl (gOn_none rfl) (RO.pick_t rfl rfl rfl) ?_
         refine AO.ro rfl rfl (gOn_none rfl) (RO.move rfl rfl) ?_
         refine AO.ro rfl rfl (gOn_some 47 true rfl rfl rfl rfl) (RO.move rfl rfl) ?_
         refine AO.split rfl rfl (gOn_some 47 true rfl rfl rfl rfl) (RO.eql rfl rfl rfl) (fun t48 => ?_) (fun t48 => ?_)
         ·
          refine AO.ro rfl rfl (gOn_none rfl) (RO.pick_t rfl rfl rfl) ?_
          refine AO.ro rfl rfl (gOn_none rfl) (RO.assign rfl rfl) ?_
          refine AO.nil ?_
          refine AW.ret ?_
          refine ⟨[], [.d (.lit (.bool true))], [], rfl, ⟨⟨_, rfl, .inl rfl⟩, rfl⟩, trivial, ?_⟩
          refine ⟨true, rfl, rfl, ?_⟩
          first
          | (have := spec_no c1 (sqE_n (by omega) (by omega)) (by omega)
             first | rfl | (exfalso; simp_all; done) | (exfalso; omega))
          | (have := spec_no c1 (sqE_mor (by omega)) (by omega)
             first | rfl | (exfalso; simp_all; done) | (exfalso; omega) | (simp_all; omega))
         ·
          refine AO.ro rfl rfl (gOn_none rfl) (RO.pick_t rfl rfl rfl) ?_
          refine AO.ro rfl rfl (gOn_none rfl) (RO.assign rfl rfl) ?_
          refine AO.nil ?_
          refine AW.ret ?_
          refine ⟨[], [.d (.lit (.bool false))], [], rfl, ⟨⟨_, rfl, .inl rfl⟩, rfl⟩, trivial, ?_⟩
          refine ⟨false, rfl, rfl, ?_⟩
          first
          | (have := spec_no c1 (sqE_n (by omega) (by omega)) (by omega)
             first | rfl | (exfalso; simp_all; done) | (exfalso; omega))
          | (have := spec_no c1 (sqE_mor (by omega)) (by omega)
             first | rfl | (exfalso; simp_all; done) | (exfalso; omega) | (simp_all; omega))
        ·
         refine AO.ro rfl rfl (gOn_none rfl) (RO.pick_t rfl rfl rfl) ?_
         refine AO.ro rfl rfl (gOn_none rfl) (RO.move rfl rfl) ?_
         refine AO.skip rfl rfl (gOn_some 47 false rfl rfl rfl rfl) ?_
         refine AO.skip rfl rfl (gOn_some 47 false rfl rfl rfl rfl) ?_
         refine AO.ro rfl rfl (gOn_none rfl) (RO.pick_f rfl rfl rfl) ?_
         refine AO.ro rfl rfl (gOn_none rfl) (RO.assign rfl rfl) ?_
         refine AO.nil ?_
         refine AW.ret ?_
         refine ⟨[], [.d (.lit (.bool false))], [], rfl, ⟨⟨_, rfl, .inl rfl⟩, rfl⟩, trivial, ?_⟩
         refine ⟨false, rfl, rfl, ?_⟩
         first
         | (have := spec_no c1 (sqE_n (by omega) (by omega)) (by omega)
            first | rfl | (exfalso; simp_all; done) | (exfalso; omega))
         | (have := spec_no c1 (sqE_mor (by omega)) (by omega)
            first | rfl | (exfalso; simp_all; done) | (exfalso; omega) | (simp_all; omega))
      ·
       refine AO.ro rfl rfl (gOn_none rfl) (RO.move rfl rfl) ?_
       refine AO.skip rfl rfl (gOn_some 39 false rfl rfl rfl rfl) ?_
       refine AO.skip rfl rfl (gOn_some 39 false rfl rfl rfl rfl) ?_
       refine AO.ro rfl rfl (gOn_none rfl) (RO.pick_f rfl rfl rfl) ?_
       refine AO.ro rfl rfl (gOn_none rfl) (RO.move rfl rfl) ?_
       refine AO.skip rfl rfl (gOn_some 43 false rfl rfl rfl rfl) ?_
       refine AO.skip rfl rfl (gOn_some 43 false rfl rfl rfl rfl) ?_
       refine AO.ro rfl rfl (gOn_none rfl) (RO.pick_f rfl rfl rfl) ?_
       refine AO.ro rfl rfl (gOn_none rfl) (RO.move rfl rfl) ?_
       refine AO.skip rfl rfl (gOn_some 47 false rfl rfl rfl rfl) ?_
       refine AO.skip rfl rfl (gOn_some 47 false rfl rfl rfl rfl) ?_
       refine AO.ro rfl rfl (gOn_none rfl) (RO.pick_f rfl rfl rfl) ?_
       refine AO.ro rfl rfl (gOn_none rfl) (RO.assign rfl rfl) ?_
       refine AO.nil ?_
       refine AW.ret ?_
       refine ⟨[], [.d (.lit (.bool false))], [], rfl, ⟨⟨_, rfl, .inl rfl⟩, rfl⟩, trivial, ?_⟩
       refine ⟨false, rfl, rfl, ?_⟩
       first
       | (have := spec_no c1 (sqE_n (by omega) (by omega)) (by omega)
          first | rfl | (exfalso; simp_all; done) | (exfalso; omega))
       | (have := spec_no c1 (sqE_mor (by omega)) (by omega)
          first | rfl | (exfalso; simp_all; done) | (exfalso; omega) | (simp_all; omega))
     ·
      refine AO.nil ?_
      refine AW.cond_f rfl ?_
      refine AW.skip ?_
      refine AW.seq ?_
      refine AW.region [0, 0, 1, 0] rfl ?_
      refine AO.ro rfl rfl (gOn_none rfl) (RO.ld_ptr_d (y := enc (m : Morph)) rfl ti47 rfl rfl rfl rfl rfl) ?_
      refine AO.ro rfl rfl (gOn_none rfl) (RO.move rfl rfl) ?_
      refine AO.callA («as» := [.d (enc (m : Morph)), .d (.lit (.int .i64 n))]) (gOn_none rfl) rfl rfl rfl rfl Try.call49 ⟨⟨_, rfl, rfl⟩, ⟨_, rfl, rfl⟩, rfl⟩ (row_ok m n (mor_of (by omega)) (by omega)) ?_
      rintro _ _ ⟨y49, rfl, rfl, c49⟩
      refine ⟨[], 1, .d (enc (y49 : (List Int))), [], rfl, trivial, rfl, ?_⟩
      have hw := congrArg List.length c49; rw [rowN_len] at hw
      refine AO.ro rfl rfl (gOn_none rfl) (RO.assign rfl rfl) ?_
      refine AO.nil ?_
      refine AW.seq ?_
      refine AW.seq ?_
      refine AW.region [0] rfl ?_
      refine AO.ro rfl rfl (gOn_none rfl) (RO.assign rfl rfl) ?_
      refine AO.nil ?_
      refine AW.block ?_
      refine AW.loop (mp := []) (X := Int) (fun xv => ⟨113, 1, [(1, .d (.lit (.int .i64 n))), (4, .d (.lit (.bool false))), (5, .d (.lit (.int .i64 at'1))), (6, .d (.lit (.int .i64 half1))), (7, .d (.lit (.bool is1))), (8, .d (.lit (.int .i64 e1))), (10, .d (enc (y49 : (List Int)))), (11, .d (.lit (.int .i64 xv)))], []⟩) (fun xv => (0 ≤ xv ∧ xv ≤ n) ∧ (NoSq (rowN m n.toNat) n xv 1) ∧ (n ≤ 400 ∧ morE m = 0)) (fun xv => (n - xv).toNat) 0 ?_ ⟨rfl, rfl, ⟨⟨_, rfl, .inl rfl⟩, ⟨⟨_, rfl, .inl rfl⟩, ⟨⟨_, rfl, .inl rfl⟩, ⟨⟨_, rfl, .inl rfl⟩, ⟨⟨_, rfl, .inl rfl⟩, ⟨⟨_, rfl, .inl rfl⟩, ⟨⟨_, rfl, .inl rfl⟩, ⟨⟨_, rfl, .inl rfl⟩, trivial⟩⟩⟩⟩⟩⟩⟩⟩, trivial⟩ ?_
      · try dsimp only
        exact ⟨by omega, nosq_start, by omega, by omega⟩
      · skip
        intro p hx
        replace hx : (0 ≤ p ∧ p ≤ n) ∧ (NoSq (rowN m n.toNat) n p 1) ∧ (n ≤ 400 ∧ morE m = 0) := hx
        obtain ⟨g1, g2, g0⟩ := hx
        refine (show AW _ _ _ (⟨113, 1, [(1, .d (.lit (.int .i64 n))), (4, .d (.lit (.bool false))), (5, .d (.lit (.int .i64 at'1))), (6, .d (.lit (.int .i64 half1))), (7, .d (.lit (.bool is1))), (8, .d (.lit (.int .i64 e1))), (10, .d (enc (y49 : (List Int)))), (11, .d (.lit (.int .i64 p)))], []⟩ : St) _ from ?_)
        have g4 := @rowN_len m n.toNat
        refine AW.seq ?_
        refine AW.seq ?_
        refine AW.region [0, 0, 0] rfl ?_
        refine AO.ro rfl rfl (gOn_none rfl) (RO.move rfl rfl) ?_
        refine AO.ro rfl rfl (gOn_none rfl) (RO.move rfl rfl) ?_
        refine AO.split rfl rfl (gOn_none rfl) (RO.lss rfl rfl rfl) (fun t50 => ?_) (fun t50 => ?_)
        ·
         refine AO.nil ?_
         refine AW.cond_t rfl ?_
         refine AW.skip ?_
         refine AW.seq ?_
         refine AW.block ?_
         refine AW.seq ?_
         refine AW.region [0] rfl ?_
         refine AO.ro rfl rfl (gOn_none rfl) (RO.assign rfl rfl) ?_
         refine AO.nil ?_
         refine AW.block ?_
         refine AW.loop (mp := []) (X := Int) (fun xv => ⟨113, 1, [(1, .d (.lit (.int .i64 n))), (4, .d (.lit (.bool false))), (5, .d (.lit (.int .i64 at'1))), (6, .d (.lit (.int .i64 half1))), (7, .d (.lit (.bool is1))), (8, .d (.lit (.int .i64 e1))), (10, .d (enc (y49 : (List Int)))), (11, .d (.lit (.int .i64 p))), (12, .d (.lit (.int .i64 xv)))], []⟩) (fun xv => (1 ≤ xv ∧ xv ≤ 1000) ∧ (NoSq (rowN m n.toNat) n p xv)) (fun xv => (n + 1 - xv).toNat) 1 ?_ ⟨rfl, rfl, ⟨⟨_, rfl, .inl rfl⟩, ⟨⟨_, rfl, .inl rfl⟩, ⟨⟨_, rfl, .inl rfl⟩, ⟨⟨_, rfl, .inl rfl⟩, ⟨⟨_, rfl, .inl rfl⟩, ⟨⟨_, rfl, .inl rfl⟩, ⟨⟨_, rfl, .inl rfl⟩, ⟨⟨_, rfl, .inl rfl⟩, ⟨⟨_, rfl, .inl rfl⟩, trivial⟩⟩⟩⟩⟩⟩⟩⟩⟩, trivial⟩ ?_
         · try dsimp only
           exact ⟨by omega, g2⟩
         · skip
           intro h hx
           replace hx : (1 ≤ h ∧ h ≤ 1000) ∧ (NoSq (rowN m n.toNat) n p h) := hx
           obtain ⟨k1, k2⟩ := hx
           refine (show AW _ _ _ (⟨113, 1, [(1, .d (.lit (.int .i64 n))), (4, .d (.lit (.bool false))), (5, .d (.lit (.int .i64 at'1))), (6, .d (.lit (.int .i64 half1))), (7, .d (.lit (.bool is1))), (8, .d (.lit (.int .i64 e1))), (10, .d (enc (y49 : (List Int)))), (11, .d (.lit (.int .i64 p))), (12, .d (.lit (.int .i64 h)))], []⟩ : St) _ from ?_)
           refine AW.seq ?_
           refine AW.seq ?_
           refine AW.region [0, 0, 0, 0, 0, 0] rfl ?_
           refine AO.ro rfl rfl (gOn_none rfl) (RO.move rfl rfl) ?_
           refine AO.ro rfl rfl (gOn_none rfl) (RO.move rfl rfl) ?_
           refine AO.ro rfl rfl (gOn_none rfl) (RO.mul rfl rfl rfl (by omega)) ?_
           refine AO.ro rfl rfl (gOn_none rfl) (RO.add rfl rfl rfl (by omega)) ?_
           refine AO.ro rfl rfl (gOn_none rfl) (RO.move rfl rfl) ?_
           refine AO.split rfl rfl (gOn_none rfl) (RO.leq rfl rfl rfl) (fun t51 => ?_) (fun t51 => ?_)
           ·
            refine AO.nil ?_
            refine AW.cond_t rfl ?_
            refine AW.skip ?_
            refine AW.seq ?_
            refine AW.block ?_
            refine AW.seq ?_
            refine AW.drawn [(0, 0), (0, 1), (0, 2), (0, 3), (0, 4), (0, 5), (0, 6), (0, 7), (0, 8), (0, 9), (0, 10), (0, 11), (0, 12), (0, 13), (0, 14), (1, 15), (0, 16)] (by kernel_rfl) (by kernel_rfl) ?_
            refine AO.ro rfl rfl (gOn_none rfl) (RO.move rfl rfl) ?_
            refine AO.ro rfl rfl (gOn_none rfl) (RO.move rfl rfl) ?_
            refine AO.ro rfl rfl (gOn_none rfl) (RO.move rfl rfl) ?_
            refine AO.ro rfl rfl (gOn_none rfl) (RO.move rfl rfl) ?_
            refine AO.ro rfl rfl (gOn_none rfl) (RO.add rfl rfl rfl (by omega)) ?_
            refine AO.fact 67 rfl (fun ln52 => ?_)
            replace ln52 : y49.length * 8 ≤ 140737488355328 := ln52
            refine AO.ro rfl rfl (gOn_none rfl) (RO.sl_lh rfl Try.underlying26 ti3 rfl rfl rfl (by omega)) ?_
            refine AO.ro rfl rfl (gOn_none rfl) (RO.move rfl rfl) ?_
            refine AO.ro rfl rfl (gOn_none rfl) (RO.move rfl rfl) ?_
            refine AO.ro rfl rfl (gOn_none rfl) (RO.move rfl rfl) ?_
            refine AO.ro rfl rfl (gOn_none rfl) (RO.add rfl rfl rfl (by omega)) ?_
            refine AO.ro rfl rfl (gOn_none rfl) (RO.move rfl rfl) ?_
            refine AO.ro rfl rfl (gOn_none rfl) (RO.move rfl rfl) ?_
            refine AO.ro rfl rfl (gOn_none rfl) (RO.mul rfl rfl rfl (by omega)) ?_
            refine AO.ro rfl rfl (gOn_none rfl) (RO.add rfl rfl rfl (by omega)) ?_
            refine AO.ro rfl rfl (gOn_none rfl) (RO.sl_lh rfl Try.underlying26 ti3 rfl rfl rfl (by omega)) ?_
            refine AO.callA («as» := [.d (enc (cut y49 p (p + h) : (List Int))), .d (enc (cut y49 (p + h) (p + (2 * h)) : (List Int)))]) (gOn_none rfl) rfl rfl rfl rfl Try.call16 ⟨⟨_, rfl, rfl⟩, ⟨_, rfl, rfl⟩, rfl⟩ (words_ok (cut y49 p (p + h)) (cut y49 (p + h) (p + (2 * h)))) ?_
            rintro _ _ ⟨y53, rfl, rfl, c53⟩
            refine ⟨[], 1, .d (.lit (.bool y53)), [], rfl, trivial, rfl, ?_⟩
            refine AO.ro rfl rfl (gOn_none rfl) (RO.assign rfl rfl) ?_
            refine AO.nil ?_
            refine AW.seq ?_
            refine AW.region [0] rfl ?_
            refine AO.ro rfl rfl (gOn_none rfl) (RO.move rfl rfl) ?_
            refine AO.nil ?_
            refine AW.caseb 83 rfl (fun b54 => ?_) (fun b54 => ?_)
            ·
             first | replace b54 := of_decide_eq_true (c53.symm.trans b54) | (replace b54 := List.any_eq_true.1 (c53.symm.trans b54); simp only [decide_eq_true_eq] at b54) | skip
             refine AW.cond_t rfl ?_
             refine AW.seq ?_
             refine AW.region [0, 0, 0, 0, 0, 0, 0, 0, 0, 0, 0, 0, 0, 0, 0, 0] rfl ?_
             refine AO.ro rfl rfl (gOn_none rfl) (RO.move rfl rfl) ?_
             refine AO.split rfl rfl (gOn_none rfl) (RO.eql rfl rfl rfl) (fun t55 => ?_) (fun t55 => ?_)
             ·
              refine AO.ro rfl rfl (gOn_none rfl) (RO.move rfl rfl) ?_
              refine AO.ro rfl rfl (gOn_some 86 true rfl rfl rfl rfl) (RO.move rfl rfl) ?_
              refine AO.ro rfl rfl (gOn_none rfl) (RO.pick_t rfl rfl rfl) ?_
              refine AO.ro rfl rfl (gOn_none rfl) (RO.move rfl rfl) ?_
              refine AO.caseb 89 rfl (fun b56 => ?_) (fun b56 => ?_)
              ·
               refine AO.ro rfl rfl (gOn_some 89 true rfl rfl rfl rfl) (RO.move rfl rfl) ?_
               refine AO.ro rfl rfl (gOn_some 89 true rfl rfl rfl rfl) (RO.move rfl rfl) ?_
               refine AO.split rfl rfl (gOn_some 89 true rfl rfl rfl rfl) (RO.eql rfl rfl rfl) (fun t57 => ?_) (fun t57 => ?_)
               ·
                refine AO.ro rfl rfl (gOn_none rfl) (RO.pick_t rfl rfl rfl) ?_
                refine AO.ro rfl rfl (gOn_none rfl) (RO.move rfl rfl) ?_
                refine AO.ro rfl rfl (gOn_some 94 true rfl rfl rfl rfl) (RO.move rfl rfl) ?_
                refine AO.ro rfl rfl (gOn_some 94 true rfl rfl rfl rfl) (RO.move rfl rfl) ?_
                refine AO.split rfl rfl (gOn_some 94 true rfl rfl rfl rfl) (RO.eql rfl rfl rfl) (fun t58 => ?_) (fun t58 => ?_)
                ·
                 refine AO.ro rfl rfl (gOn_none rfl) (RO.pick_t rfl rfl rfl) ?_
                 refine AO.ro rfl rfl (gOn_none rfl) (RO.assign rfl rfl) ?_
                 refine AO.nil ?_
                 refine AW.ret ?_
                 refine ⟨[], [.d (.lit (.bool true))], [], rfl, ⟨⟨_, rfl, .inl rfl⟩, rfl⟩, trivial, ?_⟩
                 refine ⟨true, rfl, rfl, ?_⟩
                 have hs : sqAt (rowN m n.toNat) p h := by rw [← ‹_ = rowN m n.toNat›]; assumption
                 have := spec_hit c1 g0.2 (by omega) (by omega) hs k2
                 first | rfl | (exfalso; simp_all; done) | (exfalso; omega) | (simp_all; omega)
                ·
                 refine AO.ro rfl rfl (gOn_none rfl) (RO.pick_t rfl rfl rfl) ?_
                 refine AO.ro rfl rfl (gOn_none rfl) (RO.assign rfl rfl) ?_
                 refine AO.nil ?_
                 refine AW.ret ?_
                 refine ⟨[], [.d (.lit (.bool false))], [], rfl, ⟨⟨_, rfl, .inl rfl⟩, rfl⟩, trivial, ?_⟩
                 refine ⟨false, rfl, rfl, ?_⟩
                 have hs : sqAt (rowN m n.toNat) p h := by rw [← ‹_ = rowN m n.toNat›]; assumption
                 have := spec_hit c1 g0.2 (by omega) (by omega) hs k2
                 first | rfl | (exfalso; simp_all; done) | (exfalso; omega) | (simp_all; omega)
               ·
                refine AO.ro rfl rfl (gOn_none rfl) (RO.pick_t rfl rfl rfl) ?_
                refine AO.ro rfl rfl (gOn_none rfl) (RO.move rfl rfl) ?_
                refine AO.skip rfl rfl (gOn_some 94 false rfl rfl rfl rfl) ?_
                refine AO.skip rfl rfl (gOn_some 94 false rfl rfl rfl rfl) ?_
                refine AO.skip rfl rfl (gOn_some 94 false rfl rfl rfl rfl) ?_
                refine AO.ro rfl rfl (gOn_none rfl) (RO.pick_f rfl rfl rfl) ?_
                refine AO.ro rfl rfl (gOn_none rfl) (RO.assign rfl rfl) ?_
                refine AO.nil ?_
                refine AW.ret ?_
                refine ⟨[], [.d (.lit (.bool false))], [], rfl, ⟨⟨_, rfl, .inl rfl⟩, rfl⟩, trivial, ?_⟩
                refine ⟨false, rfl, rfl, ?_⟩
                have hs : sqAt (rowN m n.toNat) p h := by rw [← ‹_ = rowN m n.toNat›]; assumption
                have := spec_hit c1 g0.2 (by omega) (by omega) hs k2
                first | rfl | (exfalso; simp_all; done) | (exfalso; omega) | (simp_all; omega)
              ·
               refine AO.skip rfl rfl (gOn_some 89 false rfl rfl rfl rfl) ?_
               refine AO.skip rfl rfl (gOn_some 89 false rfl rfl rfl rfl) ?_
               refine AO.skip rfl rfl (gOn_some 89 false rfl rfl rfl rfl) ?_
               refine AO.ro rfl rfl (gOn_none rfl) (RO.pick_f rfl rfl rfl) ?_
               refine AO.ro rfl rfl (gOn_none rfl) (RO.move rfl rfl) ?_
               refine AO.skip rfl rfl (gOn_some 94 false rfl rfl rfl rfl) ?_
               refine AO.skip rfl rfl (gOn_some 94 false rfl rfl rfl rfl) ?_
               refine AO.skip rfl rfl (gOn_some 94 false rfl rfl rfl rfl) ?_
               refine AO.ro rfl rfl (gOn_none rfl) (RO.pick_f rfl rfl rfl) ?_
               refine AO.ro rfl rfl (gOn_none rfl) (RO.assign rfl rfl) ?_
               refine AO.nil ?_
               refine AW.ret ?_
               refine ⟨[], [.d (.lit (.bool false))], [], rfl, ⟨⟨_, rfl, .inl rfl⟩, rfl⟩, trivial, ?_⟩
               refine ⟨false, rfl, rfl, ?_⟩
               have hs : sqAt (rowN m n.toNat) p h := by rw [← ‹_ = rowN m n.toNat›]; assumption
               have := spec_hit c1 g0.2 (by omega) (by omega) hs k2
               first | rfl | (exfalso; simp_all; done) | (exfalso; omega) | (simp_all; omega)
             ·
              refine AO.ro rfl rfl (gOn_none rfl) (RO.move rfl rfl) ?_
              refine AO.skip rfl rfl (gOn_some 86 false rfl rfl rfl rfl) ?_
              refine AO.ro rfl rfl (gOn_none rfl) (RO.pick_f rfl rfl rfl) ?_
              refine AO.ro rfl rfl (gOn_none rfl) (RO.move rfl rfl) ?_
              refine AO.skip rfl rfl (gOn_some 89 false rfl rfl rfl rfl) ?_
              refine AO.skip rfl rfl (gOn_some 89 false rfl rfl rfl rfl) ?_
              refine AO.skip rfl rfl (gOn_some 89 false rfl rfl rfl rfl) ?_
              refine AO.ro rfl rfl (gOn_none rfl) (RO.pick_f rfl rfl rfl) ?_
              refine AO.ro rfl rfl (gOn_none rfl) (RO.move rfl rfl) ?_
              refine AO.skip rfl rfl (gOn_some 94 false rfl rfl rfl rfl) ?_
              refine AO.skip rfl rfl (gOn_some 94 false rfl rfl rfl rfl) ?_
              refine AO.skip rfl rfl (gOn_some 94 false rfl rfl rfl rfl) ?_
              refine AO.ro rfl rfl (gOn_none rfl) (RO.pick_f rfl rfl rfl) ?_
              refine AO.ro rfl rfl (gOn_none rfl) (RO.assign rfl rfl) ?_
              refine AO.nil ?_
              refine AW.ret ?_
              refine ⟨[], [.d (.lit (.bool false))], [], rfl, ⟨⟨_, rfl, .inl rfl⟩, rfl⟩, trivial, ?_⟩
              refine ⟨false, rfl, rfl, ?_⟩
              have hs : sqAt (rowN m n.toNat) p h := by rw [← ‹_ = rowN m n.toNat›]; assumption
              have := spec_hit c1 g0.2 (by omega) (by omega) hs k2
              first | rfl | (exfalso; simp_all; done) | (exfalso; omega) | (simp_all; omega)
            ·
             first | replace b54 := of_decide_eq_false (c53.symm.trans b54) | (replace b54 := List.any_eq_false.1 (c53.symm.trans b54); simp only [decide_eq_true_eq] at b54) | skip
             refine AW.cond_f rfl ?_
             refine AW.skip ?_
             refine AW.region [0, 0, 0] rfl ?_
             refine AO.ro rfl rfl (gOn_none rfl) (RO.move rfl rfl) ?_
             refine AO.ro rfl rfl (gOn_none rfl) (RO.add rfl rfl rfl (by omega)) ?_
             refine AO.ro rfl rfl (gOn_none rfl) (RO.assign rfl rfl) ?_
             refine AO.nil ?_
             refine ⟨h + 1, [], ?_, ?_, ⟨rfl, rfl, ⟨⟨_, rfl, .inl rfl⟩, ⟨⟨_, rfl, .inl rfl⟩, ⟨⟨_, rfl, .inl rfl⟩, ⟨⟨_, rfl, .inl rfl⟩, ⟨⟨_, rfl, .inl rfl⟩, ⟨⟨_, rfl, .inl rfl⟩, ⟨⟨_, rfl, .inl rfl⟩, ⟨⟨_, rfl, .inl rfl⟩, ⟨⟨_, rfl, .inl rfl⟩, trivial⟩⟩⟩⟩⟩⟩⟩⟩⟩, trivial⟩⟩
             · try dsimp only
               exact ⟨by omega, nosq_step k2 (by rw [← ‹_ = rowN m n.toNat›]; assumption)⟩
             · try dsimp only
               first | omega | (simp; done) | (simp_all; done) | (simp_all; omega)
           ·
            refine AO.nil ?_
            refine AW.cond_f rfl ?_
            refine AW.exit ?_
            refine AW.region [0, 0, 0] rfl ?_
            refine AO.ro rfl rfl (gOn_none rfl) (RO.move rfl rfl) ?_
            refine AO.ro rfl rfl (gOn_none rfl) (RO.add rfl rfl rfl (by omega)) ?_
            refine AO.ro rfl rfl (gOn_none rfl) (RO.assign rfl rfl) ?_
            refine AO.nil ?_
            refine ⟨p + 1, [], ?_, ?_, ⟨rfl, rfl, ⟨⟨_, rfl, .inl rfl⟩, ⟨⟨_, rfl, .inl rfl⟩, ⟨⟨_, rfl, .inl rfl⟩, ⟨⟨_, rfl, .inl rfl⟩, ⟨⟨_, rfl, .inl rfl⟩, ⟨⟨_, rfl, .inl rfl⟩, ⟨⟨_, rfl, .inl rfl⟩, ⟨⟨_, rfl, .inl rfl⟩, trivial⟩⟩⟩⟩⟩⟩⟩⟩, trivial⟩⟩
            · try dsimp only
              exact ⟨by omega, nosq_next k2 (by omega), g0⟩
            · try dsimp only
              first | omega | (simp; done) | (simp_all; done) | (simp_all; omega)
        ·
         refine AO.nil ?_
         refine AW.cond_f rfl ?_
         refine AW.exit ?_
         refine AW.seq ?_
         refine AW.region [0, 0, 0, 0, 0, 0, 0, 0, 0, 0, 0, 0, 0, 0, 0] rfl ?_
         refine AO.ro rfl rfl (gOn_none rfl) (RO.move rfl rfl) ?_
         refine AO.split rfl rfl (gOn_none rfl) (RO.eql rfl rfl rfl) (fun t59 => ?_) (fun t59 => ?_)
         ·
          refine AO.ro rfl rfl (gOn_none rfl) (RO.move rfl rfl) ?_
          refine AO.ro rfl rfl (gOn_some 101 true rfl rfl rfl rfl) (RO.move rfl rfl) ?_
          refine AO.caseb 102 rfl (fun b60 => ?_) (fun b60 => ?_)
          ·
           refine AO.ro rfl rfl (gOn_some 101 true rfl rfl rfl rfl) (RO.not rfl rfl) ?_
           refine AO.ro rfl rfl (gOn_none rfl) (RO.pick_t rfl rfl rfl) ?_
           refine AO.ro rfl rfl (gOn_none rfl) (RO.move rfl rfl) ?_
           refine AO.skip rfl rfl (gOn_some 105 false rfl rfl rfl rfl) ?_
           refine AO.skip rfl rfl (gOn_some 105 false rfl rfl rfl rfl) ?_
           refine AO.ro rfl rfl (gOn_none rfl) (RO.pick_f rfl rfl rfl) ?_
           refine AO.ro rfl rfl (gOn_none rfl) (RO.move rfl rfl) ?_
           refine AO.skip rfl rfl (gOn_some 109 false rfl rfl rfl rfl) ?_
           refine AO.skip rfl rfl (gOn_some 109 false rfl rfl rfl rfl) ?_
           refine AO.ro rfl rfl (gOn_none rfl) (RO.pick_f rfl rfl rfl) ?_
           refine AO.ro rfl rfl (gOn_none rfl) (RO.assign rfl rfl) ?_
           refine AO.nil ?_
           refine AW.ret ?_
           refine ⟨[], [.d (.lit (.bool false))], [], rfl, ⟨⟨_, rfl, .inl rfl⟩, rfl⟩, trivial, ?_⟩
           refine ⟨false, rfl, rfl, ?_⟩
           have hp : p = n := by omega
           have := spec_miss c1 g0.2 (by omega) (hp ▸ g2)
           first | rfl | (exfalso; simp_all; done) | (exfalso; omega) | (simp_all; omega)
          ·
           refine AO.ro rfl rfl (gOn_some 101 true rfl rfl rfl rfl) (RO.not rfl rfl) ?_
           refine AO.ro rfl rfl (gOn_none rfl) (RO.pick_t rfl rfl rfl) ?_
           refine AO.ro rfl rfl (gOn_none rfl) (RO.move rfl rfl) ?_
           refine AO.ro rfl rfl (gOn_some 105 true rfl rfl rfl rfl) (RO.move rfl rfl) ?_
           refine AO.split rfl rfl (gOn_some 105 true rfl rfl rfl rfl) (RO.eql rfl rfl rfl) (fun t61 => ?_) (fun t61 => ?_)
           ·
            refine AO.ro rfl rfl (gOn_none rfl) (RO.pick_t rfl rfl rfl) ?_
            refine AO.ro rfl rfl (gOn_none rfl) (RO.move rfl rfl) ?_
            refine AO.ro rfl rfl (gOn_some 109 true rfl rfl rfl rfl) (RO.move rfl rfl) ?_
            refine AO.split rfl rfl (gOn_some 109 true rfl rfl rfl rfl) (RO.eql rfl rfl rfl) (fun t62 => ?_) (fun t62 => ?_)
            ·
             refine AO.ro rfl rfl (gOn_none rfl) (RO.pick_t rfl rfl rfl) ?_
             refine AO.ro rfl rfl (gOn_none rfl) (RO.assign rfl rfl) ?_
             refine AO.nil ?_
             refine AW.ret ?_
             refine ⟨[], [.d (.lit (.bool true))], [], rfl, ⟨⟨_, rfl, .inl rfl⟩, rfl⟩, trivial, ?_⟩
             refine ⟨true, rfl, rfl, ?_⟩
             have hp : p = n := by omega
             have := spec_miss c1 g0.2 (by omega) (hp ▸ g2)
             first | rfl | (exfalso; simp_all; done) | (exfalso; omega) | (simp_all; omega)
            ·
             refine AO.ro rfl rfl (gOn_none rfl) (RO.pick_t rfl rfl rfl) ?_
             refine AO.ro rfl rfl (gOn_none rfl) (RO.assign rfl rfl) ?_
             refine AO.nil ?_
             refine AW.ret ?_
             refine ⟨[], [.d (.lit (.bool false))], [], rfl, ⟨⟨_, rfl, .inl rfl⟩, rfl⟩, trivial, ?_⟩
             refine ⟨false, rfl, rfl, ?_⟩
             have hp : p = n := by omega
             have := spec_miss c1 g0.2 (by omega) (hp ▸ g2)
             first | rfl | (exfalso; simp_all; done) | (exfalso; omega) | (simp_all; omega)
           ·
            refine AO.ro rfl rfl (gOn_none rfl) (RO.pick_t rfl rfl rfl) ?_
            refine AO.ro rfl rfl (gOn_none rfl) (RO.move rfl rfl) ?_
            refine AO.skip rfl rfl (gOn_some 109 false rfl rfl rfl rfl) ?_
            refine AO.skip rfl rfl (gOn_some 109 false rfl rfl rfl rfl) ?_
            refine AO.ro rfl rfl (gOn_none rfl) (RO.pick_f rfl rfl rfl) ?_
            refine AO.ro rfl rfl (gOn_none rfl) (RO.assign rfl rfl) ?_
            refine AO.nil ?_
            refine AW.ret ?_
            refine ⟨[], [.d (.lit (.bool false))], [], rfl, ⟨⟨_, rfl, .inl rfl⟩, rfl⟩, trivial, ?_⟩
            refine ⟨false, rfl, rfl, ?_⟩
            have hp : p = n := by omega
            have := spec_miss c1 g0.2 (by omega) (hp ▸ g2)
            first | rfl | (exfalso; simp_all; done) | (exfalso; omega) | (simp_all; omega)
         ·
          refine AO.ro rfl rfl (gOn_none rfl) (RO.move rfl rfl) ?_
          refine AO.skip rfl rfl (gOn_some 101 false rfl rfl rfl rfl) ?_
          refine AO.skip rfl rfl (gOn_some 101 false rfl rfl rfl rfl) ?_
          refine AO.ro rfl rfl (gOn_none rfl) (RO.pick_f rfl rfl rfl) ?_
          refine AO.ro rfl rfl (gOn_none rfl) (RO.move rfl rfl) ?_
          refine AO.skip rfl rfl (gOn_some 105 false rfl rfl rfl rfl) ?_
          refine AO.skip rfl rfl (gOn_some 105 false rfl rfl rfl rfl) ?_
          refine AO.ro rfl rfl (gOn_none rfl) (RO.pick_f rfl rfl rfl) ?_
          refine AO.ro rfl rfl (gOn_none rfl) (RO.move rfl rfl) ?_
          refine AO.skip rfl rfl (gOn_some 109 false rfl rfl rfl rfl) ?_
          refine AO.skip rfl rfl (gOn_some 109 false rfl rfl rfl rfl) ?_
          refine AO.ro rfl rfl (gOn_none rfl) (RO.pick_f rfl rfl rfl) ?_
          refine AO.ro rfl rfl (gOn_none rfl) (RO.assign rfl rfl) ?_
          refine AO.nil ?_
          refine AW.ret ?_
          refine ⟨[], [.d (.lit (.bool false))], [], rfl, ⟨⟨_, rfl, .inl rfl⟩, rfl⟩, trivial, ?_⟩
          refine ⟨false, rfl, rfl, ?_⟩
          have hp : p = n := by omega
          have := spec_miss c1 g0.2 (by omega) (hp ▸ g2)
          first | rfl | (exfalso; simp_all; done) | (exfalso; omega) | (simp_all; omega)
  ·
   refine AO.ro rfl rfl (gOn_none rfl) (RO.move rfl rfl) ?_
   refine AO.skip rfl rfl (gOn_some 26 false rfl rfl rfl rfl) ?_
   refine AO.skip rfl rfl (gOn_some 26 false rfl rfl rfl rfl) ?_
   refine AO.skip rfl rfl (gOn_some 26 false rfl rfl rfl rfl) ?_
   refine AO.skip rfl rfl (gOn_not 29 rfl rfl rfl) ?_
   refine AO.skip rfl rfl (gOn_not 29 rfl rfl rfl) ?_
   refine AO.skip rfl rfl (gOn_some 26 false rfl rfl rfl rfl) ?_
   refine AO.ro rfl rfl (gOn_none rfl) (RO.pick_f rfl rfl rfl) ?_
   refine AO.nil ?_
   refine AW.cond_f rfl ?_
   refine AW.skip ?_
   refine AW.seq ?_
   refine AW.seq ?_
   refine AW.region [0, 0] rfl ?_
   refine AO.ro rfl rfl (gOn_none rfl) (RO.move rfl rfl) ?_
   refine AO.splitn rfl rfl (gOn_none rfl) (RO.neq rfl rfl rfl) (fun t63 => ?_) (fun t63 => ?_)
   ·
    refine AO.nil ?_
    refine AW.cond_t rfl ?_
    refine AW.seq ?_
    refine AW.region [0, 0, 0, 0, 0, 0, 0, 0, 0, 0, 0, 0, 0, 0, 0, 0] rfl ?_
    refine AO.ro rfl rfl (gOn_none rfl) (RO.move rfl rfl) ?_
    refine AO.ro rfl rfl (gOn_none rfl) (RO.move rfl rfl) ?_
    refine AO.split rfl rfl (gOn_none rfl) (RO.eql rfl rfl rfl) (fun t64 => ?_) (fun t64 => ?_)
    ·
     refine AO.ro rfl rfl (gOn_none rfl) (RO.move rfl rfl) ?_
     refine AO.ro rfl rfl (gOn_some 39 true rfl rfl rfl rfl) (RO.move rfl rfl) ?_
     refine AO.caseb 40 rfl (fun b65 => ?_) (fun b65 => ?_)
     ·
      refine AO.ro rfl rfl (gOn_some 39 true rfl rfl rfl rfl) (RO.not rfl rfl) ?_
      refine AO.ro rfl rfl (gOn_none rfl) (RO.pick_t rfl rfl rfl) ?_
      refine AO.ro rfl rfl (gOn_none rfl) (RO.move rfl rfl) ?_
      refine AO.skip rfl rfl (gOn_some 43 false rfl rfl rfl rfl) ?_
      refine AO.skip rfl rfl (gOn_some 43 false rfl rfl rfl rfl) ?_
      refine AO.ro rfl rfl (gOn_none rfl) (RO.pick_f rfl rfl rfl) ?_
      refine AO.ro rfl rfl (gOn_none rfl) (RO.move rfl rfl) ?_
      refine AO.skip rfl rfl (gOn_some 47 false rfl rfl rfl rfl) ?_
      refine AO.skip rfl rfl (gOn_some 47 false rfl rfl rfl rfl) ?_
      refine AO.ro rfl rfl (gOn_none rfl) (RO.pick_f rfl rfl rfl) ?_
      refine AO.ro rfl rfl (gOn_none rfl) (RO.assign rfl rfl) ?_
      refine AO.nil ?_
      refine AW.ret ?_
      refine ⟨[], [.d (.lit (.bool false))], [], rfl, ⟨⟨_, rfl, .inl rfl⟩, rfl⟩, trivial, ?_⟩
      refine ⟨false, rfl, rfl, ?_⟩
      first
      | (have := spec_no c1 (sqE_n (by omega) (by omega)) (by omega)
         first | rfl | (exfalso; simp_all; done) | (exfalso; omega))
      | (have := spec_no c1 (sqE_mor (by omega)) (by omega)
         first | rfl | (exfalso; simp_all; done) | (exfalso; omega) | (simp_all; omega))
     ·
      refine AO.ro rfl rfl (gOn_some 39 true rfl rfl rfl rfl) (RO.not rfl rfl) ?_
      refine AO.ro rfl rfl (gOn_none rfl) (RO.pick_t rfl rfl rfl) ?_
      refine AO.ro rfl rfl (gOn_none rfl) (RO.move rfl rfl) ?_
      refine AO.ro rfl rfl (gOn_some 43 true rfl rfl rfl rfl) (RO.move rfl rfl) ?_
      refine AO.split rfl rfl (gOn_some 43 true rfl rfl rfl rfl) (RO.eql rfl rfl rfl) (fun t66 => ?_) (fun t66 => ?_)
      ·
       refine AO.ro rfl rfl (gOn_none rfl) (RO.pick_t rfl rfl rfl) ?_
       refine AO.ro rfl rfl (gOn_none rfl) (RO.move rfl rfl) ?_
       refine AO.ro rfl rfl (gOn_some 47 true rfl rfl rfl rfl) (RO.move rfl rfl) ?_
       refine AO.split rfl rfl (gOn_some 47 true rfl rfl rfl rfl) (RO.eql rfl rfl rfl) (fun t67 => ?_) (fun t67 => ?_)
       ·
        refine AO.ro rfl rfl (gOn_none rfl) (RO.pick_t rfl rfl rfl) ?_
        refine AO.ro rfl rfl (gOn_none rfl) (RO.assign rfl rfl) ?_
        refine AO.nil ?_
        refine AW.ret ?_
        refine ⟨[], [.d (.lit (.bool true))], [], rfl, ⟨⟨_, rfl, .inl rfl⟩, rfl⟩, trivial, ?_⟩
        refine ⟨true, rfl, rfl, ?_⟩
        first
        | (have := spec_no c1 (sqE_n (by omega) (by omega)) (by omega)
           first | rfl | (exfalso; simp_all; done) | (exfalso; omega))
        | (have := spec_no c1 (sqE_mor (by omega)) (by omega)
           first | rfl | (exfalso; simp_all; done) | (exfalso; omega) | (simp_all; omega))
       ·
        refine AO.ro rfl rfl (gOn_none rfl) (RO.pick_t rfl rfl rfl) ?_
        refine AO.ro rfl rfl (gOn_none rfl) (RO.assign rfl rfl) ?_
        refine AO.nil ?_
        refine AW.ret ?_
        refine ⟨[], [.d (.lit (.bool false))], [], rfl, ⟨⟨_, rfl, .inl rfl⟩, rfl⟩, trivial, ?_⟩
        refine ⟨false, rfl, rfl, ?_⟩
        first
        | (have := spec_no c1 (sqE_n (by omega) (by omega)) (by omega)
           first | rfl | (exfalso; simp_all; done) | (exfalso; omega))
        | (have := spec_no c1 (sqE_mor (by omega)) (by omega)
           first | rfl | (exfalso; simp_all; done) | (exfalso; omega) | (simp_all; omega))
      ·
       refine AO.ro rfl rfl (gOn_none rfl) (RO.pick_t rfl rfl rfl) ?_
       refine AO.ro rfl rfl (gOn_none rfl) (RO.move rfl rfl) ?_
       refine AO.skip rfl rfl (gOn_some 47 false rfl rfl rfl rfl) ?_
       refine AO.skip rfl rfl (gOn_some 47 false rfl rfl rfl rfl) ?_
       refine AO.ro rfl rfl (gOn_none rfl) (RO.pick_f rfl rfl rfl) ?_
       refine AO.ro rfl rfl (gOn_none rfl) (RO.assign rfl rfl) ?_
       refine AO.nil ?_
       refine AW.ret ?_
       refine ⟨[], [.d (.lit (.bool false))], [], rfl, ⟨⟨_, rfl, .inl rfl⟩, rfl⟩, trivial, ?_⟩
       refine ⟨false, rfl, rfl, ?_⟩
       first
       | (have := spec_no c1 (sqE_n (by omega) (by omega)) (by omega)
          first | rfl | (exfalso; simp_all; done) | (exfalso; omega))
       | (have := spec_no c1 (sqE_mor (by omega)) (by omega)
          first | rfl | (exfalso; simp_all; done) | (exfalso; omega) | (simp_all; omega))
    ·
     refine AO.ro rfl rfl (gOn_none rfl) (RO.move rfl rfl) ?_
     refine AO.skip rfl rfl (gOn_some 39 false rfl rfl rfl rfl) ?_
     refine AO.skip rfl rfl (gOn_some 39 false rfl rfl rfl rfl) ?_
     refine AO.ro rfl rfl (gOn_none rfl) (RO.pick_f rfl rfl rfl) ?_
     refine AO.ro rfl rfl (gOn_none rfl) (RO.move rfl rfl) ?_
     refine AO.skip rfl rfl (gOn_some 43 false rfl rfl rfl rfl) ?_
     refine AO.skip rfl rfl (gOn_some 43 false rfl rfl rfl rfl) ?_
     refine AO.ro rfl rfl (gOn_none rfl) (RO.pick_f rfl rfl rfl) ?_
     refine AO.ro rfl rfl (gOn_none rfl) (RO.move rfl rfl) ?_
     refine AO.skip rfl rfl (gOn_some 47 false rfl rfl rfl rfl) ?_
     refine AO.skip rfl rfl (gOn_some 47 false rfl rfl rfl rfl) ?_
     refine AO.ro rfl rfl (gOn_none rfl) (RO.pick_f rfl rfl rfl) ?_
     refine AO.ro rfl rfl (gOn_none rfl) (RO.assign rfl rfl) ?_
     refine AO.nil ?_
     refine AW.ret ?_
     refine ⟨[], [.d (.lit (.bool false))], [], rfl, ⟨⟨_, rfl, .inl rfl⟩, rfl⟩, trivial, ?_⟩
     refine ⟨false, rfl, rfl, ?_⟩
     first
     | (have := spec_no c1 (sqE_n (by omega) (by omega)) (by omega)
        first | rfl | (exfalso; simp_all; done) | (exfalso; omega))
     | (have := spec_no c1 (sqE_mor (by omega)) (by omega)
        first | rfl | (exfalso; simp_all; done) | (exfalso; omega) | (simp_all; omega))
   ·
    refine AO.nil ?_
    refine AW.cond_f rfl ?_
    refine AW.skip ?_
    refine AW.seq ?_
    refine AW.region [0, 0, 1, 0] rfl ?_
    refine AO.ro rfl rfl (gOn_none rfl) (RO.ld_ptr_d (y := enc (m : Morph)) rfl ti47 rfl rfl rfl rfl rfl) ?_
    refine AO.ro rfl rfl (gOn_none rfl) (RO.move rfl rfl) ?_
    refine AO.callA («as» := [.d (enc (m : Morph)), .d (.lit (.int .i64 n))]) (gOn_none rfl) rfl rfl rfl rfl Try.call49 ⟨⟨_, rfl, rfl⟩, ⟨_, rfl, rfl⟩, rfl⟩ (row_ok m n (mor_of (by omega)) (by omega)) ?_
    rintro _ _ ⟨y68, rfl, rfl, c68⟩
    refine ⟨[], 1, .d (enc (y68 : (List Int))), [], rfl, trivial, rfl, ?_⟩
    have hw := congrArg List.length c68; rw [rowN_len] at hw
    refine AO.ro rfl rfl (gOn_none rfl) (RO.assign rfl rfl) ?_
    refine AO.nil ?_
    refine AW.seq ?_
    refine AW.seq ?_
    refine AW.region [0] rfl ?_
    refine AO.ro rfl rfl (gOn_none rfl) (RO.assign rfl rfl) ?_
    refine AO.nil ?_
    refine AW.block ?_
    refine AW.loop (mp := []) (X := Int) (fun xv => ⟨113, 1, [(1, .d (.lit (.int .i64 n))), (4, .d (.lit (.bool false))), (5, .d (.lit (.int .i64 at'1))), (6, .d (.lit (.int .i64 half1))), (7, .d (.lit (.bool is1))), (8, .d (.lit (.int .i64 e1))), (10, .d (enc (y68 : (List Int)))), (11, .d (.lit (.int .i64 xv)))], []⟩) (fun xv => (0 ≤ xv ∧ xv ≤ n) ∧ (NoSq (rowN m n.toNat) n xv 1) ∧ (n ≤ 400 ∧ morE m = 0)) (fun xv => (n - xv).toNat) 0 ?_ ⟨rfl, rfl, ⟨⟨_, rfl, .inl rfl⟩, ⟨⟨_, rfl, .inl rfl⟩, ⟨⟨_, rfl, .inl rfl⟩, ⟨⟨_, rfl, .inl rfl⟩, ⟨⟨_, rfl, .inl rfl⟩, ⟨⟨_, rfl, .inl rfl⟩, ⟨⟨_, rfl, .inl rfl⟩, ⟨⟨_, rfl, .inl rfl⟩, trivial⟩⟩⟩⟩⟩⟩⟩⟩, trivial⟩ ?_
    · try dsimp only
      exact ⟨by omega, nosq_start, by omega, by omega⟩
    · skip
      intro p hx
      replace hx : (0 ≤ p ∧ p ≤ n) ∧ (NoSq (rowN m n.toNat) n p 1) ∧ (n ≤ 400 ∧ morE m = 0) := hx
      obtain ⟨g1, g2, g0⟩ := hx
      refine (show AW _ _ _ (⟨113, 1, [(1, .d (.lit (.int .i64 n))), (4, .d (.lit (.bool false))), (5, .d (.lit (.int .i64 at'1))), (6, .d (.lit (.int .i64 half1))), (7, .d (.lit (.bool is1))), (8, .d (.lit (.int .i64 e1))), (10, .d (enc (y68 : (List Int)))), (11, .d (.lit (.int .i64 p)))], []⟩ : St) _ from ?_)
      have g4 := @rowN_len m n.toNat
      refine AW.seq ?_
      refine AW.seq ?_
      refine AW.region [0, 0, 0] rfl ?_
      refine AO.ro rfl rfl (gOn_none rfl) (RO.move rfl rfl) ?_
      refine AO.ro rfl rfl (gOn_none rfl) (RO.move rfl rfl) ?_
      refine AO.split rfl rfl (gOn_none rfl) (RO.lss rfl rfl rfl) (fun t69 => ?_) (fun t69 => ?_)
      ·
       refine AO.nil ?_
       refine AW.cond_t rfl ?_
       refine AW.skip ?_
       refine AW.seq ?_
       refine AW.block ?_
       refine AW.seq ?_
       refine AW.region [0] rfl ?_
       refine AO.ro rfl rfl (gOn_none rfl) (RO.assign rfl rfl) ?_
       refine AO.nil ?_
       refine AW.block ?_
       refine AW.loop (mp := []) (X := Int) (fun xv => ⟨113, 1, [(1, .d (.lit (.int .i64 n))), (4, .d (.lit (.bool false))), (5, .d (.lit (.int .i64 at'1))), (6, .d (.lit (.int .i64 half1))), (7, .d (.lit (.bool is1))), (8, .d (.lit (.int .i64 e1))), (10, .d (enc (y68 : (List Int)))), (11, .d (.lit (.int .i64 p))), (12, .d (.lit (.int .i64 xv)))], []⟩) (fun xv => (1 ≤ xv ∧ xv ≤ 1000) ∧ (NoSq (rowN m n.toNat) n p xv)) (fun xv => (n + 1 - xv).toNat) 1 ?_ ⟨rfl, rfl, ⟨⟨_, rfl, .inl rfl⟩, ⟨⟨_, rfl, .inl rfl⟩, ⟨⟨_, rfl, .inl rfl⟩, ⟨⟨_, rfl, .inl rfl⟩, ⟨⟨_, rfl, .inl rfl⟩, ⟨⟨_, rfl, .inl rfl⟩, ⟨⟨_, rfl, .inl rfl⟩, ⟨⟨_, rfl, .inl rfl⟩, ⟨⟨_, rfl, .inl rfl⟩, trivial⟩⟩⟩⟩⟩⟩⟩⟩⟩, trivial⟩ ?_
       · try dsimp only
         exact ⟨by omega, g2⟩
       · skip
         intro h hx
         replace hx : (1 ≤ h ∧ h ≤ 1000) ∧ (NoSq (rowN m n.toNat) n p h) := hx
         obtain ⟨k1, k2⟩ := hx
         refine (show AW _ _ _ (⟨113, 1, [(1, .d (.lit (.int .i64 n))), (4, .d (.lit (.bool false))), (5, .d (.lit (.int .i64 at'1))), (6, .d (.lit (.int .i64 half1))), (7, .d (.lit (.bool is1))), (8, .d (.lit (.int .i64 e1))), (10, .d (enc (y68 : (List Int)))), (11, .d (.lit (.int .i64 p))), (12, .d (.lit (.int .i64 h)))], []⟩ : St) _ from ?_)
         refine AW.seq ?_
         refine AW.seq ?_
         refine AW.region [0, 0, 0, 0, 0, 0] rfl ?_
         refine AO.ro rfl rfl (gOn_none rfl) (RO.move rfl rfl) ?_
         refine AO.ro rfl rfl (gOn_none rfl) (RO.move rfl rfl) ?_
         refine AO.ro rfl rfl (gOn_none rfl) (RO.mul rfl rfl rfl (by omega)) ?_
         refine AO.ro rfl rfl (gOn_none rfl) (RO.add rfl rfl rfl (by omega)) ?_
         refine AO.ro rfl rfl (gOn_none rfl) (RO.move rfl rfl) ?_
         refine AO.split rfl rfl (gOn_none rfl) (RO.leq rfl rfl rfl) (fun t70 => ?_) (fun t70 => ?_)
         ·
          refine AO.nil ?_
          refine AW.cond_t rfl ?_
          refine AW.skip ?_
          refine AW.seq ?_
          refine AW.block ?_
          refine AW.seq ?_
          refine AW.drawn [(0, 0), (0, 1), (0, 2), (0, 3), (0, 4), (0, 5), (0, 6), (0, 7), (0, 8), (0, 9), (0, 10), (0, 11), (0, 12), (0, 13), (0, 14), (1, 15), (0, 16)] (by kernel_rfl) (by kernel_rfl) ?_
          refine AO.ro rfl rfl (gOn_none rfl) (RO.move rfl rfl) ?_
          refine AO.ro rfl rfl (gOn_none rfl) (RO.move rfl rfl) ?_
          refine AO.ro rfl rfl (gOn_none rfl) (RO.move rfl rfl) ?_
          refine AO.ro rfl rfl (gOn_none rfl) (RO.move rfl rfl) ?_
          refine AO.ro rfl rfl (gOn_none rfl) (RO.add rfl rfl rfl (by omega)) ?_
          refine AO.fact 67 rfl (fun ln71 => ?_)
          replace ln71 : y68.length * 8 ≤ 140737488355328 := ln71
          refine AO.ro rfl rfl (gOn_none rfl) (RO.sl_lh rfl Try.underlying26 ti3 rfl rfl rfl (by omega)) ?_
          refine AO.ro rfl rfl (gOn_none rfl) (RO.move rfl rfl) ?_
          refine AO.ro rfl rfl (gOn_none rfl) (RO.move rfl rfl) ?_
          refine AO.ro rfl rfl (gOn_none rfl) (RO.move rfl rfl) ?_
          refine AO.ro rfl rfl (gOn_none rfl) (RO.add rfl rfl rfl (by omega)) ?_
          refine AO.ro rfl rfl (gOn_none rfl) (RO.move rfl rfl) ?_
          refine AO.ro rfl rfl (gOn_none rfl) (RO.move rfl rfl) ?_
          refine AO.ro rfl rfl (gOn_none rfl) (RO.mul rfl rfl rfl (by omega)) ?_
          refine AO.ro rfl rfl (gOn_none rfl) (RO.add rfl rfl rfl (by omega)) ?_
          refine AO.ro rfl rfl (gOn_none rfl) (RO.sl_lh rfl Try.underlying26 ti3 rfl rfl rfl (by omega)) ?_
          refine AO.callA («as» := [.d (enc (cut y68 p (p + h) : (List Int))), .d (enc (cut y68 (p + h) (p + (2 * h)) : (List Int)))]) (gOn_none rfl) rfl rfl rfl rfl Try.call16 ⟨⟨_, rfl, rfl⟩, ⟨_, rfl, rfl⟩, rfl⟩ (words_ok (cut y68 p (p + h)) (cut y68 (p + h) (p + (2 * h)))) ?_
          rintro _ _ ⟨y72, rfl, rfl, c72⟩
          refine ⟨[], 1, .d (.lit (.bool y72)), [], rfl, trivial, rfl, ?_⟩
          refine AO.ro rfl rfl (gOn_none rfl) (RO.assign rfl rfl) ?_
          refine AO.nil ?_
          refine AW.seq ?_
          refine AW.region [0] rfl ?_
          refine AO.ro rfl rfl (gOn_none rfl) (RO.move rfl rfl) ?_
          refine AO.nil ?_
          refine AW.caseb 83 rfl (fun b73 => ?_) (fun b73 => ?_)
          ·
           first | replace b73 := of_decide_eq_true (c72.symm.trans b73) | (replace b73 := List.any_eq_true.1 (c72.symm.trans b73); simp only [decide_eq_true_eq] at b73) | skip
           refine AW.cond_t rfl ?_
           refine AW.seq ?_
           refine AW.region [0, 0, 0, 0, 0, 0, 0, 0, 0, 0, 0, 0, 0, 0, 0, 0] rfl ?_
           refine AO.ro rfl rfl (gOn_none rfl) (RO.move rfl rfl) ?_
           refine AO.split rfl rfl (gOn_none rfl) (RO.eql rfl rfl rfl) (fun t74 => ?_) (fun t74 => ?_)
           ·
            refine AO.ro rfl rfl (gOn_none rfl) (RO.move rfl rfl) ?_
            refine AO.ro rfl rfl (gOn_some 86 true rfl rfl rfl rfl) (RO.move rfl rfl) ?_
            refine AO.ro rfl rfl (gOn_none rfl) (RO.pick_t rfl rfl rfl) ?_
            refine AO.ro rfl rfl (gOn_none rfl) (RO.move rfl rfl) ?_
            refine AO.caseb 89 rfl (fun b75 => ?_) (fun b75 => ?_)
            ·
             refine AO.ro rfl rfl (gOn_some 89 true rfl rfl rfl rfl) (RO.move rfl rfl) ?_
             refine AO.ro rfl rfl (gOn_some 89 true rfl rfl rfl rfl) (RO.move rfl rfl) ?_
             refine AO.split rfl rfl (gOn_some 89 true rfl rfl rfl rfl) (RO.eql rfl rfl rfl) (fun t76 => ?_) (fun t76 => ?_)
             ·
              refine AO.ro rfl rfl (gOn_none rfl) (RO.pick_t rfl rfl rfl) ?_
              refine AO.ro rfl rfl (gOn_none rfl) (RO.move rfl rfl) ?_
              refine AO.ro rfl rfl (gOn_some 94 true rfl rfl rfl rfl) (RO.move rfl rfl) ?_
              refine AO.ro rfl rfl (gOn_some 94 true rfl rfl rfl rfl) (RO.move rfl rfl) ?_
              refine AO.split rfl rfl (gOn_some 94 true rfl rfl rfl rfl) (RO.eql rfl rfl rfl) (fun t77 => ?_) (fun t77 => ?_)
              ·
               refine AO.ro rfl rfl (gOn_none rfl) (RO.pick_t rfl rfl rfl) ?_
               refine AO.ro rfl rfl (gOn_none rfl) (RO.assign rfl rfl) ?_
               refine AO.nil ?_
               refine AW.ret ?_
               refine ⟨[], [.d (.lit (.bool true))], [], rfl, ⟨⟨_, rfl, .inl rfl⟩, rfl⟩, trivial, ?_⟩
               refine ⟨true, rfl, rfl, ?_⟩
               have hs : sqAt (rowN m n.toNat) p h := by rw [← ‹_ = rowN m n.toNat›]; assumption
               have := spec_hit c1 g0.2 (by omega) (by omega) hs k2
               first | rfl | (exfalso; simp_all; done) | (exfalso; omega) | (simp_all; omega)
              ·
               refine AO.ro rfl rfl (gOn_none rfl) (RO.pick_t rfl rfl rfl) ?_
               refine AO.ro rfl rfl (gOn_none rfl) (RO.assign rfl rfl) ?_
               refine AO.nil ?_
               refine AW.ret ?_
               refine ⟨[], [.d (.lit (.bool false))], [], rfl, ⟨⟨_, rfl, .inl rfl⟩, rfl⟩, trivial, ?_⟩
               refine ⟨false, rfl, rfl, ?_⟩
               have hs : sqAt (rowN m n.toNat) p h := by rw [← ‹_ = rowN m n.toNat›]; assumption
               have := spec_hit c1 g0.2 (by omega) (by omega) hs k2
               first | rfl | (exfalso; simp_all; done) | (exfalso; omega) | (simp_all; omega)
             ·
              refine AO.ro rfl rfl (gOn_none rfl) (RO.pick_t rfl rfl rfl) ?_
              refine AO.ro rfl rfl (gOn_none rfl) (RO.move rfl rfl) ?_
              refine AO.skip rfl rfl (gOn_some 94 false rfl rfl rfl rfl) ?_
              refine AO.skip rfl rfl (gOn_some 94 false rfl rfl rfl rfl) ?_
              refine AO.skip rfl rfl (gOn_some 94 false rfl rfl rfl rfl) ?_
              refine AO.ro rfl rfl (gOn_none rfl) (RO.pick_f rfl rfl rfl) ?_
              refine AO.ro rfl rfl (gOn_none rfl) (RO.assign rfl rfl) ?_
              refine AO.nil ?_
              refine AW.ret ?_
              refine ⟨[], [.d (.lit (.bool false))], [], rfl, ⟨⟨_, rfl, .inl rfl⟩, rfl⟩, trivial, ?_⟩
              refine ⟨false, rfl, rfl, ?_⟩
              have hs : sqAt (rowN m n.toNat) p h := by rw [← ‹_ = rowN m n.toNat›]; assumption
              have := spec_hit c1 g0.2 (by omega) (by omega) hs k2
              first | rfl | (exfalso; simp_all; done) | (exfalso; omega) | (simp_all; omega)
            ·
             refine AO.skip rfl rfl (gOn_some 89 false rfl rfl rfl rfl) ?_
             refine AO.skip rfl rfl (gOn_some 89 false rfl rfl rfl rfl) ?_
             refine AO.skip rfl rfl (gOn_some 89 false rfl rfl rfl rfl) ?_
             refine AO.ro rfl rfl (gOn_none rfl) (RO.pick_f rfl rfl rfl) ?_
             refine AO.ro rfl rfl (gOn_none rfl) (RO.move rfl rfl) ?_
             refine AO.skip rfl rfl (gOn_some 94 false rfl rfl rfl rfl) ?_
             refine AO.skip rfl rfl (gOn_some 94 false rfl rfl rfl rfl) ?_
             refine AO.skip rfl rfl (gOn_some 94 false rfl rfl rfl rfl) ?_
             refine AO.ro rfl rfl (gOn_none rfl) (RO.pick_f rfl rfl rfl) ?_
             refine AO.ro rfl rfl (gOn_none rfl) (RO.assign rfl rfl) ?_
             refine AO.nil ?_
             refine AW.ret ?_
             refine ⟨[], [.d (.lit (.bool false))], [], rfl, ⟨⟨_, rfl, .inl rfl⟩, rfl⟩, trivial, ?_⟩
             refine ⟨false, rfl, rfl, ?_⟩
             have hs : sqAt (rowN m n.toNat) p h := by rw [← ‹_ = rowN m n.toNat›]; assumption
             have := spec_hit c1 g0.2 (by omega) (by omega) hs k2
             first | rfl | (exfalso; simp_all; done) | (exfalso; omega) | (simp_all; omega)
           ·
            refine AO.ro rfl rfl (gOn_none rfl) (RO.move rfl rfl) ?_
            refine AO.skip rfl rfl (gOn_some 86 false rfl rfl rfl rfl) ?_
            refine AO.ro rfl rfl (gOn_none rfl) (RO.pick_f rfl rfl rfl) ?_
            refine AO.ro rfl rfl (gOn_none rfl) (RO.move rfl rfl) ?_
            refine AO.skip rfl rfl (gOn_some 89 false rfl rfl rfl rfl) ?_
            refine AO.skip rfl rfl (gOn_some 89 false rfl rfl rfl rfl) ?_
            refine AO.skip rfl rfl (gOn_some 89 false rfl rfl rfl rfl) ?_
            refine AO.ro rfl rfl (gOn_none rfl) (RO.pick_f rfl rfl rfl) ?_
            refine AO.ro rfl rfl (gOn_none rfl) (RO.move rfl rfl) ?_
            refine AO.skip rfl rfl (gOn_some 94 false rfl rfl rfl rfl) ?_
            refine AO.skip rfl rfl (gOn_some 94 false rfl rfl rfl rfl) ?_
            refine AO.skip rfl rfl (gOn_some 94 false rfl rfl rfl rfl) ?_
            refine AO.ro rfl rfl (gOn_none rfl) (RO.pick_f rfl rfl rfl) ?_
            refine AO.ro rfl rfl (gOn_none rfl) (RO.assign rfl rfl) ?_
            refine AO.nil ?_
            refine AW.ret ?_
            refine ⟨[], [.d (.lit (.bool false))], [], rfl, ⟨⟨_, rfl, .inl rfl⟩, rfl⟩, trivial, ?_⟩
            refine ⟨false, rfl, rfl, ?_⟩
            have hs : sqAt (rowN m n.toNat) p h := by rw [← ‹_ = rowN m n.toNat›]; assumption
            have := spec_hit c1 g0.2 (by omega) (by omega) hs k2
            first | rfl | (exfalso; simp_all; done) | (exfalso; omega) | (simp_all; omega)
          ·
           first | replace b73 := of_decide_eq_false (c72.symm.trans b73) | (replace b73 := List.any_eq_false.1 (c72.symm.trans b73); simp only [decide_eq_true_eq] at b73) | skip
           refine AW.cond_f rfl ?_
           refine AW.skip ?_
           refine AW.region [0, 0, 0] rfl ?_
           refine AO.ro rfl rfl (gOn_none rfl) (RO.move rfl rfl) ?_
           refine AO.ro rfl rfl (gOn_none rfl) (RO.add rfl rfl rfl (by omega)) ?_
           refine AO.ro rfl rfl (gOn_none rfl) (RO.assign rfl rfl) ?_
           refine AO.nil ?_
           refine ⟨h + 1, [], ?_, ?_, ⟨rfl, rfl, ⟨⟨_, rfl, .inl rfl⟩, ⟨⟨_, rfl, .inl rfl⟩, ⟨⟨_, rfl, .inl rfl⟩, ⟨⟨_, rfl, .inl rfl⟩, ⟨⟨_, rfl, .inl rfl⟩, ⟨⟨_, rfl, .inl rfl⟩, ⟨⟨_, rfl, .inl rfl⟩, ⟨⟨_, rfl, .inl rfl⟩, ⟨⟨_, rfl, .inl rfl⟩, trivial⟩⟩⟩⟩⟩⟩⟩⟩⟩, trivial⟩⟩
           · try dsimp only
             exact ⟨by omega, nosq_step k2 (by rw [← ‹_ = rowN m n.toNat›]; assumption)⟩
           · try dsimp only
             first | omega | (simp; done) | (simp_all; done) | (simp_all; omega)
         ·
          refine AO.nil ?_
          refine AW.cond_f rfl ?_
          refine AW.exit ?_
          refine AW.region [0, 0, 0] rfl ?_
          refine AO.ro rfl rfl (gOn_none rfl) (RO.move rfl rfl) ?_
          refine AO.ro rfl rfl (gOn_none rfl) (RO.add rfl rfl rfl (by omega)) ?_
          refine AO.ro rfl rfl (gOn_none rfl) (RO.assign rfl rfl) ?_
          refine AO.nil ?_
          refine ⟨p + 1, [], ?_, ?_, ⟨rfl, rfl, ⟨⟨_, rfl, .inl rfl⟩, ⟨⟨_, rfl, .inl rfl⟩, ⟨⟨_, rfl, .inl rfl⟩, ⟨⟨_, rfl, .inl rfl⟩, ⟨⟨_, rfl, .inl rfl⟩, ⟨⟨_, rfl, .inl rfl⟩, ⟨⟨_, rfl, .inl rfl⟩, ⟨⟨_, rfl, .inl rfl⟩, trivial⟩⟩⟩⟩⟩⟩⟩⟩, trivial⟩⟩
          · try dsimp only
            exact ⟨by omega, nosq_next k2 (by omega), g0⟩
          · try dsimp only
            first | omega | (simp; done) | (simp_all; done) | (simp_all; omega)
      ·
       refine AO.nil ?_
       refine AW.cond_f rfl ?_
       refine AW.exit ?_
       refine AW.seq ?_
       refine AW.region [0, 0, 0, 0, 0, 0, 0, 0, 0, 0, 0, 0, 0, 0, 0] rfl ?_
       refine AO.ro rfl rfl (gOn_none rfl) (RO.move rfl rfl) ?_
       refine AO.split rfl rfl (gOn_none rfl) (RO.eql rfl rfl rfl) (fun t78 => ?_) (fun t78 => ?_)
       ·
        refine AO.ro rfl rfl (gOn_none rfl) (RO.move rfl rfl) ?_
        refine AO.ro rfl rfl (gOn_some 101 true rfl rfl rfl rfl) (RO.move rfl rfl) ?_
        refine AO.caseb 102 rfl (fun b79 => ?_) (fun b79 => ?_)
        ·
         refine AO.ro rfl rfl (gOn_some 101 true rfl rfl rfl rfl) (RO.not rfl rfl) ?_
         refine AO.ro rfl rfl (gOn_none rfl) (RO.pick_t rfl rfl rfl) ?_
         refine AO.ro rfl rfl (gOn_none rfl) (RO.move rfl rfl) ?_
         refine AO.skip rfl rfl (gOn_some 105 false rfl rfl rfl rfl) ?_
         refine AO.skip rfl rfl (gOn_some 105 false rfl rfl rfl rfl) ?_
         refine AO.ro rfl rfl (gOn_none rfl) (RO.pick_f rfl rfl rfl) ?_
         refine AO.ro rfl rfl (gOn_none rfl) (RO.move rfl rfl) ?_
         refine AO.skip rfl rfl (gOn_some 109 false rfl rfl rfl rfl) ?_
         refine AO.skip rfl rfl (gOn_some 109 false rfl rfl rfl rfl) ?_
         refine AO.ro rfl rfl (gOn_none rfl) (RO.pick_f rfl rfl rfl) ?_
         refine AO.ro rfl rfl (gOn_none rfl) (RO.assign rfl rfl) ?_
         refine AO.nil ?_
         refine AW.ret ?_
         refine ⟨[], [.d (.lit (.bool false))], [], rfl, ⟨⟨_, rfl, .inl rfl⟩, rfl⟩, trivial, ?_⟩
         refine ⟨false, rfl, rfl, ?_⟩
         have hp : p = n := by omega
         have := spec_miss c1 g0.2 (by omega) (hp ▸ g2)
         first | rfl | (exfalso; simp_all; done) | (exfalso; omega) | (simp_all; omega)
        ·
         refine AO.ro rfl rfl (gOn_some 101 true rfl rfl rfl rfl) (RO.not rfl rfl) ?_
         refine AO.ro rfl rfl (gOn_none rfl) (RO.pick_t rfl rfl rfl) ?_
         refine AO.ro rfl rfl (gOn_none rfl) (RO.move rfl rfl) ?_
         refine AO.ro rfl rfl (gOn_some 105 true rfl rfl rfl rfl) (RO.move rfl rfl) ?_
         refine AO.split rfl rfl (gOn_some 105 true rfl rfl rfl rfl) (RO.eql rfl rfl rfl) (fun t80 => ?_) (fun t80 => ?_)
         ·
          refine AO.ro rfl rfl (gOn_none rfl) (RO.pick_t rfl rfl rfl) ?_
          refine AO.ro rfl rfl (gOn_none rfl) (RO.move rfl rfl) ?_
          refine AO.ro rfl rfl (gOn_some 109 true rfl rfl rfl rfl) (RO.move rfl rfl) ?_
          refine AO.split rfl rfl (gOn_some 109 true rfl rfl rfl rfl) (RO.eql rfl rfl rfl) (fun t81 => ?_) (fun t81 => ?_)
          ·
           refine AO.ro rfl rfl (gOn_none rfl) (RO.pick_t rfl rfl rfl) ?_
           refine AO.ro rfl rfl (gOn_none rfl) (RO.assign rfl rfl) ?_
           refine AO.nil ?_
           refine AW.ret ?_
           refine ⟨[], [.d (.lit (.bool true))], [], rfl, ⟨⟨_, rfl, .inl rfl⟩, rfl⟩, trivial, ?_⟩
           refine ⟨true, rfl, rfl, ?_⟩
           have hp : p = n := by omega
           have := spec_miss c1 g0.2 (by omega) (hp ▸ g2)
           first | rfl | (exfalso; simp_all; done) | (exfalso; omega) | (simp_all; omega)
          ·
           refine AO.ro rfl rfl (gOn_none rfl) (RO.pick_t rfl rfl rfl) ?_
           refine AO.ro rfl rfl (gOn_none rfl) (RO.assign rfl rfl) ?_
           refine AO.nil ?_
           refine AW.ret ?_
           refine ⟨[], [.d (.lit (.bool false))], [], rfl, ⟨⟨_, rfl, .inl rfl⟩, rfl⟩, trivial, ?_⟩
           refine ⟨false, rfl, rfl, ?_⟩
           have hp : p = n := by omega
           have := spec_miss c1 g0.2 (by omega) (hp ▸ g2)
           first | rfl | (exfalso; simp_all; done) | (exfalso; omega) | (simp_all; omega)
         ·
          refine AO.ro rfl rfl (gOn_none rfl) (RO.pick_t rfl rfl rfl) ?_
          refine AO.ro rfl rfl (gOn_none rfl) (RO.move rfl rfl) ?_
          refine AO.skip rfl rfl (gOn_some 109 false rfl rfl rfl rfl) ?_
          refine AO.skip rfl rfl (gOn_some 109 false rfl rfl rfl rfl) ?_
          refine AO.ro rfl rfl (gOn_none rfl) (RO.pick_f rfl rfl rfl) ?_
          refine AO.ro rfl rfl (gOn_none rfl) (RO.assign rfl rfl) ?_
          refine AO.nil ?_
          refine AW.ret ?_
          refine ⟨[], [.d (.lit (.bool false))], [], rfl, ⟨⟨_, rfl, .inl rfl⟩, rfl⟩, trivial, ?_⟩
          refine ⟨false, rfl, rfl, ?_⟩
          have hp : p = n := by omega
          have := spec_miss c1 g0.2 (by omega) (hp ▸ g2)
          first | rfl | (exfalso; simp_all; done) | (exfalso; omega) | (simp_all; omega)
       ·
        refine AO.ro rfl rfl (gOn_none rfl) (RO.move rfl rfl) ?_
        refine AO.skip rfl rfl (gOn_some 101 false rfl rfl rfl rfl) ?_
        refine AO.skip rfl rfl (gOn_some 101 false rfl rfl rfl rfl) ?_
        refine AO.ro rfl rfl (gOn_none rfl) (RO.pick_f rfl rfl rfl) ?_
        refine AO.ro rfl rfl (gOn_none rfl) (RO.move rfl rfl) ?_
        refine AO.skip rfl rfl (gOn_some 105 false rfl rfl rfl rfl) ?_
        refine AO.skip rfl rfl (gOn_some 105 false rfl rfl rfl rfl) ?_
        refine AO.ro rfl rfl (gOn_none rfl) (RO.pick_f rfl rfl rfl) ?_
        refine AO.ro rfl rfl (gOn_none rfl) (RO.move rfl rfl) ?_
        refine AO.skip rfl rfl (gOn_some 109 false rfl rfl rfl rfl) ?_
        refine AO.skip rfl rfl (gOn_some 109 false rfl rfl rfl rfl) ?_
        refine AO.ro rfl rfl (gOn_none rfl) (RO.pick_f rfl rfl rfl) ?_
        refine AO.ro rfl rfl (gOn_none rfl) (RO.assign rfl rfl) ?_
        refine AO.nil ?_
        refine AW.ret ?_
        refine ⟨[], [.d (.lit (.bool false))], [], rfl, ⟨⟨_, rfl, .inl rfl⟩, rfl⟩, trivial, ?_⟩
        refine ⟨false, rfl, rfl, ?_⟩
        have hp : p = n := by omega
        have := spec_miss c1 g0.2 (by omega) (hp ▸ g2)
        first | rfl | (exfalso; simp_all; done) | (exfalso; omega) | (simp_all; omega)

end Go.Proofs.Ytgjpkfbaobanlaa
